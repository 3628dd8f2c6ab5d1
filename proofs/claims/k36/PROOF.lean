import PyProof.Rows.All
import Wide.All
import OpenK.AllK
import Wide.FinOn
import HandS.ForMost
import HandS.ForExc
import KE.KDictKeyed
import HandS.TupAny
import HandS.TupMul
import HandS.Deep
import HandS.IsInst
import HandS.Wide
import HandS.Dict
import PyProof.DictRoadsH
import PyProof.Rows.TupTab
import HandS.Flow
import HandS.Style
import HandS.Zip
import HandS.Rev
import KE.GoesMore
import KE.GoesEnum
import KE.KDictWalk
import HandS.Iter
import HandS.Set
import HandS.SetFor
import HandS.More
import HandS.SortInts
import KE.KDictSum
import KE.KDictList
import HandS.Conv
import HandS.HeadHook2
import HandS.TryOnly
import HandS.ExcOwn
import HandS.WordsExc
import HandS.HeadHook1
import HandS.Defaults
import HandS.Head0
import HandS.Head1
import HandS.Head2
import HandS.HeadEnd
import Lean
import PySem.Challenge.RW_worthstopping_k36_tosses_that_test_two_c
set_option Elab.async false
set_option linter.all false
set_option autoImplicit false
set_option maxRecDepth 100000
set_option maxHeartbeats 0
/-! A small evaluator over trees for the part of Python that these programs use: lists and dicts are values, each name that holds one says whether it is the only one that does (own), so that a change in place is a change of the name's value. -/
namespace Py
open PySem

abbrev Cs := List Nat

inductive W where
  | non | bl (b : Bool) | int (i : Int) | str (s : Cs) | tup (xs : List W) | lst (xs : List W) | dct (kvs : List (W × W)) | st (xs : List W)

mutual
def eqW : W → W → Bool
  | .non, .non => true
  | .bl a, .bl b => a == b
  | .bl a, .int j => (if a then 1 else 0) == j
  | .int i, .bl b => i == (if b then 1 else 0)
  | .int i, .int j => i == j
  | .str x, .str y => x == y
  | .lst xs, .lst ys => eqWs xs ys
  | .tup xs, .tup ys => eqWs xs ys
  | _, _ => false
def eqWs : List W → List W → Bool
  | [], [] => true
  | x :: xs, y :: ys => eqW x y && eqWs xs ys
  | _, _ => false
end
mutual
/-- how deep; of what == is not served: too deep -/
def dep : W → Nat
  | .lst xs => deps xs + 1
  | .tup xs => deps xs + 1
  | .dct _ => 1000
  | .st _ => 1000
  | _ => 0
def deps : List W → Nat
  | [] => 0
  | x :: xs => max (dep x) (deps xs)
end

/-- how a name holds its value: shared (never changed again), alone, alone and walked, a parameter that the caller sees changed, such a one walked -/
inductive Fl where
  | sh | own | ownL | io | ioL
  deriving DecidableEq

abbrev Env := List (Option (W × Fl))

inductive Out (α : Type) where
  | ok (a : α) (ρ : Env) | ex (x : Nat) (p : W) (ρ : Env) | bad

def Out.bind {α β : Type} : Out α → (α → Env → Out β) → Out β
  | .ok a ρ, f => f a ρ
  | .ex x p ρ, _ => .ex x p ρ
  | .bad, _ => .bad
@[simp] theorem Out.bind_ok {α β : Type} (a : α) (ρ : Env) (f : α → Env → Out β) : (Out.ok a ρ).bind f = f a ρ := rfl
@[simp] theorem Out.bind_ex {α β : Type} (x : Nat) (p : W) (ρ : Env) (f : α → Env → Out β) : (Out.ex x p ρ).bind f = .ex x p ρ := rfl
@[simp] theorem Out.bind_bad {α β : Type} (f : α → Env → Out β) : (Out.bad : Out α).bind f = .bad := rfl

inductive Arg where
  | val (w : W) (fr : Bool) | slot (i : Nat)

/-- what a call of a def of the text gives: its value (a new list of its own: fr), the parameters that it changed -/
inductive CO where
  | ret (w : W) (fr : Bool) (ios : List W) | ex (x : Nat) (p : W) (ios : List W) | bad

inductive BOp | add | sub | mul | fdv | md
  deriving DecidableEq
inductive COp | lt | le | gt | ge | eq | ne | is | isnt | inn | nin
  deriving DecidableEq
inductive Ty | int | bool | str | tuple | list | dict
  deriving DecidableEq
inductive IK | seq | rng | enu | zip | items | vals | rev
  deriving DecidableEq
inductive BI | len | abs | int | str | bool | min | max | sum | all | any | sorted | tuple | list | set | dict | lrng
  deriving DecidableEq
inductive MI | index | count | get | join | split | partition
  deriving DecidableEq
inductive MK | append | extend | insert | pop | pop0 | remove
  deriving DecidableEq

inductive Pt where
  | n (i : Nat) | t (l : Pt) | nil | cons (a b : Pt)

inductive E where
  | bad
  | var (i : Nat) | con (w : W)
  | op (o : BOp) (a b : E) | neg (a : E)
  | cmp (o : COp) (a b : E) | cmp2 (o p : COp) (a b c : E)
  | and (a b : E) | or (a b : E) | not (a : E) | ite (c a b : E)
  | tup (es : E) | lst (es : E) | dsp (es : E)
  | ix (a b : E) | slc (a : E) (l h : Bool) (lo hi : E)
  | call (f : Nat) (m : List Bool) (es : E) | bi (f : BI) (es : E) | mth (m : MI) (o : E) (es : E)
  | isi (a : E) (t : Ty)
  | fst (es : E)
  | lc (elt : E) (p : Pt) (t : E) (k : IK) (es : E) (own : List Nat)
  | lc2 (elt : E) (p : Pt) (t : E) (k : IK) (es : E) (p1 : Pt) (t1 : E) (k1 : IK) (es1 : E) (own : List Nat)
  | nil | cons (a b : E)

inductive S where
  | bad | nil | seq (s r : S)
  | asn (i : Nat) (e : E) | asp (p : Pt) (e : E) | par (is : List Nat) (es : E)
  | six (i : Nat) (k e : E)
  | aug (i : Nat) (o : BOp) (e : E)
  | exp (e : E) | mut (m : MK) (i : Nat) (es : E) | popi (i j : Nat) (es : E)
  | ret (e : E) | retN
  | ite (c : E) (a b : S)
  | for_ (p : Pt) (k : IK) (es : E) (b : S)
  | whl (c : E) (b : S)
  | pass | brk | cnt
  | rais (x : Nat) (e : E)
  | try_ (b : S) (x : Nat) (as : Option Nat) (h : S)

/-! ### values -/
def szL : Nat := 16777216
/-- the most that a product's factors may have, in bits -/
def bitL : Nat := 134217728
def bits (i : Int) : Nat := if i == 0 then 0 else i.natAbs.log2 + 1

def truth : W → Option Bool
  | .non => some false
  | .bl b => some b
  | .int i => some (i != 0)
  | .str s => some (!s.isEmpty)
  | .tup xs => some (!xs.isEmpty)
  | .lst xs => some (!xs.isEmpty)
  | .dct _ => none
  | .st xs => some (!xs.isEmpty)

def rep {α : Type} (xs : List α) (k : Nat) : List α := (List.replicate k xs).flatten

def opW : BOp → W → W → Option (W × Bool)
  | .add, .int i, .int j => some (.int (i + j), false)
  | .add, .str x, .str y => if x.length + y.length ≤ szL then some (.str (x ++ y), false) else none
  | .add, .tup x, .tup y => if x.length + y.length ≤ szL then some (.tup (x ++ y), false) else none
  | .add, .lst x, .lst y => if x.length + y.length ≤ szL then some (.lst (x ++ y), true) else none
  | .sub, .int i, .int j => some (.int (i - j), false)
  | .mul, .int i, .int j => if bits i + bits j ≤ bitL then some (.int (i * j), false) else none
  | .mul, .tup x, .int k => if (2 ≤ k ∧ k ≤ 1000) ∧ x.length ≤ 1000 ∧ x ≠ [] then some (.tup (rep x k.toNat), false) else none
  | .mul, .lst x, .int k => if x.length * k.toNat ≤ szL ∧ -1000 ≤ k ∧ k ≤ szL then some (.lst (rep x k.toNat), true) else none
  | .fdv, .int i, .int j => if j ≠ 0 ∧ Builtin.divisionGoesByPylong i j = false then some (.int (i.fdiv j), false) else none
  | .md, .int i, .int j => if j = 0 then none else some (.int (i.fmod j), false)
  | _, _, _ => none

def memW (x : W) (xs : List W) : Bool := xs.any fun y => eqW y x

/-- s within t, for texts -/
def subT (s t : Cs) : Bool := match t with
  | [] => s.isEmpty
  | _ :: r => s.isPrefixOf t || subT s r

def lkW (k : W) : List (W × W) → Option W
  | [] => none
  | (a, v) :: r => if eqW a k then some v else lkW k r
def ptW (k v : W) : List (W × W) → List (W × W)
  | [] => [(k, v)]
  | (a, u) :: r => if eqW a k then (a, v) :: r else (a, u) :: ptW k v r

mutual
/-- may stand in a key -/
def hsb : W → Bool
  | .non => true
  | .bl _ => true
  | .int _ => true
  | .str _ => true
  | .tup xs => hsbs xs
  | .lst _ => false
  | .dct _ => false
  | .st _ => false
def hsbs : List W → Bool
  | [] => true
  | x :: xs => hsb x && hsbs xs
end
def isT : W → Bool
  | .tup _ => true
  | _ => false
/-- a key that the dicts here may have: a tuple -/
def hkW (w : W) : Bool := isT w && (hsb w && decide (dep w ≤ 8))

def isI : W → Bool
  | .int _ => true
  | _ => false
/-- a dict of tuples, of numbers -/
def allT : List (W × W) → Bool
  | [] => true
  | (k, _) :: r => isT k && allT r
def allI : List (W × W) → Bool
  | [] => true
  | (k, _) :: r => isI k && allI r
/-- a key that this dict may have -/
def kOk (k : W) (kvs : List (W × W)) : Bool := (hkW k && allT kvs) || (isI k && allI kvs)

/-- served by == -/
def eqOk (x y : W) : Bool := decide (min (dep x) (dep y) ≤ 64 ∧ dep x < 1000 ∧ dep y < 1000)
def isN : W → Bool
  | .non => true
  | _ => false
def cmpW : COp → W → W → Option Bool
  | .lt, .int i, .int j => some (decide (i < j))
  | .le, .int i, .int j => some (decide (i ≤ j))
  | .gt, .int i, .int j => some (decide (j < i))
  | .ge, .int i, .int j => some (decide (j ≤ i))
  | .eq, x, y => if eqOk x y then some (eqW x y) else none
  | .ne, x, y => if eqOk x y then some (!eqW x y) else none
  | .is, x, .non => some (isN x)
  | .isnt, x, .non => some (!isN x)
  | .inn, x, .tup ys => if dep x = 0 ∧ deps ys = 0 then some (memW x ys) else none
  | .nin, x, .tup ys => if dep x = 0 ∧ deps ys = 0 then some (!memW x ys) else none
  | .inn, x, .lst ys => if dep x ≤ 60 ∧ deps ys ≤ 60 then some (memW x ys) else none
  | .nin, x, .lst ys => if dep x ≤ 60 ∧ deps ys ≤ 60 then some (!memW x ys) else none
  | .inn, x, .dct kvs => if kOk x kvs = true then some (lkW x kvs).isSome else none
  | .nin, x, .dct kvs => if kOk x kvs = true then some (!(lkW x kvs).isSome) else none
  | _, _, _ => none

open L2 (atI ixN)
def ixW : W → W → Option (W × Bool)
  | .lst xs, .int i => (atI xs i).map fun w => (w, false)
  | .tup xs, .int i => (atI xs i).map fun w => (w, false)
  | .str s, .int i => (atI s i).map fun c => (.str [c], false)
  | .dct kvs, k => if kOk k kvs = true then (lkW k kvs).map fun w => (w, false) else none
  | _, _ => none

def cut {α : Type} (xs : List α) (lo hi : Option Int) : List α := (xs.drop (HT.sIx xs.length 0 lo)).take (HT.sIx xs.length xs.length hi - HT.sIx xs.length 0 lo)
def slc1 (lo hi : Option Int) : W → Option (W × Bool)
  | .lst xs => some (.lst (cut xs lo hi), true)
  | .tup xs => some (.tup (cut xs lo hi), false)
  | .str s => some (.str (cut s lo hi), false)
  | _ => none
def digs (n : Nat) : Cs := (Nat.repr n).toList.map Char.toNat
def strI (i : Int) : Cs := if i < 0 then 45 :: digs i.natAbs else digs i.natAbs

def sumI : List W → Option Int
  | [] => some 0
  | .int i :: r => (sumI r).map (i + ·)
  | _ => none
def asInts : List W → Option (List Int)
  | [] => some []
  | .int i :: r => (asInts r).map (i :: ·)
  | _ => none
def asBools : List W → Option (List Bool)
  | [] => some []
  | .bl i :: r => (asBools r).map (i :: ·)
  | _ => none
def minI : Int → List Int → Int
  | a, [] => a
  | a, b :: r => minI (if b < a then b else a) r
def maxI : Int → List Int → Int
  | a, [] => a
  | a, b :: r => maxI (if a < b then b else a) r
def leastL (ws : List W) : Option Int := match asInts ws with
  | some (a :: r) => some (minI a r)
  | _ => none
def mostL (ws : List W) : Option Int := match asInts ws with
  | some (a :: r) => some (maxI a r)
  | _ => none
def insI (a : Int) : List Int → List Int
  | [] => [a]
  | b :: r => if a ≤ b then a :: b :: r else b :: insI a r
def srtI : List Int → List Int
  | [] => []
  | a :: r => insI a (srtI r)

/-- .. each once -/
def insU (a : Int) : List Int → List Int
  | [] => [a]
  | b :: r => if a < b then a :: b :: r else if a = b then b :: r else b :: insU a r
def srtU : List Int → List Int
  | [] => []
  | a :: r => insU a (srtU r)
def rngL : Nat → Int → List W
  | 0, _ => []
  | n + 1, a => .int a :: rngL n (a + 1)
def rngD : Nat → Int → List W
  | 0, _ => []
  | n + 1, a => .int a :: rngD n (a - 1)
def okR (i : Int) : Bool := decide (-(2 ^ 62) ≤ i ∧ i < 2 ^ 62)
/-- the items of range -/
def rngW : List W → Option (List W)
  | [.int j] => if okR j = true ∧ j ≤ szL then some (rngL j.toNat 0) else none
  | [.int i, .int j] => if (okR i && okR j) = true ∧ j - i ≤ szL then some (rngL (j - i).toNat i) else none
  | [.int i, .int j, .int k] => if (k = -1 ∧ i - j ≤ szL) ∧ (okR i && okR j) = true then some (rngD (i - j).toNat i) else none
  | _ => none

/-- the number that a text of digits is -/
def numN (s : Cs) : Nat := s.foldl (fun a c => a * 10 + (c - 48)) 0
def isDig (c : Nat) : Bool := decide (48 ≤ c ∧ c ≤ 57)
/-- int of a text: digits alone, a minus ahead -/
def numT : Cs → Option Int
  | 45 :: s => if (s.all isDig && !s.isEmpty) = true ∧ s.length ≤ 600 then some (-(numN s : Int)) else none
  | s => if (s.all isDig && !s.isEmpty) = true ∧ s.length ≤ 600 then some (numN s) else none

def seqW : W → Option (List W)
  | .lst xs => some xs
  | .tup xs => some xs
  | _ => none

def biW : BI → List W → Option (W × Bool)
  | .len, [.lst xs] => some (.int xs.length, false)
  | .len, [.tup xs] => some (.int xs.length, false)
  | .len, [.str xs] => some (.int xs.length, false)
  | .abs, [.int i] => some (.int (if i < 0 then -i else i), false)
  | .int, [.int i] => some (.int i, false)
  | .bool, [.int i] => some (.bl (i != 0), false)
  | .bool, [.bl i] => some (.bl i, false)
  | .min, [.int i, .int j] => some (.int (if j < i then j else i), false)
  | .min, [.lst xs] => (leastL xs).map fun i => (.int i, false)
  | .min, [.tup xs] => (leastL xs).map fun i => (.int i, false)
  | .max, [.int i, .int j] => some (.int (if j > i then j else i), false)
  | .max, [.lst xs] => (mostL xs).map fun i => (.int i, false)
  | .lrng, [.int j] => (rngW [.int j]).map fun its => (.lst its, true)
  | .lrng, [.int i, .int j] => (rngW [.int i, .int j]).map fun its => (.lst its, true)
  | .sum, [.lst xs] => (sumI xs).map fun i => (.int i, false)
  | .all, [.lst xs] => (asBools xs).map fun i => (.bl (i.all id), false)
  | .any, [.lst xs] => (asBools xs).map fun i => (.bl (i.any id), false)
  | .tuple, [.lst xs] => some (.tup xs, false)
  | .sorted, [.lst xs] => (asInts xs).map fun i => (.lst ((srtI i).map .int), true)
  | .sorted, [.dct kvs] => if kvs.length < 64 then (asInts (kvs.map (·.1))).map fun i => (.lst ((srtI i).map .int), true) else none
  | .set, [.lst xs] => if xs.length < 60 then (asInts xs).map fun i => (.lst ((srtU i).map .int), true) else none
  | .set, [.tup xs] => if xs.length < 60 then (asInts xs).map fun i => (.lst ((srtU i).map .int), true) else none
  | .tuple, [.tup xs] => some (.tup xs, false)
  | .list, [.lst xs] => some (.lst xs, true)
  | .list, [.tup xs] => some (.lst xs, true)
  | _, _ => none

/-- the place of the first that equals -/
def idxW (x : W) : List W → Option Nat
  | [] => none
  | y :: r => if eqW y x then some 0 else (idxW x r).map (· + 1)

def partT (sep : Nat) : Cs → Cs × Bool × Cs
  | [] => ([], false, [])
  | c :: r => if c = sep then ([], true, r) else let q := partT sep r; (c :: q.1, q.2.1, q.2.2)

/-- what is never shared -/
def isD : W → Bool
  | .dct _ => true
  | .st _ => true
  | _ => false
/-- what may be changed: a list too -/
def isC : W → Bool
  | .lst _ => true
  | w => isD w
def mthW : MI → W → List W → Option (W × Bool)
  | .get, .dct kvs, [k] => if kOk k kvs = true then some ((lkW k kvs).getD .non, false) else none
  | .get, .dct kvs, [k, d] => if kOk k kvs = true ∧ isC d = false then some ((lkW k kvs).getD d, false) else none
  | .index, .lst xs, [y] => if dep y ≤ 64 ∧ deps xs ≤ 60 then (idxW y xs).map fun (n : Nat) => (W.int (n : Int), false) else none
  | _, _, _ => none

/-- what has the method -/
def mTy : MI → W → Option Unit
  | .get, .dct _ => some ()
  | .index, .lst _ => some ()
  | _, _ => none

def isTy : Ty → W → Bool
  | .int, .int _ => true
  | .int, .bl _ => true
  | .bool, .bl _ => true
  | .str, .str _ => true
  | .tuple, .tup _ => true
  | .list, .lst _ => true
  | .dict, .dct _ => true
  | _, _ => false

/-- one part of an f-string -/
def fmtW : W → Option Cs
  | .str s => some s
  | .int i => if bits i < 1900 then some (strI i) else none
  | _ => none

/-- what a loop walks -/
def enuL : Nat → List W → List W
  | _, [] => []
  | n, w :: r => .tup [.int n, w] :: enuL (n + 1) r
def zip2 : List W → List W → List W
  | x :: xs, y :: ys => .tup [x, y] :: zip2 xs ys
  | _, _ => []
def zip3 : List W → List W → List W → List W
  | x :: xs, y :: ys, z :: zs => .tup [x, y, z] :: zip3 xs ys zs
  | _, _, _ => []
def itW : IK → List W → Option (List W)
  | .seq, [.lst xs] => some xs
  | .seq, [.tup xs] => some xs
  | .rng, ws => rngW ws
  | .enu, [.lst xs] => some (enuL 0 xs)
  | .enu, [.tup xs] => some (enuL 0 xs)
  | .zip, [.lst xs, .lst ys] => some (zip2 xs ys)
  | .zip, [.tup xs, .tup ys] => some (zip2 xs ys)
  | .rev, [.lst xs] => some xs.reverse
  | .rev, [.tup xs] => some xs.reverse
  | .seq, [.dct kvs] => some (kvs.map (·.1))
  | .items, [.dct kvs] => some (kvs.map fun p => .tup [p.1, p.2])
  | .vals, [.dct kvs] => some (kvs.map (·.2))
  | _, _ => none

def mutW : MK → W → List W → Option W
  | .append, .lst xs, [w] => if xs.length < szL then some (.lst (xs ++ [w])) else none
  | .extend, .lst xs, [.lst ys] => if xs.length + ys.length ≤ szL then some (.lst (xs ++ ys)) else none
  | .insert, .lst xs, [.int k, w] => if xs.length < szL ∧ 0 ≤ k ∧ k ≤ xs.length then some (.lst (xs.take k.toNat ++ w :: xs.drop k.toNat)) else none
  | .pop, .lst xs, [] => if xs.isEmpty then none else some (.lst xs.dropLast)
  | .pop0, .lst (_ :: xs), [] => some (.lst xs)
  | _, _, _ => none

/-- x[k] = v -/
def putW : W → W → W → Option W
  | .lst xs, .int i, v => (ixN xs.length i).map fun j => .lst (xs.set j v)
  | .dct kvs, k, v => if kOk k kvs = true ∧ kvs.length < szL then some (.dct (ptW k v kvs)) else none
  | _, _, _ => none

/-! ### names -/
def wOf (ρ : Env) (i : Nat) : Option (W × Fl) := (ρ[i]?).join
def res (ρ : Env) : Arg → Option W
  | .val w _ => some w
  | .slot i => (wOf ρ i).map (·.1)
def ress (ρ : Env) : List Arg → Option (List W)
  | [] => some []
  | a :: r => match res ρ a, ress ρ r with
    | some w, some ws => some (w :: ws)
    | _, _ => none
/-- an argument becomes a value that is never changed again -/
def shr (ρ : Env) : Arg → Option (W × Env)
  | .val w _ => if isD w then none else some (w, ρ)
  | .slot i => match wOf ρ i with
    | some (w, .sh) => some (w, ρ)
    | some (w, .own) => if isD w then none else some (w, ρ.set i (some (w, .sh)))
    | some (w, .ownL) => if isD w then none else some (w, ρ.set i (some (w, .sh)))
    | _ => none
def shrs (ρ : Env) : List Arg → Option (List W × Env)
  | [] => some ([], ρ)
  | a :: r => match shr ρ a with
    | some (w, ρ1) => match shrs ρ1 r with
      | some (ws, ρ2) => some (w :: ws, ρ2)
      | none => none
    | none => none

/-- a plain name is stored -/
def setN (ρ : Env) (i : Nat) (w : W) (f : Fl) : Option Env :=
  match ρ[i]? with
  | some (some (_, .io)) => none
  | some (some (_, .ioL)) => none
  | some _ => some (ρ.set i (some (w, f)))
  | none => none
def asP : Pt → W → Env → Option Env
  | .n i, w, ρ => setN ρ i w .sh
  | .t l, w, ρ => match w with
    | .tup xs => asP l (.tup xs) ρ
    | .lst xs => asP l (.tup xs) ρ
    | _ => none
  | .nil, w, ρ => match w with
    | .tup [] => some ρ
    | _ => none
  | .cons a b, w, ρ => match w with
    | .tup (x :: xs) => match asP a x ρ with
      | some ρ1 => asP b (.tup xs) ρ1
      | none => none
    | _ => none

def lkE1 (ρ : Env) (i : Nat) : Env :=
  match wOf ρ i with
  | some (w, .own) => ρ.set i (some (w, .ownL))
  | some (w, .io) => ρ.set i (some (w, .ioL))
  | _ => ρ
def lkE (ρ : Env) : List Arg → Env
  | [] => ρ
  | .slot i :: r => lkE (lkE1 ρ i) r
  | .val _ _ :: r => lkE ρ r
/-- ρ0: the names ahead of the loop -/
def ulE1 (ρ0 ρ : Env) (i : Nat) : Env :=
  match wOf ρ0 i, wOf ρ i with
  | some (_, .own), some (w, .ownL) => ρ.set i (some (w, .own))
  | some (_, .io), some (w, .ioL) => ρ.set i (some (w, .io))
  | _, _ => ρ
def ulE (ρ0 ρ : Env) : List Arg → Env
  | [] => ρ
  | .slot i :: r => ulE ρ0 (ulE1 ρ0 ρ i) r
  | .val _ _ :: r => ulE ρ0 ρ r
/-- a comprehension's own names: forgotten, given back -/
def wpE (ρ : Env) : List Nat → Env
  | [] => ρ
  | i :: r => (wpE ρ r).set i none
def rsE (ρ0 ρ : Env) : List Nat → Env
  | [] => ρ
  | i :: r => match ρ0[i]? with
    | some x => (rsE ρ0 ρ r).set i x
    | none => rsE ρ0 ρ r

/-! ### calls -/
abbrev Fn := Nat → List W → CO
/-- the arguments that are handed over: values, and the names (or new objects) that the callee changes -/
def shM (ρ : Env) : List Bool → List Arg → Option (List (Option W) × Env)
  | [], [] => some ([], ρ)
  | false :: m, a :: r => match shr ρ a with
    | some (w, ρ1) => match shM ρ1 m r with
      | some (ws, ρ2) => some (some w :: ws, ρ2)
      | none => none
    | none => none
  | true :: m, _ :: r => match shM ρ m r with
    | some (ws, ρ2) => some (none :: ws, ρ2)
    | none => none
  | _, _ => none
/-- now what is changed, as it stands; each name once -/
def ioW (ρ : Env) : List Nat → List (Option W) → List Arg → Option (List W)
  | _, [], [] => some []
  | us, some w :: m, _ :: r => (ioW ρ us m r).map (w :: ·)
  | us, none :: m, a :: r => match a with
    | .val w true => (ioW ρ us m r).map (w :: ·)
    | .slot i => if us.contains i then none else match wOf ρ i with
      | some (w, .own) => (ioW ρ (i :: us) m r).map (w :: ·)
      | some (w, .io) => (ioW ρ (i :: us) m r).map (w :: ·)
      | _ => none
    | _ => none
  | _, _, _ => none
def ioB (ρ : Env) : List Bool → List Arg → List W → Option Env
  | [], [], [] => some ρ
  | false :: m, _ :: r, ws => ioB ρ m r ws
  | true :: m, .val _ _ :: r, _ :: ws => ioB ρ m r ws
  | true :: m, .slot i :: r, w :: ws => match wOf ρ i with
    | some (_, f) => ioB (ρ.set i (some (w, f))) m r ws
    | none => none
  | _, _, _ => none
def callW (C : Fn) (f : Nat) (m : List Bool) (xs : List Arg) (ρ : Env) : Out Arg :=
  match shM ρ m xs with
  | none => .bad
  | some (ows, ρ1) => match ioW ρ1 [] ows xs with
    | none => .bad
    | some ws => match C f ws with
      | .bad => .bad
      | .ret w fr ios => match ioB ρ1 m xs ios with
        | some ρ2 => .ok (.val w fr) ρ2
        | none => .bad
      | .ex x p ios => match ioB ρ1 m xs ios with
        | some ρ2 => .ex x p ρ2
        | none => .bad

/-! ### expressions -/
structure Sm where
  x : Env → Out Arg
  t : Env → Out Bool
  a : Env → Out (List Arg)

def ofO (o : Option (W × Bool)) (ρ : Env) : Out Arg := match o with
  | some (w, fr) => .ok (.val w fr) ρ
  | none => .bad
def ofB (o : Option Bool) (ρ : Env) : Out Arg := match o with
  | some b => .ok (.val (.bl b) false) ρ
  | none => .bad
def l1 (f : W → Option (W × Bool)) (a : Arg) (ρ : Env) : Out Arg := match res ρ a with
  | some w => ofO (f w) ρ
  | none => .bad
def l2 (f : W → W → Option (W × Bool)) (a b : Arg) (ρ : Env) : Out Arg := match res ρ a, res ρ b with
  | some w, some u => ofO (f w u) ρ
  | _, _ => .bad
/-- a slice's bound -/
def part (l : Bool) (x : Env → Out Arg) (ρ : Env) : Out (Option Int) :=
  if l then (x ρ).bind fun v ρ1 => match res ρ1 v with
    | some (.int i) => .ok (some i) ρ1
    | _ => .bad
  else .ok none ρ
def lL (f : List W → Option (W × Bool)) (as : List Arg) (ρ : Env) : Out Arg := match ress ρ as with
  | some ws => ofO (f ws) ρ
  | none => .bad
def trO (o : Option W) (ρ : Env) : Out Bool := match o.bind truth with
  | some b => .ok b ρ
  | none => .bad
def bW (f : W → W → Option Bool) : W → W → Option (W × Bool) := fun x y => (f x y).map fun b => (.bl b, false)

/-- the turns of a list comprehension -/
def lcL (step : W → Env → Out (Option W)) : List W → List W → Env → Out (List W)
  | [], acc, ρ => .ok acc ρ
  | w :: r, acc, ρ => match step w ρ with
    | .ok (some y) ρ1 => lcL step r (acc ++ [y]) ρ1
    | .ok none ρ1 => lcL step r acc ρ1
    | _ => .bad
def stepV (x : Env → Out Arg) (ρ : Env) : Out (Option W) := (x ρ).bind fun a ρ1 => match shr ρ1 a with
  | some (w, ρ2) => .ok (some w) ρ2
  | none => .bad
def stepE (own : List Nat) (p : Pt) (t : Env → Out Bool) (x : Env → Out Arg) (w : W) (ρ : Env) : Out (Option W) :=
  match asP p w (wpE ρ own) with
  | none => .bad
  | some ρ1 => (t ρ1).bind fun k ρ2 => if k then stepV x ρ2 else .ok none ρ2

/-- the names of a target -/
def Pt.ns : Pt → List Nat
  | .n i => [i]
  | .t l => l.ns
  | .nil => []
  | .cons a b => a.ns ++ b.ns
/-- the turns of a second generator -/
def lcM (step : W → Env → Out (Option W)) : List W → List W → Env → Out (List W)
  | [], acc, ρ => .ok acc ρ
  | w :: r, acc, ρ => match step w ρ with
    | .ok (some y) ρ1 => if acc.length < szL then lcM step r (acc ++ [y]) ρ1 else .bad
    | .ok none ρ1 => lcM step r acc ρ1
    | _ => .bad
def lcO (step : W → List W → Env → Out (List W)) : List W → List W → Env → Out (List W)
  | [], acc, ρ => .ok acc ρ
  | w :: r, acc, ρ => match step w acc ρ with
    | .ok acc' ρ1 => lcO step r acc' ρ1
    | _ => .bad
/-- a turn of the first generator: what the second walks is never changed again -/
def lc2S (own : List Nat) (p p1 : Pt) (k1 : IK) (t t1 : Env → Out Bool) (es1 : Env → Out (List Arg)) (x : Env → Out Arg) (w : W) (acc : List W) (ρ : Env) : Out (List W) :=
  match asP p w (wpE ρ own) with
  | none => .bad
  | some ρ1 => (t ρ1).bind fun k ρ2 => if k then (es1 ρ2).bind fun us ρ3 => match shrs ρ3 us with
      | none => .bad
      | some (ws, ρ4) => match itW k1 ws with
        | none => .bad
        | some its => lcM (stepE p1.ns p1 t1 x) its acc ρ4
    else .ok acc ρ2

def pairs : List W → Option (List (W × W))
  | [] => some []
  | k :: v :: r => (pairs r).map ((k, v) :: ·)
  | _ => none
def mergeW (l : List (W × W)) : List (W × W) := l.foldl (fun d p => ptW p.1 p.2 d) []

def fmts : List W → Option Cs
  | [] => some []
  | w :: r => match fmtW w, fmts r with
    | some s, some u => some (s ++ u)
    | _, _ => none

def ev (C : Fn) : E → Sm
  | .bad => ⟨fun _ => .bad, fun _ => .bad, fun _ => .bad⟩
  | .var i =>
    { x := fun ρ => match wOf ρ i with | some _ => .ok (.slot i) ρ | none => .bad
      t := fun ρ => trO ((wOf ρ i).map (·.1)) ρ
      a := fun _ => .bad }
  | .con w => ⟨fun ρ => .ok (.val w false) ρ, fun ρ => trO (some w) ρ, fun _ => .bad⟩
  | .op o a b => let x := fun ρ => ((ev C a).x ρ).bind fun u ρ1 => ((ev C b).x ρ1).bind fun v ρ2 => l2 (opW o) u v ρ2
    ⟨x, fun ρ => (x ρ).bind fun u ρ1 => trO (res ρ1 u) ρ1, fun _ => .bad⟩
  | .neg a => let x := fun ρ => ((ev C a).x ρ).bind fun u ρ1 => l1 (fun w => match w with | .int i => some (.int (-i), false) | _ => none) u ρ1
    ⟨x, fun ρ => (x ρ).bind fun u ρ1 => trO (res ρ1 u) ρ1, fun _ => .bad⟩
  | .cmp o a b => let x := fun ρ => ((ev C a).x ρ).bind fun u ρ1 => ((ev C b).x ρ1).bind fun v ρ2 => l2 (bW (cmpW o)) u v ρ2
    ⟨x, fun ρ => (x ρ).bind fun u ρ1 => trO (res ρ1 u) ρ1, fun _ => .bad⟩
  | .cmp2 o q a b c => let x := fun ρ => ((ev C a).x ρ).bind fun u ρ1 => ((ev C b).x ρ1).bind fun v ρ2 => match res ρ2 u, res ρ2 v with
      | some w1, some w2 => match cmpW o w1 w2 with
        | some true => ((ev C c).x ρ2).bind fun z ρ3 => l2 (bW (cmpW q)) v z ρ3
        | some false => .ok (.val (.bl false) false) ρ2
        | none => .bad
      | _, _ => .bad
    ⟨x, fun ρ => (x ρ).bind fun u ρ1 => trO (res ρ1 u) ρ1, fun _ => .bad⟩
  | .and a b =>
    { x := fun ρ => ((ev C a).x ρ).bind fun u ρ1 => match (res ρ1 u).bind truth with
        | some true => (ev C b).x ρ1
        | some false => .ok u ρ1
        | none => .bad
      t := fun ρ => ((ev C a).t ρ).bind fun k ρ1 => if k then (ev C b).t ρ1 else .ok false ρ1
      a := fun _ => .bad }
  | .or a b =>
    { x := fun ρ => ((ev C a).x ρ).bind fun u ρ1 => match (res ρ1 u).bind truth with
        | some true => .ok u ρ1
        | some false => (ev C b).x ρ1
        | none => .bad
      t := fun ρ => ((ev C a).t ρ).bind fun k ρ1 => if k then .ok true ρ1 else (ev C b).t ρ1
      a := fun _ => .bad }
  | .not a =>
    { x := fun ρ => ((ev C a).x ρ).bind fun u ρ1 => l1 (fun w => (truth w).map fun b => (.bl (!b), false)) u ρ1
      t := fun ρ => ((ev C a).t ρ).bind fun k ρ1 => .ok (!k) ρ1
      a := fun _ => .bad }
  | .ite c a b => let x := fun ρ => ((ev C c).t ρ).bind fun k ρ1 => if k then (ev C a).x ρ1 else (ev C b).x ρ1
    ⟨x, fun ρ => ((ev C c).t ρ).bind fun k ρ1 => if k then (ev C a).t ρ1 else (ev C b).t ρ1, fun _ => .bad⟩
  | .tup es => let x := fun ρ => ((ev C es).a ρ).bind fun us ρ1 => match shrs ρ1 us with
      | some (ws, ρ2) => if ws.length ≤ szL then .ok (.val (.tup ws) false) ρ2 else .bad
      | none => .bad
    ⟨x, fun ρ => (x ρ).bind fun u ρ1 => trO (res ρ1 u) ρ1, fun _ => .bad⟩
  | .lst es => let x := fun ρ => ((ev C es).a ρ).bind fun us ρ1 => match shrs ρ1 us with
      | some (ws, ρ2) => if ws.length ≤ szL then .ok (.val (.lst ws) true) ρ2 else .bad
      | none => .bad
    ⟨x, fun ρ => (x ρ).bind fun u ρ1 => trO (res ρ1 u) ρ1, fun _ => .bad⟩
  | .dsp es => let x := fun ρ => ((ev C es).a ρ).bind fun us ρ1 => match shrs ρ1 us with
      | some (ws, ρ2) => match pairs ws with
        | some ps => if ps.length ≤ 15 then .ok (.val (.dct (mergeW ps)) true) ρ2 else .bad
        | none => .bad
      | none => .bad
    ⟨x, fun ρ => (x ρ).bind fun u ρ1 => trO (res ρ1 u) ρ1, fun _ => .bad⟩
  | .ix a b => let x := fun ρ => ((ev C a).x ρ).bind fun u ρ1 => ((ev C b).x ρ1).bind fun v ρ2 => l2 ixW u v ρ2
    ⟨x, fun ρ => (x ρ).bind fun u ρ1 => trO (res ρ1 u) ρ1, fun _ => .bad⟩
  | .slc a l h lo hi => let x := fun ρ => ((ev C a).x ρ).bind fun u ρ1 => (part l (ev C lo).x ρ1).bind fun i ρ2 => (part h (ev C hi).x ρ2).bind fun j ρ3 => l1 (slc1 i j) u ρ3
    ⟨x, fun ρ => (x ρ).bind fun u ρ1 => trO (res ρ1 u) ρ1, fun _ => .bad⟩
  | .call f m es => let x := fun ρ => ((ev C es).a ρ).bind fun us ρ1 => callW C f m us ρ1
    ⟨x, fun ρ => (x ρ).bind fun u ρ1 => trO (res ρ1 u) ρ1, fun _ => .bad⟩
  | .bi f es => let x := fun ρ => ((ev C es).a ρ).bind fun us ρ1 => lL (biW f) us ρ1
    ⟨x, fun ρ => (x ρ).bind fun u ρ1 => trO (res ρ1 u) ρ1, fun _ => .bad⟩
  | .mth f o es => let x := fun ρ => ((ev C o).x ρ).bind fun v ρ1 => match (res ρ1 v).bind (mTy f) with
      | some _ => ((ev C es).a ρ1).bind fun us ρ2 => match res ρ2 v with
        | some w => lL (mthW f w) us ρ2
        | none => .bad
      | none => .bad
    ⟨x, fun ρ => (x ρ).bind fun u ρ1 => trO (res ρ1 u) ρ1, fun _ => .bad⟩
  | .isi a t => let x := fun ρ => ((ev C a).x ρ).bind fun u ρ1 => l1 (fun w => if isD w then none else some (.bl (isTy t w), false)) u ρ1
    ⟨x, fun ρ => (x ρ).bind fun u ρ1 => trO (res ρ1 u) ρ1, fun _ => .bad⟩
  | .fst es => let x := fun ρ => ((ev C es).a ρ).bind fun us ρ1 => lL (fun ws => (fmts ws).map fun s => (.str s, false)) us ρ1
    ⟨x, fun ρ => (x ρ).bind fun u ρ1 => trO (res ρ1 u) ρ1, fun _ => .bad⟩
  | .lc elt p t k es own => let x := fun ρ => ((ev C es).a ρ).bind fun us ρ1 => match (ress ρ1 us).bind (itW k) with
      | none => .bad
      | some its => match lcL (stepE own p (ev C t).t (ev C elt).x) its [] (lkE ρ1 us) with
        | .ok acc ρ3 => if its.length ≤ szL then .ok (.val (.lst acc) true) (ulE ρ1 (rsE (lkE ρ1 us) ρ3 own) us) else .bad
        | _ => .bad
    ⟨x, fun ρ => (x ρ).bind fun u ρ1 => trO (res ρ1 u) ρ1, fun _ => .bad⟩
  | .lc2 elt p t k es p1 t1 k1 es1 own => let x := fun ρ => ((ev C es).a ρ).bind fun us ρ1 => match (ress ρ1 us).bind (itW k) with
      | none => .bad
      | some its => match lcO (lc2S own p p1 k1 (ev C t).t (ev C t1).t (ev C es1).a (ev C elt).x) its [] (lkE ρ1 us) with
        | .ok acc ρ3 => .ok (.val (.lst acc) true) (ulE ρ1 (rsE (lkE ρ1 us) ρ3 own) us)
        | _ => .bad
    ⟨x, fun ρ => (x ρ).bind fun u ρ1 => trO (res ρ1 u) ρ1, fun _ => .bad⟩
  | .nil => ⟨fun _ => .bad, fun ρ => .ok true ρ, fun ρ => .ok [] ρ⟩
  | .cons a b => ⟨fun _ => .bad, fun _ => .bad, fun ρ => ((ev C a).x ρ).bind fun u ρ1 => ((ev C b).a ρ1).bind fun us ρ2 => .ok (u :: us) ρ2⟩

/-! ### statements -/
inductive SO where
  | nx (ρ : Env) | bk (ρ : Env) | ct (ρ : Env) | rt (w : W) (fr : Bool) (ρ : Env) | ex (x : Nat) (p : W) (ρ : Env) | bad

def SO.bnd {α : Type} : Out α → (α → Env → SO) → SO
  | .ok a ρ, f => f a ρ
  | .ex x p ρ, _ => .ex x p ρ
  | .bad, _ => .bad
@[simp] theorem SO.bnd_ok {α : Type} (a : α) (ρ : Env) (f : α → Env → SO) : SO.bnd (Out.ok a ρ) f = f a ρ := rfl
@[simp] theorem SO.bnd_ex {α : Type} (x : Nat) (p : W) (ρ : Env) (f : α → Env → SO) : SO.bnd (Out.ex x p ρ) f = .ex x p ρ := rfl
@[simp] theorem SO.bnd_bad {α : Type} (f : α → Env → SO) : SO.bnd (Out.bad : Out α) f = .bad := rfl
def SO.thn : SO → (Env → SO) → SO
  | .nx ρ, f => f ρ
  | o, _ => o
def ofE : Option Env → SO
  | some ρ => .nx ρ
  | none => .bad

/-- x = an argument -/
def asA (i : Nat) (a : Arg) (ρ : Env) : Option Env := match a with
  | .val w fr => setN ρ i w (if fr then .own else .sh)
  | .slot j => match shr ρ (.slot j) with
    | some (w, ρ1) => setN ρ1 i w .sh
    | none => none
/-- several at once, names all different -/
def asAs : List Nat → List Arg → Env → Option Env
  | [], [], ρ => some ρ
  | i :: is, a :: as, ρ => if is.contains i then none else match asA i a ρ with
    | some ρ1 => asAs is as ρ1
    | none => none
  | _, _, _ => none
/-- arguments whose names are read now -/
def fixA (ρ : Env) : List Arg → Option (List Arg × Env)
  | [] => some ([], ρ)
  | .val w fr :: r => match fixA ρ r with
    | some (as, ρ1) => some (.val w fr :: as, ρ1)
    | none => none
  | .slot i :: r => match shr ρ (.slot i) with
    | some (w, ρ1) => match fixA ρ1 r with
      | some (as, ρ2) => some (.val w false :: as, ρ2)
      | none => none
    | none => none

def retA (a : Arg) (ρ : Env) : SO := match a with
  | .val w fr => .rt w fr ρ
  | .slot i => match wOf ρ i with
    | some (w, .sh) => .rt w false ρ
    | some (w, .own) => .rt w true (ρ.set i none)
    | some (w, .ownL) => if isD w then .bad else .rt w false (ρ.set i (some (w, .sh)))
    | _ => .bad

def mutOk : Option (W × Fl) → Bool
  | some (.lst _, .own) => true
  | some (.lst _, .io) => true
  | _ => false
def mutE (m : MK) (i : Nat) (us : List Arg) (ρ : Env) : SO := match shrs ρ us with
  | none => .bad
  | some (ws, ρ1) => match wOf ρ1 i with
    | some (w, .own) => match mutW m w ws with
      | some w' => .nx (ρ1.set i (some (w', .own)))
      | none => .bad
    | some (w, .io) => match mutW m w ws with
      | some w' => .nx (ρ1.set i (some (w', .io)))
      | none => .bad
    | _ => .bad
/-- x = y.pop(k) -/
def popE (i j : Nat) (us : List Arg) (ρ : Env) : SO := match shrs ρ us with
  | none => .bad
  | some (ws, ρ1) => match wOf ρ1 j with
    | some (.lst xs, .own) => match ws with
      | [.int k] => if (0 ≤ k ∧ k < xs.length) ∧ i ≠ j then (match xs[k.toNat]? with
        | some w => match setN ρ1 i w .sh with
          | some ρ2 => .nx (ρ2.set j (some (.lst (xs.eraseIdx k.toNat), .own)))
          | none => .bad
        | none => .bad) else .bad
      | _ => .bad
    | _ => .bad
def sixE (i : Nat) (e k : Arg) (ρ : Env) : SO := match shr ρ e with
  | none => .bad
  | some (v, ρ1) => match shr ρ1 k with
    | none => .bad
    | some (kw, ρ2) => match wOf ρ2 i with
      | some (w, .own) => match putW w kw v with
        | some w' => .nx (ρ2.set i (some (w', .own)))
        | none => .bad
      | some (w, .io) => match putW w kw v with
        | some w' => .nx (ρ2.set i (some (w', .io)))
        | none => .bad
      | _ => .bad

def forL (step : W → Env → SO) : List W → Env → SO
  | [], ρ => .nx ρ
  | w :: r, ρ => match step w ρ with
    | .nx ρ1 => forL step r ρ1
    | .ct ρ1 => forL step r ρ1
    | .bk ρ1 => .nx ρ1
    | o => o
def whlL (t : Env → Out Bool) (b : Env → SO) : Nat → Env → SO
  | 0, _ => .bad
  | n + 1, ρ => SO.bnd (t ρ) fun k ρ1 => if k then match b ρ1 with
      | .nx ρ2 => whlL t b n ρ2
      | .ct ρ2 => whlL t b n ρ2
      | .bk ρ2 => .nx ρ2
      | o => o
    else .nx ρ1
/-- behind a loop -/
def SO.mapE (f : Env → Env) : SO → SO
  | .nx ρ => .nx (f ρ)
  | .bk ρ => .bk (f ρ)
  | .ct ρ => .ct (f ρ)
  | o => o

/-- which clause takes which exception: 0 is NotAllowed .. ; the base takes all -/
abbrev Tk := Nat → Nat → Option Bool
/-- an except suite that raises is not served -/
def SO.calm : SO → SO
  | .ex _ _ _ => .bad
  | o => o

def xs (C : Fn) (tk : Tk) (g : Nat) : S → Env → SO
  | .bad, _ => .bad
  | .nil, ρ => .nx ρ
  | .seq s r, ρ => (xs C tk g s ρ).thn fun ρ1 => xs C tk g r ρ1
  | .asn i e, ρ => SO.bnd ((ev C e).x ρ) fun a ρ1 => ofE (asA i a ρ1)
  | .asp p e, ρ => SO.bnd ((ev C e).x ρ) fun a ρ1 => match shr ρ1 a with
    | some (w, ρ2) => ofE (asP p w ρ2)
    | none => .bad
  | .par is es, ρ => SO.bnd ((ev C es).a ρ) fun as ρ1 => match fixA ρ1 as with
    | some (as', ρ2) => ofE (asAs is as' ρ2)
    | none => .bad
  | .six i k e, ρ => SO.bnd ((ev C e).x ρ) fun a ρ1 => match wOf ρ1 i with
    | none => .bad
    | some _ => SO.bnd ((ev C k).x ρ1) fun b ρ2 => sixE i a b ρ2
  | .aug i o e, ρ => match wOf ρ i with
    | some (w, .sh) => SO.bnd ((ev C e).x ρ) fun a ρ1 => match res ρ1 a with
      | some u => match opW o w u with
        | some (.int z, _) => ofE (setN ρ1 i (.int z) .sh)
        | _ => .bad
      | none => .bad
    | _ => .bad
  | .exp e, ρ => SO.bnd ((ev C e).x ρ) fun _ ρ1 => .nx ρ1
  | .mut m i es, ρ => if mutOk (wOf ρ i) then SO.bnd ((ev C es).a ρ) fun us ρ1 => mutE m i us ρ1 else .bad
  | .popi i j es, ρ => if mutOk (wOf ρ j) then SO.bnd ((ev C es).a ρ) fun us ρ1 => popE i j us ρ1 else .bad
  | .ret e, ρ => SO.bnd ((ev C e).x ρ) fun a ρ1 => retA a ρ1
  | .retN, ρ => .rt .non false ρ
  | .ite c a b, ρ => SO.bnd ((ev C c).t ρ) fun k ρ1 => if k then xs C tk g a ρ1 else xs C tk g b ρ1
  | .for_ p k es b, ρ => SO.bnd ((ev C es).a ρ) fun us ρ1 => match (ress ρ1 us).bind (itW k) with
    | none => .bad
    | some its => (forL (fun w ρ => match asP p w ρ with
      | none => .bad
      | some ρ1 => xs C tk g b ρ1) its (lkE ρ1 us)).mapE fun ρ3 => ulE ρ1 ρ3 us
  | .whl c b, ρ => whlL (ev C c).t (xs C tk g b) g ρ
  | .pass, ρ => .nx ρ
  | .brk, ρ => .bk ρ
  | .cnt, ρ => .ct ρ
  | .rais x e, ρ => SO.bnd ((ev C e).a ρ) fun us ρ1 => match us with
    | [] => .ex x .non ρ1
    | [a] => match shr ρ1 a with
      | some (w, ρ2) => .ex x w ρ2
      | none => .bad
    | _ => .bad
  | .try_ b x as h, ρ => match xs C tk g b ρ with
    | .ex y p ρ1 => match tk x y with
      | none => .bad
      | some false => .ex y p ρ1
      | some true => match as with
        | none => (xs C tk g h ρ1).calm
        | some _ => .bad
    | o => o

/-! ### a program -/
structure FD where
  n : Nat      -- names
  m : List Bool      -- parameters: which ones the caller sees changed
  b : S
def env0 (fd : FD) (ws : List W) : Env := (ws.zip fd.m).map (fun p => some (p.1, if p.2 then Fl.io else Fl.sh)) ++ List.replicate (fd.n - ws.length) none
def ioE (ρ : Env) : Nat → List Bool → Option (List W)
  | _, [] => some []
  | k, false :: m => ioE ρ (k + 1) m
  | k, true :: m => match wOf ρ k, ioE ρ (k + 1) m with
    | some (w, .io), some ws => some (w :: ws)
    | some (w, .ioL), some ws => some (w :: ws)
    | _, _ => none
def ofS (fd : FD) : SO → CO
  | .nx ρ => match ioE ρ 0 fd.m with
    | some ios => .ret .non false ios
    | none => .bad
  | .rt w fr ρ => match ioE ρ 0 fd.m with
    | some ios => .ret w fr ios
    | none => .bad
  | .ex x p ρ => match ioE ρ 0 fd.m with
    | some ios => .ex x p ios
    | none => .bad
  | _ => .bad
def run (fs : List FD) (tk : Tk) (g : Nat) : Nat → Fn
  | 0 => fun _ _ => .bad
  | d + 1 => fun f ws => match fs[f]? with
    | none => .bad
    | some fd => if ws.length = fd.m.length then ofS fd (xs (run fs tk g d) tk g fd.b (env0 fd ws)) else .bad
end Py

namespace Py
/-- the program and the world of the proof: a text's hash is the world's -/
class HW where
  P : PySem.Program
  w : PySem.World
open PySem PySem.Spec PyProof.Rows L2
variable [HW]

abbrev S8 (s : Cs) : Str := ⟨s.toArray⟩

/-! ### a value and what it is -/
mutual
inductive HR (K : PySem.W.Frag) (H : Hp) (F : Addr → Prop) : V → W → Prop
  | non : HR K H F .non .non
  | bl (b : Bool) : HR K H F (.bl b) (.bl b)
  | int (i : Int) : HR K H F (.int i) (.int i)
  | str (s : Cs) : s.length ≤ szL → PyData.strOk (S8 s) = true → HR K H F (.str (S8 s)) (.str s)
  | tup {a : Addr} {vs : List V} {ws : List W} : SqT K H a vs → vs.length ≤ szL → HRs K H F vs ws → HR K H F (.ref a) (.tup ws)
  | lst {a : Addr} {vs : List V} {ws : List W} : F a → Rd H a (.lst vs) → vs.length ≤ szL → HRs K H F vs ws → HR K H F (.ref a) (.lst ws)
inductive HRs (K : PySem.W.Frag) (H : Hp) (F : Addr → Prop) : List V → List W → Prop
  | nil : HRs K H F [] []
  | cons {v : V} {vs : List V} {w : W} {ws : List W} : HR K H F v w → HRs K H F vs ws → HRs K H F (v :: vs) (w :: ws)
end

/-! ### dicts whose keys are tuples -/
mutual
/-- a key -/
def nk : W → Option NestedKey
  | .non => some .none
  | .bl b => some (.num (if b then 1 else 0))
  | .int i => some (.num i)
  | .str s => some (.text (S8 s))
  | .tup ws => (nks ws).map .tup
  | _ => none
def nks : List W → Option (List NestedKey)
  | [] => some []
  | w :: r => match nk w, nks r with
    | some k, some l => some (k :: l)
    | _, _ => none
end
/-- a dict's entries: the key, what it stands as, the value -/
abbrev DEs := List (NestedKey × V × V)
inductive EntR [HW] : DEs → List DictEntry → Prop
  | nil : EntR [] []
  | cons {k : NestedKey} {x v : V} {a b : Value} {es : DEs} {l : List DictEntry} : RelV x a → RelV v b → EntR es l → EntR ((k, x, v) :: es) (⟨k.hash HW.w, a, b⟩ :: l)
theorem EntR.length {es : DEs} {l : List DictEntry} (h : EntR es l) : l.length = es.length := by
  induction h with
  | nil => rfl
  | cons _ _ _ ih => simp [ih]
def dcO [HW] (a : Addr) (es : DEs) (ep : Nat) : HO := .ext fun h => (a == sysModules) = false ∧ ∃ o l, h.get? a = some o ∧ o.ExactDict ∧ o.data = .dict l ep ∧ EntR es l.toList
inductive DRel (K : PySem.W.Frag) (H : Hp) (F : Addr → Prop) : DEs → List (W × W) → Prop
  | nil : DRel K H F [] []
  | cons {k : NestedKey} {b : Addr} {v : V} {ws : List W} {w : W} {es : DEs} {kvs : List (W × W)} : nk (.tup ws) = some k → k.depth ≤ 8 → HR K H F (.ref b) (.tup ws) → HR K H F v w → DRel K H F es kvs → DRel K H F ((k, .ref b, v) :: es) ((.tup ws, w) :: kvs)
  | consI {i : Int} {v : V} {w : W} {es : DEs} {kvs : List (W × W)} : HR K H F v w → DRel K H F es kvs → DRel K H F ((.num i, .int i, v) :: es) ((.int i, w) :: kvs)
theorem DRel.length {K : PySem.W.Frag} {H : Hp} {F : Addr → Prop} {es : DEs} {kvs : List (W × W)} (h : DRel K H F es kvs) : es.length = kvs.length := by
  induction h with
  | nil => rfl
  | cons _ _ _ _ _ ih => simp [ih]
  | consI _ _ ih => simp [ih]
/-- an object that one name alone holds -/
def Cell (K : PySem.W.Frag) (H : Hp) (F : Addr → Prop) (a : Addr) (w : W) : Prop := match w with
  | .lst ws => ∃ vs, H a = some (.lst vs) ∧ vs.length ≤ szL ∧ HRs K H F vs ws
  | .dct kvs => ∃ es, (∃ ep, H a = some (dcO a es ep)) ∧ es.length ≤ szL ∧ (es.map (·.1)).Nodup ∧ DRel K H F es kvs
  | _ => False
/-- what may be read now -/
def PkR (K : PySem.W.Frag) (H : Hp) (F : Addr → Prop) (v : V) (w : W) : Prop := HR K H F v w ∨ ∃ c, v = .ref c ∧ Cell K H F c w

section
variable {K : PySem.W.Frag} {H H' : Hp} {F F' : Addr → Prop}
theorem HRs.length {vs : List V} {ws : List W} (h : HRs K H F vs ws) : vs.length = ws.length := by
  induction ws generalizing vs with
  | nil => cases h; rfl
  | cons w ws ih => cases h with | cons _ t => simp [ih t]
theorem HRs.get {vs : List V} {ws : List W} {i : Nat} {w : W} (h : HRs K H F vs ws) (e : ws[i]? = some w) : ∃ v, vs[i]? = some v ∧ HR K H F v w := by
  induction ws generalizing vs i with
  | nil => simp at e
  | cons w' ws ih =>
    cases h with
    | cons r t => cases i with
      | zero => simp at e; subst e; exact ⟨_, rfl, r⟩
      | succ i => simpa using ih t (by simpa using e)
theorem HRs.getV {vs : List V} {ws : List W} {i : Nat} {v : V} (h : HRs K H F vs ws) (e : vs[i]? = some v) : ∃ w, ws[i]? = some w ∧ HR K H F v w := by
  induction ws generalizing vs i with
  | nil => cases h; simp at e
  | cons w' ws ih =>
    cases h with
    | cons r t => cases i with
      | zero => simp at e; subst e; exact ⟨_, rfl, r⟩
      | succ i => simpa using ih t (by simpa using e)
theorem HRs.append {vs vs' : List V} {ws ws' : List W} (h : HRs K H F vs ws) (h' : HRs K H F vs' ws') : HRs K H F (vs ++ vs') (ws ++ ws') := by
  induction ws generalizing vs with
  | nil => cases h; exact h'
  | cons w ws ih => cases h with | cons r t => exact .cons r (ih t)
theorem HRs.one {v : V} {w : W} (h : HR K H F v w) : HRs K H F [v] [w] := .cons h .nil
theorem HRs.take {vs : List V} {ws : List W} (h : HRs K H F vs ws) (n : Nat) : HRs K H F (vs.take n) (ws.take n) := by
  induction n generalizing vs ws with
  | zero => simp; exact .nil
  | succ n ih => cases h with
    | nil => exact .nil
    | cons r t => exact .cons r (ih t)
theorem HRs.drop {vs : List V} {ws : List W} (h : HRs K H F vs ws) (n : Nat) : HRs K H F (vs.drop n) (ws.drop n) := by
  induction n generalizing vs ws with
  | zero => simpa
  | succ n ih => cases h with
    | nil => exact .nil
    | cons r t => simpa using ih t
theorem HRs.set {vs : List V} {ws : List W} {v : V} {w : W} (h : HRs K H F vs ws) (r : HR K H F v w) (n : Nat) : HRs K H F (vs.set n v) (ws.set n w) := by
  induction ws generalizing vs n with
  | nil => cases h; exact .nil
  | cons w' ws ih => cases h with
    | cons q t => cases n with
      | zero => exact .cons r t
      | succ n => exact .cons q (ih t n)
theorem HRs.reverse {vs : List V} {ws : List W} (h : HRs K H F vs ws) : HRs K H F vs.reverse ws.reverse := by
  induction ws generalizing vs with
  | nil => cases h; exact .nil
  | cons w ws ih => cases h with | cons r t => simpa using (ih t).append (.one r)
theorem HRs.dropLast {vs : List V} {ws : List W} (h : HRs K H F vs ws) : HRs K H F vs.dropLast ws.dropLast := by
  rw [List.dropLast_eq_take, List.dropLast_eq_take, h.length]
  exact h.take _
theorem HRs.split {vs : List V} {w : W} {ws : List W} (h : HRs K H F vs (w :: ws)) : ∃ v r, vs = v :: r ∧ HR K H F v w ∧ HRs K H F r ws := by
  cases h with | cons a b => exact ⟨_, _, rfl, a, b⟩
theorem HRs.nl {vs : List V} (h : HRs K H F vs []) : vs = [] := by cases h; rfl

mutual
theorem HR.mono (hS : ∀ a xs, SqT K H a xs → SqT K H' a xs) (hF : ∀ a, F a → F' a) (hL : ∀ a xs, F a → Rd H a (.lst xs) → Rd H' a (.lst xs)) {v : V} {w : W} : HR K H F v w → HR K H' F' v w
  | .non => .non
  | .bl b => .bl b
  | .int i => .int i
  | .str s h k => .str s h k
  | .tup a b c => .tup (hS _ _ a) b (HRs.mono hS hF hL c)
  | .lst a b c d => .lst (hF _ a) (hL _ _ a b) c (HRs.mono hS hF hL d)
theorem HRs.mono (hS : ∀ a xs, SqT K H a xs → SqT K H' a xs) (hF : ∀ a, F a → F' a) (hL : ∀ a xs, F a → Rd H a (.lst xs) → Rd H' a (.lst xs)) {vs : List V} {ws : List W} : HRs K H F vs ws → HRs K H' F' vs ws
  | .nil => .nil
  | .cons a b => .cons (HR.mono hS hF hL a) (HRs.mono hS hF hL b)
end
theorem PkR.of {v : V} {w : W} (h : HR K H F v w) : PkR K H F v w := .inl h
/-- a list to be read -/
theorem PkR.rd {v : V} {ws : List W} (h : PkR K H F v (.lst ws)) : ∃ a vs, v = .ref a ∧ Rd H a (.lst vs) ∧ vs.length ≤ szL ∧ HRs K H F vs ws := by
  rcases h with h | ⟨c, e, h⟩
  · cases h with | lst a b c d => exact ⟨_, _, rfl, b, c, d⟩
  · obtain ⟨vs, a, b, d⟩ := h
    exact ⟨c, vs, e, .inl a, b, d⟩
theorem PkR.lst {v : V} {ws : List W} (h : PkR K H F v (.lst ws)) : ∃ a vs, v = .ref a ∧ SqL K H a vs ∧ vs.length ≤ szL ∧ HRs K H F vs ws := by
  obtain ⟨a, vs, e, r, z, q⟩ := h.rd
  exact ⟨a, vs, e, .inl r, z, q⟩
theorem HR.tupI {v : V} {ws : List W} (h : HR K H F v (.tup ws)) : ∃ a vs, v = .ref a ∧ SqT K H a vs ∧ vs.length ≤ szL ∧ HRs K H F vs ws := by
  cases h with | tup a b c => exact ⟨_, _, rfl, a, b, c⟩
theorem PkR.tup {v : V} {ws : List W} (h : PkR K H F v (.tup ws)) : ∃ a vs, v = .ref a ∧ SqT K H a vs ∧ vs.length ≤ szL ∧ HRs K H F vs ws := by
  rcases h with h | ⟨c, e, h⟩
  · exact h.tupI
  · exact h.elim
theorem PkR.int {v : V} {i : Int} (h : PkR K H F v (.int i)) : v = .int i := by
  rcases h with h | ⟨c, e, h⟩
  · cases h; rfl
  · exact h.elim
theorem PkR.bl {v : V} {i : Bool} (h : PkR K H F v (.bl i)) : v = .bl i := by
  rcases h with h | ⟨c, e, h⟩
  · cases h; rfl
  · exact h.elim
theorem PkR.non {v : V} (h : PkR K H F v .non) : v = .non := by
  rcases h with h | ⟨c, e, h⟩
  · cases h; rfl
  · exact h.elim
theorem PkR.str {v : V} {s : Cs} (h : PkR K H F v (.str s)) : v = .str (S8 s) ∧ s.length ≤ szL ∧ PyData.strOk (S8 s) = true := by
  rcases h with h | ⟨c, e, h⟩
  · cases h with | str _ a b => exact ⟨rfl, a, b⟩
  · exact h.elim
theorem PkR.dct {v : V} {s : List (W × W)} (h : PkR K H F v (.dct s)) : ∃ a es, v = .ref a ∧ (∃ ep, H a = some (dcO a es ep)) ∧ es.length ≤ szL ∧ (es.map (·.1)).Nodup ∧ DRel K H F es s := by
  rcases h with h | ⟨c, e, h⟩
  · cases h
  · obtain ⟨es, h⟩ := h
    exact ⟨c, es, e, h⟩
theorem PkR.st {v : V} {s : List W} (h : PkR K H F v (.st s)) : False := by
  rcases h with h | ⟨c, e, h⟩
  · cases h
  · exact h.elim
theorem PkR.inl' {v : V} {w : W} (h : HR K H F v w) : PkR K H F v w := .inl h
theorem szL_eq : szL = sizeLine := by decide

/-! ### == of data -/
mutual
def pd : W → PyData
  | .non => .none | .bl b => .bool b | .int i => .int i | .str s => .str (S8 s) | .tup xs => .tuple (pds xs) | .lst xs => .list (pds xs) | .dct _ => .none | .st _ => .none
def pds : List W → List PyData
  | [] => []
  | x :: xs => pd x :: pds xs
end
mutual
theorem HR.dp {v : V} {w : W} (hl : ∀ a vs, F a → Rd H a (.lst vs) → SqL K H a vs) : HR K H F v w → Dp K H v (pd w)
  | .non => by simp only [pd]; exact .non
  | .bl b => by simp only [pd]; exact .bl b
  | .int i => by simp only [pd]; exact .int i
  | .str s h k => by simp only [pd]; exact .str _
  | .tup a b c => by simp only [pd]; exact .tup a (HRs.dp hl c)
  | .lst a b c d => by simp only [pd]; exact .lst (hl _ _ a b) (HRs.dp hl d)
theorem HRs.dp {vs : List V} {ws : List W} (hl : ∀ a vs, F a → Rd H a (.lst vs) → SqL K H a vs) : HRs K H F vs ws → DpAll K H vs (pds ws)
  | .nil => by simp only [pds]; exact .nil
  | .cons a b => by simp only [pds]; exact .cons (HR.dp hl a) (HRs.dp hl b)
end
theorem PkR.dp {v : V} {w : W} (h : PkR K H F v w) (hd : dep w < 1000) : Dp K H v (pd w) := by
  rcases h with h | ⟨c, e, h⟩
  · exact h.dp fun _ _ _ r => .inl r
  · subst e
    cases w <;> first | exact h.elim | skip
    case dct => exact absurd hd (by simp [dep])
    obtain ⟨vs, a, b, d⟩ := h
    simp only [pd]
    exact .lst (.inl (.inl a)) (d.dp fun _ _ _ r => .inl r)
mutual
theorem HR.lay {v : V} {w : W} : HR K H F v w → (pd w).canLay0 = true
  | .non => by simp only [pd]; rfl
  | .bl b => by simp only [pd]; rfl
  | .int i => by simp only [pd]; rfl
  | .str s h k => by simp only [pd]; simpa [PyData.canLay0] using k
  | .tup a b c => by simp only [pd]; simpa [PyData.canLay0] using HRs.lay c
  | .lst a b c d => by simp only [pd]; simpa [PyData.canLay0] using HRs.lay d
theorem HRs.lay {vs : List V} {ws : List W} : HRs K H F vs ws → PyData.canLayAll0 (pds ws) = true
  | .nil => by simp only [pds]; rfl
  | .cons a b => by simp only [pds]; simp [PyData.canLayAll0, HR.lay a, HRs.lay b]
end
theorem PkR.lay {v : V} {w : W} (h : PkR K H F v w) : (pd w).canLay0 = true := by
  rcases h with h | ⟨c, e, h⟩
  · exact h.lay
  · cases w <;> first | exact h.elim | skip
    case dct => simp only [pd]; rfl
    obtain ⟨vs, a, b, d⟩ := h
    simp only [pd]
    simpa [PyData.canLay0] using d.lay
mutual
theorem dep_pd : ∀ w : W, (pd w).depth ≤ dep w
  | .non => by simp [pd, PyData.depth]
  | .bl _ => by simp [pd, PyData.depth]
  | .int _ => by simp [pd, PyData.depth]
  | .str _ => by simp [pd, PyData.depth]
  | .tup xs => by have := deps_pd xs; simp only [pd, PyData.depth, dep]; omega
  | .lst xs => by have := deps_pd xs; simp only [pd, PyData.depth, dep]; omega
  | .dct _ => by simp [pd, PyData.depth]
  | .st _ => by simp [pd, PyData.depth]
theorem deps_pd : ∀ ws : List W, PyData.depthAll (pds ws) ≤ deps ws
  | [] => by simp [pds, PyData.depthAll]
  | w :: ws => by have := dep_pd w; have := deps_pd ws; simp only [pds, PyData.depthAll, deps]; omega
end
theorem s8_beq (x y : Cs) : ((S8 x) == (S8 y)) = (x == y) := by
  rw [Bool.eq_iff_iff]; simp
mutual
theorem eqv_pd : ∀ {v v' : V} (x y : W), dep x < 1000 → dep y < 1000 → PyData.eqv (pd x) (pd y) = eqW x y
  | _, _, x, y, h, h' => by
    cases x <;> cases y <;> first
      | (simp only [dep] at h h'; omega)
      | (simp only [pd, PyData.eqv, eqW]; done)
      | (simp only [pd, PyData.eqv, eqW]; exact s8_beq _ _)
      | (simp only [pd, PyData.eqv, eqW]; simp only [dep] at h h'; exact eqvs_pd _ _ (by omega) (by omega))
theorem eqvs_pd : ∀ (x y : List W), deps x < 1000 → deps y < 1000 → PyData.eqvAll (pds x) (pds y) = eqWs x y
  | [], [], _, _ => by simp [pds, PyData.eqvAll, eqWs]
  | [], _ :: _, _, _ => by simp [pds, PyData.eqvAll, eqWs]
  | _ :: _, [], _, _ => by simp [pds, PyData.eqvAll, eqWs]
  | x :: xs, y :: ys, h, h' => by
    simp only [deps] at h h'
    simp only [pds, PyData.eqvAll, eqWs]
    rw [eqv_pd (v := .non) (v' := .non) x y (by omega) (by omega), eqvs_pd xs ys (by omega) (by omega)]
end
end
end Py

namespace Py
open PySem PySem.Spec PyProof.Rows L2
variable [HW]
abbrev Sg := L2.St

/-- the name i holds the object at a alone -/
def SlA (σ : Sg) (ρ : Env) (i : Nat) (a : Addr) : Prop := ∃ (w : W) (f : Fl), ρ[i]? = some (some (w, f)) ∧ f ≠ Fl.sh ∧ σ[i]? = some (some (V.ref a))
/-- .. and may change it -/
def Om (σ : Sg) (ρ : Env) (a : Addr) : Prop := ∃ (i : Nat) (w : W) (f : Fl), ρ[i]? = some (some (w, f)) ∧ (f = Fl.own ∨ f = Fl.io) ∧ σ[i]? = some (some (V.ref a))
/-- .. and it is the name's alone -/
def Ow (σ : Sg) (ρ : Env) (a : Addr) : Prop := ∃ (i : Nat) (w : W) (f : Fl), ρ[i]? = some (some (w, f)) ∧ (f = Fl.own ∨ f = Fl.ownL) ∧ σ[i]? = some (some (V.ref a))
theorem Om.sl {σ : Sg} {ρ : Env} {a : Addr} (h : Om σ ρ a) : ∃ i, SlA σ ρ i a := by
  obtain ⟨i, w, f, a, b, c⟩ := h
  exact ⟨i, w, f, a, by rcases b with rfl | rfl <;> decide, c⟩

/-- names, slots, the heap; Pn: new objects that nothing holds yet; A: the objects of the parameters that the caller sees changed -/
structure SRel (K : PySem.W.Frag) (A : Nat → Option Addr) (σ : Sg) (ρ : Env) (H : Hp) (F : Addr → Prop) (Pn : List (Addr × W)) : Prop where
  ln : ρ.length = σ.length
  sh : ∀ (i : Nat) (w : W), ρ[i]? = some (some (w, Fl.sh)) → ∃ v, σ[i]? = some (some v) ∧ HR K H F v w
  ow : ∀ (i : Nat) (w : W) (f : Fl), ρ[i]? = some (some (w, f)) → f ≠ .sh → ∃ a, σ[i]? = some (some (V.ref a)) ∧ ¬ F a ∧ Cell K H F a w
  io : ∀ (i : Nat) (w : W) (f : Fl), ρ[i]? = some (some (w, f)) → (f = .io ∨ f = .ioL) → ∃ a, A i = some a ∧ σ[i]? = some (some (V.ref a))
  dj : ∀ i j a, SlA σ ρ i a → SlA σ ρ j a → i = j
  pn : ∀ p ∈ Pn, ¬ F p.1 ∧ Cell K H F p.1 p.2 ∧ ∀ i, ¬ SlA σ ρ i p.1
  pd : (Pn.map (·.1)).Nodup
  ff : ∀ a, F a → ∃ o, H a = some o

/-- what a step keeps -/
structure Stp (σ : Sg) (ρ : Env) (H : Hp) (F : Addr → Prop) (σ' : Sg) (ρ' : Env) (H' : Hp) (F' : Addr → Prop) : Prop where
  kp : ∀ a o, H a = some o → ¬ Om σ ρ a → H' a = some o
  fr : ∀ a, F a → F' a
  nf : ∀ a o, H a = some o → F' a → F a ∨ ∃ i, SlA σ ρ i a
  no : ∀ a o, H a = some o → Om σ' ρ' a → Om σ ρ a
  ns : ∀ a o, H a = some o → ∀ i, SlA σ' ρ' i a → SlA σ ρ i a
  nw : ∀ a o, H a = some o → Ow σ' ρ' a → Ow σ ρ a
  al : ∀ a o, H a = some o → ∃ o', H' a = some o'

section
variable {K : PySem.W.Frag} {A : Nat → Option Addr} {σ σ' σ'' : Sg} {ρ ρ' ρ'' : Env} {H H' H'' : Hp} {F F' F'' : Addr → Prop} {Pn Pn' : List (Addr × W)}

/-- what may change -/
def Mut : HO → Prop
  | .lst _ => True
  | .ext _ => True
  | _ => False
theorem no_tup {a : Addr} {o : HO} {xs : List V} (e : H a = some o) (m : Mut o) (h : Rd H a (.tup xs)) : False := by
  rcases h with h | ⟨o', h⟩ <;> (rw [e] at h; cases h; exact m)
theorem Cell.obj {a : Addr} {w : W} (h : Cell K H F a w) : ∃ o, H a = some o ∧ Mut o := by
  cases w <;> first | exact h.elim | skip
  · obtain ⟨vs, e, _⟩ := h
    exact ⟨_, e, trivial⟩
  · obtain ⟨es, ⟨ep, e⟩, _⟩ := h
    exact ⟨_, e, trivial⟩
theorem SRel.slc (h : SRel K A σ ρ H F Pn) {i : Nat} {a : Addr} (s : SlA σ ρ i a) : ¬ F a ∧ ∃ o, H a = some o ∧ Mut o := by
  obtain ⟨w, f, e, nf, eσ⟩ := s
  obtain ⟨b, eb, nF, c⟩ := h.ow i w f e nf
  rw [eσ] at eb; cases eb
  exact ⟨nF, c.obj⟩
theorem SRel.omc (h : SRel K A σ ρ H F Pn) {a : Addr} (s : Om σ ρ a) : ¬ F a ∧ ∃ o, H a = some o ∧ Mut o := let ⟨_, x⟩ := s.sl; h.slc x

theorem Stp.refl : Stp σ ρ H F σ ρ H F := ⟨fun _ _ h _ => h, fun _ h => h, fun _ _ _ h => .inl h, fun _ _ _ h => h, fun _ _ _ i h => h, fun _ _ _ h => h, fun _ o h => ⟨o, h⟩⟩
theorem Stp.trans (x : Stp σ ρ H F σ' ρ' H' F') (y : Stp σ' ρ' H' F' σ'' ρ'' H'' F'') : Stp σ ρ H F σ'' ρ'' H'' F'' := by
  refine ⟨fun a o h n => ?_, fun a h => y.fr a (x.fr a h), fun a o h f => ?_, fun a o h f => ?_, fun a o h i f => ?_, fun a o h f => ?_, fun a o h => ?_⟩
  · exact y.kp a o (x.kp a o h n) fun z => n (x.no a o h z)
  · obtain ⟨o', e⟩ := x.al a o h
    rcases y.nf a o' e f with z | ⟨i, z⟩
    · exact x.nf a o h z
    · exact .inr ⟨i, x.ns a o h i z⟩
  · obtain ⟨o', e⟩ := x.al a o h
    exact x.no a o h (y.no a o' e f)
  · obtain ⟨o', e⟩ := x.al a o h
    exact x.ns a o h i (y.ns a o' e i f)
  · obtain ⟨o', e⟩ := x.al a o h
    exact x.nw a o h (y.nw a o' e f)
  · obtain ⟨o', e⟩ := x.al a o h
    exact y.al a o' e

theorem Stp.rd (hs : SRel K A σ ρ H F Pn) (st : Stp σ ρ H F σ' ρ' H' F') {a : Addr} {u : HO} (h : Rd H a u) (nl : ¬ ∃ i, SlA σ ρ i a) : Rd H' a u := by
  have n : ¬ Om σ ρ a := fun z => nl z.sl
  rcases h with h | ⟨o, h⟩
  · exact .inl (st.kp _ _ h n)
  · exact .inr ⟨o, st.kp _ _ h n⟩
theorem Stp.sqt (hs : SRel K A σ ρ H F Pn) (st : Stp σ ρ H F σ' ρ' H' F') (a : Addr) (xs : List V) (h : SqT K H a xs) : SqT K H' a xs := by
  rcases h with h | h
  · refine .inl (st.rd hs h ?_)
    rintro ⟨i, s⟩
    obtain ⟨_, vs, e, m⟩ := hs.slc s
    exact no_tup e m h
  · exact .inr h
theorem Stp.hr (hs : SRel K A σ ρ H F Pn) (st : Stp σ ρ H F σ' ρ' H' F') {v : V} {w : W} (h : HR K H F v w) : HR K H' F' v w :=
  h.mono (st.sqt hs) st.fr fun a xs f r => st.rd hs r fun ⟨i, s⟩ => (hs.slc s).1 f
theorem Stp.hrs (hs : SRel K A σ ρ H F Pn) (st : Stp σ ρ H F σ' ρ' H' F') {v : List V} {w : List W} (h : HRs K H F v w) : HRs K H' F' v w :=
  h.mono (st.sqt hs) st.fr fun a xs f r => st.rd hs r fun ⟨i, s⟩ => (hs.slc s).1 f
theorem Stp.drel (hs : SRel K A σ ρ H F Pn) (st : Stp σ ρ H F σ' ρ' H' F') {es : DEs} {kvs : List (W × W)} (h : DRel K H F es kvs) : DRel K H' F' es kvs := by
  induction h with
  | nil => exact .nil
  | cons a b c d _ ih => exact .cons a b (st.hr hs c) (st.hr hs d) ih
  | consI d _ ih => exact .consI (st.hr hs d) ih
theorem SRel.perm (h : SRel K A σ ρ H F Pn) (p : Pn.Perm Pn') : SRel K A σ ρ H F Pn' :=
  ⟨h.ln, h.sh, h.ow, h.io, h.dj, fun q hq => h.pn q (p.mem_iff.mpr hq), (p.map _).nodup_iff.mp h.pd, h.ff⟩
theorem SRel.drop (h : SRel K A σ ρ H F (Pn' ++ Pn)) : SRel K A σ ρ H F Pn :=
  ⟨h.ln, h.sh, h.ow, h.io, h.dj, fun q hq => h.pn q (List.mem_append_right _ hq), by have := h.pd; rw [List.map_append] at this; exact (List.nodup_append.mp this).2.1, h.ff⟩

/-- a larger frozen part -/
theorem HR.more (hF : ∀ a, F a → F' a) {v : V} {w : W} (h : HR K H F v w) : HR K H F' v w := h.mono (fun _ _ q => q) hF fun _ _ _ r => r
theorem HRs.more (hF : ∀ a, F a → F' a) {v : List V} {w : List W} (h : HRs K H F v w) : HRs K H F' v w := h.mono (fun _ _ q => q) hF fun _ _ _ r => r
theorem DRel.mono (hS : ∀ a xs, SqT K H a xs → SqT K H' a xs) (hF : ∀ a, F a → F' a) (hL : ∀ a xs, F a → Rd H a (.lst xs) → Rd H' a (.lst xs)) {es : DEs} {kvs : List (W × W)} (h : DRel K H F es kvs) : DRel K H' F' es kvs := by
  induction h with
  | nil => exact .nil
  | cons a b c d _ ih => exact .cons a b (c.mono hS hF hL) (d.mono hS hF hL) ih
  | consI d _ ih => exact .consI (d.mono hS hF hL) ih
theorem DRel.more (hF : ∀ a, F a → F' a) {es : DEs} {kvs : List (W × W)} (h : DRel K H F es kvs) : DRel K H F' es kvs := h.mono (fun _ _ q => q) hF fun _ _ _ r => r
theorem Cell.more (hF : ∀ a, F a → F' a) {a : Addr} {w : W} (h : Cell K H F a w) : Cell K H F' a w := by
  cases w <;> first | exact h.elim | skip
  · obtain ⟨vs, e, z, q⟩ := h
    exact ⟨vs, e, z, q.more hF⟩
  · obtain ⟨es, e, z, n, q⟩ := h
    exact ⟨es, e, z, n, q.more hF⟩
def fz (F : Addr → Prop) (c : Addr) : Addr → Prop := fun a => F a ∨ a = c
theorem Cell.hr {a : Addr} {w : W} (h : Cell K H F a w) (hd : isD w = false) : HR K H (fz F a) (.ref a) w := by
  cases w <;> first | exact h.elim | (cases hd; done) | skip
  obtain ⟨vs, e, z, q⟩ := h
  exact .lst (.inr rfl) (.inl e) z (q.more fun _ => .inl)
/-- a new object is frozen -/
theorem SRel.freeze {P1 : List (Addr × W)} {c : Addr} {w : W} (h : SRel K A σ ρ H F (P1 ++ (c, w) :: Pn)) (nd : isD w = false) : SRel K A σ ρ H (fz F c) (P1 ++ Pn) ∧ HR K H (fz F c) (.ref c) w := by
  have hc := h.pn (c, w) (by simp)
  have hd : c ∉ (P1 ++ Pn).map (·.1) ∧ ((P1 ++ Pn).map (·.1)).Nodup := by
    have := h.pd
    rw [List.map_append, List.map_cons] at this
    have q := (List.perm_middle (a := c) (l₁ := P1.map (·.1)) (l₂ := Pn.map (·.1))).nodup_iff.mp this
    rw [← List.map_append] at q
    exact List.nodup_cons.mp q
  refine ⟨⟨h.ln, fun i w e => ?_, fun i w f e n => ?_, h.io, h.dj, fun p hp => ?_, hd.2, fun a q => ?_⟩, hc.2.1.hr nd⟩
  · obtain ⟨v, a, b⟩ := h.sh i w e
    exact ⟨v, a, b.more fun _ => .inl⟩
  · obtain ⟨a, x, y, z⟩ := h.ow i w f e n
    refine ⟨a, x, ?_, z.more fun _ => .inl⟩
    rintro (q | rfl)
    · exact y q
    · exact hc.2.2 i ⟨w, f, e, n, x⟩
  · have hm : p ∈ P1 ++ (c, w) :: Pn := by
      rcases List.mem_append.mp hp with q | q
      · exact List.mem_append_left _ q
      · exact List.mem_append_right _ (List.mem_cons_of_mem _ q)
    obtain ⟨x, y, z⟩ := h.pn p hm
    refine ⟨?_, y.more fun _ => .inl, z⟩
    rintro (q | q)
    · exact x q
    · exact hd.1 (q ▸ List.mem_map_of_mem hp)
  · rcases q with q | rfl
    · exact h.ff a q
    · obtain ⟨vs, e, _⟩ := hc.2.1.obj
      exact ⟨_, e⟩

/-! ### arguments -/
/-- an argument and its value -/
def AR (K : PySem.W.Frag) (σ : Sg) (H : Hp) (F : Addr → Prop) : Arg → V → Prop
  | .val w false, v => HR K H F v w
  | .val _ true, v => ∃ c, v = .ref c
  | .slot i, v => σ[i]? = some (some v)
def pnd : Arg → V → List (Addr × W)
  | .val w true, .ref c => [(c, w)]
  | _, _ => []
inductive ARs (K : PySem.W.Frag) (σ : Sg) (H : Hp) (F : Addr → Prop) : List Arg → List V → Prop
  | nil : ARs K σ H F [] []
  | cons {a : Arg} {v : V} {as : List Arg} {vs : List V} : AR K σ H F a v → ARs K σ H F as vs → ARs K σ H F (a :: as) (v :: vs)
def pnds : List Arg → List V → List (Addr × W)
  | a :: as, v :: vs => pnds as vs ++ pnd a v
  | _, _ => []
theorem AR.stp (hs : SRel K A σ ρ H F Pn) (st : Stp σ ρ H F σ ρ' H' F') {a : Arg} {v : V} (h : AR K σ H F a v) : AR K σ H' F' a v := by
  cases a with
  | slot i => exact h
  | val w fr => cases fr with
    | true => exact h
    | false => exact st.hr hs h
theorem wOf_eq {i : Nat} {x : W × Fl} : wOf ρ i = some x ↔ ρ[i]? = some (some x) := by
  unfold wOf
  cases h : ρ[i]? with
  | none => simp
  | some y => cases y <;> simp
/-- what a name holds may be read -/
theorem SRel.peek (hs : SRel K A σ ρ H F Pn) {i : Nat} {w : W} {f : Fl} {v : V} (h : wOf ρ i = some (w, f)) (e : σ[i]? = some (some v)) : PkR K H F v w := by
  rw [wOf_eq] at h
  by_cases hf : f = .sh
  · subst hf
    obtain ⟨u, a, b⟩ := hs.sh i w h
    rw [e] at a; cases a
    exact .inl b
  · obtain ⟨u, a, b, c⟩ := hs.ow i w f h hf
    rw [e] at a; cases a
    exact .inr ⟨u, rfl, c⟩
theorem SRel.val (hs : SRel K A σ ρ H F Pn) {i : Nat} {x : W × Fl} (h : wOf ρ i = some x) : ∃ v, σ[i]? = some (some v) := by
  rw [wOf_eq] at h
  obtain ⟨w, f⟩ := x
  by_cases hf : f = .sh
  · subst hf
    obtain ⟨u, a, b⟩ := hs.sh i w h
    exact ⟨u, a⟩
  · obtain ⟨u, a, b, c⟩ := hs.ow i w f h hf
    exact ⟨_, a⟩
theorem AR.peek {P1 : List (Addr × W)} {a : Arg} {v : V} {w : W} (hs : SRel K A σ ρ H F P1) (hp : ∀ p ∈ pnd a v, p ∈ P1) (h : AR K σ H F a v) (e : res ρ a = some w) : PkR K H F v w := by
  cases a with
  | val u fr =>
    obtain rfl : u = w := Option.some.inj e
    cases fr with
    | false => exact .inl h
    | true =>
      obtain ⟨c, rfl⟩ := h
      exact .inr ⟨c, rfl, (hs.pn (c, u) (hp _ (by simp [pnd]))).2.1⟩
  | slot i =>
    simp only [res] at e
    cases q : wOf ρ i with
    | none => rw [q] at e; cases e
    | some x =>
      rw [q] at e
      obtain ⟨x, f⟩ := x
      obtain rfl : x = w := Option.some.inj e
      exact hs.peek q h
inductive PkRs (K : PySem.W.Frag) (H : Hp) (F : Addr → Prop) : List V → List W → Prop
  | nil : PkRs K H F [] []
  | cons {v : V} {w : W} {vs : List V} {ws : List W} : PkR K H F v w → PkRs K H F vs ws → PkRs K H F (v :: vs) (w :: ws)
theorem ARs.peek {P1 : List (Addr × W)} (hs : SRel K A σ ρ H F P1) : ∀ {as : List Arg} {vs : List V} {ws : List W}, (∀ p ∈ pnds as vs, p ∈ P1) → ARs K σ H F as vs → ress ρ as = some ws → PkRs K H F vs ws
  | [], _, _, _, .nil, e => by
    obtain rfl := Option.some.inj e
    exact .nil
  | a :: as, v :: vs, ws, hp, .cons h t, e => by
    unfold ress at e
    cases q1 : res ρ a with
    | none => rw [q1] at e; simp at e
    | some w => cases q2 : ress ρ as with
      | none => rw [q1, q2] at e; simp at e
      | some us =>
        rw [q1, q2] at e
        obtain rfl : w :: us = ws := Option.some.inj e
        exact .cons (h.peek hs (fun p z => hp p (List.mem_append_right _ z)) q1) (t.peek hs (fun p z => hp p (List.mem_append_left _ z)) q2)
theorem ARs.stp (hs : SRel K A σ ρ H F Pn) (st : Stp σ ρ H F σ ρ' H' F') {as : List Arg} {vs : List V} (h : ARs K σ H F as vs) : ARs K σ H' F' as vs := by
  induction h with
  | nil => exact .nil
  | cons a _ ih => exact .cons (a.stp hs st) ih

theorem AR.more (hF : ∀ a, F a → F' a) {a : Arg} {v : V} (h : AR K σ H F a v) : AR K σ H F' a v := by
  cases a with
  | slot i => exact h
  | val w fr => cases fr with
    | true => exact h
    | false => exact HR.more hF h
theorem ARs.more (hF : ∀ a, F a → F' a) {as : List Arg} {vs : List V} (h : ARs K σ H F as vs) : ARs K σ H F' as vs := by
  induction h with
  | nil => exact .nil
  | cons a _ ih => exact .cons (a.more hF) ih

theorem ARs.snoc {as : List Arg} {vs : List V} {a : Arg} {v : V} (h : ARs K σ H F as vs) (q : AR K σ H F a v) : ARs K σ H F (as ++ [a]) (vs ++ [v]) := by
  induction h with
  | nil => exact .cons q .nil
  | cons a _ ih => exact .cons a ih

/-! ### a name's place changes -/
theorem get_set {ρ : Env} {i j : Nat} {x : Option (W × Fl)} (h : i < ρ.length) : (ρ.set i x)[j]? = if j = i then some x else ρ[j]? := by
  by_cases e : j = i
  · subst e; rw [List.getElem?_set_self h, if_pos rfl]
  · rw [List.getElem?_set_ne (Ne.symm e), if_neg e]
theorem lt_of_get {α : Type} {l : List α} {i : Nat} {x : α} (h : l[i]? = some x) : i < l.length := (List.getElem?_eq_some_iff.mp h).1

/-- a name gives its object to everybody -/
theorem SRel.give (hs : SRel K A σ ρ H F Pn) {i : Nat} {w : W} {f : Fl} (nd : isD w = false) (e : ρ[i]? = some (some (w, f))) (hf : f = .own ∨ f = .ownL) {v : V} (ev : σ[i]? = some (some v)) :
    ∃ F', SRel K A σ (ρ.set i (some (w, .sh))) H F' Pn ∧ HR K H F' v w ∧ Stp σ ρ H F σ (ρ.set i (some (w, .sh))) H F' := by
  have ns : f ≠ .sh := by rcases hf with rfl | rfl <;> decide
  obtain ⟨c, eσ, nF, hc⟩ := hs.ow i w f e ns
  rw [ev] at eσ; cases eσ
  have hi := lt_of_get e
  have sl : SlA σ ρ i c := ⟨w, f, e, ns, ev⟩
  have back : ∀ {j : Nat} {a : Addr}, SlA σ (ρ.set i (some (w, .sh))) j a → j ≠ i ∧ SlA σ ρ j a := fun {j a} ⟨w', f', e', n', s'⟩ => by
    rw [get_set hi] at e'
    by_cases q : j = i
    · rw [if_pos q] at e'; cases e'; exact absurd rfl n'
    · rw [if_neg q] at e'; exact ⟨q, w', f', e', n', s'⟩
  refine ⟨fz F c, ⟨by simpa using hs.ln, fun j w' e' => ?_, fun j w' f' e' n' => ?_, fun j w' f' e' q => ?_, fun j k a h1 h2 => hs.dj j k a (back h1).2 (back h2).2, fun p hp => ?_, hs.pd, fun a q => ?_⟩, hc.hr nd, ⟨fun _ _ h _ => h, fun _ => .inl, fun a o h q => ?_, fun a o h q => ?_, fun a o h j q => (back q).2, fun a o h q => ?_, fun _ o h => ⟨o, h⟩⟩⟩
  · rw [get_set hi] at e'
    by_cases q : j = i
    · rw [if_pos q] at e'; cases e'
      subst q
      exact ⟨_, ev, hc.hr nd⟩
    · rw [if_neg q] at e'
      obtain ⟨v, a, b⟩ := hs.sh j w' e'
      exact ⟨v, a, b.more fun _ => .inl⟩
  · rw [get_set hi] at e'
    by_cases q : j = i
    · rw [if_pos q] at e'; cases e'; exact absurd rfl n'
    · rw [if_neg q] at e'
      obtain ⟨a, x, y, z⟩ := hs.ow j w' f' e' n'
      refine ⟨a, x, ?_, z.more fun _ => .inl⟩
      rintro (r | rfl)
      · exact y r
      · exact q (hs.dj j i _ ⟨w', f', e', n', x⟩ sl)
  · rw [get_set hi] at e'
    by_cases r : j = i
    · rw [if_pos r] at e'; cases e'; rcases q with q | q <;> cases q
    · rw [if_neg r] at e'; exact hs.io j w' f' e' q
  · obtain ⟨x, y, z⟩ := hs.pn p hp
    refine ⟨?_, y.more fun _ => .inl, fun j q => z j (back q).2⟩
    rintro (r | r)
    · exact x r
    · exact z i (r ▸ sl)
  · rcases q with q | rfl
    · exact hs.ff a q
    · obtain ⟨vs, r, _⟩ := hc.obj
      exact ⟨_, r⟩
  · rcases q with q | rfl
    · exact .inl q
    · exact .inr ⟨i, sl⟩
  · obtain ⟨j, w', f', e', n', s'⟩ := q
    rw [get_set hi] at e'
    by_cases q : j = i
    · rw [if_pos q] at e'; cases e'; rcases n' with n' | n' <;> cases n'
    · rw [if_neg q] at e'; exact ⟨j, w', f', e', n', s'⟩
  · obtain ⟨j, w', f', e', n', s'⟩ := q
    rw [get_set hi] at e'
    by_cases q : j = i
    · rw [if_pos q] at e'; cases e'; rcases n' with n' | n' <;> cases n'
    · rw [if_neg q] at e'; exact ⟨j, w', f', e', n', s'⟩
/-- an argument becomes a value -/
theorem AR.share {P1 : List (Addr × W)} {a : Arg} {v : V} {w : W} (hs : SRel K A σ ρ H F (P1 ++ pnd a v ++ Pn)) (h : AR K σ H F a v) (e : shr ρ a = some (w, ρ')) :
    ∃ F', SRel K A σ ρ' H F' (P1 ++ Pn) ∧ HR K H F' v w ∧ (∀ a, F a → F' a) ∧ ∀ H0 F0 ρ0, Stp σ ρ0 H0 F0 σ ρ H F → (∀ c x, (c, x) ∈ pnd a v → H0 c = none) → Stp σ ρ0 H0 F0 σ ρ' H F' := by
  cases a with
  | val u fr =>
    obtain ⟨nd, rfl, rfl⟩ : isD u = false ∧ u = w ∧ ρ = ρ' := by simpa [shr] using e
    cases fr with
    | false => exact ⟨F, by simpa [pnd] using hs, h, fun _ q => q, fun _ _ _ st _ => st⟩
    | true =>
      obtain ⟨c, rfl⟩ := h
      have hs' : SRel K A σ ρ H F (P1 ++ (c, u) :: Pn) := by simpa [pnd] using hs
      obtain ⟨x, y⟩ := hs'.freeze nd
      refine ⟨_, x, y, fun _ => .inl, fun H0 F0 ρ0 st hn => ⟨st.kp, fun a q => .inl (st.fr a q), fun a o q r => ?_, st.no, st.ns, st.nw, st.al⟩⟩
      rcases r with r | rfl
      · exact st.nf a o q r
      · rw [hn a u (by simp [pnd])] at q; cases q
  | slot i =>
    have hs' : SRel K A σ ρ H F (P1 ++ Pn) := by simpa [pnd] using hs
    unfold shr at e
    cases q : wOf ρ i with
    | none => simp [q] at e
    | some x =>
      obtain ⟨x, f⟩ := x
      have q' := wOf_eq.mp q
      simp only [q] at e
      cases f with
      | sh =>
        obtain ⟨rfl, rfl⟩ : x = w ∧ ρ = ρ' := by simpa using e
        obtain ⟨u, a, b⟩ := hs'.sh i x q'
        rw [show σ[i]? = some (some v) from h] at a; cases a
        exact ⟨F, hs', b, fun _ z => z, fun _ _ _ st _ => st⟩
      | own =>
        obtain ⟨nd, rfl, rfl⟩ : isD x = false ∧ x = w ∧ ρ.set i (some (x, .sh)) = ρ' := by simpa using e
        obtain ⟨F', a, b, c⟩ := hs'.give nd q' (.inl rfl) h
        exact ⟨F', a, b, c.fr, fun _ _ _ st _ => st.trans c⟩
      | ownL =>
        obtain ⟨nd, rfl, rfl⟩ : isD x = false ∧ x = w ∧ ρ.set i (some (x, .sh)) = ρ' := by simpa using e
        obtain ⟨F', a, b, c⟩ := hs'.give nd q' (.inr rfl) h
        exact ⟨F', a, b, c.fr, fun _ _ _ st _ => st.trans c⟩
      | io => simp at e
      | ioL => simp at e
theorem ARs.share : ∀ {as : List Arg} {vs : List V} {ws : List W} {P1 : List (Addr × W)} {ρ ρ' : Env} {F : Addr → Prop}, SRel K A σ ρ H F (P1 ++ pnds as vs ++ Pn) → ARs K σ H F as vs → shrs ρ as = some (ws, ρ') →
    ∃ F', SRel K A σ ρ' H F' (P1 ++ Pn) ∧ HRs K H F' vs ws ∧ (∀ a, F a → F' a) ∧ ∀ H0 F0 ρ0, Stp σ ρ0 H0 F0 σ ρ H F → (∀ c x, (c, x) ∈ pnds as vs → H0 c = none) → Stp σ ρ0 H0 F0 σ ρ' H F'
  | [], _, _, _, _, _, F, hs, .nil, e => by
    obtain ⟨rfl, rfl⟩ : [] = _ ∧ _ = _ := by simpa [shrs] using e
    exact ⟨F, by simpa [pnds] using hs, .nil, fun _ q => q, fun _ _ _ st _ => st⟩
  | a :: as, v :: vs, ws, P1, ρ, ρ', F, hs, .cons h t, e => by
    unfold shrs at e
    cases q1 : shr ρ a with
    | none => simp [q1] at e
    | some x =>
      obtain ⟨w, ρ1⟩ := x
      cases q2 : shrs ρ1 as with
      | none => simp [q1, q2] at e
      | some y =>
        obtain ⟨us, ρ2⟩ := y
        obtain ⟨rfl, rfl⟩ : w :: us = ws ∧ ρ2 = ρ' := by simpa [q1, q2] using e
        have hs1 : SRel K A σ ρ H F ((P1 ++ pnds as vs) ++ pnd a v ++ Pn) := by simpa [pnds] using hs
        obtain ⟨F1, s1, r1, m1, t1⟩ := h.share hs1 q1
        obtain ⟨F2, s2, r2, m2, t2⟩ := ARs.share s1 (t.more m1) q2
        exact ⟨F2, s2, .cons (r1.more m2) r2, fun c z => m2 c (m1 c z), fun H0 F0 ρ0 st hn => t2 H0 F0 ρ0 (t1 H0 F0 ρ0 st fun c x z => hn c x (by simp [pnds, z])) fun c x z => hn c x (by simp [pnds, z])⟩
end
end Py

namespace Py
open PySem PySem.Spec PyProof.Rows L2
variable [HW]

/-- the result of a rule: as it stood, or one new object -/
inductive Nw (K : PySem.W.Frag) (H : Hp) (F : Addr → Prop) : V → Hp → W → Bool → Prop
  | old {v : V} {w : W} : HR K H F v w → Nw K H F v H w false
  | tup {p : Addr} {vs : List V} {ws : List W} : H p = none → vs.length ≤ szL → HRs K H F vs ws → Nw K H F (.ref p) (upd H p (.tup vs)) (.tup ws) false
  | lst {p : Addr} {vs : List V} {ws : List W} : H p = none → vs.length ≤ szL → HRs K H F vs ws → Nw K H F (.ref p) (upd H p (.lst vs)) (.lst ws) true
def Rs (K : PySem.W.Frag) (H : Hp) (F : Addr → Prop) (Q : VK) (r : W × Bool) : Prop := ∀ v H', Nw K H F v H' r.1 r.2 → Q v H'
/-- two read values in, a value out -/
def r2 (K : PySem.W.Frag) (f : W → W → Option (W × Bool)) : R2 := fun x y H Q => ∃ F w u r, PkR K H F x w ∧ PkR K H F y u ∧ f w u = some r ∧ Rs K H F Q r

section
variable {K : PySem.W.Frag} {H : Hp} {F : Addr → Prop} {Q : VK}
theorem Rs.int {i : Int} (h : Rs K H F Q (.int i, false)) : Q (.int i) H := h _ _ (.old (.int i))
theorem Rs.bl {i : Bool} (h : Rs K H F Q (.bl i, false)) : Q (.bl i) H := h _ _ (.old (.bl i))
theorem opImp {X : Cx} {f : Value → Value → Sem Value} {r r' : R2} (h : OpR X f r) (i : ∀ x y H Q, r' x y H Q → r x y H Q) : OpR X f r' :=
  fun pins s σ H x y v u Q I rx ry q => h pins s σ H x y v u Q I rx ry (i _ _ _ _ q)
end

section
variable {X : Cx}
/-- by the two values' forms -/
theorem opBy {f : Value → Value → Sem Value} {g : W → W → Option (W × Bool)}
    (h : ∀ (w u : W) (r : W × Bool) (F : Addr → Prop) (pins : List (Addr × Obj)) (s : Shared) (σ : L2.St) (H : Hp) (x y : V) (v z : Value) (Q : VK), g w u = some r → Inv X pins σ H s → RelV x v → RelV y z → PkR X.K H F x w → PkR X.K H F y u → Rs X.K H F Q r →
      wpAny (model X.prog X.w) X.A (f v z) (EP X pins σ Q) X.xe s) : OpR X f (r2 X.K g) := by
  intro pins s σ H x y v u Q I rx ry ⟨F, w, u', r, a, b, e, q⟩
  exact h w u' r F pins s σ H x y v u Q e I rx ry a b q

theorem log2_bits {i j : Int} (h : bits i + bits j ≤ bitL) : IntMulOk i j := by
  have e : ∀ x : Int, Builtin.Int.intBits x = bits x := fun x => rfl
  have e2 : bitsLine = 134217728 := by decide
  unfold IntMulOk
  intro z
  rw [Bool.and_eq_true] at z
  have z2 := z.2
  unfold Builtin.Int.intTooBig at z2
  have z3 := of_decide_eq_true z2
  rw [e, e, e2] at z3
  unfold bitL at h
  omega

theorem of_if {α : Type} {c : Prop} [Decidable c] {x r : α} (h : (if c then some x else none) = some r) : c ∧ x = r := by
  by_cases k : c
  · rw [if_pos k] at h; exact ⟨k, Option.some.inj h⟩
  · rw [if_neg k] at h; cases h
theorem of_if' {α : Type} {c : Prop} [Decidable c] {x r : α} (h : (if c then none else some x) = some r) : ¬ c ∧ x = r := by
  by_cases k : c
  · rw [if_pos k] at h; cases h
  · rw [if_neg k] at h; exact ⟨k, Option.some.inj h⟩

theorem s8_len (s : Cs) : (S8 s).length = s.length := by simp [S8, Str.length]
theorem s8_app (x y : Cs) : S8 x ++ S8 y = S8 (x ++ y) := by
  show Str.mk (x.toArray ++ y.toArray) = _
  simp [S8]
theorem strOk_s8 (s : Cs) : PyData.strOk (S8 s) = s.all fun c => decide (c < 0x110000) := by
  show s.toArray.all _ = _
  simp

theorem list_at {pins : List (Addr × Obj)} {σ : L2.St} {H : Hp} {s : Shared} {F : Addr → Prop} {ws : List W} {v : V} (I : Inv X pins σ H s) (h : PkR X.K H F v (.lst ws)) :
    ∃ (a : Addr) (vs : List V) (its : List Value) (n : Nat), v = .ref a ∧ vs.length ≤ szL ∧ HRs X.K H F vs ws ∧ Vals vs its ∧ s.heap.get? a = some { cls := .type "list", data := .seq its.toArray n } := by
  obtain ⟨a, vs, rfl, hq, hz, hr⟩ := h.rd
  obtain ⟨_, its, n, rv, e⟩ := hq.ok I.hok
  exact ⟨a, vs, its, n, rfl, hz, hr, rv, e⟩

theorem op_addW : OpR X (binaryOp .Add) (r2 X.K (opW .add)) := by
  refine opBy fun w u r F pins s σ H x y v z Q e I rx ry a b q => ?_
  cases w with
  | int i => cases u with
    | int j =>
      obtain rfl := Option.some.inj e
      obtain rfl := a.int
      obtain rfl := b.int
      exact op_add pins s σ H _ _ v z Q I rx ry ⟨i, j, rfl, rfl, q.int⟩
    | _ => simp [opW] at e
  | str i => cases u with
    | str j =>
      obtain ⟨hz, rfl⟩ := of_if e
      obtain ⟨rfl, z1, k1⟩ := a.str
      obtain ⟨rfl, z2, k2⟩ := b.str
      refine op_add_str pins s σ H _ _ v z Q I rx ry ⟨_, _, rfl, rfl, by rw [s8_len, s8_len]; exact hz, ?_⟩
      rw [s8_app]
      refine q _ _ (.old (.str _ (by rw [List.length_append]; exact hz) ?_))
      rw [strOk_s8] at k1 k2 ⊢
      rw [List.all_append, k1, k2]; rfl
    | _ => simp [opW] at e
  | tup i => cases u with
    | tup j =>
      obtain ⟨hz, rfl⟩ := of_if e
      obtain ⟨p, xs, rfl, sx, zx, hx⟩ := a.tup
      obtain ⟨p', ys, rfl, sy, zy, hy⟩ := b.tup
      have lx := hx.length
      have ly := hy.length
      refine op_catA pins s σ H _ _ v z Q I rx ry ⟨p, p', xs, ys, rfl, rfl, sx, sy, by rw [lx, ly]; exact hz, fun e => ?_, fun e e' => ?_, fun e e' p hp => ?_⟩
      · subst e
        have := hx.length
        obtain rfl : i = [] := List.eq_nil_of_length_eq_zero (by simpa using this.symm)
        exact q _ _ (.old (.tup sy zy (by simpa using hy)))
      · subst e'
        obtain rfl : j = [] := List.eq_nil_of_length_eq_zero (by simpa using hy.length.symm)
        exact q _ _ (.old (.tup sx zx (by simpa using hx)))
      · exact q _ _ (.tup hp (by rw [List.length_append, lx, ly]; exact hz) (hx.append hy))
    | _ => simp [opW] at e
  | lst i => cases u with
    | lst j =>
      obtain ⟨hz, rfl⟩ := of_if e
      obtain ⟨p, xs, its, n, rfl, zx, hx, rv, ho⟩ := list_at I a
      obtain ⟨p', ys, its', n', rfl, zy, hy, rv', ho'⟩ := list_at I b
      cases rx; cases ry
      have lx := hx.length
      have ly := hy.length
      have l1 := rv.length
      have l2 := rv'.length
      refine PySem.P.add_list ho ho' ?_ (by rw [List.size_toArray, List.size_toArray, ← l1, ← l2, lx, ly]; exact hz)
      have ea : its.toArray ++ its'.toArray = (its ++ its').toArray := by simp
      rw [ea]
      exact ⟨.ref _, _, I.lnew (t' := s.toks) (rv.append rv') (by rw [List.length_append, lx, ly]; exact hz), rfl, q _ _ (.lst I.fresh (by rw [List.length_append, lx, ly]; exact hz) (hx.append hy))⟩
    | _ => simp [opW] at e
  | _ => cases u <;> simp [opW] at e
theorem op_subW : OpR X (binaryOp .Sub) (r2 X.K (opW .sub)) := by
  refine opBy fun w u r F pins s σ H x y v z Q e I rx ry a b q => ?_
  cases w with
  | int i => cases u with
    | int j =>
      obtain rfl := Option.some.inj e
      obtain rfl := a.int
      obtain rfl := b.int
      exact op_sub pins s σ H _ _ v z Q I rx ry ⟨i, j, rfl, rfl, q.int⟩
    | _ => simp [opW] at e
  | _ => cases u <;> simp [opW] at e
theorem op_mdW : OpR X (binaryOp .Mod) (r2 X.K (opW .md)) := by
  refine opBy fun w u r F pins s σ H x y v z Q e I rx ry a b q => ?_
  cases w with
  | int i => cases u with
    | int j =>
      obtain ⟨hz, rfl⟩ := of_if' e
      obtain rfl := a.int
      obtain rfl := b.int
      exact op_modN pins s σ H _ _ v z Q I rx ry ⟨i, j, rfl, rfl, hz, q.int⟩
    | _ => simp [opW] at e
  | _ => cases u <;> simp [opW] at e
theorem op_fdW : OpR X (binaryOp .FloorDiv) (r2 X.K (opW .fdv)) := by
  refine opBy fun w u r F pins s σ H x y v z Q e I rx ry a b q => ?_
  cases w with
  | int i => cases u with
    | int j =>
      obtain ⟨⟨hz, hy⟩, rfl⟩ := of_if e
      obtain rfl := a.int
      obtain rfl := b.int
      obtain ⟨t, rfl⟩ := rx
      obtain ⟨t', rfl⟩ := ry
      exact floordiv_int hz ⟨.int _, H, I.tok _, ⟨_, rfl⟩, q.int⟩ (.inl hy)
    | _ => simp [opW] at e
  | _ => cases u <;> simp [opW] at e
theorem rep_rs {K : PySem.W.Frag} {H : Hp} {F : Addr → Prop} {vs : List V} {ws : List W} (h : HRs K H F vs ws) : ∀ n, HRs K H F (List.replicate n vs).flatten (rep ws n)
  | 0 => by unfold rep; simp; exact .nil
  | n + 1 => by
    unfold rep
    simp only [List.replicate_succ, List.flatten_cons]
    exact h.append (rep_rs h n)
theorem op_mulW : OpR X (binaryOp .Mult) (r2 X.K (opW .mul)) := by
  refine opBy fun w u r F pins s σ H x y v z Q e I rx ry a b q => ?_
  cases w with
  | int i => cases u with
    | int j =>
      obtain ⟨hz, rfl⟩ := of_if e
      obtain rfl := a.int
      obtain rfl := b.int
      obtain ⟨t, rfl⟩ := rx
      obtain ⟨t', rfl⟩ := ry
      exact mul_int ⟨.int _, H, I.tok _, ⟨_, rfl⟩, q.int⟩ (log2_bits hz)
    | _ => simp [opW] at e
  | tup i => cases u with
    | int k =>
      obtain ⟨⟨⟨h1, h2⟩, h3, h4⟩, rfl⟩ := of_if e
      obtain ⟨p, xs, rfl, sx, zx, hx⟩ := a.tup
      obtain rfl := b.int
      have lx := hx.length
      have hne : xs ≠ [] := fun e => h4 (List.eq_nil_of_length_eq_zero (by rw [← lx, e]; rfl))
      refine op_repT pins s σ H _ _ v z Q I rx ry ⟨p, k, xs, rfl, rfl, sx, hne, h1, h2, by omega, fun p hp => q _ _ (.tup hp ?_ (rep_rs hx _))⟩
      have := (rep_rs hx k.toNat).length
      rw [PyProof.Rows.lm_len_rep_flat]
      have : k.toNat * xs.length ≤ 1000 * 1000 := Nat.mul_le_mul (by omega) (by omega)
      unfold szL; omega
    | _ => simp [opW] at e
  | lst i => cases u with
    | int k =>
      obtain ⟨⟨hz, h1, h2⟩, rfl⟩ := of_if e
      obtain ⟨p, xs, its, n, rfl, zx, hx, r, ho⟩ := list_at I a
      obtain rfl := b.int
      have lx := hx.length
      have hl := r.length
      cases rx
      obtain ⟨t, rfl⟩ := ry
      have hlen : its.toArray.size * k.toNat ≤ sizeLine := by rw [List.size_toArray, ← hl, lx]; exact hz
      have hcap : ¬ its.toArray.size * k.toNat > (2 ^ 63 - 1) / 8 := by
        have : (sizeLine : Nat) ≤ (2 ^ 63 - 1) / 8 := by decide
        omega
      have hfit : ¬ (!Builtin.List.listFitsIndex k) = true := by
        rw [fitsIndex_both (by omega) (by unfold szL at h2; omega)]
        exact Bool.false_ne_true
      have hlong : ¬ Builtin.List.listTooLong (its.toArray.size * k.toNat) = true := by
        rw [notLongL hlen]
        exact Bool.false_ne_true
      have hnew : List.foldl (fun x1 x2 => x1 ++ x2) #[] (List.replicate (if its.toArray.isEmpty = true then 0 else k.toNat) its.toArray) = (List.replicate k.toNat its).flatten.toArray := by
        rw [L2.size_rep]
        cases its with
        | nil => simp
        | cons a r' => rw [if_neg (by simp)]
      refine wpAny_binaryOp_repeat_ref (T := "list") (U := "int") (by decide) ⟨_, ho, rfl⟩ (fun s' => typeIs_int s' k t) noFill_list_mul PySem.F.fills_int_mul PySem.F.slot_int_rmul repeat_list PySem.F.slot_int_index.lookup
        (call_meets PySem.F.slot_int_rmul (typeIs_int s k t) PySem.F.entry_int_rmul (PySem.F.args_int_rmul_2 _ _) (int___rmul___int_list k t p its.toArray n)
          ⟨ho, rfl, ⟨_, ho, rfl⟩, call_meets PySem.F.slot_list_mul ⟨_, ho, rfl⟩ PySem.F.entry_list_mul (PySem.F.args_list_mul_2 _ _) (AutoListH.list___mul___list_int_3 p its.toArray n k t hfit hcap hlong) ⟨ho, ?_⟩⟩)
      rw [hnew]
      have hz' : (List.replicate k.toNat xs).flatten.length ≤ szL := by rw [PyProof.Rows.lm_len_rep_flat, Nat.mul_comm, lx]; exact hz
      exact ⟨.ref _, _, I.lnew (t' := s.toks) (r.rep k.toNat) hz', rfl, q _ _ (.lst I.fresh hz' (rep_rs hx _))⟩
    | _ => simp [opW] at e
  | _ => cases u <;> simp [opW] at e
end
end Py

namespace Py
open PySem PySem.Spec PyProof.Rows L2
variable [HW]
section
variable {X : Cx} {pins : List (Addr × Obj)} {s : Shared} {σ : Sg} {H : Hp} {F : Addr → Prop}
mutual
/-- a key's tuples as they stand -/
theorem nested_of (I : Inv X pins σ H s) : ∀ {w : W} {v : V} {k : NestedKey} {u : Value}, HR X.K H F v w → nk w = some k → RelV v u → NestedIs s.heap k u
  | .non, v, k, u, h, e, r => by cases h; cases e; cases r; exact .none
  | .bl b, v, k, u, h, e, r => by cases h; cases e; cases r; exact .bool rfl
  | .int i, v, k, u, h, e, r => by cases h; cases e; obtain ⟨t, rfl⟩ := r; exact .int i t
  | .str z, v, k, u, h, e, r => by cases h; cases e; obtain ⟨t, rfl⟩ := r; exact .text _ t
  | .tup ws, v, k, u, h, e, r => by
    cases h with
    | tup a b c =>
      simp only [nk] at e
      obtain ⟨ks, e1, rfl⟩ := Option.map_eq_some_iff.mp e
      cases r
      obtain ⟨its, rv, ⟨o, e2, e3, n, e4⟩, _⟩ := I.tuple a
      exact .tup e2 e3 e4 (by simpa using nesteds_of I c e1 rv)
  | .lst _, v, k, u, h, e, r => by cases e
  | .dct _, v, k, u, h, e, r => by cases e
  | .st _, v, k, u, h, e, r => by cases e
theorem nesteds_of (I : Inv X pins σ H s) : ∀ {ws : List W} {vs : List V} {ks : List NestedKey} {us : List Value}, HRs X.K H F vs ws → nks ws = some ks → Vals vs us → NestedAll s.heap ks us
  | [], vs, ks, us, h, e, r => by cases h; cases e; cases r; exact .nil
  | w :: ws, vs, ks, us, h, e, r => by
    cases h with
    | cons a b =>
      cases r with
      | cons r1 r2 =>
        simp only [nks] at e
        split at e
        · rename_i k l e1 e2
          cases e
          exact .cons (nested_of I a e1 r1) (nesteds_of I b e2 r2)
        · cases e
end

/-- a dict of tuples as it stands -/
inductive XR (K : PySem.W.Frag) (H : Hp) (F : Addr → Prop) : List (NestedKey × Addr × Value) → List (W × W) → Prop
  | nil : XR K H F [] []
  | cons {k : NestedKey} {b : Addr} {v : V} {u : Value} {ws : List W} {w : W} {xs : List (NestedKey × Addr × Value)} {kvs : List (W × W)} : nk (.tup ws) = some k → k.depth ≤ 8 → HR K H F (.ref b) (.tup ws) → HR K H F v w → RelV v u → XR K H F xs kvs → XR K H F ((k, b, u) :: xs) ((.tup ws, w) :: kvs)
/-- a dict of numbers as it stands -/
inductive IR (K : PySem.W.Frag) (H : Hp) (F : Addr → Prop) : List (Int × Value) → List (W × W) → Prop
  | nil : IR K H F [] []
  | cons {i : Int} {v : V} {u : Value} {w : W} {xs : List (Int × Value)} {kvs : List (W × W)} : HR K H F v w → RelV v u → IR K H F xs kvs → IR K H F ((i, u) :: xs) ((.int i, w) :: kvs)
def toX (x : NestedKey × Addr × Value) : DictEntry := ⟨x.1.hash HW.w, .ref x.2.1, x.2.2⟩
theorem xr_of {K : PySem.W.Frag} {H : Hp} {F : Addr → Prop} {es : DEs} {kvs : List (W × W)} (h : DRel K H F es kvs) : ∀ {l : List DictEntry}, allT kvs = true → EntR es l → ∃ xs, l = xs.map toX ∧ XR K H F xs kvs ∧ xs.map (·.1) = es.map (·.1) := by
  induction h with
  | nil => intro l _ e; cases e; exact ⟨[], rfl, .nil, rfl⟩
  | @cons k b v ws w es kvs a c d e _ ih =>
    intro l t r
    cases r with
    | @cons _ _ _ x y _ l' r1 r2 r3 =>
      obtain ⟨xs, e1, e2, e3⟩ := ih (by simpa [allT, isT] using t) r3
      have r1 : x = .ref b := r1
      subst r1
      exact ⟨(k, b, y) :: xs, by rw [e1]; rfl, .cons a c d e r2 e2, by simp [e3]⟩
  | consI _ _ _ => intro l t; simp [allT, isT] at t
theorem xr_to {K : PySem.W.Frag} {H : Hp} {F : Addr → Prop} {xs : List (NestedKey × Addr × Value)} {kvs : List (W × W)} (h : XR K H F xs kvs) : ∃ es, DRel K H F es kvs ∧ EntR es (xs.map toX) ∧ es.map (·.1) = xs.map (·.1) := by
  induction h with
  | nil => exact ⟨[], .nil, .nil, rfl⟩
  | @cons k b v u ws w xs kvs a c d e f _ ih =>
    obtain ⟨es, e1, e2, e3⟩ := ih
    exact ⟨(k, .ref b, v) :: es, .cons a c d e e1, .cons rfl f e2, by simp [e3]⟩
theorem XR.length {K : PySem.W.Frag} {H : Hp} {F : Addr → Prop} {xs : List (NestedKey × Addr × Value)} {kvs : List (W × W)} (h : XR K H F xs kvs) : xs.length = kvs.length := by
  induction h with
  | nil => rfl
  | cons _ _ _ _ _ _ ih => simp [ih]
theorem IR.length {K : PySem.W.Frag} {H : Hp} {F : Addr → Prop} {xs : List (Int × Value)} {kvs : List (W × W)} (h : IR K H F xs kvs) : xs.length = kvs.length := by
  induction h with
  | nil => rfl
  | cons _ _ _ ih => simp [ih]
/-- the entries of a dict of numbers -/
inductive IE : List (Int × Value) → List DictEntry → Prop
  | nil : IE [] []
  | cons {i : Int} {u : Value} {t : Tok} {xs : List (Int × Value)} {l : List DictEntry} : IE xs l → IE ((i, u) :: xs) (⟨hashInt i, .int i t, u⟩ :: l)
theorem ir_of {K : PySem.W.Frag} {H : Hp} {F : Addr → Prop} {es : DEs} {kvs : List (W × W)} (h : DRel K H F es kvs) : ∀ {l : List DictEntry}, allI kvs = true → EntR es l → ∃ xs, IE xs l ∧ IR K H F xs kvs ∧ es.map (·.1) = xs.map (fun x => NestedKey.num x.1) := by
  induction h with
  | nil => intro l _ e; cases e; exact ⟨[], .nil, .nil, rfl⟩
  | cons _ _ _ _ _ _ => intro l t; simp [allI, isI] at t
  | @consI i v w es kvs e _ ih =>
    intro l t r
    cases r with
    | @cons _ _ _ x y _ l' r1 r2 r3 =>
      obtain ⟨xs, e1, e2, e3⟩ := ih (by simpa [allI, isI] using t) r3
      obtain ⟨tk, rfl⟩ := (show ∃ t, x = .int i t from r1)
      exact ⟨(i, y) :: xs, .cons e1, .cons e r2 e2, by simp [e3]⟩
theorem ir_to {K : PySem.W.Frag} {H : Hp} {F : Addr → Prop} {xs : List (Int × Value)} {kvs : List (W × W)} (h : IR K H F xs kvs) : ∀ {l : List DictEntry}, IE xs l → ∃ es, DRel K H F es kvs ∧ EntR es l ∧ es.map (·.1) = xs.map (fun x => NestedKey.num x.1) := by
  induction h with
  | nil => intro l e; cases e; exact ⟨[], .nil, .nil, rfl⟩
  | @cons i v u w xs kvs a b _ ih =>
    intro l e
    cases e with
    | cons e1 =>
      obtain ⟨es, e1, e2, e3⟩ := ih e1
      exact ⟨(.num i, .int i, v) :: es, .consI a e1, .cons ⟨_, rfl⟩ b e2, by simp [e3]⟩
theorem ie_pairs {P : Program} {w : World} {xs : List (Int × Value)} {l : List DictEntry} (h : IE xs l) : Pairs (intKind P w) l xs := by
  induction h with
  | nil => exact .nil
  | cons _ ih => exact .cons (by simp [intKind, Value.isInt]) rfl ih
theorem ie_keys {P : Program} {w : World} {xs : List (Int × Value)} {l : List DictEntry} (h : IE xs l) : ∀ e ∈ l, ∃ k, (intKind P w).is k e.key = true ∧ e.hash = (intKind P w).hash k := by
  induction h with
  | nil => intro e h; cases h
  | @cons i u t xs l _ ih =>
    intro e h
    rcases List.mem_cons.mp h with rfl | h
    · exact ⟨i, by simp [intKind, Value.isInt], rfl⟩
    · exact ih e h
theorem ie_of {P : Program} {w : World} {xs : List (Int × Value)} {l : List DictEntry} (h : Pairs (intKind P w) l xs) : (∀ e ∈ l, ∃ k, (intKind P w).is k e.key = true ∧ e.hash = (intKind P w).hash k) → IE xs l := by
  induction h with
  | nil => intro _; exact .nil
  | @cons e kv es kvs h1 h2 _ ih =>
    intro g
    obtain ⟨k, k1, k2⟩ := g e (List.mem_cons_self ..)
    obtain ⟨i, v⟩ := kv
    obtain ⟨eh, ek, ev⟩ := e
    obtain ⟨t, ht⟩ := Value.isInt_shape h1
    have ht : ek = .int i t := ht
    subst ht
    have h2 : ev = v := h2
    subst h2
    have : k = i := (intKind P w).inj _ _ _ k1 h1
    subst this
    have k2 : eh = hashInt k := k2
    subst k2
    exact .cons (ih fun e he => g e (List.mem_cons_of_mem _ he))
theorem xr_is {K : PySem.W.Frag} (I : Inv X pins σ H s) {xs : List (NestedKey × Addr × Value)} {kvs : List (W × W)} (h : XR X.K H F xs kvs) : ∀ x ∈ xs, NestedIs s.heap x.1 (.ref x.2.1) ∧ x.1.depth ≤ 8 := by
  induction h with
  | nil => intro x hx; cases hx
  | cons a b c d _ _ ih =>
    intro x hx
    rcases List.mem_cons.mp hx with rfl | hx
    · exact ⟨nested_of I c a rfl, b⟩
    · exact ih x hx
theorem nodup_num {xs : List (Int × Value)} : (xs.map (fun x => NestedKey.num x.1)).Nodup ↔ (xs.map (·.1)).Nodup := by
  induction xs with
  | nil => simp
  | cons x r ih => simp only [List.map_cons, List.nodup_cons, ih, List.mem_map, NestedKey.num.injEq]
theorem dict_of (hw : HW.P = X.prog ∧ HW.w = X.w) (I : Inv X pins σ H s) {a : Addr} {es : DEs} {ep : Nat} {kvs : List (W × W)} (hH : H a = some (dcO a es ep)) (hr : DRel X.K H F es kvs) (nd : (es.map (·.1)).Nodup) (ht : allT kvs = true) :
    (a == sysModules) = false ∧ ∃ xs, XR X.K H F xs kvs ∧ s.heap.DictOfH (nestedKind X.prog X.w) a xs := by
  obtain ⟨⟨h1, o, l, h2, h3, h4, h5⟩, _⟩ := I.hok a _ hH
  obtain ⟨xs, e1, e2, e3⟩ := xr_of hr ht h5
  refine ⟨h1, xs, e2, o, l, ep, h2, h3, h4, ?_, fun x hx => xr_is (K := X.K) I e2 x hx, by rw [e3]; exact nd⟩
  rw [e1]
  unfold toX entryOfKey
  rw [hw.2]
  rfl
theorem dict_ofI (I : Inv X pins σ H s) {a : Addr} {es : DEs} {ep : Nat} {kvs : List (W × W)} (hH : H a = some (dcO a es ep)) (hr : DRel X.K H F es kvs) (nd : (es.map (·.1)).Nodup) (ht : allI kvs = true) :
    (a == sysModules) = false ∧ ∃ xs, IR X.K H F xs kvs ∧ s.heap.DictOf (intKind X.prog X.w) a xs := by
  obtain ⟨⟨h1, o, l, h2, h3, h4, h5⟩, _⟩ := I.hok a _ hH
  obtain ⟨xs, e1, e2, e3⟩ := ir_of hr ht h5
  refine ⟨h1, xs, e2, o, l, ep, h2, h3, h4, fun e he => ie_keys e1 e (by simpa using he), ie_pairs e1, ?_⟩
  rw [e3] at nd
  exact nodup_num.mp nd
end
mutual
/-- keys are equal as the values are -/
theorem eq_nk : ∀ {a b : W} {x y : NestedKey}, nk a = some x → nk b = some y → eqW a b = NestedKey.beq x y
  | .non, b, x, y, h, k => by
    cases h
    cases b with
    | tup l => simp only [nk] at k; obtain ⟨_, _, rfl⟩ := Option.map_eq_some_iff.mp k; rfl
    | non => cases k; rfl
    | bl _ => cases k; rfl
    | int _ => cases k; rfl
    | str _ => cases k; rfl
    | lst _ => cases k
    | dct _ => cases k
    | st _ => cases k
  | .bl a, b, x, y, h, k => by
    cases h
    cases b with
    | tup l => simp only [nk] at k; obtain ⟨_, _, rfl⟩ := Option.map_eq_some_iff.mp k; rfl
    | non => cases k; rfl
    | bl b => cases k; cases a <;> cases b <;> rfl
    | int j => cases k; rfl
    | str _ => cases k; rfl
    | lst _ => cases k
    | dct _ => cases k
    | st _ => cases k
  | .int i, b, x, y, h, k => by
    cases h
    cases b with
    | tup l => simp only [nk] at k; obtain ⟨_, _, rfl⟩ := Option.map_eq_some_iff.mp k; rfl
    | non => cases k; rfl
    | bl b => cases k; rfl
    | int j => cases k; rfl
    | str _ => cases k; rfl
    | lst _ => cases k
    | dct _ => cases k
    | st _ => cases k
  | .str s, b, x, y, h, k => by
    cases h
    cases b with
    | tup l => simp only [nk] at k; obtain ⟨_, _, rfl⟩ := Option.map_eq_some_iff.mp k; rfl
    | non => cases k; rfl
    | bl b => cases k; rfl
    | int j => cases k; rfl
    | str t =>
      cases k
      show (s == t) = decide (S8 s = S8 t)
      rw [← s8_beq]
      by_cases q : S8 s = S8 t
      · rw [decide_eq_true q, q]; simp
      · rw [decide_eq_false q]; simpa using q
    | lst _ => cases k
    | dct _ => cases k
    | st _ => cases k
  | .tup ws, b, x, y, h, k => by
    simp only [nk] at h
    obtain ⟨ks, e1, rfl⟩ := Option.map_eq_some_iff.mp h
    cases b <;> simp only [nk] at k <;> first | (cases k; done) | skip
    case non => cases k; rfl
    case bl => cases k; rfl
    case int => cases k; rfl
    case str => cases k; rfl
    obtain ⟨ls, e2, rfl⟩ := Option.map_eq_some_iff.mp k
    simp only [eqW, NestedKey.beq]
    exact eqs_nk e1 e2
  | .lst _, b, x, y, h, k => by cases h
  | .dct _, b, x, y, h, k => by cases h
  | .st _, b, x, y, h, k => by cases h
theorem eqs_nk : ∀ {a b : List W} {x y : List NestedKey}, nks a = some x → nks b = some y → eqWs a b = NestedKey.beqAll x y
  | [], b, x, y, h, k => by
    cases h
    cases b with
    | nil => cases k; rfl
    | cons w r =>
      simp only [nks] at k
      split at k
      · cases k; rfl
      · cases k
  | w :: r, b, x, y, h, k => by
    simp only [nks] at h
    split at h
    · rename_i k1 l1 e1 e2
      cases h
      cases b with
      | nil => cases k; rfl
      | cons w' r' =>
        simp only [nks] at k
        split at k
        · rename_i k2 l2 e3 e4
          cases k
          simp only [eqWs, NestedKey.beqAll, eq_nk e1 e3, eqs_nk e2 e4]
        · cases k
    · cases h
end
theorem at_dct {K : PySem.W.Frag} {H : Hp} {F : Addr → Prop} {kw : W} {k : NestedKey} (hk : nk kw = some k) {xs : List (NestedKey × Addr × Value)} {kvs : List (W × W)} (hr : XR K H F xs kvs) :
    (∀ w, lkW kw kvs = some w → ∃ b v u, atKey xs k = some (b, u) ∧ RelV v u ∧ HR K H F v w) ∧ (lkW kw kvs = none → atKey xs k = none) := by
  induction hr with
  | nil =>
    refine ⟨fun w h => ?_, fun _ => ?_⟩
    · cases h
    · simp [atKey]
  | @cons k' b v u ws w xs kvs a c d e r1 _ ih =>
    obtain ⟨i1, i2⟩ := ih
    have eq : eqW (.tup ws) kw = decide (k' = k) := by rw [eq_nk a hk, NestedKey.decide_eq]
    by_cases q : k' = k
    · rw [decide_eq_true q] at eq
      refine ⟨fun w' h => ?_, fun h => ?_⟩
      · simp only [lkW, eq, if_true] at h
        cases h
        exact ⟨b, v, u, by simp [atKey, q], r1, e⟩
      · simp only [lkW, eq, if_true] at h; cases h
    · rw [decide_eq_false q] at eq
      simp only [lkW, eq, Bool.false_eq_true, if_false]
      have z : atKey ((k', b, u) :: xs) k = atKey xs k := by simp [atKey, List.find?_cons, q]
      rw [z]
      exact ⟨i1, i2⟩
theorem at_int {K : PySem.W.Frag} {H : Hp} {F : Addr → Prop} {k : Int} {xs : List (Int × Value)} {kvs : List (W × W)} (hr : IR K H F xs kvs) :
    (∀ w, lkW (.int k) kvs = some w → ∃ v u, valueAt xs k = some u ∧ RelV v u ∧ HR K H F v w) ∧ (lkW (.int k) kvs = none → valueAt xs k = none) := by
  induction hr with
  | nil =>
    refine ⟨fun w h => ?_, fun _ => ?_⟩
    · cases h
    · simp [valueAt]
  | @cons i v u w xs kvs e r1 _ ih =>
    obtain ⟨i1, i2⟩ := ih
    by_cases q : i = k
    · subst q
      refine ⟨fun w' h => ?_, fun h => ?_⟩
      · simp only [lkW, eqW, beq_self_eq_true, if_true] at h
        cases h
        exact ⟨v, u, by simp [valueAt], r1, e⟩
      · simp [lkW, eqW] at h
    · have eq : (i == k) = false := beq_eq_false_iff_ne.mpr q
      simp only [lkW, eqW, eq, Bool.false_eq_true, if_false]
      have z : valueAt ((i, u) :: xs) k = valueAt xs k := by simp [valueAt, List.find?_cons, q]
      rw [z]
      exact ⟨i1, i2⟩

mutual
theorem nk_of : ∀ {w : W}, hsb w = true → ∃ k, nk w = some k ∧ k.depth ≤ dep w
  | .non, _ => ⟨_, rfl, Nat.le_refl _⟩
  | .bl _, _ => ⟨_, rfl, Nat.le_refl _⟩
  | .int _, _ => ⟨_, rfl, Nat.le_refl _⟩
  | .str _, _ => ⟨_, rfl, Nat.le_refl _⟩
  | .tup ws, h => by
    obtain ⟨ks, e, d⟩ := nks_of (ws := ws) (by simpa [hsb] using h)
    exact ⟨.tup ks, by simp [nk, e], by simp only [NestedKey.depth, dep]; omega⟩
  | .lst _, h => by simp [hsb] at h
  | .dct _, h => by simp [hsb] at h
  | .st _, h => by simp [hsb] at h
theorem nks_of : ∀ {ws : List W}, hsbs ws = true → ∃ ks, nks ws = some ks ∧ NestedKey.depthAll ks ≤ deps ws
  | [], _ => ⟨[], rfl, Nat.le_refl _⟩
  | w :: ws, h => by
    simp only [hsbs, Bool.and_eq_true] at h
    obtain ⟨k, e, d⟩ := nk_of h.1
    obtain ⟨ks, e', d'⟩ := nks_of h.2
    exact ⟨k :: ks, by simp [nks, e, e'], by simp only [NestedKey.depthAll, deps]; omega⟩
end
theorem hkW_of {w : W} (h : hkW w = true) : ∃ ws k, w = .tup ws ∧ nk (.tup ws) = some k ∧ k.depth ≤ 8 := by
  unfold hkW at h
  rw [Bool.and_eq_true, Bool.and_eq_true] at h
  obtain ⟨h1, h2, h3⟩ := h
  cases w <;> first | (cases h1; done) | skip
  rename_i ws
  obtain ⟨k, e, d⟩ := nk_of h2
  exact ⟨ws, k, rfl, e, Nat.le_trans d (of_decide_eq_true h3)⟩

section
variable {X : Cx} {pins : List (Addr × Obj)} {s : Shared} {σ : Sg} {H : Hp} {F : Addr → Prop}
/-- a key as it stands -/
theorem key_at (I : Inv X pins σ H s) {y : V} {kw : W} {u : Value} (h : PkR X.K H F y kw) (hk : hkW kw = true) (r : RelV y u) :
    ∃ ws k b, kw = .tup ws ∧ nk (.tup ws) = some k ∧ k.depth ≤ 8 ∧ y = .ref b ∧ u = .ref b ∧ (nestedKind X.prog X.w).is s.heap k b ∧ HR X.K H F (.ref b) (.tup ws) := by
  obtain ⟨ws, k, rfl, e, d⟩ := hkW_of hk
  rcases h with h | ⟨c, _, h⟩
  · obtain ⟨b, _, rfl, _⟩ := h.tupI
    cases r
    exact ⟨ws, k, b, rfl, e, d, rfl, rfl, ⟨nested_of I h e rfl, d⟩, h⟩
  · exact h.elim
theorem room_d (hu : X.A.units + 200 < cLine) : (nestedKind X.prog X.w).room X.A.in1 := by
  show X.A.in1.units + 8 < cLine
  rw [Around.in1_units]
  omega
theorem kOk_of {w : W} {kvs : List (W × W)} (h : kOk w kvs = true) : (hkW w = true ∧ allT kvs = true) ∨ ∃ i, w = .int i ∧ allI kvs = true := by
  unfold kOk at h
  rcases Bool.or_eq_true_iff.mp h with h | h
  · exact .inl (Bool.and_eq_true_iff.mp h)
  · obtain ⟨a, b⟩ := Bool.and_eq_true_iff.mp h
    cases w <;> first | (cases a; done) | skip
    exact .inr ⟨_, rfl, b⟩
theorem int_is {i : Int} {v : Value} {P : Program} {w : World} (h : RelV (.int i) v) : (intKind P w).is i v = true := by
  obtain ⟨t, rfl⟩ := h
  simp [intKind, Value.isInt]
theorem in_dct {Q : VK} (hw : HW.P = X.prog ∧ HW.w = X.w) (hu : X.A.units + 200 < cLine) (I : Inv X pins σ H s) {x y : V} {v z : Value} {w : W} {kvs : List (W × W)} (a : PkR X.K H F x w) (b : PkR X.K H F y (.dct kvs)) (hk : kOk w kvs = true) (rx : RelV x v) (ry : RelV y z)
    (q : Q (.bl ((lkW w kvs).isSome)) H) : wpAny (model X.prog X.w) X.A (compareOp .In v z) (EP X pins σ Q) X.xe s := by
  obtain ⟨p, es, rfl, ⟨ep, hH⟩, hz, nd, hr⟩ := b.dct
  cases ry
  rcases kOk_of hk with ⟨hk, ht⟩ | ⟨i, rfl, ht⟩
  · obtain ⟨ws, k, c, rfl, e, d, rfl, rfl, is, _⟩ := key_at I a hk rx
    obtain ⟨hs, xs, hx, dd⟩ := dict_of hw I hH hr nd ht
    obtain ⟨g1, g2⟩ := at_dct e hx
    refine wpAny_in_heap (room_d hu) is hs dd ⟨.bl _, _, I.tok _, rfl, ?_⟩
    cases h : lkW (.tup ws) kvs with
    | some w' =>
      obtain ⟨b', v', u', e2, _⟩ := g1 _ h
      rw [e2]; rw [h] at q; exact q
    | none =>
      rw [g2 h]; rw [h] at q; exact q
  · obtain ⟨hs, xs, hx, dd⟩ := dict_ofI I hH hr nd ht
    obtain ⟨g1, g2⟩ := at_int (k := i) hx
    cases a.int
    refine wpAny_in_of (int_is rx) hs dd.mapOf ⟨.bl _, _, I.tok _, rfl, ?_⟩
    cases h : lkW (.int i) kvs with
    | some w' =>
      obtain ⟨v', u', e2, _⟩ := g1 _ h
      rw [e2]; rw [h] at q; exact q
    | none =>
      rw [g2 h]; rw [h] at q; exact q
theorem nin_dct {Q : VK} (hw : HW.P = X.prog ∧ HW.w = X.w) (hu : X.A.units + 200 < cLine) (I : Inv X pins σ H s) {x y : V} {v z : Value} {w : W} {kvs : List (W × W)} (a : PkR X.K H F x w) (b : PkR X.K H F y (.dct kvs)) (hk : kOk w kvs = true) (rx : RelV x v) (ry : RelV y z)
    (q : Q (.bl (!(lkW w kvs).isSome)) H) : wpAny (model X.prog X.w) X.A (compareOp .NotIn v z) (EP X pins σ Q) X.xe s := by
  obtain ⟨p, es, rfl, ⟨ep, hH⟩, hz, nd, hr⟩ := b.dct
  cases ry
  rcases kOk_of hk with ⟨hk, ht⟩ | ⟨i, rfl, ht⟩
  · obtain ⟨ws, k, c, rfl, e, d, rfl, rfl, is, _⟩ := key_at I a hk rx
    obtain ⟨hs, xs, hx, dd⟩ := dict_of hw I hH hr nd ht
    obtain ⟨g1, g2⟩ := at_dct e hx
    refine wpAny_bind (wpAny_contains_heap (room_d hu) is hs dd (wpAny_pure ⟨.bl _, _, I.tok _, rfl, ?_⟩))
    cases h : lkW (.tup ws) kvs with
    | some w' =>
      obtain ⟨b', v', u', e2, _⟩ := g1 _ h
      rw [e2]; rw [h] at q; exact q
    | none =>
      rw [g2 h]; rw [h] at q; exact q
  · obtain ⟨hs, xs, hx, dd⟩ := dict_ofI I hH hr nd ht
    obtain ⟨g1, g2⟩ := at_int (k := i) hx
    cases a.int
    refine wpAny_notIn_of (int_is rx) hs dd.mapOf ⟨.bl _, _, I.tok _, rfl, ?_⟩
    cases h : lkW (.int i) kvs with
    | some w' =>
      obtain ⟨v', u', e2, _⟩ := g1 _ h
      rw [e2]; rw [h] at q; exact q
    | none =>
      rw [g2 h]; rw [h] at q; exact q
theorem ix_dct {Q : VK} {value slice : Expr} (hw : HW.P = X.prog ∧ HW.w = X.w) (hu : X.A.units + 200 < cLine) (I : Inv X pins σ H s) {x y : V} {v z : Value} {w r : W} {kvs : List (W × W)} (a : PkR X.K H F y w) (b : PkR X.K H F x (.dct kvs)) (hk : kOk w kvs = true) (rx : RelV x v) (ry : RelV y z)
    (h : lkW w kvs = some r) (q : ∀ r', HR X.K H F r' r → Q r' H) (hs : subscripted slice false v z = operate [v, z] (getItem v z)) : wpAny (model X.prog X.w) X.A (subscriptTail value slice v z) (EP X pins σ Q) X.xe s := by
  obtain ⟨p, es, rfl, ⟨ep, hH⟩, hz, nd, hr⟩ := b.dct
  cases rx
  rcases kOk_of hk with ⟨hk, ht⟩ | ⟨i, rfl, ht⟩
  · obtain ⟨ws, k, c, rfl, e, d, rfl, rfl, is, _⟩ := key_at I a hk ry
    obtain ⟨hs', xs, hx, dd⟩ := dict_of hw I hH hr nd ht
    obtain ⟨b', v', u', e2, e3, e4⟩ := (at_dct e hx).1 _ h
    exact subscriptTail_builtinR (x := u') dd.typeIs slot_dict_getitem.lookup (wpAny_getItem_heap (room_d hu) is dd e2 ⟨rfl, v', _, I.tok _, e3, q _ e4⟩) hs
  · obtain ⟨hs', xs, hx, dd⟩ := dict_ofI I hH hr nd ht
    obtain ⟨v', u', e2, e3, e4⟩ := (at_int (k := i) hx).1 _ h
    cases a.int
    exact subscriptTail_builtinR (x := u') dd.typeIs slot_dict_getitem.lookup (wpAny_getItem_of (int_is ry) dd.mapOf e2 ⟨rfl, v', _, I.tok _, e3, q _ e4⟩) hs
end

/-! ### d[k] = v -/
def putX : List (NestedKey × Addr × Value) → NestedKey → Addr → Value → List (NestedKey × Addr × Value)
  | [], k, a, v => [(k, a, v)]
  | x :: r, k, a, v => if x.1 = k then (x.1, x.2.1, v) :: r else x :: putX r k a v
theorem put_not {k : NestedKey} {v : Value} : ∀ {xs : List (NestedKey × Addr × Value)}, k ∉ xs.map (·.1) → xs.map (putAt k v) = xs
  | [], _ => rfl
  | x :: r, h => by
    simp only [List.map_cons, List.mem_cons, not_or] at h
    rw [List.map_cons, put_not h.2]
    unfold putAt
    rw [if_neg (Ne.symm h.1)]
theorem storedH_putX {k : NestedKey} {a : Addr} {v : Value} : ∀ {xs : List (NestedKey × Addr × Value)}, (xs.map (·.1)).Nodup → storedH xs k a v = putX xs k a v
  | [], _ => rfl
  | x :: r, h => by
    rw [List.map_cons, List.nodup_cons] at h
    have ih := storedH_putX (k := k) (a := a) (v := v) h.2
    by_cases e : x.1 = k
    · have e1 : (atKey (x :: r) k).isSome = true := by simp [atKey, e]
      unfold storedH
      rw [if_pos e1, List.map_cons, put_not (e ▸ h.1)]
      simp [putAt, putX, e]
    · have e1 : atKey (x :: r) k = atKey r k := by simp [atKey, List.find?_cons, e]
      have e2 : putX (x :: r) k a v = x :: putX r k a v := by simp [putX, e]
      rw [e2, ← ih]
      unfold storedH
      rw [e1]
      split
      · rw [List.map_cons]; simp [putAt, e]
      · rfl
theorem put_dct {K : PySem.W.Frag} {H : Hp} {F : Addr → Prop} {ws : List W} {k : NestedKey} {b : Addr} {v : V} {u : Value} {w : W} (hk : nk (.tup ws) = some k) (hd : k.depth ≤ 8) (hb : HR K H F (.ref b) (.tup ws)) (hv : HR K H F v w) (rv : RelV v u) {xs : List (NestedKey × Addr × Value)} {kvs : List (W × W)} (hr : XR K H F xs kvs) :
    XR K H F (putX xs k b u) (ptW (.tup ws) w kvs) ∧ (putX xs k b u).length ≤ xs.length + 1 := by
  induction hr with
  | nil => exact ⟨.cons hk hd hb hv rv .nil, Nat.le_refl _⟩
  | @cons k' b' v' u' ws' w' xs kvs a c d e f g ih =>
    have eq : eqW (.tup ws') (.tup ws) = decide (k' = k) := by rw [eq_nk a hk, NestedKey.decide_eq]
    by_cases q : k' = k
    · rw [decide_eq_true q] at eq
      simp only [putX, q, if_true, ptW, eq]
      exact ⟨.cons (q ▸ a) (q ▸ c) d hv rv g, by simp⟩
    · rw [decide_eq_false q] at eq
      simp only [putX, q, if_false, ptW, eq, Bool.false_eq_true]
      exact ⟨.cons a c d e f ih.1, by simpa using ih.2⟩
def putI : List (Int × Value) → Int → Value → List (Int × Value)
  | [], k, v => [(k, v)]
  | x :: r, k, v => if x.1 = k then (x.1, v) :: r else x :: putI r k v
theorem put_notI {k : Int} {v : Value} : ∀ {xs : List (Int × Value)}, k ∉ xs.map (·.1) → xs.map (fun kv => if kv.1 = k then (kv.1, v) else kv) = xs
  | [], _ => rfl
  | x :: r, h => by
    simp only [List.map_cons, List.mem_cons, not_or] at h
    rw [List.map_cons, put_notI h.2, if_neg (Ne.symm h.1)]
theorem stored_putI {k : Int} {v : Value} : ∀ {xs : List (Int × Value)}, (xs.map (·.1)).Nodup → stored xs k v = putI xs k v
  | [], _ => rfl
  | x :: r, h => by
    rw [List.map_cons, List.nodup_cons] at h
    have ih := stored_putI (k := k) (v := v) h.2
    by_cases e : x.1 = k
    · unfold stored
      rw [if_pos (by simp [e]), List.map_cons, put_notI (e ▸ h.1)]
      simp [putI, e]
    · have e2 : putI (x :: r) k v = x :: putI r k v := by simp [putI, e]
      rw [e2, ← ih]
      unfold stored
      rw [List.any_cons, decide_eq_false e, Bool.false_or]
      split
      · rw [List.map_cons]; simp [e]
      · rfl
theorem put_int {K : PySem.W.Frag} {H : Hp} {F : Addr → Prop} {k : Int} {v : V} {u : Value} {w : W} (hv : HR K H F v w) (rv : RelV v u) {xs : List (Int × Value)} {kvs : List (W × W)} (hr : IR K H F xs kvs) :
    IR K H F (putI xs k u) (ptW (.int k) w kvs) ∧ (putI xs k u).length ≤ xs.length + 1 := by
  induction hr with
  | nil => exact ⟨.cons hv rv .nil, Nat.le_refl _⟩
  | @cons i v' u' w' xs kvs e f g ih =>
    by_cases q : i = k
    · subst q
      simp only [putI, if_true, ptW, eqW, beq_self_eq_true]
      exact ⟨.cons hv rv g, by simp⟩
    · have eq : (i == k) = false := beq_eq_false_iff_ne.mpr q
      simp only [putI, q, if_false, ptW, eqW, eq, Bool.false_eq_true]
      exact ⟨.cons e f ih.1, by simpa using ih.2⟩
theorem dcO_ok {P : Program} {w : World} {H' : Hp} {h' : Heap} {a : Addr} {es : DEs} (hs : (a == sysModules) = false) {o : Obj} {l : Array DictEntry} {ep : Nat} (h1 : h'.get? a = some o) (h2 : o.ExactDict) (h3 : o.data = .dict l ep) (h5 : EntR es l.toList) :
    ObjOk P w H' h' a (dcO a es ep) :=
  ⟨⟨hs, o, l, h1, h2, h3, h5⟩, ⟨o, h1⟩, fun g1 g2 ⟨q, o, l, h1, h2, h3, h5⟩ k => ⟨q, o, l, k o h1, h2, h3, h5⟩⟩
section
variable {X : Cx}
def rSetD (K : PySem.W.Frag) : V → V → V → Hp → (Hp → Prop) → Prop := fun o i v H Q => ∃ F a es kvs kw w, o = .ref a ∧ (∃ ep, H a = some (dcO a es ep)) ∧ es.length < szL ∧ (es.map (·.1)).Nodup ∧ DRel K H F es kvs ∧ HR K H F i kw ∧ kOk kw kvs = true ∧ HR K H F v w ∧
  ∀ es' ep', es'.length ≤ szL → (es'.map (·.1)).Nodup → DRel K H F es' (ptW kw w kvs) → Q (upd H a (dcO a es' ep'))
theorem set_dct (hw : HW.P = X.prog ∧ HW.w = X.w) (hu : X.A.units + 200 < cLine) : PSet X (rSetD X.K) := by
  intro pins s σ H o i v ov iv u Q I ro ri rv ⟨F, a, es, kvs, kw, w, e0, ⟨ep, hH⟩, hz, nd, hr, hi, hk, hv, q⟩
  subst e0
  cases ro
  rcases kOk_of hk with ⟨hk, ht⟩ | ⟨j, rfl, ht⟩
  · obtain ⟨ws, k, b, rfl, e, d, rfl, rfl, is, hb⟩ := key_at I (.inl hi) hk ri
    obtain ⟨hs, xs, hx, dd⟩ := dict_of hw I hH hr nd ht
    have hl : xs.length = es.length := by rw [hx.length, hr.length]
    have zl : xs.length ≤ sizeLine := by rw [← szL_eq]; omega
    refine wpAny_setItem_heap (hsz := zl) (room_d hu) is dd fun h' dd' hs' => ?_
    have en : (xs.map (·.1)).Nodup := by obtain ⟨_, _, _, _, _, _, _, _, z⟩ := dd; exact z
    rw [storedH_putX en] at dd'
    obtain ⟨i3, i4⟩ := put_dct e d hb hv rv hx
    obtain ⟨es', j1, j2, j3⟩ := xr_to i3
    obtain ⟨ob, en', ep', h1, h2, h3, h4, _, h5⟩ := dd'
    have j4 := congrArg List.length j3
    simp only [List.length_map] at j4
    refine ⟨_, d_write (ob := dcO a es' ep') I (by rw [hH]; exact True.intro) hs' ⟨_, h1⟩ (dcO_ok hs h1 h2 h3 ?_), q es' ep' (by omega) (by rw [j3]; exact h5) j1⟩
    rw [h4]
    have : List.map (entryOfKey (nestedKind X.prog X.w)) (putX xs k b u) = (putX xs k b u).map toX := by
      unfold toX entryOfKey
      rw [hw.2]
      rfl
    rw [this]
    exact j2
  · obtain ⟨hs, xs, hx, dd⟩ := dict_ofI I hH hr nd ht
    have hl : xs.length = es.length := by rw [hx.length, hr.length]
    have zl : xs.length ≤ sizeLine := by rw [← szL_eq]; omega
    cases (PkR.of hi).int
    refine wpAny_setItem_pairs (hsz := zl) (int_is ri) dd fun h' dd' hs' => ?_
    have en : (xs.map (·.1)).Nodup := by obtain ⟨_, _, _, _, _, _, _, _, z⟩ := dd; exact z
    rw [stored_putI en] at dd'
    obtain ⟨i3, i4⟩ := put_int (k := j) hv rv hx
    obtain ⟨ob, en', ep', h1, h2, h3, h4, h4', h5⟩ := dd'
    obtain ⟨es', j1, j2, j3⟩ := ir_to i3 (ie_of h4' fun e he => h4 e (by simpa using he))
    have j4 := congrArg List.length j3
    simp only [List.length_map] at j4
    refine ⟨_, d_write (ob := dcO a es' ep') I (by rw [hH]; exact True.intro) hs' ⟨_, h1⟩ (dcO_ok hs h1 h2 h3 j2), q es' ep' (by omega) ?_ j1⟩
    rw [j3]
    exact nodup_num.mpr h5
def rSetLD (K : PySem.W.Frag) : V → V → V → Hp → (Hp → Prop) → Prop := fun o i v H Q => rSetL o i v H Q ∨ rSetD K o i v H Q
theorem set_ld (hw : HW.P = X.prog ∧ HW.w = X.w) (hu : X.A.units + 200 < cLine) : PSet X (rSetLD X.K) := fun pins s σ H o i v ov iv u Q I ro ri rv h => h.elim (set_list pins s σ H o i v ov iv u Q I ro ri rv) (set_dct hw hu pins s σ H o i v ov iv u Q I ro ri rv)

/-- {} -/
def tDNw : TE := fun _ H Q => ∀ p, H p = none → Q (.ref p) (upd H p (dcO p [] 0))
theorem pe_dnw {pos : Pos} : PE X (.Dict [] [] pos) tDNw := ⟨fun pins s σ H Q I h =>
  wpAny_Dict_empty ⟨.ref s.heap.objs.size, _, I.laid (a := s.heap.objs.size) (o := dcO s.heap.objs.size [] 0) (t' := s.toks) (fun _ _ q => Heap.get?_push_of_some _ q) (Nat.le_refl _)
    (dcO_ok (l := #[]) (ep := 0) (beq_eq_false_iff_ne.mpr (Ne.symm (Nat.ne_of_lt I.big))) (Heap.get?_push_size _ rfl) ⟨rfl, rfl, rfl⟩ rfl .nil), rfl, h _ (I.hok.fresh (Nat.le_refl _))⟩⟩
end
end Py

namespace Py
open PySem PySem.Spec PyProof.Rows L2
variable [HW]
section
variable {X : Cx}
theorem bW_some {f : W → W → Option Bool} {w u : W} {r : W × Bool} (h : bW f w u = some r) : ∃ b, f w u = some b ∧ r = (.bl b, false) := by
  unfold bW at h
  cases e : f w u with
  | none => rw [e] at h; cases h
  | some b => rw [e] at h; exact ⟨b, rfl, (Option.some.inj h).symm⟩
theorem eqOk_dep {w u : W} (h : eqOk w u = true) : min (dep w) (dep u) ≤ 64 ∧ dep w < 1000 ∧ dep u < 1000 := of_decide_eq_true h
theorem op_eqW (hu : X.A.units + 200 < cLine) : OpR X (compareOp .Eq) (r2 X.K (bW (cmpW .eq))) := by
  refine opBy fun w u r F pins s σ H x y v z Q e I rx ry a b q => ?_
  obtain ⟨k, ek, rfl⟩ := bW_some e
  replace e := ek
  have e : (if eqOk w u then some (eqW w u) else none) = some k := by cases w <;> cases u <;> exact e
  obtain ⟨hk, rfl⟩ := of_if e
  obtain ⟨h1, h2, h3⟩ := eqOk_dep hk
  obtain ⟨as, r1⟩ := Dp.reads I _ x v (a.dp (by omega)) rx
  obtain ⟨bs, r2⟩ := Dp.reads I _ y z (b.dp (by omega)) ry
  refine SeqAt.compareEq_reads r1 r2 a.lay b.lay ?_ ⟨.bl _, H, I, rfl, ?_⟩
  · have := dep_pd w; have := dep_pd u; omega
  · rw [eqv_pd (v := .non) (v' := .non) w u h2 h3]; exact q.bl
theorem op_neW (hu : X.A.units + 200 < cLine) : OpR X (compareOp .NotEq) (r2 X.K (bW (cmpW .ne))) := by
  refine opBy fun w u r F pins s σ H x y v z Q e I rx ry a b q => ?_
  obtain ⟨k, ek, rfl⟩ := bW_some e
  replace e := ek
  have e : (if eqOk w u then some (!eqW w u) else none) = some k := by cases w <;> cases u <;> exact e
  obtain ⟨hk, rfl⟩ := of_if e
  obtain ⟨h1, h2, h3⟩ := eqOk_dep hk
  obtain ⟨as, r1⟩ := Dp.reads I _ x v (a.dp (by omega)) rx
  obtain ⟨bs, r2⟩ := Dp.reads I _ y z (b.dp (by omega)) ry
  refine SeqAt.compareNe_reads r1 r2 a.lay b.lay ?_ ⟨.bl _, H, I, rfl, ?_⟩
  · have := dep_pd w; have := dep_pd u; omega
  · rw [eqv_pd (v := .non) (v' := .non) w u h2 h3]; exact q.bl
/-- a comparison of two ints -/
theorem opII {f : Value → Value → Sem Value} {o : COp} {p : Int → Int → Bool} (h : OpR X f (rI0 fun i j => .bl (p i j))) (hc : ∀ w u b, cmpW o w u = some b → ∃ i j, w = .int i ∧ u = .int j ∧ b = p i j) : OpR X f (r2 X.K (bW (cmpW o))) := by
  refine opImp h fun x y H Q ⟨F, w, u, r, a, b, e, q⟩ => ?_
  obtain ⟨k, ek, rfl⟩ := bW_some e
  replace e := ek
  obtain ⟨i, j, rfl, rfl, rfl⟩ := hc w u k e
  exact ⟨i, j, a.int, b.int, q.bl⟩
theorem op_ltW : OpR X (compareOp .Lt) (r2 X.K (bW (cmpW .lt))) := opII op_lt fun w u b e => by
  cases w <;> cases u <;> first | (cases e; done) | exact ⟨_, _, rfl, rfl, (Option.some.inj e).symm⟩
theorem op_leW : OpR X (compareOp .LtE) (r2 X.K (bW (cmpW .le))) := opII op_le fun w u b e => by
  cases w <;> cases u <;> first | (cases e; done) | exact ⟨_, _, rfl, rfl, (Option.some.inj e).symm⟩
theorem op_gtW : OpR X (compareOp .Gt) (r2 X.K (bW (cmpW .gt))) := opII op_gt fun w u b e => by
  cases w <;> cases u <;> first | (cases e; done) | exact ⟨_, _, rfl, rfl, (Option.some.inj e).symm⟩
theorem op_geW : OpR X (compareOp .GtE) (r2 X.K (bW (cmpW .ge))) := opII op_ge fun w u b e => by
  cases w <;> cases u <;> first | (cases e; done) | exact ⟨_, _, rfl, rfl, (Option.some.inj e).symm⟩
theorem nonI {K : PySem.W.Frag} {H : Hp} {F : Addr → Prop} {v : V} {w : W} (h : PkR K H F v w) : decide (v = .non) = isN w := by
  rcases h with h | ⟨c, rfl, h⟩
  · cases h <;> rfl
  · cases w <;> first | exact h.elim | rfl
theorem op_isW : OpR X (compareOp .Is) (r2 X.K (bW (cmpW .is))) := by
  refine opImp op_isN fun x y H Q ⟨F, w, u, r, a, b, e, q⟩ => ?_
  obtain ⟨k, ek, rfl⟩ := bW_some e
  replace e := ek
  cases u <;> first | (cases w <;> cases e; done) | skip
  refine ⟨b.non, ?_⟩
  rw [nonI a]
  have : k = isN w := by cases w <;> exact (Option.some.inj e).symm
  rw [← this]; exact q.bl
theorem op_isntW : OpR X (compareOp .IsNot) (r2 X.K (bW (cmpW .isnt))) := by
  refine opImp op_notN fun x y H Q ⟨F, w, u, r, a, b, e, q⟩ => ?_
  obtain ⟨k, ek, rfl⟩ := bW_some e
  replace e := ek
  cases u <;> first | (cases w <;> cases e; done) | skip
  refine ⟨b.non, ?_⟩
  rw [nonI a]
  have : k = !isN w := by cases w <;> exact (Option.some.inj e).symm
  rw [← this]; exact q.bl
theorem flat_of {K : PySem.W.Frag} {H : Hp} {F : Addr → Prop} {v : V} {w : W} (h : PkR K H F v w) (d : dep w = 0) : flatV v = true ∧ HR K H F v w := by
  rcases h with h | ⟨c, rfl, h⟩
  · cases h <;> first | exact ⟨rfl, by constructor <;> assumption⟩ | (simp [dep] at d)
  · cases w <;> first | exact h.elim | (simp [dep] at d)
theorem eqV_eqW {K : PySem.W.Frag} {H : Hp} {F : Addr → Prop} {v v' : V} {w w' : W} (h : HR K H F v w) (h' : HR K H F v' w') (d : dep w = 0) (d' : dep w' = 0) : eqV v v' = eqW w w' := by
  cases h <;> cases h' <;> first
    | (simp [dep] at d; done)
    | (simp [dep] at d'; done)
    | (simp [eqV, eqW]; done)
    | (simp only [eqV, eqW]; exact s8_beq _ _)
theorem in_flat {K : PySem.W.Frag} {H : Hp} {F : Addr → Prop} {x : V} {w : W} (h : HR K H F x w) (d : dep w = 0) {vs : List V} {ws : List W} (hs : HRs K H F vs ws) (ds : deps ws = 0) :
    vs.all flatV = true ∧ inV x vs = memW w ws := by
  unfold inV memW
  induction ws generalizing vs with
  | nil => cases hs; exact ⟨rfl, rfl⟩
  | cons u ws ih =>
    cases hs with
    | cons a b =>
      simp only [deps] at ds
      obtain ⟨i1, i2⟩ := ih b (by omega)
      have fu := flat_of (.inl a) (show dep u = 0 by omega)
      refine ⟨by simp [fu.1, i1], ?_⟩
      simp only [List.any_cons]
      rw [eqV_eqW a h (by omega) d, i2]
theorem mem_pd (x : W) (xs : List W) (h : dep x < 1000) (h' : deps xs < 1000) : ((pds xs).any fun z => PyData.eqv z (pd x)) = memW x xs := by
  unfold memW
  induction xs with
  | nil => simp [pds]
  | cons y ys ih =>
    simp only [deps] at h'
    simp only [pds, List.any_cons]
    rw [ih (by omega), eqv_pd (v := .non) (v' := .non) y x (by omega) h]
theorem shaped_of {K : PySem.W.Frag} {H : Hp} {F : Addr → Prop} {v : V} {w : W} (h : PkR K H F v w) (d : dep w ≤ 64) : SeqAt.shaped (pd w) = true := by
  unfold SeqAt.shaped
  rw [h.lay, Bool.true_and]
  exact decide_eq_true (Nat.le_trans (dep_pd w) d)
theorem op_inW (hw : HW.P = X.prog ∧ HW.w = X.w) (hu : X.A.units + 200 < cLine) : OpR X (compareOp .In) (r2 X.K (bW (cmpW .inn))) := by
  refine opBy fun w u r F pins s σ H x y v z Q e I rx ry a b q => ?_
  obtain ⟨k, ek, rfl⟩ := bW_some e
  replace e := ek
  cases u with
  | tup ys =>
    have e : (if dep w = 0 ∧ deps ys = 0 then some (memW w ys) else none) = some k := by cases w <;> exact e
    obtain ⟨⟨d1, d2⟩, rfl⟩ := of_if e
    obtain ⟨p, vs, rfl, hs, hz, hr⟩ := b.tup
    obtain ⟨f1, f2⟩ := flat_of a d1
    obtain ⟨g1, g2⟩ := in_flat f2 d1 hr d2
    refine op_in_seq pins s σ H _ _ v z Q I rx ry ⟨p, vs, rfl, .inr hs, f1, g1, ?_⟩
    show Q (.bl (inV x vs)) H
    rw [g2]; exact q.bl
  | lst ys =>
    have e : (if dep w ≤ 60 ∧ deps ys ≤ 60 then some (memW w ys) else none) = some k := by cases w <;> exact e
    obtain ⟨⟨d1, d2⟩, rfl⟩ := of_if e
    have hb := b.dp (by simp only [dep]; omega)
    simp only [pd] at hb
    have hsh := shaped_of b (by simp only [dep]; omega)
    simp only [pd] at hsh
    refine op_inD (by omega) pins s σ H _ _ v z Q I rx ry ⟨pd w, pds ys, a.dp (by omega), hb, shaped_of a (by omega), hsh, ?_⟩
    rw [mem_pd w ys (by omega) (by omega)]; exact q.bl
  | dct kvs =>
    have e : (if kOk w kvs = true then some (lkW w kvs).isSome else none) = some k := by cases w <;> exact e
    obtain ⟨d1, rfl⟩ := of_if e
    exact in_dct hw hu I a b d1 rx ry q.bl
  | _ => cases w <;> cases e
theorem op_ninW (hw : HW.P = X.prog ∧ HW.w = X.w) (hu : X.A.units + 200 < cLine) : OpR X (compareOp .NotIn) (r2 X.K (bW (cmpW .nin))) := by
  refine opBy fun w u r F pins s σ H x y v z Q e I rx ry a b q => ?_
  obtain ⟨k, ek, rfl⟩ := bW_some e
  replace e := ek
  cases u with
  | tup ys =>
    have e : (if dep w = 0 ∧ deps ys = 0 then some (!memW w ys) else none) = some k := by cases w <;> exact e
    obtain ⟨⟨d1, d2⟩, rfl⟩ := of_if e
    obtain ⟨p, vs, rfl, hs, hz, hr⟩ := b.tup
    obtain ⟨f1, f2⟩ := flat_of a d1
    obtain ⟨g1, g2⟩ := in_flat f2 d1 hr d2
    refine op_notIn_seq pins s σ H _ _ v z Q I rx ry ⟨p, vs, rfl, .inr hs, f1, g1, ?_⟩
    show Q (.bl (!inV x vs)) H
    rw [g2]; exact q.bl
  | lst ys =>
    have e : (if dep w ≤ 60 ∧ deps ys ≤ 60 then some (!memW w ys) else none) = some k := by cases w <;> exact e
    obtain ⟨⟨d1, d2⟩, rfl⟩ := of_if e
    have hb := b.dp (by simp only [dep]; omega)
    simp only [pd] at hb
    have hsh := shaped_of b (by simp only [dep]; omega)
    simp only [pd] at hsh
    refine op_notInD (by omega) pins s σ H _ _ v z Q I rx ry ⟨pd w, pds ys, a.dp (by omega), hb, shaped_of a (by omega), hsh, ?_⟩
    rw [mem_pd w ys (by omega) (by omega)]; exact q.bl
  | dct kvs =>
    have e : (if kOk w kvs = true then some (!(lkW w kvs).isSome) else none) = some k := by cases w <;> exact e
    obtain ⟨d1, rfl⟩ := of_if e
    exact nin_dct hw hu I a b d1 rx ry q.bl
  | _ => cases w <;> cases e

def cOp : CmpOp → Option COp
  | .Lt => some .lt | .LtE => some .le | .Gt => some .gt | .GtE => some .ge | .Eq => some .eq | .NotEq => some .ne | .Is => some .is | .IsNot => some .isnt | .In => some .inn | .NotIn => some .nin
theorem op_cmpW (hw : HW.P = X.prog ∧ HW.w = X.w) (hu : X.A.units + 200 < cLine) {o : CmpOp} {p : COp} (h : cOp o = some p) : OpR X (compareOp o) (r2 X.K (bW (cmpW p))) := by
  cases o <;> cases Option.some.inj h
  · exact op_eqW hu
  · exact op_neW hu
  · exact op_ltW
  · exact op_leW
  · exact op_gtW
  · exact op_geW
  · exact op_isW
  · exact op_isntW
  · exact op_inW hw hu
  · exact op_ninW hw hu
def bOp : Operator → Option BOp
  | .Add => some .add | .Sub => some .sub | .Mult => some .mul | .FloorDiv => some .fdv | .Mod => some .md | _ => none
theorem op_binW {o : Operator} {p : BOp} (h : bOp o = some p) : OpR X (binaryOp o) (r2 X.K (opW p)) := by
  cases o <;> first | (cases h; done) | cases Option.some.inj h
  · exact op_addW
  · exact op_subW
  · exact op_mulW
  · exact op_mdW
  · exact op_fdW

/-! ### items, slices -/
theorem at_rel {K : PySem.W.Frag} {H : Hp} {F : Addr → Prop} {vs : List V} {ws : List W} {i : Int} {w : W} (h : HRs K H F vs ws) (e : atI ws i = some w) : ∃ v, atI vs i = some v ∧ HR K H F v w := by
  unfold atI at e ⊢
  rw [h.length]
  cases q : L2.ixN ws.length i with
  | none => rw [q] at e; cases e
  | some j => rw [q] at e; exact h.get e
theorem at_all {p : Nat → Bool} {s : Cs} {i : Int} {c : Nat} (h : s.all p = true) (e : atI s i = some c) : p c = true := by
  unfold atI at e
  cases q : L2.ixN s.length i with
  | none => rw [q] at e; cases e
  | some j => rw [q] at e; exact List.all_eq_true.mp h c (List.mem_of_getElem? e)
theorem ix_W (hw : HW.P = X.prog ∧ HW.w = X.w) (hu : X.A.units + 200 < cLine) : IxR X (r2 X.K ixW) := by
  intro value slice pins s σ H x y v u Q I rx ry ⟨F, w, z, r, a, b, e, q⟩ hs
  by_cases hd : ∃ kvs, w = .dct kvs
  · obtain ⟨kvs, rfl⟩ := hd
    have e : (if kOk z kvs = true then (lkW z kvs).map (fun w => (w, false)) else none) = some r := by cases z <;> exact e
    by_cases hk : kOk z kvs = true
    · rw [if_pos hk] at e
      obtain ⟨w', e', rfl⟩ := Option.map_eq_some_iff.mp e
      exact ix_dct hw hu I b a hk rx ry e' (fun r' h => q _ _ (.old h)) hs
    · rw [if_neg hk] at e; cases e
  refine ix_seq value slice pins s σ H x y v u Q I rx ry ?_ hs
  cases w <;> first | (exact absurd ⟨_, rfl⟩ hd) | (cases e; done) | (cases z <;> first | (cases e; done) | skip)
  · rename_i xs i
    simp only [ixW, Option.map_eq_some_iff] at e
    obtain ⟨c, e, rfl⟩ := e
    obtain ⟨rfl, hz, hk⟩ := a.str
    rw [strOk_s8] at hk
    have hc := at_all hk e
    exact .inr (.inr ⟨_, i, c, rfl, b.int, by rw [s8_len]; exact hz, by simpa using e, q _ _ (.old (.str [c] (by simp [szL]) (by rw [strOk_s8]; simpa using hc)))⟩)
  · rename_i xs i
    simp only [ixW, Option.map_eq_some_iff] at e
    obtain ⟨c, e, rfl⟩ := e
    obtain ⟨p, vs, rfl, hs', hz, hr⟩ := a.tup
    obtain ⟨v', e', r'⟩ := at_rel hr e
    exact .inr (.inl ⟨p, vs, i, v', rfl, b.int, hs', e', q _ _ (.old r')⟩)
  · rename_i xs i
    simp only [ixW, Option.map_eq_some_iff] at e
    obtain ⟨c, e, rfl⟩ := e
    obtain ⟨p, vs, rfl, hs', hz, hr⟩ := a.lst
    obtain ⟨v', e', r'⟩ := at_rel hr e
    exact .inl ⟨p, vs, i, v', rfl, b.int, hs', e', q _ _ (.old r')⟩
theorem cut_len {α : Type} (xs : List α) (lo hi : Option Int) : (cut xs lo hi).length ≤ xs.length := by
  unfold cut
  rw [List.length_take, List.length_drop]
  omega
theorem HRs.cut {K : PySem.W.Frag} {H : Hp} {F : Addr → Prop} {vs : List V} {ws : List W} (h : HRs K H F vs ws) (lo hi : Option Int) : HRs K H F (cutV vs lo hi) (cut ws lo hi) := by
  unfold Py.cut cutV
  rw [h.length]
  exact (h.drop _).take _
/-- a slice of a value by its bounds -/
def rSl (K : PySem.W.Frag) : V → Option Int → Option Int → Hp → VK → Prop := fun x lo hi H Q => ∃ F w r, PkR K H F x w ∧ slc1 lo hi w = some r ∧ Rs K H F Q r
theorem sl_W : SlR X (rSl X.K) := by
  intro pins s σ H x v vl vu lo hi sl Q I rx hs pl pu ⟨F, w, r, a, e, q⟩
  cases w <;> first | (cases e; done) | cases Option.some.inj e
  · rename_i xs
    obtain ⟨rfl, hz, hk⟩ := a.str
    refine sl_str pins s σ H _ v vl vu lo hi sl Q I rx hs pl pu ⟨_, rfl, by rw [s8_len]; exact hz, ?_⟩
    have ec : cutS (S8 xs) lo hi = S8 (cut xs lo hi) := by
      unfold cutS cut
      rw [s8_len]
    rw [ec]
    refine q _ _ (.old (.str _ (Nat.le_trans (cut_len _ _ _) hz) ?_))
    rw [strOk_s8] at hk ⊢
    refine List.all_eq_true.mpr fun c hc => List.all_eq_true.mp hk c ?_
    exact List.mem_of_mem_drop (List.mem_of_mem_take hc)
  · rename_i xs
    obtain ⟨p, vs, rfl, hs', hz, hr⟩ := a.tup
    have hl := hr.length
    refine sl_tupA pins s σ H _ v vl vu lo hi sl Q I rx hs pl pu ⟨p, vs, rfl, hs', fun ⟨h1, h2⟩ => ?_, fun _ p' hp => q _ _ (.tup hp ?_ (hr.cut lo hi))⟩
    · refine q _ _ (.old (.tup hs' hz ?_))
      have : cut xs lo hi = xs := by
        unfold cut
        rw [hl] at h1 h2
        rw [h1, h2]; simp
      rw [this]; exact hr
    · exact Nat.le_trans (cutV_length _ _ _) hz
  · rename_i xs
    obtain ⟨p, vs, rfl, hs', hz, hr⟩ := a.lst
    exact sl_list pins s σ H _ v vl vu lo hi sl Q I rx hs pl pu ⟨p, vs, rfl, hs', fun p' hp => q _ _ (.lst hp (Nat.le_trans (cutV_length _ _ _) hz) (hr.cut lo hi))⟩

/-! ### built-in calls -/
def rL (K : PySem.W.Frag) (f : List W → Option (W × Bool)) : List V → Hp → VK → Prop := fun xs H Q => ∃ F ws r, PkRs K H F xs ws ∧ f ws = some r ∧ Rs K H F Q r
theorem callImp {f : Value} {r r' : List V → Hp → VK → Prop} (h : CallR X f r) (i : ∀ xs H Q, r' xs H Q → r xs H Q) : CallR X f r' := fun pins s σ H xs us Q I rs q => h pins s σ H xs us Q I rs (i _ _ _ q)
theorem PkRs.one {K : PySem.W.Frag} {H : Hp} {F : Addr → Prop} {vs : List V} {w : W} (h : PkRs K H F vs [w]) : ∃ v, vs = [v] ∧ PkR K H F v w := by
  cases h with | cons a b => cases b; exact ⟨_, rfl, a⟩
theorem PkRs.two {K : PySem.W.Frag} {H : Hp} {F : Addr → Prop} {vs : List V} {w u : W} (h : PkRs K H F vs [w, u]) : ∃ v v', vs = [v, v'] ∧ PkR K H F v w ∧ PkR K H F v' u := by
  cases h with | cons a b => obtain ⟨v', rfl, q⟩ := b.one; exact ⟨_, _, rfl, a, q⟩
theorem call_lenW : CallR X (.builtin "len") (rL X.K (biW .len)) := by
  refine callImp call_len fun xs H Q ⟨F, ws, r, a, e, q⟩ => ?_
  match ws, e, a with
  | [.lst ys], e, a =>
    obtain ⟨v, rfl, b⟩ := a.one
    cases Option.some.inj e
    obtain ⟨p, vs, rfl, h1, h2, h3⟩ := b.lst
    exact ⟨_, vs.length, rfl, .inl ⟨vs, h1, rfl⟩, by rw [h3.length]; exact q.int⟩
  | [.tup ys], e, a =>
    obtain ⟨v, rfl, b⟩ := a.one
    cases Option.some.inj e
    obtain ⟨p, vs, rfl, h1, h2, h3⟩ := b.tup
    exact ⟨_, vs.length, rfl, .inr ⟨vs, h1, rfl⟩, by rw [h3.length]; exact q.int⟩
  | [.str ys], e, a =>
    obtain ⟨v, rfl, b⟩ := a.one
    cases Option.some.inj e
    obtain ⟨rfl, h1, h2⟩ := b.str
    exact ⟨_, _, rfl, ⟨by rw [s8_len]; exact h1, rfl⟩, by rw [s8_len]; exact q.int⟩
theorem call_absW : CallR X (.builtin "abs") (rL X.K (biW .abs)) := by
  refine callImp call_abs fun xs H Q ⟨F, ws, r, a, e, q⟩ => ?_
  match ws, e, a with
  | [.int i], e, a =>
    obtain ⟨v, rfl, b⟩ := a.one
    cases Option.some.inj e
    exact ⟨i, by rw [b.int], q.int⟩
theorem call_intW : CallR X (.type "int") (rL X.K (biW .int)) := by
  refine callImp call_int1 fun xs H Q ⟨F, ws, r, a, e, q⟩ => ?_
  match ws, e, a with
  | [.int i], e, a =>
    obtain ⟨v, rfl, b⟩ := a.one
    cases Option.some.inj e
    exact .inl ⟨i, by rw [b.int], q.int⟩
theorem call_boolW : CallR X (.type "bool") (rL X.K (biW .bool)) := by
  refine callImp call_bool1 fun xs H Q ⟨F, ws, r, a, e, q⟩ => ?_
  match ws, e, a with
  | [.int i], e, a =>
    obtain ⟨v, rfl, b⟩ := a.one
    cases Option.some.inj e
    exact .inl ⟨i, by rw [b.int], q.bl⟩
  | [.bl i], e, a =>
    obtain ⟨v, rfl, b⟩ := a.one
    cases Option.some.inj e
    exact .inr ⟨i, by rw [b.bl], q.bl⟩
section
variable {prog : Program} {w : World} {A : Around} {s : Shared} {l : Addr} {it : Array (Int × Tok)} {Er Qr : Value → Shared → Prop}
theorem min_tupI (hh : A.handled = none) (hT : s.heap.IsTuple l (intItems it)) (hne : 0 < it.size)
    (k : ∀ v h' tk, (intItems it)[argBest (fun i j => decide (numAt it i < numAt it j)) (it.size - 1)]? = some v → (∀ b o, s.heap.get? b = some o → h'.get? b = some o) → Qr v { s with heap := h', toks := tk }) : wpAny (model prog w) A (call (.builtin "min") [.ref l]) Qr Er s := by
  refine call_min_walk (wpAny_pyIter_tuple hT ?_)
  have hlt : l < s.heap.objs.size := let ⟨_, e, _⟩ := hT; Heap.lt_size e
  refine ⟨_, [_, l], [_], _, _, _, _, rfl, Walks.tuple (A := A.in1) hh _ l (Nat.ne_of_lt hlt) (intItems it), ⟨⟨_, Heap.get?_push_size _ rfl, rfl, rfl⟩, hT.push _⟩, fun c hc => ?_, by simpa [intItems] using hne, CmpOf.ints_lt (numAt it) (fun _ _ => intItems_at), fun v h' tk hP hk => ?_⟩
  · show c < (s.heap.push _).objs.size
    rw [Heap.size_push]
    rcases List.mem_cons.mp hc with rfl | hc
    · exact Nat.lt_succ_self _
    · rcases List.mem_cons.mp hc with rfl | hc
      · exact Nat.lt_succ_of_lt hlt
      · cases hc
  · refine k v h' tk (by simpa [intItems] using hP) fun c o e => hk c o (fun hm => ?_) (Heap.get?_push_of_some _ e)
    rcases List.mem_cons.mp hm with e1 | hm
    · have := Heap.lt_size e; rw [e1] at this; exact Nat.lt_irrefl _ this
    · cases hm
theorem min_tupR {its : List Value} {ns : List Int} (hh : A.handled = none) (hl : s.heap.IsTuple l its.toArray) (hi : IntsAre its ns) (hne : 0 < ns.length)
    (k : ∀ h' tk m t, (∀ b o, s.heap.get? b = some o → h'.get? b = some o) → m ∈ ns → (∀ a, a ∈ ns → m ≤ a) → Qr (.int m t) { s with heap := h', toks := tk }) : wpAny (model prog w) A (call (.builtin "min") [.ref l]) Qr Er s := by
  obtain ⟨zs, e⟩ := hi.allInts.items
  have en : numsOf (intItems zs).toList = ns := by
    rw [← e]; exact hi.numsOf
  rw [nums_intItems] at en; subst en; rw [e] at hl
  have hz : 0 < zs.size := by simpa using hne
  refine min_tupI hh hl hz fun v h' tk hv hk => ?_
  obtain ⟨t, rfl⟩ := intItems_at hv
  obtain ⟨b1, b2⟩ := argBest_lt (numAt zs) (zs.size - 1)
  refine k h' tk _ t hk (by rw [numAt_eq]; exact PySem.getD_mem (by rw [List.length_map, Array.length_toList]; omega)) fun a ha => ?_
  obtain ⟨j, hj, rfl⟩ := mem_getD ha
  rw [List.length_map, Array.length_toList] at hj
  rw [← numAt_eq]; exact b2 j (by omega)
end
theorem minI_ok : ∀ (r : List Int) (a : Int), minI a r ∈ a :: r ∧ ∀ y ∈ a :: r, minI a r ≤ y
  | [], a => by simp [minI]
  | b :: r, a => by
    obtain ⟨h1, h2⟩ := minI_ok r (if b < a then b else a)
    simp only [minI]
    have h3 := h2 _ List.mem_cons_self
    refine ⟨?_, fun y hy => ?_⟩
    · rcases List.mem_cons.mp h1 with h | h
      · rw [h]; split <;> simp
      · exact List.mem_cons_of_mem _ (List.mem_cons_of_mem _ h)
    · rcases List.mem_cons.mp hy with rfl | hy
      · split at h3 <;> rename_i q <;> simp only [q, if_true, if_false] <;> omega
      · rcases List.mem_cons.mp hy with rfl | hy
        · split at h3 <;> rename_i q <;> simp only [q, if_true, if_false] <;> omega
        · exact h2 y (List.mem_cons_of_mem _ hy)
theorem maxI_ok : ∀ (r : List Int) (a : Int), maxI a r ∈ a :: r ∧ ∀ y ∈ a :: r, y ≤ maxI a r
  | [], a => by simp [maxI]
  | b :: r, a => by
    obtain ⟨h1, h2⟩ := maxI_ok r (if a < b then b else a)
    simp only [maxI]
    have h3 := h2 _ List.mem_cons_self
    refine ⟨?_, fun y hy => ?_⟩
    · rcases List.mem_cons.mp h1 with h | h
      · rw [h]; split <;> simp
      · exact List.mem_cons_of_mem _ (List.mem_cons_of_mem _ h)
    · rcases List.mem_cons.mp hy with rfl | hy
      · split at h3 <;> rename_i q <;> simp only [q, if_true, if_false] <;> omega
      · rcases List.mem_cons.mp hy with rfl | hy
        · split at h3 <;> rename_i q <;> simp only [q, if_true, if_false] <;> omega
        · exact h2 y (List.mem_cons_of_mem _ hy)
theorem ints_rel {K : PySem.W.Frag} {H : Hp} {F : Addr → Prop} : ∀ {vs : List V} {ws : List W} {i : List Int}, HRs K H F vs ws → asInts ws = some i → vs = i.map V.int
  | _, [], i, h, e => by cases h; cases Option.some.inj e; rfl
  | _, w :: ws, i, h, e => by
    cases h with
    | cons a b =>
      cases w <;> first | (cases e; done) | skip
      rename_i k
      simp only [asInts, Option.map_eq_some_iff] at e
      obtain ⟨j, e, rfl⟩ := e
      rw [ints_rel b e, (PkR.inl' a).int]; rfl
theorem least_inv {ws : List W} {i : Int} (h : leastL ws = some i) : ∃ a r, asInts ws = some (a :: r) ∧ i = minI a r := by
  unfold leastL at h
  split at h
  · rename_i a r e; exact ⟨a, r, e, (Option.some.inj h).symm⟩
  · cases h
theorem most_inv {ws : List W} {i : Int} (h : mostL ws = some i) : ∃ a r, asInts ws = some (a :: r) ∧ i = maxI a r := by
  unfold mostL at h
  split at h
  · rename_i a r e; exact ⟨a, r, e, (Option.some.inj h).symm⟩
  · cases h
theorem call_minW (hc : X.calm = true) : CallR X (.builtin "min") (rL X.K (biW .min)) := by
  intro pins s σ H xs us Q I rx ⟨F, ws, r, a, e, q⟩
  match ws, e, a with
  | [.int i, .int j], e, a =>
    obtain ⟨v, v', rfl, b, c⟩ := a.two
    cases Option.some.inj e
    exact call_min2 hc pins s σ H _ us Q I rx ⟨i, j, by rw [b.int, c.int], q.int⟩
  | [.lst ys], e, a =>
    obtain ⟨v, rfl, b⟩ := a.one
    obtain ⟨i, e1, rfl⟩ := Option.map_eq_some_iff.mp e
    obtain ⟨a0, r0, e2, rfl⟩ := least_inv e1
    obtain ⟨p, vs, rfl, h1, h2, h3⟩ := b.lst
    rw [ints_rel h3 e2] at h1
    obtain ⟨k1, k2⟩ := minI_ok r0 a0
    exact cr_min hc pins s σ H _ us Q I rx ⟨p, _, rfl, h1, by simp, fun m hm hle => by rw [show m = minI a0 r0 from Int.le_antisymm (hle _ k1) (k2 m hm)]; exact q.int⟩
  | [.tup ys], e, a =>
    obtain ⟨v, rfl, b⟩ := a.one
    obtain ⟨i, e1, rfl⟩ := Option.map_eq_some_iff.mp e
    obtain ⟨a0, r0, e2, rfl⟩ := least_inv e1
    obtain ⟨p, vs, rfl, h1, h2, h3⟩ := b.tup
    rw [ints_rel h3 e2] at h1
    obtain ⟨k1, k2⟩ := minI_ok r0 a0
    obtain ⟨its, rv, hl, _⟩ := I.tuple h1
    rw [Vals.ref1 rx]
    refine min_tupR (I.ok.hd hc) hl rv.ints (by simp) fun h' tk m t hk hm hle => ⟨.int _, H, I.kept hk, ⟨_, rfl⟩, ?_⟩
    rw [show m = minI a0 r0 from Int.le_antisymm (hle _ k1) (k2 m hm)]; exact q.int
theorem call_maxW (hc : X.calm = true) : CallR X (.builtin "max") (rL X.K (biW .max)) := by
  intro pins s σ H xs us Q I rx ⟨F, ws, r, a, e, q⟩
  match ws, e, a with
  | [.int i, .int j], e, a =>
    obtain ⟨v, v', rfl, b, c⟩ := a.two
    cases Option.some.inj e
    exact call_max2 hc pins s σ H _ us Q I rx ⟨i, j, by rw [b.int, c.int], q.int⟩
  | [.lst ys], e, a =>
    obtain ⟨v, rfl, b⟩ := a.one
    obtain ⟨i, e1, rfl⟩ := Option.map_eq_some_iff.mp e
    obtain ⟨a0, r0, e2, rfl⟩ := most_inv e1
    obtain ⟨p, vs, rfl, h1, h2, h3⟩ := b.lst
    rw [ints_rel h3 e2] at h1
    obtain ⟨k1, k2⟩ := maxI_ok r0 a0
    exact cr_max hc pins s σ H _ us Q I rx ⟨p, _, rfl, h1, by simp, fun m hm hle => by rw [show m = maxI a0 r0 from Int.le_antisymm (k2 m hm) (hle _ k1)]; exact q.int⟩
theorem sum_rel {K : PySem.W.Frag} {H : Hp} {F : Addr → Prop} : ∀ {vs : List V} {ws : List W} {i : Int}, HRs K H F vs ws → sumI ws = some i → ∃ ns : List Int, vs = ns.map V.int ∧ i = ns.sum
  | _, [], i, h, e => by cases h; exact ⟨[], rfl, (Option.some.inj e).symm⟩
  | _, w :: ws, i, h, e => by
    cases h with
    | cons a b =>
      cases w <;> first | (cases e; done) | skip
      rename_i k
      simp only [sumI, Option.map_eq_some_iff] at e
      obtain ⟨j, e, rfl⟩ := e
      obtain ⟨ns, rfl, rfl⟩ := sum_rel b e
      exact ⟨k :: ns, by rw [(PkR.inl' a).int]; rfl, by simp⟩
theorem bls_rel {K : PySem.W.Frag} {H : Hp} {F : Addr → Prop} : ∀ {vs : List V} {ws : List W} {i : List Bool}, HRs K H F vs ws → asBools ws = some i → vs = i.map V.bl
  | _, [], i, h, e => by cases h; cases Option.some.inj e; rfl
  | _, w :: ws, i, h, e => by
    cases h with
    | cons a b =>
      cases w <;> first | (cases e; done) | skip
      rename_i k
      simp only [asBools, Option.map_eq_some_iff] at e
      obtain ⟨j, e, rfl⟩ := e
      rw [bls_rel b e, (PkR.inl' a).bl]; rfl
theorem call_sumW (hc : X.calm = true) : CallR X (.builtin "sum") (rL X.K (biW .sum)) := by
  refine callImp (cr_sum hc) fun xs H Q ⟨F, ws, r, a, e, q⟩ => ?_
  match ws, e, a with
  | [.lst ys], e, a =>
    obtain ⟨v, rfl, b⟩ := a.one
    simp only [biW, Option.map_eq_some_iff] at e
    obtain ⟨i, e3, rfl⟩ := e
    obtain ⟨p, vs, rfl, h1, h2, h3⟩ := b.lst
    obtain ⟨ns, rfl, rfl⟩ := sum_rel h3 e3
    exact ⟨p, ns, rfl, h1, q.int⟩
theorem call_allW (hc : X.calm = true) : CallR X (.builtin "all") (rL X.K (biW .all)) := by
  refine callImp (cr_all hc) fun xs H Q ⟨F, ws, r, a, e, q⟩ => ?_
  match ws, e, a with
  | [.lst ys], e, a =>
    obtain ⟨v, rfl, b⟩ := a.one
    simp only [biW, Option.map_eq_some_iff] at e
    obtain ⟨i, e3, rfl⟩ := e
    obtain ⟨p, vs, rfl, h1, h2, h3⟩ := b.lst
    obtain rfl := bls_rel h3 e3
    exact ⟨p, i, rfl, h1, q.bl⟩
theorem call_anyW (hc : X.calm = true) : CallR X (.builtin "any") (rL X.K (biW .any)) := by
  refine callImp (cr_any hc) fun xs H Q ⟨F, ws, r, a, e, q⟩ => ?_
  match ws, e, a with
  | [.lst ys], e, a =>
    obtain ⟨v, rfl, b⟩ := a.one
    simp only [biW, Option.map_eq_some_iff] at e
    obtain ⟨i, e3, rfl⟩ := e
    obtain ⟨p, vs, rfl, h1, h2, h3⟩ := b.lst
    obtain rfl := bls_rel h3 e3
    exact ⟨p, i, rfl, h1, q.bl⟩
theorem call_tupleW : CallR X (.type "tuple") (rL X.K (biW .tuple)) := by
  refine callImp call_tuple_of fun xs H Q ⟨F, ws, r, a, e, q⟩ => ?_
  match ws, e, a with
  | [.lst ys], e, a =>
    obtain ⟨v, rfl, b⟩ := a.one
    cases Option.some.inj e
    obtain ⟨p, vs, rfl, h1, h2, h3⟩ := b.lst
    exact ⟨p, vs, rfl, .inl ⟨h1, fun l hl => q _ _ (.tup hl h2 h3)⟩⟩
  | [.tup ys], e, a =>
    obtain ⟨v, rfl, b⟩ := a.one
    cases Option.some.inj e
    obtain ⟨p, vs, rfl, h1, h2, h3⟩ := b.tup
    exact ⟨p, vs, rfl, .inr ⟨h1, q _ _ (.old (.tup h1 h2 h3))⟩⟩
theorem call_listW : CallR X (.type "list") (rL X.K (biW .list)) := by
  refine callImp call_list_of fun xs H Q ⟨F, ws, r, a, e, q⟩ => ?_
  match ws, e, a with
  | [.lst ys], e, a =>
    obtain ⟨v, rfl, b⟩ := a.one
    cases Option.some.inj e
    obtain ⟨p, vs, rfl, h1, h2, h3⟩ := b.lst
    exact ⟨p, vs, rfl, .inl h1, fun l hl => q _ _ (.lst hl h2 h3)⟩
  | [.tup ys], e, a =>
    obtain ⟨v, rfl, b⟩ := a.one
    cases Option.some.inj e
    obtain ⟨p, vs, rfl, h1, h2, h3⟩ := b.tup
    exact ⟨p, vs, rfl, .inr h1, fun l hl => q _ _ (.lst hl h2 h3)⟩
end
end Py

namespace Py
open PySem PySem.Spec PyProof.Rows L2
variable [HW]

/-- an exception's own dict -/
def ExD (p : W) (d : Option Addr) (H : Hp) : Prop := match p with
  | .non => d = none
  | .int i => ∃ a, d = some a ∧ H a = some (.xd [("line", .int i)])
  | _ => False

/-- what stands still: the written part, the exceptions' classes, what is wanted of an exception, the defs -/
structure Cf where
  K : PySem.W.Frag
  cls : Nat → Value
  wx : WX
  C : Fn

def OkX {α : Type} (o : Out α) (P : α → Env → Prop) (E : Nat → W → Env → Prop) : Prop := match o with
  | .ok a ρ => P a ρ
  | .ex x p ρ => E x p ρ
  | .bad => False
theorem OkX.bind {α β : Type} {o : Out α} {f : α → Env → Out β} {P : β → Env → Prop} {E : Nat → W → Env → Prop} (h : OkX (o.bind f) P E) : OkX o (fun a ρ => OkX (f a ρ) P E) E := by
  cases o <;> exact h
theorem OkX.mono {α : Type} {o : Out α} {P P' : α → Env → Prop} {E E' : Nat → W → Env → Prop} (h : OkX o P E) (hp : ∀ a ρ, P a ρ → P' a ρ) (he : ∀ x p ρ, E x p ρ → E' x p ρ) : OkX o P' E' := by
  cases o with
  | ok a ρ => exact hp _ _ h
  | ex x p ρ => exact he _ _ _ h
  | bad => exact h

section
variable (c : Cf) (A : Nat → Option Addr) (σ : Sg) (ρ : Env) (H : Hp) (F : Addr → Prop) (Pn : List (Addr × W))
def PX (Q : VK) (a : Arg) (ρ' : Env) : Prop := ∀ v H' F', Stp σ ρ H F σ ρ' H' F' → SRel c.K A σ ρ' H' F' (pnd a v ++ Pn) → AR c.K σ H' F' a v → (∀ d x, (d, x) ∈ pnd a v → H d = none) → Q v H'
def PL (Q : List V → Hp → Prop) (as : List Arg) (ρ' : Env) : Prop := ∀ vs H' F', Stp σ ρ H F σ ρ' H' F' → SRel c.K A σ ρ' H' F' (pnds as vs ++ Pn) → ARs c.K σ H' F' as vs → (∀ d x, (d, x) ∈ pnds as vs → H d = none) → Q vs H'
def PB (Q : Bool → Hp → Prop) (k : Bool) (ρ' : Env) : Prop := ∀ H' F', Stp σ ρ H F σ ρ' H' F' → SRel c.K A σ ρ' H' F' Pn → Q k H'
def EX (x : Nat) (p : W) (ρ' : Env) : Prop := ∀ H' F' d, Stp σ ρ H F σ ρ' H' F' → SRel c.K A σ ρ' H' F' Pn → ExD p d H' → c.wx (c.cls x) d σ H'
end
def tX (c : Cf) (e : E) : TE := fun σ H Q => ∃ A ρ F Pn, SRel c.K A σ ρ H F Pn ∧ OkX ((ev c.C e).x ρ) (PX c A σ ρ H F Pn Q) (EX c A σ ρ H F Pn)
def tXL (c : Cf) (e : E) : TA := fun σ H Q => ∃ A ρ F Pn, SRel c.K A σ ρ H F Pn ∧ OkX ((ev c.C e).a ρ) (PL c A σ ρ H F Pn Q) (EX c A σ ρ H F Pn)
def tXB (c : Cf) (e : E) : TT := fun σ H Q => ∃ A ρ F Pn, SRel c.K A σ ρ H F Pn ∧ OkX ((ev c.C e).t ρ) (PB c A σ ρ H F Pn Q) (EX c A σ ρ H F Pn)

theorem peImp {X : Cx} {e : Expr} {t t' : TE} (h : PE X e t) (i : ∀ σ H Q, t' σ H Q → t σ H Q) : PE X e t' := ⟨fun pins s σ H Q I q => h.run pins s σ H Q I (i σ H Q q)⟩
theorem ptImp {X : Cx} {e : Expr} {t t' : TT} (h : PT X e t) (i : ∀ σ H Q, t' σ H Q → t σ H Q) : PT X e t' := ⟨fun pins s σ H Q I q => h.run pins s σ H Q I (i σ H Q q)⟩
theorem paImp {X : Cx} {e : List Expr} {t t' : TA} (h : PA X e t) (i : ∀ σ H Q, t' σ H Q → t σ H Q) : PA X e t' := ⟨fun pos pins s σ H Q I q => h.run pos pins s σ H Q I (i σ H Q q)⟩
theorem psImp {X : Cx} {e : Stmt} {t t' : TS} (h : PS X e t) (i : ∀ D σ H, t' D σ H → t D σ H) : PS X e t' := ⟨fun pins s σ H D I q => h.run pins s σ H D I (i D σ H q)⟩
theorem pssImp {X : Cx} {e : List Stmt} {t t' : TS} (h : PSs X e t) (i : ∀ D σ H, t' D σ H → t D σ H) : PSs X e t' := ⟨fun pins s σ H D I q => h.run pins s σ H D I (i D σ H q)⟩

section
variable {c : Cf} {A : Nat → Option Addr} {σ : Sg} {ρ ρ1 ρ' : Env} {H H1 : Hp} {F F1 : Addr → Prop} {Pn P1 : List (Addr × W)}
theorem EX.step {x : Nat} {p : W} (h : EX c A σ ρ H F Pn x p ρ') (st : Stp σ ρ H F σ ρ1 H1 F1) : EX c A σ ρ1 H1 F1 (P1 ++ Pn) x p ρ' :=
  fun H' F' d st' s e => h H' F' d (st.trans st') s.drop e

/-- behind some arguments -/
structure Md (c : Cf) (A : Nat → Option Addr) (σ : Sg) (ρ : Env) (H : Hp) (F : Addr → Prop) (Pn : List (Addr × W)) (as : List Arg) (vs : List V) (ρ' : Env) (H' : Hp) (F' : Addr → Prop) : Prop where
  st : Stp σ ρ H F σ ρ' H' F'
  sr : SRel c.K A σ ρ' H' F' (pnds as vs ++ Pn)
  ar : ARs c.K σ H' F' as vs
  fr : ∀ d x, (d, x) ∈ pnds as vs → H d = none
theorem Stp.fresh {σ' : Sg} (st : Stp σ ρ H F σ' ρ1 H1 F1) {a : Addr} (h : H1 a = none) : H a = none := by
  cases e : H a with
  | none => rfl
  | some o => obtain ⟨o', e'⟩ := st.al a o e; rw [h] at e'; cases e'
theorem Md.nil (hs : SRel c.K A σ ρ H F Pn) : Md c A σ ρ H F Pn [] [] ρ H F := ⟨.refl, hs, .nil, fun _ _ h => nomatch h⟩
/-- one argument more -/
theorem Md.snoc {as : List Arg} {vs : List V} {H' H2 : Hp} {F' F2 : Addr → Prop} {a : Arg} {v : V} {ρ2 : Env} (m : Md c A σ ρ H F Pn as vs ρ' H' F')
    (st : Stp σ ρ' H' F' σ ρ2 H2 F2) (sr : SRel c.K A σ ρ2 H2 F2 (pnd a v ++ (pnds as vs ++ Pn))) (ar : AR c.K σ H2 F2 a v) (fr : ∀ d x, (d, x) ∈ pnd a v → H' d = none) : Md c A σ ρ H F Pn (as ++ [a]) (vs ++ [v]) ρ2 H2 F2 := by
  have e : ∀ {as : List Arg} {vs : List V}, ARs c.K σ H' F' as vs → pnds (as ++ [a]) (vs ++ [v]) = pnd a v ++ pnds as vs := by
    intro as vs h
    induction h with
    | nil => simp [pnds]
    | cons _ _ ih => simp [pnds, ih]
  have e := e m.ar
  refine ⟨m.st.trans st, by rw [e, List.append_assoc]; exact sr, ?_, fun d x h => ?_⟩
  · exact (m.ar.stp m.sr st).snoc ar
  · rw [e] at h
    rcases List.mem_append.mp h with h | h
    · exact m.st.fresh (fr d x h)
    · exact m.fr d x h
theorem tX_of {e : E} {Q : VK} {R : VK} {as : List Arg} {vs : List V} {H' : Hp} {F' : Addr → Prop} {k : Arg → Env → Out Arg} (m : Md c A σ ρ H F Pn as vs ρ' H' F')
    (h : OkX (((ev c.C e).x ρ').bind k) (PX c A σ ρ H F Pn Q) (EX c A σ ρ H F Pn))
    (fin : ∀ a v ρ2 H2 F2, Md c A σ ρ H F Pn (as ++ [a]) (vs ++ [v]) ρ2 H2 F2 → OkX (k a ρ2) (PX c A σ ρ H F Pn Q) (EX c A σ ρ H F Pn) → R v H2) : tX c e σ H' R :=
  ⟨A, ρ', F', pnds as vs ++ Pn, m.sr, h.bind.mono (fun a ρ2 h2 v H2 F2 st s ar fr => fin a v ρ2 H2 F2 (m.snoc st s ar fr) h2) fun _ _ _ e => e.step m.st⟩
theorem tX_ofG {α : Type} {P : α → Env → Prop} {e : E} {R : VK} {as : List Arg} {vs : List V} {H' : Hp} {F' : Addr → Prop} {k : Arg → Env → Out α} (m : Md c A σ ρ H F Pn as vs ρ' H' F')
    (h : OkX (((ev c.C e).x ρ').bind k) P (EX c A σ ρ H F Pn))
    (fin : ∀ a v ρ2 H2 F2, Md c A σ ρ H F Pn (as ++ [a]) (vs ++ [v]) ρ2 H2 F2 → OkX (k a ρ2) P (EX c A σ ρ H F Pn) → R v H2) : tX c e σ H' R :=
  ⟨A, ρ', F', pnds as vs ++ Pn, m.sr, h.bind.mono (fun a ρ2 h2 v H2 F2 st s ar fr => fin a v ρ2 H2 F2 (m.snoc st s ar fr) h2) fun _ _ _ e => e.step m.st⟩
theorem tXL_of {e : E} {Q : VK} {R : List V → Hp → Prop} {k : List Arg → Env → Out Arg} (hs : SRel c.K A σ ρ H F Pn)
    (h : OkX (((ev c.C e).a ρ).bind k) (PX c A σ ρ H F Pn Q) (EX c A σ ρ H F Pn))
    (fin : ∀ as vs ρ2 H2 F2, Md c A σ ρ H F Pn as vs ρ2 H2 F2 → OkX (k as ρ2) (PX c A σ ρ H F Pn Q) (EX c A σ ρ H F Pn) → R vs H2) : tXL c e σ H R :=
  ⟨A, ρ, F, Pn, hs, h.bind.mono (fun as ρ2 h2 vs H2 F2 st s ar fr => fin as vs ρ2 H2 F2 ⟨st, s, ar, fr⟩ h2) fun _ _ _ e => e⟩

/-! ### something new in the heap -/
theorem upd_some {H : Hp} {p : Addr} {o u : HO} {a : Addr} (hp : H p = none) (h : H a = some u) : upd H p o a = some u := by
  rw [upd_ne (ne_of_none h hp)]; exact h
theorem Rd.upd {p a : Addr} {o u : HO} (hp : H p = none) (h : Rd H a u) : Rd (L2.upd H p o) a u := by
  rcases h with h | ⟨b, h⟩
  · exact .inl (upd_some hp h)
  · exact .inr ⟨b, upd_some hp h⟩
theorem SqT.upd {K : PySem.W.Frag} {p a : Addr} {o : HO} {xs : List V} (hp : H p = none) (h : SqT K H a xs) : SqT K (L2.upd H p o) a xs := by
  rcases h with h | h
  · exact .inl (Rd.upd hp h)
  · exact .inr h
theorem HR.upd {K : PySem.W.Frag} {p : Addr} {o : HO} {v : V} {w : W} (hp : H p = none) (h : HR K H F v w) : HR K (L2.upd H p o) F v w := h.mono (fun _ _ q => SqT.upd hp q) (fun _ q => q) fun _ _ _ q => Rd.upd hp q
theorem HRs.upd {K : PySem.W.Frag} {p : Addr} {o : HO} {v : List V} {w : List W} (hp : H p = none) (h : HRs K H F v w) : HRs K (L2.upd H p o) F v w := h.mono (fun _ _ q => SqT.upd hp q) (fun _ q => q) fun _ _ _ q => Rd.upd hp q
theorem Cell.upd {K : PySem.W.Frag} {p a : Addr} {o : HO} {w : W} (hp : H p = none) (h : Cell K H F a w) : Cell K (L2.upd H p o) F a w := by
  cases w <;> first | exact h.elim | skip
  · obtain ⟨vs, e, z, r⟩ := h
    exact ⟨vs, upd_some hp e, z, r.upd hp⟩
  · obtain ⟨es, e, z, n, r⟩ := h
    exact ⟨es, e.imp fun _ e => upd_some hp e, z, n, r.mono (fun _ _ q => SqT.upd hp q) (fun _ q => q) fun _ _ _ q => Rd.upd hp q⟩
theorem SRel.alloc {K : PySem.W.Frag} {p : Addr} {o : HO} (h : SRel K A σ ρ H F Pn) (hp : H p = none) : SRel K A σ ρ (L2.upd H p o) F Pn := by
  refine ⟨h.ln, fun i w e => ?_, fun i w f e n => ?_, h.io, h.dj, fun q hq => ?_, h.pd, fun a q => ?_⟩
  · obtain ⟨v, a, b⟩ := h.sh i w e
    exact ⟨v, a, b.upd hp⟩
  · obtain ⟨a, x, y, z⟩ := h.ow i w f e n
    exact ⟨a, x, y, z.upd hp⟩
  · obtain ⟨x, y, z⟩ := h.pn q hq
    exact ⟨x, y.upd hp, z⟩
  · obtain ⟨u, e⟩ := h.ff a q
    exact ⟨u, upd_some hp e⟩
theorem Stp.alloc {p : Addr} {o : HO} (hp : H p = none) : Stp σ ρ H F σ ρ (L2.upd H p o) F :=
  ⟨fun _ _ h _ => upd_some hp h, fun _ h => h, fun _ _ _ h => .inl h, fun _ _ _ h => h, fun _ _ _ i h => h, fun _ _ _ h => h, fun _ u h => ⟨u, upd_some hp h⟩⟩
/-- a new object that nothing holds -/
theorem SRel.pend {K : PySem.W.Frag} {p : Addr} {o : HO} {w : W} (h : SRel K A σ ρ H F Pn) (hp : H p = none) (hc : Cell K (L2.upd H p o) F p w) : SRel K A σ ρ (L2.upd H p o) F ((p, w) :: Pn) := by
  have h1 := h.alloc (o := o) hp
  refine ⟨h1.ln, h1.sh, h1.ow, h1.io, h1.dj, fun q hq => ?_, ?_, h1.ff⟩
  · rcases List.mem_cons.mp hq with rfl | hq
    · refine ⟨fun f => ?_, hc, fun i s => ?_⟩
      · obtain ⟨u, e⟩ := h.ff p f; rw [hp] at e; cases e
      · obtain ⟨_, vs, e, _⟩ := h.slc s; rw [hp] at e; cases e
    · exact h1.pn q hq
  · refine List.nodup_cons.mpr ⟨fun hm => ?_, h.pd⟩
    obtain ⟨q, hq, e⟩ := List.mem_map.mp hm
    obtain ⟨vs, e', _⟩ := (h.pn q hq).2.1.obj
    dsimp only at e
    rw [e, hp] at e'; cases e'
/-- the result of a rule -/
theorem Md.fin {as : List Arg} {vs : List V} {H' : Hp} {F' : Addr → Prop} {Q : VK} {r : W × Bool} (m : Md c A σ ρ H F Pn as vs ρ' H' F') (h : PX c A σ ρ H F Pn Q (.val r.1 r.2) ρ') : Rs c.K H' F' Q r := by
  intro v H2 n
  obtain ⟨w, f⟩ := r
  have sr := m.sr.drop
  cases n with
  | old q => exact h v H' F' m.st (by simpa [pnd] using sr) q fun d x z => by simp [pnd] at z
  | tup hp hz hr =>
    rename_i p us ws
    exact h _ _ F' (m.st.trans (.alloc hp)) (by simpa [pnd] using sr.alloc hp) (HR.tup (.inl (.inl upd_same)) hz (hr.upd hp)) fun d x z => by simp [pnd] at z
  | lst hp hz hr =>
    rename_i p us ws
    refine h _ _ F' (m.st.trans (.alloc hp)) (by simpa [pnd] using sr.pend (w := .lst ws) hp ⟨us, upd_same, hz, hr.upd hp⟩) ⟨p, rfl⟩ fun d x z => ?_
    obtain ⟨rfl, rfl⟩ : d = p ∧ x = .lst ws := by simpa [pnd] using z
    exact m.st.fresh hp
theorem Md.pk {as : List Arg} {vs : List V} {H' : Hp} {F' : Addr → Prop} {ws : List W} (m : Md c A σ ρ H F Pn as vs ρ' H' F') (e : ress ρ' as = some ws) : PkRs c.K H' F' vs ws :=
  m.ar.peek m.sr (fun p h => List.mem_append_left _ h) e
theorem ofO_ok {o : Option (W × Bool)} {P : Arg → Env → Prop} {E : Nat → W → Env → Prop} (h : OkX (ofO o ρ) P E) : ∃ r, o = some r ∧ P (.val r.1 r.2) ρ := by
  unfold ofO at h
  cases o with
  | none => exact h.elim
  | some r => exact ⟨r, rfl, h⟩
theorem ress1 {a : Arg} {w : W} (h : res ρ a = some w) : ress ρ [a] = some [w] := by simp [ress, h]
theorem ress2 {a b : Arg} {w u : W} (h : res ρ a = some w) (h' : res ρ b = some u) : ress ρ [a, b] = some [w, u] := by simp [ress, h, h']
theorem l1_ok {f : W → Option (W × Bool)} {a : Arg} {P : Arg → Env → Prop} {E : Nat → W → Env → Prop} (h : OkX (l1 f a ρ) P E) : ∃ w r, ress ρ [a] = some [w] ∧ f w = some r ∧ P (.val r.1 r.2) ρ := by
  unfold l1 at h
  cases e : res ρ a with
  | none => rw [e] at h; exact h.elim
  | some w =>
    rw [e] at h
    obtain ⟨r, e', q⟩ := ofO_ok h
    exact ⟨w, r, ress1 e, e', q⟩
theorem l2_ok {f : W → W → Option (W × Bool)} {a b : Arg} {P : Arg → Env → Prop} {E : Nat → W → Env → Prop} (h : OkX (l2 f a b ρ) P E) : ∃ w u r, ress ρ [a, b] = some [w, u] ∧ f w u = some r ∧ P (.val r.1 r.2) ρ := by
  unfold l2 at h
  cases e : res ρ a with
  | none => rw [e] at h; exact h.elim
  | some w =>
    cases e2 : res ρ b with
    | none => rw [e, e2] at h; exact h.elim
    | some u =>
      rw [e, e2] at h
      obtain ⟨r, e', q⟩ := ofO_ok h
      exact ⟨w, u, r, ress2 e e2, e', q⟩
theorem lL_ok {f : List W → Option (W × Bool)} {a : List Arg} {P : Arg → Env → Prop} {E : Nat → W → Env → Prop} (h : OkX (lL f a ρ) P E) : ∃ w r, ress ρ a = some w ∧ f w = some r ∧ P (.val r.1 r.2) ρ := by
  unfold lL at h
  cases e : ress ρ a with
  | none => rw [e] at h; exact h.elim
  | some w =>
    rw [e] at h
    obtain ⟨r, e', q⟩ := ofO_ok h
    exact ⟨w, r, rfl, e', q⟩
theorem trO_ok {o : Option W} {P : Bool → Env → Prop} {E : Nat → W → Env → Prop} (h : OkX (trO o ρ) P E) : ∃ w b, o = some w ∧ truth w = some b ∧ P b ρ := by
  unfold trO at h
  cases e : o.bind truth with
  | none => rw [e] at h; exact h.elim
  | some b =>
    rw [e] at h
    obtain ⟨w, e1, e2⟩ := Option.bind_eq_some_iff.mp e
    exact ⟨w, b, e1, e2, h⟩
end

/-! ### the rules -/
section
variable {X : Cx} {c : Cf} {e a b : Expr} {ea eb : E} {pos : Pos}
theorem x_con {v : V} {w : W} (h : PE X e (tC v)) (hr : ∀ H F, HR c.K H F v w) : PE X e (tX c (.con w)) := by
  refine peImp h fun σ H Q ⟨A, ρ, F, Pn, hs, q⟩ => ?_
  exact q v H F .refl (by simpa [pnd] using hs) (hr H F) fun d x z => by simp [pnd] at z
theorem x_var {i : Nat} (h : PE X e (tVar i)) : PE X e (tX c (.var i)) := by
  refine peImp h fun σ H Q ⟨A, ρ, F, Pn, hs, q⟩ => ?_
  have q : OkX (match wOf ρ i with | some _ => Out.ok (Arg.slot i) ρ | none => .bad) (PX c A σ ρ H F Pn Q) (EX c A σ ρ H F Pn) := q
  cases e : wOf ρ i with
  | none => rw [e] at q; exact q.elim
  | some x =>
    rw [e] at q
    obtain ⟨v, ev⟩ := hs.val e
    exact ⟨v, ev, q v H F .refl (by simpa [pnd] using hs) ev fun d x z => by simp [pnd] at z⟩
theorem x_op {o : Operator} {p : BOp} (hc : c.K = X.K) (ho : bOp o = some p) (ha : PE X a (tX c ea)) (hb : PE X b (tX c eb)) : PE X (.BinOp a o b pos) (tX c (.op p ea eb)) := by
  refine peImp (pe_op (op_binW ho) ha hb) fun σ H Q ⟨A, ρ, F, Pn, hs, q⟩ => ?_
  refine tX_of (.nil hs) q fun u v ρ1 H1 F1 m1 q1 => tX_of m1 q1 fun u' v' ρ2 H2 F2 m2 q2 => ?_
  obtain ⟨w, z, r, e1, e2, q3⟩ := l2_ok q2
  obtain ⟨_, _, e, p1, p2⟩ := (m2.pk e1).two
  cases e
  rw [← hc]
  exact ⟨F2, w, z, r, p1, p2, e2, m2.fin q3⟩
theorem x_cmp {o : CmpOp} {p : COp} (hc : c.K = X.K) (hw : HW.P = X.prog ∧ HW.w = X.w) (hu : X.A.units + 200 < cLine) (ho : cOp o = some p) (hm : behindInMarks o b = false) (ha : PE X a (tX c ea)) (hb : PE X b (tX c eb)) : PE X (.Compare a [o] [b] pos) (tX c (.cmp p ea eb)) := by
  refine peImp (pe_cmpR (op_cmpW hw hu ho) ha hb hm) fun σ H Q ⟨A, ρ, F, Pn, hs, q⟩ => ?_
  refine tX_of (.nil hs) q fun u v ρ1 H1 F1 m1 q1 => tX_of m1 q1 fun u' v' ρ2 H2 F2 m2 q2 => ?_
  obtain ⟨w, z, r, e1, e2, q3⟩ := l2_ok q2
  obtain ⟨_, _, e, p1, p2⟩ := (m2.pk e1).two
  cases e
  rw [← hc]
  exact ⟨F2, w, z, r, p1, p2, e2, m2.fin q3⟩
theorem x_ix (hc : c.K = X.K) (hw : HW.P = X.prog ∧ HW.w = X.w) (hu : X.A.units + 200 < cLine) (hp : PlainIx b) (ha : PE X a (tX c ea)) (hb : PE X b (tX c eb)) : PE X (.Subscript a b pos) (tX c (.ix ea eb)) := by
  refine peImp (pe_ix (ix_W hw hu) ha hb hp) fun σ H Q ⟨A, ρ, F, Pn, hs, q⟩ => ?_
  refine tX_of (.nil hs) q fun u v ρ1 H1 F1 m1 q1 => tX_of m1 q1 fun u' v' ρ2 H2 F2 m2 q2 => ?_
  obtain ⟨w, z, r, e1, e2, q3⟩ := l2_ok q2
  obtain ⟨_, _, e, p1, p2⟩ := (m2.pk e1).two
  cases e
  rw [← hc]
  exact ⟨F2, w, z, r, p1, p2, e2, m2.fin q3⟩
theorem x_neg (hc : c.K = X.K) (ha : PE X a (tX c ea)) : PE X (.UnaryOp .USub a pos) (tX c (.neg ea)) := by
  refine peImp (pe_un un_neg ha) fun σ H Q ⟨A, ρ, F, Pn, hs, q⟩ => ?_
  refine tX_of (.nil hs) q fun u v ρ1 H1 F1 m1 q1 => ?_
  obtain ⟨w, r, e1, e2, q3⟩ := l1_ok q1
  obtain ⟨_, e, p1⟩ := (m1.pk e1).one
  cases e
  cases w <;> first | (cases e2; done) | cases Option.some.inj e2
  exact ⟨_, p1.int, (m1.fin (r := (.int _, false)) q3).int⟩

/-- the readings are what they ask -/
theorem res_bind {α : Type} {o : Option W} {f : W → Option α} {r : α} (h : o.bind f = some r) : ∃ w, o = some w ∧ f w = some r := Option.bind_eq_some_iff.mp h
/-- truth of a read value -/
theorem tru_of {K : PySem.W.Frag} {H : Hp} {F : Addr → Prop} {v : V} {w : W} {b : Bool} (h : PkR K H F v w) (e : truth w = some b) : TruV K v H b := by
  cases w with
  | non => rw [h.non]; exact (Option.some.inj e).symm
  | bl k => rw [h.bl]; exact (Option.some.inj e).symm
  | int k => rw [h.int]; exact (Option.some.inj e).symm
  | str k =>
    obtain ⟨rfl, z, _⟩ := h.str
    refine ⟨by rw [s8_len]; exact z, ?_⟩
    rw [s8_len]
    have : b = !k.isEmpty := (Option.some.inj e).symm
    rw [this]
    cases k <;> simp <;> omega
  | tup k =>
    obtain ⟨p, vs, rfl, a, z, r⟩ := h.tup
    refine .inr (.inl ⟨vs, a, ?_⟩)
    have : b = !k.isEmpty := (Option.some.inj e).symm
    rw [this]
    have := r.length
    cases vs <;> cases k <;> simp_all
  | lst k =>
    obtain ⟨p, vs, rfl, a, z, r⟩ := h.lst
    refine .inl ⟨vs, a, ?_⟩
    have : b = !k.isEmpty := (Option.some.inj e).symm
    rw [this]
    have := r.length
    cases vs <;> cases k <;> simp_all
  | dct k => cases e
  | st k => exact h.st.elim
/-- a test by the value's truth -/
theorem t_plain (hc : c.K = X.K) (h : PE X e (tX c ea)) (ht : ∀ ρ, (ev c.C ea).t ρ = ((ev c.C ea).x ρ).bind fun u ρ1 => trO (res ρ1 u) ρ1)
    (he : ∀ whole, isTrue e X.env whole = (do let v ← whole; standAt e.pos; holding [v] (truthy v))) : PT X e (tXB c ea) := by
  refine ptImp (pt_truth h he) fun σ H Q ⟨A, ρ, F, Pn, hs, q⟩ => ?_
  rw [ht] at q
  refine tX_ofG (.nil hs) q fun u v ρ1 H1 F1 m1 q1 => ?_
  obtain ⟨w, b, e1, e2, q2⟩ := trO_ok q1
  obtain ⟨_, e, p1⟩ := (m1.pk (ress1 e1)).one
  cases e
  exact ⟨b, by rw [← hc]; exact tru_of p1 e2, q2 H1 F1 m1.st m1.sr.drop⟩
/-- .. of a value that is a truth value -/
theorem t_bool (h : PT X e (tTest (tX c ea))) (ht : ∀ ρ, (ev c.C ea).t ρ = ((ev c.C ea).x ρ).bind fun u ρ1 => trO (res ρ1 u) ρ1) (hb : ∀ ρ a ρ1, (ev c.C ea).x ρ = .ok a ρ1 → ∃ b, a = .val (.bl b) false) : PT X e (tXB c ea) := by
  refine ptImp h fun σ H Q ⟨A, ρ, F, Pn, hs, q⟩ => ?_
  rw [ht] at q
  cases e1 : (ev c.C ea).x ρ with
  | bad => rw [e1] at q; exact q.elim
  | ex x p ρ1 =>
    rw [e1] at q
    refine ⟨A, ρ, F, Pn, hs, ?_⟩
    rw [e1]; exact q
  | ok a ρ1 =>
    obtain ⟨b, rfl⟩ := hb ρ a ρ1 e1
    rw [e1] at q
    refine ⟨A, ρ, F, Pn, hs, ?_⟩
    rw [e1]
    intro v H' F' st sr ar fr
    have ar' : HR c.K H' F' v (.bl b) := ar
    cases ar'
    exact ⟨b, rfl, q H' F' st (by simpa [pnd] using sr)⟩
theorem l2_val {f : W → W → Option Bool} {u v a : Arg} {ρ ρ' : Env} (h : l2 (bW f) u v ρ = .ok a ρ') : ∃ b, a = .val (.bl b) false := by
  unfold l2 at h
  split at h
  · rename_i w z _ _
    unfold ofO at h
    cases e : bW f w z with
    | none => rw [e] at h; cases h
    | some r =>
      obtain ⟨b, _, rfl⟩ := bW_some e
      rw [e] at h
      cases h
      exact ⟨b, rfl⟩
  · cases h
theorem bind_ok {α β : Type} {o : Out α} {f : α → Env → Out β} {b : β} {ρ : Env} (h : o.bind f = .ok b ρ) : ∃ a ρ1, o = .ok a ρ1 ∧ f a ρ1 = .ok b ρ := by
  cases o with
  | ok a ρ1 => exact ⟨a, ρ1, rfl, h⟩
  | ex x p ρ1 => cases h
  | bad => cases h
theorem t_cmp {o : CmpOp} {p : COp} (hc : c.K = X.K) (hw : HW.P = X.prog ∧ HW.w = X.w) (hu : X.A.units + 200 < cLine) (ho : cOp o = some p) (hm : behindInMarks o b = false) (ha : PE X a (tX c ea)) (hb : PE X b (tX c eb)) : PT X (.Compare a [o] [b] pos) (tXB c (.cmp p ea eb)) := by
  refine t_bool (ptImp (pt_cmpR (op_cmpW hw hu ho) ha hb hm) fun σ H Q h => ?_) (fun _ => rfl) fun ρ a' ρ1 e => ?_
  · obtain ⟨A, ρ, F, Pn, hs, q⟩ := h
    refine tX_of (.nil hs) q fun u v ρ1 H1 F1 m1 q1 => tX_of m1 q1 fun u' v' ρ2 H2 F2 m2 q2 => ?_
    obtain ⟨w, z, r, e1, e2, q3⟩ := l2_ok q2
    obtain ⟨_, _, e, p1, p2⟩ := (m2.pk e1).two
    cases e
    rw [← hc]
    exact ⟨F2, w, z, r, p1, p2, e2, m2.fin q3⟩
  · obtain ⟨_, _, _, e⟩ := bind_ok e
    obtain ⟨_, _, _, e⟩ := bind_ok e
    exact l2_val e

/-! ### a < b < c -/
theorem cmp2_ok {p q : COp} {ec : E} {σ : Sg} {A : Nat → Option Addr} {ρ : Env} {H : Hp} {F : Addr → Prop} {Pn : List (Addr × W)} {Q : VK} (hc : c.K = X.K) (hs : SRel c.K A σ ρ H F Pn)
    (h : OkX ((ev c.C (.cmp2 p q ea eb ec)).x ρ) (PX c A σ ρ H F Pn Q) (EX c A σ ρ H F Pn)) : tChain (r2 X.K (bW (cmpW p))) (r2 X.K (bW (cmpW q))) (tX c ea) (tX c eb) (tX c ec) σ H Q := by
  refine tX_of (.nil hs) h fun u v ρ1 H1 F1 m1 q1 => tX_of m1 q1 fun u' v' ρ2 H2 F2 m2 q2 => ?_
  cases e1 : res ρ2 u with
  | none => simp only [e1] at q2; exact q2.elim
  | some w => cases e2 : res ρ2 u' with
    | none => simp only [e1, e2] at q2; exact q2.elim
    | some z => cases e3 : cmpW p w z with
      | none => simp only [e1, e2, e3] at q2; exact q2.elim
      | some k =>
        simp only [e1, e2, e3] at q2
        obtain ⟨_, _, e, p1, p2⟩ := (m2.pk (ress2 e1 e2)).two
        cases e
        rw [← hc]
        refine ⟨F2, w, z, (.bl k, false), p1, p2, by simp [bW, e3], fun v3 H3 n => ?_⟩
        cases n with | old n =>
        cases n
        refine ⟨k, rfl, ?_⟩
        cases k with
        | false => exact iteF ((m2.fin (r := (.bl false, false)) q2).bl)
        | true =>
          refine iteT (tX_of m2 q2 fun u3 v3 ρ3 H3 F3 m3 q3 => ?_)
          obtain ⟨w', z', r, e4, e5, q4⟩ := l2_ok q3
          have p1' : PkR c.K H3 F3 v' w' ∧ PkR c.K H3 F3 v3 z' := by
            have a1 := m3.ar
            have e7 : res ρ3 u' = some w' ∧ res ρ3 u3 = some z' := by
              simp only [ress] at e4
              cases h1 : res ρ3 u' <;> cases h2 : res ρ3 u3 <;> simp_all
            cases a1 with | cons x1 a1 => cases a1 with | cons x2 a1 => cases a1 with | cons x3 a1 =>
              exact ⟨x2.peek m3.sr (fun p h => by simp [pnds, h]) e7.1, x3.peek m3.sr (fun p h => by simp [pnds, h]) e7.2⟩
          exact ⟨F3, w', z', r, p1'.1, p1'.2, e5, m3.fin q4⟩
theorem x_cmp2 {d : Expr} {ec : E} {o o' : CmpOp} {p q : COp} (hc : c.K = X.K) (hw : HW.P = X.prog ∧ HW.w = X.w) (hu : X.A.units + 200 < cLine) (ho : cOp o = some p) (ho' : cOp o' = some q) (hm : lastMarks [o, o'] [b, d] = false) (ha : PE X a (tX c ea)) (hb : PE X b (tX c eb)) (hd : PE X d (tX c ec)) :
    PE X (.Compare a [o, o'] [b, d] pos) (tX c (.cmp2 p q ea eb ec)) :=
  peImp (pe_chain (op_cmpW hw hu ho) (op_cmpW hw hu ho') ha hb hd hm) fun σ H Q ⟨A, ρ, F, Pn, hs, h⟩ => cmp2_ok hc hs h
theorem t_cmp2 {d : Expr} {ec : E} {o o' : CmpOp} {p q : COp} (hc : c.K = X.K) (hw : HW.P = X.prog ∧ HW.w = X.w) (hu : X.A.units + 200 < cLine) (ho : cOp o = some p) (ho' : cOp o' = some q) (hm : lastMarks [o, o'] [b, d] = false) (ha : PE X a (tX c ea)) (hb : PE X b (tX c eb)) (hd : PE X d (tX c ec)) :
    PT X (.Compare a [o, o'] [b, d] pos) (tXB c (.cmp2 p q ea eb ec)) := by
  refine t_bool (ptImp (pt_chain (op_cmpW hw hu ho) (op_cmpW hw hu ho') ha hb hd hm) fun σ H Q ⟨A, ρ, F, Pn, hs, h⟩ => cmp2_ok hc hs h) (fun _ => rfl) fun ρ a' ρ1 e => ?_
  obtain ⟨_, _, _, e⟩ := bind_ok e
  obtain ⟨_, _, _, e⟩ := bind_ok e
  split at e
  · split at e
    · obtain ⟨_, _, _, e⟩ := bind_ok e
      exact l2_val e
    · cases e; exact ⟨false, rfl⟩
    · cases e
  · cases e

/-! ### and, or, not, if -/
theorem tXB_of {e : E} {α : Type} {P : α → Env → Prop} {R : Bool → Hp → Prop} {σ : Sg} {A : Nat → Option Addr} {ρ : Env} {H : Hp} {F : Addr → Prop} {Pn : List (Addr × W)} {k : Bool → Env → Out α} (hs : SRel c.K A σ ρ H F Pn)
    (h : OkX (((ev c.C e).t ρ).bind k) P (EX c A σ ρ H F Pn))
    (fin : ∀ b ρ2 H2 F2, Md c A σ ρ H F Pn [] [] ρ2 H2 F2 → OkX (k b ρ2) P (EX c A σ ρ H F Pn) → R b H2) : tXB c e σ H R :=
  ⟨A, ρ, F, Pn, hs, h.bind.mono (fun b ρ2 h2 H2 F2 st s => fin b ρ2 H2 F2 ⟨st, s, .nil, fun _ _ h => nomatch h⟩ h2) fun _ _ _ e => e⟩
/-- a later point -/
theorem PX.step {σ : Sg} {A : Nat → Option Addr} {ρ ρ1 ρ' : Env} {H H1 : Hp} {F F1 : Addr → Prop} {Pn : List (Addr × W)} {Q : VK} {x : Arg} (h : PX c A σ ρ H F Pn Q x ρ') (st : Stp σ ρ H F σ ρ1 H1 F1) : PX c A σ ρ1 H1 F1 Pn Q x ρ' :=
  fun v H' F' st' s ar fr => h v H' F' (st.trans st') s ar fun d y z => st.fresh (fr d y z)
theorem PB.step {σ : Sg} {A : Nat → Option Addr} {ρ ρ1 ρ' : Env} {H H1 : Hp} {F F1 : Addr → Prop} {Pn : List (Addr × W)} {Q : Bool → Hp → Prop} {x : Bool} (h : PB c A σ ρ H F Pn Q x ρ') (st : Stp σ ρ H F σ ρ1 H1 F1) : PB c A σ ρ1 H1 F1 Pn Q x ρ' :=
  fun H' F' st' s => h H' F' (st.trans st') s
theorem tX_at {e : E} {Q : VK} {σ : Sg} {A : Nat → Option Addr} {ρ ρ1 : Env} {H H1 : Hp} {F F1 : Addr → Prop} {Pn P1 : List (Addr × W)} (hs : SRel c.K A σ ρ1 H1 F1 (P1 ++ Pn)) (st : Stp σ ρ H F σ ρ1 H1 F1)
    (h : OkX ((ev c.C e).x ρ1) (PX c A σ ρ H F Pn Q) (EX c A σ ρ H F Pn)) : tX c e σ H1 Q :=
  ⟨A, ρ1, F1, Pn, hs.drop, h.mono (fun _ _ q => q.step st) fun _ _ _ q => by simpa using q.step (P1 := []) st⟩
theorem tXB_at {e : E} {Q : Bool → Hp → Prop} {σ : Sg} {A : Nat → Option Addr} {ρ ρ1 : Env} {H H1 : Hp} {F F1 : Addr → Prop} {Pn P1 : List (Addr × W)} (hs : SRel c.K A σ ρ1 H1 F1 (P1 ++ Pn)) (st : Stp σ ρ H F σ ρ1 H1 F1)
    (h : OkX ((ev c.C e).t ρ1) (PB c A σ ρ H F Pn Q) (EX c A σ ρ H F Pn)) : tXB c e σ H1 Q :=
  ⟨A, ρ1, F1, Pn, hs.drop, h.mono (fun _ _ q => q.step st) fun _ _ _ q => by simpa using q.step (P1 := []) st⟩
theorem x_ite {g : Expr} {ec : E} (hg : PT X g (tXB c ec)) (ha : PE X a (tX c ea)) (hb : PE X b (tX c eb)) : PE X (.IfExp g a b pos) (tX c (.ite ec ea eb)) := by
  refine peImp (pe_ifExp hg ha hb) fun σ H Q ⟨A, ρ, F, Pn, hs, q⟩ => ?_
  refine tXB_of hs q fun k ρ1 H1 F1 m q1 => ?_
  cases k with
  | true => exact iteT (tX_at m.sr m.st q1)
  | false => exact iteF (tX_at m.sr m.st q1)
theorem t_ite {g : Expr} {ec : E} (hg : PT X g (tXB c ec)) (ha : PT X a (tXB c ea)) (hb : PT X b (tXB c eb)) : PT X (.IfExp g a b pos) (tXB c (.ite ec ea eb)) := by
  refine ⟨fun pins s σ H Q I ⟨A, ρ, F, Pn, hs, q⟩ => ?_⟩
  have h : tXB c ec σ H fun k H1 => if k = true then tXB c ea σ H1 Q else tXB c eb σ H1 Q := by
    refine tXB_of hs q fun k ρ1 H1 F1 m q1 => ?_
    cases k with
    | true => exact iteT (tXB_at m.sr m.st q1)
    | false => exact iteF (tXB_at m.sr m.st q1)
  show wpAny _ _ (PySem.isTrue (.IfExp g a b pos) X.env (eval (.IfExp g a b pos) X.env)) _ _ _
  rw [PySem.isTrue]
  refine wpAny_bind (thn (hg.run pins s σ H _ I h) fun k s1 ⟨H1, I1, q1⟩ => ?_)
  cases k with
  | true => exact ha.run pins s1 σ H1 Q I1 (by simpa using q1)
  | false => exact hb.run pins s1 σ H1 Q I1 (by simpa using q1)
end
end Py

namespace Py
open PySem PySem.Spec PyProof.Rows L2
variable [HW]
section
variable {X : Cx} {c : Cf} {e a b : Expr} {ea eb : E} {rest : List Expr} {pos : Pos}
/-! ### and, or, not as tests -/
theorem x_dnw : PE X (.Dict [] [] pos) (tX c (.dsp .nil)) := by
  refine peImp pe_dnw fun σ H Q ⟨A, ρ, F, Pn, hs, q⟩ => ?_
  have q : PX c A σ ρ H F Pn Q (.val (.dct []) true) ρ := q
  intro p hp
  refine q (.ref p) _ F (.alloc hp) (by simpa [pnd] using hs.pend (w := .dct []) hp ⟨[], ⟨_, upd_same⟩, Nat.zero_le _, List.nodup_nil, .nil⟩) ⟨p, rfl⟩ fun d x z => ?_
  obtain ⟨rfl, rfl⟩ : d = p ∧ x = .dct [] := by simpa [pnd] using z
  exact hp
theorem t_and1 (ha : PT X a (tXB c ea)) : PW X (.BoolOp .And [a] pos) (tXB c ea) := pw_and1 ha
theorem t_or1 (ha : PT X a (tXB c ea)) : PW X (.BoolOp .Or [a] pos) (tXB c ea) := pw_or1 ha
theorem pwImp {t t' : TT} (h : PW X e t) (i : ∀ σ H Q, t' σ H Q → t σ H Q) : PW X e t' := ⟨fun w pins s σ H Q I q => h.run w pins s σ H Q I (i σ H Q q)⟩
theorem t_and (ha : PT X a (tXB c ea)) (hb : PW X (.BoolOp .And (b :: rest) pos) (tXB c eb)) : PW X (.BoolOp .And (a :: b :: rest) pos) (tXB c (.and ea eb)) := by
  refine pwImp (pw_and ha hb) fun σ H Q ⟨A, ρ, F, Pn, hs, q⟩ => ?_
  refine tXB_of hs q fun k ρ1 H1 F1 m q1 => ?_
  cases k with
  | true => exact iteT (tXB_at m.sr m.st q1)
  | false => exact iteF (q1 H1 F1 m.st m.sr.drop)
theorem t_or (ha : PT X a (tXB c ea)) (hb : PW X (.BoolOp .Or (b :: rest) pos) (tXB c eb)) : PW X (.BoolOp .Or (a :: b :: rest) pos) (tXB c (.or ea eb)) := by
  refine pwImp (pw_or ha hb) fun σ H Q ⟨A, ρ, F, Pn, hs, q⟩ => ?_
  refine tXB_of hs q fun k ρ1 H1 F1 m q1 => ?_
  cases k with
  | false => exact iteF (tXB_at m.sr m.st q1)
  | true => exact iteT (q1 H1 F1 m.st m.sr.drop)
theorem t_not (ha : PT X a (tXB c ea)) : PT X (.UnaryOp .Not a pos) (tXB c (.not ea)) := by
  refine ptImp (pt_not ha) fun σ H Q ⟨A, ρ, F, Pn, hs, q⟩ => ?_
  exact tXB_of hs q fun k ρ1 H1 F1 m q1 => q1 H1 F1 m.st m.sr.drop
/-! ### as values -/
theorem x_and1 (h : PE X a (tX c ea)) : PE X (.BoolOp .And [a] pos) (tX c ea) := pe_one h
theorem x_or1 (h : PE X a (tX c ea)) : PE X (.BoolOp .Or [a] pos) (tX c ea) := pe_one h
theorem x_and (hc : c.K = X.K) (ha : PE X a (tX c ea)) (hb : PE X (.BoolOp .And (b :: rest) pos) (tX c eb)) : PE X (.BoolOp .And (a :: b :: rest) pos) (tX c (.and ea eb)) := by
  refine peImp (pe_andT ha hb) fun σ H Q ⟨A, ρ, F, Pn, hs, q⟩ => ?_
  have q : OkX (((ev c.C ea).x ρ).bind fun u ρ1 => match (res ρ1 u).bind truth with
        | some true => (ev c.C eb).x ρ1
        | some false => .ok u ρ1
        | none => .bad) (PX c A σ ρ H F Pn Q) (EX c A σ ρ H F Pn) := q
  refine tX_of (.nil hs) q fun u v ρ1 H1 F1 m q1 => ?_
  cases e1 : (res ρ1 u).bind truth with
  | none => simp only [e1] at q1; exact q1.elim
  | some k =>
    simp only [e1] at q1
    obtain ⟨w, e2, e3⟩ := res_bind e1
    obtain ⟨_, e, p1⟩ := (m.pk (ress1 e2)).one
    cases e
    refine ⟨k, by rw [← hc]; exact tru_of p1 e3, ?_⟩
    cases k with
    | true => exact iteT (tX_at m.sr m.st q1)
    | false =>
      refine iteF (q1 v H1 F1 m.st (by simpa [pnds] using m.sr) ?_ (fun d x z => m.fr d x (by simpa [pnds] using z)))
      cases m.ar with | cons h _ => exact h
theorem x_or (hc : c.K = X.K) (ha : PE X a (tX c ea)) (hb : PE X (.BoolOp .Or (b :: rest) pos) (tX c eb)) : PE X (.BoolOp .Or (a :: b :: rest) pos) (tX c (.or ea eb)) := by
  refine peImp (pe_orT ha hb) fun σ H Q ⟨A, ρ, F, Pn, hs, q⟩ => ?_
  have q : OkX (((ev c.C ea).x ρ).bind fun u ρ1 => match (res ρ1 u).bind truth with
        | some true => .ok u ρ1
        | some false => (ev c.C eb).x ρ1
        | none => .bad) (PX c A σ ρ H F Pn Q) (EX c A σ ρ H F Pn) := q
  refine tX_of (.nil hs) q fun u v ρ1 H1 F1 m q1 => ?_
  cases e1 : (res ρ1 u).bind truth with
  | none => simp only [e1] at q1; exact q1.elim
  | some k =>
    simp only [e1] at q1
    obtain ⟨w, e2, e3⟩ := res_bind e1
    obtain ⟨_, e, p1⟩ := (m.pk (ress1 e2)).one
    cases e
    refine ⟨k, by rw [← hc]; exact tru_of p1 e3, ?_⟩
    cases k with
    | false => exact iteF (tX_at m.sr m.st q1)
    | true =>
      refine iteT (q1 v H1 F1 m.st (by simpa [pnds] using m.sr) ?_ (fun d x z => m.fr d x (by simpa [pnds] using z)))
      cases m.ar with | cons h _ => exact h
theorem x_not (hc : c.K = X.K) (ha : PE X a (tX c ea)) : PE X (.UnaryOp .Not a pos) (tX c (.not ea)) := by
  refine peImp (pe_notT ha) fun σ H Q ⟨A, ρ, F, Pn, hs, q⟩ => ?_
  refine tX_of (.nil hs) q fun u v ρ1 H1 F1 m q1 => ?_
  obtain ⟨w, r, e1, e2, q3⟩ := l1_ok q1
  obtain ⟨_, e, p1⟩ := (m.pk e1).one
  cases e
  obtain ⟨k, e3, rfl⟩ := Option.map_eq_some_iff.mp e2
  exact ⟨k, by rw [← hc]; exact tru_of p1 e3, (m.fin (r := (.bl (!k), false)) q3).bl⟩

/-! ### argument lists, displays -/
def plainE : Expr → Bool
  | .Starred _ _ => false
  | _ => true
theorem star_cons (env : PySem.Env) (h : plainE e = true) (es : List Expr) : starEach (e :: es) env = (false, eval e env) :: starEach es env := by
  cases e <;> first | rfl | cases h
theorem star_all (env : PySem.Env) (p : Pos) : ∀ {es : List Expr}, es.all plainE = true → (backTo p (starEach es env)).any (·.1) = false ∧ (backTo p (starEach es env)).all (fun x => !x.1) = true
  | [], _ => ⟨rfl, rfl⟩
  | e :: es, h => by
    rw [List.all_cons, Bool.and_eq_true] at h
    rw [star_cons env h.1]
    obtain ⟨i1, i2⟩ := star_all env p h.2
    exact ⟨i1, i2⟩
theorem a_nil : PA X [] (tXL c .nil) := by
  refine paImp pa_nil fun σ H Q ⟨A, ρ, F, Pn, hs, q⟩ => ?_
  exact q [] H F .refl (by simpa [pnds] using hs) .nil fun d x z => by simp [pnds] at z
theorem a_cons {es : List Expr} {eas : E} (hp : plainE e = true) (ha : PE X e (tX c ea)) (hr : PA X es (tXL c eas)) : PA X (e :: es) (tXL c (.cons ea eas)) := by
  refine paImp (pa_cons ha hr (star_cons _ hp _)) fun σ H Q ⟨A, ρ, F, Pn, hs, q⟩ => ?_
  refine tX_ofG (.nil hs) q fun u v ρ1 H1 F1 m q1 => ?_
  refine ⟨A, ρ1, F1, pnd u v ++ Pn, by simpa [pnds] using m.sr, q1.bind.mono (fun as ρ2 h2 vs H2 F2 st s ar fr => ?_) fun _ _ _ e => e.step m.st⟩
  have ar1 : AR c.K σ H1 F1 u v := by cases m.ar with | cons h _ => exact h
  refine h2 (v :: vs) H2 F2 (m.st.trans st) (by simpa [pnds] using s) (.cons (ar1.stp m.sr st) ar) fun d x z => ?_
  simp only [pnds] at z
  rcases List.mem_append.mp z with z | z
  · exact m.st.fresh (fr d x z)
  · exact m.fr d x (by simpa [pnds] using z)
theorem Md.share {A : Nat → Option Addr} {σ : Sg} {ρ ρ1 ρ2 : Env} {H H1 : Hp} {F F1 : Addr → Prop} {Pn : List (Addr × W)} {as : List Arg} {vs : List V} {ws : List W} (m : Md c A σ ρ H F Pn as vs ρ1 H1 F1) (e : shrs ρ1 as = some (ws, ρ2)) :
    ∃ F2, Md c A σ ρ H F Pn [] [] ρ2 H1 F2 ∧ HRs c.K H1 F2 vs ws := by
  obtain ⟨F2, s2, r2, m2, t2⟩ := ARs.share (P1 := []) (Pn := Pn) (by simpa using m.sr) m.ar e
  exact ⟨F2, ⟨t2 H F ρ m.st m.fr, by simpa [pnds] using s2, .nil, fun _ _ h => nomatch h⟩, r2⟩
theorem x_tup {es : List Expr} {eas : E} {k : Nat} (ha : PA X es (tXL c eas)) : PE X (.Tuple es k pos) (tX c (.tup eas)) := by
  refine peImp (pe_tup ha) fun σ H Q ⟨A, ρ, F, Pn, hs, q⟩ => ?_
  refine tXL_of hs q fun as vs ρ1 H1 F1 m q1 => ?_
  cases e : shrs ρ1 as with
  | none => simp only [e] at q1; exact q1.elim
  | some p =>
    obtain ⟨ws, ρ2⟩ := p
    simp only [e] at q1
    obtain ⟨F2, m2, r2⟩ := m.share e
    by_cases hz : ws.length ≤ szL
    · rw [if_pos hz] at q1
      exact ⟨by rw [r2.length]; exact hz, fun p hp => m2.fin (r := (.tup ws, false)) q1 _ _ (.tup hp (by rw [r2.length]; exact hz) r2)⟩
    · rw [if_neg hz] at q1; exact q1.elim
theorem x_lst {es : List Expr} {eas : E} (ha : PA X es (tXL c eas)) : PE X (.List es pos) (tX c (.lst eas)) := by
  refine peImp (pe_lst ha) fun σ H Q ⟨A, ρ, F, Pn, hs, q⟩ => ?_
  refine tXL_of hs q fun as vs ρ1 H1 F1 m q1 => ?_
  cases e : shrs ρ1 as with
  | none => simp only [e] at q1; exact q1.elim
  | some p =>
    obtain ⟨ws, ρ2⟩ := p
    simp only [e] at q1
    obtain ⟨F2, m2, r2⟩ := m.share e
    by_cases hz : ws.length ≤ szL
    · rw [if_pos hz] at q1
      exact ⟨by rw [r2.length]; exact hz, fun p hp => m2.fin (r := (.lst ws, true)) q1 _ _ (.lst hp (by rw [r2.length]; exact hz) r2)⟩
    · rw [if_neg hz] at q1; exact q1.elim

/-! ### slices -/
theorem ARs.unsnoc {K : PySem.W.Frag} {σ : Sg} {H : Hp} {F : Addr → Prop} {u : Arg} {v : V} : ∀ {as : List Arg} {vs : List V}, as.length = vs.length → ARs K σ H F (as ++ [u]) (vs ++ [v]) → ARs K σ H F as vs
  | [], [], _, _ => .nil
  | _ :: as, _ :: vs, h, .cons x t => .cons x (ARs.unsnoc (by simpa using h) t)
theorem ARs.len {K : PySem.W.Frag} {σ : Sg} {H : Hp} {F : Addr → Prop} {as : List Arg} {vs : List V} (h : ARs K σ H F as vs) : as.length = vs.length := by
  induction h with
  | nil => rfl
  | cons _ _ ih => simp [ih]
theorem ARs.last {K : PySem.W.Frag} {σ : Sg} {H : Hp} {F : Addr → Prop} {u : Arg} {v : V} : ∀ {as : List Arg} {vs : List V}, as.length = vs.length → ARs K σ H F (as ++ [u]) (vs ++ [v]) → AR K σ H F u v
  | [], [], _, .cons x _ => x
  | _ :: as, _ :: vs, h, .cons _ t => ARs.last (as := as) (vs := vs) (by simpa using h) t
theorem pnds_snoc {u : Arg} {v : V} : ∀ {as : List Arg} {vs : List V}, as.length = vs.length → pnds (as ++ [u]) (vs ++ [v]) = pnd u v ++ pnds as vs
  | [], [], _ => by simp [pnds]
  | a :: as, x :: vs, h => by
    simp only [List.cons_append, pnds]
    rw [pnds_snoc (as := as) (vs := vs) (by simpa using h)]
    simp
theorem Md.unsnoc {A : Nat → Option Addr} {σ : Sg} {ρ ρ1 : Env} {H H1 : Hp} {F F1 : Addr → Prop} {Pn : List (Addr × W)} {as : List Arg} {vs : List V} {u : Arg} {v : V} (m : Md c A σ ρ H F Pn (as ++ [u]) (vs ++ [v]) ρ1 H1 F1) (hp : pnd u v = []) : Md c A σ ρ H F Pn as vs ρ1 H1 F1 := by
  have hl : as.length = vs.length := by have := m.ar.len; simpa using this
  have e : ∀ {as : List Arg} {vs : List V}, as.length = vs.length → pnds (as ++ [u]) (vs ++ [v]) = pnds as vs := by
    intro as
    induction as with
    | nil => intro vs h; cases vs <;> simp_all [pnds]
    | cons a as ih => intro vs h; cases vs with
      | nil => simp at h
      | cons x vs => simp only [List.cons_append, pnds]; rw [ih (by simpa using h)]
  exact ⟨m.st, by have := m.sr; rw [e hl] at this; exact this, ARs.unsnoc hl m.ar, fun d x z => m.fr d x (by rw [e hl]; exact z)⟩
/-- a slice's part: there, or not -/
def tPt (c : Cf) (l : Bool) (ea : E) : TO := if l = true then tPart (tX c ea) else tNoPart
inductive Part (X : Cx) (c : Cf) : Option Expr → Bool → E → Prop
  | none {ea : E} : Part X c none false ea
  | some {e : Expr} {ea : E} : PE X e (tX c ea) → Part X c (some e) true ea
theorem Part.po {o : Option Expr} {l : Bool} (h : Part X c o l ea) : PO X o (tPt c l ea) := by
  cases h with
  | none => exact po_none
  | some h => exact po_some h
theorem tPt_of {A : Nat → Option Addr} {σ : Sg} {ρ ρ1 : Env} {H H1 : Hp} {F F1 : Addr → Prop} {Pn : List (Addr × W)} {as : List Arg} {vs : List V} {Q : VK} {l : Bool} {R : Option Int → Hp → Prop} {k : Option Int → Env → Out Arg}
    (m : Md c A σ ρ H F Pn as vs ρ1 H1 F1) (h : OkX ((part l (ev c.C ea).x ρ1).bind k) (PX c A σ ρ H F Pn Q) (EX c A σ ρ H F Pn))
    (fin : ∀ i ρ2 H2 F2, Md c A σ ρ H F Pn as vs ρ2 H2 F2 → OkX (k i ρ2) (PX c A σ ρ H F Pn Q) (EX c A σ ρ H F Pn) → R i H2) : tPt c l ea σ H1 R := by
  cases l with
  | false => exact fin none ρ1 H1 F1 m h
  | true =>
    have h' : OkX (((ev c.C ea).x ρ1).bind fun v ρ2 => (match res ρ2 v with | some (.int i) => Out.ok (some i) ρ2 | _ => .bad).bind k) (PX c A σ ρ H F Pn Q) (EX c A σ ρ H F Pn) := by
      unfold part at h
      rw [if_pos rfl] at h
      cases e : (ev c.C ea).x ρ1 with
      | ok a ρ2 => rw [e] at h; exact h
      | ex x p ρ2 => rw [e] at h; exact h
      | bad => rw [e] at h; exact h
    refine tX_of m h' fun u v ρ2 H2 F2 m2 q2 => ?_
    cases e : res ρ2 u with
    | none => simp only [e] at q2; exact q2.elim
    | some w =>
      cases w with
      | int i =>
        simp only [e] at q2
        have ar : AR c.K σ H2 F2 u v := ARs.last m.ar.len m2.ar
        have hv : v = .int i := (ar.peek m2.sr (fun p hp => by rw [pnds_snoc m.ar.len]; simp [hp]) e).int
        subst hv
        exact ⟨i, rfl, fin _ ρ2 H2 F2 (m2.unsnoc (by cases u with | slot _ => rfl | val w f => cases f <;> rfl)) q2⟩
      | _ => simp only [e] at q2; exact q2.elim
theorem x_slc {lo hi : Option Expr} {l h : Bool} {el eh : E} {p2 : Pos} (hc : c.K = X.K) (ha : PE X a (tX c ea)) (hl : Part X c lo l el) (hh : Part X c hi h eh) : PE X (.Subscript a (.Slice lo hi none p2) pos) (tX c (.slc ea l h el eh)) := by
  refine peImp (pe_slice sl_W ha hl.po hh.po) fun σ H Q ⟨A, ρ, F, Pn, hs, q⟩ => ?_
  refine tX_of (.nil hs) q fun u v ρ1 H1 F1 m1 q1 => tPt_of m1 q1 fun i ρ2 H2 F2 m2 q2 => tPt_of m2 q2 fun j ρ3 H3 F3 m3 q3 => ?_
  obtain ⟨w, r, e1, e2, q4⟩ := l1_ok q3
  obtain ⟨_, e, p1⟩ := (m3.pk e1).one
  cases e
  rw [← hc]
  exact ⟨F3, w, r, p1, e2, m3.fin q4⟩

/-! ### built-in functions -/
def bName : BI → Option (Str × Value)
  | .len => some ("len", .builtin "len") | .abs => some ("abs", .builtin "abs") | .min => some ("min", .builtin "min") | .max => some ("max", .builtin "max") | .sum => some ("sum", .builtin "sum")
  | .all => some ("all", .builtin "all") | .any => some ("any", .builtin "any") | .int => some ("int", .type "int") | .bool => some ("bool", .type "bool") | .tuple => some ("tuple", .type "tuple") | .list => some ("list", .type "list")
  | _ => none
theorem bi_run {f : BI} {id : Str} {fv : Value} (hc : X.calm = true) (h : bName f = some (id, fv)) : CallR X fv (rL X.K (biW f)) := by
  cases f <;> first | (cases h; done) | cases Option.some.inj h
  · exact call_lenW
  · exact call_absW
  · exact call_intW
  · exact call_boolW
  · exact call_minW hc
  · exact call_maxW hc
  · exact call_sumW hc
  · exact call_allW hc
  · exact call_anyW hc
  · exact call_tupleW
  · exact call_listW
theorem bi_boot {f : BI} {id : Str} {fv : Value} (h : bName f = some (id, fv)) : bootBuiltins id = some fv ∧ id ≠ "__name__" ∧ (id == ("__debug__" : Str)) = false := by
  cases f <;> first | (cases h; done) | (cases Option.some.inj h; exact ⟨by decide +kernel, by decide +kernel, by decide +kernel⟩)
theorem x_bi {es : List Expr} {eas : E} {f : BI} {id : Str} {fv : Value} {p : Pos} (hc : c.K = X.K) (calm : X.calm = true) (hf : bName f = some (id, fv)) (hg : Gl X id) (hm : X.mg id = none) (hp : (e :: es).all plainE = true) (ha : PA X (e :: es) (tXL c eas)) :
    PE X (.Call (.Name id p) (e :: es) [] pos) (tX c (.bi f eas)) := by
  have hr := bi_run (X := X) calm hf
  obtain ⟨h1, h2, h3⟩ := bi_boot hf
  have hpe : plainE e = true := by rw [List.all_cons, Bool.and_eq_true] at hp; exact hp.1
  have hps : es.all plainE = true := by rw [List.all_cons, Bool.and_eq_true] at hp; exact hp.2
  have key : ∀ {t : TA → TE}, (∀ t', t t' = tCB (rL X.K (biW f)) t') → ∀ σ H Q, tX c (.bi f eas) σ H Q → t (tXL c eas) σ H Q := by
    intro t ht σ H Q ⟨A, ρ, F, Pn, hs, q⟩
    rw [ht]
    refine tXL_of hs q fun as vs ρ1 H1 F1 m q1 => ?_
    obtain ⟨w, r, e1, e2, q2⟩ := lL_ok q1
    rw [← hc]
    exact ⟨F1, w, r, m.pk e1, e2, m.fin q2⟩
  cases fv with
  | builtin n => exact peImp (pe_callB hr hg hm h1 ha h2 h3 (star_cons _ hpe _) (star_all _ _ hps).1) (key fun _ => rfl)
  | type n => exact peImp (pe_callTy hr hg hm h1 ha h2 h3 (star_cons _ hpe _) (star_all _ _ hps).1) (key fun _ => rfl)
  | _ => cases f <;> cases hf
end
end Py

namespace Py
open PySem PySem.Spec PyProof.Rows L2
variable [HW]
/-! ### isinstance -/
def tyN : W → String
  | .non => "NoneType" | .bl _ => "bool" | .int _ => "int" | .str _ => "str" | .tup _ => "tuple" | .lst _ => "list" | .dct _ => "dict" | .st _ => "set"
def tyT : Ty → String
  | .int => "int" | .bool => "bool" | .str => "str" | .tuple => "tuple" | .list => "list" | .dict => "dict"
theorem kit_all : ∀ (t : Ty) (w : W), (∀ l, w ≠ .st l) → kitB (tyN w) (tyT t) = some (isTy t w) := by
  have h : ∀ t : Ty, kitB "NoneType" (tyT t) = some (isTy t .non) ∧ kitB "bool" (tyT t) = some (isTy t (.bl true)) ∧ kitB "int" (tyT t) = some (isTy t (.int 0)) ∧ kitB "str" (tyT t) = some (isTy t (.str [])) ∧
      kitB "tuple" (tyT t) = some (isTy t (.tup [])) ∧ kitB "list" (tyT t) = some (isTy t (.lst [])) ∧ kitB "dict" (tyT t) = some (isTy t (.dct [])) := by
    intro t
    cases t <;> decide +kernel
  intro t w hw
  obtain ⟨h1, h2, h3, h4, h5, h6, h7⟩ := h t
  cases w with
  | non => exact h1
  | bl b => exact h2.trans (by cases t <;> rfl)
  | int b => exact h3.trans (by cases t <;> rfl)
  | str b => exact h4.trans (by cases t <;> rfl)
  | tup b => exact h5.trans (by cases t <;> rfl)
  | lst b => exact h6.trans (by cases t <;> rfl)
  | dct b => exact h7.trans (by cases t <;> rfl)
  | st l => exact absurd rfl (hw l)
theorem tyX_of {K : PySem.W.Frag} {H : Hp} {F : Addr → Prop} {v : V} {w : W} (h : PkR K H F v w) (hd : isD w = false) : TyX K H v (.type (tyN w)) := by
  cases w with
  | non => rw [h.non]; exact .base .non
  | bl b => rw [h.bl]; exact .base (.bl b)
  | int b => rw [h.int]; exact .base (.int b)
  | str b => rw [h.str.1]; exact .base (.str _)
  | tup b =>
    obtain ⟨p, vs, rfl, hs, _, _⟩ := h.tup
    rcases hs with (hs | ⟨o, hs⟩) | ⟨o, its, n, hk, hc, _⟩
    · exact .base (.tup hs)
    · exact .fTuple hs
    · exact .kTuple hk hc
  | lst b =>
    obtain ⟨p, vs, rfl, hs, _, _⟩ := h.rd
    rcases hs with hs | ⟨o, hs⟩
    · exact .base (.lst hs)
    · exact .base (.frz hs)
  | dct b => cases hd
  | st b => exact h.st.elim
theorem ty_boot (t : Ty) : bootBuiltins (Str.ofString (tyT t)) = some (.type (tyT t)) ∧ (Str.ofString (tyT t)) ≠ "__name__" ∧ ((Str.ofString (tyT t)) == ("__debug__" : Str)) = false := by
  cases t <;> exact ⟨by decide +kernel, by decide +kernel, by decide +kernel⟩
section
variable {X : Cx} {c : Cf} {e a b o : Expr} {ea eb eo : E} {rest : List Expr} {pos p p2 apos : Pos}
theorem x_isi {t : Ty} (hc : c.K = X.K) (hg : Gl X "isinstance") (hm : X.mg "isinstance" = none) (hg2 : Gl X (Str.ofString (tyT t))) (hm2 : X.mg (Str.ofString (tyT t)) = none) (hp : plainE a = true) (ha : PE X a (tX c ea)) :
    PE X (.Call (.Name "isinstance" p) [a, .Name (Str.ofString (tyT t)) p2] [] pos) (tX c (.isi ea t)) := by
  obtain ⟨b1, b2, b3⟩ := ty_boot t
  have h2 : PE X (.Name (Str.ofString (tyT t)) p2) (tC (.ty (tyT t))) := pe_bltn hg2 hm2 b1 rfl b2 b3
  refine peImp (pe_callB call_isi hg hm (by decide +kernel) (pa_cons ha (pa_cons h2 pa_nil) (star_cons _ hp _)) (by decide) (by decide) (star_cons _ hp _) rfl) fun σ H Q ⟨A, ρ, F, Pn, hs, q⟩ => ?_
  refine tX_of (.nil hs) q fun u v ρ1 H1 F1 m q1 => ?_
  obtain ⟨w, r, e1, e2, q2⟩ := l1_ok q1
  obtain ⟨_, e, p1⟩ := (m.pk e1).one
  cases e
  by_cases hd : isD w = true
  · rw [if_pos hd] at e2; cases e2
  rw [if_neg hd] at e2
  have hd : isD w = false := by simpa using hd
  cases Option.some.inj e2
  refine ⟨v, .ty (tyT t), .type (tyN w), .type (tyT t), isTy t w, rfl, .ty _, by rw [← hc]; exact tyX_of p1 hd, kit_ty (kit_all t w fun l h => ?_), (m.fin (r := (.bl (isTy t w), false)) q2).bl⟩
  subst h; exact p1.st

/-! ### methods that read -/
theorem base_plain {attr : Str} {env : PySem.Env} {w : Sem Value} (h : ∀ id q r, o ≠ .Call (.Name id q) [] [] r) : attributeBase o attr env w = w := by
  unfold attributeBase
  split
  · exact absurd rfl (h _ _ _)
  · rfl
theorem idx_rel : ∀ {y : W} {ws : List W} {n : Nat}, dep y < 1000 → deps ws < 1000 → idxW y ws = some n → ∃ z, (pds ws)[n]? = some z ∧ PyData.eqv z (pd y) = true ∧ ∀ m z', m < n → (pds ws)[m]? = some z' → PyData.eqv z' (pd y) = false
  | y, [], n, _, _, e => by cases e
  | y, w :: ws, n, h1, h2, e => by
    simp only [deps] at h2
    simp only [idxW] at e
    by_cases k : eqW w y = true
    · rw [if_pos k] at e
      cases Option.some.inj e
      refine ⟨pd w, rfl, by rw [eqv_pd (v := .non) (v' := .non) w y (by omega) h1]; exact k, fun m z' h => by omega⟩
    · rw [if_neg k] at e
      obtain ⟨m, e', rfl⟩ := Option.map_eq_some_iff.mp e
      obtain ⟨z, a1, a2, a3⟩ := idx_rel h1 (by omega) e'
      refine ⟨z, a1, a2, fun i z' hi hz => ?_⟩
      cases i with
      | zero =>
        simp only [pds, List.getElem?_cons_zero] at hz
        cases Option.some.inj hz
        rw [eqv_pd (v := .non) (v' := .non) w y (by omega) h1]
        exact Bool.not_eq_true _ ▸ k
      | succ i => exact a3 i z' (by omega) (by simpa [pds] using hz)
def mName : MI → Option (Str × String × String)
  | .index => some ("index", "list", "list.index")
  | _ => none
def rM (K : PySem.W.Frag) (f : W → List W → Option (W × Bool)) : V → List V → Hp → VK → Prop := fun x xs H Q => ∃ F w ws r, PkR K H F x w ∧ PkRs K H F xs ws ∧ f w ws = some r ∧ Rs K H F Q r
theorem mt_indexW (hu : X.A.units + 200 < cLine) : MtR X "list.index" (rM X.K (mthW .index)) := by
  intro pins s σ H x xs v us Q I rx rxs ⟨F, w, ws, r, a, b, e, q⟩
  match w, ws, e, a, b with
  | .lst ys, [y], e, a, b =>
    obtain ⟨⟨d1, d2⟩, e7⟩ : (dep y ≤ 64 ∧ deps ys ≤ 60) ∧ (idxW y ys).map (fun (n : Nat) => (W.int (n : Int), false)) = some r := by
      have e : (if dep y ≤ 64 ∧ deps ys ≤ 60 then (idxW y ys).map (fun (n : Nat) => (W.int (n : Int), false)) else none) = some r := e
      by_cases k : dep y ≤ 64 ∧ deps ys ≤ 60
      · rw [if_pos k] at e; exact ⟨k, e⟩
      · rw [if_neg k] at e; cases e
    obtain ⟨n, e8, rfl⟩ := Option.map_eq_some_iff.mp e7
    obtain ⟨z, h1, h2, h3⟩ := idx_rel (by omega) (by omega) e8
    obtain ⟨y', rfl, b2⟩ := b.one
    obtain ⟨p, vs, rfl, hs, hz, hr⟩ := a.lst
    have hl := a.dp (by simp only [dep]; omega)
    simp only [pd] at hl
    have sh := shaped_of a (by simp only [dep]; omega)
    simp only [pd] at sh
    exact mt_indexD (by omega) pins s σ H _ _ v us Q I rx rxs ⟨p, y', pd y, pds ys, n, z, rfl, rfl, hl, b2.dp (by omega), sh, shaped_of b2 d1, h1, h2, h3, q.int⟩
theorem x_mth {es : List Expr} {eas : E} {name : Str} (hc : c.K = X.K) (hu : X.A.units + 200 < cLine) (hn : name = "index") (hb : ∀ id q r, o ≠ .Call (.Name id q) [] [] r) (hl : (apos.endLine == pos.line) = true)
    (hp : (e :: es).all plainE = true) (hfew : (e :: es).length < 30) (ho : PE X o (tX c eo)) (ha : PA X (e :: es) (tXL c eas)) : PE X (.Call (.Attribute o name apos) (e :: es) [] pos) (tX c (.mth .index eo eas)) := by
  subst hn
  have hpe : plainE e = true := by rw [List.all_cons, Bool.and_eq_true] at hp; exact hp.1
  have hps : es.all plainE = true := by rw [List.all_cons, Bool.and_eq_true] at hp; exact hp.2
  refine peImp (pe_bm PySem.F.plainAttrs_list PySem.F.slot_list_index PySem.F.type_list_index (mt_indexW hu) ho ha (base_plain hb) ?_ hl (star_cons _ hpe _) (star_all _ _ hps).1) fun σ H Q ⟨A, ρ, F, Pn, hs, q⟩ => ?_
  · rw [(star_all _ _ hp).2]
    simp [backToKw, keywordEach] at hfew ⊢
    omega
  · refine tX_of (.nil hs) q fun u v ρ1 H1 F1 m1 q1 => ?_
    cases e1 : (res ρ1 u).bind (mTy .index) with
    | none => simp only [e1] at q1; exact q1.elim
    | some k =>
      simp only [e1] at q1
      obtain ⟨w, e2, e3⟩ := res_bind e1
      obtain ⟨_, e, p1⟩ := (m1.pk (ress1 e2)).one
      cases e
      cases w <;> first | (cases e3; done) | skip
      obtain ⟨p, vs, rfl, hsq, _, _⟩ := p1.lst
      refine ⟨.inl ⟨rfl, vs, by rw [← hc]; exact hsq⟩, A, ρ1, F1, pnds [u] [.ref p] ++ Pn, m1.sr, q1.bind.mono (fun as ρ2 h2 vs' H2 F2 st s ar fr => ?_) fun _ _ _ e => e.step m1.st⟩
      have m2 : Md c A σ ρ H F Pn (u :: as) (.ref p :: vs') ρ2 H2 F2 := by
        refine ⟨m1.st.trans st, by simpa [pnds] using s, ?_, fun d x z => ?_⟩
        · cases m1.ar with | cons h _ => exact .cons (h.stp m1.sr st) ar
        · simp only [pnds] at z
          rcases List.mem_append.mp z with z | z
          · exact m1.st.fresh (fr d x z)
          · exact m1.fr d x (by simpa [pnds] using z)
      cases e4 : res ρ2 u with
      | none => simp only [e4] at h2; exact h2.elim
      | some w =>
        simp only [e4] at h2
        obtain ⟨ws, r, e5, e6, q3⟩ := lL_ok h2
        have pk := m2.pk (ws := w :: ws) (by simp [ress, e4, e5])
        cases pk with | cons k1 k2 =>
        rw [← hc]
        exact ⟨F2, w, ws, r, k1, k2, e6, m2.fin q3⟩
end
end Py

namespace Py
open PySem PySem.Spec PyProof.Rows L2
variable [HW]

/-- what a def promises: C j is what it gives -/
def spF (K : PySem.W.Frag) (cls : Nat → Value) (C : Fn) (fd : FD) (N : List Str) (j : Nat) : Sp := fun vs H Q E => vs.length = fd.m.length ∧ ∃ A F ws, ws.length = fd.m.length ∧ SRel K A (L2.start N vs) (env0 fd ws) H F [] ∧
  match C j ws with
  | .bad => False
  | .ret w fr ios => ∀ v H' F' σ' ρ', Stp (L2.start N vs) (env0 fd ws) H F σ' ρ' H' F' → SRel K A σ' ρ' H' F' (pnd (.val w fr) v) → ioE ρ' 0 fd.m = some ios → (fr = true → ∃ a, v = .ref a ∧ H a = none) → (fr = false → HR K H' F' v w) → Q v H'
  | .ex x p ios => ∀ H' F' σ' ρ' d, Stp (L2.start N vs) (env0 fd ws) H F σ' ρ' H' F' → SRel K A σ' ρ' H' F' [] → ioE ρ' 0 fd.m = some ios → ExD p d H' → E (cls x) d H'

section
variable {K : PySem.W.Frag} {A : Nat → Option Addr} {σ : Sg} {H : Hp}

def pndM : List Bool → List Arg → List V → List (Addr × W)
  | false :: m, _ :: as, _ :: vs => pndM m as vs
  | true :: m, a :: as, v :: vs => pndM m as vs ++ pnd a v
  | _, _, _ => []
inductive OW (K : PySem.W.Frag) (σ : Sg) (H : Hp) (F : Addr → Prop) : List Bool → List Arg → List V → List (Option W) → Prop
  | nil : OW K σ H F [] [] [] []
  | sh {m : List Bool} {a : Arg} {as : List Arg} {v : V} {vs : List V} {w : W} {ws : List (Option W)} : HR K H F v w → OW K σ H F m as vs ws → OW K σ H F (false :: m) (a :: as) (v :: vs) (some w :: ws)
  | io {m : List Bool} {a : Arg} {as : List Arg} {v : V} {vs : List V} {ws : List (Option W)} : AR K σ H F a v → OW K σ H F m as vs ws → OW K σ H F (true :: m) (a :: as) (v :: vs) (none :: ws)
theorem pndM_sub : ∀ {m : List Bool} {as : List Arg} {vs : List V} {p : Addr × W}, p ∈ pndM m as vs → p ∈ pnds as vs
  | false :: m, _ :: as, _ :: vs, p, h => List.mem_append_left _ (pndM_sub (m := m) h)
  | true :: m, a :: as, v :: vs, p, h => by
    simp only [pndM] at h
    rcases List.mem_append.mp h with h | h
    · exact List.mem_append_left _ (pndM_sub h)
    · exact List.mem_append_right _ h
  | [], _, _, p, h => by simp [pndM] at h
  | false :: _, [], _, p, h => by simp [pndM] at h
  | true :: _, [], _, p, h => by simp [pndM] at h
  | false :: _, _ :: _, [], p, h => by simp [pndM] at h
  | true :: _, _ :: _, [], p, h => by simp [pndM] at h
theorem shM_ok : ∀ {m : List Bool} {as : List Arg} {vs : List V} {ows : List (Option W)} {P1 Pn : List (Addr × W)} {ρ ρ' : Env} {F : Addr → Prop}, SRel K A σ ρ H F (P1 ++ (pnds as vs ++ Pn)) → ARs K σ H F as vs → shM ρ m as = some (ows, ρ') →
    ∃ F', SRel K A σ ρ' H F' (P1 ++ (pndM m as vs ++ Pn)) ∧ OW K σ H F' m as vs ows ∧ (∀ a, F a → F' a) ∧ ∀ H0 F0 ρ0, Stp σ ρ0 H0 F0 σ ρ H F → (∀ c x, (c, x) ∈ pnds as vs → H0 c = none) → Stp σ ρ0 H0 F0 σ ρ' H F'
  | [], [], [], ows, P1, Pn, ρ, ρ', F, hs, .nil, e => by
    obtain ⟨rfl, rfl⟩ : [] = ows ∧ ρ = ρ' := by simpa [shM] using e
    exact ⟨F, hs, .nil, fun _ h => h, fun _ _ _ st _ => st⟩
  | false :: m, a :: as, v :: vs, ows, P1, Pn, ρ, ρ', F, hs, .cons h t, e => by
    unfold shM at e
    cases q1 : shr ρ a with
    | none => simp [q1] at e
    | some x =>
      obtain ⟨w, ρ1⟩ := x
      cases q2 : shM ρ1 m as with
      | none => simp [q1, q2] at e
      | some y =>
        obtain ⟨us, ρ2⟩ := y
        obtain ⟨rfl, rfl⟩ : some w :: us = ows ∧ ρ2 = ρ' := by simpa [q1, q2] using e
        have hs1 : SRel K A σ ρ H F ((P1 ++ pnds as vs) ++ pnd a v ++ Pn) := by simpa [pnds] using hs
        obtain ⟨F1, s1, r1, m1, t1⟩ := h.share hs1 q1
        obtain ⟨F2, s2, r2, m2, t2⟩ := shM_ok (P1 := P1) (by simpa using s1) (t.more m1) q2
        exact ⟨F2, s2, .sh (r1.more m2) r2, fun c z => m2 c (m1 c z), fun H0 F0 ρ0 st hn => t2 H0 F0 ρ0 (t1 H0 F0 ρ0 st fun c x z => hn c x (by simp [pnds, z])) fun c x z => hn c x (by simp [pnds, z])⟩
  | true :: m, a :: as, v :: vs, ows, P1, Pn, ρ, ρ', F, hs, .cons h t, e => by
    unfold shM at e
    cases q2 : shM ρ m as with
    | none => simp [q2] at e
    | some y =>
      obtain ⟨us, ρ2⟩ := y
      obtain ⟨rfl, rfl⟩ : none :: us = ows ∧ ρ2 = ρ' := by simpa [q2] using e
      obtain ⟨F2, s2, r2, m2, t2⟩ := shM_ok (P1 := P1) (Pn := pnd a v ++ Pn) (by simpa [pnds] using hs) t q2
      exact ⟨F2, by simpa [pndM] using s2, .io (h.more m2) r2, m2, fun H0 F0 ρ0 st hn => t2 H0 F0 ρ0 st fun c x z => hn c x (by simp [pnds, z])⟩
  | [], _ :: _, _, _, _, _, _, _, _, _, _, e => by simp [shM] at e
  | false :: _, [], _, _, _, _, _, _, _, _, _, e => by simp [shM] at e
  | true :: _, [], _, _, _, _, _, _, _, _, _, e => by simp [shM] at e

/-- the places that the callee changes -/
def IoAt (ρ : Env) (us : List Nat) (ows : List (Option W)) (as : List Arg) (ws : List W) : Prop := ws.length = ows.length ∧
    (∀ (k : Nat) (w : W), ows[k]? = some (some w) → ws[k]? = some w) ∧
    (∀ (k : Nat), ows[k]? = some none → (∃ w, as[k]? = some (.val w true) ∧ ws[k]? = some w) ∨ ∃ i w f, as[k]? = some (.slot i) ∧ wOf ρ i = some (w, f) ∧ (f = Fl.own ∨ f = Fl.io) ∧ ws[k]? = some w ∧ i ∉ us) ∧
    (∀ (k k' i : Nat), ows[k]? = some none → ows[k']? = some none → as[k]? = some (.slot i) → as[k']? = some (.slot i) → k = k')
theorem IoAt.sh {ρ : Env} {us : List Nat} {ows : List (Option W)} {as : List Arg} {ws : List W} {w : W} {a : Arg} (h : IoAt ρ us ows as ws) : IoAt ρ us (some w :: ows) (a :: as) (w :: ws) := by
  obtain ⟨h0, h1, h2, h3⟩ := h
  refine ⟨by simp [h0], fun k w' h => ?_, fun k h => ?_, fun k k' i a1 a2 a3 a4 => ?_⟩
  · cases k with
    | zero => simpa using h
    | succ k => simpa using h1 k w' (by simpa using h)
  · cases k with
    | zero => simp at h
    | succ k => simpa using h2 k (by simpa using h)
  · cases k with
    | zero => simp at a1
    | succ k => cases k' with
      | zero => simp at a2
      | succ k' => rw [h3 k k' i (by simpa using a1) (by simpa using a2) (by simpa using a3) (by simpa using a4)]
theorem IoAt.pn {ρ : Env} {us : List Nat} {ows : List (Option W)} {as : List Arg} {ws : List W} {w : W} (h : IoAt ρ us ows as ws) : IoAt ρ us (none :: ows) (.val w true :: as) (w :: ws) := by
  obtain ⟨h0, h1, h2, h3⟩ := h
  refine ⟨by simp [h0], fun k w' h => ?_, fun k h => ?_, fun k k' i a1 a2 a3 a4 => ?_⟩
  · cases k with
    | zero => simp at h
    | succ k => simpa using h1 k w' (by simpa using h)
  · cases k with
    | zero => exact .inl ⟨w, rfl, rfl⟩
    | succ k => simpa using h2 k (by simpa using h)
  · cases k with
    | zero => simp at a3
    | succ k => cases k' with
      | zero => simp at a4
      | succ k' => rw [h3 k k' i (by simpa using a1) (by simpa using a2) (by simpa using a3) (by simpa using a4)]
theorem IoAt.sl {ρ : Env} {us : List Nat} {ows : List (Option W)} {as : List Arg} {ws : List W} {w : W} {f : Fl} {i : Nat} (hw : wOf ρ i = some (w, f)) (hf : f = .own ∨ f = .io) (hu : us.contains i = false) (h : IoAt ρ (i :: us) ows as ws) : IoAt ρ us (none :: ows) (.slot i :: as) (w :: ws) := by
  obtain ⟨h0, h1, h2, h3⟩ := h
  have hu' : i ∉ us := fun z => by rw [List.contains_iff_mem.mpr z] at hu; cases hu
  refine ⟨by simp [h0], fun k w' h => ?_, fun k h => ?_, fun k k' j a1 a2 a3 a4 => ?_⟩
  · cases k with
    | zero => simp at h
    | succ k => simpa using h1 k w' (by simpa using h)
  · cases k with
    | zero => exact .inr ⟨i, w, f, rfl, hw, hf, rfl, hu'⟩
    | succ k =>
      rcases h2 k (by simpa using h) with ⟨w', x1, x2⟩ | ⟨i', w', f', x1, x2, x3, x4, x5⟩
      · exact .inl ⟨w', by simpa using x1, by simpa using x2⟩
      · exact .inr ⟨i', w', f', by simpa using x1, x2, x3, by simpa using x4, fun z => x5 (List.mem_cons_of_mem _ z)⟩
  · cases k with
    | zero =>
      cases k' with
      | zero => rfl
      | succ k' =>
        obtain rfl : i = j := by simpa using a3
        rcases h2 k' (by simpa using a2) with ⟨w', x1, x2⟩ | ⟨i', w', f', x1, x2, x3, x4, x5⟩
        · rw [show as[k']? = some (.slot i) by simpa using a4] at x1; cases x1
        · rw [show as[k']? = some (.slot i) by simpa using a4] at x1; cases x1
          exact absurd List.mem_cons_self x5
    | succ k => cases k' with
      | zero =>
        obtain rfl : i = j := by simpa using a4
        rcases h2 k (by simpa using a1) with ⟨w', x1, x2⟩ | ⟨i', w', f', x1, x2, x3, x4, x5⟩
        · rw [show as[k]? = some (.slot i) by simpa using a3] at x1; cases x1
        · rw [show as[k]? = some (.slot i) by simpa using a3] at x1; cases x1
          exact absurd List.mem_cons_self x5
      | succ k' => rw [h3 k k' j (by simpa using a1) (by simpa using a2) (by simpa using a3) (by simpa using a4)]
theorem ioW_at {ρ : Env} : ∀ {ows : List (Option W)} {as : List Arg} {ws : List W} {us : List Nat}, ioW ρ us ows as = some ws → IoAt ρ us ows as ws
  | [], [], ws, us, e => by
    obtain rfl : [] = ws := by simpa [ioW] using e
    exact ⟨rfl, fun k w h => by simp at h, fun k h => by simp at h, fun k k' i h => by simp at h⟩
  | some w :: ows, a :: as, ws, us, e => by
    unfold ioW at e
    obtain ⟨us', e', he⟩ := Option.map_eq_some_iff.mp e
    rw [← he]
    exact (ioW_at e').sh
  | none :: ows, .val w false :: as, ws, us, e => by simp [ioW] at e
  | none :: ows, .val w true :: as, ws, us, e => by
    simp only [ioW] at e
    obtain ⟨us', e', he⟩ := Option.map_eq_some_iff.mp e
    rw [← he]
    exact (ioW_at e').pn
  | none :: ows, .slot i :: as, ws, us, e => by
    simp only [ioW] at e
    cases hu : us.contains i with
    | true => rw [hu] at e; simp at e
    | false =>
      rw [hu] at e
      simp only [Bool.false_eq_true, if_false] at e
      cases hw : wOf ρ i with
      | none => rw [hw] at e; cases e
      | some x =>
        obtain ⟨w, f⟩ := x
        rw [hw] at e
        cases f with
        | own =>
          obtain ⟨us', e', he⟩ := Option.map_eq_some_iff.mp e
          rw [← he]
          exact (ioW_at e').sl hw (.inl rfl) hu
        | io =>
          obtain ⟨us', e', he⟩ := Option.map_eq_some_iff.mp e
          rw [← he]
          exact (ioW_at e').sl hw (.inr rfl) hu
        | sh => cases e
        | ownL => cases e
        | ioL => cases e
  | [], _ :: _, _, _, e => by simp [ioW] at e
  | some _ :: _, [], _, _, e => by simp [ioW] at e
  | none :: _, [], _, _, e => by simp [ioW] at e

theorem OW.len {F : Addr → Prop} {m : List Bool} {as : List Arg} {vs : List V} {ws : List (Option W)} (h : OW K σ H F m as vs ws) : as.length = m.length ∧ vs.length = m.length ∧ ws.length = m.length := by
  induction h with
  | nil => exact ⟨rfl, rfl, rfl⟩
  | sh _ _ ih => simp [ih]
  | io _ _ ih => simp [ih]
theorem OW.at {F : Addr → Prop} {m : List Bool} {as : List Arg} {vs : List V} {ws : List (Option W)} (h : OW K σ H F m as vs ws) : ∀ (k : Nat) (b : Bool), m[k]? = some b → ∃ a v, as[k]? = some a ∧ vs[k]? = some v ∧
    ((b = false ∧ ∃ w, ws[k]? = some (some w) ∧ HR K H F v w) ∨ (b = true ∧ ws[k]? = some none ∧ AR K σ H F a v)) := by
  induction h with
  | nil => intro k b e; simp at e
  | sh r _ ih =>
    intro k b e
    cases k with
    | zero => exact ⟨_, _, rfl, rfl, .inl ⟨by simpa using e.symm, _, rfl, r⟩⟩
    | succ k => simpa using ih k b (by simpa using e)
  | io r _ ih =>
    intro k b e
    cases k with
    | zero => exact ⟨_, _, rfl, rfl, .inr ⟨by simpa using e.symm, rfl, r⟩⟩
    | succ k => simpa using ih k b (by simpa using e)
theorem pndM_mem : ∀ {m : List Bool} {as : List Arg} {vs : List V} (k : Nat) {a : Arg} {v : V}, m[k]? = some true → as[k]? = some a → vs[k]? = some v → ∀ p ∈ pnd a v, p ∈ pndM m as vs
  | b :: m, a' :: as, v' :: vs, 0, a, v, h1, h2, h3, p, hp => by
    obtain rfl : b = true := by simpa using h1
    obtain rfl : a' = a := by simpa using h2
    obtain rfl : v' = v := by simpa using h3
    exact List.mem_append_right _ hp
  | b :: m, a' :: as, v' :: vs, k + 1, a, v, h1, h2, h3, p, hp => by
    have ih := pndM_mem (m := m) (as := as) (vs := vs) k (by simpa using h1) (by simpa using h2) (by simpa using h3) p hp
    cases b with
    | true => exact List.mem_append_left _ ih
    | false => exact ih
  | [], _, _, _, _, _, h, _, _, _, _ => by simp at h
  | _ :: _, [], _, _, _, _, _, h, _, _, _ => by simp at h
  | _ :: _, _ :: _, [], _, _, _, _, _, h, _, _ => by simp at h
/-- two places with one new object are one -/
theorem pndM_inj : ∀ {m : List Bool} {as : List Arg} {vs : List V} (k k' : Nat) {w w' : W} {c : Addr}, ((pndM m as vs).map (·.1)).Nodup → m[k]? = some true → m[k']? = some true → as[k]? = some (.val w true) → as[k']? = some (.val w' true) → vs[k]? = some (.ref c) → vs[k']? = some (.ref c) → k = k'
  | b :: m, a :: as, v :: vs, 0, 0, _, _, _, _, _, _, _, _, _, _ => rfl
  | b :: m, a :: as, v :: vs, 0, k + 1, w, w', c, nd, h1, h2, h3, h4, h5, h6 => by
    obtain rfl : b = true := by simpa using h1
    obtain rfl : a = .val w true := by simpa using h3
    obtain rfl : v = .ref c := by simpa using h5
    have x := pndM_mem (m := m) (as := as) (vs := vs) k (by simpa using h2) (by simpa using h4) (by simpa using h6) (c, w') (by simp [pnd])
    simp only [pndM, List.map_append] at nd
    exact absurd rfl ((List.nodup_append.mp nd).2.2 c (List.mem_map_of_mem (f := (·.1)) x) c (by simp [pnd]))
  | b :: m, a :: as, v :: vs, k + 1, 0, w, w', c, nd, h1, h2, h3, h4, h5, h6 => by
    obtain rfl : b = true := by simpa using h2
    obtain rfl : a = .val w' true := by simpa using h4
    obtain rfl : v = .ref c := by simpa using h6
    have x := pndM_mem (m := m) (as := as) (vs := vs) k (by simpa using h1) (by simpa using h3) (by simpa using h5) (c, w) (by simp [pnd])
    simp only [pndM, List.map_append] at nd
    exact absurd rfl ((List.nodup_append.mp nd).2.2 c (List.mem_map_of_mem (f := (·.1)) x) c (by simp [pnd]))
  | b :: m, a :: as, v :: vs, k + 1, k' + 1, w, w', c, nd, h1, h2, h3, h4, h5, h6 => by
    have nd' : ((pndM m as vs).map (·.1)).Nodup := by
      cases b with
      | true => simp only [pndM, List.map_append] at nd; exact (List.nodup_append.mp nd).1
      | false => exact nd
    rw [pndM_inj (m := m) (as := as) (vs := vs) k k' nd' (by simpa using h1) (by simpa using h2) (by simpa using h3) (by simpa using h4) (by simpa using h5) (by simpa using h6)]
  | [], _, _, _, _, _, _, _, _, h, _, _, _, _, _ => by simp at h
  | _ :: _, [], _, _, _, _, _, _, _, _, _, h, _, _, _ => by simp at h
  | _ :: _, _ :: _, [], _, _, _, _, _, _, _, _, _, _, h, _ => by simp at h

theorem env0_get {fd : FD} {ws : List W} {k : Nat} {w : W} {f : Fl} (hl : ws.length = fd.m.length) (h : (env0 fd ws)[k]? = some (some (w, f))) : ∃ b, ws[k]? = some w ∧ fd.m[k]? = some b ∧ f = if b then Fl.io else Fl.sh := by
  unfold env0 at h
  by_cases hk : k < (ws.zip fd.m).length
  · rw [List.getElem?_append_left (by simpa using hk), List.getElem?_map] at h
    cases e : (ws.zip fd.m)[k]? with
    | none => rw [e] at h; cases h
    | some p =>
      rw [e] at h
      obtain ⟨w', b⟩ := p
      have h1 : w' = w ∧ (if b then Fl.io else Fl.sh) = f := by simpa using h
      obtain ⟨rfl, rfl⟩ := h1
      rw [List.getElem?_zip_eq_some] at e
      exact ⟨b, e.1, e.2, rfl⟩
  · rw [List.getElem?_append_right (by simpa using hk), List.getElem?_replicate] at h
    split at h <;> cases h
theorem env0_len {fd : FD} {ws : List W} (hl : ws.length = fd.m.length) (hn : fd.m.length ≤ fd.n) : (env0 fd ws).length = fd.n := by
  unfold env0
  rw [List.length_append, List.length_map, List.length_zip, List.length_replicate]
  omega
theorem start_len {N : List Str} {vs : List V} (h : vs.length ≤ N.length) : (L2.start N vs).length = N.length := by
  unfold L2.start
  rw [List.length_append, List.length_map, List.length_replicate]
  omega
theorem start_get {N : List Str} {vs : List V} {k : Nat} {v : V} (h : vs[k]? = some v) : (L2.start N vs)[k]? = some (some v) := by
  unfold L2.start
  have hk := (List.getElem?_eq_some_iff.mp h).1
  rw [List.getElem?_append_left (by simpa using hk), List.getElem?_map, h]
  rfl
/-- the objects that a callee changes -/
def ioA (m : List Bool) (vs : List V) : Nat → Option Addr := fun k => match m[k]?, vs[k]? with
  | some true, some (.ref a) => some a
  | _, _ => none

theorem b_false {b : Bool} (h : Fl.sh = if b then Fl.io else Fl.sh) : b = false := by
  cases b with
  | false => rfl
  | true => cases h
theorem b_true {b : Bool} {f : Fl} (n : f ≠ .sh) (h : f = if b then Fl.io else Fl.sh) : b = true := by
  cases b with
  | true => rfl
  | false => exact absurd h n
theorem b_io {b : Bool} {f : Fl} (n : f = .io ∨ f = .ioL) (h : f = if b then Fl.io else Fl.sh) : b = true := b_true (by rcases n with rfl | rfl <;> decide) h
theorem start_rel {Pn : List (Addr × W)} {ρ : Env} {F : Addr → Prop} {fd : FD} {N : List Str} {as : List Arg} {vs : List V} {ows : List (Option W)} {ws : List W} (hs : SRel K A σ ρ H F (pndM fd.m as vs ++ Pn)) (ow : OW K σ H F fd.m as vs ows) (e : ioW ρ [] ows as = some ws) (hn : fd.m.length ≤ fd.n) (hN : N.length = fd.n) :
    ws.length = fd.m.length ∧ vs.length = fd.m.length ∧ SRel K (ioA fd.m vs) (L2.start N vs) (env0 fd ws) H F [] ∧
    (∀ (k : Nat), fd.m[k]? = some true → ∃ a c, as[k]? = some a ∧ vs[k]? = some (.ref c) ∧ ((∃ i, a = .slot i ∧ SlA σ ρ i c ∧ Om σ ρ c ∧ σ[i]? = some (some (.ref c))) ∨ ∃ w, a = .val w true ∧ (c, w) ∈ pndM fd.m as vs)) ∧
    (∀ (k k' i : Nat), fd.m[k]? = some true → fd.m[k']? = some true → as[k]? = some (.slot i) → as[k']? = some (.slot i) → k = k') := by
  obtain ⟨l1, l2, l3⟩ := ow.len
  obtain ⟨w0, w1, w2, w3⟩ := ioW_at e
  have hl : ws.length = fd.m.length := by rw [w0, l3]
  -- every changed place
  have chg : ∀ (k : Nat), fd.m[k]? = some true → ∃ a c w, as[k]? = some a ∧ vs[k]? = some (.ref c) ∧ ws[k]? = some w ∧ ¬ F c ∧ Cell K H F c w ∧ ((∃ i, a = .slot i ∧ SlA σ ρ i c ∧ Om σ ρ c ∧ σ[i]? = some (some (.ref c))) ∨ (a = .val w true ∧ (c, w) ∈ pndM fd.m as vs)) := fun k hk => by
    obtain ⟨a, v, ha, hv, h | ⟨_, hw, har⟩⟩ := ow.at k true hk
    · cases h.1
    · rcases w2 k hw with ⟨w, x1, x2⟩ | ⟨i, w, f, x1, x2, x3, x4, _⟩
      · rw [ha] at x1; cases x1
        obtain ⟨c, rfl⟩ := har
        have hm := pndM_mem k hk ha hv (c, w) (by simp [pnd])
        obtain ⟨p1, p2, _⟩ := hs.pn (c, w) (List.mem_append_left _ hm)
        exact ⟨_, c, w, ha, hv, x2, p1, p2, .inr ⟨rfl, hm⟩⟩
      · rw [ha] at x1; cases x1
        have x2' := wOf_eq.mp x2
        have nsh : f ≠ .sh := by rcases x3 with rfl | rfl <;> decide
        obtain ⟨c, ec, nF, hc⟩ := hs.ow i w f x2' nsh
        have : σ[i]? = some (some v) := har
        rw [this] at ec; cases ec
        exact ⟨_, c, w, ha, hv, x4, nF, hc, .inl ⟨i, rfl, ⟨w, f, x2', nsh, this⟩, ⟨i, w, f, x2', x3, this⟩, this⟩⟩
  have inj : ∀ (k k' : Nat) (c : Addr), fd.m[k]? = some true → fd.m[k']? = some true → vs[k]? = some (.ref c) → vs[k']? = some (.ref c) → k = k' := fun k k' c h1 h2 h3 h4 => by
    obtain ⟨a, d, w, a1, a2, a3, a4, a5, a6⟩ := chg k h1
    rw [h3] at a2; cases a2
    obtain ⟨a', d', w', b1, b2, b3, b4, b5, b6⟩ := chg k' h2
    rw [h4] at b2; cases b2
    rcases a6 with ⟨i, rfl, s1, _⟩ | ⟨rfl, s1⟩
    · rcases b6 with ⟨i', rfl, s2, _⟩ | ⟨rfl, s2⟩
      · obtain rfl := hs.dj i i' c s1 s2
        obtain ⟨_, _, _, _, z | ⟨_, hw, _⟩⟩ := ow.at k true h1
        · cases z.1
        · obtain ⟨_, _, _, _, z | ⟨_, hw', _⟩⟩ := ow.at k' true h2
          · cases z.1
          · exact w3 k k' i hw hw' a1 b1
      · exact absurd s1 ((hs.pn _ (List.mem_append_left _ s2)).2.2 i)
    · rcases b6 with ⟨i', rfl, s2, _⟩ | ⟨rfl, s2⟩
      · exact absurd s2 ((hs.pn _ (List.mem_append_left _ s1)).2.2 i')
      · have nd := hs.pd
        rw [List.map_append] at nd
        exact pndM_inj k k' (List.nodup_append.mp nd).1 h1 h2 a1 b1 h3 h4
  refine ⟨hl, l2, ⟨?_, fun k w h => ?_, fun k w f h n => ?_, fun k w f h q => ?_, fun k k' a h1 h2 => ?_, (fun p hp => nomatch hp), List.nodup_nil, hs.ff⟩, fun k hk => ?_, fun k k' i h1 h2 h3 h4 => ?_⟩
  · rw [env0_len hl hn, start_len (by omega), hN]
  · obtain ⟨b, h1, h2, h3⟩ := env0_get hl h
    obtain rfl := b_false h3
    obtain ⟨a, v, ha, hv, ⟨_, w', x1, x2⟩ | ⟨z, _⟩⟩ := ow.at k false h2
    · have := w1 k w' x1
      rw [h1] at this; cases this
      exact ⟨v, start_get hv, x2⟩
    · cases z
  · obtain ⟨b, h1, h2, h3⟩ := env0_get hl h
    obtain rfl := b_true n h3
    obtain ⟨a, c, w', a1, a2, a3, a4, a5, _⟩ := chg k h2
    rw [h1] at a3; cases a3
    exact ⟨c, start_get a2, a4, a5⟩
  · obtain ⟨b, h1, h2, h3⟩ := env0_get hl h
    obtain rfl := b_io q h3
    obtain ⟨a, c, w', a1, a2, a3, a4, a5, _⟩ := chg k h2
    exact ⟨c, by simp [ioA, h2, a2], start_get a2⟩
  · obtain ⟨w, f, e1, n1, s1⟩ := h1
    obtain ⟨w', f', e2, n2, s2⟩ := h2
    obtain ⟨b, h1, h2, h3⟩ := env0_get hl e1
    obtain rfl := b_true n1 h3
    obtain ⟨b', h1', h2', h3'⟩ := env0_get hl e2
    obtain rfl := b_true n2 h3'
    obtain ⟨_, c, _, _, a2, _⟩ := chg k h2
    obtain ⟨_, c', _, _, b2, _⟩ := chg k' h2'
    rw [start_get a2] at s1; cases s1
    rw [start_get b2] at s2; cases s2
    exact inj k k' _ h2 h2' a2 b2
  · obtain ⟨a, c, w, a1, a2, a3, a4, a5, a6⟩ := chg k hk
    exact ⟨a, c, a1, a2, a6.imp id fun ⟨x, y⟩ => ⟨w, x, y⟩⟩
  · obtain ⟨_, _, _, _, z | ⟨_, hw, _⟩⟩ := ow.at k true h1
    · cases z.1
    · obtain ⟨_, _, _, _, z | ⟨_, hw', _⟩⟩ := ow.at k' true h2
      · cases z.1
      · exact w3 k k' i hw hw' h3 h4
end
end Py

namespace Py
open PySem PySem.Spec PyProof.Rows L2
variable [HW]
section
variable {K : PySem.W.Frag} {A : Nat → Option Addr} {σ σ' : Sg} {H H' : Hp}
theorem ioB_at {ρ' : Env} : ∀ {m : List Bool} {as : List Arg} {ios : List W} {ρ ρ4 : Env} {k0 : Nat}, ioE ρ' k0 m = some ios → ioB ρ m as ios = some ρ4 → ρ4.length = ρ.length ∧ ∀ (j : Nat) (x : Option (W × Fl)), ρ4[j]? = some x →
    (ρ[j]? = some x ∧ ∀ k : Nat, m[k]? = some true → as[k]? ≠ some (.slot j)) ∨ ∃ (k : Nat) (w : W) (f : Fl) (w0 : W), m[k]? = some true ∧ as[k]? = some (.slot j) ∧ (∃ g, wOf ρ' (k0 + k) = some (w, g) ∧ (g = Fl.io ∨ g = Fl.ioL)) ∧ wOf ρ j = some (w0, f) ∧ x = some (w, f)
  | [], as, ios, ρ, ρ4, k0, h1, h2 => by
    cases as with
    | nil =>
      obtain rfl : [] = ios := by simpa [ioE] using h1
      obtain rfl : ρ = ρ4 := by simpa [ioB] using h2
      exact ⟨rfl, fun j x h => .inl ⟨h, fun k e => by simp at e⟩⟩
    | cons _ _ => cases ios <;> simp [ioB] at h2
  | false :: m, [], ios, ρ, ρ4, k0, h1, h2 => by simp [ioB] at h2
  | false :: m, a :: as, ios, ρ, ρ4, k0, h1, h2 => by
    obtain ⟨l, ih⟩ := ioB_at (m := m) (k0 := k0 + 1) (by simpa [ioE] using h1) (by simpa [ioB] using h2)
    refine ⟨l, fun j x h => ?_⟩
    rcases ih j x h with ⟨a1, a2⟩ | ⟨k, w, f, w0, a1, a2, a3, a4, a5⟩
    · refine .inl ⟨a1, fun k e => ?_⟩
      cases k with
      | zero => simp at e
      | succ k => simpa using a2 k (by simpa using e)
    · exact .inr ⟨k + 1, w, f, w0, by simpa using a1, by simpa using a2, by rw [show k0 + (k + 1) = k0 + 1 + k by omega]; exact a3, a4, a5⟩
  | true :: m, [], ios, ρ, ρ4, k0, h1, h2 => by cases ios <;> simp [ioB] at h2
  | true :: m, .val u fr :: as, [], ρ, ρ4, k0, h1, h2 => by simp [ioB] at h2
  | true :: m, .slot i :: as, [], ρ, ρ4, k0, h1, h2 => by simp [ioB] at h2
  | true :: m, .val u fr :: as, w :: ios, ρ, ρ4, k0, h1, h2 => by
    have h1' : ioE ρ' (k0 + 1) m = some ios := by
      simp only [ioE] at h1
      split at h1 <;> first | (cases h1; done) | (rename_i e; cases Option.some.inj h1; exact e)
    obtain ⟨l, ih⟩ := ioB_at (m := m) (k0 := k0 + 1) h1' (by simpa [ioB] using h2)
    refine ⟨l, fun j x h => ?_⟩
    rcases ih j x h with ⟨a1, a2⟩ | ⟨k, w, f, w0, a1, a2, a3, a4, a5⟩
    · refine .inl ⟨a1, fun k e => ?_⟩
      cases k with
      | zero => simp
      | succ k => simpa using a2 k (by simpa using e)
    · exact .inr ⟨k + 1, w, f, w0, by simpa using a1, by simpa using a2, by rw [show k0 + (k + 1) = k0 + 1 + k by omega]; exact a3, a4, a5⟩
  | true :: m, .slot i :: as, w :: ios, ρ, ρ4, k0, h1, h2 => by
    have h1' : ioE ρ' (k0 + 1) m = some ios ∧ ∃ g, wOf ρ' k0 = some (w, g) ∧ (g = Fl.io ∨ g = Fl.ioL) := by
      simp only [ioE] at h1
      split at h1 <;> first
        | (cases h1; done)
        | (rename_i e1 e2; cases Option.some.inj h1; exact ⟨e2, _, e1, .inl rfl⟩)
        | (rename_i e1 e2; cases Option.some.inj h1; exact ⟨e2, _, e1, .inr rfl⟩)
    obtain ⟨h1', g, hg, hg'⟩ := h1'
    simp only [ioB] at h2
    cases hw : wOf ρ i with
    | none => rw [hw] at h2; cases h2
    | some y =>
      obtain ⟨w0, f⟩ := y
      rw [hw] at h2
      obtain ⟨l, ih⟩ := ioB_at (m := m) (k0 := k0 + 1) h1' h2
      have hi : i < ρ.length := lt_of_get (wOf_eq.mp hw)
      refine ⟨by simpa using l, fun j x h => ?_⟩
      rcases ih j x h with ⟨a1, a2⟩ | ⟨k, w', f', w0', a1, a2, a3, a4, a5⟩
      · rw [get_set hi] at a1
        by_cases hj : j = i
        · rw [if_pos hj] at a1
          subst hj
          exact .inr ⟨0, w, f, w0, rfl, rfl, ⟨g, hg, hg'⟩, hw, (Option.some.inj a1).symm⟩
        · rw [if_neg hj] at a1
          refine .inl ⟨a1, fun k e => ?_⟩
          cases k with
          | zero => intro z; have : i = j := by simpa using z
                    exact hj this.symm
          | succ k => simpa using a2 k (by simpa using e)
      · have a4' : ∃ w1, wOf ρ j = some (w1, f') := by
          rw [wOf_eq] at a4
          rw [get_set hi] at a4
          by_cases hj : j = i
          · rw [if_pos hj] at a4
            subst hj
            cases a4
            exact ⟨w0, hw⟩
          · rw [if_neg hj] at a4
            exact ⟨w0', wOf_eq.mpr a4⟩
        obtain ⟨w1, a4'⟩ := a4'
        exact .inr ⟨k + 1, w', f', w1, by simpa using a1, by simpa using a2, by rw [show k0 + (k + 1) = k0 + 1 + k by omega]; exact a3, a4', a5⟩

theorem sl_start {fd : FD} {N : List Str} {vs : List V} {ws : List W} {i : Nat} {a : Addr} (hl : ws.length = fd.m.length) (hv : vs.length = fd.m.length) (h : SlA (L2.start N vs) (env0 fd ws) i a) : fd.m[i]? = some true ∧ vs[i]? = some (.ref a) := by
  obtain ⟨w, f, e, n, s⟩ := h
  obtain ⟨b, h1, h2, h3⟩ := env0_get hl e
  obtain rfl := b_true n h3
  have hk : i < vs.length := by rw [hv]; exact lt_of_get h2
  refine ⟨h2, ?_⟩
  have e2 := start_get (N := N) (List.getElem?_eq_getElem hk)
  rw [e2] at s
  rw [List.getElem?_eq_getElem hk]
  exact Option.some.inj s
theorem end_rel {Pn Px : List (Addr × W)} {ρ3 ρ4 ρ' : Env} {F F' : Addr → Prop} {fd : FD} {N : List Str} {as : List Arg} {vs : List V} {ws ios : List W} (hs : SRel K A σ ρ3 H F (pndM fd.m as vs ++ Pn)) (hl : ws.length = fd.m.length) (hv : vs.length = fd.m.length)
    (cs : SRel K (ioA fd.m vs) (L2.start N vs) (env0 fd ws) H F [])
    (ch : ∀ (k : Nat), fd.m[k]? = some true → ∃ a c, as[k]? = some a ∧ vs[k]? = some (.ref c) ∧ ((∃ i, a = .slot i ∧ SlA σ ρ3 i c ∧ Om σ ρ3 c ∧ σ[i]? = some (some (.ref c))) ∨ ∃ w, a = .val w true ∧ (c, w) ∈ pndM fd.m as vs))
    (st : Stp (L2.start N vs) (env0 fd ws) H F σ' ρ' H' F') (sr : SRel K (ioA fd.m vs) σ' ρ' H' F' Px) (hx : ∀ p ∈ Px, H p.1 = none) (he : ioE ρ' 0 fd.m = some ios) (hb : ioB ρ3 fd.m as ios = some ρ4) :
    SRel K A σ ρ4 H' F' (Px ++ Pn) ∧ ∀ H0 F0 ρ0, Stp σ ρ0 H0 F0 σ ρ3 H F → (∀ c x, (c, x) ∈ pndM fd.m as vs → H0 c = none) → Stp σ ρ0 H0 F0 σ ρ4 H' F' := by
  obtain ⟨b1, b2⟩ := ioB_at he hb
  -- the objects that the callee may change
  have io : ∀ a i, SlA (L2.start N vs) (env0 fd ws) i a → (∃ j, as[i]? = some (.slot j) ∧ SlA σ ρ3 j a ∧ Om σ ρ3 a ∧ σ[j]? = some (some (.ref a))) ∨ ∃ w, as[i]? = some (.val w true) ∧ (a, w) ∈ pndM fd.m as vs := fun a i s => by
    obtain ⟨h1, h2⟩ := sl_start hl hv s
    obtain ⟨x, c, x1, x2, x3⟩ := ch i h1
    rw [h2] at x2; cases x2
    rcases x3 with ⟨j, rfl, x4⟩ | ⟨w, rfl, x4⟩
    · exact .inl ⟨j, x1, x4⟩
    · exact .inr ⟨w, x1, x4⟩
  have nio : ∀ j a, SlA σ ρ3 j a → (∀ k : Nat, fd.m[k]? = some true → as[k]? ≠ some (.slot j)) → ¬ ∃ i, SlA (L2.start N vs) (env0 fd ws) i a := fun j a s h => by
    rintro ⟨i, si⟩
    rcases io a i si with ⟨j', x1, x2, _⟩ | ⟨w, x1, x2⟩
    · obtain rfl := hs.dj j j' a s x2
      exact h i (sl_start hl hv si).1 x1
    · exact (hs.pn _ (List.mem_append_left _ x2)).2.2 j s
  have npn : ∀ p ∈ Pn, ¬ ∃ i, SlA (L2.start N vs) (env0 fd ws) i p.1 := fun p hp => by
    rintro ⟨i, si⟩
    rcases io _ i si with ⟨j', x1, x2, _⟩ | ⟨w, x1, x2⟩
    · exact (hs.pn p (List.mem_append_right _ hp)).2.2 j' x2
    · have nd := hs.pd
      rw [List.map_append] at nd
      exact (List.nodup_append.mp nd).2.2 _ (List.mem_map_of_mem (f := (·.1)) x2) _ (List.mem_map_of_mem (f := (·.1)) hp) rfl
  have cell : ∀ a w, ¬ F a → (¬ ∃ i, SlA (L2.start N vs) (env0 fd ws) i a) → Cell K H F a w → ¬ F' a ∧ Cell K H' F' a w := fun a w nF ni hc => by
    obtain ⟨vs', e, _⟩ := hc.obj
    refine ⟨fun f => ?_, ?_⟩
    · rcases st.nf a _ e f with z | z
      · exact nF z
      · exact ni z
    · cases w <;> first | exact hc.elim | skip
      · obtain ⟨us, e1, z, r⟩ := hc
        exact ⟨us, st.kp _ _ e1 fun z => ni z.sl, z, st.hrs cs r⟩
      · obtain ⟨us, e1, z, n, r⟩ := hc
        exact ⟨us, e1.imp fun _ e1 => st.kp _ _ e1 fun z => ni z.sl, z, n, st.drel cs r⟩
  -- a place of the final names
  have place : ∀ (j : Nat) (w : W) (f : Fl), ρ4[j]? = some (some (w, f)) → (ρ3[j]? = some (some (w, f)) ∧ ∀ k : Nat, fd.m[k]? = some true → as[k]? ≠ some (.slot j)) ∨ ∃ (c : Addr) (w0 : W), ρ3[j]? = some (some (w0, f)) ∧ f ≠ .sh ∧ SlA σ ρ3 j c ∧ σ[j]? = some (some (.ref c)) ∧ ¬ F' c ∧ Cell K H' F' c w := fun j w f h => by
    rcases b2 j _ h with h | ⟨k, w', f', w0, x1, x2, ⟨g, x3, x4⟩, x5, x6⟩
    · exact .inl h
    · cases x6
      obtain ⟨a, c, y1, y2, y3⟩ := ch k x1
      rw [x2] at y1; cases y1
      rcases y3 with ⟨i, e, s, o, sg⟩ | ⟨_, e, _⟩
      · cases e
        have x3' := wOf_eq.mp x3
        rw [show 0 + k = k by omega] at x3'
        have ng : g ≠ .sh := by rcases x4 with rfl | rfl <;> decide
        obtain ⟨a, z1, z2, z3⟩ := sr.ow k w g x3' ng
        obtain ⟨a', z4, z5⟩ := sr.io k w g x3' x4
        rw [z1] at z5; cases z5
        have : a = c := by simpa [ioA, x1, y2] using z4.symm
        subst this
        obtain ⟨w1, f1, e1, n1, s1⟩ := s
        have e2 := wOf_eq.mp x5
        rw [e1] at e2; cases e2
        exact .inr ⟨a, _, e1, n1, ⟨_, f, e1, n1, s1⟩, sg, z2, z3⟩
      · cases e
  have back : ∀ j a, SlA σ ρ4 j a → SlA σ ρ3 j a := fun j a ⟨w, f, e, n, s⟩ => by
    rcases place j w f e with ⟨h, _⟩ | ⟨c, w0, h1, h2, h3, h4, _⟩
    · exact ⟨w, f, h, n, s⟩
    · rw [s] at h4; cases h4; exact h3
  have pnx : ∀ p ∈ Pn, ¬ F' p.1 ∧ Cell K H' F' p.1 p.2 := fun p hp => by
    obtain ⟨x, y, _⟩ := hs.pn p (List.mem_append_right _ hp)
    exact cell _ _ x (npn p hp) y
  refine ⟨⟨by rw [b1]; exact hs.ln, fun j w e => ?_, fun j w f e n => ?_, fun j w f e q => ?_, fun i j a h1 h2 => hs.dj i j a (back _ _ h1) (back _ _ h2), fun p hp => ?_, ?_, fun a f => ?_⟩, fun H0 F0 ρ0 s0 hn => ?_⟩
  · rcases place j w .sh e with ⟨h, _⟩ | ⟨c, w0, h1, h2, _⟩
    · obtain ⟨v, a, b⟩ := hs.sh j w h
      exact ⟨v, a, st.hr cs b⟩
    · exact absurd rfl h2
  · rcases place j w f e with ⟨h, h'⟩ | ⟨c, w0, h1, h2, h3, h4, h5, h6⟩
    · obtain ⟨a, x, y, z⟩ := hs.ow j w f h n
      obtain ⟨u1, u2⟩ := cell a w y (nio j a ⟨w, f, h, n, x⟩ h') z
      exact ⟨a, x, u1, u2⟩
    · exact ⟨c, h4, h5, h6⟩
  · rcases place j w f e with ⟨h, h'⟩ | ⟨c, w0, h1, _⟩
    · exact hs.io j w f h q
    · exact hs.io j w0 f h1 q
  · rcases List.mem_append.mp hp with hp | hp
    · obtain ⟨x, y, _⟩ := sr.pn p hp
      refine ⟨x, y, fun i s => ?_⟩
      obtain ⟨_, vs', e, _⟩ := hs.slc (back _ _ s)
      rw [hx p hp] at e; cases e
    · obtain ⟨x, y⟩ := pnx p hp
      exact ⟨x, y, fun i s => (hs.pn p (List.mem_append_right _ hp)).2.2 i (back _ _ s)⟩
  · rw [List.map_append]
    refine List.nodup_append.mpr ⟨sr.pd, ?_, fun a ha b hb e => ?_⟩
    · have nd := hs.pd
      rw [List.map_append] at nd
      exact (List.nodup_append.mp nd).2.1
    · obtain ⟨p, hp, rfl⟩ := List.mem_map.mp ha
      obtain ⟨q, hq, rfl⟩ := List.mem_map.mp hb
      obtain ⟨vs', e', _⟩ := (hs.pn q (List.mem_append_right _ hq)).2.1.obj
      have := hx p hp
      rw [e, e'] at this; cases this
  · exact sr.ff a f
  · have up : ∀ a o, H0 a = some o → ∀ i, SlA (L2.start N vs) (env0 fd ws) i a → ∃ j, SlA σ ρ3 j a ∧ Om σ ρ3 a := fun a o h i s => by
      rcases io a i s with ⟨j, _, x1, x2, _⟩ | ⟨w, _, x⟩
      · exact ⟨j, x1, x2⟩
      · rw [hn a w x] at h; cases h
    refine ⟨fun a o h n => st.kp a o (s0.kp a o h n) fun z => ?_, fun a f => st.fr a (s0.fr a f), fun a o h f => ?_, fun a o h z => ?_, fun a o h i z => s0.ns a o h i (back _ _ z), fun a o h z => ?_, fun a o h => ?_⟩
    · obtain ⟨i, s⟩ := z.sl
      obtain ⟨j, _, o'⟩ := up a o h i s
      exact n (s0.no a o h o')
    · obtain ⟨o', e⟩ := s0.al a o h
      rcases st.nf a o' e f with z | ⟨i, z⟩
      · exact s0.nf a o h z
      · obtain ⟨j, x, _⟩ := up a o h i z
        exact .inr ⟨j, s0.ns a o h j x⟩
    · obtain ⟨i, w, f, e, q, s⟩ := z
      rcases place i w f e with ⟨h', _⟩ | ⟨c, w0, h1, h2, h3, h4, _⟩
      · exact s0.no a o h ⟨i, w, f, h', q, s⟩
      · exact s0.no a o h ⟨i, w0, f, h1, q, s⟩
    · obtain ⟨i, w, f, e, q, s⟩ := z
      rcases place i w f e with ⟨h', _⟩ | ⟨c, w0, h1, h2, h3, h4, _⟩
      · exact s0.nw a o h ⟨i, w, f, h', q, s⟩
      · exact s0.nw a o h ⟨i, w0, f, h1, q, s⟩
    · obtain ⟨o', e⟩ := s0.al a o h
      exact st.al a o' e
end

section
variable {X : Cx} {c : Cf} {e : Expr} {es : List Expr} {eas : E} {pos p : Pos} {x : Str}
theorem pndM_none {Hf : Addr → Prop} {m : List Bool} {as : List Arg} {vs : List V} (h : ∀ d y, (d, y) ∈ pnds as vs → Hf d) : ∀ d y, (d, y) ∈ pndM m as vs → Hf d := fun d y z => h d y (pndM_sub z)
/-- f(..), f a def of the text -/
theorem x_call {k j : Nat} {f : Addr} {fdat : FuncData} {ps : List Str} {fd : FD} {N : List Str} (hc : c.K = X.K) (tk : Takes X c.wx) (F : FnOk X.prog X.w X.K X.mg X.base (L2.CX X.prog X.w) k f fdat ps (spF X.K c.cls c.C fd N j))
    (hr : Room k X.A) (hg : Gl X x) (hm : X.mg x = some (.ref f)) (hk : PySem.W.keepIn X.K (.ref f) = true) (hb : Binds X.K fdat ps []) (hdb : (x == ("__debug__" : Str)) = false) (hn : fd.m.length ≤ fd.n) (hN : N.length = fd.n)
    (hp : (e :: es).all plainE = true) (ha : PA X (e :: es) (tXL c eas)) : PE X (.Call (.Name x p) (e :: es) [] pos) (tX c (.call j fd.m eas)) := by
  have hpe : plainE e = true := by rw [List.all_cons, Bool.and_eq_true] at hp; exact hp.1
  have hps : es.all plainE = true := by rw [List.all_cons, Bool.and_eq_true] at hp; exact hp.2
  refine peImp (pe_callS (E := WE c.wx) F hr hg hm hk hb (fun σ => passAt tk σ) ha hdb (star_cons _ hpe _) (star_all _ _ hps).1) fun σ H Q ⟨A, ρ, F, Pn, hs, q⟩ => ?_
  refine tXL_of hs q fun as vs ρ1 H1 F1 m q1 => ?_
  unfold callW at q1
  cases e1 : shM ρ1 fd.m as with
  | none => simp only [e1] at q1; exact q1.elim
  | some y =>
    obtain ⟨ows, ρ2⟩ := y
    cases e2 : ioW ρ2 [] ows as with
    | none => simp only [e1, e2] at q1; exact q1.elim
    | some ws =>
      simp only [e1, e2] at q1
      obtain ⟨F2, s2, ow, _, t2⟩ := shM_ok (P1 := []) (by simpa using m.sr) m.ar e1
      have s2 : SRel c.K A σ ρ2 H1 F2 (pndM fd.m as vs ++ Pn) := by simpa using s2
      have st2 := t2 H F ρ m.st m.fr
      obtain ⟨hl, hv, cs, ch, _⟩ := start_rel s2 ow e2 hn hN
      rw [← hc]
      refine ⟨hv, ioA fd.m vs, F2, ws, hl, cs, ?_⟩
      cases e3 : c.C j ws with
      | bad => simp only [e3] at q1; exact q1.elim
      | ret w fr ios =>
        simp only [e3] at q1
        intro v H' F' σ' ρ' st sr he hf1 hf2
        cases e4 : ioB ρ2 fd.m as ios with
        | none => simp only [e4] at q1; exact q1.elim
        | some ρ4 =>
          simp only [e4] at q1
          have hx : ∀ p ∈ pnd (.val w fr) v, H1 p.1 = none := fun p hp => by
            cases fr with
            | false => simp [pnd] at hp
            | true =>
              obtain ⟨a, rfl, hn⟩ := hf1 rfl
              obtain rfl : p = (a, w) := by simpa [pnd] using hp
              exact hn
          obtain ⟨s4, t4⟩ := end_rel s2 hl hv cs ch st sr hx he e4
          refine q1 v H' F' (t4 H F ρ st2 (pndM_none m.fr)) s4 ?_ fun d y z => m.st.fresh (hx (d, y) z)
          cases fr with
          | false => exact hf2 rfl
          | true => obtain ⟨a, rfl, _⟩ := hf1 rfl; exact ⟨a, rfl⟩
      | ex y pl ios =>
        simp only [e3] at q1
        intro H' F' σ' ρ' d st sr he hd
        cases e4 : ioB ρ2 fd.m as ios with
        | none => simp only [e4] at q1; exact q1.elim
        | some ρ4 =>
          simp only [e4] at q1
          obtain ⟨s4, t4⟩ := end_rel s2 hl hv cs ch st sr (fun p hp => nomatch hp) he e4
          exact q1 H' F' d (t4 H F ρ st2 (pndM_none m.fr)) s4 hd
end
end Py

namespace Py
open PySem PySem.Spec PyProof.Rows L2
variable [HW]
section
variable {K : PySem.W.Frag} {A : Nat → Option Addr} {σ σ' : Sg} {ρ ρ' : Env} {H H' : Hp} {F F' : Addr → Prop} {Pn : List (Addr × W)}

/-! ### a name is stored -/
theorem setN_ok {i : Nat} {w : W} {f : Fl} (h : setN ρ i w f = some ρ') : i < ρ.length ∧ ρ' = ρ.set i (some (w, f)) ∧ ∀ u g, ρ[i]? = some (some (u, g)) → g ≠ .io ∧ g ≠ .ioL := by
  unfold setN at h
  split at h
  · cases h
  · cases h
  · rename_i x h1 h2 e
    obtain rfl := Option.some.inj h
    refine ⟨lt_of_get e, rfl, fun u g q => ?_⟩
    rw [q] at e; cases e
    constructor
    · rintro rfl; exact h1 u rfl
    · rintro rfl; exact h2 u rfl
  · cases h
theorem gets {α : Type} {l : List α} {i j : Nat} {x : α} (h : i < l.length) : (l.set i x)[j]? = if j = i then some x else l[j]? := by
  by_cases e : j = i
  · subst e; rw [List.getElem?_set_self h, if_pos rfl]
  · rw [List.getElem?_set_ne (Ne.symm e), if_neg e]
theorem SRel.setV (hs : SRel K A σ ρ H F Pn) {i : Nat} {v : V} {w : W} (r : HR K H F v w) (h : setN ρ i w .sh = some ρ') :
    SRel K A (σ.set i (some v)) ρ' H F Pn ∧ Stp σ ρ H F (σ.set i (some v)) ρ' H F := by
  obtain ⟨hi, rfl, hio⟩ := setN_ok h
  have hσ : i < σ.length := by rw [← hs.ln]; exact hi
  have back : ∀ {j : Nat} {a : Addr}, SlA (σ.set i (some v)) (ρ.set i (some (w, .sh))) j a → j ≠ i ∧ SlA σ ρ j a := fun {j a} ⟨w', f', e', n', s'⟩ => by
    rw [gets hi] at e'
    rw [gets hσ] at s'
    by_cases q : j = i
    · rw [if_pos q] at e'; cases e'; exact absurd rfl n'
    · rw [if_neg q] at e' s'; exact ⟨q, w', f', e', n', s'⟩
  refine ⟨⟨by simpa using hs.ln, fun j w' e => ?_, fun j w' f e n => ?_, fun j w' f e q => ?_, fun j k a h1 h2 => hs.dj j k a (back h1).2 (back h2).2, fun p hp => ?_, hs.pd, hs.ff⟩, ⟨fun _ _ h _ => h, fun _ h => h, fun _ _ _ h => .inl h, fun a o h q => ?_, fun a o h j q => (back q).2, fun a o h q => ?_, fun _ o h => ⟨o, h⟩⟩⟩
  · rw [gets hi] at e
    rw [gets hσ]
    by_cases q : j = i
    · rw [if_pos q] at e ⊢; cases e; exact ⟨v, rfl, r⟩
    · rw [if_neg q] at e ⊢; exact hs.sh j w' e
  · rw [gets hi] at e
    rw [gets hσ]
    by_cases q : j = i
    · rw [if_pos q] at e; cases e; exact absurd rfl n
    · rw [if_neg q] at e ⊢; exact hs.ow j w' f e n
  · rw [gets hi] at e
    rw [gets hσ]
    by_cases z : j = i
    · rw [if_pos z] at e; cases e; rcases q with q | q <;> cases q
    · rw [if_neg z] at e ⊢; exact hs.io j w' f e q
  · obtain ⟨x, y, z⟩ := hs.pn p hp
    exact ⟨x, y, fun j s => z j (back s).2⟩
  · obtain ⟨j, w', f', e', n', s'⟩ := q
    rw [gets hi] at e'
    rw [gets hσ] at s'
    by_cases z : j = i
    · rw [if_pos z] at e'; cases e'; rcases n' with n' | n' <;> cases n'
    · rw [if_neg z] at e' s'; exact ⟨j, w', f', e', n', s'⟩
  · obtain ⟨j, w', f', e', n', s'⟩ := q
    rw [gets hi] at e'
    rw [gets hσ] at s'
    by_cases z : j = i
    · rw [if_pos z] at e'; cases e'; rcases n' with n' | n' <;> cases n'
    · rw [if_neg z] at e' s'; exact ⟨j, w', f', e', n', s'⟩
/-- .. with a new object of its own -/
theorem SRel.setO {P1 : List (Addr × W)} {i : Nat} {c : Addr} {w : W} (hs : SRel K A σ ρ H F (P1 ++ (c, w) :: Pn)) (h : setN ρ i w .own = some ρ') :
    SRel K A (σ.set i (some (.ref c))) ρ' H F (P1 ++ Pn) ∧ ∀ H0 F0 ρ0 σ0, Stp σ0 ρ0 H0 F0 σ ρ H F → H0 c = none → Stp σ0 ρ0 H0 F0 (σ.set i (some (.ref c))) ρ' H F := by
  obtain ⟨hi, rfl, hio⟩ := setN_ok h
  have hσ : i < σ.length := by rw [← hs.ln]; exact hi
  have hc := hs.pn (c, w) (by simp)
  have hd : c ∉ (P1 ++ Pn).map (·.1) ∧ ((P1 ++ Pn).map (·.1)).Nodup := by
    have := hs.pd
    rw [List.map_append, List.map_cons] at this
    have q := (List.perm_middle (a := c) (l₁ := P1.map (·.1)) (l₂ := Pn.map (·.1))).nodup_iff.mp this
    rw [← List.map_append] at q
    exact List.nodup_cons.mp q
  have sub : ∀ p ∈ P1 ++ Pn, p ∈ P1 ++ (c, w) :: Pn := fun p hp => by
    rcases List.mem_append.mp hp with q | q
    · exact List.mem_append_left _ q
    · exact List.mem_append_right _ (List.mem_cons_of_mem _ q)
  have back : ∀ {j : Nat} {a : Addr}, SlA (σ.set i (some (.ref c))) (ρ.set i (some (w, .own))) j a → (j = i ∧ a = c) ∨ (j ≠ i ∧ SlA σ ρ j a) := fun {j a} ⟨w', f', e', n', s'⟩ => by
    rw [gets hi] at e'
    rw [gets hσ] at s'
    by_cases q : j = i
    · rw [if_pos q] at e' s'; cases e'; cases s'; exact .inl ⟨q, rfl⟩
    · rw [if_neg q] at e' s'; exact .inr ⟨q, w', f', e', n', s'⟩
  refine ⟨⟨by simpa using hs.ln, fun j w' e => ?_, fun j w' f e n => ?_, fun j w' f e q => ?_, fun j k a h1 h2 => ?_, fun p hp => ?_, hd.2, hs.ff⟩, fun H0 F0 ρ0 σ0 st hn => ⟨st.kp, st.fr, st.nf, fun a o h q => ?_, fun a o h j q => ?_, fun a o h q => ?_, st.al⟩⟩
  · rw [gets hi] at e
    rw [gets hσ]
    by_cases q : j = i
    · rw [if_pos q] at e; cases e
    · rw [if_neg q] at e ⊢; exact hs.sh j w' e
  · rw [gets hi] at e
    rw [gets hσ]
    by_cases q : j = i
    · rw [if_pos q] at e ⊢; cases e; exact ⟨c, rfl, hc.1, hc.2.1⟩
    · rw [if_neg q] at e ⊢; exact hs.ow j w' f e n
  · rw [gets hi] at e
    rw [gets hσ]
    by_cases z : j = i
    · rw [if_pos z] at e; cases e; rcases q with q | q <;> cases q
    · rw [if_neg z] at e ⊢; exact hs.io j w' f e q
  · rcases back h1 with ⟨rfl, rfl⟩ | ⟨n1, s1⟩
    · rcases back h2 with ⟨rfl, _⟩ | ⟨n2, s2⟩
      · rfl
      · exact absurd s2 (hc.2.2 k)
    · rcases back h2 with ⟨rfl, rfl⟩ | ⟨n2, s2⟩
      · exact absurd s1 (hc.2.2 j)
      · exact hs.dj j k a s1 s2
  · obtain ⟨x, y, z⟩ := hs.pn p (sub p hp)
    refine ⟨x, y, fun j s => ?_⟩
    rcases back s with ⟨rfl, e⟩ | ⟨_, s⟩
    · exact hd.1 (e ▸ List.mem_map_of_mem hp)
    · exact z j s
  · obtain ⟨j, w', f', e', n', s'⟩ := q
    rw [gets hi] at e'
    rw [gets hσ] at s'
    by_cases z : j = i
    · rw [if_pos z] at s'; cases s'
      rw [hn] at h; cases h
    · rw [if_neg z] at e' s'; exact st.no a o h ⟨j, w', f', e', n', s'⟩
  · rcases back q with ⟨_, z⟩ | ⟨_, s⟩
    · rw [z, hn] at h; cases h
    · exact st.ns a o h j s
  · obtain ⟨j, w', f', e', n', s'⟩ := q
    rw [gets hi] at e'
    rw [gets hσ] at s'
    by_cases z : j = i
    · rw [if_pos z] at s'; cases s'
      rw [hn] at h; cases h
    · rw [if_neg z] at e' s'; exact st.nw a o h ⟨j, w', f', e', n', s'⟩

/-! ### targets -/
/-- slots outside of some names -/
def Off (l : List Nat) (σ σ' : Sg) (ρ ρ' : Env) : Prop := σ'.length = σ.length ∧ ∀ j, j ∉ l → σ'[j]? = σ[j]? ∧ ρ'[j]? = ρ[j]?
theorem Off.refl {l : List Nat} : Off l σ σ ρ ρ := ⟨rfl, fun _ _ => ⟨rfl, rfl⟩⟩
theorem Off.trans {l l' : List Nat} {σ2 : Sg} {ρ2 : Env} (a : Off l σ σ' ρ ρ') (b : Off l' σ' σ2 ρ' ρ2) : Off (l ++ l') σ σ2 ρ ρ2 :=
  ⟨b.1.trans a.1, fun j h => ⟨(b.2 j fun z => h (List.mem_append_right _ z)).1.trans (a.2 j fun z => h (List.mem_append_left _ z)).1, (b.2 j fun z => h (List.mem_append_right _ z)).2.trans (a.2 j fun z => h (List.mem_append_left _ z)).2⟩⟩
def gP (K : PySem.W.Frag) (p : Pt) : TG := fun v σ H Q => ∃ A ρ F Pn w ρ', SRel K A σ ρ H F Pn ∧ HR K H F v w ∧ asP p w ρ = some ρ' ∧
  ∀ σ', SRel K A σ' ρ' H F Pn → Stp σ ρ H F σ' ρ' H F → Off p.ns σ σ' ρ ρ' → Q σ' H
def gPs (K : PySem.W.Frag) (p : Pt) : TGs := fun vs σ H Q => ∃ A ρ F Pn ws ρ', SRel K A σ ρ H F Pn ∧ HRs K H F vs ws ∧ asP p (.tup ws) ρ = some ρ' ∧
  ∀ σ', SRel K A σ' ρ' H F Pn → Stp σ ρ H F σ' ρ' H F → Off p.ns σ σ' ρ ρ' → Q σ' H
end
section
variable {X : Cx} {e : Expr} {es : List Expr} {pos : Pos} {x : Str}
theorem pgImp {t t' : TG} (h : PG X e t) (i : ∀ v σ H Q, t' v σ H Q → t v σ H Q) : PG X e t' := ⟨fun pins s σ H v u Q I r q => h.run pins s σ H v u Q I r (i v σ H Q q)⟩
theorem pgsImp {t t' : TGs} (h : PGs X es t) (i : ∀ v σ H Q, t' v σ H Q → t v σ H Q) : PGs X es t' := ⟨fun pins s σ H v u Q I r q => h.run pins s σ H v u Q I r (i v σ H Q q)⟩
theorem g_name {i : Nat} (hN : X.N.Nodup) (hi : X.N[i]? = some x) (hx : Loc X.env.scope x) (hf : X.fn x = true ∨ X.env.scope.names.lookup x = some .local) : PG X (.Name x pos) (gP X.K (.n i)) := by
  refine pgImp (pg_name hN hi hx hf) fun v σ H Q ⟨A, ρ, F, Pn, w, ρ', hs, r, h, q⟩ => ?_
  obtain ⟨s1, st⟩ := hs.setV r h
  refine q _ s1 st ⟨by simp, fun j hj => ?_⟩
  have hj : j ≠ i := by simpa [Pt.ns] using hj
  obtain ⟨hi', rfl, _⟩ := setN_ok h
  rw [List.getElem?_set_ne (Ne.symm hj), List.getElem?_set_ne (Ne.symm hj)]
  exact ⟨rfl, rfl⟩
theorem g_nil : PGs X [] (gPs X.K .nil) := by
  refine pgsImp pgs_nil fun vs σ H Q ⟨A, ρ, F, Pn, ws, ρ', hs, r, h, q⟩ => ?_
  cases ws with
  | nil =>
    obtain rfl := Option.some.inj h
    exact ⟨r.nl, q σ hs .refl .refl⟩
  | cons _ _ => cases h
/-- no star -/
theorem each_cons (env : PySem.Env) (h : plainE e = true) : (assignEach (e :: es) env).map (·.2) = assign e env :: (assignEach es env).map (·.2) := by
  cases e <;> first | rfl | cases h
theorem each_len (env : PySem.Env) : ∀ es : List Expr, (assignEach es env).length = es.length
  | [] => rfl
  | e :: es => by
    have : (assignEach (e :: es) env).length = (assignEach es env).length + 1 := by cases e <;> rfl
    rw [this, each_len env es]; rfl
theorem each_star (env : PySem.Env) : ∀ {es : List Expr}, es.all plainE = true → (assignEach es env).findIdx? (·.1) = none
  | [], _ => rfl
  | e :: es, h => by
    rw [List.all_cons, Bool.and_eq_true] at h
    have ih := each_star env h.2
    have : (assignEach (e :: es) env) = (false, assign e env) :: assignEach es env := by
      cases e <;> first | rfl | cases h.1
    rw [this, List.findIdx?_cons]
    simp [ih]
theorem g_cons {p q : Pt} (hp : plainE e = true) (h1 : PG X e (gP X.K p)) (h2 : PGs X es (gPs X.K q)) : PGs X (e :: es) (gPs X.K (.cons p q)) := by
  refine pgsImp (pgs_cons h1 h2 (each_cons _ hp)) fun vs σ H Q ⟨A, ρ, F, Pn, ws, ρ', hs, r, h, k⟩ => ?_
  cases ws with
  | nil => cases h
  | cons w ws =>
    obtain ⟨v, vr, rfl, r1, r2⟩ := r.split
    have h : (match asP p w ρ with | some ρ1 => asP q (.tup ws) ρ1 | none => none) = some ρ' := h
    cases e1 : asP p w ρ with
    | none => rw [e1] at h; cases h
    | some ρ1 =>
      rw [e1] at h
      exact ⟨v, vr, rfl, A, ρ, F, Pn, w, ρ1, hs, r1, e1, fun σ1 s1 t1 o1 => ⟨A, ρ1, F, Pn, ws, ρ', s1, r2, h, fun σ2 s2 t2 o2 => k σ2 s2 (t1.trans t2) (o1.trans o2)⟩⟩
/-- a tuple or a list, taken apart -/
theorem pg_or {t u : TG} (h1 : PG X e t) (h2 : PG X e u) : PG X e (fun v σ H Q => t v σ H Q ∨ u v σ H Q) := ⟨fun pins s σ H v w Q I r q => q.elim (h1.run pins s σ H v w Q I r) (h2.run pins s σ H v w Q I r)⟩
theorem g_tup {k : Nat} {l : Pt} (hc : X.calm = true) (hp : es.all plainE = true) (hl : ∀ w ρ ρ', asP l (.tup w) ρ = some ρ' → w.length = es.length) (h : PGs X es (gPs X.K l)) : PG X (.Tuple es k pos) (gP X.K (.t l)) := by
  refine pgImp (pg_or (pg_tup (n := es.length) hc h (each_len _ _) (each_star _ hp)) (pg_lst (n := es.length) hc h (each_len _ _) (each_star _ hp))) fun v σ H Q ⟨A, ρ, F, Pn, w, ρ', hs, r, h, q⟩ => ?_
  cases w with
  | tup ws =>
    obtain ⟨a, vs, rfl, sq, _, hr⟩ := r.tupI
    have h : asP l (.tup ws) ρ = some ρ' := h
    exact .inl ⟨a, vs, rfl, sq, by rw [hr.length]; exact hl _ _ _ h, A, ρ, F, Pn, ws, ρ', hs, hr, h, q⟩
  | lst ws =>
    obtain ⟨a, vs, rfl, sq, _, hr⟩ := (PkR.of r).lst
    have h : asP l (.tup ws) ρ = some ρ' := h
    exact .inr ⟨a, vs, rfl, sq, by rw [hr.length]; exact hl _ _ _ h, A, ρ, F, Pn, ws, ρ', hs, hr, h, q⟩
  | _ => cases h
end
end Py

namespace Py
open PySem PySem.Spec PyProof.Rows L2
variable [HW]
section
variable {K : PySem.W.Frag} {A : Nat → Option Addr} {σ σ' : Sg} {ρ ρ' : Env} {H H' : Hp} {F F' : Addr → Prop} {Pn : List (Addr × W)}
/-! ### a name is locked, and not -/
theorem sla_set {i : Nat} {w : W} {f g : Fl} (e : ρ[i]? = some (some (w, f))) (hf : f ≠ .sh) (hg : g ≠ .sh) (j : Nat) (a : Addr) : SlA σ (ρ.set i (some (w, g))) j a ↔ SlA σ ρ j a := by
  have hi := lt_of_get e
  constructor
  · rintro ⟨w', f', e', n', s'⟩
    rw [gets hi] at e'
    by_cases q : j = i
    · subst q; rw [if_pos rfl] at e'; cases e'; exact ⟨w, f, e, hf, s'⟩
    · rw [if_neg q] at e'; exact ⟨w', f', e', n', s'⟩
  · rintro ⟨w', f', e', n', s'⟩
    by_cases q : j = i
    · subst q; exact ⟨w, g, by rw [gets hi, if_pos rfl], hg, s'⟩
    · exact ⟨w', f', by rw [gets hi, if_neg q]; exact e', n', s'⟩
theorem SRel.flag (hs : SRel K A σ ρ H F Pn) {i : Nat} {w : W} {f g : Fl} (e : ρ[i]? = some (some (w, f))) (hf : f ≠ .sh) (hg : g ≠ .sh) (hio : (g = .io ∨ g = .ioL) → (f = .io ∨ f = .ioL)) : SRel K A σ (ρ.set i (some (w, g))) H F Pn := by
  have hi := lt_of_get e
  refine ⟨by simpa using hs.ln, fun j w' e' => ?_, fun j w' f' e' n => ?_, fun j w' f' e' q => ?_, fun j k a h1 h2 => hs.dj j k a ((sla_set e hf hg _ _).mp h1) ((sla_set e hf hg _ _).mp h2), fun p hp => ?_, hs.pd, hs.ff⟩
  · rw [gets hi] at e'
    by_cases q : j = i
    · rw [if_pos q] at e'; cases e'; exact absurd rfl hg
    · rw [if_neg q] at e'; exact hs.sh j w' e'
  · rw [gets hi] at e'
    by_cases q : j = i
    · rw [if_pos q] at e'; cases e'; subst q; exact hs.ow j w f e hf
    · rw [if_neg q] at e'; exact hs.ow j w' f' e' n
  · rw [gets hi] at e'
    by_cases z : j = i
    · rw [if_pos z] at e'; cases e'; subst z; exact hs.io j w f e (hio q)
    · rw [if_neg z] at e'; exact hs.io j w' f' e' q
  · obtain ⟨x, y, z⟩ := hs.pn p hp
    exact ⟨x, y, fun j s => z j ((sla_set e hf hg _ _).mp s)⟩
theorem ow_set {i : Nat} {w : W} {f g : Fl} {a : Addr} (e : ρ[i]? = some (some (w, f))) (h : (g = .own ∨ g = .ownL) → (f = .own ∨ f = .ownL)) (o : Ow σ (ρ.set i (some (w, g))) a) : Ow σ ρ a := by
  have hi := lt_of_get e
  obtain ⟨j, w', f', e', n', s'⟩ := o
  rw [gets hi] at e'
  by_cases q : j = i
  · rw [if_pos q] at e'; cases e'; subst q; exact ⟨j, w, f, e, h n', s'⟩
  · rw [if_neg q] at e'; exact ⟨j, w', f', e', n', s'⟩
theorem ow_lk1 {i : Nat} {a : Addr} (o : Ow σ (lkE1 ρ i) a) : Ow σ ρ a := by
  unfold lkE1 at o
  split at o
  · rename_i w e
    exact ow_set (wOf_eq.mp e) (fun _ => .inl rfl) o
  · rename_i w e
    exact ow_set (wOf_eq.mp e) (by intro h; rcases h with h | h <;> cases h) o
  · exact o
theorem ow_lk {a : Addr} : ∀ {as : List Arg} {ρ : Env}, Ow σ (lkE ρ as) a → Ow σ ρ a
  | [], _, h => h
  | .val _ _ :: as, _, h => ow_lk (as := as) h
  | .slot _ :: as, _, h => ow_lk1 (ow_lk (as := as) h)
theorem lk1_ok (hs : SRel K A σ ρ H F Pn) (i : Nat) : SRel K A σ (lkE1 ρ i) H F Pn ∧ (∀ j a, SlA σ (lkE1 ρ i) j a ↔ SlA σ ρ j a) ∧ (∀ a, Om σ (lkE1 ρ i) a → Om σ ρ a) ∧ ∀ a, SlA σ ρ i a → ¬ Om σ (lkE1 ρ i) a := by
  have main : ∀ {w : W} {f g : Fl}, ρ[i]? = some (some (w, f)) → f ≠ .sh → g ≠ .sh → ((g = .io ∨ g = .ioL) → (f = .io ∨ f = .ioL)) → (g ≠ .own ∧ g ≠ .io) →
      SRel K A σ (ρ.set i (some (w, g))) H F Pn ∧ (∀ j a, SlA σ (ρ.set i (some (w, g))) j a ↔ SlA σ ρ j a) ∧ (∀ a, Om σ (ρ.set i (some (w, g))) a → Om σ ρ a) ∧ ∀ a, SlA σ ρ i a → ¬ Om σ (ρ.set i (some (w, g))) a := fun {w f g} e hf hg hio hn => by
    have hi := lt_of_get e
    refine ⟨hs.flag e hf hg hio, sla_set e hf hg, fun a ⟨j, w', f', e', n', s'⟩ => ?_, fun a sl ⟨j, w', f', e', n', s'⟩ => ?_⟩
    · rw [gets hi] at e'
      by_cases q : j = i
      · rw [if_pos q] at e'; cases e'
        rcases n' with z | z
        · exact absurd z hn.1
        · exact absurd z hn.2
      · rw [if_neg q] at e'; exact ⟨j, w', f', e', n', s'⟩
    · rw [gets hi] at e'
      by_cases q : j = i
      · rw [if_pos q] at e'; cases e'
        rcases n' with z | z
        · exact absurd z hn.1
        · exact absurd z hn.2
      · rw [if_neg q] at e'
        exact q (hs.dj j i a ⟨w', f', e', by rcases n' with rfl | rfl <;> decide, s'⟩ sl)
  unfold lkE1
  split
  · rename_i w e
    exact main (wOf_eq.mp e) (by decide) (by decide) (by intro h; rcases h with h | h <;> cases h) ⟨by decide, by decide⟩
  · rename_i w e
    exact main (wOf_eq.mp e) (by decide) (by decide) (fun _ => .inl rfl) ⟨by decide, by decide⟩
  · rename_i h1 h2
    refine ⟨hs, fun _ _ => Iff.rfl, fun _ h => h, fun a sl ⟨j, w', f', e', n', s'⟩ => ?_⟩
    have : j = i := hs.dj j i a ⟨w', f', e', by rcases n' with rfl | rfl <;> decide, s'⟩ sl
    subst this
    rcases n' with rfl | rfl
    · exact h1 w' (wOf_eq.mpr e')
    · exact h2 w' (wOf_eq.mpr e')
theorem lk_ok : ∀ {as : List Arg} {ρ : Env}, SRel K A σ ρ H F Pn → SRel K A σ (lkE ρ as) H F Pn ∧ (∀ j a, SlA σ (lkE ρ as) j a ↔ SlA σ ρ j a) ∧ (∀ a, Om σ (lkE ρ as) a → Om σ ρ a) ∧ ∀ i a, .slot i ∈ as → SlA σ ρ i a → ¬ Om σ (lkE ρ as) a
  | [], ρ, hs => ⟨hs, fun _ _ => Iff.rfl, fun _ h => h, fun i a h => nomatch h⟩
  | .val w f :: as, ρ, hs => by
    obtain ⟨a, b, c, d⟩ := lk_ok (as := as) hs
    exact ⟨a, b, c, fun i x h s => d i x (by simpa using h) s⟩
  | .slot k :: as, ρ, hs => by
    obtain ⟨s1, b1, c1, d1⟩ := lk1_ok hs k
    obtain ⟨s2, b2, c2, d2⟩ := lk_ok (as := as) s1
    refine ⟨s2, fun j a => (b2 j a).trans (b1 j a), fun a h => c1 a (c2 a h), fun i x h s => ?_⟩
    by_cases q : i = k
    · subst q; exact fun z => d1 x s (c2 x z)
    · exact d2 i x (by simpa [q] using h) ((b1 i x).mpr s)
theorem lk_stp {as : List Arg} (hs : SRel K A σ ρ H F Pn) : Stp σ ρ H F σ (lkE ρ as) H F := by
  obtain ⟨s1, b1, c1, d1⟩ := lk_ok (as := as) hs
  exact ⟨fun _ _ h _ => h, fun _ h => h, fun _ _ _ h => .inl h, fun a o _ h => c1 a h, fun a o _ i h => (b1 i a).mp h, fun a o _ h => ow_lk h, fun _ o h => ⟨o, h⟩⟩
theorem ul_ok {ρ1 : Env} {H1 : Hp} {F1 : Addr → Prop} : ∀ {as : List Arg} {ρ3 : Env}, Stp σ ρ1 H1 F1 σ' ρ3 H F → SRel K A σ' ρ3 H F Pn → SRel K A σ' (ulE ρ1 ρ3 as) H F Pn ∧ Stp σ ρ1 H1 F1 σ' (ulE ρ1 ρ3 as) H F
  | [], ρ3, st, hs => ⟨hs, st⟩
  | .val _ _ :: as, ρ3, st, hs => ul_ok (as := as) st hs
  | .slot i :: as, ρ3, st, hs => by
    have main : ∀ {w u : W} {f g h : Fl}, ρ1[i]? = some (some (u, h)) → (h = .own ∨ h = .io) → ρ3[i]? = some (some (w, f)) → f ≠ .sh → (g = .own ∨ g = .io) → ((g = .io ∨ g = .ioL) → (f = .io ∨ f = .ioL)) → ((g = .own ∨ g = .ownL) → (f = .own ∨ f = .ownL)) →
        SRel K A σ' (ρ3.set i (some (w, g))) H F Pn ∧ Stp σ ρ1 H1 F1 σ' (ρ3.set i (some (w, g))) H F := fun {w u f g h} e1 hh e3 hf hg hio hown => by
      have hg' : g ≠ .sh := by rcases hg with rfl | rfl <;> decide
      have hi := lt_of_get e3
      refine ⟨hs.flag e3 hf hg' hio, st.kp, st.fr, st.nf, fun a o k z => ?_, fun a o k j z => st.ns a o k j ((sla_set e3 hf hg' _ _).mp z), fun a o k z => st.nw a o k (ow_set e3 hown z), st.al⟩
      obtain ⟨j, w', f', e', n', s'⟩ := z
      by_cases q : j = i
      · subst q
        have sl : SlA σ' ρ3 j a := ⟨w, f, e3, hf, s'⟩
        obtain ⟨w2, f2, e2, n2, s2⟩ := st.ns a o k j sl
        rw [e1] at e2; cases e2
        exact ⟨j, u, h, e1, hh, s2⟩
      · rw [gets hi, if_neg q] at e'
        exact st.no a o k ⟨j, w', f', e', n', s'⟩
    have one : SRel K A σ' (ulE1 ρ1 ρ3 i) H F Pn ∧ Stp σ ρ1 H1 F1 σ' (ulE1 ρ1 ρ3 i) H F := by
      unfold ulE1
      split
      · rename_i h1 h2
        exact main (wOf_eq.mp h1) (.inl rfl) (wOf_eq.mp h2) (by decide) (.inl rfl) (by intro h; rcases h with h | h <;> cases h) (fun _ => .inr rfl)
      · rename_i h1 h2
        exact main (wOf_eq.mp h1) (.inr rfl) (wOf_eq.mp h2) (by decide) (.inr rfl) (fun _ => .inr rfl) (by intro h; rcases h with h | h <;> cases h)
      · exact ⟨hs, st⟩
    exact ul_ok (as := as) one.2 one.1

/-! ### iterators -/
/-- J walks ws, from the point (σ, ρ, H, F) on -/
structure ItG (K : PySem.W.Frag) (σ : Sg) (ρ : Env) (H : Hp) (F : Addr → Prop) (J : It) (ws : List W) : Prop where
  go : ∀ i H2 F2 σ2 ρ2, Stp σ ρ H F σ2 ρ2 H2 F2 → i < ws.length → J.go i H2
  yl : ∀ (i : Nat) H2 F2 σ2 ρ2 x H', Stp σ ρ H F σ2 ρ2 H2 F2 → i < ws.length → J.yld i H2 x H' → ∃ w, ws[i]? = some w ∧ Nw K H2 F2 x H' w false
  st : ∀ i H2 F2 σ2 ρ2, Stp σ ρ H F σ2 ρ2 H2 F2 → ws.length ≤ i → J.stop i H2
theorem rd_later {a : Addr} {u : HO} {σ2 : Sg} {ρ2 : Env} {H2 : Hp} {F2 : Addr → Prop} (st : Stp σ ρ H F σ2 ρ2 H2 F2) (n : ¬ Om σ ρ a) (h : Rd H a u) : Rd H2 a u := by
  rcases h with h | ⟨o, h⟩
  · exact .inl (st.kp _ _ h n)
  · exact .inr ⟨o, st.kp _ _ h n⟩
theorem rd_inj {a : Addr} {xs ys : List V} (h : SqL K H a xs) (r : Rd H a (.lst ys)) : SqL K H a xs := h
/-- the list that is read -/
theorem itg_list (hs : SRel K A σ ρ H F Pn) {a : Addr} {us : List V} {ws : List W} (r : Rd H a (.lst us)) (n : ¬ Om σ ρ a) (hr : HRs K H F us ws) : ItG K σ ρ H F (Itl K a) ws where
  go := fun i H2 F2 σ2 ρ2 st hi => by
    have hl := hr.length
    exact ⟨us, us[i]'(by omega), .inl (rd_later st n r), by simp⟩
  yl := fun i H2 F2 σ2 ρ2 x H' st hi y => by
    obtain ⟨rfl, y⟩ := y
    obtain ⟨w, e, q⟩ := (st.hrs hs hr).getV (y us (.inl (rd_later st n r)))
    exact ⟨w, e, .old q⟩
  st := fun i H2 F2 σ2 ρ2 st hi => ⟨us, .inl (rd_later st n r), by rw [hr.length]; exact hi⟩
theorem itg_tup (hs : SRel K A σ ρ H F Pn) {a : Addr} {us : List V} {ws : List W} (r : SqT K H a us) (hr : HRs K H F us ws) : ItG K σ ρ H F (Itt K a) ws where
  go := fun i H2 F2 σ2 ρ2 st hi => by
    have hl := hr.length
    exact ⟨us, us[i]'(by omega), st.sqt hs a us r, by simp⟩
  yl := fun i H2 F2 σ2 ρ2 x H' st hi y => by
    obtain ⟨rfl, y⟩ := y
    obtain ⟨w, e, q⟩ := (st.hrs hs hr).getV (y us (st.sqt hs a us r))
    exact ⟨w, e, .old q⟩
  st := fun i H2 F2 σ2 ρ2 st hi => ⟨us, st.sqt hs a us r, by rw [hr.length]; exact hi⟩
theorem rev_get {α : Type} {l : List α} {i : Nat} (h : i < l.length) : l.reverse[i]? = l[l.length - 1 - i]? := List.getElem?_reverse h
theorem itg_revL (hs : SRel K A σ ρ H F Pn) {a : Addr} {us : List V} {ws : List W} (r : Rd H a (.lst us)) (n : ¬ Om σ ρ a) (hr : HRs K H F us ws) : ItG K σ ρ H F (Itv K a us.length) ws.reverse where
  go := fun i H2 F2 σ2 ρ2 st hi => by
    have hl := hr.length
    rw [List.length_reverse] at hi
    exact ⟨by omega, us, us[us.length - 1 - i]'(by omega), .inl (rd_later st n r), by simp⟩
  yl := fun i H2 F2 σ2 ρ2 x H' st hi y => by
    have hl := hr.length
    rw [List.length_reverse] at hi
    obtain ⟨rfl, y⟩ := y
    obtain ⟨w, e, q⟩ := (st.hrs hs hr).getV (y us (.inl (rd_later st n r)))
    exact ⟨w, by rw [rev_get hi, ← hl]; exact e, .old q⟩
  st := fun i H2 F2 σ2 ρ2 st hi => by
    show us.length ≤ i
    rw [List.length_reverse] at hi
    rw [hr.length]; exact hi
theorem itg_revT (hs : SRel K A σ ρ H F Pn) {a : Addr} {us : List V} {ws : List W} (r : SqT K H a us) (hr : HRs K H F us ws) : ItG K σ ρ H F (RT.ItvT K a us.length) ws.reverse where
  go := fun i H2 F2 σ2 ρ2 st hi => by
    have hl := hr.length
    rw [List.length_reverse] at hi
    exact ⟨by omega, us, us[us.length - 1 - i]'(by omega), st.sqt hs a us r, by simp⟩
  yl := fun i H2 F2 σ2 ρ2 x H' st hi y => by
    have hl := hr.length
    rw [List.length_reverse] at hi
    obtain ⟨rfl, y⟩ := y
    obtain ⟨w, e, q⟩ := (st.hrs hs hr).getV (y us (st.sqt hs a us r))
    exact ⟨w, by rw [rev_get hi, ← hl]; exact e, .old q⟩
  st := fun i H2 F2 σ2 ρ2 st hi => by
    show us.length ≤ i
    rw [List.length_reverse] at hi
    rw [hr.length]; exact hi
theorem rng_len : ∀ (n : Nat) (a : Int), (rngL n a).length = n
  | 0, _ => rfl
  | n + 1, a => by simp [rngL, rng_len n (a + 1)]
theorem rng_get : ∀ (n : Nat) (a : Int) (i : Nat), i < n → (rngL n a)[i]? = some (.int (a + i))
  | 0, _, _, h => by omega
  | n + 1, a, 0, _ => by simp [rngL]
  | n + 1, a, i + 1, h => by
    simp only [rngL, List.getElem?_cons_succ]
    rw [rng_get n (a + 1) i (by omega)]
    congr 2
    omega
theorem itg_rng {lo : Int} {n : Nat} : ItG K σ ρ H F (Itr lo n) (rngL n lo) where
  go := fun i H2 F2 σ2 ρ2 st hi => by rw [rng_len] at hi; exact hi
  yl := fun i H2 F2 σ2 ρ2 x H' st hi y => by
    obtain ⟨rfl, rfl⟩ := y
    rw [rng_len] at hi
    exact ⟨_, rng_get n lo i hi, .old (.int _)⟩
  st := fun i H2 F2 σ2 ρ2 st hi => by rw [rng_len] at hi; exact hi
theorem enu_len : ∀ (n : Nat) (ws : List W), (enuL n ws).length = ws.length
  | _, [] => rfl
  | n, w :: ws => by simp [enuL, enu_len (n + 1) ws]
theorem enu_get : ∀ (n : Nat) (ws : List W) (i : Nat) (w : W), ws[i]? = some w → (enuL n ws)[i]? = some (.tup [.int ((n + i : Nat) : Int), w])
  | _, [], i, w, h => by simp at h
  | n, x :: ws, 0, w, h => by simp at h; subst h; simp [enuL]
  | n, x :: ws, i + 1, w, h => by
    simp only [enuL, List.getElem?_cons_succ]
    rw [enu_get (n + 1) ws i w (by simpa using h), show n + 1 + i = n + (i + 1) by omega]
theorem two_new {T : Addr} {x y : V} {w z : W} (hT : H T = none) (a : HR K H F x w) (b : HR K H F y z) : Nw K H F (.ref T) (upd H T (.tup [x, y])) (.tup [w, z]) false :=
  .tup hT (by simp [szL]) (.cons a (.one b))
theorem itg_enu (hs : SRel K A σ ρ H F Pn) {a : Addr} {us : List V} {ws : List W} (r : Rd H a (.lst us)) (n : ¬ Om σ ρ a) (hr : HRs K H F us ws) : ItG K σ ρ H F (Ite K a) (enuL 0 ws) where
  go := fun i H2 F2 σ2 ρ2 st hi => by
    have hl := hr.length
    rw [enu_len] at hi
    exact ⟨us, us[i]'(by omega), .inl (rd_later st n r), by simp⟩
  yl := fun i H2 F2 σ2 ρ2 x H' st hi y => by
    obtain ⟨T, y, rfl, hT, rfl, q⟩ := y
    obtain ⟨w, e, k⟩ := (st.hrs hs hr).getV (q us (.inl (rd_later st n r)))
    exact ⟨_, enu_get 0 ws i w e, by simpa using two_new hT (HR.int (i : Int)) k⟩
  st := fun i H2 F2 σ2 ρ2 st hi => ⟨us, .inl (rd_later st n r), by rw [enu_len] at hi; rw [hr.length]; exact hi⟩
theorem zip2_len : ∀ (xs ys : List W), (zip2 xs ys).length = min xs.length ys.length
  | [], ys => by simp [zip2]
  | _ :: _, [] => by simp [zip2]
  | x :: xs, y :: ys => by simp [zip2, zip2_len xs ys]
theorem zip2_get : ∀ (xs ys : List W) (i : Nat) (x y : W), xs[i]? = some x → ys[i]? = some y → (zip2 xs ys)[i]? = some (.tup [x, y])
  | [], _, _, _, _, h, _ => by simp at h
  | _ :: _, [], _, _, _, _, h => by simp at h
  | x :: xs, y :: ys, 0, _, _, h, h' => by simp at h h'; subst h; subst h'; simp [zip2]
  | x :: xs, y :: ys, i + 1, _, _, h, h' => by
    simp only [zip2, List.getElem?_cons_succ]
    exact zip2_get xs ys i _ _ (by simpa using h) (by simpa using h')
theorem itg_zip (hs : SRel K A σ ρ H F Pn) {a b : Addr} {us vs : List V} {ws zs : List W} (r : Rd H a (.lst us)) (n : ¬ Om σ ρ a) (hr : HRs K H F us ws) (r' : Rd H b (.lst vs)) (n' : ¬ Om σ ρ b) (hr' : HRs K H F vs zs) : ItG K σ ρ H F (Itz K a b) (zip2 ws zs) where
  go := fun i H2 F2 σ2 ρ2 st hi => by
    have hl := hr.length
    have hl' := hr'.length
    rw [zip2_len] at hi
    exact ⟨us, vs, us[i]'(by omega), vs[i]'(by omega), .inl (rd_later st n r), .inl (rd_later st n' r'), by simp, by simp⟩
  yl := fun i H2 F2 σ2 ρ2 x H' st hi y => by
    obtain ⟨T, y, z, rfl, hT, rfl, q, q'⟩ := y
    obtain ⟨w, e, k⟩ := (st.hrs hs hr).getV (q us (.inl (rd_later st n r)))
    obtain ⟨w', e', k'⟩ := (st.hrs hs hr').getV (q' vs (.inl (rd_later st n' r')))
    exact ⟨_, zip2_get ws zs i w w' e e', two_new hT k k'⟩
  st := fun i H2 F2 σ2 ρ2 st hi => ⟨us, vs, .inl (rd_later st n r), .inl (rd_later st n' r'), by rw [zip2_len] at hi; rw [hr.length, hr'.length]; omega⟩
theorem itg_zipT (hs : SRel K A σ ρ H F Pn) {a b : Addr} {us vs : List V} {ws zs : List W} (r : SqT K H a us) (hr : HRs K H F us ws) (r' : SqT K H b vs) (hr' : HRs K H F vs zs) : ItG K σ ρ H F (RZ.ItzT K a b) (zip2 ws zs) where
  go := fun i H2 F2 σ2 ρ2 st hi => by
    have hl := hr.length
    have hl' := hr'.length
    rw [zip2_len] at hi
    exact ⟨us, vs, us[i]'(by omega), vs[i]'(by omega), st.sqt hs _ _ r, st.sqt hs _ _ r', by simp, by simp⟩
  yl := fun i H2 F2 σ2 ρ2 x H' st hi y => by
    obtain ⟨T, y, z, rfl, hT, rfl, q, q'⟩ := y
    obtain ⟨w, e, k⟩ := (st.hrs hs hr).getV (q us (st.sqt hs _ _ r))
    obtain ⟨w', e', k'⟩ := (st.hrs hs hr').getV (q' vs (st.sqt hs _ _ r'))
    exact ⟨_, zip2_get ws zs i w w' e e', two_new hT k k'⟩
  st := fun i H2 F2 σ2 ρ2 st hi => ⟨us, vs, st.sqt hs _ _ r, st.sqt hs _ _ r', by rw [zip2_len] at hi; rw [hr.length, hr'.length]; omega⟩

/-- the list of an argument that is walked: it stands still while the names are locked -/
theorem arg_list (hs : SRel K A σ ρ H F Pn) {as : List Arg} {u : Arg} {v : V} {ws : List W} (hm : u ∈ as) (hp : ∀ p ∈ pnd u v, p ∈ Pn) (ar : AR K σ H F u v) (e : res ρ u = some (.lst ws)) :
    ∃ a us, v = .ref a ∧ Rd H a (.lst us) ∧ HRs K H F us ws ∧ ¬ Om σ (lkE ρ as) a := by
  obtain ⟨l1, l2, l3, l4⟩ := lk_ok (as := as) hs
  have frz : ∀ {v : V}, HR K H F v (.lst ws) → ∃ a us, v = .ref a ∧ Rd H a (.lst us) ∧ HRs K H F us ws ∧ ¬ Om σ (lkE ρ as) a := fun {v} h => by
    cases h with
    | lst f r z q => exact ⟨_, _, rfl, r, q, fun o => (l1.omc o).1 f⟩
  cases u with
  | val w fr =>
    obtain rfl : w = .lst ws := Option.some.inj e
    cases fr with
    | false => exact frz ar
    | true =>
      obtain ⟨c, rfl⟩ := ar
      obtain ⟨x, ⟨us, y1, y2, y3⟩, z⟩ := hs.pn (c, .lst ws) (hp _ (by simp [pnd]))
      refine ⟨c, us, rfl, .inl y1, y3, fun o => ?_⟩
      obtain ⟨i, s⟩ := (l3 c o).sl
      exact z i s
  | slot i =>
    simp only [res] at e
    cases q : wOf ρ i with
    | none => rw [q] at e; cases e
    | some x =>
      rw [q] at e
      obtain ⟨w, f⟩ := x
      obtain rfl : w = .lst ws := Option.some.inj e
      have q' := wOf_eq.mp q
      have ar' : σ[i]? = some (some v) := ar
      by_cases hf : f = .sh
      · subst hf
        obtain ⟨v', a, b⟩ := hs.sh i _ q'
        rw [ar'] at a; cases a
        exact frz b
      · obtain ⟨c, ec, nF, us, y1, y2, y3⟩ := hs.ow i _ f q' hf
        rw [ar'] at ec; cases ec
        exact ⟨c, us, rfl, .inl y1, y3, l4 i c hm ⟨_, f, q', hf, ar'⟩⟩
end
end Py

namespace Py
open PySem PySem.Spec PyProof.Rows L2
/-! ### enumerate of a tuple -/
theorem en1_meets {v : Value} {ob : Obj} {Hs : Heap → Prop} (B : Begins v ob Hs) : Meets (Builtin.«enumerate.__new__» ⟨[.type "enumerate", v], []⟩) (fun _ R s => Hs s.heap ∧
      R (.ok (.ret (.ref (s.heap.push ob).objs.size))) { s with heap := (s.heap.push ob).push { cls := .type "enumerate", data := .fields #[.none, .bool false, .ref s.heap.objs.size, rawInt 0, .none, .none] } }) :=
  .of_wp fun prog w A R s h => by
    obtain ⟨hp, g, d, tk, os⟩ := s; obtain ⟨hB, h⟩ := h
    have hs := sub_enumerate
    have wk : ∀ {A' : Around} {E : Value → Shared → Prop} {Q : Value → Shared → Prop}, Q (.ref hp.objs.size) ⟨hp.push ob, g, d, tk, os⟩ → wpAny (model prog w) A' (pyIter v) Q E ⟨hp, g, d, tk, os⟩ := fun q => B.iter prog w _ _ ⟨hp, g, d, tk, os⟩ _ hB q
    wp_walk using wk
    refine wpAny_stack_any fun _ => wpAny_pure ?_
    split
    · rename_i cl _ _ _ _ _
      cases (cl == Value.type "enumerate") <;> (wp_walk using wk; exact ⟨_, rfl, h⟩)
    · (wp_walk using wk; exact ⟨_, rfl, h⟩)
section
variable {prog : Program} {w : World} {A : Around} {E : Value → Shared → Prop} {s : Shared}
theorem en1_call {v : Value} {ob : Obj} {Hs : Heap → Prop} {Q : Value → Shared → Prop} (B : Begins v ob Hs) (hB : Hs s.heap)
    (h : ∀ h', IsEnum h' (s.heap.objs.size + 1) s.heap.objs.size 0 .none → h'.get? s.heap.objs.size = some ob → h'.objs.size = s.heap.objs.size + 2 → (∀ b o, s.heap.get? b = some o → h'.get? b = some o) → Q (.ref (s.heap.objs.size + 1)) { s with heap := h' }) :
    wpAny (model prog w) A (call (.type "enumerate") [v]) Q E s := by
  refine callType_new F.called_enumerate (by decide) (F.typeCall_enumerate_1 _) (F.newCall_enumerate_1 _) (fun obj => F.args_object_init_2 obj _) F.entry_enumerate_new (en1_meets B) ⟨hB, ?_⟩
  have hz : (s.heap.push ob).objs.size = s.heap.objs.size + 1 := Heap.size_push ..
  show _ ∧ _
  rw [hz]
  have en : IsEnum ((s.heap.push ob).push { cls := .type "enumerate", data := .fields #[.none, .bool false, .ref s.heap.objs.size, rawInt 0, .none, .none] }) (s.heap.objs.size + 1) s.heap.objs.size 0 .none := by
    have z := Heap.get?_push_size (s.heap.push ob) (o := { cls := .type "enumerate", data := .fields #[.none, .bool false, .ref s.heap.objs.size, rawInt 0, .none, .none] }) rfl
    rw [hz] at z; exact z
  exact ⟨⟨_, en, rfl⟩, h _ en (Heap.get?_push_of_some _ (Heap.get?_push_size _ B.free)) (by rw [Heap.size_push, hz]) fun _ _ x => Heap.get?_push_of_some _ (Heap.get?_push_of_some _ x)⟩
end
/-- the tuple at a, each item in a new pair -/
def IteT (K : PySem.W.Frag) (a : Addr) : It :=
  ⟨fun i H => ∃ (xs : List V) (x : V), SqT K H a xs ∧ xs[i]? = some x, fun i H v H' => ∃ T x, v = .ref T ∧ H T = none ∧ H' = upd H T (.tup [.int (i : Nat), x]) ∧ ∀ xs, SqT K H a xs → xs[i]? = some x, fun i H => ∃ xs : List V, SqT K H a xs ∧ xs.length ≤ i⟩
theorem en_ne {h : Heap} {a e it : Addr} {c : Int} {old : Value} {items : Array Value} (he : IsEnum h e it c old) (ht : h.IsTuple a items) : a ≠ e := by
  rintro rfl
  obtain ⟨o, e1, e2, _⟩ := ht
  have : h.get? a = _ := he
  rw [e1] at this
  cases this
  exact absurd (Value.type.inj e2) (by decide)
theorem ti_ne {h : Heap} {a it : Addr} {i : Nat} {items : Array Value} (hi : h.IsTupleIter it a i) (ht : h.IsTuple a items) : a ≠ it := by
  rintro rfl
  obtain ⟨o, e1, e2, _⟩ := ht
  obtain ⟨o', e3, e4, _⟩ := hi
  rw [e1] at e3
  cases e3
  rw [e2] at e4
  exact absurd (Value.type.inj e4) (by decide)
theorem turn_enumT {P : Program} {w : World} {K : PySem.W.Frag} {elts : List Expr} {kk : Nat} {tpos : Pos} (a e it : Addr) :
    Turn P w K (.Tuple elts kk tpos) (IteT K a) [e, it] e (fun i h => (∃ old, IsEnum h e it ((i : Nat) : Int) old) ∧ h.IsTupleIter it a i ∧ e ≠ it) where
  mem := by simp
  obj := fun i h st b hb => by
    obtain ⟨⟨old, he⟩, ⟨o, ho, hc, hd⟩, _⟩ := st
    have e' : b = e ∨ b = it := by simpa using hb
    rcases e' with z | z
    · rw [z]; exact ⟨_, he, fun v q => nomatch q⟩
    · rw [z]; exact ⟨o, ho, fun v q => by rw [hd] at q; cases q⟩
  keep := fun i h h' st k => let ⟨⟨old, he⟩, hi, hne⟩ := st; ⟨⟨old, k e (by simp) _ he⟩, hi.at fun o q => k it (by simp) o q, hne⟩
  item := by
    intro X hP hw hK hc i pins s σ H E I hf st hg
    subst hP hw hK
    obtain ⟨⟨old, he⟩, hit, hne⟩ := st
    obtain ⟨xs, x, hq, hx⟩ := hg
    obtain ⟨its, rv, p, hz⟩ := I.tuple hq
    have pt : s.heap.IsTuple a its.toArray := p
    obtain ⟨u, hu, ru⟩ := rv.get hx
    have hel : e < s.heap.objs.size := Heap.lt_size he
    have hil : it < s.heap.objs.size := by obtain ⟨_, q, _⟩ := hit; exact Heap.lt_size q
    have ane := en_ne he pt
    have ait := ti_ne hit pt
    have hlt : i < its.toArray.size := by rw [List.size_toArray]; exact (List.getElem?_eq_some_iff.mp hu).1
    refine wpAny_pyNext_enum_itemD (Draws.tuple (A := X.A.in1) (show X.A.in1.handled = none from I.ok.hd hc) it a ait its.toArray) he ⟨hit, pt⟩ hlt hne (by simp [hne, Ne.symm ane]) fun x' h' tk hP ho hs' hT hsz hk => ?_
    have ex : x' = u := by
      have z : its[i]? = some x' := by simpa using hP
      rw [hu] at z
      exact (Option.some.inj z).symm
    subst ex
    refine ⟨_, rfl, wpAny_letOwnedTupleGo_enum (s := { s with heap := h', toks := tk + 1 }) ho fun h'' he' sb => ?_⟩
    have hT2 : h''.get? s.heap.objs.size = some { cls := .type "tuple", data := .seq #[.int i tk, x'] } := (sb.2 _ (Nat.ne_of_gt hel)).trans hT
    have new : ObjOk X.prog X.w (upd H s.heap.objs.size (.tup [.int (i : Nat), x])) h'' s.heap.objs.size (.tup [.int (i : Nat), x]) :=
      ⟨by show 2 ≤ sizeLine; decide, [.int i tk, x'], .cons ⟨_, rfl⟩ (.cons ru .nil), ⟨_, hT2, rfl, _, rfl⟩⟩
    have I1 : Inv X pins σ (upd H s.heap.objs.size (.tup [.int (i : Nat), x])) { s with heap := h'', toks := tk + 1 } :=
      I.turnedNew (ch := [e, it]) (fun b ob hb q => (sb.2 b (fun z => hb (by simp [z]))).trans (hk b ob (fun z => hb (by simp [z])) (fun z => hb (by simp [z])) q)) hf (Nat.le_refl _) new
    refine ⟨.ref s.heap.objs.size, _, I1, rfl, ⟨_, x, rfl, I.hok.fresh (Nat.le_refl _), rfl, fun ys hy => by rw [I.tuple_inj hy hq]; exact hx⟩, ⟨⟨x', ?_⟩, hs'.1.at fun o q => (sb.2 it (Ne.symm hne)).trans q, hne⟩, fun b hb => ?_⟩
    · rw [show ((i + 1 : Nat) : Int) = (i : Int) + 1 by omega]; exact he'
    · have hb' : b < s.heap.objs.size := by
        have e' : b = e ∨ b = it := by simpa using hb
        rcases e' with z | z
        · rw [z]; exact hel
        · rw [z]; exact hil
      rw [upd_ne (Nat.ne_of_lt hb')]
      exact (hf b hb).1
  done := by
    intro X hP hw hK hc i pins s σ H E I hf st hg
    subst hP hw hK
    obtain ⟨⟨old, he⟩, hit, hne⟩ := st
    obtain ⟨xs, hq, hx⟩ := hg
    obtain ⟨its, rv, p, hz⟩ := I.tuple hq
    have pt : s.heap.IsTuple a its.toArray := p
    obtain ⟨f0, f1, f2, f3, f4, f5⟩ := hf it (by simp)
    have ait := ti_ne hit pt
    have D : Draws X.prog X.w X.A.in1 it [it, a] i (fun j v => its.toArray[j]? = some v) (fun j h => (j = i → h.IsTupleIter it a i) ∧ (j < i → False) ∧ h.IsTuple a its.toArray ∧ h.IsTupleIter it a i) :=
      { live := fun j h st => let ⟨o, ho, _⟩ := st.2.2.2; ⟨o, ho⟩
        frame := fun j h h' st k => ⟨fun q => (st.1 q).at fun o e => k it (by simp) o e, st.2.1, st.2.2.1.at fun o e => k a (by simp) o e, st.2.2.2.at fun o e => k it (by simp) o e⟩
        item := fun j s Q E hj st _ => (st.2.1 hj).elim
        done := fun s Q E st hE => wpAny_nextOf_tuple_end (show X.A.in1.handled = none from I.ok.hd hc) st.2.2.2 st.2.2.1 (by have hl := rv.length; simp; omega) hE }
    exact wpAny_pyNext_enum_endD D he ⟨fun _ => hit, fun z => absurd z (Nat.lt_irrefl _), pt, hit⟩ fun h' eb => ⟨rfl, I.turned (t' := s.toks) (fun b o hb q => eb b o hb q) f0 f1 f3 f4 f5⟩
  self := fun A i s Q E st h => let ⟨⟨_, he⟩, _⟩ := st; wpAny_pyIter_enum he h
def iEnA (K : PySem.W.Frag) (ta : TA) : TI := fun σ H R => ta σ H fun vs H1 => ∃ a, vs = [.ref a] ∧ (((∃ xs, SqL K H1 a xs) ∧ R (Ite K a) H1) ∨ ((∃ xs, SqT K H1 a xs) ∧ R (IteT K a) H1))
theorem pi_enA {X : Cx} {e : Expr} {ta : TA} {p pos tpos : Pos} {elts : List Expr} {kk : Nat} (hg : Gl X "enumerate") (hm : X.mg "enumerate" = none) (ha : PA X [e] ta) (hs : starEach [e] X.env = [(false, eval e X.env)]) :
    PI X (.Tuple elts kk tpos) (.Call (.Name "enumerate" p) [e] [] pos) (iEnA X.K ta) := by
  refine ⟨fun pins s σ H R I h => ?_⟩
  refine Call_ (ld_blt I hg hm boot_enumerate (PyProof.Rows.callWith_type1 (thn (ha.run pos pins s σ H _ I h) fun us s1 ⟨vs, H1, I1, r1, q1⟩ => ?_) hs rfl))
  obtain ⟨a, ex, q⟩ := q1
  subst ex
  cases r1 with
  | cons r rr =>
    cases rr
    cases r
    have out : ∀ b ∈ [s1.heap.objs.size + 1, s1.heap.objs.size], s1.heap.objs.size ≤ b := fun b hb => by
      have e' : b = s1.heap.objs.size + 1 ∨ b = s1.heap.objs.size := by simpa using hb
      rcases e' with z | z <;> rw [z] <;> omega
    rcases q with ⟨⟨xs, hq⟩, q⟩ | ⟨⟨xs, hq⟩, q⟩
    · obtain ⟨its, rv, p', hz⟩ := I1.list hq
      refine call_enumerate_list p'.isList fun h' he hit hsz hk => wpAny_pyIter_enum he ?_
      exact ⟨s1.heap.objs.size + 1, [s1.heap.objs.size + 1, s1.heap.objs.size], _, _, H1, rfl, I1.kept (t' := s1.toks) hk, turn_enum a (s1.heap.objs.size + 1) s1.heap.objs.size, ⟨⟨.none, he⟩, hit, Nat.succ_ne_self _⟩, fun b hb => I1.fpOk (out b hb) (I1.hok.fresh (out b hb)), q⟩
    · obtain ⟨its, rv, p', hz⟩ := I1.tuple hq
      refine en1_call (begins_tuple a its.toArray) (show s1.heap.IsTuple a its.toArray from p') fun h' he hob hsz hk => wpAny_pyIter_enum he ?_
      exact ⟨s1.heap.objs.size + 1, [s1.heap.objs.size + 1, s1.heap.objs.size], _, _, H1, rfl, I1.kept (t' := s1.toks) hk, turn_enumT a (s1.heap.objs.size + 1) s1.heap.objs.size, ⟨⟨.none, he⟩, ⟨_, hob, rfl, rfl⟩, Nat.succ_ne_self _⟩, fun b hb => I1.fpOk (out b hb) (I1.hok.fresh (out b hb)), q⟩
section
variable [HW] {K : PySem.W.Frag} {A : Nat → Option Addr} {σ : Sg} {ρ : Env} {H : Hp} {F : Addr → Prop} {Pn : List (Addr × W)}
theorem itg_enuT (hs : SRel K A σ ρ H F Pn) {a : Addr} {us : List V} {ws : List W} (r : SqT K H a us) (hr : HRs K H F us ws) : ItG K σ ρ H F (IteT K a) (enuL 0 ws) where
  go := fun i H2 F2 σ2 ρ2 st hi => by
    have hl := hr.length
    rw [enu_len] at hi
    exact ⟨us, us[i]'(by omega), st.sqt hs a us r, by simp⟩
  yl := fun i H2 F2 σ2 ρ2 x H' st hi y => by
    obtain ⟨T, x', rfl, hT, rfl, y⟩ := y
    obtain ⟨w, e, q⟩ := (st.hrs hs hr).getV (y us (st.sqt hs a us r))
    exact ⟨_, by have := enu_get 0 ws i w e; simpa using this, two_new hT (.int _) q⟩
  st := fun i H2 F2 σ2 ρ2 st hi => ⟨us, st.sqt hs a us r, by rw [hr.length]; rw [enu_len] at hi; exact hi⟩
end
end Py

/-! Walks of a dict: its keys, its values, its pairs. -/
namespace Py
open PySem PySem.Spec PyProof.Rows L2
variable [HW]
/-- the dict as it stands -/
theorem dc_at {X : Cx} {pins : List (Addr × Obj)} {s : Shared} {σ : Sg} {H : Hp} (I : Inv X pins σ H s) {a : Addr} {es : DEs} {ep : Nat} (hH : H a = some (dcO a es ep)) :
    (a == sysModules) = false ∧ ∃ o l, s.heap.get? a = some o ∧ o.ExactDict ∧ o.data = .dict l ep ∧ EntR es l.toList ∧ l.size = es.length := by
  obtain ⟨⟨h1, o, l, h2, h3, h4, h5⟩, _⟩ := I.hok a _ hH
  exact ⟨h1, o, l, h2, h3, h4, h5, by rw [← h5.length, Array.length_toList]⟩
theorem EntR.at {es : DEs} {l : List DictEntry} (h : EntR es l) : ∀ {i : Nat} {k : NestedKey} {x v : V}, es[i]? = some (k, x, v) → ∃ e, l[i]? = some e ∧ RelV x e.key ∧ RelV v e.val := by
  induction h with
  | nil => intro i k x v e; simp at e
  | cons a b _ ih =>
    intro i k x v e
    cases i with
    | zero => simp at e; obtain ⟨_, rfl, rfl⟩ := e; exact ⟨_, rfl, a, b⟩
    | succ i => simpa using ih (by simpa using e)
def ItDk (d : Addr) (es : DEs) (ep : Nat) : It :=
  ⟨fun i H => H d = some (dcO d es ep) ∧ i < es.length, fun i H x H' => H' = H ∧ ∃ k v, es[i]? = some (k, x, v), fun i H => H d = some (dcO d es ep) ∧ es.length ≤ i⟩
def ItDv (d : Addr) (es : DEs) (ep : Nat) : It :=
  ⟨fun i H => H d = some (dcO d es ep) ∧ i < es.length, fun i H x H' => H' = H ∧ ∃ k y, es[i]? = some (k, y, x), fun i H => H d = some (dcO d es ep) ∧ es.length ≤ i⟩
def ItDi (d : Addr) (es : DEs) (ep : Nat) : It :=
  ⟨fun i H => H d = some (dcO d es ep) ∧ i < es.length, fun i H x H' => ∃ T k y v, es[i]? = some (k, y, v) ∧ x = .ref T ∧ H T = none ∧ H' = upd H T (.tup [y, v]), fun i H => H d = some (dcO d es ep) ∧ es.length ≤ i⟩
section
variable {P : Program} {w : World} {K : PySem.W.Frag} {tg : Expr} {d : Addr} {es : DEs} {ep : Nat}
theorem turn_dk (it : Addr) : Turn P w K tg (ItDk d es ep) [it] it (fun i h => h.IsKeyIter it d i es.length ep) where
  mem := by simp
  obj := fun i h st b hb => by
    have e : b = it := by simpa using hb
    subst e
    obtain ⟨oi, e, c, dd⟩ := st
    exact ⟨oi, e, fun v z => by rw [dd] at z; cases z⟩
  keep := fun i h h' st k => st.at fun oi e => k it (by simp) oi e
  item := by
    intro X hP hw hK hc i pins s σ H E I hf st hg
    subst hP hw hK
    obtain ⟨hd, hi⟩ := hg
    obtain ⟨f0, f1, f2, f3, f4, f5⟩ := hf it (by simp)
    obtain ⟨hs, o, l, h2, h3, h4, h5, h6⟩ := dc_at I hd
    obtain ⟨⟨k, x, v⟩, hkv⟩ : ∃ p, es[i]? = some p := ⟨es[i], List.getElem?_eq_getElem hi⟩
    obtain ⟨en, hen, hkey, _⟩ := h5.at hkv
    refine next_key_item st h2 h4 h6 (by rw [← Array.getElem?_toList]; exact hen) fun h' st' sb => ?_
    have I1 : Inv X pins σ H { s with heap := h' } := I.turned (t' := s.toks) (fun b ob hb e => (sb.2 b hb).trans e) f0 f1 f3 f4 f5
    obtain ⟨oi, e, c, dd⟩ := id st'
    exact ⟨en.key, rfl, go_of (s := { s with heap := h' }) e c dd (by decide) ⟨x, H, I1, hkey, ⟨rfl, k, v, hkv⟩, st', fun b hb => (hf b hb).1⟩⟩
  done := by
    intro X hP hw hK hc i pins s σ H E I hf st hg
    subst hP hw hK
    obtain ⟨hd, hi⟩ := hg
    obtain ⟨f0, f1, f2, f3, f4, f5⟩ := hf it (by simp)
    obtain ⟨hs, o, l, h2, h3, h4, h5, h6⟩ := dc_at I hd
    exact next_key_end (I.ok.hd hc) st h2 h4 h6 hi fun h' eb => ⟨rfl, I.turned (t' := s.toks) (fun b ob hb e => eb b ob hb e) f0 f1 f3 f4 f5⟩
  self := fun A i s Q E st h => by
    refine wpAny_pyIter_slot st.typeIs F.slot_dict_keyiterator_iter (wpAny_call_entry F.slot_dict_keyiterator_iter st.typeIs F.entry_dict_keyiterator_iter ?_ (F.args_dict_keyiterator_iter_1 _))
    show wpAny _ _ (ret (.ref it)) _ _ s
    exact wpAny_pure ⟨_, rfl, "dict_keyiterator", _, st.typeIs, F.slot_dict_keyiterator_next.lookup, h⟩
theorem turn_di {elts : List Expr} {kk : Nat} {tpos : Pos} (it : Addr) :
    Turn P w K (.Tuple elts kk tpos) (ItDi d es ep) [it] it (fun i h => ∃ ok ov, IsItemIter h it d i es.length ep ok ov) where
  mem := by simp
  obj := fun i h st b hb => by
    have e : b = it := by simpa using hb
    subst e
    obtain ⟨ok, ov, e⟩ := st
    exact ⟨_, e, fun v z => nomatch z⟩
  keep := fun i h h' st k => let ⟨ok, ov, e⟩ := st; ⟨ok, ov, k it (by simp) _ e⟩
  item := by
    intro X hP hw hK hc i pins s σ H E I hf st hg
    subst hP hw hK
    obtain ⟨hd, hi⟩ := hg
    obtain ⟨hs, o, l, h2, h3, h4, h5, h6⟩ := dc_at I hd
    obtain ⟨⟨k, x, v⟩, hkv⟩ : ∃ p, es[i]? = some p := ⟨es[i], List.getElem?_eq_getElem hi⟩
    obtain ⟨en, hen, hkey, hval⟩ := h5.at hkv
    obtain ⟨ok, ov, he⟩ := st
    rw [← h6] at he
    have hlt : it < s.heap.objs.size := Heap.lt_size he
    have hi' : i < l.size := by rw [h6]; exact hi
    have hen' : l[i] = en := by
      have : l[i]? = some en := by rw [← Array.getElem?_toList]; exact hen
      rw [Array.getElem?_eq_getElem hi'] at this
      exact Option.some.inj this
    refine wpAny_pyNext_items_item_raw he ⟨o, h2, h3, h4⟩ hi' fun h' ho hT hz hk => ?_
    refine ⟨_, rfl, wpAny_letOwnedTupleGo_items (s := { s with heap := h' }) ho fun h'' he' sb => ?_⟩
    rw [hen'] at hT he'
    have hT2 : h''.get? s.heap.objs.size = some { cls := .type "tuple", data := .seq #[en.key, en.val] } := (sb.2 _ (Nat.ne_of_gt hlt)).trans hT
    have new : ObjOk X.prog X.w (upd H s.heap.objs.size (.tup [x, v])) h'' s.heap.objs.size (.tup [x, v]) :=
      ⟨by show 2 ≤ sizeLine; decide, [en.key, en.val], .cons hkey (.cons hval .nil), ⟨_, hT2, rfl, _, rfl⟩⟩
    have I1 : Inv X pins σ (upd H s.heap.objs.size (.tup [x, v])) { s with heap := h'' } :=
      I.turnedNew (t' := s.toks) (ch := [it]) (fun b ob hb e => (sb.2 b (by simpa using hb)).trans (hk b ob (by simpa using hb) e)) hf (Nat.le_refl _) new
    refine ⟨.ref s.heap.objs.size, _, I1, rfl, ⟨_, k, x, v, hkv, rfl, I.hok.fresh (Nat.le_refl _), rfl⟩, ⟨en.key, en.val, ?_⟩, fun b hb => ?_⟩
    · rw [← h6]; exact he'
    · have e : b = it := by simpa using hb
      rw [e, upd_ne (Nat.ne_of_lt hlt)]
      exact (hf it (by simp)).1
  done := by
    intro X hP hw hK hc i pins s σ H E I hf st hg
    subst hP hw hK
    obtain ⟨hd, hi⟩ := hg
    obtain ⟨f0, f1, f2, f3, f4, f5⟩ := hf it (by simp)
    obtain ⟨hs, o, l, h2, h3, h4, h5, h6⟩ := dc_at I hd
    obtain ⟨ok, ov, he⟩ := st
    rw [← h6] at he
    exact wpAny_pyNext_items_end_raw (I.ok.hd hc) he ⟨o, h2, h3, h4⟩ (by omega) fun h' eb => ⟨rfl, I.turned (t' := s.toks) (fun b ob hb e => eb b ob hb e) f0 f1 f3 f4 f5⟩
  self := fun A i s Q E st h => let ⟨_, _, e⟩ := st; PySem.W.kcp_self e h
theorem turn_dv (it : Addr) : Turn P w K tg (ItDv d es ep) [it] it (fun i h => h.IsValIter it d i es.length ep) where
  mem := by simp
  obj := fun i h st b hb => by
    have e : b = it := by simpa using hb
    subst e
    obtain ⟨oi, e, c, dd⟩ := st
    exact ⟨oi, e, fun v z => by rw [dd] at z; cases z⟩
  keep := fun i h h' st k => st.at fun oi e => k it (by simp) oi e
  item := by
    intro X hP hw hK hc i pins s σ H E I hf st hg
    subst hP hw hK
    obtain ⟨hd, hi⟩ := hg
    obtain ⟨f0, f1, f2, f3, f4, f5⟩ := hf it (by simp)
    obtain ⟨hs, o, l, h2, h3, h4, h5, h6⟩ := dc_at I hd
    obtain ⟨⟨k, x, v⟩, hkv⟩ : ∃ p, es[i]? = some p := ⟨es[i], List.getElem?_eq_getElem hi⟩
    obtain ⟨en, hen, _, hval⟩ := h5.at hkv
    rw [← h6] at st
    have hi' : i < l.size := by rw [h6]; exact hi
    have hen' : l[i] = en := by
      have : l[i]? = some en := by rw [← Array.getElem?_toList]; exact hen
      rw [Array.getElem?_eq_getElem hi'] at this
      exact Option.some.inj this
    refine wpAny_pyNext_values_item_raw st ⟨o, h2, h3, h4⟩ hi' fun h' st' sb => ?_
    have I1 : Inv X pins σ H { s with heap := h' } := I.turned (t' := s.toks) (fun b ob hb e => (sb.2 b hb).trans e) f0 f1 f3 f4 f5
    obtain ⟨oi, e, c, dd⟩ := id st'
    rw [hen']
    refine ⟨en.val, rfl, go_of (s := { s with heap := h' }) e c dd (by decide) ⟨v, H, I1, hval, ⟨rfl, k, x, hkv⟩, ?_, fun b hb => (hf b hb).1⟩⟩
    show h'.IsValIter it d (i + 1) es.length _
    rw [← h6]
    exact st'
  done := by
    intro X hP hw hK hc i pins s σ H E I hf st hg
    subst hP hw hK
    obtain ⟨hd, hi⟩ := hg
    obtain ⟨f0, f1, f2, f3, f4, f5⟩ := hf it (by simp)
    obtain ⟨hs, o, l, h2, h3, h4, h5, h6⟩ := dc_at I hd
    rw [← h6] at st
    exact wpAny_pyNext_values_end_raw (I.ok.hd hc) st ⟨o, h2, h3, h4⟩ (by omega) fun h' eb => ⟨rfl, I.turned (t' := s.toks) (fun b ob hb e => eb b ob hb e) f0 f1 f3 f4 f5⟩
  self := fun A i s Q E st h => wpAny_pyIter_valiter st h
end
def iDk (td : TE) : TI := fun σ H R => td σ H fun x H1 => ∃ d es ep, x = .ref d ∧ H1 d = some (dcO d es ep) ∧ R (ItDk d es ep) H1
def iDi (td : TE) : TI := fun σ H R => td σ H fun x H1 => ∃ d es ep, x = .ref d ∧ H1 d = some (dcO d es ep) ∧ R (ItDi d es ep) H1
def iDv (td : TE) : TI := fun σ H R => td σ H fun x H1 => ∃ d es ep, x = .ref d ∧ H1 d = some (dcO d es ep) ∧ R (ItDv d es ep) H1
section
variable {X : Cx} {tg e : Expr} {td : TE} {apos cpos : Pos}
theorem dc_type {s : Shared} {d : Addr} {o : Obj} (h2 : s.heap.get? d = some o) (h3 : o.ExactDict) : s.TypeIs (.ref d) "dict" ∧ ∀ b, Value.ref d = .ref b → ∃ ob, s.heap.get? b = some ob ∧ ob.dict = none :=
  ⟨⟨o, h2, h3.1⟩, fun b q => by cases q; exact ⟨o, h2, h3.2.1⟩⟩
theorem pi_di {elts : List Expr} {kk : Nat} {tpos : Pos} (he : PE X e td) (hbase : attributeBase e "items" X.env (eval e X.env) = eval e X.env) (hline : (apos.endLine == cpos.line) = true) :
    PI X (.Tuple elts kk tpos) (.Call (.Attribute e "items" apos) [] [] cpos) (iDi td) := by
  refine ⟨fun pins s σ H R I h => ?_⟩
  refine wpAny_Call_method (T := "dict") (id := "dict.items") hbase rfl hline F.plainAttrs_dict F.slot_dict_items F.type_dict_items (thn (he.run pins s σ H _ I h) fun u s1 ⟨x, H1, I1, rx, d, es, ep, ex, hd, q⟩ => ?_)
  subst ex
  obtain rfl : u = Value.ref d := rx
  obtain ⟨hs, o, l, h2, h3, h4, h5, h6⟩ := dc_at I1 hd
  refine ⟨(dc_type h2 h3).1, (dc_type h2 h3).2, ?_⟩
  have I2 : Inv X pins σ H1 { s1 with heap := s1.heap.push { cls := .type "dict_items", data := .fields #[.ref d] } } := I1.kept (t' := s1.toks) fun b ob q => Heap.get?_push_of_some _ q
  have fin : wpAny (model X.prog X.w) X.A (pyIter (.ref s1.heap.objs.size)) (PIE X pins σ (.Tuple elts kk tpos) R) X.xe { s1 with heap := s1.heap.push { cls := .type "dict_items", data := .fields #[.ref d] } } := by
    refine wpAny_pyIter_items_raw (d := d) ⟨_, Heap.get?_push_size _ rfl, rfl, rfl⟩ ⟨o, Heap.get?_push_of_some _ h2, h3, h4⟩ (pi_one (tk := s1.toks) I2 _ (turn_di _) ⟨.none, .none, ?_⟩ q)
    rw [h6]
    exact Heap.get?_push_size _ rfl
  show wpAny _ _ (callWith cpos (.builtin "dict.items") [.ref d] [] []) _ X.xe s1
  exact method_meetsIn F.slot_dict_items F.entry_dict_items rfl (PySem.evalArgs_none ⟨rfl, (dc_type h2 h3).1, F.args_dict_items_1 _, _, meets_dict_items_raw d hs, ⟨l, ep, o, h2, h3, h4⟩, fin⟩)
theorem pi_dv (he : PE X e td) (hbase : attributeBase e "values" X.env (eval e X.env) = eval e X.env) (hline : (apos.endLine == cpos.line) = true) :
    PI X tg (.Call (.Attribute e "values" apos) [] [] cpos) (iDv td) := by
  refine ⟨fun pins s σ H R I h => ?_⟩
  refine wpAny_Call_method (T := "dict") (id := "dict.values") hbase rfl hline F.plainAttrs_dict F.slot_dict_values F.type_dict_values (thn (he.run pins s σ H _ I h) fun u s1 ⟨x, H1, I1, rx, d, es, ep, ex, hd, q⟩ => ?_)
  subst ex
  obtain rfl : u = Value.ref d := rx
  obtain ⟨hs, o, l, h2, h3, h4, h5, h6⟩ := dc_at I1 hd
  refine ⟨(dc_type h2 h3).1, (dc_type h2 h3).2, ?_⟩
  have I2 : Inv X pins σ H1 { s1 with heap := s1.heap.push { cls := .type "dict_values", data := .fields #[.ref d] } } := I1.kept (t' := s1.toks) fun b ob q => Heap.get?_push_of_some _ q
  have fin : wpAny (model X.prog X.w) X.A (pyIter (.ref s1.heap.objs.size)) (PIE X pins σ tg R) X.xe { s1 with heap := s1.heap.push { cls := .type "dict_values", data := .fields #[.ref d] } } := by
    refine wpAny_pyIter_values_raw (d := d) ⟨_, Heap.get?_push_size _ rfl, rfl, rfl⟩ ⟨o, Heap.get?_push_of_some _ h2, h3, h4⟩ (pi_one (tk := s1.toks) I2 _ (turn_dv _) ⟨_, Heap.get?_push_size _ rfl, rfl, ?_⟩ q)
    rw [h6] <;> rfl
  show wpAny _ _ (callWith cpos (.builtin "dict.values") [.ref d] [] []) _ X.xe s1
  exact method_meetsIn F.slot_dict_values F.entry_dict_values rfl (PySem.evalArgs_none ⟨rfl, (dc_type h2 h3).1, F.args_dict_values_1 _, _, meets_dict_values_raw d hs, ⟨l, ep, o, h2, h3, h4⟩, fin⟩)
end
section
variable {K : PySem.W.Frag} {A : Nat → Option Addr} {σ : Sg} {ρ : Env} {H : Hp} {F : Addr → Prop} {Pn : List (Addr × W)}
theorem DRel.getV {es : DEs} {kvs : List (W × W)} (h : DRel K H F es kvs) : ∀ {i : Nat} {k : NestedKey} {x v : V}, es[i]? = some (k, x, v) → ∃ a b, kvs[i]? = some (a, b) ∧ HR K H F x a ∧ HR K H F v b := by
  induction h with
  | nil => intro i k x v e; simp at e
  | cons a b c d _ ih =>
    intro i k x v e
    cases i with
    | zero => simp at e; obtain ⟨_, rfl, rfl⟩ := e; exact ⟨_, _, rfl, c, d⟩
    | succ i => simpa using ih (by simpa using e)
  | consI d _ ih =>
    intro i k x v e
    cases i with
    | zero => simp at e; obtain ⟨_, rfl, rfl⟩ := e; exact ⟨_, _, rfl, .int _, d⟩
    | succ i => simpa using ih (by simpa using e)
theorem itg_dk (hs : SRel K A σ ρ H F Pn) {a : Addr} {es : DEs} {ep : Nat} {kvs : List (W × W)} (r : H a = some (dcO a es ep)) (n : ¬ Om σ ρ a) (hr : DRel K H F es kvs) : ItG K σ ρ H F (ItDk a es ep) (kvs.map (·.1)) where
  go := fun i H2 F2 σ2 ρ2 st hi => ⟨st.kp _ _ r n, by rw [hr.length]; simpa using hi⟩
  yl := fun i H2 F2 σ2 ρ2 x H' st hi y => by
    obtain ⟨rfl, k, v, e⟩ := y
    obtain ⟨a, b, e1, e2, e3⟩ := (st.drel hs hr).getV e
    exact ⟨a, by simp [e1], .old e2⟩
  st := fun i H2 F2 σ2 ρ2 st hi => ⟨st.kp _ _ r n, by rw [hr.length]; simpa using hi⟩
theorem itg_dv (hs : SRel K A σ ρ H F Pn) {a : Addr} {es : DEs} {ep : Nat} {kvs : List (W × W)} (r : H a = some (dcO a es ep)) (n : ¬ Om σ ρ a) (hr : DRel K H F es kvs) : ItG K σ ρ H F (ItDv a es ep) (kvs.map (·.2)) where
  go := fun i H2 F2 σ2 ρ2 st hi => ⟨st.kp _ _ r n, by rw [hr.length]; simpa using hi⟩
  yl := fun i H2 F2 σ2 ρ2 x H' st hi y => by
    obtain ⟨rfl, k, v, e⟩ := y
    obtain ⟨a, b, e1, e2, e3⟩ := (st.drel hs hr).getV e
    exact ⟨b, by simp [e1], .old e3⟩
  st := fun i H2 F2 σ2 ρ2 st hi => ⟨st.kp _ _ r n, by rw [hr.length]; simpa using hi⟩
def itmL (kvs : List (W × W)) : List W := kvs.map fun p => .tup [p.1, p.2]
theorem itg_di (hs : SRel K A σ ρ H F Pn) {a : Addr} {es : DEs} {ep : Nat} {kvs : List (W × W)} (r : H a = some (dcO a es ep)) (n : ¬ Om σ ρ a) (hr : DRel K H F es kvs) : ItG K σ ρ H F (ItDi a es ep) (itmL kvs) where
  go := fun i H2 F2 σ2 ρ2 st hi => ⟨st.kp _ _ r n, by rw [hr.length]; simpa [itmL] using hi⟩
  yl := fun i H2 F2 σ2 ρ2 x H' st hi y => by
    obtain ⟨T, k, y, v, e, rfl, hT, rfl⟩ := y
    obtain ⟨a, b, e1, e2, e3⟩ := (st.drel hs hr).getV e
    exact ⟨.tup [a, b], by simp [itmL, e1], two_new hT e2 e3⟩
  st := fun i H2 F2 σ2 ρ2 st hi => ⟨st.kp _ _ r n, by rw [hr.length]; simpa [itmL] using hi⟩
/-- the dict of an argument that is walked: it stands still while the names are locked -/
theorem arg_dict (hs : SRel K A σ ρ H F Pn) {as : List Arg} {u : Arg} {v : V} {kvs : List (W × W)} (hm : u ∈ as) (hp : ∀ p ∈ pnd u v, p ∈ Pn) (ar : AR K σ H F u v) (e : res ρ u = some (.dct kvs)) :
    ∃ a es ep, v = .ref a ∧ H a = some (dcO a es ep) ∧ es.length ≤ szL ∧ (es.map (·.1)).Nodup ∧ DRel K H F es kvs ∧ ¬ Om σ (lkE ρ as) a := by
  obtain ⟨l1, l2, l3, l4⟩ := lk_ok (as := as) hs
  cases u with
  | val w fr =>
    obtain rfl : w = .dct kvs := Option.some.inj e
    cases fr with
    | false => have ar : HR K H F v (.dct kvs) := ar; cases ar
    | true =>
      obtain ⟨c, rfl⟩ := ar
      obtain ⟨x, ⟨es, ⟨ep, y1⟩, y2, y3, y4⟩, z⟩ := hs.pn (c, .dct kvs) (hp _ (by simp [pnd]))
      refine ⟨c, es, ep, rfl, y1, y2, y3, y4, fun o => ?_⟩
      obtain ⟨i, s⟩ := (l3 c o).sl
      exact z i s
  | slot i =>
    simp only [res] at e
    cases q : wOf ρ i with
    | none => rw [q] at e; cases e
    | some x =>
      rw [q] at e
      obtain ⟨w, f⟩ := x
      obtain rfl : w = .dct kvs := Option.some.inj e
      have q' := wOf_eq.mp q
      have ar' : σ[i]? = some (some v) := ar
      by_cases hf : f = .sh
      · subst hf
        obtain ⟨v', a, b⟩ := hs.sh i _ q'
        cases b
      · obtain ⟨c, ec, nF, es, ⟨ep, y1⟩, y2, y3, y4⟩ := hs.ow i _ f q' hf
        rw [ar'] at ec; cases ec
        exact ⟨c, es, ep, rfl, y1, y2, y3, y4, l4 i c hm ⟨_, f, q', hf, ar'⟩⟩
end
end Py

namespace Py
open PySem PySem.Spec PyProof.Rows L2
variable [HW]

theorem PkRs.length {K : PySem.W.Frag} {H : Hp} {F : Addr → Prop} {vs : List V} {ws : List W} (h : PkRs K H F vs ws) : vs.length = ws.length := by
  induction h with
  | nil => rfl
  | cons _ _ ih => simp [ih]
/-- what a loop walks -/
def tI (c : Cf) (k : IK) (es : E) : TI := fun σ H R => ∃ A ρ F Pn, SRel c.K A σ ρ H F Pn ∧ OkX ((ev c.C es).a ρ) (fun us ρ1 => ∃ its, (ress ρ1 us).bind (itW k) = some its ∧
  ∀ J vs H1 F1, Md c A σ ρ H F Pn us vs ρ1 H1 F1 → ItG c.K σ (lkE ρ1 us) H1 F1 J its → R J H1) (EX c A σ ρ H F Pn)
section
variable {X : Cx} {c : Cf} {tg e : Expr} {ea eas : E} {pos p : Pos}
theorem piImp {t t' : TI} (h : PI X tg e t) (i : ∀ σ H R, t' σ H R → t σ H R) : PI X tg e t' := ⟨fun pins s σ H R I q => h.run pins s σ H R I (i σ H R q)⟩

/-- a list or a tuple, as it comes -/
theorem pi_seq {te : TE} (he : PE X e te) : PI X tg e (fun σ H R => te σ H fun y G => (∃ d, y = .ref d ∧ (∃ l, SqL X.K G d l) ∧ R (Itl X.K d) G) ∨ (∃ d, y = .ref d ∧ (∃ l, SqT X.K G d l) ∧ R (Itt X.K d) G) ∨ ∃ d es ep, y = .ref d ∧ G d = some (dcO d es ep) ∧ R (ItDk d es ep) G) := by
  refine ⟨fun pins s0 σ G0 R J0 hq => ?_⟩
  refine thn (he.run pins s0 σ G0 _ J0 hq) fun u s2 ⟨y, G, J, ry, hy⟩ => ?_
  have fresh : ∀ (o : Obj), ∀ b ∈ [s2.heap.objs.size], FpOk X pins G b := fun o b hb => by
    cases List.mem_singleton.mp hb
    exact J.fpOk (Nat.le_refl _) (J.hok.fresh (Nat.le_refl _))
  rcases hy with ⟨d, rfl, ⟨l, hl⟩, hR⟩ | ⟨d, rfl, ⟨l, hl⟩, hR⟩ | ⟨d, es, ep, rfl, hd, hR⟩
  · cases ry
    obtain ⟨us, rv, pl, hz⟩ := J.list hl
    refine wpAny_pyIter_list pl.isList ?_
    exact ⟨_, [s2.heap.objs.size], _, _, G, rfl, J.kept (t' := s2.toks) fun b o q => Heap.get?_push_of_some _ q, turn_list d s2.heap.objs.size, ⟨_, Heap.get?_push_size _ rfl, rfl, rfl⟩, fresh default, hR⟩
  · cases ry
    obtain ⟨us, rv, pt, hz⟩ := J.tuple hl
    refine wpAny_pyIter_tuple (show s2.heap.IsTuple d us.toArray from pt) ?_
    exact ⟨_, [s2.heap.objs.size], _, _, G, rfl, J.kept (t' := s2.toks) fun b o q => Heap.get?_push_of_some _ q, turn_tuple d s2.heap.objs.size, ⟨_, Heap.get?_push_size _ rfl, rfl, rfl⟩, fresh default, hR⟩
  · cases ry
    obtain ⟨hs, o, l, h2, h3, h4, h5, h6⟩ := dc_at J hd
    refine iter_keys hs h2 h3 h4 (pi_one (tk := s2.toks) J _ (turn_dk _) ⟨_, Heap.get?_push_size _ rfl, rfl, ?_⟩ hR)
    rw [h6] <;> rfl

theorem one_arg {A : Nat → Option Addr} {σ : Sg} {ρ : Env} {H : Hp} {F : Addr → Prop} {Pn : List (Addr × W)} {P : List Arg → Env → Prop} (hs : SRel c.K A σ ρ H F Pn) {R : VK} (h : OkX ((ev c.C (.cons ea .nil)).a ρ) P (EX c A σ ρ H F Pn))
    (fin : ∀ u v ρ1 H1 F1, Md c A σ ρ H F Pn [u] [v] ρ1 H1 F1 → P [u] ρ1 → R v H1) : tX c ea σ H R := by
  have h : OkX (((ev c.C ea).x ρ).bind fun u ρ1 => Out.ok [u] ρ1) P (EX c A σ ρ H F Pn) := h
  exact tX_ofG (.nil hs) h fun u v ρ1 H1 F1 m q => fin u v ρ1 H1 F1 m q
theorem seq_ok {w : W} {k : IK} {its : List W} {ρ : Env} {u : Arg} (e : (ress ρ [u]).bind (itW k) = some its) : ∃ w, res ρ u = some w ∧ itW k [w] = some its := by
  obtain ⟨ws, e1, e2⟩ := Option.bind_eq_some_iff.mp e
  simp only [ress] at e1
  cases q : res ρ u with
  | none => rw [q] at e1; simp at e1
  | some w =>
    rw [q] at e1
    obtain rfl : [w] = ws := by simpa using e1
    exact ⟨w, rfl, e2⟩
theorem i_seq (hc : c.K = X.K) (he : PE X e (tX c ea)) : PI X tg e (tI c .seq (.cons ea .nil)) := by
  refine piImp (pi_seq he) fun σ H R ⟨A, ρ, F, Pn, hs, q⟩ => ?_
  refine one_arg hs q fun u v ρ1 H1 F1 m ⟨its, e1, q1⟩ => ?_
  obtain ⟨w, e2, e3⟩ := seq_ok (w := .non) e1
  obtain ⟨_, e, p1⟩ := (m.pk (ress1 e2)).one
  cases e
  obtain ⟨l1, l2, l3, l4⟩ := lk_ok (as := [u]) m.sr
  rw [← hc]
  cases w <;> first | (cases e3; done) | skip
  · cases Option.some.inj e3
    obtain ⟨a, us, rfl, r, z, hr⟩ := p1.tup
    exact .inr (.inl ⟨a, rfl, ⟨us, r⟩, q1 _ _ H1 F1 m (itg_tup l1 r hr)⟩)
  · cases Option.some.inj e3
    have ar : AR c.K σ H1 F1 u v := by cases m.ar with | cons h _ => exact h
    obtain ⟨a, us, rfl, r, hr, n⟩ := arg_list m.sr (as := [u]) (by simp) (fun p hp => by simp [pnds, hp]) ar e2
    exact .inl ⟨a, rfl, ⟨us, .inl r⟩, q1 _ _ H1 F1 m (itg_list l1 r n hr)⟩
  · cases Option.some.inj e3
    have ar : AR c.K σ H1 F1 u v := by cases m.ar with | cons h _ => exact h
    obtain ⟨a, es, ep, rfl, r, _, _, hr, n⟩ := arg_dict m.sr (as := [u]) (by simp) (fun p hp => by simp [pnds, hp]) ar e2
    exact .inr (.inr ⟨a, es, ep, rfl, r, q1 _ _ H1 F1 m (itg_dk l1 r n hr)⟩)
theorem i_items {elts : List Expr} {kk : Nat} {tpos apos : Pos} (hc : c.K = X.K) (hb : ∀ id q r, e ≠ .Call (.Name id q) [] [] r) (hl : (apos.endLine == pos.line) = true) (he : PE X e (tX c ea)) :
    PI X (.Tuple elts kk tpos) (.Call (.Attribute e "items" apos) [] [] pos) (tI c .items (.cons ea .nil)) := by
  refine piImp (pi_di he (base_plain hb) hl) fun σ H R ⟨A, ρ, F, Pn, hs, q⟩ => ?_
  refine one_arg hs q fun u v ρ1 H1 F1 m ⟨its, e1, q1⟩ => ?_
  obtain ⟨w, e2, e3⟩ := seq_ok (w := .non) e1
  obtain ⟨l1, l2, l3, l4⟩ := lk_ok (as := [u]) m.sr
  cases w <;> first | (cases e3; done) | skip
  cases Option.some.inj e3
  have ar : AR c.K σ H1 F1 u v := by cases m.ar with | cons h _ => exact h
  obtain ⟨a, es, ep, rfl, r, _, _, hr, n⟩ := arg_dict m.sr (as := [u]) (by simp) (fun p hp => by simp [pnds, hp]) ar e2
  exact ⟨a, es, ep, rfl, r, q1 _ _ H1 F1 m (itg_di l1 r n hr)⟩
theorem i_vals {apos : Pos} (hc : c.K = X.K) (hb : ∀ id q r, e ≠ .Call (.Name id q) [] [] r) (hl : (apos.endLine == pos.line) = true) (he : PE X e (tX c ea)) :
    PI X tg (.Call (.Attribute e "values" apos) [] [] pos) (tI c .vals (.cons ea .nil)) := by
  refine piImp (pi_dv he (base_plain hb) hl) fun σ H R ⟨A, ρ, F, Pn, hs, q⟩ => ?_
  refine one_arg hs q fun u v ρ1 H1 F1 m ⟨its, e1, q1⟩ => ?_
  obtain ⟨w, e2, e3⟩ := seq_ok (w := .non) e1
  obtain ⟨l1, l2, l3, l4⟩ := lk_ok (as := [u]) m.sr
  cases w <;> first | (cases e3; done) | skip
  cases Option.some.inj e3
  have ar : AR c.K σ H1 F1 u v := by cases m.ar with | cons h _ => exact h
  obtain ⟨a, es, ep, rfl, r, _, _, hr, n⟩ := arg_dict m.sr (as := [u]) (by simp) (fun p hp => by simp [pnds, hp]) ar e2
  exact ⟨a, es, ep, rfl, r, q1 _ _ H1 F1 m (itg_dv l1 r n hr)⟩

/-- the arguments as they come -/
theorem all_args {A : Nat → Option Addr} {σ : Sg} {ρ : Env} {H : Hp} {F : Addr → Prop} {Pn : List (Addr × W)} {P : List Arg → Env → Prop} (hs : SRel c.K A σ ρ H F Pn) {R : List V → Hp → Prop} (h : OkX ((ev c.C eas).a ρ) P (EX c A σ ρ H F Pn))
    (fin : ∀ us vs ρ1 H1 F1, Md c A σ ρ H F Pn us vs ρ1 H1 F1 → P us ρ1 → R vs H1) : tXL c eas σ H R :=
  ⟨A, ρ, F, Pn, hs, h.mono (fun us ρ1 q vs H1 F1 st sr ar fr => fin us vs ρ1 H1 F1 ⟨st, sr, ar, fr⟩ q) fun _ _ _ e => e⟩
theorem okR_of {i : Int} (h : okR i = true) : -(2 ^ 62) ≤ i ∧ i < 2 ^ 62 := of_decide_eq_true h
theorem rngW1 {ws : List W} {its : List W} {j : Int} (e : ws = [.int j]) (h : rngW ws = some its) : okR j = true ∧ its = rngL j.toNat 0 := by
  subst e
  obtain ⟨a, b⟩ := of_if h
  exact ⟨a.1, b.symm⟩
theorem rngW2 {ws : List W} {its : List W} {i j : Int} (e : ws = [.int i, .int j]) (h : rngW ws = some its) : okR i = true ∧ okR j = true ∧ its = rngL (j - i).toNat i := by
  subst e
  obtain ⟨a, b⟩ := of_if h
  obtain ⟨a1, a2⟩ := Bool.and_eq_true_iff.mp a.1
  exact ⟨a1, a2, b.symm⟩
theorem i_rng1 {a : Expr} (hg : Gl X "range") (hm : X.mg "range" = none) (hp : plainE a = true) (ha : PA X [a] (tXL c eas)) (h1 : ∀ ρ us ρ1, (ev c.C eas).a ρ = .ok us ρ1 → us.length = 1) : PI X tg (.Call (.Name "range" p) [a] [] pos) (tI c .rng eas) := by
  refine piImp (pi_range1 hg hm ha (star_cons _ hp _)) fun σ H R ⟨A, ρ, F, Pn, hs, q⟩ => ?_
  have hl := h1 ρ
  cases e0 : (ev c.C eas).a ρ with
  | bad => rw [e0] at q; exact q.elim
  | ex x pl ρ1 =>
    refine ⟨A, ρ, F, Pn, hs, ?_⟩
    rw [e0] at q ⊢; exact q
  | ok us ρ1 =>
    have hl := hl us ρ1 e0
    refine ⟨A, ρ, F, Pn, hs, ?_⟩
    rw [e0] at q ⊢
    intro vs H1 F1 st sr ar fr
    obtain ⟨its, e1, q1⟩ := q
    obtain ⟨ws, e2, e3⟩ := Option.bind_eq_some_iff.mp e1
    have m : Md c A σ ρ H F Pn us vs ρ1 H1 F1 := ⟨st, sr, ar, fr⟩
    have pk := m.pk e2
    match ws, pk, e3 with
    | [.int j], pk, e3 =>
      obtain ⟨v, rfl, pv⟩ := pk.one
      obtain ⟨a1, rfl⟩ := rngW1 rfl e3
      obtain ⟨b1, b2⟩ := okR_of a1
      exact ⟨j, by rw [pv.int], b1, b2, q1 _ _ H1 F1 m itg_rng⟩
    | [.int i, .int j], pk, e3 =>
      obtain ⟨v, v', rfl, _, _⟩ := pk.two
      have := m.ar.len
      simp [hl] at this
    | [.int i, .int j, .int k], pk, e3 =>
      have := m.ar.len
      have l2 := pk.length
      simp [hl] at this
      simp [← this] at l2
theorem i_rng2 {a b : Expr} (hg : Gl X "range") (hm : X.mg "range" = none) (hp : plainE a = true) (hp2 : plainE b = true) (ha : PA X [a, b] (tXL c eas)) (h1 : ∀ ρ us ρ1, (ev c.C eas).a ρ = .ok us ρ1 → us.length = 2) : PI X tg (.Call (.Name "range" p) [a, b] [] pos) (tI c .rng eas) := by
  refine piImp (pi_range2 hg hm ha ((star_cons _ hp _).trans (by rw [star_cons _ hp2]; rfl)) (star_cons _ hp2 _)) fun σ H R ⟨A, ρ, F, Pn, hs, q⟩ => ?_
  have hl := h1 ρ
  cases e0 : (ev c.C eas).a ρ with
  | bad => rw [e0] at q; exact q.elim
  | ex x pl ρ1 =>
    refine ⟨A, ρ, F, Pn, hs, ?_⟩
    rw [e0] at q ⊢; exact q
  | ok us ρ1 =>
    have hl := hl us ρ1 e0
    refine ⟨A, ρ, F, Pn, hs, ?_⟩
    rw [e0] at q ⊢
    intro vs H1 F1 st sr ar fr
    obtain ⟨its, e1, q1⟩ := q
    obtain ⟨ws, e2, e3⟩ := Option.bind_eq_some_iff.mp e1
    have m : Md c A σ ρ H F Pn us vs ρ1 H1 F1 := ⟨st, sr, ar, fr⟩
    have pk := m.pk e2
    match ws, pk, e3 with
    | [.int i, .int j], pk, e3 =>
      obtain ⟨v, v', rfl, pv, pv'⟩ := pk.two
      obtain ⟨a1, a2, rfl⟩ := rngW2 rfl e3
      obtain ⟨b1, b2⟩ := okR_of a1
      obtain ⟨b3, b4⟩ := okR_of a2
      exact ⟨i, j, by rw [pv.int, pv'.int], ⟨b1, b2, b3, b4⟩, q1 _ _ H1 F1 m itg_rng⟩
    | [.int j], pk, e3 =>
      obtain ⟨v, rfl, _⟩ := pk.one
      have := m.ar.len
      simp [hl] at this
    | [.int i, .int j, .int k], pk, e3 =>
      have := m.ar.len
      have l2 := pk.length
      simp [hl] at this
      simp [← this] at l2
theorem one_res {ρ : Env} {u : Arg} {w : W} (h : ress ρ [u] = some [w]) : res ρ u = some w := by
  simp only [ress] at h
  cases q : res ρ u with
  | none => rw [q] at h; simp at h
  | some w' => rw [q] at h; simpa using h
theorem i_enu {elts : List Expr} {kk : Nat} {tpos : Pos} (hc : c.K = X.K) (hg : Gl X "enumerate") (hm : X.mg "enumerate" = none) (hp : plainE e = true) (ha : PA X [e] (tXL c eas)) :
    PI X (.Tuple elts kk tpos) (.Call (.Name "enumerate" p) [e] [] pos) (tI c .enu eas) := by
  refine piImp (pi_enA hg hm ha (star_cons _ hp _)) fun σ H R ⟨A, ρ, F, Pn, hs, q⟩ => ?_
  refine all_args hs q fun us vs ρ1 H1 F1 m ⟨its, e1, q1⟩ => ?_
  obtain ⟨ws, e2, e3⟩ := Option.bind_eq_some_iff.mp e1
  match ws, e2, e3 with
  | [.lst xs], e2, e3 =>
    cases Option.some.inj e3
    obtain ⟨v, rfl, pv⟩ := (m.pk e2).one
    match us, e2, m, q1 with
    | [u], e2, m, q1 =>
      have ar : AR c.K σ H1 F1 u v := by cases m.ar with | cons h _ => exact h
      obtain ⟨l1, l2, l3, l4⟩ := lk_ok (as := [u]) m.sr
      obtain ⟨a, us', rfl, r, hr, n⟩ := arg_list m.sr (as := [u]) (by simp) (fun p hp => by simp [pnds, hp]) ar (one_res e2)
      rw [← hc]
      exact ⟨a, rfl, .inl ⟨⟨us', .inl r⟩, q1 _ _ H1 F1 m (itg_enu l1 r n hr)⟩⟩
    | [], e2, m, _ => simp [ress] at e2
    | _ :: _ :: _, e2, m, _ => have := m.ar.len; simp at this
  | [.tup xs], e2, e3 =>
    cases Option.some.inj e3
    obtain ⟨v, rfl, pv⟩ := (m.pk e2).one
    match us, e2, m, q1 with
    | [u], e2, m, q1 =>
      obtain ⟨l1, l2, l3, l4⟩ := lk_ok (as := [u]) m.sr
      obtain ⟨a, us', rfl, r, z, hr⟩ := pv.tup
      rw [← hc]
      exact ⟨a, rfl, .inr ⟨⟨us', r⟩, q1 _ _ H1 F1 m (itg_enuT l1 r hr)⟩⟩
    | [], e2, m, _ => simp [ress] at e2
    | _ :: _ :: _, e2, m, _ => have := m.ar.len; simp at this
theorem i_rev (hc : c.K = X.K) (hg : Gl X "reversed") (hm : X.mg "reversed" = none) (hp : plainE e = true) (he : PE X e (tX c ea)) : PI X tg (.Call (.Name "reversed" p) [e] [] pos) (tI c .rev (.cons ea .nil)) := by
  refine piImp (RT.pi_revA hg hm he (star_cons _ hp _)) fun σ H R ⟨A, ρ, F, Pn, hs, q⟩ => ?_
  refine one_arg hs q fun u v ρ1 H1 F1 m ⟨its, e1, q1⟩ => ?_
  obtain ⟨w, e2, e3⟩ := seq_ok (w := .non) e1
  obtain ⟨_, e, p1⟩ := (m.pk (ress1 e2)).one
  cases e
  obtain ⟨l1, l2, l3, l4⟩ := lk_ok (as := [u]) m.sr
  rw [← hc]
  cases w <;> first | (cases e3; done) | skip
  · cases Option.some.inj e3
    obtain ⟨a, us, rfl, r, z, hr⟩ := p1.tup
    exact ⟨a, us, rfl, .inr ⟨r, q1 _ _ H1 F1 m (itg_revT l1 r hr)⟩⟩
  · cases Option.some.inj e3
    have ar : AR c.K σ H1 F1 u v := by cases m.ar with | cons h _ => exact h
    obtain ⟨a, us, rfl, r, hr, n⟩ := arg_list m.sr (as := [u]) (by simp) (fun p hp => by simp [pnds, hp]) ar e2
    exact ⟨a, us, rfl, .inl ⟨.inl r, q1 _ _ H1 F1 m (itg_revL l1 r n hr)⟩⟩
theorem i_zip {e2 : Expr} {elts : List Expr} {kk : Nat} {tpos : Pos} (hc : c.K = X.K) (hg : Gl X "zip") (hm : X.mg "zip" = none) (hp : plainE e = true) (hp2 : plainE e2 = true) (ha : PA X [e, e2] (tXL c eas)) :
    PI X (.Tuple elts kk tpos) (.Call (.Name "zip" p) [e, e2] [] pos) (tI c .zip eas) := by
  refine piImp (RZ.pi_zipA hg hm ha (star_cons _ hp _) (by rw [star_cons _ hp2]; rfl)) fun σ H R ⟨A, ρ, F, Pn, hs, q⟩ => ?_
  refine all_args hs q fun us vs ρ1 H1 F1 m ⟨its, e1, q1⟩ => ?_
  obtain ⟨ws, e2', e3⟩ := Option.bind_eq_some_iff.mp e1
  rw [← hc]
  match ws, e2', e3 with
  | [.lst xs, .lst ys], e2', e3 =>
    cases Option.some.inj e3
    obtain ⟨v, v', rfl, pv, pv'⟩ := (m.pk e2').two
    match us, e2', m, q1 with
    | [u, u'], e2', m, q1 =>
      have e4 : res ρ1 u = some (.lst xs) ∧ res ρ1 u' = some (.lst ys) := by
        simp only [ress] at e2'
        cases q : res ρ1 u with
        | none => rw [q] at e2'; simp at e2'
        | some w => cases q' : res ρ1 u' with
          | none => rw [q, q'] at e2'; simp at e2'
          | some w' => rw [q, q'] at e2'; simpa using e2'
      obtain ⟨l1, l2, l3, l4⟩ := lk_ok (as := [u, u']) m.sr
      obtain ⟨ar, ar'⟩ : AR c.K σ H1 F1 u v ∧ AR c.K σ H1 F1 u' v' := by cases m.ar with | cons h t => cases t with | cons h' _ => exact ⟨h, h'⟩
      obtain ⟨a, us', rfl, r, hr, n⟩ := arg_list m.sr (as := [u, u']) (by simp) (fun p hp => by simp [pnds, hp]) ar e4.1
      obtain ⟨a', us'', rfl, r', hr', n'⟩ := arg_list m.sr (as := [u, u']) (by simp) (fun p hp => by simp [pnds, hp]) ar' e4.2
      exact ⟨a, a', us', us'', rfl, .inl ⟨.inl r, .inl r', q1 _ _ H1 F1 m (itg_zip l1 r n hr r' n' hr')⟩⟩
    | [], e2', m, _ => simp [ress] at e2'
    | [_], e2', m, _ => have := m.ar.len; simp at this
    | _ :: _ :: _ :: _, e2', m, _ => have := m.ar.len; simp at this
  | [.tup xs, .tup ys], e2', e3 =>
    cases Option.some.inj e3
    obtain ⟨v, v', rfl, pv, pv'⟩ := (m.pk e2').two
    obtain ⟨l1, l2, l3, l4⟩ := lk_ok (as := us) m.sr
    obtain ⟨a, us', rfl, r, z, hr⟩ := pv.tup
    obtain ⟨a', us'', rfl, r', z', hr'⟩ := pv'.tup
    exact ⟨a, a', us', us'', rfl, .inr ⟨r, r', q1 _ _ H1 F1 m (itg_zipT l1 r hr r' hr')⟩⟩
end
end Py

/-! d.get, sorted of numbers, of a dict of numbers, sorted(set(..)). -/
namespace Py
open PySem PySem.Spec PyProof.Rows L2
section
variable {P : Program} {w : World} {A : Around} {E : Value → Shared → Prop} {s : Shared}
theorem set_listI {l : Addr} {items : Array Value} (ns : List Int) {Q : Value → Shared → Prop} (hh : A.handled = none) (hl : s.heap.IsList l items) (hit : IntsAre items.toList ns) (hb : ns.length + 1 < scanBound)
    (h : ∀ (h' : Heap) (tk c : Nat), SetR w h' s.heap.objs.size (fun j => decide (j ∈ ns)) c → c ≤ ns.length → (∀ b o, s.heap.get? b = some o → h'.get? b = some o) → Q (.ref s.heap.objs.size) { s with heap := h', toks := tk }) :
    wpAny (model P w) A (call (.type "set") [.ref l]) Q E s := by
  have hisz : items.size = ns.length := by
    have q := IntsAre.length hit
    rw [Array.length_toList] at q
    exact q
  obtain ⟨c, tl, hmro⟩ := F.called_set.mro
  have hmade := F.called_set.made
  have hsub := F.called_set.sub
  refine wpAny_call (codeAny_of_tree ?_)
  show wpAny _ _ (callAny (.type "set") _) _ _ _
  refine wpAny_pure ⟨Code.quiet_builtin _ (by decide +kernel), codeAny_builtin F.entry_type_call ?_⟩
  rw [Around.under_plain (weight_type_call_type "set" [.ref l] []) rfl]
  have h1 := F.called_set.notType
  have h2 := F.called_set.canCreate
  have hct := F.typeCall_set_1 (.ref l)
  repeat (any_goals (first | assumption | wp_step))

  refine codeAny_mono (code_set_led1 (.ref l) (E := E) (Q₁ := fun obj s₁ => obj = .ref s.heap.objs.size ∧ s₁ = { s with heap := s.heap.push { cls := .type "set", dict := none, data := .set #[] 0 (.fresh 0 0 (!w.params.followText "set-order")) } }) ⟨rfl, rfl⟩) fun r s₁ hr => ?_
  cases r with
  | error e => exact hr
  | ok fl =>
    cases fl with
    | ret obj =>
      obtain ⟨rfl, rfl⟩ := hr
      have hS : (s.heap.push { cls := .type "set", dict := none, data := .set #[] 0 (.fresh 0 0 (!w.params.followText "set-order")) }).get? s.heap.objs.size = some { cls := .type "set", dict := none, data := .set #[] 0 (.fresh 0 0 (!w.params.followText "set-order")) } := Heap.get?_push_size _ rfl
      have hT : Shared.TypeIs { s with heap := s.heap.push { cls := .type "set", dict := none, data := .set #[] 0 (.fresh 0 0 (!w.params.followText "set-order")) } } (.ref s.heap.objs.size) "set" := ⟨_, hS, rfl⟩
      have hli := F.called_set.init.lookup
      have hbi := F.called_set.init.bind (.ref s.heap.objs.size)
      repeat (any_goals (first | assumption | wp_step))

      refine codeAny_mono (codeAny_call_builtin (R := wants (fun r s₂ => r = .none ∧ ∃ h' tk c, s₂ = { s with heap := h', toks := tk } ∧ SetR w h' s.heap.objs.size (fun j => decide (j ∈ ns)) c ∧ c ≤ ns.length ∧
          (∀ b o, s.heap.get? b = some o → h'.get? b = some o)) E) F.called_set.init.plain F.entry_set_init (check_set_init_1 hT ?_)) fun r₂ s₂ hr₂ => ?_
      · obtain ⟨ol, hol, hcl, nl, hdl⟩ := hl
        obtain ⟨ocls, odict, odata, oslots⟩ := ol
        simp only at hcl hdl
        subst hcl; subst hdl
        have hol' : (s.heap.push { cls := .type "set", dict := none, data := .set #[] 0 (.fresh 0 0 (!w.params.followText "set-order")) }).get? l = some { cls := .type "list", dict := odict, data := .seq items nl, slots := oslots } := Heap.get?_push_of_some _ hol
        have hsls := F.sub_list_set
        have hslf := F.sub_list_frozenset
        have hne : (Value.type "list" == Value.type "dict") = false := by decide
        have hl1 : (s.heap.push { cls := .type "set", dict := none, data := .set #[] 0 (.fresh 0 0 (!w.params.followText "set-order")) }).IsList l items := ⟨_, hol', rfl, nl, rfl⟩
        unfold Builtin.«set.__init__» noKeywords Builtin.Frozenset.updateFrom
        generalize hPI : pyIter = PI
        wp_walk
        subst hPI

        refine wpAny_pyIter_list hl1 ?_
        refine wpAny_bind (wpAny_runValue ?_)
        have hlS : l < s.heap.objs.size := Heap.lt_size hol
        have hh3 : A.in1.in1.in1.handled = none := by simp [hh]
        have hz1 : (s.heap.push { cls := .type "set", dict := none, data := .set #[] 0 (.fresh 0 0 (!w.params.followText "set-order")) }).objs.size = s.heap.objs.size + 1 := Heap.size_push ..
        have hneI : l ≠ (s.heap.push { cls := .type "set", dict := none, data := .set #[] 0 (.fresh 0 0 (!w.params.followText "set-order")) }).objs.size := by
          rw [Heap.size_push]; exact Nat.ne_of_lt (Nat.lt_succ_of_lt hlS)
        have hSf : s.heap.objs.size ∉ [(s.heap.push { cls := .type "set", dict := none, data := .set #[] 0 (.fresh 0 0 (!w.params.followText "set-order")) }).objs.size, l] := by
          rw [Heap.size_push]; simp only [List.mem_cons, List.mem_singleton, List.not_mem_nil, or_false, not_or]
          exact ⟨Nat.ne_of_lt (Nat.lt_succ_self _), Nat.ne_of_gt hlS⟩
        have hval : ∀ (i : Nat) (v : Value), items[i]? = some v → ∃ k t, ns[i]? = some k ∧ v = .int k t := fun i v hv => by
          have hi : i < ns.length := by rw [← hisz]; exact (Array.getElem?_eq_some_iff.mp hv).1
          obtain ⟨t, e⟩ := PyProof.Rows.IntsAre.int_at hit i v (by rw [Array.getElem?_toList]; exact hv)
          refine ⟨ns[i], t, List.getElem?_eq_getElem hi, ?_⟩
          rw [e, List.getD_eq_getElem?_getD, List.getElem?_eq_getElem hi] <;> rfl
        refine set_update_ints ((Walks.list hh3 _ l hneI items).toS) s.heap.objs.size
          hSf ns hisz hb hval (items.size - 0) 0 _ (by omega) (Nat.zero_le _)
          ⟨⟨_, Heap.get?_push_size _ rfl, rfl, rfl⟩, (hl1.push _)⟩ ?hS0 ?hR
        case hS0 =>
          have hget : ((s.heap.push { cls := .type "set", dict := none, data := .set #[] 0 (.fresh 0 0 (!w.params.followText "set-order")) }).push { cls := .type "list_iterator", data := .fields #[.ref l, .int 0 0] }).get? s.heap.objs.size
              = some { cls := .type "set", dict := none, data := .set #[] 0 (.fresh 0 0 (!w.params.followText "set-order")) } := Heap.get?_push_of_some _ hS
          exact ⟨0, Nat.le_refl 0, setR_new_at hget⟩
        case hR =>
          intro s' c' hm hc' hS'
          obtain ⟨h', g2, d', tk', os'⟩ := s'
          have eg : g2 = s.gens := hm.gens
          have ed : d' = s.drawn := hm.drawn
          have eo : os' = s.os := hm.os
          subst eg; subst ed; subst eo
          show wpAny _ _ _ _ _ _
          refine wpAny_pure ?_
          show wpAny _ _ (ret Value.none) _ _ _
          rw [hisz] at hc'
          refine wpAny_pure ⟨rfl, h', tk', c', rfl, hS', hc', fun b o e => ?_⟩
          have hb0 : b < s.heap.objs.size := Heap.lt_size e
          have hb1 : b ≠ s.heap.objs.size := Nat.ne_of_lt hb0
          have hb2 : b ≠ (s.heap.push { cls := .type "set", dict := none, data := .set #[] 0 (.fresh 0 0 (!w.params.followText "set-order")) }).objs.size := by
            rw [Heap.size_push]; exact Nat.ne_of_lt (Nat.lt_succ_of_lt hb0)
          exact hm.heap b o (by simp only [List.mem_cons, List.mem_singleton, List.not_mem_nil, or_false, not_or]; exact ⟨hb1, hb2⟩) (Heap.get?_push_of_some _ (Heap.get?_push_of_some _ e))

      · cases r₂ with
        | error e => exact hr₂
        | ok fl₂ =>
          cases fl₂ with
          | ret r =>
            obtain ⟨rfl, h', tk, c', rfl, hS', hc', hk'⟩ := hr₂
            repeat (any_goals (first | assumption | wp_step))
            exact h _ _ _ hS' hc' hk'
          | _ => exact hr₂.elim
    | _ => exact hr.elim

end
end Py

namespace Py
open PySem PySem.Spec PyProof.Rows L2
/-! ### numbers in order -/
theorem insI_perm (a : Int) : ∀ l : List Int, (insI a l).Perm (a :: l)
  | [] => .refl _
  | b :: r => by
    unfold insI
    split
    · exact .refl _
    · exact ((insI_perm a r).cons b).trans (.swap a b r)
theorem srtI_perm : ∀ l : List Int, (srtI l).Perm l
  | [] => .refl _
  | a :: r => (insI_perm a (srtI r)).trans ((srtI_perm r).cons a)
theorem insI_pw (a : Int) : ∀ l : List Int, l.Pairwise (· ≤ ·) → (insI a l).Pairwise (· ≤ ·)
  | [], _ => by simp [insI]
  | b :: r, h => by
    unfold insI
    have h' := List.pairwise_cons.mp h
    split
    · rename_i q
      exact List.pairwise_cons.mpr ⟨fun x hx => (List.mem_cons.mp hx).elim (fun z => z ▸ q) fun z => Int.le_trans q (h'.1 x z), h⟩
    · rename_i q
      refine List.pairwise_cons.mpr ⟨fun x hx => ?_, insI_pw a r h'.2⟩
      rcases List.mem_cons.mp ((insI_perm a r).mem_iff.mp hx) with rfl | hx
      · omega
      · exact h'.1 x hx
theorem srtI_pw : ∀ l : List Int, (srtI l).Pairwise (· ≤ ·)
  | [] => .nil
  | a :: r => insI_pw a _ (srtI_pw r)
theorem pw_uniq {xs ys : List Int} (p : xs.Perm ys) (h : xs.Pairwise (· ≤ ·)) (k : ys.Pairwise (· ≤ ·)) : xs = ys :=
  p.eq_of_pairwise (fun a b _ _ h1 h2 => Int.le_antisymm h1 h2) h k
theorem insU_mem (a x : Int) : ∀ l : List Int, x ∈ insU a l ↔ x = a ∨ x ∈ l
  | [] => by simp [insU]
  | b :: r => by
    unfold insU
    split
    · simp
    · split
      · rename_i q; subst q; simp
      · simp only [List.mem_cons, insU_mem a x r]
        constructor
        · rintro (h | h | h)
          · exact .inr (.inl h)
          · exact .inl h
          · exact .inr (.inr h)
        · rintro (h | h | h)
          · exact .inr (.inl h)
          · exact .inl h
          · exact .inr (.inr h)
theorem srtU_mem (x : Int) : ∀ l : List Int, x ∈ srtU l ↔ x ∈ l
  | [] => Iff.rfl
  | a :: r => by rw [srtU, insU_mem, srtU_mem x r, List.mem_cons]
theorem insU_pw (a : Int) : ∀ l : List Int, l.Pairwise (· < ·) → (insU a l).Pairwise (· < ·)
  | [], _ => by simp [insU]
  | b :: r, h => by
    unfold insU
    have h' := List.pairwise_cons.mp h
    split
    · rename_i q
      exact List.pairwise_cons.mpr ⟨fun x hx => (List.mem_cons.mp hx).elim (fun z => z ▸ q) fun z => Int.lt_trans q (h'.1 x z), h⟩
    · split
      · exact h
      · rename_i q1 q2
        refine List.pairwise_cons.mpr ⟨fun x hx => ?_, insU_pw a r h'.2⟩
        rcases (insU_mem a x r).mp hx with rfl | hx
        · omega
        · exact h'.1 x hx
theorem srtU_pw : ∀ l : List Int, (srtU l).Pairwise (· < ·)
  | [] => .nil
  | a :: r => insU_pw a _ (srtU_pw r)
theorem lt_uniq {xs ys : List Int} (m : ∀ k, k ∈ xs ↔ k ∈ ys) (h : xs.Pairwise (· < ·)) (k : ys.Pairwise (· < ·)) : xs = ys := by
  have n1 : xs.Nodup := h.imp fun q => Int.ne_of_lt q
  have n2 : ys.Nodup := k.imp fun q => Int.ne_of_lt q
  exact pw_uniq ((List.perm_ext_iff_of_nodup n1 n2).mpr m) (h.imp fun q => Int.le_of_lt q) (k.imp fun q => Int.le_of_lt q)
theorem srtI_len (l : List Int) : (srtI l).length = l.length := (srtI_perm l).length_eq
variable [HW]
section
variable {X : Cx} {c : Cf} {o e : Expr} {eo eas : E} {pos p p2 pos2 apos : Pos}
/-! ### d.get -/
theorem get_run (hw : HW.P = X.prog ∧ HW.w = X.w) (hu : X.A.units + 200 < cLine) {Q : VK} {pins : List (Addr × Obj)} {s : Shared} {σ : Sg} {H : Hp} {F : Addr → Prop} (I : Inv X pins σ H s) {x y : V} {us : List Value} {w : W} {kvs : List (W × W)} {xs : List V} {ws : List W} {r : W × Bool} {a : Addr}
    (b : PkR X.K H F (.ref a) (.dct kvs)) (rs : Vals xs us) (ar : PkRs X.K H F xs ws) (h : mthW .get (.dct kvs) ws = some r) (q : Rs X.K H F Q r) : wpAny (model X.prog X.w) X.A (call (.builtin "dict.get") (.ref a :: us)) (EP X pins σ Q) X.xe s := by
  obtain ⟨p, es, e0, ⟨ep, hH⟩, hz, nd, hr⟩ := b.dct
  cases e0
  -- one look
  have main : ∀ {kv : V} {ku : Value} {kw : W}, PkR X.K H F kv kw → RelV kv ku → kOk kw kvs = true → ∀ (d : V) (dv : Value) (dw : W), RelV d dv → HR X.K H F d dw → (∀ v', HR X.K H F v' ((lkW kw kvs).getD dw) → Q v' H) →
      wpAny (model X.prog X.w) X.A (call (.builtin "dict.get") [.ref a, ku, dv]) (EP X pins σ Q) X.xe s ∧ (dv = .none → wpAny (model X.prog X.w) X.A (call (.builtin "dict.get") [.ref a, ku]) (EP X pins σ Q) X.xe s) := fun {kv ku kw} k1 k2 hk d dv dw rd hd q => by
    rcases kOk_of hk with ⟨hk, ht⟩ | ⟨i, rfl, ht⟩
    · obtain ⟨ws', k, cc, rfl, e, dd, rfl, rfl, is, _⟩ := key_at I k1 hk k2
      obtain ⟨hs, xs, hx, dd⟩ := dict_of hw I hH hr nd ht
      obtain ⟨g1, g2⟩ := at_dct e hx
      have fin : EP X pins σ Q (((atKey xs k).map (·.2)).getD dv) { s with toks := s.toks + (nestedKind X.prog X.w).draws k } := by
        cases h : lkW (.tup ws') kvs with
        | some w' =>
          obtain ⟨b', v', u', e2, e3, e4⟩ := g1 _ h
          rw [h] at q
          rw [e2]
          exact ⟨v', _, I.tok _, e3, q _ e4⟩
        | none =>
          rw [h] at q
          rw [g2 h]
          exact ⟨d, _, I.tok _, rd, q _ hd⟩
      refine ⟨call_meetsIn PySem.F.slot_dict_get dd.typeIs PySem.F.entry_dict_get (PySem.F.args_dict_get_3 _ _ _) (meetsH_dict_get_default (nestedKind X.prog X.w) a cc hs dv) ⟨room_d hu, k, xs, is, dd, fin⟩, fun en => ?_⟩
      subst en
      exact call_meetsIn PySem.F.slot_dict_get dd.typeIs PySem.F.entry_dict_get (PySem.F.args_dict_get_2 _ _) (meetsH_dict_get (nestedKind X.prog X.w) a cc hs) ⟨room_d hu, k, xs, is, dd, fin⟩
    · cases k1.int
      obtain ⟨hs, xs, hx, dd⟩ := dict_ofI I hH hr nd ht
      obtain ⟨g1, g2⟩ := at_int (k := i) hx
      have fin : EP X pins σ Q ((valueAt xs i).getD dv) { s with toks := s.toks + 1 } := by
        cases h : lkW (.int i) kvs with
        | some w' =>
          obtain ⟨v', u', e2, e3, e4⟩ := g1 _ h
          rw [h] at q
          rw [e2]
          exact ⟨v', _, I.tok _, e3, q _ e4⟩
        | none =>
          rw [h] at q
          rw [g2 h]
          exact ⟨d, _, I.tok _, rd, q _ hd⟩
      refine ⟨call_meetsIn PySem.F.slot_dict_get dd.typeIs PySem.F.entry_dict_get (PySem.F.args_dict_get_3 _ _ _) (meets_dict_get_default (intKind X.prog X.w) a (int_is k2) hs dv) ⟨_, dd.mapOf, fin⟩, fun en => ?_⟩
      subst en
      exact call_meetsIn PySem.F.slot_dict_get dd.typeIs PySem.F.entry_dict_get (PySem.F.args_dict_get_2 _ _) (meets_dict_get (intKind X.prog X.w) a (int_is k2) hs) ⟨_, dd.mapOf, fin⟩
  match ws, ar, h with
  | [kw], ar, h =>
    have h : (if kOk kw kvs = true then some ((lkW kw kvs).getD .non, false) else none) = some r := h
    obtain ⟨hk, rfl⟩ := of_if h
    obtain ⟨kv, rfl, k1⟩ := ar.one
    cases rs with
    | cons r1 rr =>
      cases rr
      exact (main k1 r1 hk .non .none .non rfl .non fun v' hv => q _ _ (.old hv)).2 rfl
  | [kw, dw], ar, h =>
    have h : (if kOk kw kvs = true ∧ isC dw = false then some ((lkW kw kvs).getD dw, false) else none) = some r := h
    obtain ⟨⟨hk, hd⟩, rfl⟩ := of_if h
    obtain ⟨kv, dv, rfl, k1, k2⟩ := ar.two
    cases rs with
    | cons r1 rr =>
      cases rr with
      | cons r2 rr =>
        cases rr
        have hdr : HR X.K H F dv dw := by
          rcases k2 with k2 | ⟨cc, _, k2⟩
          · exact k2
          · cases dw <;> first | exact k2.elim | (cases hd; done)
        exact (main k1 r1 hk dv _ dw r2 hdr fun v' hv => q _ _ (.old hv)).1
theorem x_get {es : List Expr} (hc : c.K = X.K) (hw : HW.P = X.prog ∧ HW.w = X.w) (hu : X.A.units + 200 < cLine) (hb : ∀ id q r, o ≠ .Call (.Name id q) [] [] r) (hl : (apos.endLine == pos.line) = true)
    (hp : (e :: es).all plainE = true) (hfew : (e :: es).length < 30) (ho : PE X o (tX c eo)) (ha : PA X (e :: es) (tXL c eas)) : PE X (.Call (.Attribute o "get" apos) (e :: es) [] pos) (tX c (.mth .get eo eas)) := by
  have hpe : plainE e = true := by rw [List.all_cons, Bool.and_eq_true] at hp; exact hp.1
  have hps : es.all plainE = true := by rw [List.all_cons, Bool.and_eq_true] at hp; exact hp.2
  refine ⟨fun pins s σ H Q I ⟨A, ρ, F, Pn, hs, q⟩ => ?_⟩
  have ho' : tX c eo σ H fun x H1 => ∃ kvs a es ep, x = .ref a ∧ H1 a = some (dcO a es ep) ∧ DRel c.K H1 (fun _ => True) es kvs ∧ tXL c eas σ H1 fun xs H2 => ∃ F2 ws r kvs', PkR c.K H2 F2 (.ref a) (.dct kvs') ∧ PkRs c.K H2 F2 xs ws ∧ mthW .get (.dct kvs') ws = some r ∧ Rs c.K H2 F2 Q r := by
    refine tX_of (.nil hs) q fun u v ρ1 H1 F1 m1 q1 => ?_
    cases e1 : (res ρ1 u).bind (mTy .get) with
    | none => simp only [e1] at q1; exact q1.elim
    | some k =>
      simp only [e1] at q1
      obtain ⟨w, e2, e3⟩ := res_bind e1
      obtain ⟨_, e, p1⟩ := (m1.pk (ress1 e2)).one
      cases e
      cases w <;> first | (cases e3; done) | skip
      rename_i kvs
      obtain ⟨a, es', rfl, ⟨ep, hH⟩, _, _, hr⟩ := p1.dct
      refine ⟨kvs, a, es', ep, rfl, hH, hr.more fun _ _ => trivial, A, ρ1, F1, pnds [u] [.ref a] ++ Pn, m1.sr, q1.bind.mono (fun as ρ2 h2 vs' H2 F2 st s ar fr => ?_) fun _ _ _ e => e.step m1.st⟩
      have m2 : Md c A σ ρ H F Pn (u :: as) (.ref a :: vs') ρ2 H2 F2 := by
        refine ⟨m1.st.trans st, by simpa [pnds] using s, ?_, fun d x z => ?_⟩
        · cases m1.ar with | cons h _ => exact .cons (h.stp m1.sr st) ar
        · simp only [pnds] at z
          rcases List.mem_append.mp z with z | z
          · exact m1.st.fresh (fr d x z)
          · exact m1.fr d x (by simpa [pnds] using z)
      cases e4 : res ρ2 u with
      | none => simp only [e4] at h2; exact h2.elim
      | some w =>
        simp only [e4] at h2
        obtain ⟨ws, r, e5, e6, q3⟩ := lL_ok h2
        have pk := m2.pk (ws := w :: ws) (by simp [ress, e4, e5])
        cases pk with | cons k1 k2 =>
        cases w <;> first | (cases e6; done) | skip
        exact ⟨F2, ws, r, _, k1, k2, e6, m2.fin q3⟩
  refine wpAny_Call_method_late (base_plain hb) ?_ hl rfl (thn (ho.run pins s σ H _ I ho') fun u s1 ⟨x, H1, I1, rx, kvs, a, es', ep, ex, hH, hr, q1⟩ => ?_)
  · rw [(star_all _ _ hp).2]
    simp [backToKw, keywordEach] at hfew ⊢
    omega
  subst ex
  obtain rfl : u = Value.ref a := rx
  obtain ⟨_, ob, l, h2, h3, h4, _, _⟩ := dc_at I1 hH
  refine ⟨"dict", "dict.get", PySem.F.plainAttrs_dict, PySem.F.slot_dict_get, PySem.F.type_dict_get, (dc_type h2 h3).1, (dc_type h2 h3).2, ?_⟩
  have hA := ha.run pos pins s1 σ H1 _ I1 q1
  rw [star_cons _ hpe _] at hA ⊢
  refine Calls.callWith_builtin (by show (false || (backTo pos (starEach es X.env)).any (·.1)) = false; rw [(star_all _ _ hps).1] <;> rfl) (Calls.evalArgs_plain ?_)
  refine thn hA fun us s2 ⟨vs, H2, I2, r2, F2, ws, r, kvs', k1, k2, e6, q3⟩ => ?_
  rw [hc] at k1 k2 q3
  exact get_run hw hu I2 (x := .non) (y := .non) (w := .non) k1 r2 k2 e6 q3

/-! ### sorted -/
theorem ints_vals {K : PySem.W.Frag} {H : Hp} {F : Addr → Prop} (i : List Int) : HRs K H F (i.map V.int) (i.map W.int) := by
  induction i with
  | nil => exact .nil
  | cons a r ih => exact .cons (.int a) ih
theorem asInts_len : ∀ {ws : List W} {i : List Int}, asInts ws = some i → i.length = ws.length
  | [], i, e => by cases Option.some.inj e; rfl
  | w :: ws, i, e => by
    cases w <;> first | (cases e; done) | skip
    simp only [asInts, Option.map_eq_some_iff] at e
    obtain ⟨j, e, rfl⟩ := e
    simp [asInts_len e]
theorem dkeys {kvs : List (W × W)} {K : PySem.W.Frag} {H : Hp} {F : Addr → Prop} : ∀ {xs : List (Int × Value)}, IR K H F xs kvs → ∀ {i : List Int}, asInts (kvs.map (·.1)) = some i → xs.map (·.1) = i := by
  intro xs h
  induction h with
  | nil => intro i e; cases Option.some.inj e; rfl
  | cons _ _ _ ih =>
    intro i e
    simp only [List.map_cons, asInts, Option.map_eq_some_iff] at e
    obtain ⟨j, e, rfl⟩ := e
    simp [ih e]
theorem allI_of : ∀ {kvs : List (W × W)} {i : List Int}, asInts (kvs.map (·.1)) = some i → allI kvs = true
  | [], _, _ => rfl
  | (k, v) :: r, i, e => by
    cases k <;> first | (cases e; done) | skip
    simp only [List.map_cons, asInts, Option.map_eq_some_iff] at e
    obtain ⟨j, e, rfl⟩ := e
    simp [allI, isI, allI_of e]
theorem call_sortedW (hc : X.calm = true) : CallR X (.builtin "sorted") (rL X.K (biW .sorted)) := by
  intro pins s σ H xs us Q I rx ⟨F, ws, r, a, e, q⟩
  match ws, e, a with
  | [.lst ys], e, a =>
    obtain ⟨v, rfl, b⟩ := a.one
    obtain ⟨i, e1, rfl⟩ := Option.map_eq_some_iff.mp e
    obtain ⟨p, vs, rfl, h1, hz, hr⟩ := b.lst
    obtain rfl := ints_rel hr e1
    refine cr_sortedI pins s σ H _ us Q I rx ⟨p, i, rfl, h1, fun ns' p' g1 g2 g3 => ?_⟩
    obtain rfl : ns' = srtI i := pw_uniq (g1.trans (srtI_perm i).symm) g2 (srtI_pw i)
    exact q _ _ (.lst g3 (by rw [List.length_map, srtI_len, ← List.length_map (f := V.int)]; exact hz) (ints_vals _))
  | [.dct kvs], e, a =>
    obtain ⟨v, rfl, b⟩ := a.one
    have e : (if kvs.length < 64 then (asInts (kvs.map (·.1))).map fun i => (W.lst ((srtI i).map .int), true) else none) = some r := e
    by_cases h64 : kvs.length < 64
    · rw [if_pos h64] at e
      obtain ⟨i, e1, rfl⟩ := Option.map_eq_some_iff.mp e
      obtain ⟨p, es, rfl, ⟨ep, hH⟩, hz, nd, hr⟩ := b.dct
      obtain ⟨hs, xs, hx, dd⟩ := dict_ofI I hH hr nd (allI_of e1)
      obtain ⟨ep', hat⟩ := dd.dictAt
      have hk : xs.map (·.1) = i := dkeys hx e1
      have hl : xs.length = i.length := by rw [← hk, List.length_map]
      have h64' : i.length < 64 := by rw [← hl, hx.length]; exact h64
      obtain ⟨u, eu, ru⟩ := vals1 rx
      subst eu
      cases ru
      refine Calls.call_function_entry PyProof.Rows.kind_sorted PyProof.Rows.plain_sorted PyProof.Rows.entry_sorted (PyProof.Rows.args_sorted1 _) ?_
      unfold Builtin.«sorted»
      refine wpAny_bind (m := checkCount "sorted" 1 1 _) (wpAny_pure ?_)
      refine wpAny_bind (PySem.W.kdu_collect (A := X.A.in1) (PySem.W.kdl_dict (knd := intKind X.prog X.w) (kvs := xs) (ep := ep') hs) (I.ok.hd hc) hat (by rw [hl, sizeLine_eq]; omega) fun h' tk acc kp hacc => ?_)
      have hal : acc.toList.length = i.length := by rw [Array.length_toList, hacc.1, hl]
      have hS : IntsAre acc.toList i := ints_each hal fun j v e => by
        obtain ⟨k, x, k1, k2⟩ := hacc.2 j v (by rw [← Array.getElem?_toList]; exact e)
        obtain ⟨t, rfl⟩ := Value.isInt_shape (show Value.isInt k v = true from k2)
        exact ⟨k, t, by rw [← hk, List.getElem?_map, k1]; rfl, rfl⟩
      have J : Inv X pins σ H { s with heap := h', toks := tk } := I.kept kp
      refine wpAny_bind (wpAny_newList ?_ (by rw [hal, sizeLine_eq]; omega))
      have ho : (h'.push (seqObj "list" acc.toList.toArray 0)).get? h'.objs.size = some (seqObj "list" acc.toList.toArray 0) := Heap.get?_push_size _ rfl
      show wpAny _ _ _ _ _ { s with heap := h'.push (seqObj "list" acc.toList.toArray 0), toks := tk }
      refine wpAny_bind (wpAny_holding (wpAny_call_entry PyProof.Rows.slot_list_sort ⟨_, ho, rfl⟩ PyProof.Rows.entry_list_sort
        (PyProof.Rows.list_sort_tree (s := { s with heap := h'.push (seqObj "list" acc.toList.toArray 0), toks := tk }) ho hS (by rw [hal]; exact h64') fun out ys g1 g2 g3 => ⟨_, rfl, ?_⟩) (PyProof.Rows.args_list_sort _)))
      obtain rfl : ys = srtI i := pw_uniq (g2.trans (srtI_perm i).symm) g3 (srtI_pw i)
      obtain ⟨e', he'⟩ := PyProof.Rows.sortedHeap_at (vs := acc.toList) (out := out) ho
      have hn : ((srtI i).map V.int).length ≤ szL := by rw [List.length_map, srtI_len]; exact Nat.le_trans (Nat.le_of_lt h64') (by decide)
      refine wpAny_pure ⟨_, rfl, .ref h'.objs.size, upd H h'.objs.size (.lst ((srtI i).map V.int)), J.laid (t' := tk) (fun b u k => ?_) (Nat.le_refl _)
        (show ObjOk X.prog X.w _ _ _ (.lst ((srtI i).map V.int)) from ⟨by rw [← szL_eq]; exact hn, out.toList, e', vals_of_ints g1, by rw [Array.toArray_toList]; exact he'⟩), rfl, q _ _ (.lst (J.hok.fresh (Nat.le_refl _)) hn (ints_vals _))⟩
      have hb : b < h'.objs.size := Heap.lt_size k
      rw [PyProof.Rows.sortedHeap_old (Nat.ne_of_lt hb) (by rw [size_push']; exact Nat.lt_succ_of_lt hb)]
      exact Heap.get?_push_of_some _ k
    · rw [if_neg h64] at e; cases e
theorem sorted_setR (hc : X.calm = true) {Q : VK} {pins : List (Addr × Obj)} {s : Shared} {σ : Sg} {H : Hp} {F : Addr → Prop} (I : Inv X pins σ H s) {i : List Int} {a : Addr} {n : Nat} (sr : SetR X.w s.heap a (fun j => decide (j ∈ i)) n) (hn : n ≤ i.length) (h60 : i.length < 60)
    (q : Rs X.K H F Q (.lst ((srtU i).map .int), true)) : wpAny (model X.prog X.w) X.A (call (.builtin "sorted") [.ref a]) (EP X pins σ Q) X.xe s := by
  refine sorted_set sr (I.ok.hd hc) (by omega) fun s' p out c' ns k g o hp hg hi hs hm hl => ?_
  obtain rfl : ns = srtU i := lt_uniq (fun k => by rw [hm k, srtU_mem]; simp) hs (srtU_pw i)
  have hlen : ((srtU i).map V.int).length ≤ szL := by rw [List.length_map, hl]; exact Nat.le_trans hn (Nat.le_trans (Nat.le_of_lt h60) (by decide))
  have hn0 : H p = none := I.hok.fresh hp
  have J : Inv X pins σ (upd H p (.lst ((srtU i).map V.int))) { s with heap := s'.heap, gens := s'.gens, drawn := s'.drawn, toks := s'.toks } :=
    I.call (ch := []) (Un.laid k hp hn0) (I.hok.laid k hp ⟨by rw [← szL_eq]; exact hlen, out.toList, c', vals_of_ints hi, hg⟩) (by rw [g]; exact I.bare) (fun _ z => nomatch z)
  have e : s' = { s with heap := s'.heap, gens := s'.gens, drawn := s'.drawn, toks := s'.toks } := by
    cases s'
    cases s
    cases o
    rfl
  rw [e]
  exact ⟨.ref p, _, J, rfl, q _ _ (.lst hn0 hlen (ints_vals _))⟩
/-- sorted(set(..)) of numbers -/
theorem sset_run (hc : X.calm = true) {Q : VK} {pins : List (Addr × Obj)} {s : Shared} {σ : Sg} {H : Hp} {F : Addr → Prop} (I : Inv X pins σ H s) {us : List Value} {xs : List V} {ws : List W} {r : W × Bool}
    (rs : Vals xs us) (ar : PkRs X.K H F xs ws) (h : biW .set ws = some r) (q : Rs X.K H F Q r) :
    wpAny (model X.prog X.w) X.A (call (.type "set") us) (fun v s' => wpAny (model X.prog X.w) X.A (call (.builtin "sorted") [v]) (EP X pins σ Q) X.xe s') X.xe s := by
  have fin : ∀ {i : List Int}, i.length < 60 → r = (.lst ((srtU i).map .int), true) → ∀ (h' : Heap) (tk c : Nat), SetR X.w h' s.heap.objs.size (fun j => decide (j ∈ i)) c → c ≤ i.length → (∀ b o, s.heap.get? b = some o → h'.get? b = some o) →
      wpAny (model X.prog X.w) X.A (call (.builtin "sorted") [.ref s.heap.objs.size]) (EP X pins σ Q) X.xe { s with heap := h', toks := tk } := fun {i} h60 er h' tk c sr hcl kp => by
    subst er
    exact sorted_setR hc (I.kept (t' := tk) kp) sr hcl h60 q
  match ws, h, ar with
  | [.lst ys], h, ar =>
    obtain ⟨v, rfl, b⟩ := ar.one
    have h : (if ys.length < 60 then (asInts ys).map fun i => (W.lst ((srtU i).map .int), true) else none) = some r := h
    by_cases h60 : ys.length < 60
    · rw [if_pos h60] at h
      obtain ⟨i, e1, rfl⟩ := Option.map_eq_some_iff.mp h
      obtain ⟨p, vs, rfl, h1, hz, hr⟩ := b.lst
      obtain rfl := ints_rel hr e1
      have hl := asInts_len e1
      obtain ⟨its, rv, hl', hz'⟩ := I.list h1
      rw [Vals.ref1 rs]
      refine set_listI i (I.ok.hd hc) hl'.isList (by simpa using rv.ints) (by show i.length + 1 < scanBound; unfold scanBound; omega) fun h' tk c sr hcl kp => fin (by omega) rfl h' tk c sr hcl kp
    · rw [if_neg h60] at h; cases h
  | [.tup ys], h, ar =>
    obtain ⟨v, rfl, b⟩ := ar.one
    have h : (if ys.length < 60 then (asInts ys).map fun i => (W.lst ((srtU i).map .int), true) else none) = some r := h
    by_cases h60 : ys.length < 60
    · rw [if_pos h60] at h
      obtain ⟨i, e1, rfl⟩ := Option.map_eq_some_iff.mp h
      obtain ⟨p, vs, rfl, h1, hz, hr⟩ := b.tup
      obtain rfl := ints_rel hr e1
      have hl := asInts_len e1
      obtain ⟨its, rv, hl', hz'⟩ := I.tuple h1
      rw [Vals.ref1 rs]
      refine call_set_tupI i (I.ok.hd hc) (show s.heap.IsTuple p its.toArray from hl') (by simpa using rv.ints) (by show i.length + 1 < scanBound; unfold scanBound; omega) fun h' tk c sr hcl kp => fin (by omega) rfl h' tk c sr hcl kp
    · rw [if_neg h60] at h; cases h
/-- sorted(set(a)) -/
theorem x_sset {a : Expr} (hc : c.K = X.K) (calm : X.calm = true) (hg : Gl X "sorted") (hm : X.mg "sorted" = none) (hg2 : Gl X "set") (hm2 : X.mg "set" = none) (hp : plainE a = true) (ha : PA X [a] (tXL c eas)) :
    PE X (.Call (.Name "sorted" p) [.Call (.Name "set" p2) [a] [] pos2] [] pos) (tX c (.bi .set eas)) := by
  refine ⟨fun pins s σ H Q I ⟨A, ρ, F, Pn, hs, q⟩ => ?_⟩
  have hA : tXL c eas σ H fun xs H1 => ∃ F1 ws r, PkRs c.K H1 F1 xs ws ∧ biW .set ws = some r ∧ Rs c.K H1 F1 Q r := by
    refine tXL_of hs q fun as vs ρ1 H1 F1 m q1 => ?_
    obtain ⟨w, r, e1, e2, q2⟩ := lL_ok q1
    exact ⟨F1, w, r, m.pk e1, e2, m.fin q2⟩
  have inner : wpAny (model X.prog X.w) X.A (eval (.Call (.Name "set" p2) [a] [] pos2) X.env) (fun v s' => wpAny (model X.prog X.w) X.A (call (.builtin "sorted") [v]) (EP X pins σ Q) X.xe s') X.xe s := by
    refine Call_ (ld_blt I hg2 hm2 boot_set (PyProof.Rows.callWith_type1 (thn (ha.run pos2 pins s σ H _ I hA) fun us s1 ⟨vs, H1, I1, r1, F1, ws, r, k1, k2, k3⟩ => ?_) (star_cons _ hp _) rfl))
    rw [hc] at k1 k3
    exact sset_run calm I1 r1 k1 k2 k3
  refine wpAny_Call_Name_kw (ld_blt I hg hm boot_sorted ?_ (by decide +kernel) (by decide +kernel))
  exact PyProof.Rows.callWith_builtin1 (args_cons (thn inner fun v s1 q1 => args_nil q1) (star_cons _ rfl _)) (star_cons _ rfl _) rfl
theorem x_srt (hc : c.K = X.K) (calm : X.calm = true) (hg : Gl X "sorted") (hm : X.mg "sorted" = none) (hp : plainE e = true) (ha : PA X [e] (tXL c eas)) : PE X (.Call (.Name "sorted" p) [e] [] pos) (tX c (.bi .sorted eas)) := by
  refine peImp (pe_callB (call_sortedW calm) hg hm boot_sorted ha (by decide +kernel) (by decide +kernel) (star_cons _ hp _) rfl) fun σ H Q ⟨A, ρ, F, Pn, hs, q⟩ => ?_
  refine tXL_of hs q fun as vs ρ1 H1 F1 m q1 => ?_
  obtain ⟨w, r, e1, e2, q2⟩ := lL_ok q1
  rw [← hc]
  exact ⟨F1, w, r, m.pk e1, e2, m.fin q2⟩
end
end Py

namespace Py
open PySem PySem.Spec PyProof.Rows L2
variable [HW]
section
variable {K : PySem.W.Frag} {A : Nat → Option Addr} {σ σ' : Sg} {ρ ρ' : Env} {H H' : Hp} {F F' : Addr → Prop} {Pn : List (Addr × W)}
/-! ### names forgotten and given back -/
theorem wpE_len (ρ : Env) : ∀ l : List Nat, (wpE ρ l).length = ρ.length
  | [] => rfl
  | i :: l => by simp [wpE, wpE_len ρ l]
theorem wpE_in (ρ : Env) : ∀ (l : List Nat) (j : Nat), j ∈ l → (wpE ρ l)[j]? = none ∨ (wpE ρ l)[j]? = some none
  | [], j, h => nomatch h
  | i :: l, j, h => by
    unfold wpE
    by_cases q : j = i
    · subst q
      by_cases hl : j < (wpE ρ l).length
      · right; rw [List.getElem?_set_self hl]
      · left; exact List.getElem?_eq_none_iff.mpr (by simpa using hl)
    · rw [List.getElem?_set_ne (Ne.symm q)]
      exact wpE_in ρ l j (by simpa [q] using h)
theorem wpE_out (ρ : Env) : ∀ (l : List Nat) (j : Nat), j ∉ l → (wpE ρ l)[j]? = ρ[j]?
  | [], j, h => rfl
  | i :: l, j, h => by
    simp only [List.mem_cons, not_or] at h
    unfold wpE
    rw [List.getElem?_set_ne (Ne.symm h.1)]
    exact wpE_out ρ l j h.2
theorem wipe_out' (σ : Sg) : ∀ (l : List Nat) (j : Nat), j ∉ l → (wipe σ l)[j]? = σ[j]?
  | [], j, h => rfl
  | i :: l, j, h => by
    simp only [List.mem_cons, not_or] at h
    unfold wipe
    rw [List.getElem?_set_ne (Ne.symm h.1)]
    exact wipe_out' σ l j h.2
theorem wipe_in' (σ : Sg) : ∀ (l : List Nat) (j : Nat), j ∈ l → (wipe σ l)[j]? = if j < σ.length then some none else none
  | [], j, h => nomatch h
  | i :: l, j, h => by
    unfold wipe
    by_cases q : j = i
    · subst q
      by_cases hl : j < σ.length
      · rw [if_pos hl, List.getElem?_set_self (by rw [wipe_length]; exact hl)]
      · rw [if_neg hl]; exact List.getElem?_eq_none_iff.mpr (by rw [List.length_set, wipe_length]; omega)
    · rw [List.getElem?_set_ne (Ne.symm q)]
      exact wipe_in' σ l j (by simpa [q] using h)
theorem wipe_eq {l : List Nat} (hl : σ'.length = σ.length) (h : ∀ j, j ∉ l → σ'[j]? = σ[j]?) : wipe σ' l = wipe σ l := by
  apply List.ext_getElem?
  intro j
  by_cases q : j ∈ l
  · rw [wipe_in' σ' l j q, wipe_in' σ l j q, hl]
  · rw [wipe_out' σ' l j q, wipe_out' σ l j q]; exact h j q
theorem rsE_len (ρ0 ρ : Env) : ∀ l : List Nat, (rsE ρ0 ρ l).length = ρ.length
  | [] => rfl
  | i :: l => by
    unfold rsE
    split
    · simp [rsE_len ρ0 ρ l]
    · exact rsE_len ρ0 ρ l
theorem rsE_out (ρ0 ρ : Env) : ∀ (l : List Nat) (j : Nat), j ∉ l → (rsE ρ0 ρ l)[j]? = ρ[j]?
  | [], j, h => rfl
  | i :: l, j, h => by
    simp only [List.mem_cons, not_or] at h
    unfold rsE
    split
    · rw [List.getElem?_set_ne (Ne.symm h.1)]; exact rsE_out ρ0 ρ l j h.2
    · exact rsE_out ρ0 ρ l j h.2
theorem rsE_in {ρ0 ρ : Env} (hl : ρ0.length = ρ.length) : ∀ (l : List Nat) (j : Nat), j ∈ l → (rsE ρ0 ρ l)[j]? = ρ0[j]?
  | [], j, h => nomatch h
  | i :: l, j, h => by
    unfold rsE
    by_cases q : j = i
    · subst q
      cases e : ρ0[j]? with
      | some x =>
        have hj := lt_of_get e
        dsimp only
        rw [List.getElem?_set_self (by rw [rsE_len]; omega)]
      | none =>
        dsimp only
        have : ρ0.length ≤ j := List.getElem?_eq_none_iff.mp e
        exact List.getElem?_eq_none_iff.mpr (by rw [rsE_len]; omega)
    · have ih := rsE_in hl l j (by simpa [q] using h)
      cases e : ρ0[i]? with
      | some x => dsimp only; rw [List.getElem?_set_ne (Ne.symm q)]; exact ih
      | none => exact ih

/-- the objects of forgotten names -/
def pw1 (σ : Sg) (ρ : Env) (i : Nat) : List (Addr × W) := match ρ[i]?, σ[i]? with
  | some (some (w, f)), some (some (.ref a)) => if f = .sh then [] else [(a, w)]
  | _, _ => []
def pw (σ : Sg) (ρ : Env) : List Nat → List (Addr × W)
  | [] => []
  | i :: r => pw1 σ ρ i ++ pw σ ρ r
theorem pw1_mem {i : Nat} {p : Addr × W} : p ∈ pw1 σ ρ i ↔ ∃ f, ρ[i]? = some (some (p.2, f)) ∧ f ≠ Fl.sh ∧ σ[i]? = some (some (.ref p.1)) := by
  unfold pw1
  constructor
  · intro h
    split at h
    · rename_i w f a e1 e2
      by_cases q : f = .sh
      · rw [if_pos q] at h; cases h
      · rw [if_neg q] at h
        obtain rfl := List.mem_singleton.mp h
        exact ⟨f, e1, q, e2⟩
    · cases h
  · rintro ⟨f, e1, q, e2⟩
    rw [e1, e2]
    simp [q]
theorem pw_mem {p : Addr × W} : ∀ {l : List Nat}, p ∈ pw σ ρ l ↔ ∃ i ∈ l, ∃ f, ρ[i]? = some (some (p.2, f)) ∧ f ≠ Fl.sh ∧ σ[i]? = some (some (.ref p.1))
  | [] => by simp [pw]
  | i :: l => by
    unfold pw
    rw [List.mem_append, pw1_mem, pw_mem (l := l)]
    simp
theorem pw_sla {p : Addr × W} {l : List Nat} (h : p ∈ pw σ ρ l) : ∃ i ∈ l, SlA σ ρ i p.1 := by
  obtain ⟨i, hi, f, e1, e2, e3⟩ := pw_mem.mp h
  exact ⟨i, hi, p.2, f, e1, e2, e3⟩
theorem pw_nodup (hs : SRel K A σ ρ H F Pn) : ∀ {l : List Nat}, l.Nodup → ((pw σ ρ l).map (·.1)).Nodup
  | [], _ => List.nodup_nil
  | i :: l, h => by
    obtain ⟨h1, h2⟩ := List.nodup_cons.mp h
    unfold pw
    rw [List.map_append]
    refine List.nodup_append.mpr ⟨?_, pw_nodup hs h2, fun a ha b hb e => ?_⟩
    · unfold pw1
      split
      · split <;> simp
      · simp
    · obtain ⟨p, hp, rfl⟩ := List.mem_map.mp ha
      obtain ⟨q, hq, rfl⟩ := List.mem_map.mp hb
      obtain ⟨f, e1, e2, e3⟩ := pw1_mem.mp hp
      obtain ⟨j, hj, s⟩ := pw_sla hq
      have : i = j := hs.dj i j p.1 ⟨p.2, f, e1, e2, e3⟩ (e ▸ s)
      exact h1 (this ▸ hj)
theorem sla_wp {l : List Nat} {j : Nat} {a : Addr} (h : SlA (wipe σ l) (wpE ρ l) j a) : j ∉ l ∧ SlA σ ρ j a := by
  obtain ⟨w, f, e, n, s⟩ := h
  by_cases q : j ∈ l
  · rcases wpE_in ρ l j q with z | z <;> (rw [z] at e; cases e)
  · rw [wpE_out ρ l j q] at e
    rw [wipe_out' σ l j q] at s
    exact ⟨q, w, f, e, n, s⟩
theorem om_wp {l : List Nat} {a : Addr} (h : Om (wipe σ l) (wpE ρ l) a) : Om σ ρ a := by
  obtain ⟨j, w, f, e, n, s⟩ := h
  by_cases q : j ∈ l
  · rcases wpE_in ρ l j q with z | z <;> (rw [z] at e; cases e)
  · rw [wpE_out ρ l j q] at e
    rw [wipe_out' σ l j q] at s
    exact ⟨j, w, f, e, n, s⟩
theorem ow_wp {l : List Nat} {a : Addr} (h : Ow (wipe σ l) (wpE ρ l) a) : Ow σ ρ a := by
  obtain ⟨j, w, f, e, n, s⟩ := h
  by_cases q : j ∈ l
  · rcases wpE_in ρ l j q with z | z <;> (rw [z] at e; cases e)
  · rw [wpE_out ρ l j q] at e
    rw [wipe_out' σ l j q] at s
    exact ⟨j, w, f, e, n, s⟩
theorem SRel.wipe (hs : SRel K A σ ρ H F Pn) {l : List Nat} (nd : l.Nodup) : SRel K A (wipe σ l) (wpE ρ l) H F (pw σ ρ l ++ Pn) := by
  refine ⟨by rw [wpE_len, wipe_length]; exact hs.ln, fun j w e => ?_, fun j w f e n => ?_, fun j w f e q => ?_, fun i j a h1 h2 => hs.dj i j a (sla_wp h1).2 (sla_wp h2).2, fun p hp => ?_, ?_, hs.ff⟩
  · by_cases q : j ∈ l
    · rcases wpE_in ρ l j q with z | z <;> (rw [z] at e; cases e)
    · rw [wpE_out ρ l j q] at e
      rw [wipe_out' σ l j q]
      exact hs.sh j w e
  · by_cases q : j ∈ l
    · rcases wpE_in ρ l j q with z | z <;> (rw [z] at e; cases e)
    · rw [wpE_out ρ l j q] at e
      rw [wipe_out' σ l j q]
      exact hs.ow j w f e n
  · by_cases z : j ∈ l
    · rcases wpE_in ρ l j z with z | z <;> (rw [z] at e; cases e)
    · rw [wpE_out ρ l j z] at e
      rw [wipe_out' σ l j z]
      exact hs.io j w f e q
  · rcases List.mem_append.mp hp with hp | hp
    · obtain ⟨i, hi, f, e1, e2, e3⟩ := pw_mem.mp hp
      obtain ⟨a, x, y, z⟩ := hs.ow i p.2 f e1 e2
      rw [e3] at x; cases x
      refine ⟨y, z, fun j s => ?_⟩
      obtain ⟨nj, s⟩ := sla_wp s
      exact nj (hs.dj i j p.1 ⟨p.2, f, e1, e2, e3⟩ s ▸ hi)
    · obtain ⟨x, y, z⟩ := hs.pn p hp
      exact ⟨x, y, fun j s => z j (sla_wp s).2⟩
  · rw [List.map_append]
    refine List.nodup_append.mpr ⟨pw_nodup hs nd, hs.pd, fun a ha b hb e => ?_⟩
    obtain ⟨p, hp, rfl⟩ := List.mem_map.mp ha
    obtain ⟨q, hq, rfl⟩ := List.mem_map.mp hb
    obtain ⟨i, _, s⟩ := pw_sla hp
    exact (hs.pn q hq).2.2 i (e ▸ s)
theorem Stp.wipe {l : List Nat} : Stp σ ρ H F (wipe σ l) (wpE ρ l) H F :=
  ⟨fun _ _ h _ => h, fun _ h => h, fun _ _ _ h => .inl h, fun _ _ _ h => om_wp h, fun _ _ _ _ h => (sla_wp h).2, fun _ _ _ h => ow_wp h, fun _ o h => ⟨o, h⟩⟩
/-- given back, behind the loop -/
theorem SRel.back {l : List Nat} {ρL : Env} {H1 : Hp} {F1 : Addr → Prop} {P0 P1 : List (Addr × W)} (hL : SRel K A σ ρL H1 F1 P0) (hs : SRel K A (L2.wipe σ l) (wpE ρ l) H F (Pn ++ (pw σ ρL l ++ P1))) (st : Stp σ ρL H1 F1 (L2.wipe σ l) (wpE ρ l) H F) :
    SRel K A σ (rsE ρL ρ l) H F (Pn ++ P1) ∧ Stp σ ρL H1 F1 σ (rsE ρL ρ l) H F := by
  have hlen : ρL.length = ρ.length := by have := hs.ln; rw [wpE_len, wipe_length] at this; rw [hL.ln, this]
  have get : ∀ (j : Nat) (x : Option (W × Fl)), (rsE ρL ρ l)[j]? = some x → (j ∈ l ∧ ρL[j]? = some x) ∨ (j ∉ l ∧ (wpE ρ l)[j]? = some x ∧ (L2.wipe σ l)[j]? = σ[j]?) := fun j x e => by
    by_cases q : j ∈ l
    · rw [rsE_in hlen l j q] at e; exact .inl ⟨q, e⟩
    · rw [rsE_out ρL ρ l j q] at e
      exact .inr ⟨q, by rw [wpE_out ρ l j q]; exact e, wipe_out' σ l j q⟩
  have sl : ∀ j a, SlA σ (rsE ρL ρ l) j a → (j ∈ l ∧ SlA σ ρL j a) ∨ (j ∉ l ∧ SlA (L2.wipe σ l) (wpE ρ l) j a) := fun j a ⟨w, f, e, n, s⟩ => by
    rcases get j _ e with ⟨q, e⟩ | ⟨q, e, z⟩
    · exact .inl ⟨q, w, f, e, n, s⟩
    · exact .inr ⟨q, w, f, e, n, by rw [z]; exact s⟩
  have inp : ∀ j a, j ∈ l → SlA σ ρL j a → ∃ w, (a, w) ∈ pw σ ρL l := fun j a hj ⟨w, f, e, n, s⟩ => ⟨w, pw_mem.mpr ⟨j, hj, f, e, n, s⟩⟩
  refine ⟨⟨by rw [rsE_len, ← hlen]; exact hL.ln, fun j w e => ?_, fun j w f e n => ?_, fun j w f e q => ?_, fun i j a h1 h2 => ?_, fun p hp => ?_, ?_, hs.ff⟩, ⟨st.kp, st.fr, st.nf, fun a o h z => ?_, fun a o h j z => ?_, fun a o h z => ?_, st.al⟩⟩
  · rcases get j _ e with ⟨q, e⟩ | ⟨q, e, z⟩
    · obtain ⟨v, a, b⟩ := hL.sh j w e
      exact ⟨v, a, st.hr hL b⟩
    · rw [← z]; exact hs.sh j w e
  · rcases get j _ e with ⟨q, e⟩ | ⟨q, e, z⟩
    · obtain ⟨a, x, y, z⟩ := hL.ow j w f e n
      obtain ⟨x1, x2, _⟩ := hs.pn (a, w) (List.mem_append_right _ (List.mem_append_left _ (pw_mem.mpr ⟨j, q, f, e, n, x⟩)))
      exact ⟨a, x, x1, x2⟩
    · rw [← z]; exact hs.ow j w f e n
  · rcases get j _ e with ⟨z, e⟩ | ⟨z, e, z'⟩
    · exact hL.io j w f e q
    · rw [← z']; exact hs.io j w f e q
  · rcases sl i a h1 with ⟨q1, s1⟩ | ⟨q1, s1⟩
    · rcases sl j a h2 with ⟨q2, s2⟩ | ⟨q2, s2⟩
      · exact hL.dj i j a s1 s2
      · obtain ⟨w, hw⟩ := inp i a q1 s1
        exact absurd s2 ((hs.pn (a, w) (List.mem_append_right _ (List.mem_append_left _ hw))).2.2 j)
    · rcases sl j a h2 with ⟨q2, s2⟩ | ⟨q2, s2⟩
      · obtain ⟨w, hw⟩ := inp j a q2 s2
        exact absurd s1 ((hs.pn (a, w) (List.mem_append_right _ (List.mem_append_left _ hw))).2.2 i)
      · exact hs.dj i j a s1 s2
  · have hm : p ∈ Pn ++ (pw σ ρL l ++ P1) := by
      rcases List.mem_append.mp hp with z | z
      · exact List.mem_append_left _ z
      · exact List.mem_append_right _ (List.mem_append_right _ z)
    obtain ⟨x, y, z⟩ := hs.pn p hm
    refine ⟨x, y, fun j s => ?_⟩
    rcases sl j _ s with ⟨q1, s1⟩ | ⟨q1, s1⟩
    · obtain ⟨w, hw⟩ := inp j _ q1 s1
      have nd := hs.pd
      rw [List.map_append, List.map_append] at nd
      have hw' : p.1 ∈ (pw σ ρL l).map (·.1) := List.mem_map_of_mem (f := (·.1)) hw
      obtain ⟨n1, n2, n3⟩ := List.nodup_append.mp nd
      rcases List.mem_append.mp hp with k | k
      · exact n3 _ (List.mem_map_of_mem k) _ (List.mem_append_left _ hw') rfl
      · exact (List.nodup_append.mp n2).2.2 _ hw' _ (List.mem_map_of_mem k) rfl
    · exact z j s1
  · have nd := hs.pd
    rw [List.map_append, List.map_append] at nd
    obtain ⟨n1, n2, n3⟩ := List.nodup_append.mp nd
    rw [List.map_append]
    exact List.nodup_append.mpr ⟨n1, (List.nodup_append.mp n2).2.1, fun a ha b hb => n3 a ha b (List.mem_append_right _ hb)⟩
  · obtain ⟨j, w, f, e, n, s⟩ := z
    rcases get j _ e with ⟨q, e⟩ | ⟨q, e, z'⟩
    · exact ⟨j, w, f, e, n, s⟩
    · exact st.no a o h ⟨j, w, f, e, n, by rw [z']; exact s⟩
  · rcases sl j a z with ⟨_, s⟩ | ⟨_, s⟩
    · exact s
    · exact st.ns a o h j s
  · obtain ⟨j, w, f, e, n, s⟩ := z
    rcases get j _ e with ⟨q, e⟩ | ⟨q, e, z'⟩
    · exact ⟨j, w, f, e, n, s⟩
    · exact st.nw a o h ⟨j, w, f, e, n, by rw [z']; exact s⟩
/-- the new list grows -/
theorem SRel.grow {D : Addr} {w : W} {us : List V} {ws : List W} (hs : SRel K A σ ρ H F ((D, w) :: Pn)) (hz : us.length ≤ szL) (hr : HRs K H F us ws) :
    SRel K A σ ρ (upd H D (.lst us)) F ((D, .lst ws) :: Pn) := by
  obtain ⟨nF, hc, nS⟩ := hs.pn (D, w) (by simp)
  obtain ⟨l0, e0, m0⟩ := hc.obj
  have nd := hs.pd
  simp only [List.map_cons, List.nodup_cons] at nd
  have rd : ∀ a u, a ≠ D → Rd H a u → Rd (upd H D (.lst us)) a u := fun a u n h => by
    rcases h with h | ⟨o, h⟩
    · exact .inl (by rw [upd_ne n]; exact h)
    · exact .inr ⟨o, by rw [upd_ne n]; exact h⟩
  have sq : ∀ a xs, SqT K H a xs → SqT K (upd H D (.lst us)) a xs := fun a xs h => by
    rcases h with h | h
    · refine .inl (rd a _ ?_ h)
      rintro rfl
      exact no_tup e0 m0 h
    · exact .inr h
  have hrm : ∀ {v : V} {x : W}, HR K H F v x → HR K (upd H D (.lst us)) F v x := fun h => h.mono sq (fun _ q => q) fun a xs f r => rd a _ (fun z => nF (z ▸ f)) r
  have hrs : ∀ {v : List V} {x : List W}, HRs K H F v x → HRs K (upd H D (.lst us)) F v x := fun h => h.mono sq (fun _ q => q) fun a xs f r => rd a _ (fun z => nF (z ▸ f)) r
  have hds : ∀ {es : DEs} {x : List (W × W)}, DRel K H F es x → DRel K (upd H D (.lst us)) F es x := fun h => h.mono sq (fun _ q => q) fun a xs f r => rd a _ (fun z => nF (z ▸ f)) r
  have cell : ∀ {a : Addr} {x : W}, a ≠ D → Cell K H F a x → Cell K (upd H D (.lst us)) F a x := fun {a x} n h => by
    cases x <;> first | exact h.elim | skip
    · obtain ⟨l, e, z, r⟩ := h
      exact ⟨l, by rw [upd_ne n]; exact e, z, hrs r⟩
    · obtain ⟨l, e, z, k, r⟩ := h
      exact ⟨l, by rw [upd_ne n]; exact e, z, k, hds r⟩
  refine ⟨hs.ln, fun j x e => ?_, fun j x f e n => ?_, hs.io, hs.dj, fun p hp => ?_, by simpa using hs.pd, fun a f => ?_⟩
  · obtain ⟨v, a, b⟩ := hs.sh j x e
    exact ⟨v, a, hrm b⟩
  · obtain ⟨a, y, z, k⟩ := hs.ow j x f e n
    exact ⟨a, y, z, cell (fun q => nS j ⟨x, f, e, n, q ▸ y⟩) k⟩
  · rcases List.mem_cons.mp hp with rfl | hp
    · exact ⟨nF, ⟨us, upd_same, hz, hrs hr⟩, nS⟩
    · obtain ⟨x, y, z⟩ := hs.pn p (List.mem_cons_of_mem _ hp)
      exact ⟨x, cell (fun q => nd.1 (q ▸ List.mem_map_of_mem hp)) y, z⟩
  · obtain ⟨o, e⟩ := hs.ff a f
    have n : a ≠ D := fun z => nF (by show F D; rw [← z]; exact f)
    exact ⟨o, by rw [upd_ne n]; exact e⟩
end

/-! ### a list comprehension -/
/-- in a comprehension's block nothing is raised -/
def Cf.nox (c : Cf) : Cf := { c with wx := fun _ _ _ _ => False }
section
variable {X : Cx} {c : Cf} {elt tg iter : Expr} {ee et eas : E} {pos : Pos}
theorem lcL_inv {step : W → Env → Out (Option W)} {w : W} {r acc accF : List W} {ρ ρ3 : Env} (h : lcL step (w :: r) acc ρ = .ok accF ρ3) :
    (∃ y ρ1, step w ρ = .ok (some y) ρ1 ∧ lcL step r (acc ++ [y]) ρ1 = .ok accF ρ3) ∨ ∃ ρ1, step w ρ = .ok none ρ1 ∧ lcL step r acc ρ1 = .ok accF ρ3 := by
  simp only [lcL] at h
  split at h
  · rename_i y ρ1 e
    exact .inl ⟨y, ρ1, e, h⟩
  · rename_i ρ1 e
    exact .inr ⟨ρ1, e, h⟩
  · cases h
/-- what stands between two turns -/
structure LcI (c : Cf) (A : Nat → Option Addr) (σ : Sg) (ρL : Env) (H1 : Hp) (F1 : Addr → Prop) (own : List Nat) (P1 : List (Addr × W)) (D : Addr) (step : W → Env → Out (Option W)) (its accF : List W) (ρ3 : Env) (i : Nat) (H : Hp) : Prop where
  ex : ∃ ρ F acc, i ≤ its.length ∧ acc.length ≤ i ∧ lcL step (its.drop i) acc ρ = .ok accF ρ3 ∧
    SRel c.K A (L2.wipe σ own) (wpE ρ own) H F ([(D, .lst acc)] ++ (pw σ ρL own ++ P1)) ∧ Stp σ ρL H1 F1 (L2.wipe σ own) (wpE ρ own) H F
theorem lc_read {A : Nat → Option Addr} {σ : Sg} {ρL : Env} {H1 : Hp} {F1 : Addr → Prop} {P1 : List (Addr × W)} {p : Pt} {own : List Nat} {its accF : List W} {ρ3 : Env} {J : It} {Q : Hp → Prop} (nd : own.Nodup) (hsub : ∀ j ∈ p.ns, j ∈ own) (hL : SRel c.K A σ ρL H1 F1 P1) (G : ItG c.K σ ρL H1 F1 J its) {D : Addr} (hD : H1 D = none) (hz : its.length ≤ szL)
    (hl : lcL (stepE own p (ev c.C et).t (ev c.C ee).x) its [] ρL = .ok accF ρ3)
    (fin : ∀ H F, SRel c.K A σ (rsE ρL ρ3 own) H F ([(D, .lst accF)] ++ P1) → Stp σ ρL H1 F1 σ (rsE ρL ρ3 own) H F → Q H) :
    ∃ W : Nat → Nat → Hp → Prop, (∃ m, W 0 m (upd H1 D (.lst []))) ∧ ∀ i m H, W i m H → (J.stop i H ∧ Q H) ∨ (J.go i H ∧ ∃ Nx : Hp → Prop, (∀ H', Nx H' → ∃ m', m' < m ∧ W (i + 1) m' H') ∧ ∀ x H', J.yld i H x H' →
      gP c.K p x (L2.wipe σ own) H' fun σ2 H2 => L2.wipe σ2 own = L2.wipe σ own ∧ tXB c.nox et σ2 H2 fun b H3 => if b = true then tX c.nox ee σ2 H3 fun y H4 => ∃ acc, H4 D = some (.lst acc) ∧ acc.length < sizeLine ∧ Nx (upd H4 D (.lst (acc ++ [y]))) else Nx H3) := by
  generalize hst : stepE own p (ev c.C et).t (ev c.C ee).x = step at hl
  refine ⟨fun i m H => m = its.length - i ∧ LcI c A σ ρL H1 F1 own P1 D step its accF ρ3 i H, ⟨_, rfl, ⟨ρL, F1, [], Nat.zero_le _, Nat.le_refl _, hl, ?_, ?_⟩⟩, ?_⟩
  · exact (hL.wipe nd).pend (w := .lst []) hD ⟨[], upd_same, Nat.zero_le _, .nil⟩
  · exact Stp.wipe.trans (.alloc hD)
  rintro i m H ⟨rfl, ⟨ρ, F, acc, hi, ha, hl, hs, st⟩⟩
  by_cases hlt : i < its.length
  · refine .inr ⟨G.go i H F _ _ st hlt, LcI c A σ ρL H1 F1 own P1 D step its accF ρ3 (i + 1), fun H' n => ⟨its.length - (i + 1), by omega, rfl, n⟩, fun x H' y => ?_⟩
    obtain ⟨w, ew, nw⟩ := G.yl i H F _ _ x H' st hlt y
    have ed : its.drop i = w :: its.drop (i + 1) := by
      rw [List.drop_eq_getElem_cons hlt]
      congr 1
      rw [List.getElem?_eq_getElem hlt] at ew
      exact Option.some.inj ew
    rw [ed] at hl
    -- the item's heap
    obtain ⟨s1, hr, t1⟩ : SRel c.K A (L2.wipe σ own) (wpE ρ own) H' F ([(D, .lst acc)] ++ (pw σ ρL own ++ P1)) ∧ HR c.K H' F x w ∧ Stp (L2.wipe σ own) (wpE ρ own) H F (L2.wipe σ own) (wpE ρ own) H' F := by
      cases nw with
      | old r => exact ⟨hs, r, .refl⟩
      | tup hp z r => exact ⟨hs.alloc hp, .tup (.inl (.inl upd_same)) z (r.upd hp), .alloc hp⟩
    have sw : ∃ o ρd, step w ρ = .ok o ρd ∧ lcL step (its.drop (i + 1)) (match o with | some y => acc ++ [y] | none => acc) ρd = .ok accF ρ3 := by
      rcases lcL_inv hl with ⟨y, ρd, e, h⟩ | ⟨ρd, e, h⟩
      · exact ⟨some y, ρd, e, h⟩
      · exact ⟨none, ρd, e, h⟩
    obtain ⟨o, ρd, es, hl'⟩ := sw
    rw [← hst] at es
    unfold stepE at es
    cases ea : asP p w (wpE ρ own) with
    | none => rw [ea] at es; cases es
    | some ρa =>
      rw [ea] at es
      obtain ⟨k, ρb, et', es⟩ := bind_ok es
      refine ⟨A, wpE ρ own, F, _, w, ρa, s1, hr, ea, fun σ2 s2 t2 off => ?_⟩
      have hw : L2.wipe σ2 own = L2.wipe σ own := by
        rw [wipe_eq (σ := L2.wipe σ own) off.1 fun j hj => (off.2 j fun z => hj (hsub j z)).1]
        exact wipe_eq (by rw [wipe_length]) fun j hj => wipe_out' σ own j hj
      refine ⟨hw, A, ρa, F, _, s2, ?_⟩
      rw [show (ev c.nox.C et).t ρa = _ from et']
      intro H3 F3 t3 s3
      -- the turn's end
      have next : ∀ {H5 : Hp} {F5 : Addr → Prop} {acc' : List W}, acc'.length ≤ i + 1 → lcL step (its.drop (i + 1)) acc' ρd = .ok accF ρ3 → SRel c.K A σ2 ρd H5 F5 ([(D, .lst acc')] ++ (pw σ ρL own ++ P1)) → Stp σ ρL H1 F1 σ2 ρd H5 F5 → LcI c A σ ρL H1 F1 own P1 D step its accF ρ3 (i + 1) H5 := fun {H5 F5 acc'} hz' hl5 s5 t5 => by
        refine ⟨ρd, F5, acc', hlt, hz', hl5, ?_, ?_⟩
        · rw [← hw]; exact (s5.wipe nd).drop
        · rw [← hw]; exact t5.trans .wipe
      have t13 : Stp σ ρL H1 F1 σ2 ρb H3 F3 := ((st.trans t1).trans t2).trans t3
      cases k with
      | false =>
        refine iteF ?_
        obtain ⟨rfl, rfl⟩ : none = o ∧ ρb = ρd := by simpa using es
        exact next (acc' := acc) (by omega) hl' s3 t13
      | true =>
        refine iteT ?_
        have es : stepV (ev c.C ee).x ρb = .ok o ρd := es
        unfold stepV at es
        obtain ⟨a, ρc, ex', es⟩ := bind_ok es
        cases eh : shr ρc a with
        | none => rw [eh] at es; cases es
        | some q =>
          obtain ⟨w', ρe⟩ := q
          rw [eh] at es
          obtain ⟨rfl, rfl⟩ : some w' = o ∧ ρe = ρd := by simpa using es
          refine ⟨A, ρb, F3, _, s3, ?_⟩
          rw [show (ev c.nox.C ee).x ρb = _ from ex']
          intro v H4 F4 t4 s4 ar fr
          have s4' : SRel c.K A σ2 ρc H4 F4 ([] ++ pnd a v ++ ([(D, .lst acc)] ++ (pw σ ρL own ++ P1))) := s4
          obtain ⟨F5, s5, r5, m5, k5⟩ := AR.share s4' ar eh
          have s5 : SRel c.K A σ2 ρe H4 F5 ([(D, .lst acc)] ++ (pw σ ρL own ++ P1)) := by simpa using s5
          obtain ⟨_, ⟨us, e1, e2, e3⟩, _⟩ := s5.pn (D, .lst acc) (by simp)
          have e3l := e3.length
          have hzz : (us ++ [v]).length ≤ szL := by rw [List.length_append]; simp; omega
          refine ⟨us, e1, by rw [← szL_eq]; omega, next (acc' := acc ++ [w']) (by simp; omega) hl' (SRel.grow s5 hzz (e3.append (.one r5))) ?_⟩
          have t5 := k5 H3 F3 ρb t4 fr
          have t6 : Stp σ ρL H1 F1 σ2 ρe H4 F5 := t13.trans t5
          have hD1 : ∀ a o, H1 a = some o → a ≠ D := fun a o h z => by rw [z, hD] at h; cases h
          exact ⟨fun a o h n => by rw [upd_ne (hD1 a o h)]; exact t6.kp a o h n, t6.fr, t6.nf, t6.no, t6.ns, t6.nw, fun a o h => by rw [upd_ne (hD1 a o h)]; exact t6.al a o h⟩
  · have e : i = its.length := by omega
    subst e
    rw [List.drop_length] at hl
    obtain ⟨rfl, rfl⟩ : acc = accF ∧ ρ = ρ3 := by simpa [lcL] using hl
    obtain ⟨s1, t1⟩ := SRel.back (Pn := [(D, .lst acc)]) hL hs st
    exact .inl ⟨G.st _ H F _ _ st (Nat.le_refl _), fin H F s1 t1⟩
theorem lc_imp {k : IK} {p : Pt} {own : List Nat} {σ : Sg} {H : Hp} {Q : VK} (nd : own.Nodup) (hsub : ∀ j ∈ p.ns, j ∈ own) (h : tX c (.lc ee p et k eas own) σ H Q) : tLc (tI c k eas) (gP c.K p) (tXB c.nox et) (tX c.nox ee) own σ H Q := by
  obtain ⟨A, ρ, F, Pn, hs, q⟩ := h
  refine ⟨A, ρ, F, Pn, hs, q.bind.mono (fun us ρ1 q1 => ?_) fun _ _ _ e => e⟩
  cases e1 : (ress ρ1 us).bind (itW k) with
  | none => simp only [e1] at q1; exact q1.elim
  | some its =>
    simp only [e1] at q1
    refine ⟨its, rfl, fun J vs H1 F1 m G D hD => ?_⟩
    obtain ⟨sL, _⟩ := lk_ok (as := us) m.sr
    cases e2 : lcL (stepE own p (ev c.C et).t (ev c.C ee).x) its [] (lkE ρ1 us) with
    | bad => simp only [e2] at q1; exact q1.elim
    | ex x pl ρ3 => simp only [e2] at q1; exact q1.elim
    | ok acc ρ3 =>
      simp only [e2] at q1
      by_cases hz : its.length ≤ szL
      · rw [if_pos hz] at q1
        refine lc_read nd hsub sL G hD hz e2 fun H' F' s' t' => ?_
        have t1 := (lk_stp (as := us) m.sr).trans t'
        obtain ⟨s2, t2⟩ := ul_ok (as := us) t1 s'
        have hDn : H D = none := m.st.fresh hD
        refine q1 (.ref D) H' F' (m.st.trans t2) ?_ ⟨D, rfl⟩ fun d x z => ?_
        · have : SRel c.K A σ (ulE ρ1 (rsE (lkE ρ1 us) ρ3 own) us) H' F' (pnds us vs ++ ((D, .lst acc) :: Pn)) := s2.perm (by simpa using List.perm_middle.symm)
          exact this.drop
        · obtain ⟨rfl, rfl⟩ : d = D ∧ x = .lst acc := by simpa [pnd] using z
          exact hDn
      · rw [if_neg hz] at q1; exact q1.elim
theorem x_lc {scope : Scope} {ownN : List (Str × Nat)} {k : IK} {p : Pt} {ifs : List Expr} (hc : c.K = X.K) (calm : X.calm = true) (hN : X.N.Nodup) (hi : PI X tg iter (tI c k eas)) (ok : BlkOk X.N X.env.scope scope ownN) (nd : (ownN.map (·.2)).Nodup) (hsub : ∀ j ∈ p.ns, j ∈ ownN.map (·.2))
    (hg : ∀ (s : Shared) (H : Hp) (C : Addr) (cl : List (Str × Addr)) (fp : List Addr), PG (X.blk s H scope (compEnvC scope cl C X.env) fp) tg (gP X.K p))
    (ht : ∀ (s : Shared) (H : Hp) (C : Addr) (cl : List (Str × Addr)) (fp : List Addr), PTs (X.blk s H scope (compEnvC scope cl C X.env) fp) ifs (tXB c.nox et))
    (he : ∀ (s : Shared) (H : Hp) (C : Addr) (cl : List (Str × Addr)) (fp : List Addr), PE (X.blk s H scope (compEnvC scope cl C X.env) fp) elt (tX c.nox ee)) (hf : ∀ x, foldedSetIterable iter X.env x = pure x) :
    PE X (.ListComp elt [⟨tg, iter, ifs, 0⟩] scope pos) (tX c (.lc ee p et k eas (ownN.map (·.2)))) :=
  peImp (pe_lc calm hN hi ok hg ht he hf) fun σ H Q h => by rw [← hc]; exact lc_imp nd hsub h
end
end Py

namespace Py
open PySem PySem.Spec PyProof.Rows L2
variable [HW]
section
variable {K : PySem.W.Frag} {A : Nat → Option Addr} {σ σ' : Sg} {ρ ρ' : Env} {H H' : Hp} {F F' : Addr → Prop} {Pn : List (Addr × W)}
/-! ### what is frozen stays -/
structure MnH (K : PySem.W.Frag) (H1 : Hp) (F1 : Addr → Prop) (H : Hp) (F : Addr → Prop) : Prop where
  fr : ∀ a, F1 a → F a
  rd : ∀ a xs, F1 a → Rd H1 a (.lst xs) → Rd H a (.lst xs)
  tu : ∀ a xs, SqT K H1 a xs → SqT K H a xs
theorem MnH.refl : MnH K H F H F := ⟨fun _ h => h, fun _ _ _ h => h, fun _ _ h => h⟩
theorem MnH.trans {H1 H2 : Hp} {F1 F2 : Addr → Prop} (a : MnH K H F H1 F1) (b : MnH K H1 F1 H2 F2) : MnH K H F H2 F2 :=
  ⟨fun x h => b.fr x (a.fr x h), fun x xs h r => b.rd x xs (a.fr x h) (a.rd x xs h r), fun x xs h => b.tu x xs (a.tu x xs h)⟩
theorem Stp.mn (hs : SRel K A σ ρ H F Pn) (st : Stp σ ρ H F σ' ρ' H' F') : MnH K H F H' F' :=
  ⟨st.fr, fun a xs f r => st.rd hs r fun ⟨i, s⟩ => (hs.slc s).1 f, st.sqt hs⟩
theorem MnH.alloc {p : Addr} {o : HO} (hp : H p = none) : MnH K H F (L2.upd H p o) F :=
  ⟨fun _ h => h, fun _ _ _ r => Rd.upd hp r, fun _ _ r => SqT.upd hp r⟩
theorem MnH.grow {D : Addr} {w : W} {us : List V} (hs : SRel K A σ ρ H F ((D, w) :: Pn)) : MnH K H F (upd H D (.lst us)) F := by
  obtain ⟨nF, hc, nS⟩ := hs.pn (D, w) (by simp)
  obtain ⟨l0, e0, m0⟩ := hc.obj
  have rd : ∀ a u, a ≠ D → Rd H a u → Rd (upd H D (.lst us)) a u := fun a u n h => by
    rcases h with h | ⟨o, h⟩
    · exact .inl (by rw [upd_ne n]; exact h)
    · exact .inr ⟨o, by rw [upd_ne n]; exact h⟩
  refine ⟨fun _ h => h, fun a xs f r => rd a _ (fun z => nF (by show F D; rw [← z]; exact f)) r, fun a xs h => ?_⟩
  rcases h with h | h
  · refine .inl (rd a _ ?_ h)
    rintro rfl
    exact no_tup e0 m0 h
  · exact .inr h
theorem MnH.hrs {H1 : Hp} {F1 : Addr → Prop} (m : MnH K H1 F1 H F) {vs : List V} {ws : List W} (h : HRs K H1 F1 vs ws) : HRs K H F vs ws := h.mono m.tu m.fr m.rd
/-- J walks ws while what is frozen stays -/
structure ItF (K : PySem.W.Frag) (H1 : Hp) (F1 : Addr → Prop) (J : It) (ws : List W) : Prop where
  go : ∀ i H F, MnH K H1 F1 H F → i < ws.length → J.go i H
  yl : ∀ (i : Nat) H F x H', MnH K H1 F1 H F → i < ws.length → J.yld i H x H' → ∃ w, ws[i]? = some w ∧ Nw K H F x H' w false
  st : ∀ i H F, MnH K H1 F1 H F → ws.length ≤ i → J.stop i H
theorem itf_list {a : Addr} {us : List V} {ws : List W} (f : F a) (r : Rd H a (.lst us)) (hr : HRs K H F us ws) : ItF K H F (Itl K a) ws where
  go := fun i H2 F2 m hi => by
    have hl := hr.length
    exact ⟨us, us[i]'(by omega), .inl (m.rd _ _ f r), by simp⟩
  yl := fun i H2 F2 x H' m hi y => by
    obtain ⟨rfl, y⟩ := y
    obtain ⟨w, e, q⟩ := (m.hrs hr).getV (y us (.inl (m.rd _ _ f r)))
    exact ⟨w, e, .old q⟩
  st := fun i H2 F2 m hi => ⟨us, .inl (m.rd _ _ f r), by rw [hr.length]; exact hi⟩
theorem itf_tup {a : Addr} {us : List V} {ws : List W} (r : SqT K H a us) (hr : HRs K H F us ws) : ItF K H F (Itt K a) ws where
  go := fun i H2 F2 m hi => by
    have hl := hr.length
    exact ⟨us, us[i]'(by omega), m.tu a us r, by simp⟩
  yl := fun i H2 F2 x H' m hi y => by
    obtain ⟨rfl, y⟩ := y
    obtain ⟨w, e, q⟩ := (m.hrs hr).getV (y us (m.tu a us r))
    exact ⟨w, e, .old q⟩
  st := fun i H2 F2 m hi => ⟨us, m.tu a us r, by rw [hr.length]; exact hi⟩
end
/-- what a second generator walks -/
def tIF (c : Cf) (k : IK) (es : E) : TI := fun σ H R => ∃ A ρ F Pn, SRel c.K A σ ρ H F Pn ∧ OkX ((ev c.C es).a ρ) (fun us ρ1 => ∃ ws ρ2 its, shrs ρ1 us = some (ws, ρ2) ∧ itW k ws = some its ∧
  ∀ J H1 F1, SRel c.K A σ ρ2 H1 F1 Pn → Stp σ ρ H F σ ρ2 H1 F1 → ItF c.K H1 F1 J its → R J H1) (EX c A σ ρ H F Pn)
section
variable {X : Cx} {c : Cf} {tg e : Expr} {ea : E}
theorem i_seqF (hc : c.K = X.K) (he : PE X e (tX c ea)) : PI X tg e (tIF c .seq (.cons ea .nil)) := by
  refine piImp (pi_seq he) fun σ H R ⟨A, ρ, F, Pn, hs, q⟩ => ?_
  refine one_arg hs q fun u v ρ1 H1 F1 m ⟨ws, ρ2, its, e1, e2, q1⟩ => ?_
  obtain ⟨F2, m2, r2⟩ := m.share e1
  have s2 : SRel c.K A σ ρ2 H1 F2 Pn := by simpa [pnds] using m2.sr
  rw [← hc]
  match ws, r2, e2 with
  | [w], .cons h .nil, e2 =>
    cases w <;> first | (cases e2; done) | skip
    · cases Option.some.inj e2
      obtain ⟨a, us, rfl, r, z, hr⟩ := h.tupI
      exact .inr (.inl ⟨a, rfl, ⟨us, r⟩, q1 _ H1 F2 s2 m2.st (itf_tup r hr)⟩)
    · cases Option.some.inj e2
      cases h with
      | lst f r z hr => exact .inl ⟨_, rfl, ⟨_, .inl r⟩, q1 _ H1 F2 s2 m2.st (itf_list f r hr)⟩
    · cases h
end

/-! ### two generators -/
theorem wpE_get (ρ : Env) : ∀ (l : List Nat) (j : Nat), (wpE ρ l)[j]? = if j ∈ l then (if j < ρ.length then some none else none) else ρ[j]?
  | [], j => by simp [wpE]
  | i :: l, j => by
    have ih := wpE_get ρ l j
    unfold wpE
    by_cases q : j = i
    · subst q
      by_cases hl : j < ρ.length
      · rw [List.getElem?_set_self (by rw [wpE_len]; exact hl)]; simp [hl]
      · rw [List.getElem?_eq_none_iff.mpr (by rw [List.length_set, wpE_len]; omega)]; simp [hl]
    · rw [List.getElem?_set_ne (Ne.symm q), ih]; simp [q]
theorem wpE_wpE {ρ : Env} {l l1 : List Nat} (h : ∀ j ∈ l1, j ∈ l) : wpE (wpE ρ l1) l = wpE ρ l := by
  refine List.ext_getElem? fun j => ?_
  rw [wpE_get (wpE ρ l1) l j, wpE_get ρ l j, wpE_len]
  by_cases q : j ∈ l
  · rw [if_pos q, if_pos q]
  · rw [if_neg q, if_neg q, wpE_out ρ l1 j fun z => q (h j z)]
theorem wipe_wipe {σ : Sg} {l l1 : List Nat} (h : ∀ j ∈ l1, j ∈ l) : L2.wipe (L2.wipe σ l1) l = L2.wipe σ l :=
  wipe_eq (by rw [wipe_length]) fun j hj => wipe_out' σ l1 j fun z => hj (h j z)
section
variable {X : Cx} {c : Cf} {ee et et1 eas es1 : E}
theorem lcM_inv {step : W → Env → Out (Option W)} {w : W} {r acc accF : List W} {ρ ρ3 : Env} (h : lcM step (w :: r) acc ρ = .ok accF ρ3) :
    (∃ y ρ1, step w ρ = .ok (some y) ρ1 ∧ acc.length < szL ∧ lcM step r (acc ++ [y]) ρ1 = .ok accF ρ3) ∨ ∃ ρ1, step w ρ = .ok none ρ1 ∧ lcM step r acc ρ1 = .ok accF ρ3 := by
  simp only [lcM] at h
  split at h
  · rename_i y ρ1 e
    split at h
    · rename_i z; exact .inl ⟨y, ρ1, e, z, h⟩
    · cases h
  · rename_i ρ1 e
    exact .inr ⟨ρ1, e, h⟩
  · cases h
theorem lcO_inv {step : W → List W → Env → Out (List W)} {w : W} {r acc accF : List W} {ρ ρ3 : Env} (h : lcO step (w :: r) acc ρ = .ok accF ρ3) : ∃ acc' ρ1, step w acc ρ = .ok acc' ρ1 ∧ lcO step r acc' ρ1 = .ok accF ρ3 := by
  simp only [lcO] at h
  split at h
  · rename_i acc' ρ1 e; exact ⟨acc', ρ1, e, h⟩
  · cases h
theorem drop_at {its : List W} {i : Nat} {w : W} (hlt : i < its.length) (ew : its[i]? = some w) : its.drop i = w :: its.drop (i + 1) := by
  rw [List.drop_eq_getElem_cons hlt]
  congr 1
  rw [List.getElem?_eq_getElem hlt] at ew
  exact Option.some.inj ew
/-- between two turns of the first -/
structure LcO (c : Cf) (A : Nat → Option Addr) (σ : Sg) (ρL : Env) (H1 : Hp) (F1 : Addr → Prop) (own : List Nat) (P1 : List (Addr × W)) (D : Addr) (step : W → List W → Env → Out (List W)) (its accF : List W) (ρ3 : Env) (i : Nat) (H : Hp) : Prop where
  ex : ∃ ρ F acc, i ≤ its.length ∧ acc.length ≤ szL ∧ lcO step (its.drop i) acc ρ = .ok accF ρ3 ∧
    SRel c.K A (L2.wipe σ own) (wpE ρ own) H F ([(D, .lst acc)] ++ (pw σ ρL own ++ P1)) ∧ Stp σ ρL H1 F1 (L2.wipe σ own) (wpE ρ own) H F
/-- between two turns of the second -/
structure LcJ (c : Cf) (A : Nat → Option Addr) (σ : Sg) (ρL : Env) (H1 : Hp) (F1 : Addr → Prop) (σ2 : Sg) (vs1 : List Nat) (R : List (Addr × W)) (H9 : Hp) (F9 : Addr → Prop) (D : Addr) (step : W → Env → Out (Option W)) (its accI : List W) (ρI : Env) (j : Nat) (H : Hp) : Prop where
  ex : ∃ ρ F acc, j ≤ its.length ∧ acc.length ≤ szL ∧ lcM step (its.drop j) acc ρ = .ok accI ρI ∧
    SRel c.K A (L2.wipe σ2 vs1) (wpE ρ vs1) H F ([(D, .lst acc)] ++ R) ∧ Stp σ ρL H1 F1 (L2.wipe σ2 vs1) (wpE ρ vs1) H F ∧ MnH c.K H9 F9 H F
theorem stp_upd {σ σ2 : Sg} {ρL ρ : Env} {H1 H : Hp} {F1 F : Addr → Prop} {D : Addr} {o : HO} (hD : H1 D = none) (t : Stp σ ρL H1 F1 σ2 ρ H F) : Stp σ ρL H1 F1 σ2 ρ (upd H D o) F := by
  have hD1 : ∀ a o, H1 a = some o → a ≠ D := fun a o h z => by rw [z, hD] at h; cases h
  exact ⟨fun a o h n => by rw [upd_ne (hD1 a o h)]; exact t.kp a o h n, t.fr, t.nf, t.no, t.ns, t.nw, fun a o h => by rw [upd_ne (hD1 a o h)]; exact t.al a o h⟩
theorem lcj_read {A : Nat → Option Addr} {σ : Sg} {ρL : Env} {H1 : Hp} {F1 : Addr → Prop} {σ2 : Sg} {p1 : Pt} {R : List (Addr × W)} {H9 : Hp} {F9 : Addr → Prop} {D : Addr} {its acc0 accI : List W} {ρ0 ρI : Env} {J : It} {Nx : Hp → Prop} (nd : p1.ns.Nodup) (hD : H1 D = none) (hz0 : acc0.length ≤ szL)
    (hs : SRel c.K A σ2 ρ0 H9 F9 ([(D, .lst acc0)] ++ R)) (t0 : Stp σ ρL H1 F1 σ2 ρ0 H9 F9) (G : ItF c.K H9 F9 J its) (hl : lcM (stepE p1.ns p1 (ev c.C et1).t (ev c.C ee).x) its acc0 ρ0 = .ok accI ρI)
    (fin : ∀ H F, accI.length ≤ szL → SRel c.K A (L2.wipe σ2 p1.ns) (wpE ρI p1.ns) H F ([(D, .lst accI)] ++ R) → Stp σ ρL H1 F1 (L2.wipe σ2 p1.ns) (wpE ρI p1.ns) H F → Nx H) :
    ∃ W : Nat → Nat → Hp → Prop, (∃ m, W 0 m H9) ∧ ∀ j k H, W j k H → (J.stop j H ∧ Nx H) ∨ (J.go j H ∧ ∃ Nx1 : Hp → Prop, (∀ H', Nx1 H' → ∃ k', k' < k ∧ W (j + 1) k' H') ∧ ∀ x H', J.yld j H x H' →
      gP c.K p1 x (L2.wipe σ2 p1.ns) H' fun σ3 H5 => L2.wipe σ3 p1.ns = L2.wipe σ2 p1.ns ∧ tXB c.nox et1 σ3 H5 fun b H6 => if b = true then tX c.nox ee σ3 H6 fun y H7 => ∃ acc, H7 D = some (.lst acc) ∧ acc.length < sizeLine ∧ Nx1 (upd H7 D (.lst (acc ++ [y]))) else Nx1 H6) := by
  generalize hst : stepE p1.ns p1 (ev c.C et1).t (ev c.C ee).x = step at hl
  refine ⟨fun j k H => k = its.length - j ∧ LcJ c A σ ρL H1 F1 σ2 p1.ns R H9 F9 D step its accI ρI j H, ⟨_, rfl, ⟨ρ0, F9, acc0, Nat.zero_le _, hz0, hl, ?_, t0.trans .wipe, .refl⟩⟩, ?_⟩
  · exact (hs.wipe nd).drop
  rintro j k H ⟨rfl, ⟨ρ, F, acc, hj, ha, hl, hs, st, mn⟩⟩
  by_cases hlt : j < its.length
  · refine .inr ⟨G.go j H F mn hlt, LcJ c A σ ρL H1 F1 σ2 p1.ns R H9 F9 D step its accI ρI (j + 1), fun H' n => ⟨its.length - (j + 1), by omega, rfl, n⟩, fun x H' y => ?_⟩
    obtain ⟨w, ew, nw⟩ := G.yl j H F x H' mn hlt y
    rw [drop_at hlt ew] at hl
    obtain ⟨s1, hr, t1, mn1⟩ : SRel c.K A (L2.wipe σ2 p1.ns) (wpE ρ p1.ns) H' F ([(D, .lst acc)] ++ R) ∧ HR c.K H' F x w ∧ Stp (L2.wipe σ2 p1.ns) (wpE ρ p1.ns) H F (L2.wipe σ2 p1.ns) (wpE ρ p1.ns) H' F ∧ MnH c.K H F H' F := by
      cases nw with
      | old r => exact ⟨hs, r, .refl, .refl⟩
      | tup hp z r => exact ⟨hs.alloc hp, .tup (.inl (.inl upd_same)) z (r.upd hp), .alloc hp, .alloc hp⟩
    have sw : ∃ o ρd, step w ρ = .ok o ρd ∧ (∀ y, o = some y → acc.length < szL) ∧ lcM step (its.drop (j + 1)) (match o with | some y => acc ++ [y] | none => acc) ρd = .ok accI ρI := by
      rcases lcM_inv hl with ⟨y, ρd, e, z, h⟩ | ⟨ρd, e, h⟩
      · exact ⟨some y, ρd, e, fun _ _ => z, h⟩
      · exact ⟨none, ρd, e, fun _ h => (nomatch h), h⟩
    obtain ⟨o, ρd, es, hzo, hl'⟩ := sw
    rw [← hst] at es
    unfold stepE at es
    cases ea : asP p1 w (wpE ρ p1.ns) with
    | none => rw [ea] at es; cases es
    | some ρa =>
      rw [ea] at es
      obtain ⟨k, ρb, et', es⟩ := bind_ok es
      refine ⟨A, wpE ρ p1.ns, F, _, w, ρa, s1, hr, ea, fun σ3 s2 t2 off => ?_⟩
      have hw : L2.wipe σ3 p1.ns = L2.wipe σ2 p1.ns := by
        rw [wipe_eq (σ := L2.wipe σ2 p1.ns) off.1 fun j hj => (off.2 j hj).1]
        exact wipe_eq (by rw [wipe_length]) fun j hj => wipe_out' σ2 p1.ns j hj
      refine ⟨hw, A, ρa, F, _, s2, ?_⟩
      rw [show (ev c.nox.C et1).t ρa = _ from et']
      intro H3 F3 t3 s3
      have next : ∀ {H5 : Hp} {F5 : Addr → Prop} {acc' : List W}, acc'.length ≤ szL → lcM step (its.drop (j + 1)) acc' ρd = .ok accI ρI → SRel c.K A σ3 ρd H5 F5 ([(D, .lst acc')] ++ R) → Stp σ ρL H1 F1 σ3 ρd H5 F5 → MnH c.K H9 F9 H5 F5 → LcJ c A σ ρL H1 F1 σ2 p1.ns R H9 F9 D step its accI ρI (j + 1) H5 := fun {H5 F5 acc'} hz' hl5 s5 t5 m5 => by
        refine ⟨ρd, F5, acc', hlt, hz', hl5, ?_, ?_, m5⟩
        · rw [← hw]; exact (s5.wipe nd).drop
        · rw [← hw]; exact t5.trans .wipe
      have t13 : Stp σ ρL H1 F1 σ3 ρb H3 F3 := ((st.trans t1).trans t2).trans t3
      have m13 : MnH c.K H9 F9 H3 F3 := ((mn.trans mn1).trans (t2.mn s1)).trans (t3.mn s2)
      cases k with
      | false =>
        refine iteF ?_
        obtain ⟨rfl, rfl⟩ : none = o ∧ ρb = ρd := by simpa using es
        exact next (acc' := acc) ha hl' s3 t13 m13
      | true =>
        refine iteT ?_
        have es : stepV (ev c.C ee).x ρb = .ok o ρd := es
        unfold stepV at es
        obtain ⟨a, ρc, ex', es⟩ := bind_ok es
        cases eh : shr ρc a with
        | none => rw [eh] at es; cases es
        | some q =>
          obtain ⟨w', ρe⟩ := q
          rw [eh] at es
          obtain ⟨rfl, rfl⟩ : some w' = o ∧ ρe = ρd := by simpa using es
          have hzz0 := hzo _ rfl
          refine ⟨A, ρb, F3, _, s3, ?_⟩
          rw [show (ev c.nox.C ee).x ρb = _ from ex']
          intro v H4 F4 t4 s4 ar fr
          have s4' : SRel c.K A σ3 ρc H4 F4 ([] ++ pnd a v ++ ([(D, .lst acc)] ++ R)) := s4
          obtain ⟨F5, s5, r5, m5, k5⟩ := AR.share s4' ar eh
          have s5 : SRel c.K A σ3 ρe H4 F5 ([(D, .lst acc)] ++ R) := by simpa using s5
          obtain ⟨_, ⟨us, e1, e2, e3⟩, _⟩ := s5.pn (D, .lst acc) (by simp)
          have e3l := e3.length
          have hzz : (us ++ [v]).length ≤ szL := by rw [List.length_append]; simp; omega
          have t5 := k5 H3 F3 ρb t4 fr
          have t6 : Stp σ ρL H1 F1 σ3 ρe H4 F5 := t13.trans t5
          exact ⟨us, e1, by rw [← szL_eq]; omega, next (acc' := acc ++ [w']) (by simp; omega) hl' (SRel.grow s5 hzz (e3.append (.one r5))) (stp_upd hD t6) ((m13.trans (t5.mn s3)).trans (.grow s5))⟩
  · have e : j = its.length := by omega
    subst e
    rw [List.drop_length] at hl
    obtain ⟨rfl, rfl⟩ : acc = accI ∧ ρ = ρI := by simpa [lcM] using hl
    exact .inl ⟨G.st _ H F mn (Nat.le_refl _), fin H F ha hs st⟩
theorem lc2_read {A : Nat → Option Addr} {σ : Sg} {ρL : Env} {H1 : Hp} {F1 : Addr → Prop} {P1 : List (Addr × W)} {p p1 : Pt} {k1 : IK} {own : List Nat} {its accF : List W} {ρ3 : Env} {J : It} {Q : Hp → Prop} (nd : own.Nodup) (nd1 : p1.ns.Nodup) (hsub : ∀ j ∈ p.ns, j ∈ own) (hsub1 : ∀ j ∈ p1.ns, j ∈ own)
    (hL : SRel c.K A σ ρL H1 F1 P1) (G : ItG c.K σ ρL H1 F1 J its) {D : Addr} (hD : H1 D = none) (hl : lcO (lc2S own p p1 k1 (ev c.C et).t (ev c.C et1).t (ev c.C es1).a (ev c.C ee).x) its [] ρL = .ok accF ρ3)
    (fin : ∀ H F, SRel c.K A σ (rsE ρL ρ3 own) H F ([(D, .lst accF)] ++ P1) → Stp σ ρL H1 F1 σ (rsE ρL ρ3 own) H F → Q H) :
    ∃ W : Nat → Nat → Hp → Prop, (∃ m, W 0 m (upd H1 D (.lst []))) ∧ ∀ i m H, W i m H → (J.stop i H ∧ Q H) ∨ (J.go i H ∧ ∃ Nx : Hp → Prop, (∀ H', Nx H' → ∃ m', m' < m ∧ W (i + 1) m' H') ∧ ∀ x H', J.yld i H x H' →
      gP c.K p x (L2.wipe σ own) H' fun σ2 H2 => L2.wipe σ2 own = L2.wipe σ own ∧ tXB c.nox et σ2 H2 fun b H3 => if b = true then tIF c.nox k1 es1 σ2 H3 fun J1 H4 => ∃ W1 : Nat → Nat → Hp → Prop, (∃ m, W1 0 m H4) ∧ ∀ j k H, W1 j k H →
        (J1.stop j H ∧ Nx H) ∨ (J1.go j H ∧ ∃ Nx1 : Hp → Prop, (∀ H', Nx1 H' → ∃ k', k' < k ∧ W1 (j + 1) k' H') ∧ ∀ x H', J1.yld j H x H' → gP c.K p1 x (L2.wipe σ2 p1.ns) H' fun σ3 H5 => L2.wipe σ3 p1.ns = L2.wipe σ2 p1.ns ∧ tXB c.nox et1 σ3 H5 fun b H6 =>
          if b = true then tX c.nox ee σ3 H6 fun y H7 => ∃ acc, H7 D = some (.lst acc) ∧ acc.length < sizeLine ∧ Nx1 (upd H7 D (.lst (acc ++ [y]))) else Nx1 H6)
      else Nx H3) := by
  generalize hst : lc2S own p p1 k1 (ev c.C et).t (ev c.C et1).t (ev c.C es1).a (ev c.C ee).x = step at hl
  refine ⟨fun i m H => m = its.length - i ∧ LcO c A σ ρL H1 F1 own P1 D step its accF ρ3 i H, ⟨_, rfl, ⟨ρL, F1, [], Nat.zero_le _, Nat.zero_le _, hl, ?_, ?_⟩⟩, ?_⟩
  · exact (hL.wipe nd).pend (w := .lst []) hD ⟨[], upd_same, Nat.zero_le _, .nil⟩
  · exact Stp.wipe.trans (.alloc hD)
  rintro i m H ⟨rfl, ⟨ρ, F, acc, hi, ha, hl, hs, st⟩⟩
  by_cases hlt : i < its.length
  · refine .inr ⟨G.go i H F _ _ st hlt, LcO c A σ ρL H1 F1 own P1 D step its accF ρ3 (i + 1), fun H' n => ⟨its.length - (i + 1), by omega, rfl, n⟩, fun x H' y => ?_⟩
    obtain ⟨w, ew, nw⟩ := G.yl i H F _ _ x H' st hlt y
    rw [drop_at hlt ew] at hl
    obtain ⟨s1, hr, t1⟩ : SRel c.K A (L2.wipe σ own) (wpE ρ own) H' F ([(D, .lst acc)] ++ (pw σ ρL own ++ P1)) ∧ HR c.K H' F x w ∧ Stp (L2.wipe σ own) (wpE ρ own) H F (L2.wipe σ own) (wpE ρ own) H' F := by
      cases nw with
      | old r => exact ⟨hs, r, .refl⟩
      | tup hp z r => exact ⟨hs.alloc hp, .tup (.inl (.inl upd_same)) z (r.upd hp), .alloc hp⟩
    obtain ⟨acc', ρd, es, hl'⟩ := lcO_inv hl
    rw [← hst] at es
    unfold lc2S at es
    cases ea : asP p w (wpE ρ own) with
    | none => rw [ea] at es; cases es
    | some ρa =>
      rw [ea] at es
      obtain ⟨k, ρb, et', es⟩ := bind_ok es
      refine ⟨A, wpE ρ own, F, _, w, ρa, s1, hr, ea, fun σ2 s2 t2 off => ?_⟩
      have hw : L2.wipe σ2 own = L2.wipe σ own := by
        rw [wipe_eq (σ := L2.wipe σ own) off.1 fun j hj => (off.2 j fun z => hj (hsub j z)).1]
        exact wipe_eq (by rw [wipe_length]) fun j hj => wipe_out' σ own j hj
      refine ⟨hw, A, ρa, F, _, s2, ?_⟩
      rw [show (ev c.nox.C et).t ρa = _ from et']
      intro H3 F3 t3 s3
      have t13 : Stp σ ρL H1 F1 σ2 ρb H3 F3 := ((st.trans t1).trans t2).trans t3
      cases k with
      | false =>
        refine iteF ?_
        obtain ⟨rfl, rfl⟩ : acc = acc' ∧ ρb = ρd := by simpa using es
        refine ⟨ρb, F3, acc, hlt, ha, hl', ?_, ?_⟩
        · rw [← hw]; exact (s3.wipe nd).drop
        · rw [← hw]; exact t13.trans .wipe
      | true =>
        refine iteT ?_
        have es : ((ev c.C es1).a ρb).bind (fun us ρ3 => match shrs ρ3 us with
          | none => .bad
          | some (ws, ρ4) => match itW k1 ws with
            | none => .bad
            | some its => lcM (stepE p1.ns p1 (ev c.C et1).t (ev c.C ee).x) its acc ρ4) = .ok acc' ρd := es
        obtain ⟨us, ρc, ex', es⟩ := bind_ok es
        refine ⟨A, ρb, F3, _, s3, ?_⟩
        rw [show (ev c.nox.C es1).a ρb = _ from ex']
        cases e5 : shrs ρc us with
        | none => rw [e5] at es; cases es
        | some y =>
          obtain ⟨ws, ρe⟩ := y
          rw [e5] at es
          cases e6 : itW k1 ws with
          | none => simp only [e6] at es; cases es
          | some its1 =>
            simp only [e6] at es
            refine ⟨ws, ρe, its1, e5, e6, fun J1 H9 F9 s9 t9 G1 => ?_⟩
            refine lcj_read (c := c) nd1 hD ha s9 (t13.trans t9) G1 es fun H' F' hz' s' t' => ?_
            refine ⟨ρd, F', acc', hlt, hz', hl', ?_, ?_⟩
            · have := (s'.wipe nd).drop
              rw [wipe_wipe hsub1, wpE_wpE hsub1, hw] at this
              exact this
            · have := t'.trans (Stp.wipe (l := own))
              rw [wipe_wipe hsub1, wpE_wpE hsub1, hw] at this
              exact this
  · have e : i = its.length := by omega
    subst e
    rw [List.drop_length] at hl
    obtain ⟨rfl, rfl⟩ : acc = accF ∧ ρ = ρ3 := by simpa [lcO] using hl
    obtain ⟨s1, t1⟩ := SRel.back (Pn := [(D, .lst acc)]) hL hs st
    exact .inl ⟨G.st _ H F _ _ st (Nat.le_refl _), fin H F s1 t1⟩
theorem lc2_imp {k k1 : IK} {p p1 : Pt} {own : List Nat} {σ : Sg} {H : Hp} {Q : VK} (nd : own.Nodup) (nd1 : p1.ns.Nodup) (hsub : ∀ j ∈ p.ns, j ∈ own) (hsub1 : ∀ j ∈ p1.ns, j ∈ own) (h : tX c (.lc2 ee p et k eas p1 et1 k1 es1 own) σ H Q) :
    tLc2 (tI c k eas) (gP c.K p) (tXB c.nox et) (tIF c.nox k1 es1) (gP c.K p1) (tXB c.nox et1) (tX c.nox ee) own p1.ns σ H Q := by
  obtain ⟨A, ρ, F, Pn, hs, q⟩ := h
  refine ⟨A, ρ, F, Pn, hs, q.bind.mono (fun us ρ1 q1 => ?_) fun _ _ _ e => e⟩
  cases e1 : (ress ρ1 us).bind (itW k) with
  | none => simp only [e1] at q1; exact q1.elim
  | some its =>
    simp only [e1] at q1
    refine ⟨its, rfl, fun J vs H1 F1 m G D hD => ?_⟩
    obtain ⟨sL, _⟩ := lk_ok (as := us) m.sr
    cases e2 : lcO (lc2S own p p1 k1 (ev c.C et).t (ev c.C et1).t (ev c.C es1).a (ev c.C ee).x) its [] (lkE ρ1 us) with
    | bad => simp only [e2] at q1; exact q1.elim
    | ex x pl ρ3 => simp only [e2] at q1; exact q1.elim
    | ok acc ρ3 =>
      simp only [e2] at q1
      refine lc2_read nd nd1 hsub hsub1 sL G hD e2 fun H' F' s' t' => ?_
      have t1 := (lk_stp (as := us) m.sr).trans t'
      obtain ⟨s2, t2⟩ := ul_ok (as := us) t1 s'
      have hDn : H D = none := m.st.fresh hD
      refine q1 (.ref D) H' F' (m.st.trans t2) ?_ ⟨D, rfl⟩ fun d x z => ?_
      · have : SRel c.K A σ (ulE ρ1 (rsE (lkE ρ1 us) ρ3 own) us) H' F' (pnds us vs ++ ((D, .lst acc) :: Pn)) := s2.perm (by simpa using List.perm_middle.symm)
        exact this.drop
      · obtain ⟨rfl, rfl⟩ : d = D ∧ x = .lst acc := by simpa [pnd] using z
        exact hDn
end
section
variable {X : Cx} {c : Cf} {elt tg iter tg1 iter1 : Expr} {ee et et1 eas es1 : E} {pos : Pos}
theorem x_lc2 {scope : Scope} {ownN : List (Str × Nat)} {k k1 : IK} {p p1 : Pt} {ifs ifs1 : List Expr} (hc : c.K = X.K) (calm : X.calm = true) (hN : X.N.Nodup) (hi : PI X tg iter (tI c k eas)) (ok : BlkOk X.N X.env.scope scope ownN) (nd : (ownN.map (·.2)).Nodup) (nd1 : p1.ns.Nodup) (hsub : ∀ j ∈ p.ns, j ∈ ownN.map (·.2)) (hsub1 : ∀ j ∈ p1.ns, j ∈ ownN.map (·.2))
    (hg : ∀ (s : Shared) (H : Hp) (C : Addr) (cl : List (Str × Addr)) (fp : List Addr), PG (X.blk s H scope (compEnvC scope cl C X.env) fp) tg (gP X.K p))
    (ht : ∀ (s : Shared) (H : Hp) (C : Addr) (cl : List (Str × Addr)) (fp : List Addr), PTs (X.blk s H scope (compEnvC scope cl C X.env) fp) ifs (tXB c.nox et))
    (hi1 : ∀ (s : Shared) (H : Hp) (C : Addr) (cl : List (Str × Addr)) (fp : List Addr), PI (X.blk s H scope (compEnvC scope cl C X.env) fp) tg1 iter1 (tIF c.nox k1 es1))
    (hg1 : ∀ (s : Shared) (H : Hp) (C : Addr) (cl : List (Str × Addr)) (fp : List Addr), PG (X.blk s H scope (compEnvC scope cl C X.env) fp) tg1 (gP X.K p1))
    (ht1 : ∀ (s : Shared) (H : Hp) (C : Addr) (cl : List (Str × Addr)) (fp : List Addr), PTs (X.blk s H scope (compEnvC scope cl C X.env) fp) ifs1 (tXB c.nox et1))
    (he : ∀ (s : Shared) (H : Hp) (C : Addr) (cl : List (Str × Addr)) (fp : List Addr), PE (X.blk s H scope (compEnvC scope cl C X.env) fp) elt (tX c.nox ee)) (hf : ∀ x, foldedSetIterable iter X.env x = pure x) (hf1 : ∀ env x, foldedSetIterable iter1 env x = pure x) :
    PE X (.ListComp elt [⟨tg, iter, ifs, 0⟩, ⟨tg1, iter1, ifs1, 0⟩] scope pos) (tX c (.lc2 ee p et k eas p1 et1 k1 es1 (ownN.map (·.2)))) :=
  peImp (pe_lc2 calm hN hi ok hsub1 hg ht hi1 hg1 ht1 he hf hf1) fun σ H Q h => by rw [← hc]; exact lc2_imp nd nd1 hsub hsub1 h
end
end Py

namespace Py
open PySem PySem.Spec PyProof.Rows L2
variable [HW]

section
variable (c : Cf) (A : Nat → Option Addr) (σ : Sg) (ρ : Env) (H : Hp) (F : Addr → Prop) (Pn : List (Addr × W))
def NX (Q : Sg → Hp → Prop) (ρ' : Env) : Prop := ∀ σ' H' F', Stp σ ρ H F σ' ρ' H' F' → SRel c.K A σ' ρ' H' F' Pn → Q σ' H'
def RT' (Q : VK) (w : W) (fr : Bool) (ρ' : Env) : Prop := ∀ v σ' H' F', Stp σ ρ H F σ' ρ' H' F' → SRel c.K A σ' ρ' H' F' (pnd (.val w fr) v ++ Pn) → (fr = true → ∃ a, v = .ref a ∧ (H a = none ∨ Ow σ ρ a)) → (fr = false → HR c.K H' F' v w) → Q v H'
def ES (x : Nat) (p : W) (ρ' : Env) : Prop := ∀ σ' H' F' d, Stp σ ρ H F σ' ρ' H' F' → SRel c.K A σ' ρ' H' F' Pn → ExD p d H' → c.wx (c.cls x) d σ' H'
def RS (D : Ends) (o : SO) : Prop := match o with
  | .nx ρ' => NX c A σ ρ H F Pn D.nx ρ'
  | .bk ρ' => NX c A σ ρ H F Pn D.bk ρ'
  | .ct ρ' => NX c A σ ρ H F Pn D.ct ρ'
  | .rt w fr ρ' => RT' c A σ ρ H F Pn D.rt w fr ρ'
  | .ex x p ρ' => ES c A σ ρ H F Pn x p ρ'
  | .bad => False
end
def tS (c : Cf) (tk : Tk) (g : Nat) (s : S) : TS := fun D σ H => ∃ A ρ F Pn, SRel c.K A σ ρ H F Pn ∧ RS c A σ ρ H F Pn D (xs c.C tk g s ρ)

section
variable {c : Cf} {A : Nat → Option Addr} {σ σ1 : Sg} {ρ ρ1 ρ' : Env} {H H1 : Hp} {F F1 : Addr → Prop} {Pn : List (Addr × W)} {D D' : Ends}
theorem NX.step {Q : Sg → Hp → Prop} (h : NX c A σ ρ H F Pn Q ρ') (st : Stp σ ρ H F σ1 ρ1 H1 F1) : NX c A σ1 ρ1 H1 F1 Pn Q ρ' := fun σ' H' F' st' s => h σ' H' F' (st.trans st') s
theorem Stp.fo {a : Addr} (st : Stp σ ρ H F σ1 ρ1 H1 F1) (h : H1 a = none ∨ Ow σ1 ρ1 a) : H a = none ∨ Ow σ ρ a := by
  cases e : H a with
  | none => exact .inl rfl
  | some o =>
    rcases h with h | h
    · obtain ⟨o', e'⟩ := st.al a o e
      rw [h] at e'; cases e'
    · exact .inr (st.nw a o e h)
theorem RT'.step {Q : VK} {w : W} {fr : Bool} (h : RT' c A σ ρ H F Pn Q w fr ρ') (st : Stp σ ρ H F σ1 ρ1 H1 F1) : RT' c A σ1 ρ1 H1 F1 Pn Q w fr ρ' := fun v σ' H' F' st' s a b => h v σ' H' F' (st.trans st') s (fun e => let ⟨x, y, z⟩ := a e; ⟨x, y, st.fo z⟩) b
theorem ES.step {x : Nat} {p : W} (h : ES c A σ ρ H F Pn x p ρ') (st : Stp σ ρ H F σ1 ρ1 H1 F1) : ES c A σ1 ρ1 H1 F1 Pn x p ρ' := fun σ' H' F' d st' s a => h σ' H' F' d (st.trans st') s a
theorem RS.step {o : SO} (h : RS c A σ ρ H F Pn D o) (st : Stp σ ρ H F σ1 ρ1 H1 F1) : RS c A σ1 ρ1 H1 F1 Pn D o := by
  cases o with
  | nx ρ' => exact NX.step h st
  | bk ρ' => exact NX.step h st
  | ct ρ' => exact NX.step h st
  | rt w fr ρ' => exact RT'.step h st
  | ex x p ρ' => exact ES.step h st
  | bad => exact h
/-- what an expression's raising is for the statement -/
theorem ES.ex {x : Nat} {p : W} (h : ES c A σ ρ H F Pn x p ρ') : EX c A σ ρ H F Pn x p ρ' := fun H' F' d st s e => h σ H' F' d st s e
def SOk {α : Type} (o : Out α) (P : α → Env → Prop) (E : Nat → W → Env → Prop) : Prop := OkX o P E
theorem bnd_ok {α : Type} {o : Out α} {f : α → Env → SO} (h : RS c A σ ρ H F Pn D (SO.bnd o f)) : OkX o (fun a ρ1 => RS c A σ ρ H F Pn D (f a ρ1)) (EX c A σ ρ H F Pn) := by
  cases o with
  | ok a ρ1 => exact h
  | ex x p ρ1 => exact ES.ex h
  | bad => exact h
theorem tX_S {e : E} {R : VK} {f : Arg → Env → SO} (hs : SRel c.K A σ ρ H F Pn) (h : RS c A σ ρ H F Pn D (SO.bnd ((ev c.C e).x ρ) f))
    (fin : ∀ u v ρ1 H1 F1, Md c A σ ρ H F Pn [u] [v] ρ1 H1 F1 → RS c A σ ρ H F Pn D (f u ρ1) → R v H1) : tX c e σ H R :=
  ⟨A, ρ, F, Pn, hs, (bnd_ok h).mono (fun u ρ1 q v H1 F1 st sr ar fr => fin u v ρ1 H1 F1 ⟨st, by simpa [pnds] using sr, .cons ar .nil, fun d x z => fr d x (by simpa [pnds] using z)⟩ q) fun _ _ _ e => e⟩
theorem tXL_S {e : E} {R : List V → Hp → Prop} {f : List Arg → Env → SO} (hs : SRel c.K A σ ρ H F Pn) (h : RS c A σ ρ H F Pn D (SO.bnd ((ev c.C e).a ρ) f))
    (fin : ∀ us vs ρ1 H1 F1, Md c A σ ρ H F Pn us vs ρ1 H1 F1 → RS c A σ ρ H F Pn D (f us ρ1) → R vs H1) : tXL c e σ H R :=
  ⟨A, ρ, F, Pn, hs, (bnd_ok h).mono (fun us ρ1 q vs H1 F1 st sr ar fr => fin us vs ρ1 H1 F1 ⟨st, sr, ar, fr⟩ q) fun _ _ _ e => e⟩
theorem tXB_S {e : E} {R : Bool → Hp → Prop} {f : Bool → Env → SO} (hs : SRel c.K A σ ρ H F Pn) (h : RS c A σ ρ H F Pn D (SO.bnd ((ev c.C e).t ρ) f))
    (fin : ∀ k ρ1 H1 F1, Md c A σ ρ H F Pn [] [] ρ1 H1 F1 → RS c A σ ρ H F Pn D (f k ρ1) → R k H1) : tXB c e σ H R :=
  ⟨A, ρ, F, Pn, hs, (bnd_ok h).mono (fun k ρ1 q H1 F1 st sr => fin k ρ1 H1 F1 ⟨st, sr, .nil, fun _ _ h => nomatch h⟩ q) fun _ _ _ e => e⟩
theorem tS_at {tk : Tk} {g : Nat} {s : S} (hs : SRel c.K A σ1 ρ1 H1 F1 Pn) (st : Stp σ ρ H F σ1 ρ1 H1 F1) (h : RS c A σ ρ H F Pn D (xs c.C tk g s ρ1)) : tS c tk g s D σ1 H1 := ⟨A, ρ1, F1, Pn, hs, h.step st⟩
end

/-! ### the rules -/
section
variable {X : Cx} {c : Cf} {tk : Tk} {g : Nat} {st : Stmt} {sts : List Stmt} {e a b : Expr} {ea eb eas : E} {s r : S} {pos : Pos}
theorem s_nil : PSs X [] (tS c tk g .nil) := by
  refine pssImp pss_nil fun D σ H ⟨A, ρ, F, Pn, hs, q⟩ => ?_
  exact q σ H F .refl hs
theorem s_cons (h1 : PS X st (tS c tk g s)) (h2 : PSs X sts (tS c tk g r)) : PSs X (st :: sts) (tS c tk g (.seq s r)) := by
  refine pssImp (pss_cons h1 h2) fun D σ H ⟨A, ρ, F, Pn, hs, q⟩ => ?_
  refine ⟨A, ρ, F, Pn, hs, ?_⟩
  have q : RS c A σ ρ H F Pn D ((xs c.C tk g s ρ).thn fun ρ1 => xs c.C tk g r ρ1) := q
  cases e : xs c.C tk g s ρ with
  | nx ρ1 =>
    rw [e] at q
    exact fun σ' H' F' st' s' => tS_at s' st' q
  | bk ρ1 => rw [e] at q; exact q
  | ct ρ1 => rw [e] at q; exact q
  | rt w fr ρ1 => rw [e] at q; exact q
  | ex x p ρ1 => rw [e] at q; exact q
  | bad => rw [e] at q; exact q
theorem s_pass : PS X (.Pass pos) (tS c tk g .pass) := psImp ps_pass fun D σ H ⟨A, ρ, F, Pn, hs, q⟩ => q σ H F .refl hs
theorem s_brk : PS X (.Break pos) (tS c tk g .brk) := psImp ps_break fun D σ H ⟨A, ρ, F, Pn, hs, q⟩ => q σ H F .refl hs
theorem s_cnt : PS X (.Continue pos) (tS c tk g .cnt) := psImp ps_continue fun D σ H ⟨A, ρ, F, Pn, hs, q⟩ => q σ H F .refl hs
theorem s_bad : PS X st (tS c tk g .bad) := psImp ps_never fun D σ H ⟨A, ρ, F, Pn, hs, q⟩ => q
theorem s_retN : PS X (.Return none pos) (tS c tk g .retN) := psImp ps_retN fun D σ H ⟨A, ρ, F, Pn, hs, q⟩ =>
  q .non σ H F .refl (by simpa [pnd] using hs) (fun h => nomatch h) fun _ => .non
theorem s_exp (he : PE X e (tX c ea)) (hs : swapsWith e none pos.line X.env = pure false) : PS X (.Expr e pos) (tS c tk g (.exp ea)) := by
  refine psImp (ps_expr he hs) fun D σ H ⟨A, ρ, F, Pn, hs, q⟩ => ?_
  exact tX_S hs q fun u v ρ1 H1 F1 m q1 => q1 σ H1 F1 m.st m.sr.drop
/-- a name's own object is given away, the name forgotten -/
theorem SRel.take {K : PySem.W.Frag} {A : Nat → Option Addr} {σ : Sg} {ρ : Env} {H : Hp} {F : Addr → Prop} {Pn : List (Addr × W)} (hs : SRel K A σ ρ H F Pn) {i : Nat} {w : W} {a : Addr} (e : ρ[i]? = some (some (w, .own))) (ea : σ[i]? = some (some (.ref a))) :
    SRel K A σ (ρ.set i none) H F ((a, w) :: Pn) ∧ Stp σ ρ H F σ (ρ.set i none) H F := by
  have hi := lt_of_get e
  obtain ⟨a', x, y, z⟩ := hs.ow i w .own e (by decide)
  rw [ea] at x; cases x
  have sl : SlA σ ρ i a := ⟨w, .own, e, by decide, ea⟩
  have back : ∀ {j : Nat} {b : Addr}, SlA σ (ρ.set i none) j b → j ≠ i ∧ SlA σ ρ j b := fun {j b} ⟨w', f', e', n', s'⟩ => by
    rw [gets hi] at e'
    by_cases q : j = i
    · rw [if_pos q] at e'; cases e'
    · rw [if_neg q] at e'; exact ⟨q, w', f', e', n', s'⟩
  refine ⟨⟨by simpa using hs.ln, fun j w' e' => ?_, fun j w' f' e' n => ?_, fun j w' f' e' q => ?_, fun j k b h1 h2 => hs.dj j k b (back h1).2 (back h2).2, fun p hp => ?_, ?_, hs.ff⟩, ⟨fun _ _ h _ => h, fun _ h => h, fun _ _ _ h => .inl h, fun b o h q => ?_, fun b o h j q => (back q).2, fun b o h q => ?_, fun _ o h => ⟨o, h⟩⟩⟩
  · rw [gets hi] at e'
    by_cases q : j = i
    · rw [if_pos q] at e'; cases e'
    · rw [if_neg q] at e'; exact hs.sh j w' e'
  · rw [gets hi] at e'
    by_cases q : j = i
    · rw [if_pos q] at e'; cases e'
    · rw [if_neg q] at e'; exact hs.ow j w' f' e' n
  · rw [gets hi] at e'
    by_cases z : j = i
    · rw [if_pos z] at e'; cases e'
    · rw [if_neg z] at e'; exact hs.io j w' f' e' q
  · rcases List.mem_cons.mp hp with rfl | hp
    · exact ⟨y, z, fun j s => (back s).1 (hs.dj j i a (back s).2 sl)⟩
    · obtain ⟨x, y, z⟩ := hs.pn p hp
      exact ⟨x, y, fun j s => z j (back s).2⟩
  · refine List.nodup_cons.mpr ⟨fun hm => ?_, hs.pd⟩
    obtain ⟨p, hp, e1⟩ := List.mem_map.mp hm
    exact (hs.pn p hp).2.2 i (by rw [e1]; exact sl)
  · obtain ⟨j, w', f', e', n', s'⟩ := q
    rw [gets hi] at e'
    by_cases z : j = i
    · rw [if_pos z] at e'; cases e'
    · rw [if_neg z] at e'; exact ⟨j, w', f', e', n', s'⟩
  · obtain ⟨j, w', f', e', n', s'⟩ := q
    rw [gets hi] at e'
    by_cases z : j = i
    · rw [if_pos z] at e'; cases e'
    · rw [if_neg z] at e'; exact ⟨j, w', f', e', n', s'⟩
end
end Py

namespace Py
open PySem PySem.Spec PyProof.Rows L2
variable [HW]
section
variable {X : Cx} {c : Cf} {tk : Tk} {g : Nat} {st : Stmt} {sts : List Stmt} {e a b tg iter : Expr} {ea eb eas : E} {s r : S} {pos p : Pos} {x : Str}
theorem Md.one {A : Nat → Option Addr} {σ : Sg} {ρ ρ1 : Env} {H H1 : Hp} {F F1 : Addr → Prop} {Pn : List (Addr × W)} {u : Arg} {v : V} (m : Md c A σ ρ H F Pn [u] [v] ρ1 H1 F1) : SRel c.K A σ ρ1 H1 F1 (pnd u v ++ Pn) ∧ AR c.K σ H1 F1 u v ∧ ∀ d y, (d, y) ∈ pnd u v → H d = none := by
  refine ⟨by simpa [pnds] using m.sr, by cases m.ar with | cons h _ => exact h, fun d y z => m.fr d y (by simpa [pnds] using z)⟩
/-- an argument is shared, the step from the statement's start -/
theorem Md.sh1 {A : Nat → Option Addr} {σ : Sg} {ρ ρ1 ρ2 : Env} {H H1 : Hp} {F F1 : Addr → Prop} {Pn : List (Addr × W)} {u : Arg} {v : V} {w : W} (m : Md c A σ ρ H F Pn [u] [v] ρ1 H1 F1) (h : shr ρ1 u = some (w, ρ2)) :
    ∃ F2, SRel c.K A σ ρ2 H1 F2 Pn ∧ HR c.K H1 F2 v w ∧ Stp σ ρ H F σ ρ2 H1 F2 := by
  obtain ⟨s1, ar, fr⟩ := m.one
  obtain ⟨F2, s2, r2, _, t2⟩ := AR.share (P1 := []) (Pn := Pn) (by simpa using s1) ar h
  exact ⟨F2, by simpa using s2, r2, t2 H F ρ m.st fr⟩
/-- return e -/
theorem s_ret (he : PE X e (tX c ea)) : PS X (.Return (some e) pos) (tS c tk g (.ret ea)) := by
  refine psImp (ps_ret he) fun D σ H ⟨A, ρ, F, Pn, hs, q⟩ => ?_
  refine tX_S hs q fun u v ρ1 H1 F1 m q1 => ?_
  obtain ⟨s1, ar, fr⟩ := m.one
  cases u with
  | val w f =>
    refine q1 v σ H1 F1 m.st s1 (fun hf => ?_) fun hf => ?_
    · subst hf
      obtain ⟨c', rfl⟩ := ar
      exact ⟨c', rfl, .inl (fr c' w (by simp [pnd]))⟩
    · subst hf; exact ar
  | slot i =>
    have s1 : SRel c.K A σ ρ1 H1 F1 Pn := by simpa [pnd] using s1
    have ar : σ[i]? = some (some v) := ar
    have q1 : RS c A σ ρ H F Pn D (match wOf ρ1 i with
      | some (w, .sh) => .rt w false ρ1
      | some (w, .own) => .rt w true (ρ1.set i none)
      | some (w, .ownL) => if isD w then .bad else .rt w false (ρ1.set i (some (w, .sh)))
      | _ => .bad) := q1
    cases e1 : wOf ρ1 i with
    | none => rw [e1] at q1; exact q1.elim
    | some y =>
      obtain ⟨w, f⟩ := y
      rw [e1] at q1
      have e2 := wOf_eq.mp e1
      cases f with
      | sh =>
        obtain ⟨v', a1, a2⟩ := s1.sh i w e2
        rw [ar] at a1; cases a1
        exact q1 v σ H1 F1 m.st (by simpa [pnd] using s1) (fun h => nomatch h) fun _ => a2
      | own =>
        obtain ⟨d, a1, a2, a3⟩ := s1.ow i w .own e2 (by decide)
        rw [ar] at a1; cases a1
        obtain ⟨s2, t2⟩ := s1.take e2 ar
        exact q1 _ σ H1 F1 (m.st.trans t2) (by simpa [pnd] using s2) (fun _ => ⟨d, rfl, m.st.fo (.inr ⟨i, w, .own, e2, .inl rfl, ar⟩)⟩) fun h => nomatch h
      | ownL =>
        by_cases nd : isD w = true
        · simp only [nd, if_true] at q1; exact q1.elim
        have nd' : isD w = false := by simpa using nd
        simp only [nd', Bool.false_eq_true, if_false] at q1
        obtain ⟨F2, s2, r2, t2⟩ := s1.give nd' e2 (.inr rfl) ar
        exact q1 v σ H1 F2 (m.st.trans t2) (by simpa [pnd] using s2) (fun h => nomatch h) fun _ => r2
      | io => exact q1.elim
      | ioL => exact q1.elim

/-! ### x = e -/
theorem asV_ok {A : Nat → Option Addr} {σ : Sg} {ρ1 ρ2 : Env} {H1 : Hp} {F1 : Addr → Prop} {Pn P1 : List (Addr × W)} {i : Nat} {w : W} {f : Bool} {v : V} (s1 : SRel c.K A σ ρ1 H1 F1 (P1 ++ (pnd (.val w f) v ++ Pn))) (ar : AR c.K σ H1 F1 (.val w f) v) (h : asA i (.val w f) ρ1 = some ρ2) :
    SRel c.K A (σ.set i (some v)) ρ2 H1 F1 (P1 ++ Pn) ∧ ∀ H0 F0 ρ0 σ0, Stp σ0 ρ0 H0 F0 σ ρ1 H1 F1 → (∀ d y, (d, y) ∈ pnd (.val w f) v → H0 d = none) → Stp σ0 ρ0 H0 F0 (σ.set i (some v)) ρ2 H1 F1 := by
  cases f with
  | false =>
    have h : setN ρ1 i w .sh = some ρ2 := h
    obtain ⟨s2, t2⟩ := s1.setV (v := v) ar h
    exact ⟨by simpa [pnd] using s2, fun _ _ _ _ st _ => st.trans t2⟩
  | true =>
    have h : setN ρ1 i w .own = some ρ2 := h
    obtain ⟨d, rfl⟩ := ar
    obtain ⟨s2, t2⟩ := SRel.setO (P1 := P1) (Pn := Pn) (c := d) (w := w) (by simpa [pnd] using s1) h
    exact ⟨s2, fun H0 F0 ρ0 σ0 st hn => t2 H0 F0 ρ0 σ0 st (hn d w (by simp [pnd]))⟩
theorem asA_ok {A : Nat → Option Addr} {σ : Sg} {ρ1 ρ2 : Env} {H1 : Hp} {F1 : Addr → Prop} {Pn : List (Addr × W)} {i : Nat} {u : Arg} {v : V} (s1 : SRel c.K A σ ρ1 H1 F1 (pnd u v ++ Pn)) (ar : AR c.K σ H1 F1 u v) (h : asA i u ρ1 = some ρ2) :
    ∃ F2, SRel c.K A (σ.set i (some v)) ρ2 H1 F2 Pn ∧ ∀ H0 F0 ρ0, Stp σ ρ0 H0 F0 σ ρ1 H1 F1 → (∀ d y, (d, y) ∈ pnd u v → H0 d = none) → Stp σ ρ0 H0 F0 (σ.set i (some v)) ρ2 H1 F2 := by
  cases u with
  | val w f =>
    obtain ⟨s2, t2⟩ := asV_ok (P1 := []) (by simpa using s1) ar h
    exact ⟨F1, by simpa using s2, fun H0 F0 ρ0 st hn => t2 H0 F0 ρ0 σ st hn⟩
  | slot j =>
    unfold asA at h
    cases e1 : shr ρ1 (.slot j) with
    | none => simp only [e1] at h; cases h
    | some y =>
      obtain ⟨w, ρ3⟩ := y
      simp only [e1] at h
      obtain ⟨F3, s3, r3, m3, t3⟩ := AR.share (P1 := []) (Pn := Pn) (a := .slot j) (v := v) (by simpa using s1) ar e1
      obtain ⟨s4, t4⟩ := s3.setV (v := v) r3 h
      exact ⟨F3, by simpa using s4, fun H0 F0 ρ0 st hn => (t3 H0 F0 ρ0 st hn).trans t4⟩
theorem asn_read {i : Nat} {D : Ends} {σ : Sg} {H : Hp} (h : tS c tk g (.asn i ea) D σ H) : tAsg (tX c ea) (gName i) D σ H := by
  obtain ⟨A, ρ, F, Pn, hs, q⟩ := h
  refine tX_S hs q fun u v ρ1 H1 F1 m q1 => ?_
  obtain ⟨s1, ar, fr⟩ := m.one
  cases e1 : asA i u ρ1 with
  | none => simp only [e1] at q1; exact q1.elim
  | some ρ2 =>
    simp only [e1] at q1
    obtain ⟨F2, s2, t2⟩ := asA_ok s1 ar e1
    exact q1 _ H1 F2 (t2 H F ρ m.st fr) s2
theorem s_asn {i : Nat} {p' : Pos} (hN : X.N.Nodup) (hi : X.N[i]? = some x) (hx : Loc X.env.scope x) (hf : X.fn x = true ∨ X.env.scope.names.lookup x = some .local) (he : PE X e (tX c ea)) (hs : swapsWith e (some (.Name x p')) pos.line X.env = pure false) :
    PS X (.Assign [.Name x p'] e pos) (tS c tk g (.asn i ea)) := psImp (ps_set hN hi hx he hs hf) fun D σ H h => asn_read h
/-- .. a comprehension's list -/
theorem s_asnLc {i : Nat} {py : Pos} {elt : Expr} {ee et : E} {scope : Scope} {ownN : List (Str × Nat)} {k : IK} {q : Pt} {ifs : List Expr} (hc : c.K = X.K) (calm : X.calm = true) (hN : X.N.Nodup) (hy : X.N[i]? = some x) (hyl : X.env.scope.names.lookup x = some .local)
    (hsw : swapsWith (.ListComp elt [⟨tg, iter, ifs, 0⟩] scope p) (some (.Name x py)) pos.line X.env = pure true)
    (hi : PI X tg iter (tI c k eas)) (ok : BlkOk X.N X.env.scope scope ownN) (nd : (ownN.map (·.2)).Nodup) (hsub : ∀ j ∈ q.ns, j ∈ ownN.map (·.2))
    (hg : ∀ (s : Shared) (H : Hp) (C : Addr) (cl : List (Str × Addr)) (fp : List Addr), PG (X.blk s H scope (compEnvC scope cl C X.env) fp) tg (gP X.K q))
    (ht : ∀ (s : Shared) (H : Hp) (C : Addr) (cl : List (Str × Addr)) (fp : List Addr), PTs (X.blk s H scope (compEnvC scope cl C X.env) fp) ifs (tXB c.nox et))
    (he : ∀ (s : Shared) (H : Hp) (C : Addr) (cl : List (Str × Addr)) (fp : List Addr), PE (X.blk s H scope (compEnvC scope cl C X.env) fp) elt (tX c.nox ee)) (hf : ∀ x, foldedSetIterable iter X.env x = pure x) :
    PS X (.Assign [.Name x py] (.ListComp elt [⟨tg, iter, ifs, 0⟩] scope p) pos) (tS c tk g (.asn i (.lc ee q et k eas (ownN.map (·.2))))) := by
  refine psImp (ps_setLc calm hN hy hyl hsw hi ok hg ht he hf) fun D σ H h => ?_
  have h1 := asn_read h
  have h2 : tX c (.lc ee q et k eas (ownN.map (·.2))) σ H fun v H1 => gName i v σ H1 D.nx := h1
  show tLc _ _ _ _ _ σ H fun v H1 => gName i v σ H1 D.nx
  rw [← hc]
  exact lc_imp nd hsub h2
theorem s_asnLc2 {i : Nat} {py : Pos} {elt tg1 iter1 : Expr} {ee et et1 es1 : E} {scope : Scope} {ownN : List (Str × Nat)} {k k1 : IK} {q p1 : Pt} {ifs ifs1 : List Expr} (hc : c.K = X.K) (calm : X.calm = true) (hN : X.N.Nodup) (hy : X.N[i]? = some x) (hyl : X.env.scope.names.lookup x = some .local)
    (hsw : swapsWith (.ListComp elt [⟨tg, iter, ifs, 0⟩, ⟨tg1, iter1, ifs1, 0⟩] scope p) (some (.Name x py)) pos.line X.env = pure true)
    (hi : PI X tg iter (tI c k eas)) (ok : BlkOk X.N X.env.scope scope ownN) (nd : (ownN.map (·.2)).Nodup) (nd1 : p1.ns.Nodup) (hsub : ∀ j ∈ q.ns, j ∈ ownN.map (·.2)) (hsub1 : ∀ j ∈ p1.ns, j ∈ ownN.map (·.2))
    (hg : ∀ (s : Shared) (H : Hp) (C : Addr) (cl : List (Str × Addr)) (fp : List Addr), PG (X.blk s H scope (compEnvC scope cl C X.env) fp) tg (gP X.K q))
    (ht : ∀ (s : Shared) (H : Hp) (C : Addr) (cl : List (Str × Addr)) (fp : List Addr), PTs (X.blk s H scope (compEnvC scope cl C X.env) fp) ifs (tXB c.nox et))
    (hi1 : ∀ (s : Shared) (H : Hp) (C : Addr) (cl : List (Str × Addr)) (fp : List Addr), PI (X.blk s H scope (compEnvC scope cl C X.env) fp) tg1 iter1 (tIF c.nox k1 es1))
    (hg1 : ∀ (s : Shared) (H : Hp) (C : Addr) (cl : List (Str × Addr)) (fp : List Addr), PG (X.blk s H scope (compEnvC scope cl C X.env) fp) tg1 (gP X.K p1))
    (ht1 : ∀ (s : Shared) (H : Hp) (C : Addr) (cl : List (Str × Addr)) (fp : List Addr), PTs (X.blk s H scope (compEnvC scope cl C X.env) fp) ifs1 (tXB c.nox et1))
    (he : ∀ (s : Shared) (H : Hp) (C : Addr) (cl : List (Str × Addr)) (fp : List Addr), PE (X.blk s H scope (compEnvC scope cl C X.env) fp) elt (tX c.nox ee)) (hf : ∀ x, foldedSetIterable iter X.env x = pure x) (hf1 : ∀ env x, foldedSetIterable iter1 env x = pure x) :
    PS X (.Assign [.Name x py] (.ListComp elt [⟨tg, iter, ifs, 0⟩, ⟨tg1, iter1, ifs1, 0⟩] scope p) pos) (tS c tk g (.asn i (.lc2 ee q et k eas p1 et1 k1 es1 (ownN.map (·.2))))) := by
  refine psImp (ps_setLc2 calm hN hy hyl hsw hi ok hsub1 hg ht hi1 hg1 ht1 he hf hf1) fun D σ H h => ?_
  have h1 := asn_read h
  have h2 : tX c (.lc2 ee q et k eas p1 et1 k1 es1 (ownN.map (·.2))) σ H fun v H1 => gName i v σ H1 D.nx := h1
  show tLc2 _ _ _ _ _ _ _ _ _ σ H fun v H1 => gName i v σ H1 D.nx
  rw [← hc]
  exact lc2_imp nd nd1 hsub hsub1 h2
/-- a, b = e -/
theorem s_asp {q : Pt} (hg : PG X tg (gP X.K q)) (hc : c.K = X.K) (he : PE X e (tX c ea)) (hs : swapsWithSole [tg] e pos.line X.env = pure false) (hw : swappedStores [tg] e X.env = pure none) (h1 : (assignEach [tg] X.env).map (·.2) = [assign tg X.env]) :
    PS X (.Assign [tg] e pos) (tS c tk g (.asp q ea)) := by
  refine psImp (ps_asg he hg hs hw h1) fun D σ H ⟨A, ρ, F, Pn, hs, h⟩ => ?_
  refine tX_S hs h fun u v ρ1 H1 F1 m q1 => ?_
  cases e1 : shr ρ1 u with
  | none => simp only [e1] at q1; exact q1.elim
  | some y =>
    obtain ⟨w, ρ2⟩ := y
    simp only [e1] at q1
    obtain ⟨F2, s2, r2, t2⟩ := m.sh1 e1
    cases e2 : asP q w ρ2 with
    | none => simp only [e2] at q1; exact q1.elim
    | some ρ3 =>
      simp only [e2] at q1
      rw [← hc]
      exact ⟨A, ρ2, F2, Pn, w, ρ3, s2, r2, e2, fun σ' s3 t3 _ => q1 σ' H1 F2 (t2.trans t3) s3⟩

/-! ### a, b = e1, e2 -/
def setAll (σ : Sg) : List Nat → List V → Sg
  | i :: is, v :: vs => setAll (σ.set i (some v)) is vs
  | _, _ => σ
theorem fixA_ok {A : Nat → Option Addr} {σ : Sg} {H : Hp} : ∀ {as as' : List Arg} {vs : List V} {Pn : List (Addr × W)} {ρ ρ' : Env} {F : Addr → Prop}, SRel c.K A σ ρ H F (pnds as vs ++ Pn) → ARs c.K σ H F as vs → fixA ρ as = some (as', ρ') →
    ∃ F', SRel c.K A σ ρ' H F' (pnds as' vs ++ Pn) ∧ ARs c.K σ H F' as' vs ∧ (∀ a, F a → F' a) ∧ pnds as' vs = pnds as vs ∧ (∀ u ∈ as', ∃ w f, u = .val w f) ∧ ∀ H0 F0 ρ0, Stp σ ρ0 H0 F0 σ ρ H F → Stp σ ρ0 H0 F0 σ ρ' H F'
  | [], as', _, Pn, ρ, ρ', F, hs, .nil, e => by
    obtain ⟨rfl, rfl⟩ : [] = as' ∧ ρ = ρ' := by simpa [fixA] using e
    exact ⟨F, hs, .nil, fun _ q => q, rfl, (fun _ h => nomatch h), fun _ _ _ st => st⟩
  | .val w f :: as, as', v :: vs, Pn, ρ, ρ', F, hs, .cons h t, e => by
    simp only [fixA] at e
    cases q : fixA ρ as with
    | none => rw [q] at e; cases e
    | some y =>
      obtain ⟨bs, ρ1⟩ := y
      rw [q] at e
      obtain ⟨rfl, rfl⟩ : .val w f :: bs = as' ∧ ρ1 = ρ' := by simpa using e
      obtain ⟨F1, s1, a1, m1, p1, v1, t1⟩ := fixA_ok (Pn := pnd (.val w f) v ++ Pn) (by simpa [pnds] using hs) t q
      refine ⟨F1, by simpa [pnds] using s1, .cons (h.more m1) a1, m1, by simp [pnds, p1], fun u hu => ?_, t1⟩
      rcases List.mem_cons.mp hu with rfl | hu
      · exact ⟨w, f, rfl⟩
      · exact v1 u hu
  | .slot i :: as, as', v :: vs, Pn, ρ, ρ', F, hs, .cons h t, e => by
    simp only [fixA] at e
    cases q1 : shr ρ (.slot i) with
    | none => rw [q1] at e; cases e
    | some y =>
      obtain ⟨w, ρ1⟩ := y
      rw [q1] at e
      dsimp only at e
      cases q : fixA ρ1 as with
      | none => rw [q] at e; cases e
      | some z =>
        obtain ⟨bs, ρ2⟩ := z
        rw [q] at e
        obtain ⟨rfl, rfl⟩ : .val w false :: bs = as' ∧ ρ2 = ρ' := by simpa using e
        obtain ⟨F1, s1, r1, m1, t1⟩ := AR.share (P1 := pnds as vs) (Pn := Pn) (by simpa [pnds, pnd] using hs) h q1
        obtain ⟨F2, s2, a2, m2, p2, v2, t2⟩ := fixA_ok (Pn := Pn) s1 (t.more m1) q
        refine ⟨F2, by simpa [pnds, pnd] using s2, .cons (r1.more m2) a2, fun a z => m2 a (m1 a z), by simp [pnds, pnd, p2], fun u hu => ?_, fun H0 F0 ρ0 st => t2 H0 F0 ρ0 (t1 H0 F0 ρ0 st fun d y z => by simp [pnd] at z)⟩
        rcases List.mem_cons.mp hu with rfl | hu
        · exact ⟨w, false, rfl⟩
        · exact v2 u hu
theorem ARs.any {K : PySem.W.Frag} {σ σ' : Sg} {H : Hp} {F F' : Addr → Prop} (hm : ∀ a, F a → F' a) {as : List Arg} {vs : List V} (h : ARs K σ H F as vs) (hv : ∀ u ∈ as, ∃ w f, u = Arg.val w f) : ARs K σ' H F' as vs := by
  induction h with
  | nil => exact .nil
  | cons a _ ih =>
    refine .cons ?_ (ih fun u hu => hv u (List.mem_cons_of_mem _ hu))
    obtain ⟨w, f, rfl⟩ := hv _ List.mem_cons_self
    cases f with
    | true => exact a
    | false => exact HR.more hm a
theorem asAs_ok {A : Nat → Option Addr} {H : Hp} : ∀ {is : List Nat} {as : List Arg} {vs : List V} {Pn : List (Addr × W)} {σ : Sg} {ρ ρ' : Env} {F : Addr → Prop}, SRel c.K A σ ρ H F (pnds as vs ++ Pn) → ARs c.K σ H F as vs → (∀ u ∈ as, ∃ w f, u = .val w f) → asAs is as ρ = some ρ' →
    is.length = vs.length ∧ is.Nodup ∧ ∃ F', SRel c.K A (setAll σ is vs) ρ' H F' Pn ∧ ∀ H0 F0 ρ0 σ0, Stp σ0 ρ0 H0 F0 σ ρ H F → (∀ d y, (d, y) ∈ pnds as vs → H0 d = none) → Stp σ0 ρ0 H0 F0 (setAll σ is vs) ρ' H F'
  | [], [], [], Pn, σ, ρ, ρ', F, hs, .nil, hv, e => by
    obtain rfl : ρ = ρ' := by simpa [asAs] using e
    exact ⟨rfl, List.nodup_nil, F, hs, fun _ _ _ _ st _ => st⟩
  | i :: is, a :: as, v :: vs, Pn, σ, ρ, ρ', F, hs, .cons h t, hv, e => by
    simp only [asAs] at e
    cases hi : is.contains i with
    | true => rw [hi] at e; simp at e
    | false =>
      rw [hi] at e
      simp only [Bool.false_eq_true, if_false] at e
      obtain ⟨w, f, rfl⟩ := hv a List.mem_cons_self
      cases q : asA i (.val w f) ρ with
      | none => rw [q] at e; cases e
      | some ρ1 =>
        rw [q] at e
        have s0 : SRel c.K A σ ρ H F (pnds as vs ++ (pnd (.val w f) v ++ Pn)) := by simpa [pnds] using hs
        obtain ⟨s1, t1⟩ := asV_ok s0 h q
        have hv' : ∀ u ∈ as, ∃ w f, u = Arg.val w f := fun u hu => hv u (List.mem_cons_of_mem _ hu)
        obtain ⟨l2, n2, F2, s2, t2⟩ := asAs_ok (σ := σ.set i (some v)) s1 (t.any (fun _ z => z) hv') hv' e
        exact ⟨by simp [l2], List.nodup_cons.mpr ⟨fun z => (by rw [List.contains_iff_mem.mpr z] at hi; cases hi), n2⟩, F2, s2, fun H0 F0 ρ0 σ0 st hn => t2 H0 F0 ρ0 σ0 (t1 H0 F0 ρ0 σ0 st fun d y z => hn d y (by simp [pnds, z])) fun d y z => hn d y (by simp [pnds, z])⟩
  | [], _ :: _, _, _, _, _, _, _, _, _, _, e => by simp [asAs] at e
  | _ :: _, [], _, _, _, _, _, _, _, _, _, e => by simp [asAs] at e
end
end Py

namespace Py
open PySem PySem.Spec PyProof.Rows L2
variable [HW]
section
variable {X : Cx} {c : Cf} {tk : Tk} {g : Nat} {st : Stmt} {sts : List Stmt} {e a b tg iter : Expr} {ea eb eas ec : E} {s r : S} {pos p : Pos} {x : Str}
/-! ### a, b = e1, e2 -/
theorem par_read {is : List Nat} {D : Ends} {σ : Sg} {H : Hp} {R : List V → Hp → Prop} (h : tS c tk g (.par is eas) D σ H)
    (fin : ∀ vs H1, is.length = vs.length → is.Nodup → (∀ p o, H1 p = none → D.nx (setAll σ is vs) (upd H1 p o)) → D.nx (setAll σ is vs) H1 → vs.length ≤ szL → R vs H1) (hz : is.length ≤ 1000) : tXL c eas σ H R := by
  obtain ⟨A, ρ, F, Pn, hs, q⟩ := h
  refine tXL_S hs q fun us vs ρ1 H1 F1 m q1 => ?_
  cases e1 : fixA ρ1 us with
  | none => simp only [e1] at q1; exact q1.elim
  | some y =>
    obtain ⟨as, ρ2⟩ := y
    simp only [e1] at q1
    obtain ⟨F2, s2, a2, m2, p2, v2, t2⟩ := fixA_ok m.sr m.ar e1
    cases e2 : asAs is as ρ2 with
    | none => simp only [e2] at q1; exact q1.elim
    | some ρ3 =>
      simp only [e2] at q1
      obtain ⟨l3, n3, F3, s3, t3⟩ := asAs_ok s2 a2 v2 e2
      have t := t3 H F ρ σ (t2 H F ρ m.st) (by rw [p2]; exact m.fr)
      exact fin vs H1 l3 n3 (fun p o hp => q1 _ _ F3 (t.trans (.alloc hp)) (s3.alloc hp)) (q1 _ _ F3 t s3) (by rw [← l3]; exact Nat.le_trans hz (by decide))
theorem s_par2 {i j : Nat} {x y : Str} {px py pt : Pos} {kt k2 pt2} (hc : X.calm = true) (hN : X.N.Nodup) (hi : X.N[i]? = some x) (hj : X.N[j]? = some y)
    (hx : X.env.scope.names.lookup x = some .local) (hy : X.env.scope.names.lookup y = some .local) (ha : PA X [a, b] (tXL c eas))
    (hw : swappedStores [.Tuple [.Name x px, .Name y py] kt pt] (.Tuple [a, b] k2 pt2) X.env = pure (some [x, y])) (hij : i ≠ j) :
    PS X (.Assign [.Tuple [.Name x px, .Name y py] kt pt] (.Tuple [a, b] k2 pt2) pos) (tS c tk g (.par [i, j] eas)) := by
  refine psImp (ps_par hc hN hi hj hij hx hy ha hw) fun D σ H h => par_read h (fun vs H1 hl _ _ q _ => ?_) (by simp)
  match vs, hl, q with
  | [v, w], _, q => exact ⟨v, w, rfl, q⟩
theorem s_par3 {i j l : Nat} {d : Expr} {x y z : Str} {px py pz pt : Pos} {kt k2 pt2} (hc : X.calm = true) (hN : X.N.Nodup) (hi : X.N[i]? = some x) (hj : X.N[j]? = some y) (hl : X.N[l]? = some z)
    (hx : X.env.scope.names.lookup x = some .local) (hy : X.env.scope.names.lookup y = some .local) (hz : X.env.scope.names.lookup z = some .local) (ha : PA X [a, b, d] (tXL c eas))
    (hw : swappedStores [.Tuple [.Name x px, .Name y py, .Name z pz] kt pt] (.Tuple [a, b, d] k2 pt2) X.env = pure (some [x, y, z])) (hij : i ≠ j) (hil : i ≠ l) (hjl : j ≠ l) :
    PS X (.Assign [.Tuple [.Name x px, .Name y py, .Name z pz] kt pt] (.Tuple [a, b, d] k2 pt2) pos) (tS c tk g (.par [i, j, l] eas)) := by
  refine psImp (ps_par3 hc hN hi hj hl hij hil hjl hx hy hz ha hw) fun D σ H h => par_read h (fun vs H1 hl _ _ q _ => ?_) (by simp)
  match vs, hl, q with
  | [u, v, w], _, q => exact ⟨u, v, w, rfl, q⟩
/-- names one after another -/
def gAll : List Nat → TGs
  | [] => gNil
  | i :: is => gCons (gName i) (gAll is)
theorem gAll_of {D : Ends} : ∀ {is : List Nat} {vs : List V} {σ : Sg} {H : Hp}, is.length = vs.length → D.nx (setAll σ is vs) H → gAll is vs σ H D.nx
  | [], [], σ, H, _, q => ⟨rfl, q⟩
  | i :: is, v :: vs, σ, H, hl, q => ⟨v, vs, rfl, gAll_of (is := is) (by simpa using hl) q⟩
/-- names as targets, in any number -/
inductive NmS (X : Cx) : List Expr → List Nat → Prop
  | nil : NmS X [] []
  | cons {x : Str} {p : Pos} {i : Nat} {es : List Expr} {is : List Nat} : X.N[i]? = some x → Loc X.env.scope x → (X.fn x = true ∨ X.env.scope.names.lookup x = some .local) → NmS X es is → NmS X (.Name x p :: es) (i :: is)
theorem NmS.pgs {es : List Expr} {is : List Nat} (hN : X.N.Nodup) (h : NmS X es is) : PGs X es (gAll is) := by
  induction h with
  | nil => exact pgs_nil
  | cons h1 h2 h3 _ ih => exact pgs_cons (pg_name hN h1 h2 h3) ih rfl
theorem NmS.len {es : List Expr} {is : List Nat} (h : NmS X es is) : es.length = is.length := by
  induction h with
  | nil => rfl
  | cons _ _ _ _ ih => simp [ih]
theorem NmS.plain {es : List Expr} {is : List Nat} (h : NmS X es is) : es.all plainE = true := by
  induction h with
  | nil => rfl
  | cons _ _ _ _ ih => simp [ih, plainE]
theorem s_parN {ts es : List Expr} {is : List Nat} {kt k2 pt pt2} (hc : X.calm = true) (hN : X.N.Nodup) (hn : NmS X ts is) (ha : PA X es (tXL c eas)) (hz : is.length ≤ 1000)
    (hw : swappedStores [.Tuple ts kt pt] (.Tuple es k2 pt2) X.env = pure none) : PS X (.Assign [.Tuple ts kt pt] (.Tuple es k2 pt2) pos) (tS c tk g (.par is eas)) := by
  refine psImp (ps_asg (pe_tup ha) (pg_tup hc (NmS.pgs hN hn) (each_len _ _) (each_star _ hn.plain)) rfl hw rfl) fun D σ H h => ?_
  exact par_read h (fun vs H1 hl _ q _ hv => ⟨hv, fun p hp => ⟨p, vs, rfl, .inl (.inl upd_same), by rw [hn.len, hl], gAll_of hl (q p _ hp)⟩⟩) hz

/-- an argument behind others -/
theorem tX_S2 {A : Nat → Option Addr} {σ : Sg} {ρ ρ1 : Env} {H H1 : Hp} {F F1 : Addr → Prop} {Pn : List (Addr × W)} {as : List Arg} {vs : List V} {D : Ends} {e : E} {R : VK} {f : Arg → Env → SO} (m : Md c A σ ρ H F Pn as vs ρ1 H1 F1) (h : RS c A σ ρ H F Pn D (SO.bnd ((ev c.C e).x ρ1) f))
    (fin : ∀ u v ρ2 H2 F2, Md c A σ ρ H F Pn (as ++ [u]) (vs ++ [v]) ρ2 H2 F2 → RS c A σ ρ H F Pn D (f u ρ2) → R v H2) : tX c e σ H1 R :=
  ⟨A, ρ1, F1, pnds as vs ++ Pn, m.sr, (bnd_ok h).mono (fun a ρ2 h2 v H2 F2 st s ar fr => fin a v ρ2 H2 F2 (m.snoc st s ar fr) h2) fun _ _ _ e => e.step m.st⟩
/-! ### a change in place -/
theorem SRel.mutG {K : PySem.W.Frag} {A : Nat → Option Addr} {σ : Sg} {ρ : Env} {H : Hp} {F : Addr → Prop} {Pn : List (Addr × W)} {i : Nat} {w : W} {f : Fl} {d : Addr} {ob : HO} {w1 : W} (hs : SRel K A σ ρ H F Pn) (e : ρ[i]? = some (some (w, f))) (hf : f = .own ∨ f = .io) (ed : σ[i]? = some (some (.ref d)))
    (hc1 : (∀ a xs, SqT K H a xs → SqT K (upd H d ob) a xs) → (∀ a xs, F a → Rd H a (.lst xs) → Rd (upd H d ob) a (.lst xs)) → Cell K (upd H d ob) F d w1) : SRel K A σ (ρ.set i (some (w1, f))) (upd H d ob) F Pn ∧ Stp σ ρ H F σ (ρ.set i (some (w1, f))) (upd H d ob) F := by
  have nsh : f ≠ .sh := by rcases hf with rfl | rfl <;> decide
  have hi := lt_of_get e
  obtain ⟨d', x, nF, hc⟩ := hs.ow i w f e nsh
  rw [ed] at x; cases x
  obtain ⟨l0, e0, m0⟩ := hc.obj
  have sl : SlA σ ρ i d := ⟨w, f, e, nsh, ed⟩
  have rd : ∀ a u, a ≠ d → Rd H a u → Rd (upd H d ob) a u := fun a u n h => by
    rcases h with h | ⟨o, h⟩
    · exact .inl (by rw [upd_ne n]; exact h)
    · exact .inr ⟨o, by rw [upd_ne n]; exact h⟩
  have sq : ∀ a xs, SqT K H a xs → SqT K (upd H d ob) a xs := fun a xs h => by
    rcases h with h | h
    · refine .inl (rd a _ ?_ h)
      rintro rfl
      exact no_tup e0 m0 h
    · exact .inr h
  have hrm : ∀ {v : V} {x : W}, HR K H F v x → HR K (upd H d ob) F v x := fun h => h.mono sq (fun _ q => q) fun a xs f r => rd a _ (fun z => nF (z ▸ f)) r
  have hrs : ∀ {v : List V} {x : List W}, HRs K H F v x → HRs K (upd H d ob) F v x := fun h => h.mono sq (fun _ q => q) fun a xs f r => rd a _ (fun z => nF (z ▸ f)) r
  have hds : ∀ {es : DEs} {x : List (W × W)}, DRel K H F es x → DRel K (upd H d ob) F es x := fun h => h.mono sq (fun _ q => q) fun a xs f r => rd a _ (fun z => nF (z ▸ f)) r
  have cell : ∀ {a : Addr} {x : W}, a ≠ d → Cell K H F a x → Cell K (upd H d ob) F a x := fun {a x} n h => by
    cases x <;> first | exact h.elim | skip
    · obtain ⟨l, e, z, r⟩ := h
      exact ⟨l, by rw [upd_ne n]; exact e, z, hrs r⟩
    · obtain ⟨l, e, z, k, r⟩ := h
      exact ⟨l, by rw [upd_ne n]; exact e, z, k, hds r⟩
  have sla : ∀ j a, SlA σ (ρ.set i (some (w1, f))) j a → SlA σ ρ j a := fun j a ⟨w', f', e', n', s'⟩ => by
    rw [gets hi] at e'
    by_cases q : j = i
    · rw [if_pos q] at e'; cases e'; subst q; exact ⟨w, f, e, nsh, s'⟩
    · rw [if_neg q] at e'; exact ⟨w', f', e', n', s'⟩
  refine ⟨⟨by simpa using hs.ln, fun j w' e' => ?_, fun j w' f' e' n => ?_, fun j w' f' e' q => ?_, fun j k a h1 h2 => hs.dj j k a (sla _ _ h1) (sla _ _ h2), fun p hp => ?_, hs.pd, fun a z => ?_⟩, ⟨fun a o h n => ?_, fun _ h => h, fun _ _ _ h => .inl h, fun a o _ z => ?_, fun a o _ j z => sla j a z, fun a o _ z => ?_, fun a o h => ?_⟩⟩
  · rw [gets hi] at e'
    by_cases q : j = i
    · rw [if_pos q] at e'; cases e'; exact absurd rfl nsh
    · rw [if_neg q] at e'
      obtain ⟨v, a, b⟩ := hs.sh j w' e'
      exact ⟨v, a, hrm b⟩
  · rw [gets hi] at e'
    by_cases q : j = i
    · rw [if_pos q] at e'; cases e'; subst q
      exact ⟨d, ed, nF, hc1 sq fun a xs f r => rd a _ (fun z => nF (z ▸ f)) r⟩
    · rw [if_neg q] at e'
      obtain ⟨a, x, y, z⟩ := hs.ow j w' f' e' n
      exact ⟨a, x, y, cell (fun k => q (hs.dj j i d ⟨w', f', e', n, k ▸ x⟩ sl)) z⟩
  · rw [gets hi] at e'
    by_cases z : j = i
    · rw [if_pos z] at e'; cases e'; subst z; exact hs.io j w f e q
    · rw [if_neg z] at e'; exact hs.io j w' f' e' q
  · obtain ⟨x, y, z⟩ := hs.pn p hp
    exact ⟨x, cell (fun k => z i (k ▸ sl)) y, fun j s => z j (sla j _ s)⟩
  · obtain ⟨o, q⟩ := hs.ff a z
    have n : a ≠ d := fun k => nF (k ▸ z)
    exact ⟨o, by rw [upd_ne n]; exact q⟩
  · have n' : a ≠ d := fun k => n ⟨i, w, f, e, hf, k ▸ ed⟩
    rw [upd_ne n']; exact h
  · obtain ⟨j, w', f', e', n', s'⟩ := z
    rw [gets hi] at e'
    by_cases q : j = i
    · rw [if_pos q] at e'; cases e'; subst q; exact ⟨j, w, f, e, n', s'⟩
    · rw [if_neg q] at e'; exact ⟨j, w', f', e', n', s'⟩
  · obtain ⟨j, w', f', e', n', s'⟩ := z
    rw [gets hi] at e'
    by_cases q : j = i
    · rw [if_pos q] at e'; cases e'; subst q; exact ⟨j, w, f, e, n', s'⟩
    · rw [if_neg q] at e'; exact ⟨j, w', f', e', n', s'⟩
  · by_cases q : a = d
    · subst q; exact ⟨_, upd_same⟩
    · exact ⟨o, by rw [upd_ne q]; exact h⟩
theorem SRel.mut {K : PySem.W.Frag} {A : Nat → Option Addr} {σ : Sg} {ρ : Env} {H : Hp} {F : Addr → Prop} {Pn : List (Addr × W)} {i : Nat} {w : W} {f : Fl} {d : Addr} {us : List V} {ws : List W} (hs : SRel K A σ ρ H F Pn) (e : ρ[i]? = some (some (w, f))) (hf : f = .own ∨ f = .io) (ed : σ[i]? = some (some (.ref d)))
    (hz : us.length ≤ szL) (hr : HRs K H F us ws) : SRel K A σ (ρ.set i (some (.lst ws, f))) (upd H d (.lst us)) F Pn ∧ Stp σ ρ H F σ (ρ.set i (some (.lst ws, f))) (upd H d (.lst us)) F :=
  hs.mutG e hf ed fun sq rd => ⟨us, upd_same, hz, hr.mono sq (fun _ q => q) rd⟩
theorem SRel.mutD {K : PySem.W.Frag} {A : Nat → Option Addr} {σ : Sg} {ρ : Env} {H : Hp} {F : Addr → Prop} {Pn : List (Addr × W)} {i : Nat} {w : W} {f : Fl} {d : Addr} {es : DEs} {ep : Nat} {kvs : List (W × W)} (hs : SRel K A σ ρ H F Pn) (e : ρ[i]? = some (some (w, f))) (hf : f = .own ∨ f = .io) (ed : σ[i]? = some (some (.ref d)))
    (hz : es.length ≤ szL) (nd : (es.map (·.1)).Nodup) (hr : DRel K H F es kvs) : SRel K A σ (ρ.set i (some (.dct kvs, f))) (upd H d (dcO d es ep)) F Pn ∧ Stp σ ρ H F σ (ρ.set i (some (.dct kvs, f))) (upd H d (dcO d es ep)) F :=
  hs.mutG e hf ed fun sq rd => ⟨es, ⟨_, upd_same⟩, hz, nd, hr.mono sq (fun _ q => q) rd⟩
/-- the object of a name that may be changed -/
theorem mut_at {K : PySem.W.Frag} {A : Nat → Option Addr} {σ : Sg} {ρ : Env} {H : Hp} {F : Addr → Prop} {Pn : List (Addr × W)} {i : Nat} {ws : List W} {f : Fl} {v : V} (hs : SRel K A σ ρ H F Pn) (e : wOf ρ i = some (.lst ws, f)) (hf : f = .own ∨ f = .io) (ev : σ[i]? = some (some v)) :
    ∃ d us, v = .ref d ∧ H d = some (.lst us) ∧ us.length ≤ szL ∧ HRs K H F us ws ∧ ρ[i]? = some (some (.lst ws, f)) ∧ σ[i]? = some (some (.ref d)) := by
  have e' := wOf_eq.mp e
  obtain ⟨d, a1, a2, us, a3, a4, a5⟩ := hs.ow i _ f e' (by rcases hf with rfl | rfl <;> decide)
  rw [ev] at a1; cases a1
  exact ⟨d, us, rfl, a3, a4, a5, e', ev⟩
/-- x[k] = e -/
theorem s_six {i : Nat} {px : Pos} {ek : E} {k : Expr} (hc : c.K = X.K) (hw : HW.P = X.prog ∧ HW.w = X.w) (hu : X.A.units + 200 < cLine) (hx : PE X (.Name x px) (tVar i)) (hk : PE X k (tX c ek)) (he : PE X e (tX c ea)) (hs : swapsWithSole [.Subscript (.Name x px) k p] e pos.line X.env = pure false) (hw2 : swappedStores [.Subscript (.Name x px) k p] e X.env = pure none)
    (ha : ∀ v, assign (.Subscript (.Name x px) k p) X.env v = (do
      let ov ← holding [v] (eval (.Name x px) X.env)
      let iv ← holding [v, ov] (eval k X.env)
      standAt p
      holding [v, ov, iv] (setItem ov iv v)
      release [v, ov, iv] [])) : PS X (.Assign [.Subscript (.Name x px) k p] e pos) (tS c tk g (.six i ek ea)) := by
  refine psImp (ps_asg he (pg_sub hx hk (set_ld hw hu) ha) hs hw2 rfl) fun D σ H ⟨A, ρ, F, Pn, hs, h⟩ => ?_
  refine tX_S hs h fun u v ρ1 H1 F1 m q1 => ?_
  obtain ⟨s1, ar, fr⟩ := m.one
  -- the name's object ahead of the index
  have fin : ∀ u' v' ρ2 H2 F2, Md c A σ ρ H F Pn [u, u'] [v, v'] ρ2 H2 F2 → RS c A σ ρ H F Pn D (sixE i u u' ρ2) → ∃ w, σ[i]? = some (some w) ∧ rSetLD X.K w v' v H2 fun H3 => D.nx σ H3 := fun u' v' ρ2 H2 F2 m2 q2 => by
    unfold sixE at q2
    have m2r : SRel c.K A σ ρ2 H2 F2 (pnd u' v' ++ (pnd u v ++ Pn)) := by simpa [pnds] using m2.sr
    obtain ⟨ar1, ar2⟩ : AR c.K σ H2 F2 u v ∧ AR c.K σ H2 F2 u' v' := by cases m2.ar with | cons h t => cases t with | cons h' _ => exact ⟨h, h'⟩
    cases e1 : shr ρ2 u with
    | none => simp only [e1] at q2; exact q2.elim
    | some y =>
      obtain ⟨w, ρ3⟩ := y
      simp only [e1] at q2
      obtain ⟨F3, s3, r3, m3, t3⟩ := AR.share (P1 := pnd u' v') (Pn := Pn) (by simpa using m2r) ar1 e1
      cases e2 : shr ρ3 u' with
      | none => simp only [e2] at q2; exact q2.elim
      | some y =>
        obtain ⟨kw, ρ4⟩ := y
        simp only [e2] at q2
        obtain ⟨F4, s4, r4, m4, t4⟩ := AR.share (P1 := []) (Pn := Pn) (by simpa using s3) (ar2.more m3) e2
        have s4 : SRel c.K A σ ρ4 H2 F4 Pn := by simpa using s4
        have t := t4 H F ρ (t3 H F ρ m2.st fun d y z => m2.fr d y (by simp [pnds, z])) fun d y z => m2.fr d y (by simp [pnds, z])
        have go : ∀ {w0 : W} {f : Fl}, wOf ρ4 i = some (w0, f) → (f = .own ∨ f = .io) → RS c A σ ρ H F Pn D (match putW w0 kw w with | some w' => .nx (ρ4.set i (some (w', f))) | none => .bad) → ∃ z, σ[i]? = some (some z) ∧ rSetLD X.K z v' v H2 fun H3 => D.nx σ H3 := fun {w0 f} e3 hf q3 => by
          cases w0 with
          | lst ws => cases kw with
            | int n =>
              obtain ⟨vi, ev⟩ := s4.val e3
              obtain ⟨d, us, rfl, e4, hz, hr, e5, e6⟩ := mut_at s4 e3 hf ev
              cases e7 : L2.ixN ws.length n with
              | none => simp [putW, e7] at q3; exact q3.elim
              | some j =>
                have q3 : RS c A σ ρ H F Pn D (.nx (ρ4.set i (some (.lst (ws.set j w), f)))) := by simpa [putW, e7] using q3
                obtain ⟨s5, t5⟩ := s4.mut e5 hf e6 (us := us.set j v) (ws := ws.set j w) (by simpa using hz) (hr.set (r3.more m4) j)
                exact ⟨_, ev, .inl ⟨d, us, n, j, rfl, (PkR.of r4).int, e4, by rw [hr.length]; exact e7, q3 σ _ F4 (t.trans t5) s5⟩⟩
            | _ => exact q3.elim
          | dct kvs =>
            have q3 : RS c A σ ρ H F Pn D (match (if kOk kw kvs = true ∧ kvs.length < szL then some (W.dct (ptW kw w kvs)) else none) with | some w' => SO.nx (ρ4.set i (some (w', f))) | none => .bad) := by cases kw <;> exact q3
            by_cases hk : kOk kw kvs = true ∧ kvs.length < szL
            · rw [if_pos hk] at q3
              obtain ⟨vi, ev⟩ := s4.val e3
              obtain ⟨d, a1, a2, es, a3, a4, a5, a6⟩ := s4.ow i _ f (wOf_eq.mp e3) (by rcases hf with rfl | rfl <;> decide)
              rw [ev] at a1; cases a1
              refine ⟨_, ev, .inr ⟨F4, d, es, kvs, kw, w, rfl, a3, by rw [a6.length]; exact hk.2, a5, by rw [← hc]; exact a6, by rw [← hc]; exact r4, hk.1, by rw [← hc]; exact r3.more m4, fun es' ep' z1 z2 z3 => ?_⟩⟩
              rw [← hc] at z3
              obtain ⟨s5, t5⟩ := s4.mutD (wOf_eq.mp e3) hf ev z1 z2 z3
              exact q3 σ _ F4 (t.trans t5) s5
            · rw [if_neg hk] at q3; exact q3.elim
          | _ => exact q3.elim
        cases e3 : wOf ρ4 i with
        | none => simp only [e3] at q2; exact q2.elim
        | some y =>
          obtain ⟨w0, f⟩ := y
          simp only [e3] at q2
          cases f with
          | own => exact go e3 (.inl rfl) q2
          | io => exact go e3 (.inr rfl) q2
          | sh => exact q2.elim
          | ownL => exact q2.elim
          | ioL => exact q2.elim
  cases e0 : wOf ρ1 i with
  | none => simp only [e0] at q1; exact q1.elim
  | some y =>
    simp only [e0] at q1
    obtain ⟨w, f⟩ := y
    obtain ⟨vi, ev⟩ := s1.val e0
    refine ⟨vi, ev, ?_⟩
    refine tX_S2 m q1 fun u' v' ρ2 H2 F2 m2 q2 => ?_
    obtain ⟨z, e1, r⟩ := fin u' v' ρ2 H2 F2 m2 q2
    rw [ev] at e1; cases e1
    exact r
end
end Py

namespace Py
open PySem PySem.Spec PyProof.Rows L2
variable [HW]
section
variable {X : Cx} {c : Cf} {tk : Tk} {g : Nat} {st : Stmt} {sts : List Stmt} {e a b tg iter : Expr} {ea eb eas ec : E} {s r : S} {pos p : Pos} {x : Str}
theorem mutOk_ok {o : Option (W × Fl)} (h : mutOk o = true) : ∃ ws f, o = some (.lst ws, f) ∧ (f = .own ∨ f = .io) := by
  unfold mutOk at h
  split at h
  · exact ⟨_, _, rfl, .inl rfl⟩
  · exact ⟨_, _, rfl, .inr rfl⟩
  · cases h
theorem mut_read {mk : MK} {i : Nat} {D : Ends} {σ : Sg} {H : Hp} {r : V → List V → Hp → VK → Prop} (h : tS c tk g (.mut mk i eas) D σ H)
    (hr : ∀ (d : Addr) us ws vs wsA w' H1 F1 Q, H1 d = some (.lst us) → us.length ≤ szL → HRs c.K H1 F1 us ws → HRs c.K H1 F1 vs wsA → mutW mk (.lst ws) wsA = some w' → (∀ us' ws2, w' = .lst ws2 → us'.length ≤ szL → HRs c.K H1 F1 us' ws2 → ∀ v, Q v (upd H1 d (.lst us'))) → r (.ref d) vs H1 Q) :
    tDrop (tBM c.K "list" r (tVar i) (tXL c eas)) D σ H := by
  obtain ⟨A, ρ, F, Pn, hs, q⟩ := h
  have q : RS c A σ ρ H F Pn D (if mutOk (wOf ρ i) = true then SO.bnd ((ev c.C eas).a ρ) (fun us ρ1 => mutE mk i us ρ1) else .bad) := q
  cases e0 : mutOk (wOf ρ i) with
  | false => simp only [e0, Bool.false_eq_true, if_false] at q; exact q.elim
  | true =>
    simp only [e0, if_true] at q
    obtain ⟨ws0, f0, e1, hf⟩ := mutOk_ok e0
    obtain ⟨vi, ev⟩ := hs.val e1
    obtain ⟨d, us, rfl, h1, _⟩ := mut_at hs e1 hf ev
    refine ⟨.ref d, ev, .inl ⟨rfl, us, .of h1⟩, ?_⟩
    refine tXL_S hs q fun as vs ρ1 H1 F1 m q1 => ?_
    unfold mutE at q1
    cases e2 : shrs ρ1 as with
    | none => simp only [e2] at q1; exact q1.elim
    | some y =>
      obtain ⟨wsA, ρ2⟩ := y
      simp only [e2] at q1
      obtain ⟨F2, m2, r2⟩ := m.share e2
      have s2 : SRel c.K A σ ρ2 H1 F2 Pn := by simpa [pnds] using m2.sr
      have go : ∀ {w : W} {f : Fl}, wOf ρ2 i = some (w, f) → (f = .own ∨ f = .io) → RS c A σ ρ H F Pn D (match mutW mk w wsA with | some w' => .nx (ρ2.set i (some (w', f))) | none => .bad) → r (.ref d) vs H1 fun _ H1 => D.nx σ H1 := fun {w f} e3 hf q3 => by
        obtain ⟨_, _, _, z⟩ := s2.ow i _ f (wOf_eq.mp e3) (by rcases hf with rfl | rfl <;> decide)
        cases w <;> first | exact z.elim | skip
        case dct => exact absurd q3 (by cases mk <;> exact fun h => h)
        rename_i ws
        obtain ⟨d', us', e, h1', hz', hr', e5, e6⟩ := mut_at s2 e3 hf ev
        cases e
        cases e4 : mutW mk (.lst ws) wsA with
        | none => simp only [e4] at q3; exact q3.elim
        | some w' =>
          simp only [e4] at q3
          refine hr d us' ws vs wsA w' H1 F2 _ h1' hz' hr' r2 e4 fun us2 ws2 ew hz2 hr2 v => ?_
          subst ew
          obtain ⟨s5, t5⟩ := s2.mut e5 hf e6 hz2 hr2
          exact q3 σ _ F2 (m2.st.trans t5) s5
      cases e3 : wOf ρ2 i with
      | none => simp only [e3] at q1; exact q1.elim
      | some y =>
        obtain ⟨w0, f⟩ := y
        simp only [e3] at q1
        cases f with
        | own => exact go e3 (.inl rfl) q1
        | io => exact go e3 (.inr rfl) q1
        | sh => exact q1.elim
        | ownL => exact q1.elim
        | ioL => exact q1.elim
theorem name_base {x : Str} {px : Pos} {attr : Str} {env : PySem.Env} {w : Sem Value} : attributeBase (.Name x px) attr env w = w := base_plain fun _ _ _ h => nomatch h
theorem s_append {i : Nat} {px apos cpos : Pos} (hc : c.K = X.K) (hx : PE X (.Name x px) (tVar i)) (hp : plainE e = true) (ha : PA X [e] (tXL c eas)) (hl : (apos.endLine == cpos.line) = true)
    (hs : swapsWith (.Call (.Attribute (.Name x px) "append" apos) [e] [] cpos) none pos.line X.env = pure false) : PS X (.Expr (.Call (.Attribute (.Name x px) "append" apos) [e] [] cpos) pos) (tS c tk g (.mut .append i eas)) := by
  refine psImp (ps_expr (pe_bm PySem.F.plainAttrs_list PySem.F.slot_list_append PySem.F.type_list_append mt_append hx ha name_base ?_ hl (star_cons _ hp _) rfl) hs) fun D σ H h => ?_
  · rw [(star_all _ _ (es := [e]) (by simp [hp])).2]
    simp [backToKw, keywordEach]
  · rw [← hc]
    refine mut_read h fun d us ws vs wsA w' H1 F1 Q e1 hz r1 r2 e2 k => ?_
    match wsA, r2, e2 with
    | [w], .cons hv .nil, e2 =>
      have e2 : (if ws.length < szL then some (W.lst (ws ++ [w])) else none) = some w' := e2
      by_cases z : ws.length < szL
      · rw [if_pos z] at e2
        have hl := r1.length
        rw [← hl] at z
        exact ⟨d, us, _, rfl, rfl, e1, z, k _ _ (Option.some.inj e2).symm (by simp; omega) (r1.append (.one hv)) .non⟩
      · rw [if_neg z] at e2; cases e2
    | [], _, e2 => cases e2
    | _ :: _ :: _, _, e2 => cases e2
theorem rd_lst {X : Cx} {pins : List (Addr × Obj)} {s : Shared} {σ : Sg} {H : Hp} (I : Inv X pins σ H s) {b : Addr} {zs : List V} (h : Rd H b (.lst zs)) : ∃ (its : List Value) (n : Nat), Vals zs its ∧ zs.length = its.length ∧ s.heap.get? b = some { cls := .type "list", data := .seq its.toArray n } := by
  rcases h with h | ⟨o, h⟩
  · obtain ⟨_, its, n, r, hl, e⟩ := I.lstM h
    exact ⟨its, n, r, hl, e⟩
  · obtain ⟨_, _, its, n, r, e⟩ := I.hok b _ h
    exact ⟨its, n, r, r.length, e⟩
def rExtR : V → List V → Hp → VK → Prop := fun x vs H Q => ∃ l b xs zs, x = .ref l ∧ vs = [.ref b] ∧ H l = some (.lst xs) ∧ Rd H b (.lst zs) ∧ xs.length + zs.length ≤ sizeLine ∧ Q .non (upd H l (.lst (xs ++ zs)))
theorem mt_extR {X : Cx} : MtM X "list.extend" rExtR := by
  intro pins s σ H x vs v us Q I rx rv h
  obtain ⟨l, b, xs, zs, rfl, rfl, hH, hB, hz, q⟩ := h
  cases rx
  obtain ⟨u, rfl, ru⟩ := rv.one
  cases ru
  obtain ⟨z, its, n, r, hl, e⟩ := I.lstM hH
  obtain ⟨its2, n2, r2, hl2, e2⟩ := rd_lst I hB
  have hsz : its.toArray.size + its2.toArray.size ≤ sizeLine := by rw [List.size_toArray, List.size_toArray]; omega
  have hlong : ¬ (!its.toArray.isEmpty && Builtin.List.listTooLong (its.toArray.size + its2.toArray.size)) = true := by
    rw [notLongL hsz, Bool.and_false]
    exact Bool.false_ne_true
  refine call_meets PySem.F.slot_list_extend ⟨_, e, rfl⟩ PySem.F.entry_list_extend (PySem.F.args_list_extend_2 _ _)
    (AutoSeq1.list_extend_list_list_0 l its.toArray n b its2.toArray n2 hlong (by rw [List.size_toArray]; omega) (by omega)) ⟨e, e2, ?_⟩
  refine ⟨.non, _, I.lset (its' := its ++ its2) hH e (by simp) (r.append r2) ?_, rfl, q⟩
  rw [List.length_append]
  omega
theorem s_extend {i : Nat} {px apos cpos : Pos} (hc : c.K = X.K) (hx : PE X (.Name x px) (tVar i)) (hp : plainE e = true) (ha : PA X [e] (tXL c eas)) (hl : (apos.endLine == cpos.line) = true)
    (hs : swapsWith (.Call (.Attribute (.Name x px) "extend" apos) [e] [] cpos) none pos.line X.env = pure false) : PS X (.Expr (.Call (.Attribute (.Name x px) "extend" apos) [e] [] cpos) pos) (tS c tk g (.mut .extend i eas)) := by
  refine psImp (ps_expr (pe_bm PySem.F.plainAttrs_list PySem.F.slot_list_extend PySem.F.type_list_extend mt_extR hx ha name_base ?_ hl (star_cons _ hp _) rfl) hs) fun D σ H h => ?_
  · rw [(star_all _ _ (es := [e]) (by simp [hp])).2]
    simp [backToKw, keywordEach]
  · rw [← hc]
    refine mut_read h fun d us ws vs wsA w' H1 F1 Q e1 hz r1 r2 e2 k => ?_
    match wsA, r2, e2 with
    | [.lst ys], .cons hv .nil, e2 =>
      have e2 : (if ws.length + ys.length ≤ szL then some (W.lst (ws ++ ys)) else none) = some w' := e2
      by_cases z : ws.length + ys.length ≤ szL
      · rw [if_pos z] at e2
        cases hv with
        | lst f r zz hr =>
          have hl := r1.length
          have hl2 := hr.length
          rw [← hl, ← hl2] at z
          exact ⟨d, _, us, _, rfl, rfl, e1, r, by rw [← szL_eq]; exact z, k _ _ (Option.some.inj e2).symm (by rw [List.length_append]; exact z) (r1.append hr) .non⟩
      · rw [if_neg z] at e2; cases e2
    | [], _, e2 => cases e2
    | _ :: _ :: _, _, e2 => simp [mutW] at e2
    | [.non], _, e2 => cases e2
    | [.bl _], _, e2 => cases e2
    | [.int _], _, e2 => cases e2
    | [.str _], _, e2 => cases e2
    | [.tup _], _, e2 => cases e2
    | [.dct _], _, e2 => cases e2
    | [.st _], _, e2 => cases e2
theorem s_insert {i : Nat} {px apos cpos : Pos} (hc : c.K = X.K) (hx : PE X (.Name x px) (tVar i)) (hp : plainE a = true) (hp2 : plainE b = true) (ha : PA X [a, b] (tXL c eas)) (hl : (apos.endLine == cpos.line) = true)
    (hs : swapsWith (.Call (.Attribute (.Name x px) "insert" apos) [a, b] [] cpos) none pos.line X.env = pure false) : PS X (.Expr (.Call (.Attribute (.Name x px) "insert" apos) [a, b] [] cpos) pos) (tS c tk g (.mut .insert i eas)) := by
  refine psImp (ps_expr (pe_bm PySem.F.plainAttrs_list PySem.F.slot_list_insert PySem.F.type_list_insert mt_insert hx ha name_base ?_ hl (star_cons _ hp _) ?_) hs) fun D σ H h => ?_
  · rw [(star_all _ _ (es := [a, b]) (by simp [hp, hp2])).2]
    simp [backToKw, keywordEach]
  · exact (star_all _ _ (es := [b]) (by simp [hp2])).1
  · rw [← hc]
    refine mut_read h fun d us ws vs wsA w' H1 F1 Q e1 hz r1 r2 e2 k => ?_
    match wsA, r2, e2 with
    | [.int n, w], .cons hn (.cons hv .nil), e2 =>
      have e2 : (if ws.length < szL ∧ 0 ≤ n ∧ n ≤ ws.length then some (W.lst (ws.take n.toNat ++ w :: ws.drop n.toNat)) else none) = some w' := e2
      by_cases z : ws.length < szL ∧ 0 ≤ n ∧ n ≤ ws.length
      · rw [if_pos z] at e2
        have hl := r1.length
        obtain ⟨z1, z2, z3⟩ := z
        rw [← hl] at z1
        cases hn
        have z4 : n < 2 ^ 63 := by have : (szL : Int) < 2 ^ 63 := by decide
                                   omega
        refine ⟨d, us, n, _, rfl, rfl, e1, z1, z2, z4, k _ _ (Option.some.inj e2).symm ?_ ?_ .non⟩
        · simp only [List.length_append, List.length_take, List.length_drop, List.length_singleton]; omega
        · rw [List.append_assoc]
          exact (r1.take _).append (.cons hv (r1.drop _))
      · rw [if_neg z] at e2; cases e2
    | [], _, e2 => cases e2
    | [_], _, e2 => simp [mutW] at e2
    | _ :: _ :: _ :: _, _, e2 => simp [mutW] at e2
    | [.non, _], _, e2 => cases e2
    | [.bl _, _], _, e2 => cases e2
    | [.str _, _], _, e2 => cases e2
    | [.tup _, _], _, e2 => cases e2
    | [.lst _, _], _, e2 => cases e2
    | [.dct _, _], _, e2 => cases e2
    | [.st _, _], _, e2 => cases e2

/-! ### x = y.pop(k) -/
theorem setN_at {ρ ρ' : Env} {i : Nat} {w : W} {f : Fl} (h : setN ρ i w f = some ρ') : ρ' = ρ.set i (some (w, f)) := by
  unfold setN at h
  split at h
  · cases h
  · cases h
  · exact (Option.some.inj h).symm
  · cases h
def rPopK : V → List V → Hp → VK → Prop := fun x vs H Q => ∃ l us k v, x = .ref l ∧ vs = [.int k] ∧ H l = some (.lst us) ∧ (0 ≤ k ∧ k < us.length) ∧ us.length ≤ sizeLine ∧ us[k.toNat]? = some v ∧ Q v (upd H l (.lst (us.eraseIdx k.toNat)))
theorem mt_popK {X : Cx} : MtM X "list.pop" rPopK := by
  intro pins s σ H x vs v us Q I rx rv h
  obtain ⟨l, xs, k, y, rfl, rfl, hH, hk, hz, hy, q⟩ := h
  cases rx
  obtain ⟨u, rfl, ru⟩ := rv.one
  obtain ⟨t, rfl⟩ := ru
  obtain ⟨_, its, n, r, hl, e⟩ := I.lstM hH
  obtain ⟨yv, hyv, ry⟩ := r.get hy
  have h63 : (sizeLine : Int) < 2 ^ 63 := by rw [← szL_eq]; decide
  have hfit : Builtin.List.listFitsIndex k = true := fitsIndex_of hk.1 (by omega)
  have hix : seqIndex? k its.toArray.size = some k.toNat := by
    rw [List.size_toArray]
    unfold seqIndex?
    have h1 : ¬ k < 0 := by omega
    have h2 : (decide (0 ≤ k) && decide (k < (its.length : Int))) = true := by simp; omega
    simp only [h1, if_false, h2, if_true]
  refine call_meets PySem.F.slot_list_pop ⟨_, e, rfl⟩ PySem.F.entry_list_pop (PySem.F.args_list_pop_2 _ _) (PySem.MeetsSeq.list_pop_at l its.toArray n k t k.toNat yv hfit hix (by simpa using hyv) (by rw [List.size_toArray]; omega)) ⟨e, ?_⟩
  refine ⟨y, _, I.lset (its' := its.eraseIdx k.toNat) hH e ?_ (r.eraseIdx k.toNat) ?_, ry, q⟩
  · have hlt : k.toNat < its.length := by omega
    simp [Array.eraseIdxIfInBounds, hlt]
  · exact Nat.le_trans (len_erase _ _) hz
theorem HRs.erase {K : PySem.W.Frag} {H : Hp} {F : Addr → Prop} : ∀ {us : List V} {ws : List W} (i : Nat), HRs K H F us ws → HRs K H F (us.eraseIdx i) (ws.eraseIdx i)
  | _, _, _, .nil => .nil
  | _, _, 0, .cons _ t => t
  | _, _, i + 1, .cons r t => .cons r (HRs.erase i t)
theorem s_popi {i j : Nat} {y : Str} {p' py apos cpos : Pos} (hc : c.K = X.K) (hN : X.N.Nodup) (hi : X.N[i]? = some x) (hx : Loc X.env.scope x) (hf : X.fn x = true ∨ X.env.scope.names.lookup x = some .local) (hy : PE X (.Name y py) (tVar j)) (hp : plainE e = true) (ha : PA X [e] (tXL c eas)) (hl : (apos.endLine == cpos.line) = true)
    (hs : swapsWith (.Call (.Attribute (.Name y py) "pop" apos) [e] [] cpos) (some (.Name x p')) pos.line X.env = pure false) : PS X (.Assign [.Name x p'] (.Call (.Attribute (.Name y py) "pop" apos) [e] [] cpos) pos) (tS c tk g (.popi i j eas)) := by
  refine psImp (ps_set hN hi hx (pe_bm PySem.F.plainAttrs_list PySem.F.slot_list_pop PySem.F.type_list_pop mt_popK hy ha name_base ?_ hl (star_cons _ hp _) rfl) hs hf) fun D σ H h => ?_
  · rw [(star_all _ _ (es := [e]) (by simp [hp])).2]
    simp [backToKw, keywordEach]
  · rw [← hc]
    obtain ⟨A, ρ, F, Pn, hs, q⟩ := h
    have q : RS c A σ ρ H F Pn D (if mutOk (wOf ρ j) = true then SO.bnd ((ev c.C eas).a ρ) (fun us ρ1 => popE i j us ρ1) else .bad) := q
    cases e0 : mutOk (wOf ρ j) with
    | false => simp only [e0, Bool.false_eq_true, if_false] at q; exact q.elim
    | true =>
      simp only [e0, if_true] at q
      obtain ⟨ws0, f0, e1, hf⟩ := mutOk_ok e0
      obtain ⟨vi, ev⟩ := hs.val e1
      obtain ⟨d, us, rfl, h1, _⟩ := mut_at hs e1 hf ev
      refine ⟨.ref d, ev, .inl ⟨rfl, us, .of h1⟩, ?_⟩
      refine tXL_S hs q fun as vs ρ1 H1 F1 m q1 => ?_
      unfold popE at q1
      cases e2 : shrs ρ1 as with
      | none => simp only [e2] at q1; exact q1.elim
      | some z =>
        obtain ⟨wsA, ρ2⟩ := z
        simp only [e2] at q1
        obtain ⟨F2, m2, r2⟩ := m.share e2
        have s2 : SRel c.K A σ ρ2 H1 F2 Pn := by simpa [pnds] using m2.sr
        split at q1
        · rename_i xs e3
          split at q1
          · rename_i k
            split at q1
            · rename_i hk
              split at q1
              · rename_i w e4
                cases r2 with
                | cons hv hn =>
                  cases hn
                  cases hv
                  obtain ⟨d', us', e, h1', hz', hr', e5, e6⟩ := mut_at s2 e3 (.inl rfl) ev
                  cases e
                  have hlen := hr'.length
                  obtain ⟨v, e7, rv⟩ := hr'.get e4
                  cases e8 : setN ρ2 i w .sh with
                  | none => simp only [e8] at q1; exact q1.elim
                  | some ρ3 =>
                    simp only [e8] at q1
                    obtain ⟨s6, t6⟩ := s2.setV (v := v) rv e8
                    have e9 := setN_at e8
                    have e5' : ρ3[j]? = some (some (.lst xs, .own)) := by
                      rw [e9, List.getElem?_set_ne hk.2]; exact e5
                    have e6' : (σ.set i (some v))[j]? = some (some (.ref d)) := by
                      rw [List.getElem?_set_ne hk.2]; exact e6
                    obtain ⟨s5, t5⟩ := s6.mut (us := us'.eraseIdx k.toNat) (ws := xs.eraseIdx k.toNat) e5' (.inl rfl) e6' (Nat.le_trans (len_erase _ _) hz') (hr'.erase _)
                    exact ⟨d, us', k, v, rfl, rfl, h1', ⟨hk.1.1, by rw [hlen]; exact hk.1.2⟩, by rw [← szL_eq]; exact hz', e7, q1 _ _ F2 ((m2.st.trans t6).trans t5) s5⟩
              · exact q1.elim
            · exact q1.elim
          · exact q1.elim
        · exact q1.elim
/-! ### x += e -/
theorem add_int {w u : W} {z : Int} {f : Bool} (h : opW .add w u = some (.int z, f)) : ∃ i j, w = .int i ∧ u = .int j ∧ z = i + j := by
  cases w <;> cases u <;> simp [opW] at h <;> first | exact ⟨_, _, rfl, rfl, h.1.symm⟩ | skip
theorem sub_int {w u : W} {z : Int} {f : Bool} (h : opW .sub w u = some (.int z, f)) : ∃ i j, w = .int i ∧ u = .int j ∧ z = i - j := by
  cases w <;> cases u <;> simp [opW] at h <;> first | exact ⟨_, _, rfl, rfl, h.1.symm⟩ | skip
theorem s_aug {i : Nat} {o : BOp} {op : Operator} {f : Int → Int → Int} {p' : Pos} (hN : X.N.Nodup) (hi : X.N[i]? = some x) (hx : Loc X.env.scope x) (hf : X.fn x = true ∨ X.env.scope.names.lookup x = some .local) (he : PE X e (tX c ea)) (ho : PIp X op (ipI f))
    (hv : ∀ w u z k, opW o w u = some (.int z, k) → ∃ i j, w = .int i ∧ u = .int j ∧ z = f i j) : PS X (.AugAssign (.Name x p') op e pos) (tS c tk g (.aug i o ea)) := by
  refine psImp (ps_aug hN hi hx he ho hf) fun D σ H ⟨A, ρ, F, Pn, hs, q⟩ => ?_
  have q : RS c A σ ρ H F Pn D (match wOf ρ i with
    | some (w, .sh) => SO.bnd ((ev c.C ea).x ρ) fun a ρ1 => match res ρ1 a with
      | some u => match opW o w u with
        | some (.int z, _) => ofE (setN ρ1 i (.int z) .sh)
        | _ => .bad
      | none => .bad
    | _ => .bad) := q
  split at q
  · rename_i w e0
    obtain ⟨v, a1, a2⟩ := hs.sh i w (wOf_eq.mp e0)
    refine ⟨v, a1, tX_S hs q fun u v' ρ1 H1 F1 m q1 => ?_⟩
    obtain ⟨s1, ar, fr⟩ := m.one
    cases e1 : res ρ1 u with
    | none => simp only [e1] at q1; exact q1.elim
    | some y =>
      simp only [e1] at q1
      split at q1
      · rename_i z k e2
        obtain ⟨i1, j1, rfl, rfl, rfl⟩ := hv _ _ _ _ e2
        obtain ⟨_, e, p1⟩ := (m.pk (ress1 e1)).one
        cases e
        cases a2
        refine ⟨i1, j1, rfl, p1.int, ?_⟩
        cases e3 : setN ρ1 i (.int (f i1 j1)) .sh with
        | none => simp only [e3] at q1; exact q1.elim
        | some ρ2 =>
          simp only [e3] at q1
          obtain ⟨s2, t2⟩ := s1.drop.setV (v := .int (f i1 j1)) (.int _) e3
          exact q1 _ H1 F1 (m.st.trans t2) s2
      · exact q1.elim
  · exact q.elim
  
/-! ### if -/
theorem Md.z {A : Nat → Option Addr} {σ : Sg} {ρ ρ1 : Env} {H H1 : Hp} {F F1 : Addr → Prop} {Pn : List (Addr × W)} (m : Md c A σ ρ H F Pn [] [] ρ1 H1 F1) : SRel c.K A σ ρ1 H1 F1 Pn := by simpa [pnds] using m.sr
theorem s_ite {cd : Expr} {s1 s2 : List Stmt} (hc : PT X cd (tXB c ec)) (h1 : PSs X s1 (tS c tk g s)) (h2 : PSs X s2 (tS c tk g r)) : PS X (.If cd s1 s2 pos) (tS c tk g (.ite ec s r)) := by
  refine psImp (ps_if hc h1 h2) fun D σ H ⟨A, ρ, F, Pn, hs, q⟩ => ?_
  refine tXB_S hs q fun k ρ1 H1 F1 m q1 => ?_
  cases k with
  | true => exact iteT (tS_at m.z m.st q1)
  | false => exact iteF (tS_at m.z m.st q1)

/-! ### loops -/
theorem RS.drop {A : Nat → Option Addr} {σ : Sg} {ρ : Env} {H : Hp} {F : Addr → Prop} {P1 Pn : List (Addr × W)} {D : Ends} {o : SO} (h : RS c A σ ρ H F Pn D o) : RS c A σ ρ H F (P1 ++ Pn) D o := by
  cases o with
  | nx ρ' => exact fun σ' H' F' st s => h σ' H' F' st s.drop
  | bk ρ' => exact fun σ' H' F' st s => h σ' H' F' st s.drop
  | ct ρ' => exact fun σ' H' F' st s => h σ' H' F' st s.drop
  | rt w fr ρ' =>
    refine fun v σ' H' F' st s a b => h v σ' H' F' st ?_ a b
    have s2 : SRel c.K A σ' ρ' H' F' (P1 ++ (pnd (.val w fr) v ++ Pn)) := s.perm (by rw [← List.append_assoc, ← List.append_assoc]; exact List.Perm.append_right _ List.perm_append_comm)
    exact s2.drop
  | ex x p ρ' => exact fun σ' H' F' d st s a => h σ' H' F' d st s.drop a
  | bad => exact h
theorem s_for {k : IK} {q : Pt} {body : List Stmt} (hc : c.K = X.K) (hp : PassesOwn (model X.prog X.w) X.A X.env X.xe) (calm : X.calm = true) (hi : PI X tg iter (tI c k eas)) (hg : PG X tg (gP X.K q)) (hb : PSs X body (tS c tk g s))
    (hf : ∀ x, foldedSetIterable iter X.env x = pure x) : PS X (.For tg iter body [] pos) (tS c tk g (.for_ q k eas s)) := by
  refine psImp (ps_for hp calm hi hg hb hf) fun D σ H ⟨A, ρ, F, Pn, hs, h⟩ => ?_
  rw [← hc]
  refine ⟨A, ρ, F, Pn, hs, (bnd_ok h).mono (fun us ρ1 q1 => ?_) fun _ _ _ e => e⟩
  cases e1 : (ress ρ1 us).bind (itW k) with
  | none => simp only [e1] at q1; exact q1.elim
  | some its =>
    simp only [e1] at q1
    refine ⟨its, rfl, fun J vs H1 F1 m G => ?_⟩
    obtain ⟨sL, _⟩ := lk_ok (as := us) m.sr
    have tL := lk_stp (as := us) m.sr
    generalize hst : (fun (w : W) (ρ : Env) => match asP q w ρ with
      | none => SO.bad
      | some ρ1 => xs c.C tk g s ρ1) = step at q1
    refine ⟨fun i n σ' H' => n = its.length - i ∧ ∃ ρ' F', i ≤ its.length ∧ SRel c.K A σ' ρ' H' F' (pnds us vs ++ Pn) ∧ Stp σ (lkE ρ1 us) H1 F1 σ' ρ' H' F' ∧ RS c A σ ρ H F Pn D ((forL step (its.drop i) ρ').mapE fun ρ3 => ulE ρ1 ρ3 us),
      ⟨_, rfl, lkE ρ1 us, F1, Nat.zero_le _, sL, .refl, q1⟩, ?_⟩
    rintro i n σ' H' ⟨rfl, ρ', F', hi, s', st', qi⟩
    -- behind the loop
    have out : ∀ {σ3 : Sg} {ρ3 : Env} {H3 : Hp} {F3 : Addr → Prop}, SRel c.K A σ3 ρ3 H3 F3 (pnds us vs ++ Pn) → Stp σ (lkE ρ1 us) H1 F1 σ3 ρ3 H3 F3 → NX c A σ ρ H F Pn D.nx (ulE ρ1 ρ3 us) → D.nx σ3 H3 := fun {σ3 ρ3 H3 F3} s3 t3 q3 => by
      obtain ⟨s4, t4⟩ := ul_ok (as := us) (tL.trans t3) s3
      exact q3 σ3 H3 F3 (m.st.trans t4) s4.drop
    by_cases hlt : i < its.length
    · refine .inr ⟨G.go i H' F' _ _ st' hlt, fun σ3 H3 => ∃ ρ3 F3, i + 1 ≤ its.length ∧ SRel c.K A σ3 ρ3 H3 F3 (pnds us vs ++ Pn) ∧ Stp σ (lkE ρ1 us) H1 F1 σ3 ρ3 H3 F3 ∧ RS c A σ ρ H F Pn D ((forL step (its.drop (i + 1)) ρ3).mapE fun ρ3 => ulE ρ1 ρ3 us), fun σ3 H3 n3 => ⟨its.length - (i + 1), by omega, rfl, n3⟩, fun x H2 y => ?_⟩
      obtain ⟨w, ew, nw⟩ := G.yl i H' F' _ _ x H2 st' hlt y
      have ed : its.drop i = w :: its.drop (i + 1) := by
        rw [List.drop_eq_getElem_cons hlt]
        congr 1
        rw [List.getElem?_eq_getElem hlt] at ew
        exact Option.some.inj ew
      rw [ed] at qi
      obtain ⟨s2, hr, t2⟩ : SRel c.K A σ' ρ' H2 F' (pnds us vs ++ Pn) ∧ HR c.K H2 F' x w ∧ Stp σ' ρ' H' F' σ' ρ' H2 F' := by
        cases nw with
        | old r => exact ⟨s', r, .refl⟩
        | tup hp z r => exact ⟨s'.alloc hp, .tup (.inl (.inl upd_same)) z (r.upd hp), .alloc hp⟩
      have qi : RS c A σ ρ H F Pn D ((match step w ρ' with
        | .nx ρ1 => forL step (its.drop (i + 1)) ρ1
        | .ct ρ1 => forL step (its.drop (i + 1)) ρ1
        | .bk ρ1 => .nx ρ1
        | o => o).mapE fun ρ3 => ulE ρ1 ρ3 us) := qi
      cases ea : asP q w ρ' with
      | none =>
        have : step w ρ' = .bad := by rw [← hst]; simp only [ea]
        rw [this] at qi; exact qi.elim
      | some ρa =>
        have est : step w ρ' = xs c.C tk g s ρa := by rw [← hst]; simp only [ea]
        rw [est] at qi
        refine ⟨A, ρ', F', _, w, ρa, s2, hr, ea, fun σ2 s3 t3 off => ?_⟩
        have t13 : Stp σ (lkE ρ1 us) H1 F1 σ2 ρa H2 F' := (st'.trans t2).trans t3
        have t0 : Stp σ ρ H F σ2 ρa H2 F' := (m.st.trans tL).trans t13
        refine ⟨A, ρa, F', _, s3, ?_⟩
        cases eb : xs c.C tk g s ρa with
        | nx ρb =>
          rw [eb] at qi
          exact fun σ4 H4 F4 t4 s4 => ⟨ρb, F4, hlt, s4, t13.trans t4, qi⟩
        | ct ρb =>
          rw [eb] at qi
          exact fun σ4 H4 F4 t4 s4 => ⟨ρb, F4, hlt, s4, t13.trans t4, qi⟩
        | bk ρb =>
          rw [eb] at qi
          exact fun σ4 H4 F4 t4 s4 => out s4 (t13.trans t4) qi
        | rt w fr ρb =>
          rw [eb] at qi
          have qi : RS c A σ ρ H F Pn D (.rt w fr ρb) := qi
          have := (RS.drop (P1 := pnds us vs) qi).step (F1 := F') t0
          exact this
        | ex x p ρb =>
          rw [eb] at qi
          have qi : RS c A σ ρ H F Pn D (.ex x p ρb) := qi
          have := (RS.drop (P1 := pnds us vs) qi).step (F1 := F') t0
          exact this
        | bad => rw [eb] at qi; exact qi.elim
    · have e : i = its.length := by omega
      subst e
      rw [List.drop_length] at qi
      exact .inl ⟨G.st _ H' F' _ _ st' (Nat.le_refl _), out s' st' qi⟩
theorem s_whl {cd : Expr} {body : List Stmt} (hp : PassesOwn (model X.prog X.w) X.A X.env X.xe) (hc : PT X cd (tXB c ec)) (hb : PSs X body (tS c tk g s)) : PS X (.While cd body [] pos) (tS c tk g (.whl ec s)) := by
  refine psImp (ps_while hp hc hb) fun D σ H ⟨A, ρ, F, Pn, hs, q⟩ => ?_
  have q : RS c A σ ρ H F Pn D (whlL (ev c.C ec).t (xs c.C tk g s) g ρ) := q
  refine ⟨fun n σ' H' => ∃ ρ' F', SRel c.K A σ' ρ' H' F' Pn ∧ Stp σ ρ H F σ' ρ' H' F' ∧ RS c A σ ρ H F Pn D (whlL (ev c.C ec).t (xs c.C tk g s) n ρ'), ⟨g, ρ, F, hs, .refl, q⟩, ?_⟩
  rintro n σ' H' ⟨ρ', F', s', st', q'⟩
  cases n with
  | zero => exact q'.elim
  | succ n =>
    have q2 : RS c A σ' ρ' H' F' Pn D (SO.bnd ((ev c.C ec).t ρ') fun k ρ1 => if k = true then match xs c.C tk g s ρ1 with
      | .nx ρ2 => whlL (ev c.C ec).t (xs c.C tk g s) n ρ2
      | .ct ρ2 => whlL (ev c.C ec).t (xs c.C tk g s) n ρ2
      | .bk ρ2 => .nx ρ2
      | o => o
    else .nx ρ1) := RS.step (ρ1 := ρ') (F1 := F') q' st'
    have lift : ∀ {ρ2 : Env} {σ2 : Sg} {H2 : Hp} {F2 : Addr → Prop}, SRel c.K A σ2 ρ2 H2 F2 Pn → Stp σ' ρ' H' F' σ2 ρ2 H2 F2 → RS c A σ ρ H F Pn D (whlL (ev c.C ec).t (xs c.C tk g s) n ρ2) → ∃ m', m' < n + 1 ∧ ∃ ρ' F', SRel c.K A σ2 ρ' H2 F' Pn ∧ Stp σ ρ H F σ2 ρ' H2 F' ∧ RS c A σ ρ H F Pn D (whlL (ev c.C ec).t (xs c.C tk g s) m' ρ') :=
      fun {ρ2 σ2 H2 F2} s2 t2 q2 => ⟨n, Nat.lt_succ_self _, ρ2, F2, s2, st'.trans t2, q2⟩
    have q3 : RS c A σ ρ H F Pn D (SO.bnd ((ev c.C ec).t ρ') fun k ρ1 => if k = true then match xs c.C tk g s ρ1 with
      | .nx ρ2 => whlL (ev c.C ec).t (xs c.C tk g s) n ρ2
      | .ct ρ2 => whlL (ev c.C ec).t (xs c.C tk g s) n ρ2
      | .bk ρ2 => .nx ρ2
      | o => o
    else .nx ρ1) := q'
    cases ek : (ev c.C ec).t ρ' with
    | bad => rw [ek] at q2; exact q2.elim
    | ex x p ρ1 =>
      rw [ek] at q2
      refine ⟨A, ρ', F', Pn, s', ?_⟩
      rw [ek]
      exact ES.ex q2
    | ok k ρ1 =>
      rw [ek] at q3
      simp only [SO.bnd_ok] at q3
      refine ⟨A, ρ', F', Pn, s', ?_⟩
      rw [ek]
      intro H1 F1 t1 s1
      cases k with
      | false =>
        simp only [Bool.false_eq_true, if_false] at q3
        exact iteF (q3 σ' H1 F1 (st'.trans t1) s1)
      | true =>
        simp only [if_true] at q3
        refine iteT ⟨fun σ3 H3 => ∃ ρ3 F3, SRel c.K A σ3 ρ3 H3 F3 Pn ∧ Stp σ ρ H F σ3 ρ3 H3 F3 ∧ RS c A σ ρ H F Pn D (whlL (ev c.C ec).t (xs c.C tk g s) n ρ3), fun σ3 H3 n3 => ⟨n, Nat.lt_succ_self _, n3⟩, A, ρ1, F1, Pn, s1, ?_⟩
        have t0 : Stp σ ρ H F σ' ρ1 H1 F1 := st'.trans t1
        cases eb : xs c.C tk g s ρ1 with
        | nx ρb =>
          rw [eb] at q3
          exact fun σ4 H4 F4 t4 s4 => ⟨ρb, F4, s4, t0.trans t4, q3⟩
        | ct ρb =>
          rw [eb] at q3
          exact fun σ4 H4 F4 t4 s4 => ⟨ρb, F4, s4, t0.trans t4, q3⟩
        | bk ρb =>
          rw [eb] at q3
          exact fun σ4 H4 F4 t4 s4 => q3 σ4 H4 F4 (t0.trans t4) s4
        | rt w fr ρb =>
          rw [eb] at q3
          exact RS.step (D := D) (o := .rt w fr ρb) (F1 := F1) q3 t0
        | ex x p ρb =>
          rw [eb] at q3
          exact RS.step (D := D) (o := .ex x p ρb) (F1 := F1) q3 t0
        | bad => rw [eb] at q3; exact q3.elim
end
end Py

namespace Py
open PySem PySem.Spec PyProof.Rows L2
variable [HW]
section
variable {X : Cx} {c : Cf} {a b d e tg : Expr} {ea eb ed eas : E} {pos p p2 pos2 : Pos} {x : Str}
/-! ### range(a, b, -1) -/
theorem rngD_len : ∀ (n : Nat) (a : Int), (rngD n a).length = n
  | 0, _ => rfl
  | n + 1, a => by simp [rngD, rngD_len n (a - 1)]
theorem rngD_get : ∀ (n : Nat) (a : Int) (i : Nat), i < n → (rngD n a)[i]? = some (.int (a + (i : Nat) * -1))
  | 0, _, _, h => by omega
  | n + 1, a, 0, _ => by simp [rngD]
  | n + 1, a, i + 1, h => by
    simp only [rngD, List.getElem?_cons_succ]
    rw [rngD_get n (a - 1) i (by omega)]
    congr 2
    omega
theorem itg_rngD {K : PySem.W.Frag} {σ : Sg} {ρ : Env} {H : Hp} {F : Addr → Prop} {lo : Int} {n : Nat} : ItG K σ ρ H F (Itc lo (-1) n) (rngD n lo) where
  go := fun i H2 F2 σ2 ρ2 st hi => by rw [rngD_len] at hi; exact hi
  yl := fun i H2 F2 σ2 ρ2 x H' st hi y => by
    obtain ⟨rfl, rfl⟩ := y
    rw [rngD_len] at hi
    exact ⟨_, rngD_get n lo i hi, .old (.int _)⟩
  st := fun i H2 F2 σ2 ρ2 st hi => by rw [rngD_len] at hi; exact hi
theorem i_rng3 (hg : Gl X "range") (hm : X.mg "range" = none) (hp : plainE a = true) (hp2 : plainE b = true) (hp3 : plainE d = true) (ha : PA X [a, b, d] (tXL c eas)) (h1 : ∀ ρ us ρ1, (ev c.C eas).a ρ = .ok us ρ1 → us.length = 3) : PI X tg (.Call (.Name "range" p) [a, b, d] [] pos) (tI c .rng eas) := by
  refine piImp (pi_range3 hg hm ha (star_cons _ hp _) (star_all _ _ (es := [b, d]) (by simp [hp2, hp3])).1) fun σ H R ⟨A, ρ, F, Pn, hs, q⟩ => ?_
  have hl := h1 ρ
  cases e0 : (ev c.C eas).a ρ with
  | bad => rw [e0] at q; exact q.elim
  | ex x pl ρ1 =>
    refine ⟨A, ρ, F, Pn, hs, ?_⟩
    rw [e0] at q ⊢; exact q
  | ok us ρ1 =>
    have hl := hl us ρ1 e0
    refine ⟨A, ρ, F, Pn, hs, ?_⟩
    rw [e0] at q ⊢
    intro vs H1 F1 st sr ar fr
    obtain ⟨its, e1, q1⟩ := q
    obtain ⟨ws, e2, e3⟩ := Option.bind_eq_some_iff.mp e1
    have m : Md c A σ ρ H F Pn us vs ρ1 H1 F1 := ⟨st, sr, ar, fr⟩
    have pk := m.pk e2
    match ws, pk, e3 with
    | [.int i, .int j, .int k], pk, e3 =>
      have e3 : (if (k = -1 ∧ i - j ≤ szL) ∧ (okR i && okR j) = true then some (rngD (i - j).toNat i) else none) = some its := e3
      by_cases z : (k = -1 ∧ i - j ≤ szL) ∧ (okR i && okR j) = true
      · rw [if_pos z] at e3
        obtain rfl := Option.some.inj e3
        obtain ⟨⟨rfl, _⟩, z2⟩ := z
        obtain ⟨a1, a2⟩ := Bool.and_eq_true_iff.mp z2
        obtain ⟨b1, b2⟩ := okR_of a1
        obtain ⟨b3, b4⟩ := okR_of a2
        match vs, pk, m with
        | [v1, v2, v3], .cons k1 (.cons k2 (.cons k3 .nil)), m =>
          exact ⟨i, j, -1, (i - j).toNat, by rw [k1.int, k2.int, k3.int], RgC.neg b1 b2 b3 b4, q1 _ _ H1 F1 m itg_rngD⟩
      · rw [if_neg z] at e3; cases e3
    | [.int i, .int j], pk, e3 =>
      have := m.ar.len
      have l2 := pk.length
      simp [hl] at this
      simp [← this] at l2
    | [.int j], pk, e3 =>
      have := m.ar.len
      have l2 := pk.length
      simp [hl] at this
      simp [← this] at l2

/-! ### list(range(..)) -/
theorem rgV_rel {K : PySem.W.Frag} {H : Hp} {F : Addr → Prop} : ∀ (n : Nat) (a : Int), HRs K H F ((List.range n).map fun i => V.int (a + (i : Nat))) (rngL n a)
  | 0, a => .nil
  | n + 1, a => by
    rw [List.range_succ_eq_map, List.map_cons, List.map_map]
    have e : ((fun i : Nat => V.int (a + (i : Nat))) ∘ Nat.succ) = fun i : Nat => V.int (a + 1 + (i : Nat)) := by
      funext i
      simp only [Function.comp]
      congr 1
      omega
    rw [e]
    have z : V.int (a + ((0 : Nat) : Int)) = V.int a := by simp
    rw [z]
    exact .cons (.int a) (rgV_rel n (a + 1))
theorem lrng_fin {A : Nat → Option Addr} {σ : Sg} {ρ ρ1 : Env} {H H1 : Hp} {F F1 : Addr → Prop} {Pn : List (Addr × W)} {us : List Arg} {vs : List V} {Q : VK} {i j : Int} (m : Md c A σ ρ H F Pn us vs ρ1 H1 F1) (h1 : okR i = true) (h2 : okR j = true) (h3 : j - i ≤ szL)
    (q : PX c A σ ρ H F Pn Q (.val (.lst (rngL (j - i).toNat i)) true) ρ1) : RgOk i j ∧ ∀ q, H1 q = none → Q (.ref q) (upd H1 q (.lst (rgV i j))) := by
  obtain ⟨b1, b2⟩ := okR_of h1
  obtain ⟨b3, b4⟩ := okR_of h2
  have hz : (j - i).toNat ≤ szL := by omega
  refine ⟨⟨b1, b2, b3, b4, hz⟩, fun r hr => m.fin (r := (.lst (rngL (j - i).toNat i), true)) q _ _ (.lst hr ?_ (rgV_rel _ _))⟩
  rw [rgV_length]; exact hz
theorem lr1_ok {ws : List W} {r : W × Bool} {w : W} (e : ws = [w]) (h : biW .lrng ws = some r) : ∃ j, w = .int j ∧ okR j = true ∧ j ≤ szL ∧ r = (.lst (rngL j.toNat 0), true) := by
  subst e
  cases w <;> first | (cases h; done) | skip
  rename_i j
  obtain ⟨its, e1, rfl⟩ := Option.map_eq_some_iff.mp h
  obtain ⟨z, rfl⟩ := of_if (show (if okR j = true ∧ j ≤ szL then some (rngL j.toNat 0) else none) = some its from e1)
  exact ⟨j, rfl, z.1, z.2, rfl⟩
theorem lr2_ok {ws : List W} {r : W × Bool} {w w2 : W} (e : ws = [w, w2]) (h : biW .lrng ws = some r) : ∃ i j, w = .int i ∧ w2 = .int j ∧ okR i = true ∧ okR j = true ∧ j - i ≤ szL ∧ r = (.lst (rngL (j - i).toNat i), true) := by
  subst e
  cases w <;> first | (cases h; done) | skip
  cases w2 <;> first | (cases h; done) | skip
  rename_i i j
  obtain ⟨its, e1, rfl⟩ := Option.map_eq_some_iff.mp h
  obtain ⟨z, rfl⟩ := of_if (show (if (okR i && okR j) = true ∧ j - i ≤ szL then some (rngL (j - i).toNat i) else none) = some its from e1)
  obtain ⟨a1, a2⟩ := Bool.and_eq_true_iff.mp z.1
  exact ⟨i, j, rfl, rfl, a1, a2, z.2, rfl⟩
theorem x_lrng1 (calm : X.calm = true) (hg : Gl X "list") (hm : X.mg "list" = none) (hg2 : Gl X "range") (hm2 : X.mg "range" = none) (hp : plainE a = true) (ha : PE X a (tX c ea)) :
    PE X (.Call (.Name "list" p) [.Call (.Name "range" p2) [a] [] pos2] [] pos) (tX c (.bi .lrng (.cons ea .nil))) := by
  refine peImp (pe_listRg calm hg hm (prg_1 hg2 hm2 ha (star_cons _ hp _)) (star_cons _ rfl _)) fun σ H Q ⟨A, ρ, F, Pn, hs, q⟩ => ?_
  have q : OkX ((((ev c.C ea).x ρ).bind fun u ρ1 => (Out.ok [u] ρ1 : Out (List Arg))).bind fun us ρ1 => lL (biW .lrng) us ρ1) (PX c A σ ρ H F Pn Q) (EX c A σ ρ H F Pn) := q
  refine tX_ofG (.nil hs) q.bind fun u v ρ1 H1 F1 m q1 => ?_
  obtain ⟨ws, r, e1, e2, q2⟩ := lL_ok q1
  have pk := m.pk e1
  match ws, pk, e2 with
  | [w], pk, e2 =>
    obtain ⟨j, rfl, k1, k2, rfl⟩ := lr1_ok rfl e2
    obtain ⟨_, e, p1⟩ := pk.one
    cases e
    exact ⟨j, p1.int, lrng_fin (i := 0) m (by decide) k1 (by omega) (by simpa using q2)⟩
theorem x_lrng2 (calm : X.calm = true) (hg : Gl X "list") (hm : X.mg "list" = none) (hg2 : Gl X "range") (hm2 : X.mg "range" = none) (hp : plainE a = true) (hp2 : plainE b = true) (ha : PE X a (tX c ea)) (hb : PE X b (tX c eb)) :
    PE X (.Call (.Name "list" p) [.Call (.Name "range" p2) [a, b] [] pos2] [] pos) (tX c (.bi .lrng (.cons ea (.cons eb .nil)))) := by
  refine peImp (pe_listRg calm hg hm (prg_2 hg2 hm2 ha hb (star_cons _ hp _) (star_cons _ hp2 _) (star_all _ _ (es := [b]) (by simp [hp2])).1) (star_cons _ rfl _)) fun σ H Q ⟨A, ρ, F, Pn, hs, q⟩ => ?_
  have q : OkX ((((ev c.C ea).x ρ).bind fun u ρ1 => (((ev c.C eb).x ρ1).bind fun u ρ1 => (Out.ok [u] ρ1 : Out (List Arg))).bind fun us ρ2 => Out.ok (u :: us) ρ2).bind fun us ρ1 => lL (biW .lrng) us ρ1) (PX c A σ ρ H F Pn Q) (EX c A σ ρ H F Pn) := q
  have q : OkX (((ev c.C ea).x ρ).bind fun u ρ1 => ((ev c.C eb).x ρ1).bind fun v ρ2 => lL (biW .lrng) [u, v] ρ2) (PX c A σ ρ H F Pn Q) (EX c A σ ρ H F Pn) := by
    cases e1 : (ev c.C ea).x ρ with
    | ok u ρ1 =>
      rw [e1] at q
      simp only [Out.bind_ok] at q ⊢
      cases e2 : (ev c.C eb).x ρ1 with
      | ok v ρ2 => rw [e2] at q; exact q
      | ex x y ρ2 => rw [e2] at q; exact q
      | bad => rw [e2] at q; exact q
    | ex x y ρ1 => rw [e1] at q; exact q
    | bad => rw [e1] at q; exact q
  refine tX_of (.nil hs) q fun u v ρ1 H1 F1 m q1 => tX_of m q1 fun u' v' ρ2 H2 F2 m2 q2 => ?_
  obtain ⟨ws, r, e1, e2, q3⟩ := lL_ok q2
  have pk := m2.pk e1
  match ws, pk, e2 with
  | [w, w2], pk, e2 =>
    obtain ⟨i, j, rfl, rfl, k1, k2, k3, rfl⟩ := lr2_ok rfl e2
    obtain ⟨_, _, e, p1, p2⟩ := pk.two
    cases e
    exact ⟨i, j, p1.int, p2.int, lrng_fin m2 k1 k2 k3 q3⟩

/-! ### constants of the text's top -/
def vOf : Value → V
  | .int i _ => .int i
  | .str s _ => .str s
  | .bool b => .bl b
  | .ref a => .ref a
  | _ => .non
def s8Ok (s : Cs) : Bool := decide (s.length ≤ szL) && PyData.strOk (S8 s)
mutual
def conOk (K : PySem.W.Frag) (u : Value) : W → Bool
  | .non => decide (u = .none)
  | .bl b => decide (u = .bool b)
  | .int i => (match u with
    | .int j _ => decide (j = i)
    | _ => false)
  | .str s => (match u with
    | .str z _ => decide (z = S8 s) && s8Ok s
    | _ => false)
  | .tup ws => (match u with
    | .ref a => (match K.lookup a with
      | some ⟨.type "tuple", _, .seq its _, _⟩ => decide (its.size ≤ sizeLine) && consOk K its.toList ws
      | _ => false)
    | _ => false)
  | _ => false
def consOk (K : PySem.W.Frag) (us : List Value) : List W → Bool
  | [] => us.isEmpty
  | w :: ws => (match us with
    | u :: us => conOk K u w && consOk K us ws
    | [] => false)
end
mutual
theorem conOk_ok {K : PySem.W.Frag} {H : Hp} {F : Addr → Prop} : ∀ {w : W} {u : Value}, conOk K u w = true → HR K H F (vOf u) w ∧ RelV (vOf u) u
  | .non, u, h => by
    have e : u = .none := of_decide_eq_true h
    subst e; exact ⟨.non, rfl⟩
  | .bl b, u, h => by
    have e : u = .bool b := of_decide_eq_true h
    subst e; exact ⟨.bl b, rfl⟩
  | .int i, u, h => by
    cases u <;> first | (cases h; done) | skip
    rename_i j t
    have e : j = i := of_decide_eq_true h
    subst e; exact ⟨.int j, t, rfl⟩
  | .str s, u, h => by
    cases u <;> first | (cases h; done) | skip
    rename_i z t
    obtain ⟨e, h2⟩ := Bool.and_eq_true_iff.mp (show (decide (z = S8 s) && s8Ok s) = true from h)
    have e : z = S8 s := of_decide_eq_true e
    subst e
    obtain ⟨k1, k2⟩ := Bool.and_eq_true_iff.mp h2
    exact ⟨.str s (of_decide_eq_true k1) k2, t, rfl⟩
  | .tup ws, u, h => by
    cases u <;> first | (cases h; done) | skip
    rename_i a
    simp only [conOk] at h
    split at h
    · rename_i od its n sl e
      obtain ⟨k1, k2⟩ := Bool.and_eq_true_iff.mp h
      have k1 := of_decide_eq_true k1
      obtain ⟨r1, r2⟩ := consOk_ok (H := H) (F := F) k2
      refine ⟨.tup (.inr ⟨_, its, n, e, rfl, rfl, k1, r2⟩) ?_ r1, rfl⟩
      have := r2.length
      rw [this, Array.length_toList]
      exact k1
    · cases h
  | .lst _, u, h => by cases h
  | .dct _, u, h => by cases h
  | .st _, u, h => by cases h
theorem consOk_ok {K : PySem.W.Frag} {H : Hp} {F : Addr → Prop} : ∀ {ws : List W} {us : List Value}, consOk K us ws = true → HRs K H F (us.map vOf) ws ∧ Vals (us.map vOf) us
  | [], us, h => by
    cases us with
    | nil => exact ⟨.nil, .nil⟩
    | cons _ _ => cases h
  | w :: ws, us, h => by
    cases us with
    | nil => cases h
    | cons u us =>
      obtain ⟨k1, k2⟩ := Bool.and_eq_true_iff.mp (show (conOk K u w && consOk K us ws) = true from h)
      obtain ⟨a1, a2⟩ := conOk_ok (H := H) (F := F) k1
      obtain ⟨b1, b2⟩ := consOk_ok (H := H) (F := F) k2
      exact ⟨.cons a1 b1, .cons a2 b2⟩
end
def gconOk (K : PySem.W.Frag) (p : Str × W) : Bool := match PySem.W.nsIn K mainGlobals p.1 with
  | some (some u) => conOk K u p.2
  | _ => false
theorem gcon_ok {K : PySem.W.Frag} {h : Heap} {mg : Str → Option Value} {p : Str × W} (kh : K.In h) (G : h.Ns mainGlobals mg) (q : gconOk K p = true) : ∃ u, mg p.1 = some u ∧ conOk K u p.2 = true := by
  unfold gconOk at q
  split at q
  · rename_i u e
    exact ⟨u, PySem.W.mg_of kh G e, q⟩
  · cases q
theorem x_glob {w : W} {u : Value} (hc : c.K = X.K) (hg : Gl X x) (hm : X.mg x = some u) (h : conOk X.K u w = true) (hd : (x == ("__debug__" : Str)) = false) : PE X (.Name x pos) (tX c (.con w)) :=
  x_con (pe_glob hg hm (conOk_ok (H := fun _ => none) (F := fun _ => False) h).2 hd) fun H F => by rw [hc]; exact (conOk_ok h).1
end
end Py

namespace Py
open PySem PySem.Spec PyProof.Rows L2
variable [HW]
/-! ### raise, try -/
/-- an own class over ValueError -/
structure ExcC (K : PySem.W.Frag) (C : Addr) : Prop where
  q : PySem.W.excIn K C He.veBase "ValueError.__new__" = true
  k : PySem.W.keepIn K (.ref C) = true
  s : PySem.W.subIn K (.ref C) (.type "BaseException") = some true
  t : PySem.W.typeIn K (.ref C) = some (.type "type")
section
variable {X : Cx} {c : Cf} {tk : Tk} {g : Nat} {pos : Pos} {x : Str}
theorem s_raise {m : Str} {j : Option Str} {C : Addr} {i : Nat} {jj : Nat} {p p2 pos' : Pos} (calm : X.calm = true) (ht : Takes X c.wx) (ec : ExcC X.K C) (gC : X.mg x = some (.ref C)) (hg : Gl X x) (hdb : (x == ("__debug__" : Str)) = false) (hcls : c.cls i = .ref C) :
    PS X (.Raise (some (.Call (.Name x p) [.Constant (.str m) jj p2] [] pos)) none pos') (tS c tk g (.rais i .nil)) := by
  refine psImp (ps_raise calm ht (pmk_own PySem.F.excBase_ValueError ec.q gC ec.k (raises_own ec.s ec.t) hg hdb)) fun D σ H ⟨A, ρ, F, Pn, hs, h⟩ => ?_
  have h : ES c A σ ρ H F Pn i .non ρ := h
  rw [← hcls]
  exact h σ H F none .refl hs rfl
/-- try: b; except x: h -/
theorem s_try {C : Addr} {i : Nat} {b₀ : Stmt} {body suite : List Stmt} {b h : S} {np pos' : Pos} (hK : c.K = X.K) (hs : X.stack = X.env :: X.outer) (hf : X.env.frame = some X.env.locals) (gC : X.mg x = some (.ref C)) (hg : Gl X x) (hdb : (x == ("__debug__" : Str)) = false) (ht : Takes X c.wx)
    (hm : ∀ y k, tk i y = some k → PySem.W.exmOne X.K (c.cls y) (.ref C) = some k)
    (hb : ∀ (W : WX) (pn : List (Addr × Obj)) (xe : Value → Shared → Prop), Takes (X.tr pn xe) W → PassesOwn (model X.prog X.w) X.A X.env xe → PSs (X.tr pn xe) body (tS { c with wx := W } tk g b))
    (hh : ∀ (a : Addr) (oe : Obj) (pn : List (Addr × Obj)), PSs (X.suite a ((a, oe) :: pn)) (b₀ :: suite) (tS c.nox tk g h)) :
    PS X (.Try body [.ExceptHandler (some (.Name x np)) none (b₀ :: suite) pos'] [] [] pos) (tS c tk g (.try_ b i none h)) := by
  refine psImp (ps_try_only (c := .ref C) (ts := fun _ _ _ => tS c.nox tk g h) hs hf ⟨hg, hdb, .inl gC⟩ ht hb fun a oe cls d pn _ _ => hh a oe pn) fun D σ H ⟨A, ρ, F, Pn, hr, q⟩ => ?_
  refine ⟨A, ρ, F, Pn, hr, ?_⟩
  show RS { c with wx := wOnly X.K (.ref C) (fun _ _ _ => tS c.nox tk g h) c.wx D } A σ ρ H F Pn D (xs c.C tk g b ρ)
  have q : RS c A σ ρ H F Pn D (match xs c.C tk g b ρ with
    | .ex y p ρ1 => match tk i y with
      | none => .bad
      | some false => .ex y p ρ1
      | some true => (xs c.C tk g h ρ1).calm
    | o => o) := q
  cases e : xs c.C tk g b ρ with
  | nx ρ' => rw [e] at q; exact q
  | bk ρ' => rw [e] at q; exact q
  | ct ρ' => rw [e] at q; exact q
  | rt w fr ρ' => rw [e] at q; exact q
  | bad => rw [e] at q; exact q
  | ex y p ρ1 =>
    rw [e] at q
    simp only at q
    intro σ' H' F' d st sr ed
    cases k : tk i y with
    | none => rw [k] at q; exact q.elim
    | some kb =>
      rw [k] at q
      refine ⟨kb, hm y kb k, fun e1 a _ => ?_, fun e1 => ?_⟩
      · subst e1
        refine ⟨A, ρ1, F', Pn, sr, ?_⟩
        have q := RS.step q st
        show RS c.nox A σ' ρ1 H' F' Pn D (xs c.C tk g h ρ1)
        cases e2 : xs c.C tk g h ρ1 with
        | nx ρ' => rw [e2] at q; exact q
        | bk ρ' => rw [e2] at q; exact q
        | ct ρ' => rw [e2] at q; exact q
        | rt w fr ρ' => rw [e2] at q; exact q
        | bad => rw [e2] at q; exact q
        | ex _ _ _ => rw [e2] at q; exact q.elim
      · subst e1
        exact q σ' H' F' d st sr ed
end
end Py

namespace Py
open PySem PySem.Spec PyProof.Rows L2
variable [HW]
/-! ### the text's defs -/
structure Info where
  d : He.DefD
  ps : List Str
  N : List Str
  fd : FD
def Good (K : PySem.W.Frag) (I : Info) (fdat : FuncData) : Prop := FunD K I.d.name I.d.qual I.d.params I.d.body I.d.scope [] [] (He.ga K I.d.name) fdat ∧ Binds K fdat I.ps []
structure Wd where
  P : Program
  w : World
  K : PySem.W.Frag
  mg : Str → Option Value
  base : Heap
  tk : Tk
  cls : Nat → Value
  g : Nat
  xn : List Str
def Wd.fn (Z : Wd) (fs : List Info) (d : Nat) : Fn := run (fs.map Info.fd) Z.tk Z.g d
def Wd.cf (Z : Wd) (fs : List Info) (d : Nat) (E : XK) : Cf := { K := Z.K, cls := Z.cls, wx := fun cls d _ H => E cls d H, C := Z.fn fs d }
def Wd.X (Z : Wd) (I : Info) (cdv : Value) (A : Around) (outer : List PySem.Env) (s : Shared) (H : Hp) (E : XK) : Cx := cxOf (L2.CX Z.P Z.w) Z.P Z.w Z.K Z.mg Z.base I.N I.d.qual I.d.scope (He.ga Z.K I.d.name) cdv A outer s H E
structure Gs (fs : List Info) (Z : Wd) (bn : List Str) (cs : List (Str × W)) : Prop where
  f : ∀ (j : Nat) (I : Info), fs[j]? = some I → ∃ fdat, Good Z.K I fdat ∧ Z.mg I.d.name = some (.ref (He.ga Z.K I.d.name))
  b : ∀ x ∈ bn, Z.mg x = none
  h : HW.P = Z.P ∧ HW.w = Z.w
  x : ∀ (j : Nat) (n : Str), Z.xn[j]? = some n → Z.mg n = some (.ref (He.ga Z.K n)) ∧ Z.cls j = .ref (He.ga Z.K n) ∧ ExcC Z.K (He.ga Z.K n)
  xm : ∀ (i y : Nat) (k : Bool), Z.tk i y = some k → PySem.W.exmOne Z.K (Z.cls y) (Z.cls i) = some k
  c : ∀ p ∈ cs, ∃ u, Z.mg p.1 = some u ∧ conOk Z.K u p.2 = true
structure InfoOk (I : Info) : Prop where
  S : FnScope I.N I.ps I.d.scope
  n : I.N.length = I.fd.n
  m : I.fd.m.length = I.ps.length
  le : I.fd.m.length ≤ I.fd.n
def OkAt (fs : List Info) (Z : Wd) (d : Nat) : Prop := ∀ (j : Nat) (I : Info) fdat, fs[j]? = some I → Good Z.K I fdat →
  FnOk Z.P Z.w Z.K Z.mg Z.base (L2.CX Z.P Z.w) d (He.ga Z.K I.d.name) fdat I.ps (spF Z.K Z.cls (Z.fn fs d) I.fd I.N j)
structure Bd (fs : List Info) (Z : Wd) (bn : List Str) (cs : List (Str × W)) (d : Nat) (c : Cf) (X : Cx) : Prop where
  G : Gs fs Z bn cs
  O : OkAt fs Z d
  I : ∀ (j : Nat) (I : Info), fs[j]? = some I → InfoOk I
  eP : X.prog = Z.P
  ew : X.w = Z.w
  eK : X.K = Z.K
  em : X.mg = Z.mg
  eb : X.base = Z.base
  cK : c.K = Z.K
  cc : c.cls = Z.cls
  cC : c.C = Z.fn fs d
  room : Room d X.A
  tk : Takes X c.wx
  calm : X.calm = true
  nd : X.N.Nodup
  po : PassesOwn (model X.prog X.w) X.A X.env X.xe
section
variable {fs : List Info} {Z : Wd} {bn : List Str} {cs : List (Str × W)} {d : Nat} {c : Cf} {X : Cx}
theorem Bd.hc (B : Bd fs Z bn cs d c X) : c.K = X.K := B.cK.trans B.eK.symm
theorem Bd.hw (B : Bd fs Z bn cs d c X) : HW.P = X.prog ∧ HW.w = X.w := ⟨B.G.h.1.trans B.eP.symm, B.G.h.2.trans B.ew.symm⟩
theorem Bd.hu (B : Bd fs Z bn cs d c X) : X.A.units + 200 < cLine := by have := B.room.un; omega
theorem Bd.tr (B : Bd fs Z bn cs d c X) (W : WX) (pn : List (Addr × Obj)) (xe : Value → Shared → Prop) (t : Takes (X.tr pn xe) W) (p : PassesOwn (model X.prog X.w) X.A X.env xe) : Bd fs Z bn cs d { c with wx := W } (X.tr pn xe) :=
  ⟨B.G, B.O, B.I, B.eP, B.ew, B.eK, B.em, B.eb, B.cK, B.cc, B.cC, B.room, t, B.calm, B.nd, p⟩
theorem b_raise {tk : Tk} {g : Nat} {m x : Str} {i jj : Nat} {p p2 pos pos' : Pos} (B : Bd fs Z bn cs d c X) (hx : Z.xn[i]? = some x) (hg : Gl X x) (hdb : (x == ("__debug__" : Str)) = false) :
    PS X (.Raise (some (.Call (.Name x p) [.Constant (.str m) jj p2] [] pos)) none pos') (tS c tk g (.rais i .nil)) := by
  obtain ⟨h1, h2, h3⟩ := B.G.x i x hx
  exact s_raise (C := He.ga Z.K x) (j := none) B.calm B.tk (by rw [B.eK]; exact h3) (by rw [B.em]; exact h1) hg hdb (by rw [B.cc]; exact h2)
theorem b_try {g : Nat} {x : Str} {i : Nat} {b₀ : Stmt} {body suite : List Stmt} {b h : S} {np pos pos' : Pos} (B : Bd fs Z bn cs d c X) (hx : Z.xn[i]? = some x) (hg : Gl X x) (hdb : (x == ("__debug__" : Str)) = false) (hs : X.stack = X.env :: X.outer) (hf : X.env.frame = some X.env.locals)
    (hb : ∀ (W : WX) (pn : List (Addr × Obj)) (xe : Value → Shared → Prop), Bd fs Z bn cs d { c with wx := W } (X.tr pn xe) → PSs (X.tr pn xe) body (tS { c with wx := W } Z.tk g b))
    (hh : ∀ (a : Addr) (oe : Obj) (pn : List (Addr × Obj)), PSs (X.suite a ((a, oe) :: pn)) (b₀ :: suite) (tS c.nox Z.tk g h)) :
    PS X (.Try body [.ExceptHandler (some (.Name x np)) none (b₀ :: suite) pos'] [] [] pos) (tS c Z.tk g (.try_ b i none h)) := by
  obtain ⟨h1, h2, h3⟩ := B.G.x i x hx
  exact s_try (C := He.ga Z.K x) B.hc hs hf (by rw [B.em]; exact h1) hg hdb B.tk (fun y k q => by rw [B.eK, B.cc, ← h2]; exact B.G.xm i y k q) (fun W pn xe t p => hb W pn xe (B.tr W pn xe t p)) hh
theorem Bd.blk (B : Bd fs Z bn cs d c X) (s : Shared) (H : Hp) (scope : Scope) (cenv : PySem.Env) (fp : List Addr) : Bd fs Z bn cs d c.nox (X.blk s H scope cenv fp) :=
  ⟨B.G, B.O, B.I, B.eP, B.ew, B.eK, B.em, B.eb, B.cK, B.cc, B.cC, B.room, takes0, B.calm, B.nd, PassesOwn.never⟩
theorem Bd.mb (B : Bd fs Z bn cs d c X) {x : Str} (h : x ∈ bn) : X.mg x = none := by rw [B.em]; exact B.G.b x h
/-- f(..) -/
theorem b_call {e : Expr} {es : List Expr} {eas : E} {x : Str} {p pos : Pos} (B : Bd fs Z bn cs d c X) (j : Nat) {I : Info} (hI : fs[j]? = some I) (hx : I.d.name = x) (hg : Gl X x) (hdb : (x == ("__debug__" : Str)) = false)
    (hp : (e :: es).all plainE = true) (ha : PA X (e :: es) (tXL c eas)) : PE X (.Call (.Name x p) (e :: es) [] pos) (tX c (.call j I.fd.m eas)) := by
  obtain ⟨fdat, hG, hm⟩ := B.G.f j I hI
  have F := B.O j I fdat hI hG
  have ok := B.I j I hI
  have r := B.room
  have t := B.tk
  obtain ⟨P, w, K, mg, base, A⟩ := X
  obtain ⟨K', cls, wx, C⟩ := c
  obtain rfl := B.eP
  obtain rfl := B.ew
  obtain rfl := B.eK
  obtain rfl := B.em
  obtain rfl := B.eb
  have e1 := B.cK
  have e2 := B.cc
  have e3 := B.cC
  dsimp only at e1 e2 e3
  subst e1 e2 e3 hx
  exact x_call rfl t F r hg hm hG.1.kp hG.2 hdb ok.le ok.n hp ha
theorem env0_io {fd : FD} {ws : List W} {i : Nat} {w : W} {f : Fl} (e : (env0 fd ws)[i]? = some (some (w, f))) : f = .sh ∨ f = .io := by
  unfold env0 at e
  rcases Nat.lt_or_ge i ((ws.zip fd.m).map (fun p => some (p.1, if p.2 then Fl.io else Fl.sh))).length with h | h
  · rw [List.getElem?_append_left h, List.getElem?_map] at e
    obtain ⟨q, _, e⟩ := Option.map_eq_some_iff.mp e
    cases e
    split <;> simp
  · rw [List.getElem?_append_right h, List.getElem?_replicate] at e
    split at e <;> cases e
theorem body_start {I : Info} {j : Nat} {vs : List V} {H : Hp} {Q : VK} {E : XK} (hI : fs[j]? = some I) (hsp : spF Z.K Z.cls (Z.fn fs (d + 1)) I.fd I.N j vs H Q E) :
    tS (Z.cf fs d E) Z.tk Z.g I.fd.b { nx := fun _ H' => Q .non H', rt := Q } (start I.N vs) H := by
  obtain ⟨hl, A, F, ws, hw, sr, q⟩ := hsp
  have e : Z.fn fs (d + 1) j ws = ofS I.fd (xs (Z.fn fs d) Z.tk Z.g I.fd.b (env0 I.fd ws)) := by
    have e0 : (fs.map Info.fd)[j]? = some I.fd := by rw [List.getElem?_map, hI]; rfl
    show (match (fs.map Info.fd)[j]? with
      | none => CO.bad
      | some fd => if ws.length = fd.m.length then ofS fd (xs (run (fs.map Info.fd) Z.tk Z.g d) Z.tk Z.g fd.b (env0 fd ws)) else .bad) = _
    rw [e0]
    simp only [hw, if_true]
    rfl
  rw [e] at q
  refine ⟨A, env0 I.fd ws, F, [], sr, ?_⟩
  show RS (Z.cf fs d E) A (start I.N vs) (env0 I.fd ws) H F [] _ (xs (Z.fn fs d) Z.tk Z.g I.fd.b (env0 I.fd ws))
  cases e2 : xs (Z.fn fs d) Z.tk Z.g I.fd.b (env0 I.fd ws) with
  | nx ρ' =>
    rw [e2] at q
    simp only [ofS] at q
    cases e3 : ioE ρ' 0 I.fd.m with
    | none => rw [e3] at q; exact q.elim
    | some ios =>
      rw [e3] at q
      exact fun σ' H' F' st s => q .non H' F' σ' ρ' st (show SRel Z.K A σ' ρ' H' F' (pnd (.val .non false) .non) from s) e3 (fun h => nomatch h) fun _ => .non
  | rt w fr ρ' =>
    rw [e2] at q
    simp only [ofS] at q
    cases e3 : ioE ρ' 0 I.fd.m with
    | none => rw [e3] at q; exact q.elim
    | some ios =>
      rw [e3] at q
      refine fun v σ' H' F' st s a b => q v H' F' σ' ρ' st (by rw [List.append_nil] at s; exact s) e3 (fun h => ?_) b
      obtain ⟨a, ea, z⟩ := a h
      refine ⟨a, ea, z.resolve_right ?_⟩
      rintro ⟨i, w', f', e', n', _⟩
      rcases env0_io e' with rfl | rfl <;> rcases n' with n' | n' <;> cases n'
  | ex x p ρ' =>
    rw [e2] at q
    simp only [ofS] at q
    cases e3 : ioE ρ' 0 I.fd.m with
    | none => rw [e3] at q; exact q.elim
    | some ios =>
      rw [e3] at q
      exact fun σ' H' F' d st s a => q H' F' σ' ρ' d st s e3 a
  | bk ρ' => rw [e2] at q; exact q.elim
  | ct ρ' => rw [e2] at q; exact q.elim
  | bad => rw [e2] at q; exact q.elim
/-- every def keeps its promise -/
theorem okAt (G : Gs fs Z bn cs) (HI : ∀ (j : Nat) (I : Info), fs[j]? = some I → InfoOk I)
    (bodies : ∀ (j : Nat) (I : Info), fs[j]? = some I → ∀ d cdv A outer s H E, Bd fs Z bn cs d (Z.cf fs d E) (Z.X I cdv A outer s H E) → PSs (Z.X I cdv A outer s H E) I.d.body (tS (Z.cf fs d E) Z.tk Z.g I.fd.b)) : ∀ d, OkAt fs Z d
  | 0 => fun j I fdat hI hG => ⟨fun vs H Q E h => h.1.trans (HI j I hI).m, fun A outer s H args us vs Q E hr e0 hb r hsp => by
    obtain ⟨_, _, _, _, _, _, q⟩ := hsp
    exact q.elim⟩
  | d + 1 => fun j I fdat hI hG => FunD.ok hG.1 (HI j I hI).S (fun vs H Q E h => h.1.trans (HI j I hI).m) fun cdv A outer s H vs Q E hr hsp =>
    ⟨tS (Z.cf fs d E) Z.tk Z.g I.fd.b, bodies j I hI d cdv A outer s H E ⟨G, okAt G HI bodies d, HI, rfl, rfl, rfl, rfl, rfl, rfl, rfl, rfl, hr, takes_of rfl rfl rfl rfl, rfl, (HI j I hI).S.nd, passes_of (K := fun e s'' => L2.CX Z.P Z.w outer H s E e s'') rfl⟩, body_start hI hsp⟩
end
end Py

namespace Py
open PySem PySem.Spec PyProof.Rows L2
variable [HW]
/-! ### the rules in short -/
section
variable {fs : List Info} {Z : Wd} {bn : List Str} {cs : List (Str × W)} {d : Nat} {c : Cf} {X : Cx} {tk : Tk} {g : Nat}
variable {e a b tg iter elt : Expr} {ea eb eas ee et : E} {pos p p2 : Pos} {x : Str} {es : List Expr}
theorem t_var {i : Nat} (B : Bd fs Z bn cs d c X) (h : PE X (.Name x pos) (tX c (.var i))) : PT X (.Name x pos) (tXB c (.var i)) :=
  t_plain B.hc h (fun ρ => by
    show trO ((wOf ρ i).map (·.1)) ρ = (match wOf ρ i with | some _ => Out.ok (Arg.slot i) ρ | none => .bad).bind fun u ρ1 => trO (res ρ1 u) ρ1
    cases q : wOf ρ i with
    | none => rfl
    | some y => simp only [Out.bind_ok, res, q]) fun _ => rfl
theorem x_int {i : Int} {j} : PE X (.Constant (.int i) j pos) (tX c (.con (.int i))) := x_con pe_int fun _ _ => .int i
theorem x_bl {b : Bool} {j} : PE X (.Constant (.bool b) j pos) (tX c (.con (.bl b))) := x_con pe_bl fun _ _ => .bl b
theorem x_non {j} : PE X (.Constant .none j pos) (tX c (.con .non)) := x_con pe_non fun _ _ => .non
theorem x_str {z : Str} {s : Cs} {j} (h : (z == S8 s && s8Ok s) = true) : PE X (.Constant (.str z) j pos) (tX c (.con (.str s))) := by
  obtain ⟨h1, h2⟩ := Bool.and_eq_true_iff.mp h
  obtain rfl : z = S8 s := eq_of_beq h1
  obtain ⟨k1, k2⟩ := Bool.and_eq_true_iff.mp h2
  exact x_con pe_str fun _ _ => .str s (of_decide_eq_true k1) k2
theorem x_bad : PE X e (tX c .bad) := ⟨fun pins s σ H Q I ⟨A, ρ, F, Pn, hs, q⟩ => q.elim⟩
theorem t_bad : PT X e (tXB c .bad) := ⟨fun pins s σ H Q I ⟨A, ρ, F, Pn, hs, q⟩ => q.elim⟩
theorem pts_no : PTs X [] (tXB c .nil) := ⟨fun pins s σ H Q I ⟨A, ρ, F, Pn, hs, q⟩ => pts_nil.run pins s σ H Q I (q H F .refl hs)⟩
def blkB (N : List Str) (sc scope : Scope) (own : List (Str × Nat)) (p : Pt) : Bool :=
  (decide (scope.kind = .function) && (scope.names.all fun y => decide (scope.names.lookup y.1 = some y.2)) && (own.all fun q => decide (N[q.2]? = some q.1)) &&
    (scope.names.all fun y => !decide (y.2 = .free) || (decide (sc.names.lookup y.1 = some .cell) || decide (sc.names.lookup y.1 = some .free))) &&
    (scope.names.all fun y => !(decide (y.2 = .local) || decide (y.2 = .cell)) || (decide (y.1 ∈ own.map (·.1)) || decide (y.1 ∉ N)))) &&
  (decide (own.map (·.2)).Nodup && decide (∀ j ∈ p.ns, j ∈ own.map (·.2)))
theorem blkB_ok {N : List Str} {sc scope : Scope} {own : List (Str × Nat)} {p : Pt} (h : blkB N sc scope own p = true) : BlkOk N sc scope own ∧ (own.map (·.2)).Nodup ∧ ∀ j ∈ p.ns, j ∈ own.map (·.2) := by
  simp only [blkB, Bool.and_eq_true, decide_eq_true_eq, List.all_eq_true, Bool.or_eq_true, Bool.not_eq_true', decide_eq_false_iff_not] at h
  obtain ⟨⟨⟨⟨⟨h1, h2⟩, h3⟩, h4⟩, h5⟩, h6, h7⟩ := h
  exact ⟨⟨h1, h2, h3, fun y hy k => (h4 y hy).resolve_left fun z => z k, fun y hy k => (h5 y hy).resolve_left fun z => by simp at z; exact k.elim z.1 z.2⟩, h6, h7⟩
theorem b_lc {scope : Scope} {ownN : List (Str × Nat)} {k : IK} {p : Pt} {ifs : List Expr} (B : Bd fs Z bn cs d c X) (own : List Nat) (ho : ownN.map (·.2) = own) (hb : blkB X.N X.env.scope scope ownN p = true) (hi : PI X tg iter (tI c k eas))
    (hg : ∀ (s : Shared) (H : Hp) (C : Addr) (cl : List (Str × Addr)) (fp : List Addr), Bd fs Z bn cs d c.nox (X.blk s H scope (compEnvC scope cl C X.env) fp) → PG (X.blk s H scope (compEnvC scope cl C X.env) fp) tg (gP X.K p))
    (ht : ∀ (s : Shared) (H : Hp) (C : Addr) (cl : List (Str × Addr)) (fp : List Addr), Bd fs Z bn cs d c.nox (X.blk s H scope (compEnvC scope cl C X.env) fp) → PTs (X.blk s H scope (compEnvC scope cl C X.env) fp) ifs (tXB c.nox et))
    (he : ∀ (s : Shared) (H : Hp) (C : Addr) (cl : List (Str × Addr)) (fp : List Addr), Bd fs Z bn cs d c.nox (X.blk s H scope (compEnvC scope cl C X.env) fp) → PE (X.blk s H scope (compEnvC scope cl C X.env) fp) elt (tX c.nox ee)) (hf : ∀ x, foldedSetIterable iter X.env x = pure x) :
    PE X (.ListComp elt [⟨tg, iter, ifs, 0⟩] scope pos) (tX c (.lc ee p et k eas own)) := by
  subst ho
  obtain ⟨b1, b2, b3⟩ := blkB_ok hb
  exact x_lc B.hc B.calm B.nd hi b1 b2 b3 (fun s H C cl fp => hg s H C cl fp (B.blk ..)) (fun s H C cl fp => ht s H C cl fp (B.blk ..)) (fun s H C cl fp => he s H C cl fp (B.blk ..)) hf
theorem b_asnLc {i : Nat} {py : Pos} {scope : Scope} {ownN : List (Str × Nat)} {k : IK} {q : Pt} {ifs : List Expr} (B : Bd fs Z bn cs d c X) (own : List Nat) (ho : ownN.map (·.2) = own) (hb : blkB X.N X.env.scope scope ownN q = true)
    (hy : X.N[i]? = some x) (hyl : X.env.scope.names.lookup x = some .local) (hsw : swapsWith (.ListComp elt [⟨tg, iter, ifs, 0⟩] scope p) (some (.Name x py)) pos.line X.env = pure true) (hi : PI X tg iter (tI c k eas))
    (hg : ∀ (s : Shared) (H : Hp) (C : Addr) (cl : List (Str × Addr)) (fp : List Addr), Bd fs Z bn cs d c.nox (X.blk s H scope (compEnvC scope cl C X.env) fp) → PG (X.blk s H scope (compEnvC scope cl C X.env) fp) tg (gP X.K q))
    (ht : ∀ (s : Shared) (H : Hp) (C : Addr) (cl : List (Str × Addr)) (fp : List Addr), Bd fs Z bn cs d c.nox (X.blk s H scope (compEnvC scope cl C X.env) fp) → PTs (X.blk s H scope (compEnvC scope cl C X.env) fp) ifs (tXB c.nox et))
    (he : ∀ (s : Shared) (H : Hp) (C : Addr) (cl : List (Str × Addr)) (fp : List Addr), Bd fs Z bn cs d c.nox (X.blk s H scope (compEnvC scope cl C X.env) fp) → PE (X.blk s H scope (compEnvC scope cl C X.env) fp) elt (tX c.nox ee)) (hf : ∀ x, foldedSetIterable iter X.env x = pure x) :
    PS X (.Assign [.Name x py] (.ListComp elt [⟨tg, iter, ifs, 0⟩] scope p) pos) (tS c tk g (.asn i (.lc ee q et k eas own))) := by
  subst ho
  obtain ⟨b1, b2, b3⟩ := blkB_ok hb
  exact s_asnLc B.hc B.calm B.nd hy hyl hsw hi b1 b2 b3 (fun s H C cl fp => hg s H C cl fp (B.blk ..)) (fun s H C cl fp => ht s H C cl fp (B.blk ..)) (fun s H C cl fp => he s H C cl fp (B.blk ..)) hf
theorem b_lc2 {tg1 iter1 : Expr} {et1 es1 : E} {scope : Scope} {ownN : List (Str × Nat)} {k k1 : IK} {q p1 : Pt} {ifs ifs1 : List Expr} (B : Bd fs Z bn cs d c X) (own : List Nat) (ho : ownN.map (·.2) = own) (hb : (blkB X.N X.env.scope scope ownN q && (decide p1.ns.Nodup && decide (∀ j ∈ p1.ns, j ∈ ownN.map (·.2)))) = true)
    (hi : PI X tg iter (tI c k eas))
    (hg : ∀ (s : Shared) (H : Hp) (C : Addr) (cl : List (Str × Addr)) (fp : List Addr), Bd fs Z bn cs d c.nox (X.blk s H scope (compEnvC scope cl C X.env) fp) → PG (X.blk s H scope (compEnvC scope cl C X.env) fp) tg (gP X.K q))
    (ht : ∀ (s : Shared) (H : Hp) (C : Addr) (cl : List (Str × Addr)) (fp : List Addr), Bd fs Z bn cs d c.nox (X.blk s H scope (compEnvC scope cl C X.env) fp) → PTs (X.blk s H scope (compEnvC scope cl C X.env) fp) ifs (tXB c.nox et))
    (hi1 : ∀ (s : Shared) (H : Hp) (C : Addr) (cl : List (Str × Addr)) (fp : List Addr), Bd fs Z bn cs d c.nox (X.blk s H scope (compEnvC scope cl C X.env) fp) → PI (X.blk s H scope (compEnvC scope cl C X.env) fp) tg1 iter1 (tIF c.nox k1 es1))
    (hg1 : ∀ (s : Shared) (H : Hp) (C : Addr) (cl : List (Str × Addr)) (fp : List Addr), Bd fs Z bn cs d c.nox (X.blk s H scope (compEnvC scope cl C X.env) fp) → PG (X.blk s H scope (compEnvC scope cl C X.env) fp) tg1 (gP X.K p1))
    (ht1 : ∀ (s : Shared) (H : Hp) (C : Addr) (cl : List (Str × Addr)) (fp : List Addr), Bd fs Z bn cs d c.nox (X.blk s H scope (compEnvC scope cl C X.env) fp) → PTs (X.blk s H scope (compEnvC scope cl C X.env) fp) ifs1 (tXB c.nox et1))
    (he : ∀ (s : Shared) (H : Hp) (C : Addr) (cl : List (Str × Addr)) (fp : List Addr), Bd fs Z bn cs d c.nox (X.blk s H scope (compEnvC scope cl C X.env) fp) → PE (X.blk s H scope (compEnvC scope cl C X.env) fp) elt (tX c.nox ee)) (hf : ∀ x, foldedSetIterable iter X.env x = pure x) (hf1 : ∀ env x, foldedSetIterable iter1 env x = pure x) :
    PE X (.ListComp elt [⟨tg, iter, ifs, 0⟩, ⟨tg1, iter1, ifs1, 0⟩] scope pos) (tX c (.lc2 ee q et k eas p1 et1 k1 es1 own)) := by
  subst ho
  obtain ⟨hb, hb2⟩ := Bool.and_eq_true_iff.mp hb
  obtain ⟨hb2, hb3⟩ := Bool.and_eq_true_iff.mp hb2
  obtain ⟨b1, b2, b3⟩ := blkB_ok hb
  exact x_lc2 B.hc B.calm B.nd hi b1 b2 (of_decide_eq_true hb2) b3 (of_decide_eq_true hb3) (fun s H C cl fp => hg s H C cl fp (B.blk ..)) (fun s H C cl fp => ht s H C cl fp (B.blk ..)) (fun s H C cl fp => hi1 s H C cl fp (B.blk ..)) (fun s H C cl fp => hg1 s H C cl fp (B.blk ..)) (fun s H C cl fp => ht1 s H C cl fp (B.blk ..)) (fun s H C cl fp => he s H C cl fp (B.blk ..)) hf hf1
theorem b_asnLc2 {i : Nat} {py : Pos} {tg1 iter1 : Expr} {et1 es1 : E} {scope : Scope} {ownN : List (Str × Nat)} {k k1 : IK} {q p1 : Pt} {ifs ifs1 : List Expr} (B : Bd fs Z bn cs d c X) (own : List Nat) (ho : ownN.map (·.2) = own) (hb : (blkB X.N X.env.scope scope ownN q && (decide p1.ns.Nodup && decide (∀ j ∈ p1.ns, j ∈ ownN.map (·.2)))) = true)
    (hy : X.N[i]? = some x) (hyl : X.env.scope.names.lookup x = some .local) (hsw : swapsWith (.ListComp elt [⟨tg, iter, ifs, 0⟩, ⟨tg1, iter1, ifs1, 0⟩] scope p) (some (.Name x py)) pos.line X.env = pure true) (hi : PI X tg iter (tI c k eas))
    (hg : ∀ (s : Shared) (H : Hp) (C : Addr) (cl : List (Str × Addr)) (fp : List Addr), Bd fs Z bn cs d c.nox (X.blk s H scope (compEnvC scope cl C X.env) fp) → PG (X.blk s H scope (compEnvC scope cl C X.env) fp) tg (gP X.K q))
    (ht : ∀ (s : Shared) (H : Hp) (C : Addr) (cl : List (Str × Addr)) (fp : List Addr), Bd fs Z bn cs d c.nox (X.blk s H scope (compEnvC scope cl C X.env) fp) → PTs (X.blk s H scope (compEnvC scope cl C X.env) fp) ifs (tXB c.nox et))
    (hi1 : ∀ (s : Shared) (H : Hp) (C : Addr) (cl : List (Str × Addr)) (fp : List Addr), Bd fs Z bn cs d c.nox (X.blk s H scope (compEnvC scope cl C X.env) fp) → PI (X.blk s H scope (compEnvC scope cl C X.env) fp) tg1 iter1 (tIF c.nox k1 es1))
    (hg1 : ∀ (s : Shared) (H : Hp) (C : Addr) (cl : List (Str × Addr)) (fp : List Addr), Bd fs Z bn cs d c.nox (X.blk s H scope (compEnvC scope cl C X.env) fp) → PG (X.blk s H scope (compEnvC scope cl C X.env) fp) tg1 (gP X.K p1))
    (ht1 : ∀ (s : Shared) (H : Hp) (C : Addr) (cl : List (Str × Addr)) (fp : List Addr), Bd fs Z bn cs d c.nox (X.blk s H scope (compEnvC scope cl C X.env) fp) → PTs (X.blk s H scope (compEnvC scope cl C X.env) fp) ifs1 (tXB c.nox et1))
    (he : ∀ (s : Shared) (H : Hp) (C : Addr) (cl : List (Str × Addr)) (fp : List Addr), Bd fs Z bn cs d c.nox (X.blk s H scope (compEnvC scope cl C X.env) fp) → PE (X.blk s H scope (compEnvC scope cl C X.env) fp) elt (tX c.nox ee)) (hf : ∀ x, foldedSetIterable iter X.env x = pure x) (hf1 : ∀ env x, foldedSetIterable iter1 env x = pure x) :
    PS X (.Assign [.Name x py] (.ListComp elt [⟨tg, iter, ifs, 0⟩, ⟨tg1, iter1, ifs1, 0⟩] scope p) pos) (tS c tk g (.asn i (.lc2 ee q et k eas p1 et1 k1 es1 own))) := by
  subst ho
  obtain ⟨hb, hb2⟩ := Bool.and_eq_true_iff.mp hb
  obtain ⟨hb2, hb3⟩ := Bool.and_eq_true_iff.mp hb2
  obtain ⟨b1, b2, b3⟩ := blkB_ok hb
  exact s_asnLc2 B.hc B.calm B.nd hy hyl hsw hi b1 b2 (of_decide_eq_true hb2) b3 (of_decide_eq_true hb3) (fun s H C cl fp => hg s H C cl fp (B.blk ..)) (fun s H C cl fp => ht s H C cl fp (B.blk ..)) (fun s H C cl fp => hi1 s H C cl fp (B.blk ..)) (fun s H C cl fp => hg1 s H C cl fp (B.blk ..)) (fun s H C cl fp => ht1 s H C cl fp (B.blk ..)) (fun s H C cl fp => he s H C cl fp (B.blk ..)) hf hf1
theorem b_for {s : S} {k : IK} {q : Pt} {body : List Stmt} (B : Bd fs Z bn cs d c X) (hi : PI X tg iter (tI c k eas)) (hg : PG X tg (gP X.K q)) (hb : PSs X body (tS c tk g s)) (hf : ∀ x, foldedSetIterable iter X.env x = pure x) :
    PS X (.For tg iter body [] pos) (tS c tk g (.for_ q k eas s)) := s_for B.hc B.po B.calm hi hg hb hf
/-- lengths of argument lists -/
def arity : E → Nat
  | .cons _ b => arity b + 1
  | _ => 0
theorem arity_ok {C : Fn} : ∀ {e : E} {n : Nat}, arity e = n → (∀ ρ us ρ1, (ev C e).a ρ = .ok us ρ1 → us.length = n)
  | .nil, n, h => by
    intro ρ us ρ1 e
    cases e
    exact h
  | .cons a b, n, h => by
    intro ρ us ρ1 e
    have e : (((ev C a).x ρ).bind fun u ρ1 => ((ev C b).a ρ1).bind fun us ρ2 => Out.ok (u :: us) ρ2) = .ok us ρ1 := e
    obtain ⟨u, ρ2, e1, e⟩ := bind_ok e
    obtain ⟨us', ρ3, e2, e⟩ := bind_ok e
    cases e
    simp only [List.length_cons, arity_ok rfl _ _ _ e2]
    exact h
  | .bad, n, h => fun ρ us ρ1 e => by cases e
  | .var _, n, h => fun ρ us ρ1 e => by cases e
  | .con _, n, h => fun ρ us ρ1 e => by cases e
  | .op .., n, h => fun ρ us ρ1 e => by cases e
  | .neg .., n, h => fun ρ us ρ1 e => by cases e
  | .cmp .., n, h => fun ρ us ρ1 e => by cases e
  | .cmp2 .., n, h => fun ρ us ρ1 e => by cases e
  | .and .., n, h => fun ρ us ρ1 e => by cases e
  | .or .., n, h => fun ρ us ρ1 e => by cases e
  | .not .., n, h => fun ρ us ρ1 e => by cases e
  | .ite .., n, h => fun ρ us ρ1 e => by cases e
  | .tup .., n, h => fun ρ us ρ1 e => by cases e
  | .lst .., n, h => fun ρ us ρ1 e => by cases e
  | .dsp .., n, h => fun ρ us ρ1 e => by cases e
  | .ix .., n, h => fun ρ us ρ1 e => by cases e
  | .slc .., n, h => fun ρ us ρ1 e => by cases e
  | .call .., n, h => fun ρ us ρ1 e => by cases e
  | .bi .., n, h => fun ρ us ρ1 e => by cases e
  | .mth .., n, h => fun ρ us ρ1 e => by cases e
  | .isi .., n, h => fun ρ us ρ1 e => by cases e
  | .fst .., n, h => fun ρ us ρ1 e => by cases e
  | .lc .., n, h => fun ρ us ρ1 e => by cases e
  | .lc2 .., n, h => fun ρ us ρ1 e => by cases e
theorem pt_len {l : Pt} : ∀ {n : Nat}, (match l with | .nil => n = 0 | _ => True) → True := fun _ => trivial
def ptLen : Pt → Nat
  | .cons _ b => ptLen b + 1
  | _ => 0
def ptOk : Pt → Bool
  | .cons _ b => ptOk b
  | .nil => true
  | _ => false
theorem asP_len : ∀ {l : Pt} {w : List W} {ρ ρ' : Env}, ptOk l = true → asP l (.tup w) ρ = some ρ' → w.length = ptLen l
  | .nil, w, ρ, ρ', _, h => by
    cases w with
    | nil => rfl
    | cons _ _ => cases h
  | .cons a b, w, ρ, ρ', h, e => by
    cases w with
    | nil => cases e
    | cons x xs =>
      simp only [asP] at e
      cases q : asP a x ρ with
      | none => rw [q] at e; cases e
      | some ρ1 =>
        rw [q] at e
        simp only [List.length_cons, asP_len (l := b) h e]
        rfl
theorem g_tupB {k : Nat} {l : Pt} (B : Bd fs Z bn cs d c X) (hp : es.all plainE = true) (hl : (ptOk l && ptLen l == es.length) = true) (h : PGs X es (gPs X.K l)) : PG X (.Tuple es k pos) (gP X.K (.t l)) := by
  obtain ⟨h1, h2⟩ := Bool.and_eq_true_iff.mp hl
  exact g_tup B.calm hp (fun w ρ ρ' e => (asP_len h1 e).trans (eq_of_beq h2)) h
theorem b_glob {w : W} (B : Bd fs Z bn cs d c X) (hm : (x, w) ∈ cs) (hg : Gl X x) (hd : (x == ("__debug__" : Str)) = false) : PE X (.Name x pos) (tX c (.con w)) := by
  obtain ⟨u, h1, h2⟩ := B.G.c _ hm
  exact x_glob B.hc hg (by rw [B.em]; exact h1) (by rw [B.eK]; exact h2) hd
end
end Py

namespace Py
open PySem PySem.Spec PyProof.Rows L2
/-! ### the law's def, called with the script -/
/-- no list stands at the text's top -/
def noList (K : PySem.W.Frag) : Bool := K.all fun p => decide (p.2.cls ≠ .type "list")
theorem lookup_mem {K : PySem.W.Frag} {a : Addr} {o : Obj} (h : K.lookup a = some o) : (a, o) ∈ K := by
  induction K with
  | nil => cases h
  | cons p r ih =>
    rw [List.lookup_cons] at h
    split at h
    · rename_i e
      cases Option.some.inj h
      rw [eq_of_beq e]
      exact List.mem_cons_self
    · exact List.mem_cons_of_mem _ (ih h)
theorem noList_ok {K : PySem.W.Frag} (h : noList K = true) {a : Addr} {o : Obj} (e : K.lookup a = some o) : o.cls ≠ .type "list" := by
  have := List.all_eq_true.mp h _ (lookup_mem e)
  exact of_decide_eq_true this
theorem ints_hr {K : PySem.W.Frag} {H : Hp} {F : Addr → Prop} : ∀ ns : List Int, HRs K H F (ns.map V.int) (ns.map W.int)
  | [] => .nil
  | n :: ns => .cons (.int n) (ints_hr ns)
theorem spF_law [HW] {K : PySem.W.Frag} {cls : Nat → Value} {C : Fn} {fd : FD} {N : List Str} {j : Nat} {a : Addr} {H : Hp} {ns : List Int} (hm : fd.m = [false]) (hN : N.length = fd.n) (h1 : 1 ≤ fd.n) (hl : noList K = true) (hz : ns.length ≤ szL) (hS : SqL K H a (ns.map V.int)) (hC : C j [.lst (ns.map W.int)] = .ret (.bl true) false []) :
    spF K cls C fd N j [.ref a] H (fun v _ => v = .bl true) fun _ _ _ => False := by
  have hS : Rd H a (.lst (ns.map V.int)) := by
    rcases hS with h | ⟨o, its, n, h, hc, _⟩
    · exact h
    · exact absurd hc (noList_ok hl h)
  have e0 : env0 fd [.lst (ns.map W.int)] = some (.lst (ns.map W.int), .sh) :: List.replicate (fd.n - 1) none := by
    unfold env0; rw [hm]; rfl
  have get : ∀ {i : Nat} {w : W} {f : Fl}, (env0 fd [.lst (ns.map W.int)])[i]? = some (some (w, f)) → i = 0 ∧ w = .lst (ns.map W.int) ∧ f = .sh := fun {i w f} e => by
    rw [e0] at e
    cases i with
    | zero => simp at e; exact ⟨rfl, e.1.symm, e.2.symm⟩
    | succ i =>
      rw [List.getElem?_cons_succ, List.getElem?_replicate] at e
      split at e <;> cases e
  have nosl : ∀ i b, ¬ SlA (start N [.ref a]) (env0 fd [.lst (ns.map W.int)]) i b := fun i b ⟨w, f, e, n, _⟩ => n (get e).2.2
  refine ⟨by rw [hm]; rfl, fun _ => none, fun b => b = a, [.lst (ns.map W.int)], by rw [hm]; rfl, ⟨?_, fun i w e => ?_, fun i w f e n => absurd (get e).2.2 n, fun i w f e q => ?_, fun i j b h => absurd h (nosl i b), (fun p hp => nomatch hp), List.nodup_nil, fun b hb => ?_⟩, ?_⟩
  · rw [e0]
    unfold L2.start
    simp only [List.length_cons, List.length_replicate, List.map_cons, List.map_nil, List.length_append, List.length_nil]
    omega
  · obtain ⟨rfl, rfl, _⟩ := get e
    exact ⟨.ref a, rfl, .lst rfl hS (by simpa using hz) (ints_hr ns)⟩
  · obtain ⟨_, _, rfl⟩ := get e
    rcases q with q | q <;> cases q
  · rw [hb]
    rcases hS with h | ⟨o, h⟩
    · exact ⟨_, h⟩
    · exact ⟨_, h⟩
  · rw [hC]
    intro v H' F' σ' ρ' _ _ _ _ hr
    have hr := hr rfl
    cases hr
    rfl
/-- a promise with a number that is chosen at the call -/
def spE (sp : Nat → Sp) : Sp := fun vs H Q E => ∃ g, sp g vs H Q E
theorem fnOk_ex {P : Program} {w : World} {K : PySem.W.Frag} {mg : Str → Option Value} {base : Heap} {CX : CXT} {k : Nat} {f : Addr} {fd : FuncData} {ps : List Str} {sp : Nat → Sp} (h : ∀ g, FnOk P w K mg base CX k f fd ps (sp g)) : FnOk P w K mg base CX k f fd ps (spE sp) :=
  ⟨fun vs H Q E ⟨g, q⟩ => (h g).len vs H Q E q, fun A outer s H args us vs Q E hr e0 hb r ⟨g, q⟩ => (h g).run A outer s H args us vs Q E hr e0 hb r q⟩

theorem fnOk_0 {P : Program} {w : World} {K : PySem.W.Frag} {mg : Str → Option Value} {base : Heap} {k : Nat} {f : Addr} {fd : FuncData} {ps : List Str} {sp : Sp} (h : FnOk P w K mg base (L2.CX P w) k f fd ps sp) :
    FnOk P w K mg base CX0 k f fd ps fun vs H Q _ => sp vs H Q fun _ _ _ => False :=
  ⟨fun vs H Q E q => h.len _ _ _ _ q, fun A outer s H args us vs Q E hr e0 hb r q => codeAny_mono (h.run A outer s H args us vs Q _ hr e0 hb r q) fun r s' z => by
    cases r with
    | error e =>
      obtain ⟨_, _, _, _, _, _, _, _, _, _, _, _, z⟩ := z
      exact z.elim
    | ok fl => cases fl <;> exact z⟩
theorem all_get {α : Type} {P : α → Prop} {l : List α} (h : ∀ x ∈ l, P x) (j : Nat) (x : α) (e : l[j]? = some x) : P x := h x (List.mem_of_getElem? e)
theorem all_nil {α : Type} {P : α → Prop} : ∀ x ∈ ([] : List α), P x := fun x h => nomatch h
theorem all_cons {α : Type} {P : α → Prop} {a : α} {l : List α} (h : P a) (t : ∀ x ∈ l, P x) : ∀ x ∈ a :: l, P x := fun x m => by
  rcases List.mem_cons.mp m with rfl | m
  · exact h
  · exact t x m
/-! ### what the head tells -/
abbrev AlP : Type := He.AlD × Bool
def obsP (n : Nat) (fa : List He.Fa) (fn : List He.DefD) (ex : PySem.W.Frag → Bool) (g : Addr → Option Obj) : AlP := (He.obsD fa fn (He.frG g (He.asD g n)), ex (He.frG g (He.asD g n)))
def SaysP (fa : List He.Fa) (fn : List He.DefD) (ex : PySem.W.Frag → Bool) (K : PySem.W.Frag) : Prop := He.SaysD fa fn K ∧ ex K = true
theorem saysP_of {n : Nat} {fa : List He.Fa} {fn : List He.DefD} {ex : PySem.W.Frag → Bool} {g : Addr → Option Obj} (e : obsP n fa fn ex g = (He.valD fn, true)) : SaysP fa fn ex (He.frG g (He.asD g n)) :=
  ⟨congrArg (fun z : AlP => z.1) e, congrArg (fun z : AlP => z.2) e⟩
def hookP (n : Nat) (fa : List He.Fa) (fn : List He.DefD) (ex : PySem.W.Frag → Bool) : PySem.W.Hook where
  α := AlP
  obs := fun s => obsP n fa fn ex s.heap.get?
  val := fun _ => (He.valD fn, true)
  says := fun _ h => ∃ K : PySem.W.Frag, K.In h ∧ SaysP fa fn ex K
  of := fun _ _ e => ⟨_, He.frG_in, saysP_of e⟩
  keeps := fun _ _ _ ⟨K, hK, c⟩ k => ⟨K, PySem.W.Frag.In.keeps hK k, c⟩
theorem obsP_eq {n : Nat} {fa : List He.Fa} {fn : List He.DefD} {ex : PySem.W.Frag → Bool} {g : Addr → Option Obj} {s : Shared} (h : ∀ a, g a = s.heap.get? a) : obsP n fa fn ex g = (hookP n fa fn ex).obs s := by
  have e : g = s.heap.get? := funext h
  subst e
  rfl
/-! ### the exceptions of a text -/
theorem xz {Z : Wd} {l : List Str} (h : Z.xn = l) (i : Nat) {x : Str} (e : l[i]? = some x) : Z.xn[i]? = some x := h ▸ e
def clsX (l : List Str) (K : PySem.W.Frag) (j : Nat) : Value := .ref (He.ga K (l.getD j ""))
theorem clsX_at {l : List Str} {K : PySem.W.Frag} {j : Nat} {n : Str} (e : l[j]? = some n) : clsX l K j = .ref (He.ga K n) := by
  unfold clsX
  rw [List.getD_eq_getElem?_getD, e]
  rfl
def tkX (T : List (Nat × Nat × Bool)) : Tk := fun i y => (T.find? fun t => t.1 == i && t.2.1 == y).map (·.2.2)
theorem tkX_at {T : List (Nat × Nat × Bool)} {P : Nat → Nat → Bool → Prop} (h : ∀ t ∈ T, P t.1 t.2.1 t.2.2) {i y : Nat} {k : Bool} (e : tkX T i y = some k) : P i y k := by
  obtain ⟨t, e1, e2⟩ := Option.map_eq_some_iff.mp e
  have m := List.mem_of_find?_eq_some e1
  have b := List.find?_some e1
  simp only [Bool.and_eq_true, beq_iff_eq] at b
  have z := h t m
  rw [b.1, b.2, e2] at z
  exact z
theorem excC_ok {K : PySem.W.Frag} {x : Str} (c : (He.Fa.exc x).ok K = true) : ExcC K (He.ga K x) := by
  obtain ⟨a, b, d, e⟩ := He.exc_ok c
  exact ⟨a, b, d, e⟩
end Py

namespace Py
open PySem PySem.Spec PyProof.Rows L2
@[simp] theorem isD_non : isD .non = false := rfl
@[simp] theorem isD_bl (b : Bool) : isD (.bl b) = false := rfl
@[simp] theorem isD_int (i : Int) : isD (.int i) = false := rfl
@[simp] theorem isD_str (s : Cs) : isD (.str s) = false := rfl
@[simp] theorem isD_tup (l : List W) : isD (.tup l) = false := rfl
@[simp] theorem isD_lst (l : List W) : isD (.lst l) = false := rfl
@[simp] theorem isD_dct (l : List (W × W)) : isD (.dct l) = true := rfl
/-! ### some calls by their values -/
def runO (fs : List FD) (tk : Tk) (g : Nat) (o : Nat → List W → Option CO) (d0 : Nat) : Nat → Fn
  | 0 => run fs tk g d0
  | d + 1 => fun f ws => match o f ws with
    | some r => r
    | none => match fs[f]? with
      | none => .bad
      | some fd => if ws.length = fd.m.length then ofS fd (xs (runO fs tk g o d0 d) tk g fd.b (env0 fd ws)) else .bad
theorem runO_eq {fs : List FD} {tk : Tk} {g : Nat} {o : Nat → List W → Option CO} {d0 : Nat} (h : ∀ d f ws r, o f ws = some r → run fs tk g (d0 + d + 1) f ws = r) : ∀ d, runO fs tk g o d0 d = run fs tk g (d0 + d)
  | 0 => rfl
  | d + 1 => by
    funext f ws
    have ih := runO_eq h d
    show (match o f ws with
      | some r => r
      | none => match fs[f]? with
        | none => CO.bad
        | some fd => if ws.length = fd.m.length then ofS fd (xs (runO fs tk g o d0 d) tk g fd.b (env0 fd ws)) else .bad) = run fs tk g (d0 + d + 1) f ws
    cases e : o f ws with
    | some r => exact (h d f ws r e).symm
    | none => rw [ih]; rfl
theorem run_at {fs : List FD} {tk : Tk} {g d f : Nat} {ws : List W} {fd : FD} (h : fs[f]? = some fd) (hl : ws.length = fd.m.length) : run fs tk g (d + 1) f ws = ofS fd (xs (run fs tk g d) tk g fd.b (env0 fd ws)) := by
  show (match fs[f]? with
    | none => CO.bad
    | some fd => if ws.length = fd.m.length then ofS fd (xs (run fs tk g d) tk g fd.b (env0 fd ws)) else .bad) = _
  rw [h]
  simp only [hl, if_true]

/-! ### the greatest common divisor -/
def S_cm : S := (.seq (.par [0, 1] (.cons (.bi .abs (.cons (.var 0) .nil)) (.cons (.bi .abs (.cons (.var 1) .nil)) .nil))) (.seq (.whl (.var 1) (.seq (.par [0, 1] (.cons (.var 1) (.cons (.op .md (.var 0) (.var 1)) .nil))) .nil)) (.seq (.ret (.var 0)) .nil)))
def FD_cm : FD := ⟨2, [false, false], S_cm⟩
def i2 (a b : Int) : Env := [some (.int a, .sh), some (.int b, .sh)]
theorem absW (a : Int) : (if a < 0 then -a else a) = (a.natAbs : Int) := by split <;> omega
theorem cm_step (C : Fn) (tk : Tk) (g : Nat) (a b : Nat) : xs C tk g (.seq (.par [0, 1] (.cons (.var 1) (.cons (.op .md (.var 0) (.var 1)) .nil))) .nil) (i2 a ((b + 1 : Nat) : Int)) = .nx (i2 ((b + 1 : Nat) : Int) ((a % (b + 1) : Nat) : Int)) := by
  have e : Int.fmod (a : Int) ((b + 1 : Nat) : Int) = ((a % (b + 1) : Nat) : Int) := by
    rw [Int.fmod_eq_emod_of_nonneg _ (by omega)]; rfl
  rw [← e]
  rfl
theorem cm_loop (C : Fn) (tk : Tk) (g : Nat) : ∀ (n a b : Nat), b < n → whlL (ev C (.var 1)).t (xs C tk g (.seq (.par [0, 1] (.cons (.var 1) (.cons (.op .md (.var 0) (.var 1)) .nil))) .nil)) n (i2 a b) = .nx (i2 (Nat.gcd a b) 0)
  | 0, a, b, h => by omega
  | n + 1, a, 0, h => by
    rw [Nat.gcd_zero_right]; rfl
  | n + 1, a, b + 1, h => by
    have h1 : whlL (ev C (.var 1)).t (xs C tk g (.seq (.par [0, 1] (.cons (.var 1) (.cons (.op .md (.var 0) (.var 1)) .nil))) .nil)) (n + 1) (i2 a ((b + 1 : Nat) : Int)) =
      match xs C tk g (.seq (.par [0, 1] (.cons (.var 1) (.cons (.op .md (.var 0) (.var 1)) .nil))) .nil) (i2 a ((b + 1 : Nat) : Int)) with
      | .nx ρ2 => whlL (ev C (.var 1)).t (xs C tk g (.seq (.par [0, 1] (.cons (.var 1) (.cons (.op .md (.var 0) (.var 1)) .nil))) .nil)) n ρ2
      | .ct ρ2 => whlL (ev C (.var 1)).t (xs C tk g (.seq (.par [0, 1] (.cons (.var 1) (.cons (.op .md (.var 0) (.var 1)) .nil))) .nil)) n ρ2
      | .bk ρ2 => .nx ρ2
      | o => o := rfl
    rw [h1, cm_step]
    show whlL _ _ n (i2 ((b + 1 : Nat) : Int) ((a % (b + 1) : Nat) : Int)) = _
    have hb : a % (b + 1) < b + 1 := Nat.mod_lt a (by omega)
    have eg : Nat.gcd (b + 1) (a % (b + 1)) = Nat.gcd a (b + 1) := by rw [Nat.gcd_comm a, Nat.gcd_rec (b + 1) a, Nat.gcd_comm]
    rw [cm_loop C tk g n (b + 1) (a % (b + 1)) (by omega), eg]
theorem cm_ok (C : Fn) (tk : Tk) (g : Nat) (a b : Int) (h : b.natAbs < g) : ofS FD_cm (xs C tk g S_cm (i2 a b)) = .ret (.int (Nat.gcd a.natAbs b.natAbs)) false [] := by
  have e1 : xs C tk g S_cm (i2 a b) = SO.thn (xs C tk g (.whl (.var 1) (.seq (.par [0, 1] (.cons (.var 1) (.cons (.op .md (.var 0) (.var 1)) .nil))) .nil)) (i2 (if a < 0 then -a else a) (if b < 0 then -b else b))) fun ρ => xs C tk g (.seq (.ret (.var 0)) .nil) ρ := rfl
  rw [e1, absW, absW]
  show ofS FD_cm (SO.thn (whlL (ev C (.var 1)).t (xs C tk g (.seq (.par [0, 1] (.cons (.var 1) (.cons (.op .md (.var 0) (.var 1)) .nil))) .nil)) g (i2 a.natAbs b.natAbs)) fun ρ => xs C tk g (.seq (.ret (.var 0)) .nil) ρ) = _
  rw [cm_loop C tk g g _ _ h]
  rfl

/-! ### lowest -/
def S_lw (jc : Nat) : S := (.seq (.asn 2 (.call jc [false, false] (.cons (.var 0) (.cons (.var 1) .nil)))) (.seq (.asn 3 (.ite (.cmp .gt (.var 1) (.con (.int 0))) (.con (.int 1)) (.neg (.con (.int 1))))) (.seq (.ret (.tup (.cons (.op .fdv (.op .mul (.var 3) (.var 0)) (.var 2)) (.cons (.op .fdv (.op .mul (.var 3) (.var 1)) (.var 2)) .nil)))) .nil)))
def FD_lw (jc : Nat) : FD := ⟨4, [false, false], S_lw jc⟩
/-- whole, of at most so many bits -/
def sm (k : Nat) (i : Int) : Bool := i.natAbs.log2 < k
def low (a b : Int) : Int × Int := if 0 < b then (a.fdiv (Nat.gcd a.natAbs b.natAbs), b.fdiv (Nat.gcd a.natAbs b.natAbs)) else ((-a).fdiv (Nat.gcd a.natAbs b.natAbs), (-b).fdiv (Nat.gcd a.natAbs b.natAbs))
def rt (p : Int × Int) : W := .tup [.int p.1, .int p.2]
theorem sm_bits {k : Nat} {i : Int} (h : sm k i = true) : bits i ≤ k + 1 := by
  have h : i.natAbs.log2 < k := of_decide_eq_true h
  unfold bits
  split <;> omega
theorem dvI_ok {i j : Int} (h0 : j ≠ 0) (h : sm 9000 j = true) : opW .fdv (.int i) (.int j) = some (.int (i.fdiv j), false) :=
  if_pos ⟨h0, PyProof.noPylong_of_log2 (of_decide_eq_true h)⟩
theorem mul_ok {i j : Int} (h : sm 100000000 i = true) (h' : sm 10000 j = true) : opW .mul (.int i) (.int j) = some (.int (i * j), false) := by
  have h1 := sm_bits h
  have h2 := sm_bits h'
  exact if_pos (by unfold bitL; omega)
theorem gcd_sm {a b : Int} (hb : b ≠ 0) (h : sm 9000 b = true) : sm 9000 (Nat.gcd a.natAbs b.natAbs : Int) = true ∧ (Nat.gcd a.natAbs b.natAbs : Int) ≠ 0 := by
  have hp : 0 < b.natAbs := by omega
  have h1 : Nat.gcd a.natAbs b.natAbs ≤ b.natAbs := Nat.gcd_le_right _ hp
  have h2 : 0 < Nat.gcd a.natAbs b.natAbs := Nat.gcd_pos_of_pos_right _ hp
  have h : b.natAbs.log2 < 9000 := of_decide_eq_true h
  refine ⟨decide_eq_true ?_, by omega⟩
  show (Nat.gcd a.natAbs b.natAbs).log2 < 9000
  have hlt := (Nat.log2_lt (by omega)).mp h
  exact (Nat.log2_lt (by omega)).mpr (Nat.lt_of_le_of_lt h1 hlt)
theorem lw_ok (C : Fn) (tk : Tk) (g jc : Nat) (a b : Int) (hb : b ≠ 0) (ha : sm 9000 a = true) (hs : sm 9000 b = true) (hC : C jc [.int a, .int b] = .ret (.int (Nat.gcd a.natAbs b.natAbs)) false []) :
    ofS (FD_lw jc) (xs C tk g (S_lw jc) [some (.int a, .sh), some (.int b, .sh), none, none]) = .ret (rt (low a b)) false [] := by
  have w : ∀ {k m : Nat} {i : Int}, sm k i = true → k ≤ m → sm m i = true := fun {k m i} h hk => decide_eq_true (Nat.lt_of_lt_of_le (of_decide_eq_true h) hk)
  obtain ⟨h1, h2⟩ := gcd_sm (a := a) hb (w hs (by decide))
  have m1 : ∀ z : Int, sm 9000 z = true → opW .mul (.int 1) (.int z) = some (.int (1 * z), false) := fun z hz => mul_ok (by decide) (w hz (by decide))
  have m2 : ∀ z : Int, sm 9000 z = true → opW .mul (.int (-1)) (.int z) = some (.int (-1 * z), false) := fun z hz => mul_ok (by decide) (w hz (by decide))
  have d1 : ∀ z : Int, opW .fdv (.int z) (.int (Nat.gcd a.natAbs b.natAbs)) = some (.int (z.fdiv (Nat.gcd a.natAbs b.natAbs)), false) := fun z => dvI_ok h2 h1
  unfold low
  by_cases hp : 0 < b
  · have c1 : cmpW .gt (.int b) (.int 0) = some true := by show some (decide (0 < b)) = _; rw [decide_eq_true hp]
    simp [S_lw, xs, ev, SO.thn, hC, callW, shM, ioW, ioB, shr, wOf, ofE, asA, setN, l2, l1, res, ofO, bW, c1, trO, truth, m1, m2, d1, ha, hs, hp, shrs, szL, retA, ofS, FD_lw, ioE, rt]
  · have c1 : cmpW .gt (.int b) (.int 0) = some false := by show some (decide (0 < b)) = _; rw [decide_eq_false hp]
    simp [S_lw, xs, ev, SO.thn, hC, callW, shM, ioW, ioB, shr, wOf, ofE, asA, setN, l2, l1, res, ofO, bW, c1, trO, truth, m1, m2, d1, ha, hs, hp, shrs, szL, retA, ofS, FD_lw, ioE, rt]

/-! ### the law's own lowest -/
def S_lwB : S := (.seq (.par [2, 3] (.cons (.var 3) (.cons (.op .sub (.var 2) (.op .mul (.var 3) (.op .fdv (.var 2) (.var 3)))) .nil))) .nil)
def S_lwl : S := (.seq (.par [2, 3] (.cons (.bi .abs (.cons (.var 0) .nil)) (.cons (.bi .abs (.cons (.var 1) .nil)) .nil))) (.seq (.whl (.cmp .ne (.var 3) (.con (.int 0))) S_lwB) (.seq (.ret (.ite (.cmp .gt (.var 1) (.con (.int 0))) (.tup (.cons (.op .fdv (.var 0) (.var 2)) (.cons (.op .fdv (.var 1) (.var 2)) .nil))) (.tup (.cons (.op .fdv (.neg (.var 0)) (.var 2)) (.cons (.op .fdv (.neg (.var 1)) (.var 2)) .nil))))) .nil)))
def FD_lwl : FD := ⟨4, [false, false], S_lwl⟩
def i4 (a b c d : Int) : Env := [some (.int a, .sh), some (.int b, .sh), some (.int c, .sh), some (.int d, .sh)]
theorem sm_le {k : Nat} {a b : Nat} (h : sm k (a : Int) = true) (hb : b ≤ a) (hk : 0 < k) : sm k (b : Int) = true := by
  have h : a.log2 < k := of_decide_eq_true h
  refine decide_eq_true ?_
  show b.log2 < k
  by_cases h0 : b = 0
  · subst h0; simpa using hk
  · have := (Nat.log2_lt (by omega)).mp h
    exact (Nat.log2_lt h0).mpr (Nat.lt_of_le_of_lt hb this)
theorem sm_up {k m : Nat} {i : Int} (h : sm k i = true) (hk : k ≤ m) : sm m i = true := decide_eq_true (Nat.lt_of_lt_of_le (of_decide_eq_true h) hk)
theorem lwl_step (C : Fn) (tk : Tk) (g : Nat) (a b : Int) (c d : Nat) (h1 : sm 9000 c = true) (h2 : sm 9000 ((d + 1 : Nat) : Int) = true) : xs C tk g S_lwB (i4 a b c ((d + 1 : Nat) : Int)) = .nx (i4 a b ((d + 1 : Nat) : Int) ((c % (d + 1) : Nat) : Int)) := by
  have e0 : Int.fdiv (c : Int) ((d + 1 : Nat) : Int) = ((c / (d + 1) : Nat) : Int) := by
    rw [Int.fdiv_eq_ediv_of_nonneg _ (by omega)]; rfl
  have e1 : opW .fdv (.int c) (.int ((d + 1 : Nat) : Int)) = some (.int ((c / (d + 1) : Nat) : Int), false) := by
    rw [← e0]; exact dvI_ok (by omega) (sm_up h2 (by decide))
  have e2 : opW .mul (.int ((d + 1 : Nat) : Int)) (.int ((c / (d + 1) : Nat) : Int)) = some (.int (((d + 1 : Nat) : Int) * ((c / (d + 1) : Nat) : Int)), false) :=
    mul_ok (sm_up h2 (by decide)) (sm_up (sm_le h1 (Nat.div_le_self _ _) (by decide)) (by decide))
  have e3 : (c : Int) - ((d + 1 : Nat) : Int) * ((c / (d + 1) : Nat) : Int) = ((c % (d + 1) : Nat) : Int) := by
    have := Nat.div_add_mod c (d + 1)
    have h := congrArg (Nat.cast : Nat → Int) this
    rw [Int.natCast_add, Int.natCast_mul] at h
    omega
  have e4 : opW .sub (.int c) (.int (((d + 1 : Nat) : Int) * ((c / (d + 1) : Nat) : Int))) = some (.int ((c % (d + 1) : Nat) : Int), false) := by rw [← e3]; rfl
  have s : xs C tk g S_lwB (i4 a b c ((d + 1 : Nat) : Int)) = SO.thn (SO.bnd (((ofO (opW .fdv (.int c) (.int ((d + 1 : Nat) : Int))) (i4 a b c ((d + 1 : Nat) : Int))).bind fun v ρ2 => l2 (opW .mul) (.slot 3) v ρ2).bind fun v ρ2 => (l2 (opW .sub) (.slot 2) v ρ2).bind fun u ρ3 => Out.ok [.slot 3, u] ρ3) fun as ρ1 => match fixA ρ1 as with
    | some (as', ρ2) => ofE (asAs [2, 3] as' ρ2)
    | none => .bad) fun ρ1 => .nx ρ1 := by
    show SO.thn (SO.bnd _ _) _ = _
    simp [ev, Out.bind, l2, res, wOf, i4]
    cases opW .fdv (.int c) (.int ((d : Int) + 1)) with
    | none => rfl
    | some q =>
      obtain ⟨q1, q2⟩ := q
      simp [ofO]
      cases opW .mul (.int ((d : Int) + 1)) q1 with
      | none => rfl
      | some q =>
        obtain ⟨q1, q2⟩ := q
        simp
        cases opW .sub (.int c) q1 <;> rfl
  rw [s, e1]
  show SO.thn (SO.bnd ((((ofO (opW .mul (.int ((d + 1 : Nat) : Int)) (.int ((c / (d + 1) : Nat) : Int))) (i4 a b c ((d + 1 : Nat) : Int)))).bind fun v ρ2 => (l2 (opW .sub) (.slot 2) v ρ2).bind fun u ρ3 => Out.ok [.slot 3, u] ρ3)) _) _ = _
  rw [e2]
  show SO.thn (SO.bnd ((ofO (opW .sub (.int c) (.int (((d + 1 : Nat) : Int) * ((c / (d + 1) : Nat) : Int)))) (i4 a b c ((d + 1 : Nat) : Int))).bind fun u ρ3 => Out.ok [.slot 3, u] ρ3) _) _ = _
  rw [e4]
  rfl

theorem lwl_loop (C : Fn) (tk : Tk) (g : Nat) (a b : Int) : ∀ (n c d : Nat), d < n → sm 9000 c = true → sm 9000 d = true → whlL (ev C (.cmp .ne (.var 3) (.con (.int 0)))).t (xs C tk g S_lwB) n (i4 a b c d) = .nx (i4 a b (Nat.gcd c d) 0)
  | 0, c, d, h, _, _ => by omega
  | n + 1, c, 0, h, _, _ => by
    rw [Nat.gcd_zero_right]; rfl
  | n + 1, c, d + 1, h, h1, h2 => by
    have e1 : whlL (ev C (.cmp .ne (.var 3) (.con (.int 0)))).t (xs C tk g S_lwB) (n + 1) (i4 a b c ((d + 1 : Nat) : Int)) =
      match xs C tk g S_lwB (i4 a b c ((d + 1 : Nat) : Int)) with
      | .nx ρ2 => whlL (ev C (.cmp .ne (.var 3) (.con (.int 0)))).t (xs C tk g S_lwB) n ρ2
      | .ct ρ2 => whlL (ev C (.cmp .ne (.var 3) (.con (.int 0)))).t (xs C tk g S_lwB) n ρ2
      | .bk ρ2 => .nx ρ2
      | o => o := rfl
    rw [e1, lwl_step C tk g a b c d h1 h2]
    have hb : c % (d + 1) < d + 1 := Nat.mod_lt c (by omega)
    show whlL _ _ n (i4 a b ((d + 1 : Nat) : Int) ((c % (d + 1) : Nat) : Int)) = _
    have eg : Nat.gcd (d + 1) (c % (d + 1)) = Nat.gcd c (d + 1) := by rw [Nat.gcd_comm c, Nat.gcd_rec (d + 1) c, Nat.gcd_comm]
    rw [lwl_loop C tk g a b n (d + 1) (c % (d + 1)) (by omega) h2 (sm_le h2 (by omega) (by decide)), eg]
theorem sm_abs {k : Nat} {a : Int} (h : sm k a = true) : sm k (a.natAbs : Int) = true := h
theorem sm_lt {k : Nat} {a : Int} (h : sm k a = true) : a.natAbs < 2 ^ k := by
  have h : a.natAbs.log2 < k := of_decide_eq_true h
  by_cases h0 : a.natAbs = 0
  · rw [h0]; exact Nat.two_pow_pos k
  · exact (Nat.log2_lt h0).mp h
theorem lwl_ok (C : Fn) (tk : Tk) (g : Nat) (a b : Int) (hb : b ≠ 0) (ha : sm 9000 a = true) (hs : sm 9000 b = true) (hg : 2 ^ 9000 ≤ g) :
    ofS FD_lwl (xs C tk g S_lwl [some (.int a, .sh), some (.int b, .sh), none, none]) = .ret (rt (low a b)) false [] := by
  obtain ⟨h1, h2⟩ := gcd_sm (a := a) hb (sm_up hs (by decide))
  have d1 : ∀ z : Int, opW .fdv (.int z) (.int (Nat.gcd a.natAbs b.natAbs)) = some (.int (z.fdiv (Nat.gcd a.natAbs b.natAbs)), false) := fun z => dvI_ok h2 h1
  have e1 : xs C tk g S_lwl [some (.int a, .sh), some (.int b, .sh), none, none] = SO.thn (whlL (ev C (.cmp .ne (.var 3) (.con (.int 0)))).t (xs C tk g S_lwB) g (i4 a b (if a < 0 then -a else a) (if b < 0 then -b else b))) fun ρ => xs C tk g (.seq (.ret (.ite (.cmp .gt (.var 1) (.con (.int 0))) (.tup (.cons (.op .fdv (.var 0) (.var 2)) (.cons (.op .fdv (.var 1) (.var 2)) .nil))) (.tup (.cons (.op .fdv (.neg (.var 0)) (.var 2)) (.cons (.op .fdv (.neg (.var 1)) (.var 2)) .nil))))) .nil) ρ := rfl
  rw [e1, absW, absW, lwl_loop C tk g a b g _ _ (by have := sm_lt hs; omega) (sm_abs ha) (sm_abs hs)]
  unfold low
  by_cases hp : 0 < b
  · have c1 : cmpW .gt (.int b) (.int 0) = some true := by show some (decide (0 < b)) = _; rw [decide_eq_true hp]
    simp [xs, ev, SO.thn, i4, wOf, l2, l1, res, ofO, bW, c1, trO, truth, d1, hp, shrs, shr, szL, retA, ofS, FD_lwl, ioE, rt]
  · have c1 : cmpW .gt (.int b) (.int 0) = some false := by show some (decide (0 < b)) = _; rw [decide_eq_false hp]
    simp [xs, ev, SO.thn, i4, wOf, l2, l1, res, ofO, bW, c1, trO, truth, d1, hp, shrs, shr, szL, retA, ofS, FD_lwl, ioE, rt]

/-- lowest by its value -/
def oR (js : List Nat) (f : Nat) (ws : List W) : Option CO := if js.contains f then (match ws with
  | [.int a, .int b] => if b ≠ 0 ∧ (sm 9000 a && sm 9000 b) = true then some (.ret (rt (low a b)) false []) else none
  | _ => none) else none
end Py

namespace Py
open PySem PySem.Spec PyProof.Rows L2
/-! ### the law's draws -/
def dV (cs : List Int) (i v sd : Int) : W := .lst [.lst (cs.map W.int), .int i, .int v, .int sd]
/-- a row of draws as it stands -/
def DW (w : W) : Prop := ∃ cs i v sd, w = dV cs i v sd ∧ -1 ≤ i ∧ 0 ≤ sd ∧ sd < 2147483647
def S_tkT : S := (.seq (.asn 2 (.op .md (.bi .int (.cons (.ix (.var 0) (.con (.int 2))) .nil)) (.var 1))) (.seq (.six 0 (.con (.int 2)) (.op .fdv (.ix (.var 0) (.con (.int 2))) (.var 1))) (.seq (.ret (.var 2)) .nil)))
def S_tk1 : S := (.seq (.six 0 (.con (.int 3)) (.op .md (.bi .int (.cons (.op .add (.op .mul (.ix (.var 0) (.con (.int 3))) (.con (.int 48271))) (.con (.int 11))) .nil)) (.con (.int 2147483647)))) (.seq (.six 0 (.con (.int 2)) (.ix (.var 0) (.con (.int 3)))) .nil))
def S_tk2 : S := (.seq (.ite (.cmp .eq (.ix (.var 0) (.con (.int 2))) (.con (.int 0))) S_tk1 .nil) .nil)
def S_tk3 : S := (.seq (.six 0 (.con (.int 1)) (.op .add (.ix (.var 0) (.con (.int 1))) (.con (.int 1)))) (.seq (.ite (.cmp .lt (.ix (.var 0) (.con (.int 1))) (.bi .len (.cons (.ix (.var 0) (.con (.int 0))) .nil))) (.seq (.six 0 (.con (.int 2)) (.ix (.ix (.var 0) (.con (.int 0))) (.ix (.var 0) (.con (.int 1))))) .nil) .nil) S_tk2))
def S_tk : S := (.seq (.ite (.cmp .eq (.ix (.var 0) (.con (.int 2))) (.con (.int 0))) S_tk3 .nil) S_tkT)
def FD_tk : FD := ⟨3, [true, false], S_tk⟩
def tE (w : W) (m : Int) : Env := [some (w, .io), some (.int m, .sh), none]
theorem ix0 (a b c d : W) : ixW (.lst [a, b, c, d]) (.int 0) = some (a, false) := rfl
theorem ix1 (a b c d : W) : ixW (.lst [a, b, c, d]) (.int 1) = some (b, false) := rfl
theorem ix2 (a b c d : W) : ixW (.lst [a, b, c, d]) (.int 2) = some (c, false) := rfl
theorem ix3 (a b c d : W) : ixW (.lst [a, b, c, d]) (.int 3) = some (d, false) := rfl
theorem put1 (a b c d v : W) : putW (.lst [a, b, c, d]) (.int 1) v = some (.lst [a, v, c, d]) := rfl
theorem put2 (a b c d v : W) : putW (.lst [a, b, c, d]) (.int 2) v = some (.lst [a, b, v, d]) := rfl
theorem put3 (a b c d v : W) : putW (.lst [a, b, c, d]) (.int 3) v = some (.lst [a, b, c, v]) := rfl
theorem md_ok {i j : Int} (h : j ≠ 0) : opW .md (.int i) (.int j) = some (.int (i.fmod j), false) := if_neg h
theorem eqI (i j : Int) : cmpW .eq (.int i) (.int j) = some (decide (i = j)) := by
  show (if eqOk (.int i) (.int j) then some (eqW (.int i) (.int j)) else none) = _
  rw [if_pos (show eqOk (.int i) (.int j) = true from rfl)]
  show some (i == j) = _
  congr 1
theorem tkT_ok (C : Fn) (tk : Tk) (g : Nat) (cs : List Int) (i v sd m : Int) (hm : 0 < m) (hs : sm 9000 m = true) : xs C tk g S_tkT (tE (dV cs i v sd) m) = .rt (.int (v.fmod m)) false [some (dV cs i (v.fdiv m) sd, .io), some (.int m, .sh), some (.int (v.fmod m), .sh)] := by
  have h1 : opW .md (.int v) (.int m) = some (.int (v.fmod m), false) := md_ok (by omega)
  have h2 : opW .fdv (.int v) (.int m) = some (.int (v.fdiv m), false) := dvI_ok (by omega) hs
  have h3 : biW .int [.int v] = some (.int v, false) := rfl
  simp [S_tkT, xs, ev, SO.thn, tE, dV, wOf, l2, lL, ress, res, ofO, h1, h2, h3, ix2, put2, ofE, asA, setN, sixE, shr, retA]
theorem tk1_ok (C : Fn) (tk : Tk) (g : Nat) (cs : List Int) (i v sd m : Int) (h0 : 0 ≤ sd) (hsd : sd < 2147483647) : ∃ sd', 0 ≤ sd' ∧ sd' < 2147483647 ∧ xs C tk g S_tk1 (tE (dV cs i v sd) m) = .nx (tE (dV cs i sd' sd') m) := by
  have h1 : opW .mul (.int sd) (.int 48271) = some (.int (sd * 48271), false) := by
    refine mul_ok (decide_eq_true ?_) (by decide)
    by_cases h : sd.natAbs = 0
    · rw [h]; decide
    · have : sd.natAbs.log2 < 31 := (Nat.log2_lt h).mpr (by omega)
      omega
  have h2 : opW .add (.int (sd * 48271)) (.int 11) = some (.int (sd * 48271 + 11), false) := rfl
  have h3 : biW .int [.int (sd * 48271 + 11)] = some (.int (sd * 48271 + 11), false) := rfl
  have h4 : opW .md (.int (sd * 48271 + 11)) (.int 2147483647) = some (.int ((sd * 48271 + 11).fmod 2147483647), false) := md_ok (by decide)
  refine ⟨(sd * 48271 + 11).fmod 2147483647, Int.fmod_nonneg_of_pos _ (by decide), Int.fmod_lt_of_pos _ (by decide), ?_⟩
  simp [S_tk1, xs, ev, SO.thn, tE, dV, wOf, l2, lL, ress, res, ofO, h1, h2, h3, h4, ix3, put2, put3, ofE, sixE, shr]
theorem tk2_ok (C : Fn) (tk : Tk) (g : Nat) (cs : List Int) (i v sd m : Int) (h0 : 0 ≤ sd) (hsd : sd < 2147483647) : ∃ v' sd', 0 ≤ sd' ∧ sd' < 2147483647 ∧ xs C tk g S_tk2 (tE (dV cs i v sd) m) = .nx (tE (dV cs i v' sd') m) := by
  obtain ⟨sd', a, b, e⟩ := tk1_ok C tk g cs i v sd m h0 hsd
  by_cases hv : v = 0
  · refine ⟨sd', sd', a, b, ?_⟩
    have h1 : cmpW .eq (.int v) (.int 0) = some true := by rw [eqI, decide_eq_true hv]
    have h2 : (ev C (.cmp .eq (.ix (.var 0) (.con (.int 2))) (.con (.int 0)))).t (tE (dV cs i v sd) m) = .ok true (tE (dV cs i v sd) m) := by
      simp [ev, tE, dV, wOf, l2, res, ofO, bW, h1, ix2, trO, truth]
    show SO.thn (SO.bnd ((ev C (.cmp .eq (.ix (.var 0) (.con (.int 2))) (.con (.int 0)))).t (tE (dV cs i v sd) m)) fun k ρ1 => if k then xs C tk g S_tk1 ρ1 else .nx ρ1) (fun ρ => .nx ρ) = _
    rw [h2]
    simp [SO.thn, e]
  · refine ⟨v, sd, h0, hsd, ?_⟩
    have h1 : cmpW .eq (.int v) (.int 0) = some false := by rw [eqI, decide_eq_false hv]
    have h2 : (ev C (.cmp .eq (.ix (.var 0) (.con (.int 2))) (.con (.int 0)))).t (tE (dV cs i v sd) m) = .ok false (tE (dV cs i v sd) m) := by
      simp [ev, tE, dV, wOf, l2, res, ofO, bW, h1, ix2, trO, truth]
    show SO.thn (SO.bnd ((ev C (.cmp .eq (.ix (.var 0) (.con (.int 2))) (.con (.int 0)))).t (tE (dV cs i v sd) m)) fun k ρ1 => if k then xs C tk g S_tk1 ρ1 else .nx ρ1) (fun ρ => .nx ρ) = _
    rw [h2]
    simp [SO.thn]
theorem at_map {cs : List Int} {j : Int} (h0 : 0 ≤ j) (h : j < cs.length) : ∃ z, ixW (.lst (cs.map W.int)) (.int j) = some (.int z, false) := by
  have e : L2.ixN (cs.map W.int).length j = some j.toNat := by
    unfold L2.ixN
    rw [List.length_map]
    split <;> rename_i q <;> first | rfl | (split <;> first | rfl | omega) | omega
  refine ⟨cs[j.toNat]'(by omega), ?_⟩
  show (L2.atI (cs.map W.int) j).map _ = _
  unfold L2.atI
  rw [e]
  simp
theorem tk3_ok (C : Fn) (tk : Tk) (g : Nat) (cs : List Int) (i v sd m : Int) (hi : -1 ≤ i) (h0 : 0 ≤ sd) (hsd : sd < 2147483647) : ∃ i' v' sd', -1 ≤ i' ∧ 0 ≤ sd' ∧ sd' < 2147483647 ∧ xs C tk g S_tk3 (tE (dV cs i v sd) m) = .nx (tE (dV cs i' v' sd') m) := by
  have a1 : opW .add (.int i) (.int 1) = some (.int (i + 1), false) := rfl
  have l1 : biW .len [.lst (cs.map W.int)] = some (.int cs.length, false) := by
    show some (W.int ((cs.map W.int).length : Nat), false) = _
    rw [List.length_map]
  by_cases hc : i + 1 < cs.length
  · have c1 : cmpW .lt (.int (i + 1)) (.int cs.length) = some true := by
      show some (decide _) = _; rw [decide_eq_true hc]
    obtain ⟨z, hz⟩ := at_map (cs := cs) (j := i + 1) (by omega) hc
    obtain ⟨v', sd', b1, b2, e⟩ := tk2_ok C tk g cs (i + 1) z sd m h0 hsd
    refine ⟨i + 1, v', sd', by omega, b1, b2, ?_⟩
    rw [← e]
    simp [S_tk3, xs, ev, SO.thn, tE, dV, wOf, l2, l1, lL, ress, res, ofO, a1, ix0, ix1, put1, put2, hz, c1, bW, trO, truth, ofE, sixE, shr]
  · have c1 : cmpW .lt (.int (i + 1)) (.int cs.length) = some false := by
      show some (decide _) = _; rw [decide_eq_false hc]
    obtain ⟨v', sd', b1, b2, e⟩ := tk2_ok C tk g cs (i + 1) v sd m h0 hsd
    refine ⟨i + 1, v', sd', by omega, b1, b2, ?_⟩
    rw [← e]
    simp [S_tk3, xs, ev, SO.thn, tE, dV, wOf, l2, l1, lL, ress, res, ofO, a1, ix0, ix1, put1, put2, c1, bW, trO, truth, ofE, sixE, shr]
theorem tk_ok (C : Fn) (tk : Tk) (g : Nat) {w : W} (hw : DW w) {m : Int} (hm : 0 < m) (hs : sm 9000 m = true) : ∃ r w', 0 ≤ r ∧ r < m ∧ DW w' ∧ ofS FD_tk (xs C tk g S_tk (tE w m)) = .ret (.int r) false [w'] := by
  obtain ⟨cs, i, v, sd, rfl, hi, h0, hsd⟩ := hw
  have fin : ∀ i v sd, -1 ≤ i → 0 ≤ sd → sd < 2147483647 → (xs C tk g S_tk (tE (dV cs i v sd) m) = xs C tk g S_tk (tE (dV cs i v sd) m)) → ∃ r w', 0 ≤ r ∧ r < m ∧ DW w' ∧ ofS FD_tk (xs C tk g S_tkT (tE (dV cs i v sd) m)) = .ret (.int r) false [w'] := fun i v sd a b c _ => by
    refine ⟨v.fmod m, dV cs i (v.fdiv m) sd, Int.fmod_nonneg_of_pos _ hm, Int.fmod_lt_of_pos _ hm, ⟨cs, i, _, sd, rfl, a, b, c⟩, ?_⟩
    rw [tkT_ok C tk g cs i v sd m hm hs]
    rfl
  by_cases hv : v = 0
  · have h1 : cmpW .eq (.int v) (.int 0) = some true := by rw [eqI, decide_eq_true hv]
    have h2 : (ev C (.cmp .eq (.ix (.var 0) (.con (.int 2))) (.con (.int 0)))).t (tE (dV cs i v sd) m) = .ok true (tE (dV cs i v sd) m) := by
      simp [ev, tE, dV, wOf, l2, res, ofO, bW, h1, ix2, trO, truth]
    obtain ⟨i', v', sd', b1, b2, b3, e⟩ := tk3_ok C tk g cs i v sd m hi h0 hsd
    have : xs C tk g S_tk (tE (dV cs i v sd) m) = xs C tk g S_tkT (tE (dV cs i' v' sd') m) := by
      show SO.thn (SO.bnd ((ev C (.cmp .eq (.ix (.var 0) (.con (.int 2))) (.con (.int 0)))).t (tE (dV cs i v sd) m)) fun k ρ1 => if k then xs C tk g S_tk3 ρ1 else .nx ρ1) (fun ρ => xs C tk g S_tkT ρ) = _
      rw [h2]
      simp [SO.thn, e]
    rw [this]
    exact fin i' v' sd' b1 b2 b3 rfl
  · have h1 : cmpW .eq (.int v) (.int 0) = some false := by rw [eqI, decide_eq_false hv]
    have h2 : (ev C (.cmp .eq (.ix (.var 0) (.con (.int 2))) (.con (.int 0)))).t (tE (dV cs i v sd) m) = .ok false (tE (dV cs i v sd) m) := by
      simp [ev, tE, dV, wOf, l2, res, ofO, bW, h1, ix2, trO, truth]
    have : xs C tk g S_tk (tE (dV cs i v sd) m) = xs C tk g S_tkT (tE (dV cs i v sd) m) := by
      show SO.thn (SO.bnd ((ev C (.cmp .eq (.ix (.var 0) (.con (.int 2))) (.con (.int 0)))).t (tE (dV cs i v sd) m)) fun k ρ1 => if k then xs C tk g S_tk3 ρ1 else .nx ρ1) (fun ρ => xs C tk g S_tkT ρ) = _
      rw [h2]
      simp [SO.thn]
    rw [this]
    exact fin i v sd hi h0 hsd rfl

/-! ### the draws' start -/
def S_drB : S := (.seq (.asn 1 (.op .md (.bi .int (.cons (.op .add (.op .add (.op .mul (.var 1) (.con (.int 48271))) (.op .md (.bi .abs (.cons (.bi .int (.cons (.var 2) .nil)) .nil)) (.con (.int 65521)))) (.con (.int 1))) .nil)) (.con (.int 2147483647)))) .nil)
def E_drC : E := (.lc (.bi .abs (.cons (.bi .int (.cons (.var 2) .nil)) .nil)) (.n 2) .nil .seq (.cons (.var 0) .nil) [2])
def S_dr : S := (.seq (.asn 1 (.con (.int 7))) (.seq (.for_ (.n 2) .seq (.cons (.var 0) .nil) S_drB) (.seq (.ret (.lst (.cons E_drC (.cons (.neg (.con (.int 1))) (.cons (.con (.int 0)) (.cons (.var 1) .nil)))))) .nil)))
def FD_dr : FD := ⟨3, [false], S_dr⟩
def dE (w : W) (sd : Int) (x : Option (W × Fl)) : Env := [some (w, .sh), some (.int sd, .sh), x]
def plainS : Option (W × Fl) → Bool
  | none => true
  | some (_, .sh) => true
  | _ => false
theorem drB_ok (C : Fn) (tk : Tk) (g : Nat) (w : W) (sd z : Int) (x : Option (W × Fl)) (hx : plainS x = true) (h0 : 0 ≤ sd) (hsd : sd < 2147483647) : ∃ sd', 0 ≤ sd' ∧ sd' < 2147483647 ∧ (match asP (.n 2) (.int z) (dE w sd x) with
    | none => SO.bad
    | some ρ1 => xs C tk g S_drB ρ1) = .nx (dE w sd' (some (.int z, .sh))) := by
  have e0 : asP (.n 2) (.int z) (dE w sd x) = some (dE w sd (some (.int z, .sh))) := by
    cases x with
    | none => rfl
    | some y => obtain ⟨u, f⟩ := y; cases f <;> first | rfl | cases hx
  have h1 : opW .mul (.int sd) (.int 48271) = some (.int (sd * 48271), false) := by
    refine mul_ok (decide_eq_true ?_) (by decide)
    by_cases h : sd.natAbs = 0
    · rw [h]; decide
    · have : sd.natAbs.log2 < 31 := (Nat.log2_lt h).mpr (by omega)
      omega
  have h3 : ∀ n : Int, biW .int [.int n] = some (.int n, false) := fun _ => rfl
  have h5 : biW .abs [.int z] = some (.int (if z < 0 then -z else z), false) := rfl
  have h4 : ∀ n k : Int, k ≠ 0 → opW .md (.int n) (.int k) = some (.int (n.fmod k), false) := fun n k => md_ok
  have h2 : ∀ n k : Int, opW .add (.int n) (.int k) = some (.int (n + k), false) := fun _ _ => rfl
  refine ⟨(sd * 48271 + (if z < 0 then -z else z).fmod 65521 + 1).fmod 2147483647, Int.fmod_nonneg_of_pos _ (by decide), Int.fmod_lt_of_pos _ (by decide), ?_⟩
  rw [e0]
  simp [S_drB, xs, ev, SO.thn, dE, wOf, l2, lL, ress, res, ofO, h1, h2, h3, h4, h5, ofE, asA, setN]
theorem dr_loop (C : Fn) (tk : Tk) (g : Nat) (w : W) : ∀ (ns : List Int) (sd : Int) (x : Option (W × Fl)), plainS x = true → 0 ≤ sd → sd < 2147483647 → ∃ sd' x', plainS x' = true ∧ 0 ≤ sd' ∧ sd' < 2147483647 ∧ forL (fun w ρ => match asP (.n 2) w ρ with
    | none => SO.bad
    | some ρ1 => xs C tk g S_drB ρ1) (ns.map W.int) (dE w sd x) = .nx (dE w sd' x')
  | [], sd, x, hx, h0, h1 => ⟨sd, x, hx, h0, h1, rfl⟩
  | z :: ns, sd, x, hx, h0, h1 => by
    obtain ⟨sd1, a, b, e⟩ := drB_ok C tk g w sd z x hx h0 h1
    obtain ⟨sd2, x2, c1, c2, c3, e2⟩ := dr_loop C tk g w ns sd1 (some (.int z, .sh)) rfl a b
    refine ⟨sd2, x2, c1, c2, c3, ?_⟩
    rw [← e2]
    simp only [List.map_cons, forL]
    rw [e]
theorem dr_comp (C : Fn) (w : W) (sd : Int) : ∀ (ns : List Int) (acc : List W) (x : Option (W × Fl)), ∃ x', lcL (stepE [2] (.n 2) (ev C .nil).t (ev C (.bi .abs (.cons (.bi .int (.cons (.var 2) .nil)) .nil))).x) (ns.map W.int) acc (dE w sd x) = .ok (acc ++ (ns.map fun z => if z < 0 then -z else z).map W.int) (dE w sd x')
  | [], acc, x => ⟨x, by simp [lcL]⟩
  | z :: ns, acc, x => by
    have e : stepE [2] (.n 2) (ev C .nil).t (ev C (.bi .abs (.cons (.bi .int (.cons (.var 2) .nil)) .nil))).x (.int z) (dE w sd x) = .ok (some (.int (if z < 0 then -z else z))) (dE w sd (some (.int z, .sh))) := rfl
    obtain ⟨x', e2⟩ := dr_comp C w sd ns (acc ++ [.int (if z < 0 then -z else z)]) (some (.int z, .sh))
    refine ⟨x', ?_⟩
    simp only [List.map_cons, lcL, e]
    rw [e2]
    simp
theorem dr_ok (C : Fn) (tk : Tk) (g : Nat) {ns : List Int} (hz : ns.length ≤ 63) : ∃ w, DW w ∧ ofS FD_dr (xs C tk g S_dr [some (.lst (ns.map W.int), .sh), none, none]) = .ret w true [] := by
  obtain ⟨sd, x, hx, h0, h1, e⟩ := dr_loop C tk g (.lst (ns.map W.int)) ns 7 none rfl (by decide) (by decide)
  obtain ⟨x', e2⟩ := dr_comp C (.lst (ns.map W.int)) sd ns [] x
  have hl : (ns.map W.int).length ≤ szL := by rw [List.length_map]; exact Nat.le_trans hz (by decide)
  have e3 : xs C tk g S_dr [some (.lst (ns.map W.int), .sh), none, none] = SO.thn ((forL (fun w ρ => match asP (.n 2) w ρ with
    | none => SO.bad
    | some ρ1 => xs C tk g S_drB ρ1) (ns.map W.int) (dE (.lst (ns.map W.int)) 7 none)).mapE fun ρ => ρ) fun ρ => xs C tk g (.seq (.ret (.lst (.cons E_drC (.cons (.neg (.con (.int 1))) (.cons (.con (.int 0)) (.cons (.var 1) .nil)))))) .nil) ρ := rfl
  have e4 : (ev C E_drC).x (dE (.lst (ns.map W.int)) sd x) = .ok (.val (.lst ((ns.map fun z => if z < 0 then -z else z).map W.int)) true) (dE (.lst (ns.map W.int)) sd x) := by
    show (match lcL (stepE [2] (.n 2) (ev C .nil).t (ev C (.bi .abs (.cons (.bi .int (.cons (.var 2) .nil)) .nil))).x) (ns.map W.int) [] (dE (.lst (ns.map W.int)) sd x) with
        | .ok acc ρ3 => if (ns.map W.int).length ≤ szL then Out.ok (Arg.val (.lst acc) true) (ulE (dE (.lst (ns.map W.int)) sd x) (rsE (dE (.lst (ns.map W.int)) sd x) ρ3 [2]) [.slot 0]) else .bad
        | _ => .bad) = _
    rw [e2]
    simp only [if_pos hl]
    rfl
  refine ⟨dV (ns.map fun z => if z < 0 then -z else z) (-1) 0 sd, ⟨_, -1, 0, sd, rfl, by decide, h0, h1⟩, ?_⟩
  rw [e3, e]
  show ofS FD_dr (SO.thn (SO.bnd ((((ev C E_drC).x (dE (.lst (ns.map W.int)) sd x)).bind fun u ρ1 => ((ev C (.cons (.neg (.con (.int 1))) (.cons (.con (.int 0)) (.cons (.var 1) .nil)))).a ρ1).bind fun us ρ2 => Out.ok (u :: us) ρ2).bind fun us ρ1 => match shrs ρ1 us with
      | some (ws, ρ2) => if ws.length ≤ szL then .ok (.val (.lst ws) true) ρ2 else .bad
      | none => .bad) fun a ρ1 => retA a ρ1) fun ρ => .nx ρ) = _
  rw [e4]
  rfl
end Py

namespace Py
open PySem PySem.Spec PyProof.Rows L2
/-! ### sums of ratios -/
def S_pl (jl : Nat) : S := (.seq (.ret (.call jl [false, false] (.cons (.op .add (.op .mul (.ix (.var 0) (.con (.int 0))) (.ix (.var 1) (.con (.int 1)))) (.op .mul (.ix (.var 1) (.con (.int 0))) (.ix (.var 0) (.con (.int 1))))) (.cons (.op .mul (.ix (.var 0) (.con (.int 1))) (.ix (.var 1) (.con (.int 1)))) .nil)))) .nil)
def FD_pl (jl : Nat) : FD := ⟨2, [false, false], S_pl jl⟩
def rpl (p q : Int × Int) : Int × Int := low (p.1 * q.2 + q.1 * p.2) (p.2 * q.2)
def gR (p : Int × Int) : Bool := sm 4490 p.1 && (sm 4490 p.2 && !(p.2 == 0))
theorem gR_ok {p : Int × Int} (h : gR p = true) : sm 4490 p.1 = true ∧ sm 4490 p.2 = true ∧ p.2 ≠ 0 := by
  obtain ⟨a, b⟩ := Bool.and_eq_true_iff.mp h
  obtain ⟨b, c⟩ := Bool.and_eq_true_iff.mp b
  refine ⟨a, b, fun e => ?_⟩
  rw [e] at c; cases c
theorem sm_of_lt {k : Nat} {i : Int} (h : i.natAbs < 2 ^ k) (hk : 0 < k) : sm k i = true := by
  refine decide_eq_true ?_
  by_cases h0 : i.natAbs = 0
  · rw [h0]; simpa using hk
  · exact (Nat.log2_lt h0).mpr h
theorem sm_mul {k m : Nat} {i j : Int} (h : sm k i = true) (h' : sm m j = true) : (i * j).natAbs < 2 ^ (k + m) := by
  rw [Int.natAbs_mul, Nat.pow_add]
  exact Nat.mul_lt_mul'' (sm_lt h) (sm_lt h')
theorem ixT0 (a b : W) : ixW (.tup [a, b]) (.int 0) = some (a, false) := rfl
theorem ixT1 (a b : W) : ixW (.tup [a, b]) (.int 1) = some (b, false) := rfl
theorem addI (i j : Int) : opW .add (.int i) (.int j) = some (.int (i + j), false) := rfl
theorem pl_ok (C : Fn) (tk : Tk) (g jl : Nat) (p q : Int × Int) (hp : gR p = true) (hq : gR q = true) (hC : C jl [.int (p.1 * q.2 + q.1 * p.2), .int (p.2 * q.2)] = .ret (rt (rpl p q)) false []) : ofS (FD_pl jl) (xs C tk g (S_pl jl) [some (rt p, .sh), some (rt q, .sh)]) = .ret (rt (rpl p q)) false [] := by
  obtain ⟨a1, a2, a3⟩ := gR_ok hp
  obtain ⟨b1, b2, b3⟩ := gR_ok hq
  have m1 : opW .mul (.int p.1) (.int q.2) = some (.int (p.1 * q.2), false) := mul_ok (sm_up a1 (by decide)) (sm_up b2 (by decide))
  have m2 : opW .mul (.int q.1) (.int p.2) = some (.int (q.1 * p.2), false) := mul_ok (sm_up b1 (by decide)) (sm_up a2 (by decide))
  have m3 : opW .mul (.int p.2) (.int q.2) = some (.int (p.2 * q.2), false) := mul_ok (sm_up a2 (by decide)) (sm_up b2 (by decide))
  simp [S_pl, xs, ev, SO.thn, rt, wOf, l2, res, ofO, ixT0, ixT1, m1, m2, m3, addI, callW, shM, shr, ioW, ioB, retA, ofS, FD_pl, ioE]
  rw [hC]
  rfl
theorem rpl_g {p q : Int × Int} (hp : gR p = true) (hq : gR q = true) : p.2 * q.2 ≠ 0 ∧ sm 9000 (p.1 * q.2 + q.1 * p.2) = true ∧ sm 9000 (p.2 * q.2) = true := by
  obtain ⟨a1, a2, a3⟩ := gR_ok hp
  obtain ⟨b1, b2, b3⟩ := gR_ok hq
  refine ⟨Int.mul_ne_zero a3 b3, sm_of_lt ?_ (by decide), sm_of_lt ?_ (by decide)⟩
  · have h1 := sm_mul a1 b2
    have h2 := sm_mul b1 a2
    have h3 := Int.natAbs_add_le (p.1 * q.2) (q.1 * p.2)
    have h4 : (2 : Nat) ^ (4490 + 4490) + 2 ^ (4490 + 4490) ≤ 2 ^ 9000 := by decide +kernel
    omega
  · have h1 := sm_mul a2 b2
    exact Nat.lt_of_lt_of_le h1 (by decide +kernel)
/-- lowest, plus at their places -/
structure RL (fs : List FD) (g jl jp : Nat) (d : Nat) (tk : Tk) : Prop where
  lw : ∀ e a b, d ≤ e → b ≠ 0 → sm 9000 a = true → sm 9000 b = true → run fs tk g (e + 1) jl [.int a, .int b] = .ret (rt (low a b)) false []
  pl : fs[jp]? = some (FD_pl jl)
theorem RL.plus {fs : List FD} {g jl jp d : Nat} {tk : Tk} (R : RL fs g jl jp d tk) {e : Nat} (he : d + 1 ≤ e) {p q : Int × Int} (hp : gR p = true) (hq : gR q = true) : run fs tk g (e + 1) jp [rt p, rt q] = .ret (rt (rpl p q)) false [] := by
  obtain ⟨k, rfl⟩ : ∃ k, e = k + 1 := ⟨e - 1, by omega⟩
  rw [run_at R.pl rfl]
  obtain ⟨h1, h2, h3⟩ := rpl_g hp hq
  exact pl_ok _ _ _ _ p q hp hq (R.lw k _ _ (by omega) h1 h2 h3)
/-! ### a whole row's -/
def sumR : Int × Int → List (Int × Int) → Int × Int
  | a, [] => a
  | a, p :: r => sumR (rpl a p) r
def sumG : Int × Int → List (Int × Int) → Bool
  | a, [] => true
  | a, p :: r => gR a && (gR p && sumG (rpl a p) r)
def S_sb (jp : Nat) : S := (.seq (.asn 1 (.call jp [false, false] (.cons (.var 1) (.cons (.var 2) .nil)))) .nil)
def S_sr (jp : Nat) (z : E) : S := (.seq (.asn 1 z) (.seq (.for_ (.n 2) .seq (.cons (.var 0) .nil) (S_sb jp)) (.seq (.ret (.var 1)) .nil)))
def FD_sr (jp : Nat) (z : E) : FD := ⟨3, [false], S_sr jp z⟩
theorem sr_loop (C : Fn) (tk : Tk) (g jp : Nat) (w : W) (hC : ∀ p q, gR p = true → gR q = true → C jp [rt p, rt q] = .ret (rt (rpl p q)) false []) : ∀ (l : List (Int × Int)) (a : Int × Int) (x : Option (W × Fl)), plainS x = true → sumG a l = true → ∃ x', forL (fun w ρ => match asP (.n 2) w ρ with
    | none => SO.bad
    | some ρ1 => xs C tk g (S_sb jp) ρ1) (l.map rt) [some (w, .sh), some (rt a, .sh), x] = .nx [some (w, .sh), some (rt (sumR a l), .sh), x']
  | [], a, x, _, _ => ⟨x, rfl⟩
  | p :: l, a, x, hx, hg => by
    obtain ⟨g1, g2⟩ := Bool.and_eq_true_iff.mp hg
    obtain ⟨g2, g3⟩ := Bool.and_eq_true_iff.mp g2
    obtain ⟨x', e⟩ := sr_loop C tk g jp w hC l (rpl a p) (some (rt p, .sh)) rfl g3
    refine ⟨x', ?_⟩
    have e0 : asP (.n 2) (rt p) [some (w, .sh), some (rt a, .sh), x] = some [some (w, .sh), some (rt a, .sh), some (rt p, .sh)] := by
      cases x with
      | none => rfl
      | some y => obtain ⟨u, f⟩ := y; cases f <;> first | rfl | cases hx
    have e1 : xs C tk g (S_sb jp) [some (w, .sh), some (rt a, .sh), some (rt p, .sh)] = .nx [some (w, .sh), some (rt (rpl a p), .sh), some (rt p, .sh)] := by
      have h := hC a p g1 g2
      show SO.thn (SO.bnd (match C jp [rt a, rt p] with
        | .bad => Out.bad
        | .ret w' fr ios => match ioB [some (w, .sh), some (rt a, .sh), some (rt p, .sh)] [false, false] [.slot 1, .slot 2] ios with
          | some ρ2 => .ok (.val w' fr) ρ2
          | none => .bad
        | .ex x p' ios => match ioB [some (w, .sh), some (rt a, .sh), some (rt p, .sh)] [false, false] [.slot 1, .slot 2] ios with
          | some ρ2 => .ex x p' ρ2
          | none => .bad) fun a ρ1 => ofE (asA 1 a ρ1)) (fun ρ => .nx ρ) = _
      rw [h]; rfl
    simp only [List.map_cons, forL, e0, e1]
    exact e
theorem sr_ok (C : Fn) (tk : Tk) (g jp : Nat) (z : E) (l : List (Int × Int)) (hz : ∀ ρ, (ev C z).x ρ = .ok (.val (rt (0, 1)) false) ρ) (hg : sumG (0, 1) l = true) (hC : ∀ p q, gR p = true → gR q = true → C jp [rt p, rt q] = .ret (rt (rpl p q)) false []) :
    ofS (FD_sr jp z) (xs C tk g (S_sr jp z) [some (.lst (l.map rt), .sh), none, none]) = .ret (rt (sumR (0, 1) l)) false [] := by
  obtain ⟨x', e⟩ := sr_loop C tk g jp (.lst (l.map rt)) hC l (0, 1) none rfl hg
  show ofS (FD_sr jp z) (SO.thn (SO.bnd ((ev C z).x [some (.lst (l.map rt), .sh), none, none]) fun a ρ1 => ofE (asA 1 a ρ1)) fun ρ1 => xs C tk g (.seq (.for_ (.n 2) .seq (.cons (.var 0) .nil) (S_sb jp)) (.seq (.ret (.var 1)) .nil)) ρ1) = _
  rw [hz]
  show ofS (FD_sr jp z) (SO.thn ((forL (fun w ρ => match asP (.n 2) w ρ with
    | none => SO.bad
    | some ρ1 => xs C tk g (S_sb jp) ρ1) (l.map rt) [some (.lst (l.map rt), .sh), some (rt (0, 1), .sh), none]).mapE fun ρ => ρ) fun ρ => xs C tk g (.seq (.ret (.var 1)) .nil) ρ) = _
  rw [e]
  rfl
/-- a row of ratios -/
def toR : W → Option (Int × Int)
  | .tup [.int a, .int b] => some (a, b)
  | _ => none
def toRs : List W → Option (List (Int × Int))
  | [] => some []
  | w :: r => match toR w, toRs r with
    | some p, some l => some (p :: l)
    | _, _ => none
theorem toR_ok {w : W} {p : Int × Int} (h : toR w = some p) : w = rt p := by
  unfold toR at h
  split at h
  · cases h; rfl
  · cases h
theorem toRs_ok : ∀ {ws : List W} {l : List (Int × Int)}, toRs ws = some l → ws = l.map rt
  | [], l, h => by cases h; rfl
  | w :: r, l, h => by
    simp only [toRs] at h
    split at h
    · rename_i p l' e1 e2
      cases h
      rw [toR_ok e1, toRs_ok e2]; rfl
    · cases h
end Py

namespace Py
open PySem PySem.Spec PyProof.Rows L2
def sumO : Int × Int → List (Int × Int) → Option (Int × Int)
  | a, [] => some a
  | a, p :: r => if (gR a && gR p) = true then sumO (rpl a p) r else none
theorem sumO_ok : ∀ {l : List (Int × Int)} {a r : Int × Int}, sumO a l = some r → sumG a l = true ∧ sumR a l = r
  | [], a, r, h => by cases h; exact ⟨rfl, rfl⟩
  | p :: l, a, r, h => by
    simp only [sumO] at h
    split at h
    · rename_i q
      obtain ⟨q1, q2⟩ := Bool.and_eq_true_iff.mp q
      obtain ⟨h1, h2⟩ := sumO_ok h
      exact ⟨by simp only [sumG, q1, q2, h1, Bool.and_self], h2⟩
    · cases h
/-- lowest, plus, sum by their values -/
def oQ (jl jp js : List Nat) (f : Nat) (ws : List W) : Option CO :=
  if jl.contains f then oR jl f ws
  else if jp.contains f then (match ws with
    | [u, v] => match toR u, toR v with
      | some p, some q => if (gR p && gR q) = true then some (.ret (rt (rpl p q)) false []) else none
      | _, _ => none
    | _ => none)
  else if js.contains f then (match ws with
    | [.lst us] => match toRs us with
      | some l => match sumO (0, 1) l with
        | some r => some (.ret (rt r) false [])
        | none => none
      | none => none
    | _ => none)
  else none
theorem oR_inv {js : List Nat} {f : Nat} {ws : List W} {r : CO} (h : oR js f ws = some r) : ∃ a b, ws = [.int a, .int b] ∧ b ≠ 0 ∧ sm 9000 a = true ∧ sm 9000 b = true ∧ r = .ret (rt (low a b)) false [] ∧ f ∈ js := by
  unfold oR at h
  split at h
  · rename_i hf
    split at h
    · rename_i a b
      split at h
      · rename_i q
        obtain ⟨h1, h2⟩ := Bool.and_eq_true_iff.mp q.2
        exact ⟨a, b, rfl, q.1, h1, h2, (Option.some.inj h).symm, List.contains_iff_mem.mp hf⟩
      · cases h
    · cases h
  · cases h
theorem oQ_inv {jl jp js : List Nat} {f : Nat} {ws : List W} {r : CO} (h : oQ jl jp js f ws = some r) :
    (∃ a b, ws = [.int a, .int b] ∧ b ≠ 0 ∧ sm 9000 a = true ∧ sm 9000 b = true ∧ r = .ret (rt (low a b)) false [] ∧ f ∈ jl) ∨
    (∃ p q, ws = [rt p, rt q] ∧ gR p = true ∧ gR q = true ∧ r = .ret (rt (rpl p q)) false [] ∧ f ∈ jp) ∨
    ∃ l, ws = [.lst (l.map rt)] ∧ sumG (0, 1) l = true ∧ r = .ret (rt (sumR (0, 1) l)) false [] ∧ f ∈ js := by
  unfold oQ at h
  split at h
  · exact .inl (oR_inv h)
  · split at h
    · rename_i hf
      split at h
      · rename_i u v
        split at h
        · rename_i p q e1 e2
          split at h
          · rename_i k
            obtain ⟨k1, k2⟩ := Bool.and_eq_true_iff.mp k
            exact .inr (.inl ⟨p, q, by rw [toR_ok e1, toR_ok e2], k1, k2, (Option.some.inj h).symm, List.contains_iff_mem.mp hf⟩)
          · cases h
        · cases h
      · cases h
    · split at h
      · rename_i hf
        split at h
        · rename_i us
          split at h
          · rename_i l e1
            split at h
            · rename_i r' e2
              obtain ⟨k1, k2⟩ := sumO_ok e2
              exact .inr (.inr ⟨l, by rw [toRs_ok e1], k1, by rw [k2]; exact (Option.some.inj h).symm, List.contains_iff_mem.mp hf⟩)
            · cases h
          · cases h
        · cases h
      · cases h
/-- such a def, where it stands -/
inductive RD (fs : List FD) : Nat → Nat → Nat → Prop
  | lw {jc jl : Nat} : fs[jc]? = some FD_cm → fs[jl]? = some (FD_lw jc) → RD fs 0 jl 0
  | lwl {jl : Nat} : fs[jl]? = some FD_lwl → RD fs 0 jl 0
  | pl {jl jp : Nat} : RD fs 0 jl 0 → fs[jp]? = some (FD_pl jl) → RD fs 1 jp 0
  | sr {jp js : Nat} {z : E} : RD fs 1 jp 0 → (∀ C ρ, (ev C z).x ρ = .ok (.val (rt (0, 1)) false) ρ) → fs[js]? = some (FD_sr jp z) → RD fs 2 js 0
theorem RD.low {fs : List FD} {tk : Tk} {g jl : Nat} (hg : 2 ^ 9000 ≤ g) (h : RD fs 0 jl 0) {d : Nat} {a b : Int} (hb : b ≠ 0) (h1 : sm 9000 a = true) (h2 : sm 9000 b = true) : run fs tk g (d + 2) jl [.int a, .int b] = .ret (rt (low a b)) false [] := by
  cases h with
  | lw e1 e2 =>
    rw [run_at e2 rfl]
    refine lw_ok _ _ _ _ a b hb h1 h2 ?_
    rw [run_at e1 rfl]
    exact cm_ok _ _ _ a b (Nat.lt_of_lt_of_le (sm_lt h2) hg)
  | lwl e =>
    rw [run_at e rfl]
    exact lwl_ok _ _ _ a b hb h1 h2 hg
theorem RD.plus {fs : List FD} {tk : Tk} {g jp : Nat} (hg : 2 ^ 9000 ≤ g) (h : RD fs 1 jp 0) {d : Nat} {p q : Int × Int} (hp : gR p = true) (hq : gR q = true) : run fs tk g (d + 3) jp [rt p, rt q] = .ret (rt (rpl p q)) false [] := by
  cases h with
  | pl e1 e2 =>
    rw [run_at e2 rfl]
    obtain ⟨h1, h2, h3⟩ := rpl_g hp hq
    exact pl_ok _ _ _ _ p q hp hq (e1.low hg h1 h2 h3)
theorem RD.sum {fs : List FD} {tk : Tk} {g js : Nat} (hg : 2 ^ 9000 ≤ g) (h : RD fs 2 js 0) {d : Nat} {l : List (Int × Int)} (hl : sumG (0, 1) l = true) : run fs tk g (d + 4) js [.lst (l.map rt)] = .ret (rt (sumR (0, 1) l)) false [] := by
  cases h with
  | sr e1 hz e2 =>
    rw [run_at e2 rfl]
    exact sr_ok _ _ _ _ _ l (fun ρ => hz _ ρ) hl fun p q hp hq => e1.plus hg hp hq
theorem oQ_ok {fs : List FD} {tk : Tk} {g : Nat} {jl jp js : List Nat} (hg : 2 ^ 9000 ≤ g) (hl : ∀ j ∈ jl, RD fs 0 j 0) (hp : ∀ j ∈ jp, RD fs 1 j 0) (hs : ∀ j ∈ js, RD fs 2 j 0) (d f : Nat) (ws : List W) (r : CO) (h : oQ jl jp js f ws = some r) : run fs tk g (5 + d + 1) f ws = r := by
  rcases oQ_inv h with ⟨a, b, rfl, hb, h1, h2, rfl, hf⟩ | ⟨p, q, rfl, h1, h2, rfl, hf⟩ | ⟨l, rfl, h1, rfl, hf⟩
  · rw [show 5 + d + 1 = (d + 4) + 2 by omega]; exact (hl f hf).low hg hb h1 h2
  · rw [show 5 + d + 1 = (d + 3) + 3 by omega]; exact (hp f hf).plus hg h1 h2
  · rw [show 5 + d + 1 = (d + 2) + 4 by omega]; exact (hs f hf).sum hg h1
end Py

namespace Py
open PySem PySem.Spec PyProof.Rows L2
/-! ### ratios as numbers -/
def rmi (p q : Int × Int) : Int × Int := low (p.1 * q.2 - q.1 * p.2) (p.2 * q.2)
def rtm (p q : Int × Int) : Int × Int := low (p.1 * q.1) (p.2 * q.2)
def rdv (p q : Int × Int) : Int × Int := low (p.1 * q.2) (p.2 * q.1)
def rls (p q : Int × Int) : Bool := decide (p.1 * q.2 < q.1 * p.2)
/-- in lowest terms by what -/
theorem low_by (a b : Int) (hb : b ≠ 0) : ∃ g a' b' : Int, 0 < g ∧ a = g * a' ∧ b = g * b' ∧ ((0 < b ∧ 0 < b' ∧ low a b = (a', b')) ∨ (b < 0 ∧ b' < 0 ∧ low a b = (-a', -b'))) := by
  have hg : 0 < Nat.gcd a.natAbs b.natAbs := Nat.gcd_pos_of_pos_right _ (by omega)
  have h1 : ((Nat.gcd a.natAbs b.natAbs : Nat) : Int) ∣ a := Int.ofNat_dvd_left.2 (Nat.gcd_dvd_left _ _)
  have h2 : ((Nat.gcd a.natAbs b.natAbs : Nat) : Int) ∣ b := Int.ofNat_dvd_left.2 (Nat.gcd_dvd_right _ _)
  obtain ⟨a', ha'⟩ := h1
  obtain ⟨b', hb'⟩ := h2
  have hgi : (0 : Int) < ((Nat.gcd a.natAbs b.natAbs : Nat) : Int) := by omega
  have dv : ∀ x : Int, Int.fdiv (((Nat.gcd a.natAbs b.natAbs : Nat) : Int) * x) ((Nat.gcd a.natAbs b.natAbs : Nat) : Int) = x := fun x => by
    rw [Int.mul_comm, Int.mul_fdiv_cancel _ (by omega)]
  have ea : Int.fdiv a ((Nat.gcd a.natAbs b.natAbs : Nat) : Int) = a' := (congrArg (fun t => Int.fdiv t ((Nat.gcd a.natAbs b.natAbs : Nat) : Int)) ha').trans (dv a')
  have eb : Int.fdiv b ((Nat.gcd a.natAbs b.natAbs : Nat) : Int) = b' := (congrArg (fun t => Int.fdiv t ((Nat.gcd a.natAbs b.natAbs : Nat) : Int)) hb').trans (dv b')
  have na : Int.fdiv (-a) ((Nat.gcd a.natAbs b.natAbs : Nat) : Int) = -a' := (congrArg (fun t => Int.fdiv (-t) ((Nat.gcd a.natAbs b.natAbs : Nat) : Int)) ha').trans (by rw [← Int.mul_neg]; exact dv _)
  have nb : Int.fdiv (-b) ((Nat.gcd a.natAbs b.natAbs : Nat) : Int) = -b' := (congrArg (fun t => Int.fdiv (-t) ((Nat.gcd a.natAbs b.natAbs : Nat) : Int)) hb').trans (by rw [← Int.mul_neg]; exact dv _)
  refine ⟨_, a', b', hgi, ha', hb', ?_⟩
  unfold low
  by_cases hp : 0 < b
  · refine .inl ⟨hp, ?_, ?_⟩
    · refine Int.pos_of_mul_pos_right ?_ hgi
      exact hb' ▸ hp
    · rw [if_pos hp, ea, eb]
  · have hn : b < 0 := by omega
    refine .inr ⟨hn, ?_, ?_⟩
    · by_cases h0 : b' < 0
      · exact h0
      · have := Int.mul_nonneg (Int.le_of_lt hgi) (show 0 ≤ b' by omega)
        rw [← hb'] at this; omega
    · rw [if_neg hp, na, nb]

/-- at most so many bits, a positive denominator -/
def bd (k : Nat) (p : Int × Int) : Prop := p.1.natAbs < 2 ^ k ∧ 0 < p.2 ∧ p.2.natAbs < 2 ^ k
theorem natAbs_le_mul {g x : Int} (h : 0 < g) : x.natAbs ≤ (g * x).natAbs := by
  rw [Int.natAbs_mul]
  exact Nat.le_mul_of_pos_left _ (by omega)
theorem low_bd {k : Nat} {a b : Int} (hb : b ≠ 0) (h1 : a.natAbs < 2 ^ k) (h2 : b.natAbs < 2 ^ k) : bd k (low a b) := by
  obtain ⟨g, a', b', hg, rfl, rfl, ⟨_, h3, e⟩ | ⟨_, h3, e⟩⟩ := low_by a b hb
  · rw [e]
    exact ⟨Nat.lt_of_le_of_lt (natAbs_le_mul hg) h1, h3, Nat.lt_of_le_of_lt (natAbs_le_mul hg) h2⟩
  · rw [e]
    have h4 : (-a').natAbs = a'.natAbs := Int.natAbs_neg a'
    have h5 : (-b').natAbs = b'.natAbs := Int.natAbs_neg b'
    refine ⟨?_, show 0 < -b' by omega, ?_⟩
    · show (-a').natAbs < _
      rw [h4]; exact Nat.lt_of_le_of_lt (natAbs_le_mul hg) h1
    · show (-b').natAbs < _
      rw [h5]; exact Nat.lt_of_le_of_lt (natAbs_le_mul hg) h2
theorem bd.up {k m : Nat} {p : Int × Int} (h : bd k p) (hk : k ≤ m) : bd m p := by
  have := Nat.pow_le_pow_right (n := 2) (by decide) hk
  exact ⟨Nat.lt_of_lt_of_le h.1 this, h.2.1, Nat.lt_of_lt_of_le h.2.2 this⟩
theorem mul_lt2 {k m : Nat} {i j : Int} (h : i.natAbs < 2 ^ k) (h' : j.natAbs < 2 ^ m) : (i * j).natAbs < 2 ^ (k + m) := by
  rw [Int.natAbs_mul, Nat.pow_add]
  exact Nat.mul_lt_mul'' h h'
theorem rpl_bd {k m : Nat} {p q : Int × Int} (hp : bd k p) (hq : bd m q) : bd (k + m + 1) (rpl p q) := by
  have h1 := mul_lt2 hp.1 hq.2.2
  have h2 := mul_lt2 hq.1 hp.2.2
  have h3 := mul_lt2 hp.2.2 hq.2.2
  have h4 := Int.natAbs_add_le (p.1 * q.2) (q.1 * p.2)
  have h5 : 2 ^ (m + k) = 2 ^ (k + m) := by rw [Nat.add_comm]
  have h6 : 2 ^ (k + m + 1) = 2 ^ (k + m) * 2 := Nat.pow_succ ..
  have h7 := Int.mul_pos hp.2.1 hq.2.1
  exact low_bd (by omega) (by omega) (by omega)
theorem rmi_bd {k m : Nat} {p q : Int × Int} (hp : bd k p) (hq : bd m q) : bd (k + m + 1) (rmi p q) := by
  have h1 := mul_lt2 hp.1 hq.2.2
  have h2 := mul_lt2 hq.1 hp.2.2
  have h3 := mul_lt2 hp.2.2 hq.2.2
  have h4 := Int.natAbs_sub_le (p.1 * q.2) (q.1 * p.2)
  have h5 : 2 ^ (m + k) = 2 ^ (k + m) := by rw [Nat.add_comm]
  have h6 : 2 ^ (k + m + 1) = 2 ^ (k + m) * 2 := Nat.pow_succ ..
  have h7 := Int.mul_pos hp.2.1 hq.2.1
  exact low_bd (by omega) (by omega) (by omega)
theorem rtm_bd {k m : Nat} {p q : Int × Int} (hp : bd k p) (hq : bd m q) : bd (k + m) (rtm p q) := by
  have h1 := mul_lt2 hp.1 hq.1
  have h3 := mul_lt2 hp.2.2 hq.2.2
  have h7 := Int.mul_pos hp.2.1 hq.2.1
  exact low_bd (by omega) h1 h3
theorem bd.g {k : Nat} {p : Int × Int} (h : bd k p) (hk : k ≤ 4490) : gR p = true := by
  have h := h.up hk
  have h1 := sm_of_lt h.1 (by decide)
  have h2 := sm_of_lt h.2.2 (by decide)
  unfold gR
  rw [h1, h2]
  have : (p.2 == 0) = false := by
    have := h.2.1
    simp; omega
  rw [this]; rfl

/-! ### by their values -/
def qv (p : Int × Int) : Rat := (p.1 : Rat) / (p.2 : Rat)
theorem low_qv {a b : Int} (hb : b ≠ 0) : qv (low a b) = (a : Rat) / (b : Rat) := by
  obtain ⟨g, a', b', hg, rfl, rfl, ⟨_, h3, e⟩ | ⟨_, h3, e⟩⟩ := low_by a b hb
  · rw [e]
    show (a' : Rat) / (b' : Rat) = _
    have h1 : (g : Rat) ≠ 0 := by simpa using (show g ≠ 0 by omega)
    have h2 : (b' : Rat) ≠ 0 := by simpa using (show b' ≠ 0 by omega)
    rw [Rat.intCast_mul, Rat.intCast_mul]
    grind
  · rw [e]
    show ((-a' : Int) : Rat) / ((-b' : Int) : Rat) = _
    have h1 : (g : Rat) ≠ 0 := by simpa using (show g ≠ 0 by omega)
    have h2 : (b' : Rat) ≠ 0 := by simpa using (show b' ≠ 0 by omega)
    rw [Rat.intCast_mul, Rat.intCast_mul, Rat.intCast_neg, Rat.intCast_neg]
    grind
theorem rat_ne {b : Int} (h : b ≠ 0) : (b : Rat) ≠ 0 := by simpa using h
theorem rpl_qv {p q : Int × Int} (hp : p.2 ≠ 0) (hq : q.2 ≠ 0) : qv (rpl p q) = qv p + qv q := by
  unfold rpl
  rw [low_qv (Int.mul_ne_zero hp hq)]
  unfold qv
  have h1 := rat_ne hp
  have h2 := rat_ne hq
  rw [Rat.intCast_add, Rat.intCast_mul, Rat.intCast_mul, Rat.intCast_mul]
  grind
theorem rmi_qv {p q : Int × Int} (hp : p.2 ≠ 0) (hq : q.2 ≠ 0) : qv (rmi p q) = qv p - qv q := by
  unfold rmi
  rw [low_qv (Int.mul_ne_zero hp hq)]
  unfold qv
  have h1 := rat_ne hp
  have h2 := rat_ne hq
  rw [Rat.intCast_sub, Rat.intCast_mul, Rat.intCast_mul, Rat.intCast_mul]
  grind
theorem rtm_qv {p q : Int × Int} (hp : p.2 ≠ 0) (hq : q.2 ≠ 0) : qv (rtm p q) = qv p * qv q := by
  unfold rtm
  rw [low_qv (Int.mul_ne_zero hp hq)]
  unfold qv
  have h1 := rat_ne hp
  have h2 := rat_ne hq
  rw [Rat.intCast_mul, Rat.intCast_mul]
  grind
theorem rls_qv {p q : Int × Int} (hp : 0 < p.2) (hq : 0 < q.2) : rls p q = true ↔ qv p < qv q := by
  unfold rls qv
  rw [decide_eq_true_iff]
  have h1 : (0 : Rat) < (p.2 : Rat) := Rat.intCast_pos.mpr hp
  have h2 : (0 : Rat) < (q.2 : Rat) := Rat.intCast_pos.mpr hq
  rw [← Rat.intCast_lt_intCast, Rat.intCast_mul, Rat.intCast_mul]
  rw [Rat.div_lt_iff h1]
  have e : (q.1 : Rat) / (q.2 : Rat) * (p.2 : Rat) = (q.1 : Rat) * (p.2 : Rat) / (q.2 : Rat) := by grind
  rw [e, Rat.lt_div_iff h2]
end Py

namespace Py
open PySem PySem.Spec PyProof.Rows L2
/-! ### minus, times, divided, less, greatest -/
def S_mi (jl : Nat) : S := (.seq (.ret (.call jl [false, false] (.cons (.op .sub (.op .mul (.ix (.var 0) (.con (.int 0))) (.ix (.var 1) (.con (.int 1)))) (.op .mul (.ix (.var 1) (.con (.int 0))) (.ix (.var 0) (.con (.int 1))))) (.cons (.op .mul (.ix (.var 0) (.con (.int 1))) (.ix (.var 1) (.con (.int 1)))) .nil)))) .nil)
def FD_mi (jl : Nat) : FD := ⟨2, [false, false], S_mi jl⟩
def S_tm (jl : Nat) : S := (.seq (.ret (.call jl [false, false] (.cons (.op .mul (.ix (.var 0) (.con (.int 0))) (.ix (.var 1) (.con (.int 0)))) (.cons (.op .mul (.ix (.var 0) (.con (.int 1))) (.ix (.var 1) (.con (.int 1)))) .nil)))) .nil)
def FD_tm (jl : Nat) : FD := ⟨2, [false, false], S_tm jl⟩
def S_dv (jl : Nat) : S := (.seq (.ret (.call jl [false, false] (.cons (.op .mul (.ix (.var 0) (.con (.int 0))) (.ix (.var 1) (.con (.int 1)))) (.cons (.op .mul (.ix (.var 0) (.con (.int 1))) (.ix (.var 1) (.con (.int 0)))) .nil)))) .nil)
def FD_dv (jl : Nat) : FD := ⟨2, [false, false], S_dv jl⟩
def S_ls : S := (.seq (.ret (.cmp .lt (.op .mul (.ix (.var 0) (.con (.int 0))) (.ix (.var 1) (.con (.int 1)))) (.op .mul (.ix (.var 1) (.con (.int 0))) (.ix (.var 0) (.con (.int 1)))))) .nil)
def FD_ls : FD := ⟨2, [false, false], S_ls⟩
/-- the law's minus, by its plus -/
def S_ml (jp : Nat) : S := (.seq (.ret (.call jp [false, false] (.cons (.var 0) (.cons (.tup (.cons (.neg (.ix (.var 1) (.con (.int 0)))) (.cons (.ix (.var 1) (.con (.int 1))) .nil))) .nil)))) .nil)
def FD_ml (jp : Nat) : FD := ⟨2, [false, false], S_ml jp⟩
theorem subI (i j : Int) : opW .sub (.int i) (.int j) = some (.int (i - j), false) := rfl
theorem mi_ok (C : Fn) (tk : Tk) (g jl : Nat) (p q : Int × Int) (hp : gR p = true) (hq : gR q = true) (hC : C jl [.int (p.1 * q.2 - q.1 * p.2), .int (p.2 * q.2)] = .ret (rt (rmi p q)) false []) : ofS (FD_mi jl) (xs C tk g (S_mi jl) [some (rt p, .sh), some (rt q, .sh)]) = .ret (rt (rmi p q)) false [] := by
  obtain ⟨a1, a2, a3⟩ := gR_ok hp
  obtain ⟨b1, b2, b3⟩ := gR_ok hq
  have m1 : opW .mul (.int p.1) (.int q.2) = some (.int (p.1 * q.2), false) := mul_ok (sm_up a1 (by decide)) (sm_up b2 (by decide))
  have m2 : opW .mul (.int q.1) (.int p.2) = some (.int (q.1 * p.2), false) := mul_ok (sm_up b1 (by decide)) (sm_up a2 (by decide))
  have m3 : opW .mul (.int p.2) (.int q.2) = some (.int (p.2 * q.2), false) := mul_ok (sm_up a2 (by decide)) (sm_up b2 (by decide))
  simp [S_mi, xs, ev, SO.thn, rt, wOf, l2, res, ofO, ixT0, ixT1, m1, m2, m3, subI, callW, shM, shr, ioW, ioB, retA, ofS, FD_mi, ioE]
  rw [hC]
  rfl
theorem tm_ok (C : Fn) (tk : Tk) (g jl : Nat) (p q : Int × Int) (hp : gR p = true) (hq : gR q = true) (hC : C jl [.int (p.1 * q.1), .int (p.2 * q.2)] = .ret (rt (rtm p q)) false []) : ofS (FD_tm jl) (xs C tk g (S_tm jl) [some (rt p, .sh), some (rt q, .sh)]) = .ret (rt (rtm p q)) false [] := by
  obtain ⟨a1, a2, a3⟩ := gR_ok hp
  obtain ⟨b1, b2, b3⟩ := gR_ok hq
  have m1 : opW .mul (.int p.1) (.int q.1) = some (.int (p.1 * q.1), false) := mul_ok (sm_up a1 (by decide)) (sm_up b1 (by decide))
  have m3 : opW .mul (.int p.2) (.int q.2) = some (.int (p.2 * q.2), false) := mul_ok (sm_up a2 (by decide)) (sm_up b2 (by decide))
  simp [S_tm, xs, ev, SO.thn, rt, wOf, l2, res, ofO, ixT0, ixT1, m1, m3, callW, shM, shr, ioW, ioB, retA, ofS, FD_tm, ioE]
  rw [hC]
  rfl
theorem dv_ok (C : Fn) (tk : Tk) (g jl : Nat) (p q : Int × Int) (hp : gR p = true) (hq : gR q = true) (hC : C jl [.int (p.1 * q.2), .int (p.2 * q.1)] = .ret (rt (rdv p q)) false []) : ofS (FD_dv jl) (xs C tk g (S_dv jl) [some (rt p, .sh), some (rt q, .sh)]) = .ret (rt (rdv p q)) false [] := by
  obtain ⟨a1, a2, a3⟩ := gR_ok hp
  obtain ⟨b1, b2, b3⟩ := gR_ok hq
  have m1 : opW .mul (.int p.1) (.int q.2) = some (.int (p.1 * q.2), false) := mul_ok (sm_up a1 (by decide)) (sm_up b2 (by decide))
  have m3 : opW .mul (.int p.2) (.int q.1) = some (.int (p.2 * q.1), false) := mul_ok (sm_up a2 (by decide)) (sm_up b1 (by decide))
  simp [S_dv, xs, ev, SO.thn, rt, wOf, l2, res, ofO, ixT0, ixT1, m1, m3, callW, shM, shr, ioW, ioB, retA, ofS, FD_dv, ioE]
  rw [hC]
  rfl
/-- of so many bits that they may be multiplied -/
def gM (p : Int × Int) : Bool := sm 9000 p.1 && sm 9000 p.2
theorem gM_ok {p : Int × Int} (h : gM p = true) : sm 9000 p.1 = true ∧ sm 9000 p.2 = true := Bool.and_eq_true_iff.mp h
theorem bd.m {k : Nat} {p : Int × Int} (h : bd k p) (hk : k ≤ 9000) : gM p = true := by
  have h := h.up hk
  have h1 := sm_of_lt h.1 (by decide)
  have h2 := sm_of_lt h.2.2 (by decide)
  unfold gM
  rw [h1, h2]; rfl
theorem gM_of {p : Int × Int} (h : gR p = true) : gM p = true := by
  obtain ⟨a, b, _⟩ := gR_ok h
  unfold gM
  rw [sm_up a (by decide), sm_up b (by decide)]; rfl
theorem ls_ok (C : Fn) (tk : Tk) (g : Nat) (p q : Int × Int) (hp : gM p = true) (hq : gM q = true) : ofS FD_ls (xs C tk g S_ls [some (rt p, .sh), some (rt q, .sh)]) = .ret (.bl (rls p q)) false [] := by
  obtain ⟨a1, a2⟩ := gM_ok hp
  obtain ⟨b1, b2⟩ := gM_ok hq
  have m1 : opW .mul (.int p.1) (.int q.2) = some (.int (p.1 * q.2), false) := mul_ok (sm_up a1 (by decide)) (sm_up b2 (by decide))
  have m2 : opW .mul (.int q.1) (.int p.2) = some (.int (q.1 * p.2), false) := mul_ok (sm_up b1 (by decide)) (sm_up a2 (by decide))
  have c1 : cmpW .lt (.int (p.1 * q.2)) (.int (q.1 * p.2)) = some (rls p q) := rfl
  simp [S_ls, xs, ev, SO.thn, rt, wOf, l2, res, ofO, ixT0, ixT1, m1, m2, c1, bW, retA, ofS, FD_ls, ioE]
theorem ml_ok (C : Fn) (tk : Tk) (g jp : Nat) (p q : Int × Int) (hC : C jp [rt p, rt (-q.1, q.2)] = .ret (rt (rmi p q)) false []) : ofS (FD_ml jp) (xs C tk g (S_ml jp) [some (rt p, .sh), some (rt q, .sh)]) = .ret (rt (rmi p q)) false [] := by
  have hC : C jp [.tup [.int p.1, .int p.2], .tup [.int (-q.1), .int q.2]] = .ret (rt (rmi p q)) false [] := hC
  simp [S_ml, xs, ev, SO.thn, rt, wOf, l1, l2, res, ofO, ixT0, ixT1, shrs, szL, callW, shM, shr, ioW, ioB, retA, ofS, FD_ml, ioE]
  rw [hC]
  rfl
theorem rmi_rpl (p q : Int × Int) : rpl p (-q.1, q.2) = rmi p q := by
  unfold rpl rmi
  show low (p.1 * q.2 + -q.1 * p.2) (p.2 * q.2) = _
  rw [Int.neg_mul, ← Int.sub_eq_add_neg]
theorem gR_neg {q : Int × Int} (h : gR q = true) : gR (-q.1, q.2) = true := by
  unfold gR sm at h ⊢
  show (decide ((-q.1).natAbs.log2 < 4490) && (decide (q.2.natAbs.log2 < 4490) && !(q.2 == 0))) = true
  rw [Int.natAbs_neg]; exact h
section
variable {fs : List FD} {tk : Tk} {g : Nat}
theorem mi_at {jl j d : Nat} (hg : 2 ^ 9000 ≤ g) (R : RD fs 0 jl 0) (e : fs[j]? = some (FD_mi jl)) (hd : 3 ≤ d) {p q : Int × Int} (hp : gR p = true) (hq : gR q = true) : run fs tk g d j [rt p, rt q] = .ret (rt (rmi p q)) false [] := by
  obtain ⟨k, rfl⟩ : ∃ k, d = k + 3 := ⟨d - 3, by omega⟩
  rw [run_at e rfl]
  obtain ⟨a1, a2, a3⟩ := gR_ok hp
  obtain ⟨b1, b2, b3⟩ := gR_ok hq
  refine mi_ok _ _ _ _ p q hp hq (R.low hg (Int.mul_ne_zero a3 b3) (sm_of_lt ?_ (by decide)) (sm_of_lt ?_ (by decide)))
  · have h1 := sm_mul a1 b2
    have h2 := sm_mul b1 a2
    have h3 := Int.natAbs_sub_le (p.1 * q.2) (q.1 * p.2)
    have h4 : (2 : Nat) ^ (4490 + 4490) + 2 ^ (4490 + 4490) ≤ 2 ^ 9000 := by decide +kernel
    omega
  · have h1 := sm_mul a2 b2
    exact Nat.lt_of_lt_of_le h1 (by decide +kernel)
theorem tm_at {jl j d : Nat} (hg : 2 ^ 9000 ≤ g) (R : RD fs 0 jl 0) (e : fs[j]? = some (FD_tm jl)) (hd : 3 ≤ d) {p q : Int × Int} (hp : gR p = true) (hq : gR q = true) : run fs tk g d j [rt p, rt q] = .ret (rt (rtm p q)) false [] := by
  obtain ⟨k, rfl⟩ : ∃ k, d = k + 3 := ⟨d - 3, by omega⟩
  rw [run_at e rfl]
  obtain ⟨a1, a2, a3⟩ := gR_ok hp
  obtain ⟨b1, b2, b3⟩ := gR_ok hq
  exact tm_ok _ _ _ _ p q hp hq (R.low hg (Int.mul_ne_zero a3 b3) (sm_of_lt (Nat.lt_of_lt_of_le (sm_mul a1 b1) (by decide +kernel)) (by decide)) (sm_of_lt (Nat.lt_of_lt_of_le (sm_mul a2 b2) (by decide +kernel)) (by decide)))
theorem dv_at {jl j d : Nat} (hg : 2 ^ 9000 ≤ g) (R : RD fs 0 jl 0) (e : fs[j]? = some (FD_dv jl)) (hd : 3 ≤ d) {p q : Int × Int} (hp : gR p = true) (hq : gR q = true) (h0 : q.1 ≠ 0) : run fs tk g d j [rt p, rt q] = .ret (rt (rdv p q)) false [] := by
  obtain ⟨k, rfl⟩ : ∃ k, d = k + 3 := ⟨d - 3, by omega⟩
  rw [run_at e rfl]
  obtain ⟨a1, a2, a3⟩ := gR_ok hp
  obtain ⟨b1, b2, b3⟩ := gR_ok hq
  exact dv_ok _ _ _ _ p q hp hq (R.low hg (Int.mul_ne_zero a3 h0) (sm_of_lt (Nat.lt_of_lt_of_le (sm_mul a1 b2) (by decide +kernel)) (by decide)) (sm_of_lt (Nat.lt_of_lt_of_le (sm_mul a2 b1) (by decide +kernel)) (by decide)))
theorem pl_at {j d : Nat} (hg : 2 ^ 9000 ≤ g) (R : RD fs 1 j 0) (hd : 3 ≤ d) {p q : Int × Int} (hp : gR p = true) (hq : gR q = true) : run fs tk g d j [rt p, rt q] = .ret (rt (rpl p q)) false [] := by
  obtain ⟨k, rfl⟩ : ∃ k, d = k + 3 := ⟨d - 3, by omega⟩
  exact R.plus hg hp hq
theorem lw_at {j d : Nat} (hg : 2 ^ 9000 ≤ g) (R : RD fs 0 j 0) (hd : 2 ≤ d) {a b : Int} (hb : b ≠ 0) (h1 : sm 9000 a = true) (h2 : sm 9000 b = true) : run fs tk g d j [.int a, .int b] = .ret (rt (low a b)) false [] := by
  obtain ⟨k, rfl⟩ : ∃ k, d = k + 2 := ⟨d - 2, by omega⟩
  exact R.low hg hb h1 h2
theorem ml_at {jp j d : Nat} (hg : 2 ^ 9000 ≤ g) (R : RD fs 1 jp 0) (e : fs[j]? = some (FD_ml jp)) (hd : 4 ≤ d) {p q : Int × Int} (hp : gR p = true) (hq : gR q = true) : run fs tk g d j [rt p, rt q] = .ret (rt (rmi p q)) false [] := by
  obtain ⟨k, rfl⟩ : ∃ k, d = k + 4 := ⟨d - 4, by omega⟩
  rw [run_at e rfl]
  refine ml_ok _ _ _ _ p q ?_
  rw [← rmi_rpl]
  exact R.plus hg hp (gR_neg hq)
theorem ls_at {j d : Nat} (e : fs[j]? = some FD_ls) (hd : 1 ≤ d) {p q : Int × Int} (hp : gM p = true) (hq : gM q = true) : run fs tk g d j [rt p, rt q] = .ret (.bl (rls p q)) false [] := by
  obtain ⟨k, rfl⟩ : ∃ k, d = k + 1 := ⟨d - 1, by omega⟩
  rw [run_at e rfl]
  exact ls_ok _ _ _ p q hp hq
end
/-! ### the greater of two -/
def rgr (p q : Int × Int) : Int × Int := if rls p q then q else p
theorem rls_self (p : Int × Int) : rls p p = false := decide_eq_false (Int.lt_irrefl _)
def S_gr (j : Nat) : S := (.seq (.asn 1 (.ix (.var 0) (.con (.int 0)))) (.seq (.for_ (.n 2) .seq (.cons (.var 0) .nil) (.seq (.ite (.call j [false, false] (.cons (.var 1) (.cons (.var 2) .nil))) (.seq (.asn 1 (.var 2)) .nil) .nil) .nil)) (.seq (.ret (.var 1)) .nil)))
def FD_gr (j : Nat) : FD := ⟨3, [false], S_gr j⟩
theorem gr2_ok (C : Fn) (tk : Tk) (g j : Nat) (p q : W) (b : Bool) (h1 : C j [p, p] = .ret (.bl false) false []) (h2 : C j [p, q] = .ret (.bl b) false []) : ofS (FD_gr j) (xs C tk g (S_gr j) [some (.lst [p, q], .sh), none, none]) = .ret (if b then q else p) false [] := by
  have ix : ixW (.lst [p, q]) (.int 0) = some (p, false) := rfl
  cases b <;> simp [S_gr, xs, ev, SO.thn, SO.mapE, wOf, l2, lL, ress, res, ofO, ix, itW, lkE, lkE1, ulE, ulE1, forL, asP, setN, h1, h2, callW, shM, shr, ioW, ioB, trO, truth, ofE, asA, retA, ofS, FD_gr, ioE]
theorem gr2_at {fs : List FD} {tk : Tk} {g j jls d : Nat} (e : fs[j]? = some (FD_gr jls)) (el : fs[jls]? = some FD_ls) (hd : 2 ≤ d) {p q : Int × Int} (hp : gM p = true) (hq : gM q = true) : run fs tk g d j [.lst [rt p, rt q]] = .ret (rt (rgr p q)) false [] := by
  obtain ⟨k, rfl⟩ : ∃ k, d = k + 1 := ⟨d - 1, by omega⟩
  rw [run_at e rfl]
  have h := gr2_ok (run fs tk g k) tk g jls (rt p) (rt q) (rls p q) (by rw [ls_at el (by omega) hp hp, rls_self]) (ls_at el (by omega) hp hq)
  refine Eq.trans h ?_
  unfold rgr
  cases rls p q <;> rfl
/-- the law's best of two -/
def S_bs (j : Nat) : S := (.seq (.asn 2 (.ix (.var 0) (.con (.int 0)))) (.seq (.for_ (.n 3) .seq (.cons (.var 0) .nil) (.seq (.ite (.or (.and (.call j [false, false] (.cons (.var 2) (.cons (.var 3) .nil))) (.cmp .eq (.var 1) (.con (.int 1)))) (.and (.call j [false, false] (.cons (.var 3) (.cons (.var 2) .nil))) (.cmp .eq (.var 1) (.neg (.con (.int 1)))))) (.seq (.asn 2 (.var 3)) .nil) .nil) .nil)) (.seq (.ret (.var 2)) .nil)))
def FD_bs (j : Nat) : FD := ⟨4, [false, false], S_bs j⟩
theorem bs2_ok (C : Fn) (tk : Tk) (g j : Nat) (p q : W) (b b' : Bool) (h1 : C j [p, p] = .ret (.bl false) false []) (h2 : C j [p, q] = .ret (.bl b) false []) (h3 : C j [q, p] = .ret (.bl b') false []) : ofS (FD_bs j) (xs C tk g (S_bs j) [some (.lst [p, q], .sh), some (.int 1, .sh), none, none]) = .ret (if b then q else p) false [] := by
  have ix : ixW (.lst [p, q]) (.int 0) = some (p, false) := rfl
  have e1 : cmpW .eq (.int 1) (.int 1) = some true := rfl
  have e2 : cmpW .eq (.int 1) (.int (-1)) = some false := rfl
  cases b <;> cases b' <;> simp [S_bs, xs, ev, SO.thn, SO.mapE, wOf, l1, l2, lL, ress, res, ofO, ix, itW, lkE, lkE1, ulE, ulE1, forL, asP, setN, h1, h2, h3, e1, e2, bW, callW, shM, shr, ioW, ioB, trO, truth, ofE, asA, retA, ofS, FD_bs, ioE]
theorem bs2_at {fs : List FD} {tk : Tk} {g j jls d : Nat} (e : fs[j]? = some (FD_bs jls)) (el : fs[jls]? = some FD_ls) (hd : 2 ≤ d) {p q : Int × Int} (hp : gM p = true) (hq : gM q = true) : run fs tk g d j [.lst [rt p, rt q], .int 1] = .ret (rt (rgr p q)) false [] := by
  obtain ⟨k, rfl⟩ : ∃ k, d = k + 1 := ⟨d - 1, by omega⟩
  rw [run_at e rfl]
  have h := bs2_ok (run fs tk g k) tk g jls (rt p) (rt q) (rls p q) (rls q p) (by rw [ls_at el (by omega) hp hp, rls_self]) (ls_at el (by omega) hp hq) (ls_at el (by omega) hq hp)
  refine Eq.trans h ?_
  unfold rgr
  cases rls p q <;> rfl
end Py

namespace Py
open PySem PySem.Spec PyProof.Rows L2
/-! ### the first best of a row -/
def bsF (cond : Int × Int → Int × Int → Bool) : Int × Int → List (Int × Int) → Int × Int
  | a, [] => a
  | a, p :: r => bsF cond (if cond a p then p else a) r
def gMs (l : List (Int × Int)) : Bool := l.all gM
section
variable {C : Fn} {tk : Tk} {g : Nat}
def grB (j : Nat) : S := (.seq (.ite (.call j [false, false] (.cons (.var 1) (.cons (.var 2) .nil))) (.seq (.asn 1 (.var 2)) .nil) .nil) .nil)
def leB (j : Nat) : S := (.seq (.ite (.call j [false, false] (.cons (.var 2) (.cons (.var 1) .nil))) (.seq (.asn 1 (.var 2)) .nil) .nil) .nil)
def bsB (j : Nat) : S := (.seq (.ite (.or (.and (.call j [false, false] (.cons (.var 2) (.cons (.var 3) .nil))) (.cmp .eq (.var 1) (.con (.int 1)))) (.and (.call j [false, false] (.cons (.var 3) (.cons (.var 2) .nil))) (.cmp .eq (.var 1) (.neg (.con (.int 1)))))) (.seq (.asn 2 (.var 3)) .nil) .nil) .nil)
def S_le (j : Nat) : S := (.seq (.asn 1 (.ix (.var 0) (.con (.int 0)))) (.seq (.for_ (.n 2) .seq (.cons (.var 0) .nil) (leB j)) (.seq (.ret (.var 1)) .nil)))
def FD_le (j : Nat) : FD := ⟨3, [false], S_le j⟩
theorem grB_ok (j : Nat) (w p q : W) (b : Bool) (h : C j [p, q] = .ret (.bl b) false []) : xs C tk g (grB j) [some (w, .sh), some (p, .sh), some (q, .sh)] = .nx [some (w, .sh), some (if b then q else p, .sh), some (q, .sh)] := by
  cases b <;> simp [grB, xs, ev, SO.thn, wOf, res, h, callW, shM, shr, ioW, ioB, trO, truth, ofE, asA, setN]
theorem leB_ok (j : Nat) (w p q : W) (b : Bool) (h : C j [q, p] = .ret (.bl b) false []) : xs C tk g (leB j) [some (w, .sh), some (p, .sh), some (q, .sh)] = .nx [some (w, .sh), some (if b then q else p, .sh), some (q, .sh)] := by
  cases b <;> simp [leB, xs, ev, SO.thn, wOf, res, h, callW, shM, shr, ioW, ioB, trO, truth, ofE, asA, setN]
theorem bsB_ok (j : Nat) (w p q : W) (b b' : Bool) (h : C j [p, q] = .ret (.bl b) false []) (h' : C j [q, p] = .ret (.bl b') false []) : xs C tk g (bsB j) [some (w, .sh), some (.int 1, .sh), some (p, .sh), some (q, .sh)] = .nx [some (w, .sh), some (.int 1, .sh), some (if b then q else p, .sh), some (q, .sh)] := by
  have e1 : cmpW .eq (.int 1) (.int 1) = some true := rfl
  have e2 : cmpW .eq (.int 1) (.int (-1)) = some false := rfl
  cases b <;> cases b' <;> simp [bsB, xs, ev, SO.thn, wOf, l1, l2, res, ofO, h, h', e1, e2, bW, callW, shM, shr, ioW, ioB, trO, truth, ofE, asA, setN]
theorem bsB_ok' (j : Nat) (w p q : W) (b b' : Bool) (h : C j [p, q] = .ret (.bl b') false []) (h' : C j [q, p] = .ret (.bl b) false []) : xs C tk g (bsB j) [some (w, .sh), some (.int (-1), .sh), some (p, .sh), some (q, .sh)] = .nx [some (w, .sh), some (.int (-1), .sh), some (if b then q else p, .sh), some (q, .sh)] := by
  have e1 : cmpW .eq (.int (-1)) (.int 1) = some false := rfl
  have e2 : cmpW .eq (.int (-1)) (.int (-1)) = some true := rfl
  cases b <;> cases b' <;> simp [bsB, xs, ev, SO.thn, wOf, l1, l2, res, ofO, h, h', e1, e2, bW, callW, shM, shr, ioW, ioB, trO, truth, ofE, asA, setN]
theorem asP2 {w u : W} {v q : W} {x : Option (W × Fl)} (hx : plainS x = true) : asP (.n 2) q [some (w, .sh), some (v, .sh), x] = some [some (w, .sh), some (v, .sh), some (q, .sh)] := by
  cases x with
  | none => rfl
  | some y => obtain ⟨u, f⟩ := y; cases f <;> first | rfl | cases hx
theorem asP3 {w v u q : W} {x : Option (W × Fl)} (hx : plainS x = true) : asP (.n 3) q [some (w, .sh), some (v, .sh), some (u, .sh), x] = some [some (w, .sh), some (v, .sh), some (u, .sh), some (q, .sh)] := by
  cases x with
  | none => rfl
  | some y => obtain ⟨u, f⟩ := y; cases f <;> first | rfl | cases hx
theorem row_loop (cond : Int × Int → Int × Int → Bool) (B : S) (w : W) (hB : ∀ p q, gM p = true → gM q = true → xs C tk g B [some (w, .sh), some (rt p, .sh), some (rt q, .sh)] = .nx [some (w, .sh), some (if cond p q then rt q else rt p, .sh), some (rt q, .sh)]) :
    ∀ (l : List (Int × Int)) (a : Int × Int) (x : Option (W × Fl)), plainS x = true → gM a = true → gMs l = true → ∃ x', forL (fun w ρ => match asP (.n 2) w ρ with
    | none => SO.bad
    | some ρ1 => xs C tk g B ρ1) (l.map rt) [some (w, .sh), some (rt a, .sh), x] = .nx [some (w, .sh), some (rt (bsF cond a l), .sh), x']
  | [], a, x, _, _, _ => ⟨x, rfl⟩
  | p :: l, a, x, hx, ha, hl => by
    obtain ⟨g1, g2⟩ := Bool.and_eq_true_iff.mp (show (gM p && gMs l) = true from hl)
    have ha' : gM (if cond a p then p else a) = true := by split <;> assumption
    obtain ⟨x', e⟩ := row_loop cond B w hB l (if cond a p then p else a) (some (rt p, .sh)) rfl ha' g2
    refine ⟨x', ?_⟩
    have e2 : (if cond a p then rt p else rt a) = rt (if cond a p then p else a) := by split <;> rfl
    simp only [List.map_cons, forL, asP2 (u := .non) hx, hB a p ha g1, e2]
    exact e
theorem row_loop3 (cond : Int × Int → Int × Int → Bool) (B : S) (w u : W) (hB : ∀ p q, gM p = true → gM q = true → xs C tk g B [some (w, .sh), some (u, .sh), some (rt p, .sh), some (rt q, .sh)] = .nx [some (w, .sh), some (u, .sh), some (if cond p q then rt q else rt p, .sh), some (rt q, .sh)]) :
    ∀ (l : List (Int × Int)) (a : Int × Int) (x : Option (W × Fl)), plainS x = true → gM a = true → gMs l = true → ∃ x', forL (fun w ρ => match asP (.n 3) w ρ with
    | none => SO.bad
    | some ρ1 => xs C tk g B ρ1) (l.map rt) [some (w, .sh), some (u, .sh), some (rt a, .sh), x] = .nx [some (w, .sh), some (u, .sh), some (rt (bsF cond a l), .sh), x']
  | [], a, x, _, _, _ => ⟨x, rfl⟩
  | p :: l, a, x, hx, ha, hl => by
    obtain ⟨g1, g2⟩ := Bool.and_eq_true_iff.mp (show (gM p && gMs l) = true from hl)
    have ha' : gM (if cond a p then p else a) = true := by split <;> assumption
    obtain ⟨x', e⟩ := row_loop3 cond B w u hB l (if cond a p then p else a) (some (rt p, .sh)) rfl ha' g2
    refine ⟨x', ?_⟩
    have e2 : (if cond a p then rt p else rt a) = rt (if cond a p then p else a) := by split <;> rfl
    simp only [List.map_cons, forL, asP3 hx, hB a p ha g1, e2]
    exact e
end
theorem ix_hd (x : W) (r : List W) : ixW (.lst (x :: r)) (.int 0) = some (x, false) := by
  have e : L2.ixN (x :: r).length 0 = some 0 := by
    unfold L2.ixN
    rw [List.length_cons]
    split <;> rename_i q <;> first | rfl | (split <;> first | rfl | omega) | omega
  show (L2.atI (x :: r) 0).map _ = _
  unfold L2.atI
  rw [e]
  rfl
def rgt (p q : Int × Int) : Bool := rls q p
/-- the first greatest, the first least of a row -/
def grR (l : List (Int × Int)) : Int × Int := match l with
  | [] => (0, 1)
  | a :: _ => bsF rls a l
def leR (l : List (Int × Int)) : Int × Int := match l with
  | [] => (0, 1)
  | a :: _ => bsF rgt a l
section
variable {fs : List FD} {tk : Tk} {g : Nat}
theorem grR_at {j jls d : Nat} (e : fs[j]? = some (FD_gr jls)) (el : fs[jls]? = some FD_ls) (hd : 2 ≤ d) {l : List (Int × Int)} (hl : gMs l = true) (h0 : l ≠ []) : run fs tk g d j [.lst (l.map rt)] = .ret (rt (grR l)) false [] := by
  obtain ⟨k, rfl⟩ : ∃ k, d = k + 1 := ⟨d - 1, by omega⟩
  rw [run_at e rfl]
  cases l with
  | nil => exact absurd rfl h0
  | cons a r =>
    obtain ⟨g1, g2⟩ := Bool.and_eq_true_iff.mp (show (gM a && gMs r) = true from hl)
    obtain ⟨x', e2⟩ := row_loop (C := run fs tk g k) (tk := tk) (g := g) rls (grB jls) (.lst ((a :: r).map rt)) (fun p q hp hq => by rw [grB_ok jls _ (rt p) (rt q) (rls p q) (ls_at el (by omega) hp hq)]) (a :: r) a none rfl g1 hl
    show ofS (FD_gr jls) (SO.thn (SO.bnd (ofO (ixW (.lst (rt a :: r.map rt)) (.int 0)) [some (.lst ((a :: r).map rt), .sh), none, none]) fun a ρ1 => ofE (asA 1 a ρ1)) fun ρ => xs (run fs tk g k) tk g (.seq (.for_ (.n 2) .seq (.cons (.var 0) .nil) (grB jls)) (.seq (.ret (.var 1)) .nil)) ρ) = _
    rw [ix_hd]
    show ofS (FD_gr jls) (SO.thn ((forL (fun w ρ => match asP (.n 2) w ρ with
      | none => SO.bad
      | some ρ1 => xs (run fs tk g k) tk g (grB jls) ρ1) ((a :: r).map rt) [some (.lst ((a :: r).map rt), .sh), some (rt a, .sh), none]).mapE fun ρ => ρ) fun ρ => xs (run fs tk g k) tk g (.seq (.ret (.var 1)) .nil) ρ) = _
    rw [e2]
    rfl
theorem leR_at {j jls d : Nat} (e : fs[j]? = some (FD_le jls)) (el : fs[jls]? = some FD_ls) (hd : 2 ≤ d) {l : List (Int × Int)} (hl : gMs l = true) (h0 : l ≠ []) : run fs tk g d j [.lst (l.map rt)] = .ret (rt (leR l)) false [] := by
  obtain ⟨k, rfl⟩ : ∃ k, d = k + 1 := ⟨d - 1, by omega⟩
  rw [run_at e rfl]
  cases l with
  | nil => exact absurd rfl h0
  | cons a r =>
    obtain ⟨g1, g2⟩ := Bool.and_eq_true_iff.mp (show (gM a && gMs r) = true from hl)
    obtain ⟨x', e2⟩ := row_loop (C := run fs tk g k) (tk := tk) (g := g) rgt (leB jls) (.lst ((a :: r).map rt)) (fun p q hp hq => by rw [leB_ok jls _ (rt p) (rt q) (rls q p) (ls_at el (by omega) hq hp)]; rfl) (a :: r) a none rfl g1 hl
    show ofS (FD_le jls) (SO.thn (SO.bnd (ofO (ixW (.lst (rt a :: r.map rt)) (.int 0)) [some (.lst ((a :: r).map rt), .sh), none, none]) fun a ρ1 => ofE (asA 1 a ρ1)) fun ρ => xs (run fs tk g k) tk g (.seq (.for_ (.n 2) .seq (.cons (.var 0) .nil) (leB jls)) (.seq (.ret (.var 1)) .nil)) ρ) = _
    rw [ix_hd]
    show ofS (FD_le jls) (SO.thn ((forL (fun w ρ => match asP (.n 2) w ρ with
      | none => SO.bad
      | some ρ1 => xs (run fs tk g k) tk g (leB jls) ρ1) ((a :: r).map rt) [some (.lst ((a :: r).map rt), .sh), some (rt a, .sh), none]).mapE fun ρ => ρ) fun ρ => xs (run fs tk g k) tk g (.seq (.ret (.var 1)) .nil) ρ) = _
    rw [e2]
    rfl
theorem bsR_at {j jls d : Nat} (e : fs[j]? = some (FD_bs jls)) (el : fs[jls]? = some FD_ls) (hd : 2 ≤ d) {l : List (Int × Int)} (hl : gMs l = true) (h0 : l ≠ []) : run fs tk g d j [.lst (l.map rt), .int 1] = .ret (rt (grR l)) false [] := by
  obtain ⟨k, rfl⟩ : ∃ k, d = k + 1 := ⟨d - 1, by omega⟩
  rw [run_at e rfl]
  cases l with
  | nil => exact absurd rfl h0
  | cons a r =>
    obtain ⟨g1, g2⟩ := Bool.and_eq_true_iff.mp (show (gM a && gMs r) = true from hl)
    obtain ⟨x', e2⟩ := row_loop3 (C := run fs tk g k) (tk := tk) (g := g) rls (bsB jls) (.lst ((a :: r).map rt)) (.int 1) (fun p q hp hq => by rw [bsB_ok jls _ (rt p) (rt q) (rls p q) (rls q p) (ls_at el (by omega) hp hq) (ls_at el (by omega) hq hp)]) (a :: r) a none rfl g1 hl
    show ofS (FD_bs jls) (SO.thn (SO.bnd (ofO (ixW (.lst (rt a :: r.map rt)) (.int 0)) [some (.lst ((a :: r).map rt), .sh), some (.int 1, .sh), none, none]) fun a ρ1 => ofE (asA 2 a ρ1)) fun ρ => xs (run fs tk g k) tk g (.seq (.for_ (.n 3) .seq (.cons (.var 0) .nil) (bsB jls)) (.seq (.ret (.var 2)) .nil)) ρ) = _
    rw [ix_hd]
    show ofS (FD_bs jls) (SO.thn ((forL (fun w ρ => match asP (.n 3) w ρ with
      | none => SO.bad
      | some ρ1 => xs (run fs tk g k) tk g (bsB jls) ρ1) ((a :: r).map rt) [some (.lst ((a :: r).map rt), .sh), some (.int 1, .sh), some (rt a, .sh), none]).mapE fun ρ => ρ) fun ρ => xs (run fs tk g k) tk g (.seq (.ret (.var 2)) .nil) ρ) = _
    rw [e2]
    rfl
theorem bsL_at {j jls d : Nat} (e : fs[j]? = some (FD_bs jls)) (el : fs[jls]? = some FD_ls) (hd : 2 ≤ d) {l : List (Int × Int)} (hl : gMs l = true) (h0 : l ≠ []) : run fs tk g d j [.lst (l.map rt), .int (-1)] = .ret (rt (leR l)) false [] := by
  obtain ⟨k, rfl⟩ : ∃ k, d = k + 1 := ⟨d - 1, by omega⟩
  rw [run_at e rfl]
  cases l with
  | nil => exact absurd rfl h0
  | cons a r =>
    obtain ⟨g1, g2⟩ := Bool.and_eq_true_iff.mp (show (gM a && gMs r) = true from hl)
    obtain ⟨x', e2⟩ := row_loop3 (C := run fs tk g k) (tk := tk) (g := g) rgt (bsB jls) (.lst ((a :: r).map rt)) (.int (-1)) (fun p q hp hq => by rw [bsB_ok' jls _ (rt p) (rt q) (rls q p) (rls p q) (ls_at el (by omega) hp hq) (ls_at el (by omega) hq hp)]; rfl) (a :: r) a none rfl g1 hl
    show ofS (FD_bs jls) (SO.thn (SO.bnd (ofO (ixW (.lst (rt a :: r.map rt)) (.int 0)) [some (.lst ((a :: r).map rt), .sh), some (.int (-1), .sh), none, none]) fun a ρ1 => ofE (asA 2 a ρ1)) fun ρ => xs (run fs tk g k) tk g (.seq (.for_ (.n 3) .seq (.cons (.var 0) .nil) (bsB jls)) (.seq (.ret (.var 2)) .nil)) ρ) = _
    rw [ix_hd]
    show ofS (FD_bs jls) (SO.thn ((forL (fun w ρ => match asP (.n 3) w ρ with
      | none => SO.bad
      | some ρ1 => xs (run fs tk g k) tk g (bsB jls) ρ1) ((a :: r).map rt) [some (.lst ((a :: r).map rt), .sh), some (.int (-1), .sh), some (rt a, .sh), none]).mapE fun ρ => ρ) fun ρ => xs (run fs tk g k) tk g (.seq (.ret (.var 2)) .nil) ρ) = _
    rw [e2]
    rfl
end

/-! ### calls by their values, by a table -/
inductive Kd | lw | pl | mi | tm | dv | ls | sr | gr | le | bs
  deriving DecidableEq
def kv2 (o : Int × Int → Int × Int → Option (Int × Int)) : List W → Option CO
  | [u, v] => match toR u, toR v with
    | some p, some q => (o p q).map fun r => .ret (rt r) false []
    | _, _ => none
  | _ => none
def kvL (o : List (Int × Int) → Option (Int × Int)) : List W → Option CO
  | [.lst us] => match toRs us with
    | some l => (o l).map fun r => .ret (rt r) false []
    | none => none
  | _ => none
def gR2 (f : Int × Int → Int × Int → Int × Int) (p q : Int × Int) : Option (Int × Int) := if (gR p && gR q) = true then some (f p q) else none
def kvB (ws : List W) : Option CO := match ws with
  | [u, v] => match toR u, toR v with
    | some p, some q => if (gM p && gM q) = true then some (.ret (.bl (rls p q)) false []) else none
    | _, _ => none
  | _ => none
def kvS (ws : List W) : Option CO := match ws with
  | [u, .int i] => if i == 1 then kvL (fun l => if (gMs l && !l.isEmpty) = true then some (grR l) else none) [u] else if i == -1 then kvL (fun l => if (gMs l && !l.isEmpty) = true then some (leR l) else none) [u] else none
  | _ => none
def kvV (k : Kd) (ws : List W) : Option CO := match k with
  | .lw => oR [0] 0 ws
  | .pl => kv2 (gR2 rpl) ws
  | .mi => kv2 (gR2 rmi) ws
  | .tm => kv2 (gR2 rtm) ws
  | .dv => kv2 (fun p q => if (gR p && (gR q && !(q.1 == 0))) = true then some (rdv p q) else none) ws
  | .ls => kvB ws
  | .sr => kvL (sumO (0, 1)) ws
  | .gr => kvL (fun l => if (gMs l && !l.isEmpty) = true then some (grR l) else none) ws
  | .le => kvL (fun l => if (gMs l && !l.isEmpty) = true then some (leR l) else none) ws
  | .bs => kvS ws
def oK (kd : List (Option Kd)) (f : Nat) (ws : List W) : Option CO := match kd[f]? with
  | some (some k) => kvV k ws
  | _ => none
/-- where such a def stands -/
inductive RK (fs : List FD) : Kd → Nat → Prop
  | lw {j : Nat} : RD fs 0 j 0 → RK fs .lw j
  | pl {j : Nat} : RD fs 1 j 0 → RK fs .pl j
  | mi {jl j : Nat} : RD fs 0 jl 0 → fs[j]? = some (FD_mi jl) → RK fs .mi j
  | ml {jp j : Nat} : RD fs 1 jp 0 → fs[j]? = some (FD_ml jp) → RK fs .mi j
  | tm {jl j : Nat} : RD fs 0 jl 0 → fs[j]? = some (FD_tm jl) → RK fs .tm j
  | dv {jl j : Nat} : RD fs 0 jl 0 → fs[j]? = some (FD_dv jl) → RK fs .dv j
  | ls {j : Nat} : fs[j]? = some FD_ls → RK fs .ls j
  | sr {j : Nat} : RD fs 2 j 0 → RK fs .sr j
  | gr {jls j : Nat} : fs[jls]? = some FD_ls → fs[j]? = some (FD_gr jls) → RK fs .gr j
  | le {jls j : Nat} : fs[jls]? = some FD_ls → fs[j]? = some (FD_le jls) → RK fs .le j
  | bs {jls j : Nat} : fs[jls]? = some FD_ls → fs[j]? = some (FD_bs jls) → RK fs .bs j
theorem kv2_inv {o : Int × Int → Int × Int → Option (Int × Int)} {ws : List W} {r : CO} (h : kv2 o ws = some r) : ∃ p q v, ws = [rt p, rt q] ∧ o p q = some v ∧ r = .ret (rt v) false [] := by
  unfold kv2 at h
  split at h
  · rename_i u v
    split at h
    · rename_i p q e1 e2
      obtain ⟨x, e3, e4⟩ := Option.map_eq_some_iff.mp h
      exact ⟨p, q, x, by rw [toR_ok e1, toR_ok e2], e3, e4.symm⟩
    · cases h
  · cases h
theorem kvL_inv {o : List (Int × Int) → Option (Int × Int)} {ws : List W} {r : CO} (h : kvL o ws = some r) : ∃ l v, ws = [.lst (l.map rt)] ∧ o l = some v ∧ r = .ret (rt v) false [] := by
  unfold kvL at h
  split at h
  · rename_i us
    split at h
    · rename_i l e1
      obtain ⟨x, e3, e4⟩ := Option.map_eq_some_iff.mp h
      exact ⟨l, x, by rw [toRs_ok e1], e3, e4.symm⟩
    · cases h
  · cases h
theorem gR2_inv {f : Int × Int → Int × Int → Int × Int} {p q v : Int × Int} (h : gR2 f p q = some v) : gR p = true ∧ gR q = true ∧ v = f p q := by
  unfold gR2 at h
  split at h
  · rename_i k
    obtain ⟨k1, k2⟩ := Bool.and_eq_true_iff.mp k
    exact ⟨k1, k2, (Option.some.inj h).symm⟩
  · cases h
theorem row_inv {f : List (Int × Int) → Int × Int} {l : List (Int × Int)} {v : Int × Int} (h : (if (gMs l && !l.isEmpty) = true then some (f l) else none) = some v) : gMs l = true ∧ l ≠ [] ∧ v = f l := by
  split at h
  · rename_i k
    obtain ⟨k1, k2⟩ := Bool.and_eq_true_iff.mp k
    refine ⟨k1, ?_, (Option.some.inj h).symm⟩
    rintro rfl
    cases k2
  · cases h
theorem kv_ok {fs : List FD} {tk : Tk} {g : Nat} (hg : 2 ^ 9000 ≤ g) {k : Kd} {f : Nat} (R : RK fs k f) (d : Nat) (ws : List W) (r : CO) (h : kvV k ws = some r) : run fs tk g (5 + d + 1) f ws = r := by
  cases R with
  | lw R =>
    obtain ⟨a, b, rfl, hb, h1, h2, rfl, _⟩ := oR_inv h
    exact lw_at hg R (by omega) hb h1 h2
  | pl R =>
    obtain ⟨p, q, v, rfl, e, rfl⟩ := kv2_inv h
    obtain ⟨h1, h2, rfl⟩ := gR2_inv e
    exact pl_at hg R (by omega) h1 h2
  | mi R e0 =>
    obtain ⟨p, q, v, rfl, e, rfl⟩ := kv2_inv h
    obtain ⟨h1, h2, rfl⟩ := gR2_inv e
    exact mi_at hg R e0 (by omega) h1 h2
  | ml R e0 =>
    obtain ⟨p, q, v, rfl, e, rfl⟩ := kv2_inv h
    obtain ⟨h1, h2, rfl⟩ := gR2_inv e
    exact ml_at hg R e0 (by omega) h1 h2
  | tm R e0 =>
    obtain ⟨p, q, v, rfl, e, rfl⟩ := kv2_inv h
    obtain ⟨h1, h2, rfl⟩ := gR2_inv e
    exact tm_at hg R e0 (by omega) h1 h2
  | dv R e0 =>
    obtain ⟨p, q, v, rfl, e, rfl⟩ := kv2_inv h
    split at e
    · rename_i k
      obtain ⟨k1, k2⟩ := Bool.and_eq_true_iff.mp k
      obtain ⟨k2, k3⟩ := Bool.and_eq_true_iff.mp k2
      cases e
      refine dv_at hg R e0 (by omega) k1 k2 fun z => ?_
      rw [z] at k3; cases k3
    · cases e
  | ls e0 =>
    have h : kvB ws = some r := h
    unfold kvB at h
    split at h
    · rename_i u v
      split at h
      · rename_i p q e1 e2
        split at h
        · rename_i k
          obtain ⟨k1, k2⟩ := Bool.and_eq_true_iff.mp k
          cases h
          rw [toR_ok e1, toR_ok e2]
          exact ls_at e0 (by omega) k1 k2
        · cases h
      · cases h
    · cases h
  | sr R =>
    obtain ⟨l, v, rfl, e, rfl⟩ := kvL_inv h
    obtain ⟨k1, rfl⟩ := sumO_ok e
    rw [show 5 + d + 1 = (d + 2) + 4 by omega]
    exact R.sum hg k1
  | gr e1 e0 =>
    obtain ⟨l, v, rfl, e, rfl⟩ := kvL_inv h
    obtain ⟨h1, h2, rfl⟩ := row_inv e
    exact grR_at e0 e1 (by omega) h1 h2
  | le e1 e0 =>
    obtain ⟨l, v, rfl, e, rfl⟩ := kvL_inv h
    obtain ⟨h1, h2, rfl⟩ := row_inv e
    exact leR_at e0 e1 (by omega) h1 h2
  | bs e1 e0 =>
    have h : kvS ws = some r := h
    unfold kvS at h
    split at h
    · rename_i u i _
      split at h
      · rename_i k
        obtain rfl : i = 1 := eq_of_beq k
        obtain ⟨l, v, e2, e, rfl⟩ := kvL_inv h
        obtain rfl : u = .lst (l.map rt) := by simpa using e2
        obtain ⟨h1, h2, rfl⟩ := row_inv e
        exact bsR_at e0 e1 (by omega) h1 h2
      · split at h
        · rename_i k
          obtain rfl : i = -1 := eq_of_beq k
          obtain ⟨l, v, e2, e, rfl⟩ := kvL_inv h
          obtain rfl : u = .lst (l.map rt) := by simpa using e2
          obtain ⟨h1, h2, rfl⟩ := row_inv e
          exact bsL_at e0 e1 (by omega) h1 h2
        · cases h
    · cases h
theorem oK_ok {fs : List FD} {tk : Tk} {g : Nat} (hg : 2 ^ 9000 ≤ g) {kd : List (Option Kd)} (R : ∀ f k, kd[f]? = some (some k) → RK fs k f) (d f : Nat) (ws : List W) (r : CO) (h : oK kd f ws = some r) : run fs tk g (5 + d + 1) f ws = r := by
  unfold oK at h
  split at h
  · rename_i k e
    exact kv_ok hg (R f k e) d ws r h
  · cases h
end Py

namespace Py
open PySem PySem.Spec PyProof.Rows L2
/-! ### loops by what stays -/
theorem lcL_map {step : W → Env → Out (Option W)} {f : W → W} {I : Env → Prop} : ∀ {its acc : List W} {ρ : Env}, (∀ w ∈ its, ∀ ρ, I ρ → ∃ ρ', step w ρ = .ok (some (f w)) ρ' ∧ I ρ') → I ρ → ∃ ρ', lcL step its acc ρ = .ok (acc ++ its.map f) ρ' ∧ I ρ'
  | [], acc, ρ, _, hi => ⟨ρ, by simp [lcL], hi⟩
  | w :: r, acc, ρ, hs, hi => by
    obtain ⟨ρ1, e1, i1⟩ := hs w List.mem_cons_self ρ hi
    obtain ⟨ρ2, e2, i2⟩ := lcL_map (its := r) (acc := acc ++ [f w]) (fun w h => hs w (List.mem_cons_of_mem _ h)) i1
    refine ⟨ρ2, ?_, i2⟩
    simp only [lcL, e1]
    rw [e2]
    simp
theorem lcL_ex {step : W → Env → Out (Option W)} {I : Env → Prop} {P : W → Prop} : ∀ {its acc : List W} {ρ : Env}, (∀ w ∈ its, ∀ ρ, I ρ → ∃ y ρ', step w ρ = .ok (some y) ρ' ∧ I ρ' ∧ P y) → I ρ → ∃ ys ρ', lcL step its acc ρ = .ok (acc ++ ys) ρ' ∧ I ρ' ∧ ys.length = its.length ∧ ∀ y ∈ ys, P y
  | [], acc, ρ, _, hi => ⟨[], ρ, by simp [lcL], hi, rfl, fun y h => nomatch h⟩
  | w :: r, acc, ρ, hs, hi => by
    obtain ⟨y, ρ1, e1, i1, p1⟩ := hs w List.mem_cons_self ρ hi
    obtain ⟨ys, ρ2, e2, i2, l2, p2⟩ := lcL_ex (its := r) (acc := acc ++ [y]) (fun w h => hs w (List.mem_cons_of_mem _ h)) i1
    refine ⟨y :: ys, ρ2, ?_, i2, by simp [l2], fun z hz => ?_⟩
    · simp only [lcL, e1]
      rw [e2]
      simp
    · rcases List.mem_cons.mp hz with rfl | hz
      · exact p1
      · exact p2 z hz
theorem forL_all {step : W → Env → SO} {I : List W → Env → Prop} : ∀ {its done : List W} {ρ : Env}, (∀ d w r, done ++ its = d ++ w :: r → done.length ≤ d.length → ∀ ρ, I d ρ → ∃ ρ', step w ρ = .nx ρ' ∧ I (d ++ [w]) ρ') → I done ρ → ∃ ρ', forL step its ρ = .nx ρ' ∧ I (done ++ its) ρ'
  | [], done, ρ, _, hi => ⟨ρ, rfl, by simpa using hi⟩
  | w :: r, done, ρ, hs, hi => by
    obtain ⟨ρ1, e1, i1⟩ := hs done w r rfl (Nat.le_refl _) ρ hi
    obtain ⟨ρ2, e2, i2⟩ := forL_all (its := r) (done := done ++ [w]) (fun d w' r' e hd => hs d w' r' (by simpa using e) (by simp at hd; omega)) i1
    refine ⟨ρ2, ?_, by simpa using i2⟩
    simp only [forL, e1]
    exact e2
theorem forL_rng {step : W → Env → SO} {I : Int → Env → Prop} : ∀ (n : Nat) {a : Int} {ρ : Env}, (∀ i ρ, a ≤ i → i < a + n → I i ρ → ∃ ρ', step (.int i) ρ = .nx ρ' ∧ I (i + 1) ρ') → I a ρ → ∃ ρ', forL step (rngL n a) ρ = .nx ρ' ∧ I (a + n) ρ'
  | 0, a, ρ, _, hi => ⟨ρ, rfl, by simpa using hi⟩
  | n + 1, a, ρ, hs, hi => by
    obtain ⟨ρ1, e1, i1⟩ := hs a ρ (Int.le_refl _) (by omega) hi
    obtain ⟨ρ2, e2, i2⟩ := forL_rng n (a := a + 1) (fun i ρ h1 h2 => hs i ρ (by omega) (by omega)) i1
    refine ⟨ρ2, ?_, by rw [show a + ((n + 1 : Nat) : Int) = a + 1 + n by omega]; exact i2⟩
    simp only [rngL, forL, e1]
    exact e2
/-! ### small things about values -/
theorem isD_rt (p : Int × Int) : isD (rt p) = false := rfl
theorem ne_rt (p : Int × Int) : cmpW .ne (rt p) (rt p) = some false := by
  show (if eqOk (rt p) (rt p) then some (!eqW (rt p) (rt p)) else none) = _
  rw [if_pos (show eqOk (rt p) (rt p) = true from rfl)]
  simp [rt, eqW, eqWs]
theorem neI (i : Int) : cmpW .ne (.int i) (.int i) = some false := by
  show (if eqOk (.int i) (.int i) then some (!eqW (.int i) (.int i)) else none) = _
  rw [if_pos (show eqOk (.int i) (.int i) = true from rfl)]
  simp [eqW]
theorem lk_mem {k v : W} : ∀ {kvs : List (W × W)}, lkW k kvs = some v → ∃ k', (k', v) ∈ kvs ∧ eqW k' k = true
  | [], h => by cases h
  | (a, u) :: r, h => by
    simp only [lkW] at h
    by_cases e : eqW a k = true
    · rw [if_pos e] at h
      cases h
      exact ⟨a, List.mem_cons_self, e⟩
    · rw [if_neg e] at h
      obtain ⟨k', m, e'⟩ := lk_mem h
      exact ⟨k', List.mem_cons_of_mem _ m, e'⟩
theorem pt_lk {k v : W} (hk : eqW k k = true) : ∀ (kvs : List (W × W)), lkW k (ptW k v kvs) = some v
  | [] => by simp [ptW, lkW, hk]
  | (a, u) :: r => by
    by_cases e : eqW a k = true
    · simp [ptW, lkW, e]
    · simp [ptW, lkW, e, pt_lk hk r]
theorem pt_ne {k k' v : W} (h0 : eqW k k' = false) : ∀ (kvs : List (W × W)), (∀ p ∈ kvs, ¬ (eqW p.1 k = true ∧ eqW p.1 k' = true)) → lkW k' (ptW k v kvs) = lkW k' kvs
  | [], _ => by simp [ptW, lkW, h0]
  | (a, u) :: r, h => by
    have ha : ¬ (eqW a k = true ∧ eqW a k' = true) := h (a, u) List.mem_cons_self
    by_cases e : eqW a k = true
    · have e' : eqW a k' = false := by
        cases q : eqW a k' with
        | false => rfl
        | true => exact absurd ⟨e, q⟩ ha
      simp [ptW, lkW, e, e']
    · have ih := pt_ne (k := k) (k' := k') (v := v) h0 r (fun p hp => h p (List.mem_cons_of_mem _ hp))
      show lkW k' (if eqW a k = true then (a, v) :: r else (a, u) :: ptW k v r) = _
      rw [if_neg e]
      simp only [lkW, ih]
theorem ptw_len (k v : W) : ∀ (kvs : List (W × W)), (ptW k v kvs).length ≤ kvs.length + 1
  | [] => by simp [ptW]
  | (a, u) :: r => by
    by_cases e : eqW a k = true
    · simp [ptW, e]
    · have := ptw_len k v r
      simp [ptW, e]; omega
theorem pt_key {k v : W} {p : W × W} : ∀ {kvs : List (W × W)}, p ∈ ptW k v kvs → p.1 = k ∨ ∃ q ∈ kvs, q.1 = p.1
  | [], h => by
    simp only [ptW, List.mem_singleton] at h
    subst h
    exact .inl rfl
  | (a, u) :: r, h => by
    by_cases e : eqW a k = true
    · simp only [ptW, e, if_true, List.mem_cons] at h
      rcases h with h | h
      · subst h; exact .inr ⟨(a, u), List.mem_cons_self, rfl⟩
      · exact .inr ⟨p, List.mem_cons_of_mem _ h, rfl⟩
    · rw [show ptW k v ((a, u) :: r) = (a, u) :: ptW k v r from if_neg e] at h
      rcases List.mem_cons.mp h with h | h
      · subst h; exact .inr ⟨(a, u), List.mem_cons_self, rfl⟩
      · exact (pt_key h).imp id fun ⟨q, h1, h2⟩ => ⟨q, List.mem_cons_of_mem _ h1, h2⟩
/-! ### bits -/
theorem bd.z {k : Nat} {p : Int × Int} (h : bd k p) : p.2 ≠ 0 := by have := h.2.1; omega
theorem one_bd : bd 1 (1, 1) := ⟨by decide, by decide, by decide⟩
theorem bsF_P {P : Int × Int → Prop} (cond : Int × Int → Int × Int → Bool) : ∀ (l : List (Int × Int)) (a : Int × Int), P a → (∀ p ∈ l, P p) → P (bsF cond a l)
  | [], a, ha, _ => ha
  | p :: l, a, ha, hl => by
    refine bsF_P cond l _ ?_ fun q hq => hl q (List.mem_cons_of_mem _ hq)
    split
    · exact hl p List.mem_cons_self
    · exact ha
theorem gMs_of {l : List (Int × Int)} (h : ∀ p ∈ l, gM p = true) : gMs l = true := List.all_eq_true.mpr h
/-- in a row, by the place of the first -/
theorem idx_some {y : W} : ∀ {l : List W}, (∃ w ∈ l, eqW w y = true) → ∃ n, idxW y l = some n
  | [], h => by obtain ⟨w, h, _⟩ := h; cases h
  | a :: r, h => by
    by_cases e : eqW a y = true
    · exact ⟨0, by simp [idxW, e]⟩
    · obtain ⟨w, hw, q⟩ := h
      rcases List.mem_cons.mp hw with rfl | hw
      · exact absurd q e
      · obtain ⟨n, hn⟩ := idx_some ⟨w, hw, q⟩
        exact ⟨n + 1, by simp [idxW, e, hn]⟩
theorem deps_rt : ∀ (l : List (Int × Int)), deps (l.map rt) ≤ 1
  | [] => by simp [deps]
  | p :: l => by
    have := deps_rt l
    have h : dep (rt p) = 1 := rfl
    simp only [List.map_cons, deps, h]
    omega
theorem eq_rt (p : Int × Int) : eqW (rt p) (rt p) = true := by simp [rt, eqW, eqWs]
theorem sz1 : 1 ≤ szL := by have : szL = 16777216 := rfl; omega
theorem sz2 : 2 ≤ szL := by have : szL = 16777216 := rfl; omega
theorem sz3 : 3 ≤ szL := by have : szL = 16777216 := rfl; omega
theorem sz4 : 4 ≤ szL := by have : szL = 16777216 := rfl; omega
theorem if_sz1 {α : Type} (a b : α) (w : W) : (if [w].length ≤ szL then a else b) = a := if_pos sz1
/-! ### a comprehension, a loop -/
theorem lc_ok {C : Fn} {elt t es : E} {p : Pt} {k : IK} {own : List Nat} {ρ ρ1 ρ3 : Env} {us : List Arg} {its outs : List W} (ha : (ev C es).a ρ = .ok us ρ1) (hb : (ress ρ1 us).bind (itW k) = some its) (hz : its.length ≤ szL) (hl : lcL (stepE own p (ev C t).t (ev C elt).x) its [] (lkE ρ1 us) = .ok outs ρ3) :
    (ev C (.lc elt p t k es own)).x ρ = .ok (.val (.lst outs) true) (ulE ρ1 (rsE (lkE ρ1 us) ρ3 own) us) := by
  have e : (ev C (.lc elt p t k es own)).x ρ = ((ev C es).a ρ).bind fun us ρ1 => match (ress ρ1 us).bind (itW k) with
      | none => .bad
      | some its => match lcL (stepE own p (ev C t).t (ev C elt).x) its [] (lkE ρ1 us) with
        | .ok acc ρ3 => if its.length ≤ szL then .ok (.val (.lst acc) true) (ulE ρ1 (rsE (lkE ρ1 us) ρ3 own) us) else .bad
        | _ => .bad := rfl
  rw [e, ha]
  simp only [Out.bind_ok, hb, hl, if_pos hz]
def stF (C : Fn) (tk : Tk) (g : Nat) (p : Pt) (b : S) (w : W) (ρ : Env) : SO := match asP p w ρ with
  | none => .bad
  | some ρ1 => xs C tk g b ρ1
theorem stF_ok {C : Fn} {tk : Tk} {g : Nat} {p : Pt} {b : S} {w : W} {ρ ρ1 : Env} (h : asP p w ρ = some ρ1) : stF C tk g p b w ρ = xs C tk g b ρ1 := by
  unfold stF
  rw [h]
theorem for_ok {C : Fn} {tk : Tk} {g : Nat} {es : E} {p : Pt} {k : IK} {b : S} {ρ ρ1 : Env} {us : List Arg} {its : List W} (ha : (ev C es).a ρ = .ok us ρ1) (hb : (ress ρ1 us).bind (itW k) = some its) :
    xs C tk g (.for_ p k es b) ρ = (forL (stF C tk g p b) its (lkE ρ1 us)).mapE fun ρ3 => ulE ρ1 ρ3 us := by
  have e : xs C tk g (.for_ p k es b) ρ = SO.bnd ((ev C es).a ρ) fun us ρ1 => match (ress ρ1 us).bind (itW k) with
    | none => .bad
    | some its => (forL (stF C tk g p b) its (lkE ρ1 us)).mapE fun ρ3 => ulE ρ1 ρ3 us := rfl
  rw [e, ha]
  simp only [SO.bnd_ok, hb]
/-- a comprehension's turn without a test -/
theorem step_ok {C : Fn} {elt : E} {p : Pt} {own : List Nat} {w y : W} {ρ ρ1 ρ2 : Env} (h1 : asP p w (wpE ρ own) = some ρ1) (h2 : stepV (ev C elt).x ρ1 = .ok (some y) ρ2) : stepE own p (ev C .nil).t (ev C elt).x w ρ = .ok (some y) ρ2 := by
  unfold stepE
  rw [h1]
  exact h2
theorem seq_nx {C : Fn} {tk : Tk} {g : Nat} {s r : S} {ρ ρ1 : Env} (h : xs C tk g s ρ = .nx ρ1) : xs C tk g (.seq s r) ρ = xs C tk g r ρ1 := by
  show SO.thn (xs C tk g s ρ) (fun ρ => xs C tk g r ρ) = _
  rw [h]
  rfl
theorem seq_rt {C : Fn} {tk : Tk} {g : Nat} {s r : S} {ρ ρ1 : Env} {w : W} {f : Bool} (h : xs C tk g s ρ = .rt w f ρ1) : xs C tk g (.seq s r) ρ = .rt w f ρ1 := by
  show SO.thn (xs C tk g s ρ) (fun ρ => xs C tk g r ρ) = _
  rw [h]
  rfl
end Py

namespace K36
open PySem PySem.Spec PyProof.Rows L2 Py
def top (i : Nat) : Stmt := PySem.Challenge.pw_worthstopping_k36_tosses_that_test_two_c.main.body.getD i (.Pass ⟨0, 0, 0, 0⟩)
def dd (i : Nat) (n : Str) : He.DefD := ⟨(n, none), n, n, defArgs (top i), defBody (top i), defScope (top i), [], []⟩
def S_common : S := (.seq (.par [0, 1] (.cons (.bi .abs (.cons (.var 0) .nil)) (.cons (.bi .abs (.cons (.var 1) .nil)) .nil))) (.seq (.whl (.var 1) (.seq (.par [0, 1] (.cons (.var 1) (.cons (.op .md (.var 0) (.var 1)) .nil))) .nil)) (.seq (.ret (.var 0)) .nil)))
def I_common : Info := ⟨dd 6 "common", ["a", "b"], ["a", "b"], ⟨2, [false, false], S_common⟩⟩
def S_lowest : S := (.seq (.asn 2 (.call 0 [false, false] (.cons (.var 0) (.cons (.var 1) .nil)))) (.seq (.asn 3 (.ite (.cmp .gt (.var 1) (.con (.int 0))) (.con (.int 1)) (.neg (.con (.int 1))))) (.seq (.ret (.tup (.cons (.op .fdv (.op .mul (.var 3) (.var 0)) (.var 2)) (.cons (.op .fdv (.op .mul (.var 3) (.var 1)) (.var 2)) .nil)))) .nil)))
def I_lowest : Info := ⟨dd 7 "lowest", ["a", "b"], ["a", "b", "divisor", "sign"], ⟨4, [false, false], S_lowest⟩⟩
def S_plus : S := (.seq (.ret (.call 1 [false, false] (.cons (.op .add (.op .mul (.ix (.var 0) (.con (.int 0))) (.ix (.var 1) (.con (.int 1)))) (.op .mul (.ix (.var 1) (.con (.int 0))) (.ix (.var 0) (.con (.int 1))))) (.cons (.op .mul (.ix (.var 0) (.con (.int 1))) (.ix (.var 1) (.con (.int 1)))) .nil)))) .nil)
def I_plus : Info := ⟨dd 8 "plus", ["p", "q"], ["p", "q"], ⟨2, [false, false], S_plus⟩⟩
def S_minus : S := (.seq (.ret (.call 1 [false, false] (.cons (.op .sub (.op .mul (.ix (.var 0) (.con (.int 0))) (.ix (.var 1) (.con (.int 1)))) (.op .mul (.ix (.var 1) (.con (.int 0))) (.ix (.var 0) (.con (.int 1))))) (.cons (.op .mul (.ix (.var 0) (.con (.int 1))) (.ix (.var 1) (.con (.int 1)))) .nil)))) .nil)
def I_minus : Info := ⟨dd 9 "minus", ["p", "q"], ["p", "q"], ⟨2, [false, false], S_minus⟩⟩
def S_times : S := (.seq (.ret (.call 1 [false, false] (.cons (.op .mul (.ix (.var 0) (.con (.int 0))) (.ix (.var 1) (.con (.int 0)))) (.cons (.op .mul (.ix (.var 0) (.con (.int 1))) (.ix (.var 1) (.con (.int 1)))) .nil)))) .nil)
def I_times : Info := ⟨dd 10 "times", ["p", "q"], ["p", "q"], ⟨2, [false, false], S_times⟩⟩
def S_divided : S := (.seq (.ret (.call 1 [false, false] (.cons (.op .mul (.ix (.var 0) (.con (.int 0))) (.ix (.var 1) (.con (.int 1)))) (.cons (.op .mul (.ix (.var 0) (.con (.int 1))) (.ix (.var 1) (.con (.int 0)))) .nil)))) .nil)
def I_divided : Info := ⟨dd 11 "divided", ["p", "q"], ["p", "q"], ⟨2, [false, false], S_divided⟩⟩
def S_less : S := (.seq (.ret (.cmp .lt (.op .mul (.ix (.var 0) (.con (.int 0))) (.ix (.var 1) (.con (.int 1)))) (.op .mul (.ix (.var 1) (.con (.int 0))) (.ix (.var 0) (.con (.int 1)))))) .nil)
def I_less : Info := ⟨dd 12 "less", ["p", "q"], ["p", "q"], ⟨2, [false, false], S_less⟩⟩
def S_least : S := (.seq (.asn 1 (.ix (.var 0) (.con (.int 0)))) (.seq (.for_ (.n 2) .seq (.cons (.var 0) .nil) (.seq (.ite (.call 6 [false, false] (.cons (.var 2) (.cons (.var 1) .nil))) (.seq (.asn 1 (.var 2)) .nil) .nil) .nil)) (.seq (.ret (.var 1)) .nil)))
def I_least : Info := ⟨dd 13 "least", ["ratios"], ["ratios", "best", "one"], ⟨3, [false], S_least⟩⟩
def S_toss_told : S := (.seq (.asn 3 (.call 2 [false, false] (.cons (.call 4 [false, false] (.cons (.var 2) (.cons (.var 0) .nil))) (.cons (.call 4 [false, false] (.cons (.call 3 [false, false] (.cons (.con (.tup [(.int 1), (.int 1)])) (.cons (.var 2) .nil))) (.cons (.var 1) .nil))) .nil)))) (.seq (.asn 4 (.ite (.cmp .ne (.var 3) (.con (.tup [(.int 0), (.int 1)]))) (.call 5 [false, false] (.cons (.call 4 [false, false] (.cons (.var 2) (.cons (.var 0) .nil))) (.cons (.var 3) .nil))) (.con .non))) (.seq (.asn 5 (.call 3 [false, false] (.cons (.con (.tup [(.int 1), (.int 1)])) (.cons (.var 3) .nil)))) (.seq (.asn 6 (.ite (.cmp .ne (.var 5) (.con (.tup [(.int 0), (.int 1)]))) (.call 5 [false, false] (.cons (.call 4 [false, false] (.cons (.var 2) (.cons (.call 3 [false, false] (.cons (.con (.tup [(.int 1), (.int 1)])) (.cons (.var 0) .nil))) .nil))) (.cons (.var 5) .nil))) (.con .non))) (.seq (.ret (.tup (.cons (.var 3) (.cons (.var 4) (.cons (.var 6) .nil))))) .nil)))))
def I_toss_told : Info := ⟨dd 15 "toss_told", ["p", "q", "prior"], ["p", "q", "prior", "both", "head", "other", "tail"], ⟨7, [false, false, false], S_toss_told⟩⟩
def S_say_cost : S := (.seq (.ret (.call 7 [false] (.cons (.lst (.cons (.var 0) (.cons (.call 3 [false, false] (.cons (.con (.tup [(.int 1), (.int 1)])) (.cons (.var 0) .nil))) .nil))) .nil))) .nil)
def I_say_cost : Info := ⟨dd 16 "say_cost", ["prior"], ["prior"], ⟨1, [false], S_say_cost⟩⟩
def S_toss_cost : S := (.seq (.asp (.t (.cons (.n 6) (.cons (.n 7) (.cons (.n 8) .nil)))) (.call 8 [false, false, false] (.cons (.var 0) (.cons (.var 1) (.cons (.var 2) .nil))))) (.seq (.asn 9 (.var 3)) (.seq (.ite (.cmp .isnt (.var 7) (.con .non)) (.seq (.asn 9 (.call 2 [false, false] (.cons (.var 9) (.cons (.call 4 [false, false] (.cons (.var 6) (.cons (.call 11 [false, false, false, false, false, true] (.cons (.var 0) (.cons (.var 1) (.cons (.var 7) (.cons (.var 3) (.cons (.op .sub (.var 4) (.con (.int 1))) (.cons (.var 5) .nil))))))) .nil))) .nil)))) .nil) .nil) (.seq (.ite (.cmp .isnt (.var 8) (.con .non)) (.seq (.asn 9 (.call 2 [false, false] (.cons (.var 9) (.cons (.call 4 [false, false] (.cons (.call 3 [false, false] (.cons (.con (.tup [(.int 1), (.int 1)])) (.cons (.var 6) .nil))) (.cons (.call 11 [false, false, false, false, false, true] (.cons (.var 0) (.cons (.var 1) (.cons (.var 8) (.cons (.var 3) (.cons (.op .sub (.var 4) (.con (.int 1))) (.cons (.var 5) .nil))))))) .nil))) .nil)))) .nil) .nil) (.seq (.ret (.var 9)) .nil)))))
def I_toss_cost : Info := ⟨dd 17 "toss_cost", ["p", "q", "prior", "cost", "n", "known"], ["p", "q", "prior", "cost", "n", "known", "both", "head", "tail", "found"], ⟨10, [false, false, false, false, false, true], S_toss_cost⟩⟩
def S_told_cost : S := (.seq (.ite (.cmp .nin (.tup (.cons (.var 4) (.cons (.var 2) .nil))) (.var 5)) (.seq (.asn 6 (.lst (.cons (.call 9 [false] (.cons (.var 2) .nil)) .nil))) (.seq (.ite (.cmp .gt (.var 4) (.con (.int 0))) (.seq (.mut .append 6 (.cons (.call 10 [false, false, false, false, false, true] (.cons (.var 0) (.cons (.var 1) (.cons (.var 2) (.cons (.var 3) (.cons (.var 4) (.cons (.var 5) .nil))))))) .nil)) .nil) .nil) (.seq (.six 5 (.tup (.cons (.var 4) (.cons (.var 2) .nil))) (.call 7 [false] (.cons (.var 6) .nil))) .nil))) .nil) (.seq (.ret (.ix (.var 5) (.tup (.cons (.var 4) (.cons (.var 2) .nil))))) .nil))
def I_told_cost : Info := ⟨dd 18 "told_cost", ["p", "q", "prior", "cost", "n", "known"], ["p", "q", "prior", "cost", "n", "known", "told"], ⟨7, [false, false, false, false, false, true], S_told_cost⟩⟩
def S_test_worth : S := (.seq (.ret (.call 11 [false, false, false, false, false, true] (.cons (.var 0) (.cons (.var 1) (.cons (.var 2) (.cons (.var 3) (.cons (.var 4) (.cons (.dsp .nil) .nil)))))))) .nil)
def I_test_worth : Info := ⟨dd 19 "test_worth", ["p", "q", "prior", "cost", "n"], ["p", "q", "prior", "cost", "n"], ⟨5, [false, false, false, false, false], S_test_worth⟩⟩
def S_test_next : S := (.seq (.ite (.and (.cmp .gt (.var 4) (.con (.int 0))) (.call 6 [false, false] (.cons (.call 10 [false, false, false, false, false, true] (.cons (.var 0) (.cons (.var 1) (.cons (.var 2) (.cons (.var 3) (.cons (.var 4) (.cons (.dsp .nil) .nil))))))) (.cons (.call 9 [false] (.cons (.var 2) .nil)) .nil)))) (.seq (.ret (.con (.str [116, 111, 115, 115]))) .nil) .nil) (.seq (.ret (.ite (.call 6 [false, false] (.cons (.var 2) (.cons (.tup (.cons (.con (.int 1)) (.cons (.con (.int 2)) .nil))) .nil))) (.con (.str [113])) (.con (.str [112])))) .nil))
def I_test_next : Info := ⟨dd 20 "test_next", ["p", "q", "prior", "cost", "n"], ["p", "q", "prior", "cost", "n"], ⟨5, [false, false, false, false, false], S_test_next⟩⟩
def S_prior_after : S := (.seq (.for_ (.n 5) .seq (.cons (.op .add (.op .mul (.lst (.cons (.con (.int 0)) .nil)) (.var 3)) (.op .mul (.lst (.cons (.con (.int 1)) .nil)) (.var 4))) .nil) (.seq (.asn 6 (.ix (.call 8 [false, false, false] (.cons (.var 0) (.cons (.var 1) (.cons (.var 2) .nil)))) (.op .add (.con (.int 1)) (.var 5)))) (.seq (.ite (.cmp .is (.var 6) (.con .non)) (.seq (.rais 0 .nil) .nil) .nil) (.seq (.asn 2 (.var 6)) .nil)))) (.seq (.ret (.var 2)) .nil))
def I_prior_after : Info := ⟨dd 21 "prior_after", ["p", "q", "prior", "heads", "tails"], ["p", "q", "prior", "heads", "tails", "seen", "told"], ⟨7, [false, false, false, false, false], S_prior_after⟩⟩
def S__law_draw : S := (.seq (.asn 1 (.con (.int 7))) (.seq (.for_ (.n 2) .seq (.cons (.var 0) .nil) (.seq (.asn 1 (.op .md (.bi .int (.cons (.op .add (.op .add (.op .mul (.var 1) (.con (.int 48271))) (.op .md (.bi .abs (.cons (.bi .int (.cons (.var 2) .nil)) .nil)) (.con (.int 65521)))) (.con (.int 1))) .nil)) (.con (.int 2147483647)))) .nil)) (.seq (.ret (.lst (.cons (.lc (.bi .abs (.cons (.bi .int (.cons (.var 2) .nil)) .nil)) (.n 2) .nil .seq (.cons (.var 0) .nil) [2]) (.cons (.neg (.con (.int 1))) (.cons (.con (.int 0)) (.cons (.var 1) .nil)))))) .nil)))
def I__law_draw : Info := ⟨dd 23 "_law_draw", ["script"], ["script", "seed", "cell"], ⟨3, [false], S__law_draw⟩⟩
def S__law_take : S := (.seq (.ite (.cmp .eq (.ix (.var 0) (.con (.int 2))) (.con (.int 0))) (.seq (.six 0 (.con (.int 1)) (.op .add (.ix (.var 0) (.con (.int 1))) (.con (.int 1)))) (.seq (.ite (.cmp .lt (.ix (.var 0) (.con (.int 1))) (.bi .len (.cons (.ix (.var 0) (.con (.int 0))) .nil))) (.seq (.six 0 (.con (.int 2)) (.ix (.ix (.var 0) (.con (.int 0))) (.ix (.var 0) (.con (.int 1))))) .nil) .nil) (.seq (.ite (.cmp .eq (.ix (.var 0) (.con (.int 2))) (.con (.int 0))) (.seq (.six 0 (.con (.int 3)) (.op .md (.bi .int (.cons (.op .add (.op .mul (.ix (.var 0) (.con (.int 3))) (.con (.int 48271))) (.con (.int 11))) .nil)) (.con (.int 2147483647)))) (.seq (.six 0 (.con (.int 2)) (.ix (.var 0) (.con (.int 3)))) .nil)) .nil) .nil))) .nil) (.seq (.asn 2 (.op .md (.bi .int (.cons (.ix (.var 0) (.con (.int 2))) .nil)) (.var 1))) (.seq (.six 0 (.con (.int 2)) (.op .fdv (.ix (.var 0) (.con (.int 2))) (.var 1))) (.seq (.ret (.var 2)) .nil))))
def I__law_take : Info := ⟨dd 24 "_law_take", ["draw", "many"], ["draw", "many", "found"], ⟨3, [true, false], S__law_take⟩⟩
def S__law_lowest : S := (.seq (.par [2, 3] (.cons (.bi .abs (.cons (.var 0) .nil)) (.cons (.bi .abs (.cons (.var 1) .nil)) .nil))) (.seq (.whl (.cmp .ne (.var 3) (.con (.int 0))) (.seq (.par [2, 3] (.cons (.var 3) (.cons (.op .sub (.var 2) (.op .mul (.var 3) (.op .fdv (.var 2) (.var 3)))) .nil))) .nil)) (.seq (.ret (.ite (.cmp .gt (.var 1) (.con (.int 0))) (.tup (.cons (.op .fdv (.var 0) (.var 2)) (.cons (.op .fdv (.var 1) (.var 2)) .nil))) (.tup (.cons (.op .fdv (.neg (.var 0)) (.var 2)) (.cons (.op .fdv (.neg (.var 1)) (.var 2)) .nil))))) .nil)))
def I__law_lowest : Info := ⟨dd 25 "_law_lowest", ["a", "b"], ["a", "b", "c", "d"], ⟨4, [false, false], S__law_lowest⟩⟩
def S__law_plus : S := (.seq (.ret (.call 17 [false, false] (.cons (.op .add (.op .mul (.ix (.var 0) (.con (.int 0))) (.ix (.var 1) (.con (.int 1)))) (.op .mul (.ix (.var 1) (.con (.int 0))) (.ix (.var 0) (.con (.int 1))))) (.cons (.op .mul (.ix (.var 0) (.con (.int 1))) (.ix (.var 1) (.con (.int 1)))) .nil)))) .nil)
def I__law_plus : Info := ⟨dd 26 "_law_plus", ["p", "q"], ["p", "q"], ⟨2, [false, false], S__law_plus⟩⟩
def S__law_times : S := (.seq (.ret (.call 17 [false, false] (.cons (.op .mul (.ix (.var 0) (.con (.int 0))) (.ix (.var 1) (.con (.int 0)))) (.cons (.op .mul (.ix (.var 0) (.con (.int 1))) (.ix (.var 1) (.con (.int 1)))) .nil)))) .nil)
def I__law_times : Info := ⟨dd 27 "_law_times", ["p", "q"], ["p", "q"], ⟨2, [false, false], S__law_times⟩⟩
def S__law_minus : S := (.seq (.ret (.call 18 [false, false] (.cons (.var 0) (.cons (.tup (.cons (.neg (.ix (.var 1) (.con (.int 0)))) (.cons (.ix (.var 1) (.con (.int 1))) .nil))) .nil)))) .nil)
def I__law_minus : Info := ⟨dd 28 "_law_minus", ["p", "q"], ["p", "q"], ⟨2, [false, false], S__law_minus⟩⟩
def S__law_over : S := (.seq (.ret (.call 17 [false, false] (.cons (.op .mul (.ix (.var 0) (.con (.int 0))) (.ix (.var 1) (.con (.int 1)))) (.cons (.op .mul (.ix (.var 0) (.con (.int 1))) (.ix (.var 1) (.con (.int 0)))) .nil)))) .nil)
def I__law_over : Info := ⟨dd 29 "_law_over", ["p", "q"], ["p", "q"], ⟨2, [false, false], S__law_over⟩⟩
def S__law_less : S := (.seq (.ret (.cmp .lt (.op .mul (.ix (.var 0) (.con (.int 0))) (.ix (.var 1) (.con (.int 1)))) (.op .mul (.ix (.var 1) (.con (.int 0))) (.ix (.var 0) (.con (.int 1)))))) .nil)
def I__law_less : Info := ⟨dd 30 "_law_less", ["p", "q"], ["p", "q"], ⟨2, [false, false], S__law_less⟩⟩
def S__law_best : S := (.seq (.asn 2 (.ix (.var 0) (.con (.int 0)))) (.seq (.for_ (.n 3) .seq (.cons (.var 0) .nil) (.seq (.ite (.or (.and (.call 22 [false, false] (.cons (.var 2) (.cons (.var 3) .nil))) (.cmp .eq (.var 1) (.con (.int 1)))) (.and (.call 22 [false, false] (.cons (.var 3) (.cons (.var 2) .nil))) (.cmp .eq (.var 1) (.neg (.con (.int 1)))))) (.seq (.asn 2 (.var 3)) .nil) .nil) .nil)) (.seq (.ret (.var 2)) .nil)))
def I__law_best : Info := ⟨dd 32 "_law_best", ["row", "sign"], ["row", "sign", "found", "one"], ⟨4, [false, false], S__law_best⟩⟩
def S__law_cost : S := (.seq (.asn 5 (.call 18 [false, false] (.cons (.ix (.var 2) (.con (.int 0))) (.cons (.ix (.var 2) (.con (.int 1))) .nil)))) (.seq (.asn 6 (.call 23 [false, false] (.cons (.lst (.cons (.ix (.var 2) (.con (.int 0))) (.cons (.ix (.var 2) (.con (.int 1))) .nil))) (.cons (.neg (.con (.int 1))) .nil)))) (.seq (.ite (.or (.cmp .eq (.var 4) (.con (.int 0))) (.cmp .eq (.var 5) (.tup (.cons (.con (.int 0)) (.cons (.con (.int 1)) .nil))))) (.seq (.ret (.var 6)) .nil) .nil) (.seq (.asn 7 (.call 19 [false, false] (.cons (.var 3) (.cons (.var 5) .nil)))) (.seq (.for_ (.t (.cons (.n 8) (.cons (.n 9) .nil))) .seq (.cons (.lst (.cons (.tup (.cons (.var 0) (.cons (.var 1) .nil))) (.cons (.tup (.cons (.call 20 [false, false] (.cons (.tup (.cons (.con (.int 1)) (.cons (.con (.int 1)) .nil))) (.cons (.var 0) .nil))) (.cons (.call 20 [false, false] (.cons (.tup (.cons (.con (.int 1)) (.cons (.con (.int 1)) .nil))) (.cons (.var 1) .nil))) .nil))) .nil))) .nil) (.seq (.asn 7 (.call 18 [false, false] (.cons (.var 7) (.cons (.call 24 [false, false, false, false, false] (.cons (.var 0) (.cons (.var 1) (.cons (.tup (.cons (.call 19 [false, false] (.cons (.ix (.var 2) (.con (.int 0))) (.cons (.var 8) .nil))) (.cons (.call 19 [false, false] (.cons (.ix (.var 2) (.con (.int 1))) (.cons (.var 9) .nil))) .nil))) (.cons (.var 3) (.cons (.op .sub (.var 4) (.con (.int 1))) .nil)))))) .nil)))) .nil)) (.seq (.ret (.call 23 [false, false] (.cons (.lst (.cons (.var 6) (.cons (.var 7) .nil))) (.cons (.neg (.con (.int 1))) .nil)))) .nil))))))
def I__law_cost : Info := ⟨dd 33 "_law_cost", ["p", "q", "weights", "cost", "n"], ["p", "q", "weights", "cost", "n", "whole", "say", "toss", "a", "b"], ⟨10, [false, false, false, false, false], S__law_cost⟩⟩
def S__law_toss : S := (.seq (.asn 5 (.call 19 [false, false] (.cons (.var 3) (.cons (.call 18 [false, false] (.cons (.ix (.var 2) (.con (.int 0))) (.cons (.ix (.var 2) (.con (.int 1))) .nil))) .nil)))) (.seq (.for_ (.t (.cons (.n 6) (.cons (.n 7) .nil))) .seq (.cons (.lst (.cons (.tup (.cons (.var 0) (.cons (.var 1) .nil))) (.cons (.tup (.cons (.call 20 [false, false] (.cons (.tup (.cons (.con (.int 1)) (.cons (.con (.int 1)) .nil))) (.cons (.var 0) .nil))) (.cons (.call 20 [false, false] (.cons (.tup (.cons (.con (.int 1)) (.cons (.con (.int 1)) .nil))) (.cons (.var 1) .nil))) .nil))) .nil))) .nil) (.seq (.asn 5 (.call 18 [false, false] (.cons (.var 5) (.cons (.call 24 [false, false, false, false, false] (.cons (.var 0) (.cons (.var 1) (.cons (.tup (.cons (.call 19 [false, false] (.cons (.ix (.var 2) (.con (.int 0))) (.cons (.var 6) .nil))) (.cons (.call 19 [false, false] (.cons (.ix (.var 2) (.con (.int 1))) (.cons (.var 7) .nil))) .nil))) (.cons (.var 3) (.cons (.op .sub (.var 4) (.con (.int 1))) .nil)))))) .nil)))) .nil)) (.seq (.ret (.var 5)) .nil)))
def I__law_toss : Info := ⟨dd 34 "_law_toss", ["p", "q", "weights", "cost", "n"], ["p", "q", "weights", "cost", "n", "toss", "a", "b"], ⟨8, [false, false, false, false, false], S__law_toss⟩⟩
def S__law_after : S := (.seq (.try_ (.seq (.ret (.call 14 [false, false, false, false, false] (.cons (.var 0) (.cons (.var 1) (.cons (.var 2) (.cons (.var 3) (.cons (.var 4) .nil))))))) .nil) 0 none (.seq (.ret (.con .non)) .nil)) .nil)
def I__law_after : Info := ⟨dd 35 "_law_after", ["p", "q", "prior", "heads", "tails"], ["p", "q", "prior", "heads", "tails"], ⟨5, [false, false, false, false, false], S__law_after⟩⟩
def S_law : S := (.seq (.asn 1 (.call 15 [false] (.cons (.var 0) .nil))) (.seq (.asn 2 (.lst (.cons (.tup (.cons (.con (.int 0)) (.cons (.con (.int 1)) .nil))) (.cons (.tup (.cons (.con (.int 1)) (.cons (.con (.int 3)) .nil))) (.cons (.tup (.cons (.con (.int 1)) (.cons (.con (.int 2)) .nil))) (.cons (.tup (.cons (.con (.int 2)) (.cons (.con (.int 3)) .nil))) (.cons (.tup (.cons (.con (.int 1)) (.cons (.con (.int 1)) .nil))) (.cons (.tup (.cons (.con (.int 3)) (.cons (.con (.int 4)) .nil))) .nil)))))))) (.seq (.for_ (.n 3) .rng (.cons (.con (.int 3)) .nil) (.seq (.popi 4 2 (.cons (.call 16 [true, false] (.cons (.var 1) (.cons (.bi .len (.cons (.var 2) .nil)) .nil))) .nil)) (.seq (.par [5, 6] (.cons (.ix (.var 2) (.call 16 [true, false] (.cons (.var 1) (.cons (.bi .len (.cons (.var 2) .nil)) .nil)))) (.cons (.ix (.lst (.cons (.tup (.cons (.con (.int 1)) (.cons (.con (.int 2)) .nil))) (.cons (.tup (.cons (.con (.int 1)) (.cons (.con (.int 3)) .nil))) (.cons (.tup (.cons (.con (.int 0)) (.cons (.con (.int 1)) .nil))) (.cons (.tup (.cons (.con (.int 3)) (.cons (.con (.int 4)) .nil))) (.cons (.tup (.cons (.con (.int 1)) (.cons (.con (.int 1)) .nil))) .nil)))))) (.call 16 [true, false] (.cons (.var 1) (.cons (.con (.int 5)) .nil)))) .nil))) (.seq (.par [7, 8] (.cons (.ix (.lst (.cons (.tup (.cons (.con (.int 0)) (.cons (.con (.int 1)) .nil))) (.cons (.tup (.cons (.con (.int 1)) (.cons (.con (.int 20)) .nil))) (.cons (.tup (.cons (.con (.int 1)) (.cons (.con (.int 8)) .nil))) (.cons (.tup (.cons (.con (.int 1)) (.cons (.con (.int 100)) .nil))) .nil))))) (.call 16 [true, false] (.cons (.var 1) (.cons (.con (.int 4)) .nil)))) (.cons (.call 16 [true, false] (.cons (.var 1) (.cons (.con (.int 6)) .nil))) .nil))) (.seq (.asn 9 (.tup (.cons (.var 6) (.cons (.call 20 [false, false] (.cons (.tup (.cons (.con (.int 1)) (.cons (.con (.int 1)) .nil))) (.cons (.var 6) .nil))) .nil)))) (.seq (.ite (.or (.cmp .ne (.call 12 [false, false, false, false, false] (.cons (.var 4) (.cons (.var 5) (.cons (.var 6) (.cons (.var 7) (.cons (.var 8) .nil)))))) (.call 24 [false, false, false, false, false] (.cons (.var 4) (.cons (.var 5) (.cons (.var 9) (.cons (.var 7) (.cons (.var 8) .nil))))))) (.not (.isi (.call 12 [false, false, false, false, false] (.cons (.var 4) (.cons (.var 5) (.cons (.var 6) (.cons (.var 7) (.cons (.var 8) .nil)))))) .tuple))) (.seq (.ret (.con (.bl false))) .nil) .nil) (.seq (.asn 10 (.ite (.call 22 [false, false] (.cons (.var 6) (.cons (.tup (.cons (.con (.int 1)) (.cons (.con (.int 2)) .nil))) .nil))) (.con (.str [113])) (.con (.str [112])))) (.seq (.asn 11 (.ite (.and (.cmp .gt (.var 8) (.con (.int 0))) (.call 22 [false, false] (.cons (.call 25 [false, false, false, false, false] (.cons (.var 4) (.cons (.var 5) (.cons (.var 9) (.cons (.var 7) (.cons (.var 8) .nil)))))) (.cons (.call 23 [false, false] (.cons (.bi .list (.cons (.var 9) .nil)) (.cons (.neg (.con (.int 1))) .nil))) .nil)))) (.con (.str [116, 111, 115, 115])) (.var 10))) (.seq (.ite (.cmp .ne (.call 13 [false, false, false, false, false] (.cons (.var 4) (.cons (.var 5) (.cons (.var 6) (.cons (.var 7) (.cons (.var 8) .nil)))))) (.var 11)) (.seq (.ret (.con (.bl false))) .nil) .nil) (.seq (.par [12, 13] (.cons (.call 16 [true, false] (.cons (.var 1) (.cons (.con (.int 4)) .nil))) (.cons (.call 16 [true, false] (.cons (.var 1) (.cons (.con (.int 4)) .nil))) .nil))) (.seq (.asp (.t (.cons (.n 14) (.cons (.n 15) .nil))) (.var 9)) (.seq (.for_ (.n 16) .rng (.cons (.var 12) .nil) (.seq (.par [14, 15] (.cons (.call 19 [false, false] (.cons (.var 14) (.cons (.var 4) .nil))) (.cons (.call 19 [false, false] (.cons (.var 15) (.cons (.var 5) .nil))) .nil))) .nil)) (.seq (.for_ (.n 16) .rng (.cons (.var 13) .nil) (.seq (.par [14, 15] (.cons (.call 19 [false, false] (.cons (.var 14) (.cons (.call 20 [false, false] (.cons (.tup (.cons (.con (.int 1)) (.cons (.con (.int 1)) .nil))) (.cons (.var 4) .nil))) .nil))) (.cons (.call 19 [false, false] (.cons (.var 15) (.cons (.call 20 [false, false] (.cons (.tup (.cons (.con (.int 1)) (.cons (.con (.int 1)) .nil))) (.cons (.var 5) .nil))) .nil))) .nil))) .nil)) (.seq (.asn 17 (.call 18 [false, false] (.cons (.var 14) (.cons (.var 15) .nil)))) (.seq (.ite (.cmp .ne (.call 26 [false, false, false, false, false] (.cons (.var 4) (.cons (.var 5) (.cons (.var 6) (.cons (.var 12) (.cons (.var 13) .nil)))))) (.ite (.cmp .ne (.var 17) (.tup (.cons (.con (.int 0)) (.cons (.con (.int 1)) .nil)))) (.call 21 [false, false] (.cons (.var 14) (.cons (.var 17) .nil))) (.con .non))) (.seq (.ret (.con (.bl false))) .nil) .nil) .nil))))))))))))))) (.seq (.ret (.and (.cmp .eq (.call 12 [false, false, false, false, false] (.cons (.tup (.cons (.con (.int 0)) (.cons (.con (.int 1)) .nil))) (.cons (.tup (.cons (.con (.int 1)) (.cons (.con (.int 1)) .nil))) (.cons (.tup (.cons (.con (.int 1)) (.cons (.con (.int 2)) .nil))) (.cons (.tup (.cons (.con (.int 1)) (.cons (.con (.int 9)) .nil))) (.cons (.con (.int 3)) .nil)))))) (.tup (.cons (.con (.int 1)) (.cons (.con (.int 9)) .nil)))) (.cmp .eq (.call 13 [false, false, false, false, false] (.cons (.tup (.cons (.con (.int 0)) (.cons (.con (.int 1)) .nil))) (.cons (.tup (.cons (.con (.int 1)) (.cons (.con (.int 1)) .nil))) (.cons (.tup (.cons (.con (.int 1)) (.cons (.con (.int 2)) .nil))) (.cons (.tup (.cons (.con (.int 1)) (.cons (.con (.int 2)) .nil))) (.cons (.con (.int 3)) .nil)))))) (.con (.str [112]))))) .nil))))
def I_law : Info := ⟨dd 36 "law", ["script"], ["script", "draw", "chances", "turn", "p", "q", "prior", "cost", "n", "weights", "say", "due", "heads", "tails", "one", "other", "k", "whole"], ⟨18, [false], S_law⟩⟩
abbrev fsL : List Info := [I_common, I_lowest, I_plus, I_minus, I_times, I_divided, I_less, I_least, I_toss_told, I_say_cost, I_toss_cost, I_told_cost, I_test_worth, I_test_next, I_prior_after, I__law_draw, I__law_take, I__law_lowest, I__law_plus, I__law_times, I__law_minus, I__law_over, I__law_less, I__law_best, I__law_cost, I__law_toss, I__law_after, I_law]
abbrev xnL : List Str := ["Missing"]
abbrev bnL : List Str := ["abs", "int", "isinstance", "len", "list", "range", "tuple"]
abbrev csL : List (Str × W) := [("ONE", (.tup [(.int 1), (.int 1)])), ("ZERO", (.tup [(.int 0), (.int 1)]))]
theorem m_abs : ("abs" : Str) ∈ bnL := .head _
theorem m_int : ("int" : Str) ∈ bnL := .tail _ (.head _)
theorem m_isinstance : ("isinstance" : Str) ∈ bnL := .tail _ (.tail _ (.head _))
theorem m_len : ("len" : Str) ∈ bnL := .tail _ (.tail _ (.tail _ (.head _)))
theorem m_list : ("list" : Str) ∈ bnL := .tail _ (.tail _ (.tail _ (.tail _ (.head _))))
theorem m_range : ("range" : Str) ∈ bnL := .tail _ (.tail _ (.tail _ (.tail _ (.tail _ (.head _)))))
theorem m_tuple : ("tuple" : Str) ∈ bnL := .tail _ (.tail _ (.tail _ (.tail _ (.tail _ (.tail _ (.head _))))))
theorem mc_ONE : (("ONE" : Str), (((.tup [(.int 1), (.int 1)])) : W)) ∈ csL := .head _
theorem mc_ZERO : (("ZERO" : Str), (((.tup [(.int 0), (.int 1)])) : W)) ∈ csL := .tail _ (.head _)
section
variable [HW]
theorem B_common {Z : Wd} (zx : Z.xn = xnL) (d : Nat) (cdv : Value) (A : Around) (outer : List PySem.Env) (s : Shared) (H : Hp) (E : XK) (B : Bd fsL Z bnL csL d (Z.cf fsL d E) (Z.X I_common cdv A outer s H E)) : PSs (Z.X I_common cdv A outer s H E) I_common.d.body (tS (Z.cf fsL d E) Z.tk Z.g I_common.fd.b) :=
  (s_cons (s_par2 B.calm B.nd rfl rfl rfl rfl (a_cons rfl (x_bi B.hc B.calm rfl rfl (B.mb m_abs) rfl (a_cons rfl (x_var (pv 0)) a_nil)) (a_cons rfl (x_bi B.hc B.calm rfl rfl (B.mb m_abs) rfl (a_cons rfl (x_var (pv 1)) a_nil)) a_nil)) rfl (by decide)) (s_cons (s_whl B.po (t_var B (x_var (pv 1))) (s_cons (s_par2 B.calm B.nd rfl rfl rfl rfl (a_cons rfl (x_var (pv 1)) (a_cons rfl (x_op B.hc rfl (x_var (pv 0)) (x_var (pv 1))) a_nil)) rfl (by decide)) s_nil)) (s_cons (s_ret (x_var (pv 0))) s_nil)))
theorem B_lowest {Z : Wd} (zx : Z.xn = xnL) (d : Nat) (cdv : Value) (A : Around) (outer : List PySem.Env) (s : Shared) (H : Hp) (E : XK) (B : Bd fsL Z bnL csL d (Z.cf fsL d E) (Z.X I_lowest cdv A outer s H E)) : PSs (Z.X I_lowest cdv A outer s H E) I_lowest.d.body (tS (Z.cf fsL d E) Z.tk Z.g I_lowest.fd.b) :=
  (s_cons (s_asn B.nd rfl (by first | exact Or.inl rfl | exact Or.inr rfl) (Or.inl rfl) (b_call B 0 rfl rfl rfl rfl rfl (a_cons rfl (x_var (pv 0)) (a_cons rfl (x_var (pv 1)) a_nil))) rfl) (s_cons (s_asn B.nd rfl (by first | exact Or.inl rfl | exact Or.inr rfl) (Or.inl rfl) (x_ite (t_cmp B.hc B.hw B.hu rfl rfl (x_var (pv 1)) x_int) x_int (x_neg B.hc x_int)) rfl) (s_cons (s_ret (x_tup (a_cons rfl (x_op B.hc rfl (x_op B.hc rfl (x_var (pv 3)) (x_var (pv 0))) (x_var (pv 2))) (a_cons rfl (x_op B.hc rfl (x_op B.hc rfl (x_var (pv 3)) (x_var (pv 1))) (x_var (pv 2))) a_nil)))) s_nil)))
theorem B_plus {Z : Wd} (zx : Z.xn = xnL) (d : Nat) (cdv : Value) (A : Around) (outer : List PySem.Env) (s : Shared) (H : Hp) (E : XK) (B : Bd fsL Z bnL csL d (Z.cf fsL d E) (Z.X I_plus cdv A outer s H E)) : PSs (Z.X I_plus cdv A outer s H E) I_plus.d.body (tS (Z.cf fsL d E) Z.tk Z.g I_plus.fd.b) :=
  (s_cons (s_ret (b_call B 1 rfl rfl rfl rfl rfl (a_cons rfl (x_op B.hc rfl (x_op B.hc rfl (x_ix B.hc B.hw B.hu (fun _ _ => rfl) (x_var (pv 0)) x_int) (x_ix B.hc B.hw B.hu (fun _ _ => rfl) (x_var (pv 1)) x_int)) (x_op B.hc rfl (x_ix B.hc B.hw B.hu (fun _ _ => rfl) (x_var (pv 1)) x_int) (x_ix B.hc B.hw B.hu (fun _ _ => rfl) (x_var (pv 0)) x_int))) (a_cons rfl (x_op B.hc rfl (x_ix B.hc B.hw B.hu (fun _ _ => rfl) (x_var (pv 0)) x_int) (x_ix B.hc B.hw B.hu (fun _ _ => rfl) (x_var (pv 1)) x_int)) a_nil)))) s_nil)
theorem B_minus {Z : Wd} (zx : Z.xn = xnL) (d : Nat) (cdv : Value) (A : Around) (outer : List PySem.Env) (s : Shared) (H : Hp) (E : XK) (B : Bd fsL Z bnL csL d (Z.cf fsL d E) (Z.X I_minus cdv A outer s H E)) : PSs (Z.X I_minus cdv A outer s H E) I_minus.d.body (tS (Z.cf fsL d E) Z.tk Z.g I_minus.fd.b) :=
  (s_cons (s_ret (b_call B 1 rfl rfl rfl rfl rfl (a_cons rfl (x_op B.hc rfl (x_op B.hc rfl (x_ix B.hc B.hw B.hu (fun _ _ => rfl) (x_var (pv 0)) x_int) (x_ix B.hc B.hw B.hu (fun _ _ => rfl) (x_var (pv 1)) x_int)) (x_op B.hc rfl (x_ix B.hc B.hw B.hu (fun _ _ => rfl) (x_var (pv 1)) x_int) (x_ix B.hc B.hw B.hu (fun _ _ => rfl) (x_var (pv 0)) x_int))) (a_cons rfl (x_op B.hc rfl (x_ix B.hc B.hw B.hu (fun _ _ => rfl) (x_var (pv 0)) x_int) (x_ix B.hc B.hw B.hu (fun _ _ => rfl) (x_var (pv 1)) x_int)) a_nil)))) s_nil)
theorem B_times {Z : Wd} (zx : Z.xn = xnL) (d : Nat) (cdv : Value) (A : Around) (outer : List PySem.Env) (s : Shared) (H : Hp) (E : XK) (B : Bd fsL Z bnL csL d (Z.cf fsL d E) (Z.X I_times cdv A outer s H E)) : PSs (Z.X I_times cdv A outer s H E) I_times.d.body (tS (Z.cf fsL d E) Z.tk Z.g I_times.fd.b) :=
  (s_cons (s_ret (b_call B 1 rfl rfl rfl rfl rfl (a_cons rfl (x_op B.hc rfl (x_ix B.hc B.hw B.hu (fun _ _ => rfl) (x_var (pv 0)) x_int) (x_ix B.hc B.hw B.hu (fun _ _ => rfl) (x_var (pv 1)) x_int)) (a_cons rfl (x_op B.hc rfl (x_ix B.hc B.hw B.hu (fun _ _ => rfl) (x_var (pv 0)) x_int) (x_ix B.hc B.hw B.hu (fun _ _ => rfl) (x_var (pv 1)) x_int)) a_nil)))) s_nil)
theorem B_divided {Z : Wd} (zx : Z.xn = xnL) (d : Nat) (cdv : Value) (A : Around) (outer : List PySem.Env) (s : Shared) (H : Hp) (E : XK) (B : Bd fsL Z bnL csL d (Z.cf fsL d E) (Z.X I_divided cdv A outer s H E)) : PSs (Z.X I_divided cdv A outer s H E) I_divided.d.body (tS (Z.cf fsL d E) Z.tk Z.g I_divided.fd.b) :=
  (s_cons (s_ret (b_call B 1 rfl rfl rfl rfl rfl (a_cons rfl (x_op B.hc rfl (x_ix B.hc B.hw B.hu (fun _ _ => rfl) (x_var (pv 0)) x_int) (x_ix B.hc B.hw B.hu (fun _ _ => rfl) (x_var (pv 1)) x_int)) (a_cons rfl (x_op B.hc rfl (x_ix B.hc B.hw B.hu (fun _ _ => rfl) (x_var (pv 0)) x_int) (x_ix B.hc B.hw B.hu (fun _ _ => rfl) (x_var (pv 1)) x_int)) a_nil)))) s_nil)
theorem B_less {Z : Wd} (zx : Z.xn = xnL) (d : Nat) (cdv : Value) (A : Around) (outer : List PySem.Env) (s : Shared) (H : Hp) (E : XK) (B : Bd fsL Z bnL csL d (Z.cf fsL d E) (Z.X I_less cdv A outer s H E)) : PSs (Z.X I_less cdv A outer s H E) I_less.d.body (tS (Z.cf fsL d E) Z.tk Z.g I_less.fd.b) :=
  (s_cons (s_ret (x_cmp B.hc B.hw B.hu rfl rfl (x_op B.hc rfl (x_ix B.hc B.hw B.hu (fun _ _ => rfl) (x_var (pv 0)) x_int) (x_ix B.hc B.hw B.hu (fun _ _ => rfl) (x_var (pv 1)) x_int)) (x_op B.hc rfl (x_ix B.hc B.hw B.hu (fun _ _ => rfl) (x_var (pv 1)) x_int) (x_ix B.hc B.hw B.hu (fun _ _ => rfl) (x_var (pv 0)) x_int)))) s_nil)
theorem B_least {Z : Wd} (zx : Z.xn = xnL) (d : Nat) (cdv : Value) (A : Around) (outer : List PySem.Env) (s : Shared) (H : Hp) (E : XK) (B : Bd fsL Z bnL csL d (Z.cf fsL d E) (Z.X I_least cdv A outer s H E)) : PSs (Z.X I_least cdv A outer s H E) I_least.d.body (tS (Z.cf fsL d E) Z.tk Z.g I_least.fd.b) :=
  (s_cons (s_asn B.nd rfl (by first | exact Or.inl rfl | exact Or.inr rfl) (Or.inl rfl) (x_ix B.hc B.hw B.hu (fun _ _ => rfl) (x_var (pv 0)) x_int) rfl) (s_cons (b_for B (i_seq B.hc (x_var (pv 0))) (g_name B.nd rfl (by first | exact Or.inl rfl | exact Or.inr rfl) (by first | exact Or.inl rfl | exact Or.inr rfl)) (s_cons (s_ite (t_plain B.hc (b_call B 6 rfl rfl rfl rfl rfl (a_cons rfl (x_var (pv 2)) (a_cons rfl (x_var (pv 1)) a_nil))) (fun _ => rfl) (fun _ => rfl)) (s_cons (s_asn B.nd rfl (by first | exact Or.inl rfl | exact Or.inr rfl) (Or.inl rfl) (x_var (pv 2)) rfl) s_nil) s_nil) s_nil) (fun _ => rfl)) (s_cons (s_ret (x_var (pv 1))) s_nil)))
theorem B_toss_told {Z : Wd} (zx : Z.xn = xnL) (d : Nat) (cdv : Value) (A : Around) (outer : List PySem.Env) (s : Shared) (H : Hp) (E : XK) (B : Bd fsL Z bnL csL d (Z.cf fsL d E) (Z.X I_toss_told cdv A outer s H E)) : PSs (Z.X I_toss_told cdv A outer s H E) I_toss_told.d.body (tS (Z.cf fsL d E) Z.tk Z.g I_toss_told.fd.b) :=
  (s_cons (s_asn B.nd rfl (by first | exact Or.inl rfl | exact Or.inr rfl) (Or.inl rfl) (b_call B 2 rfl rfl rfl rfl rfl (a_cons rfl (b_call B 4 rfl rfl rfl rfl rfl (a_cons rfl (x_var (pv 2)) (a_cons rfl (x_var (pv 0)) a_nil))) (a_cons rfl (b_call B 4 rfl rfl rfl rfl rfl (a_cons rfl (b_call B 3 rfl rfl rfl rfl rfl (a_cons rfl (b_glob B mc_ONE rfl rfl) (a_cons rfl (x_var (pv 2)) a_nil))) (a_cons rfl (x_var (pv 1)) a_nil))) a_nil))) rfl) (s_cons (s_asn B.nd rfl (by first | exact Or.inl rfl | exact Or.inr rfl) (Or.inl rfl) (x_ite (t_cmp B.hc B.hw B.hu rfl rfl (x_var (pv 3)) (b_glob B mc_ZERO rfl rfl)) (b_call B 5 rfl rfl rfl rfl rfl (a_cons rfl (b_call B 4 rfl rfl rfl rfl rfl (a_cons rfl (x_var (pv 2)) (a_cons rfl (x_var (pv 0)) a_nil))) (a_cons rfl (x_var (pv 3)) a_nil))) x_non) rfl) (s_cons (s_asn B.nd rfl (by first | exact Or.inl rfl | exact Or.inr rfl) (Or.inl rfl) (b_call B 3 rfl rfl rfl rfl rfl (a_cons rfl (b_glob B mc_ONE rfl rfl) (a_cons rfl (x_var (pv 3)) a_nil))) rfl) (s_cons (s_asn B.nd rfl (by first | exact Or.inl rfl | exact Or.inr rfl) (Or.inl rfl) (x_ite (t_cmp B.hc B.hw B.hu rfl rfl (x_var (pv 5)) (b_glob B mc_ZERO rfl rfl)) (b_call B 5 rfl rfl rfl rfl rfl (a_cons rfl (b_call B 4 rfl rfl rfl rfl rfl (a_cons rfl (x_var (pv 2)) (a_cons rfl (b_call B 3 rfl rfl rfl rfl rfl (a_cons rfl (b_glob B mc_ONE rfl rfl) (a_cons rfl (x_var (pv 0)) a_nil))) a_nil))) (a_cons rfl (x_var (pv 5)) a_nil))) x_non) rfl) (s_cons (s_ret (x_tup (a_cons rfl (x_var (pv 3)) (a_cons rfl (x_var (pv 4)) (a_cons rfl (x_var (pv 6)) a_nil))))) s_nil)))))
theorem B_say_cost {Z : Wd} (zx : Z.xn = xnL) (d : Nat) (cdv : Value) (A : Around) (outer : List PySem.Env) (s : Shared) (H : Hp) (E : XK) (B : Bd fsL Z bnL csL d (Z.cf fsL d E) (Z.X I_say_cost cdv A outer s H E)) : PSs (Z.X I_say_cost cdv A outer s H E) I_say_cost.d.body (tS (Z.cf fsL d E) Z.tk Z.g I_say_cost.fd.b) :=
  (s_cons (s_ret (b_call B 7 rfl rfl rfl rfl rfl (a_cons rfl (x_lst (a_cons rfl (x_var (pv 0)) (a_cons rfl (b_call B 3 rfl rfl rfl rfl rfl (a_cons rfl (b_glob B mc_ONE rfl rfl) (a_cons rfl (x_var (pv 0)) a_nil))) a_nil))) a_nil))) s_nil)
theorem B_toss_cost {Z : Wd} (zx : Z.xn = xnL) (d : Nat) (cdv : Value) (A : Around) (outer : List PySem.Env) (s : Shared) (H : Hp) (E : XK) (B : Bd fsL Z bnL csL d (Z.cf fsL d E) (Z.X I_toss_cost cdv A outer s H E)) : PSs (Z.X I_toss_cost cdv A outer s H E) I_toss_cost.d.body (tS (Z.cf fsL d E) Z.tk Z.g I_toss_cost.fd.b) :=
  (s_cons (s_asp (g_tupB B rfl rfl (g_cons rfl (g_name B.nd rfl (by first | exact Or.inl rfl | exact Or.inr rfl) (by first | exact Or.inl rfl | exact Or.inr rfl)) (g_cons rfl (g_name B.nd rfl (by first | exact Or.inl rfl | exact Or.inr rfl) (by first | exact Or.inl rfl | exact Or.inr rfl)) (g_cons rfl (g_name B.nd rfl (by first | exact Or.inl rfl | exact Or.inr rfl) (by first | exact Or.inl rfl | exact Or.inr rfl)) g_nil)))) B.hc (b_call B 8 rfl rfl rfl rfl rfl (a_cons rfl (x_var (pv 0)) (a_cons rfl (x_var (pv 1)) (a_cons rfl (x_var (pv 2)) a_nil)))) rfl rfl rfl) (s_cons (s_asn B.nd rfl (by first | exact Or.inl rfl | exact Or.inr rfl) (Or.inl rfl) (x_var (pv 3)) rfl) (s_cons (s_ite (t_cmp B.hc B.hw B.hu rfl rfl (x_var (pv 7)) x_non) (s_cons (s_asn B.nd rfl (by first | exact Or.inl rfl | exact Or.inr rfl) (Or.inl rfl) (b_call B 2 rfl rfl rfl rfl rfl (a_cons rfl (x_var (pv 9)) (a_cons rfl (b_call B 4 rfl rfl rfl rfl rfl (a_cons rfl (x_var (pv 6)) (a_cons rfl (b_call B 11 rfl rfl rfl rfl rfl (a_cons rfl (x_var (pv 0)) (a_cons rfl (x_var (pv 1)) (a_cons rfl (x_var (pv 7)) (a_cons rfl (x_var (pv 3)) (a_cons rfl (x_op B.hc rfl (x_var (pv 4)) x_int) (a_cons rfl (x_var (pv 5)) a_nil))))))) a_nil))) a_nil))) rfl) s_nil) s_nil) (s_cons (s_ite (t_cmp B.hc B.hw B.hu rfl rfl (x_var (pv 8)) x_non) (s_cons (s_asn B.nd rfl (by first | exact Or.inl rfl | exact Or.inr rfl) (Or.inl rfl) (b_call B 2 rfl rfl rfl rfl rfl (a_cons rfl (x_var (pv 9)) (a_cons rfl (b_call B 4 rfl rfl rfl rfl rfl (a_cons rfl (b_call B 3 rfl rfl rfl rfl rfl (a_cons rfl (b_glob B mc_ONE rfl rfl) (a_cons rfl (x_var (pv 6)) a_nil))) (a_cons rfl (b_call B 11 rfl rfl rfl rfl rfl (a_cons rfl (x_var (pv 0)) (a_cons rfl (x_var (pv 1)) (a_cons rfl (x_var (pv 8)) (a_cons rfl (x_var (pv 3)) (a_cons rfl (x_op B.hc rfl (x_var (pv 4)) x_int) (a_cons rfl (x_var (pv 5)) a_nil))))))) a_nil))) a_nil))) rfl) s_nil) s_nil) (s_cons (s_ret (x_var (pv 9))) s_nil)))))
theorem B_told_cost {Z : Wd} (zx : Z.xn = xnL) (d : Nat) (cdv : Value) (A : Around) (outer : List PySem.Env) (s : Shared) (H : Hp) (E : XK) (B : Bd fsL Z bnL csL d (Z.cf fsL d E) (Z.X I_told_cost cdv A outer s H E)) : PSs (Z.X I_told_cost cdv A outer s H E) I_told_cost.d.body (tS (Z.cf fsL d E) Z.tk Z.g I_told_cost.fd.b) :=
  (s_cons (s_ite (t_cmp B.hc B.hw B.hu rfl rfl (x_tup (a_cons rfl (x_var (pv 4)) (a_cons rfl (x_var (pv 2)) a_nil))) (x_var (pv 5))) (s_cons (s_asn B.nd rfl (by first | exact Or.inl rfl | exact Or.inr rfl) (Or.inl rfl) (x_lst (a_cons rfl (b_call B 9 rfl rfl rfl rfl rfl (a_cons rfl (x_var (pv 2)) a_nil)) a_nil)) rfl) (s_cons (s_ite (t_cmp B.hc B.hw B.hu rfl rfl (x_var (pv 4)) x_int) (s_cons (s_append B.hc (pv 6) rfl (a_cons rfl (b_call B 10 rfl rfl rfl rfl rfl (a_cons rfl (x_var (pv 0)) (a_cons rfl (x_var (pv 1)) (a_cons rfl (x_var (pv 2)) (a_cons rfl (x_var (pv 3)) (a_cons rfl (x_var (pv 4)) (a_cons rfl (x_var (pv 5)) a_nil))))))) a_nil) rfl rfl) s_nil) s_nil) (s_cons (s_six B.hc B.hw B.hu (pv 5) (x_tup (a_cons rfl (x_var (pv 4)) (a_cons rfl (x_var (pv 2)) a_nil))) (b_call B 7 rfl rfl rfl rfl rfl (a_cons rfl (x_var (pv 6)) a_nil)) rfl rfl (fun _ => rfl)) s_nil))) s_nil) (s_cons (s_ret (x_ix B.hc B.hw B.hu (fun _ _ => rfl) (x_var (pv 5)) (x_tup (a_cons rfl (x_var (pv 4)) (a_cons rfl (x_var (pv 2)) a_nil))))) s_nil))
theorem B_test_worth {Z : Wd} (zx : Z.xn = xnL) (d : Nat) (cdv : Value) (A : Around) (outer : List PySem.Env) (s : Shared) (H : Hp) (E : XK) (B : Bd fsL Z bnL csL d (Z.cf fsL d E) (Z.X I_test_worth cdv A outer s H E)) : PSs (Z.X I_test_worth cdv A outer s H E) I_test_worth.d.body (tS (Z.cf fsL d E) Z.tk Z.g I_test_worth.fd.b) :=
  (s_cons (s_ret (b_call B 11 rfl rfl rfl rfl rfl (a_cons rfl (x_var (pv 0)) (a_cons rfl (x_var (pv 1)) (a_cons rfl (x_var (pv 2)) (a_cons rfl (x_var (pv 3)) (a_cons rfl (x_var (pv 4)) (a_cons rfl x_dnw a_nil)))))))) s_nil)
theorem B_test_next {Z : Wd} (zx : Z.xn = xnL) (d : Nat) (cdv : Value) (A : Around) (outer : List PySem.Env) (s : Shared) (H : Hp) (E : XK) (B : Bd fsL Z bnL csL d (Z.cf fsL d E) (Z.X I_test_next cdv A outer s H E)) : PSs (Z.X I_test_next cdv A outer s H E) I_test_next.d.body (tS (Z.cf fsL d E) Z.tk Z.g I_test_next.fd.b) :=
  (s_cons (s_ite (PW.pt (t_and (t_cmp B.hc B.hw B.hu rfl rfl (x_var (pv 4)) x_int) (t_and1 (t_plain B.hc (b_call B 6 rfl rfl rfl rfl rfl (a_cons rfl (b_call B 10 rfl rfl rfl rfl rfl (a_cons rfl (x_var (pv 0)) (a_cons rfl (x_var (pv 1)) (a_cons rfl (x_var (pv 2)) (a_cons rfl (x_var (pv 3)) (a_cons rfl (x_var (pv 4)) (a_cons rfl x_dnw a_nil))))))) (a_cons rfl (b_call B 9 rfl rfl rfl rfl rfl (a_cons rfl (x_var (pv 2)) a_nil)) a_nil))) (fun _ => rfl) (fun _ => rfl))))) (s_cons (s_ret (x_str (by decide +kernel))) s_nil) s_nil) (s_cons (s_ret (x_ite (t_plain B.hc (b_call B 6 rfl rfl rfl rfl rfl (a_cons rfl (x_var (pv 2)) (a_cons rfl (x_tup (a_cons rfl x_int (a_cons rfl x_int a_nil))) a_nil))) (fun _ => rfl) (fun _ => rfl)) (x_str (by decide +kernel)) (x_str (by decide +kernel)))) s_nil))
theorem B_prior_after {Z : Wd} (zx : Z.xn = xnL) (d : Nat) (cdv : Value) (A : Around) (outer : List PySem.Env) (s : Shared) (H : Hp) (E : XK) (B : Bd fsL Z bnL csL d (Z.cf fsL d E) (Z.X I_prior_after cdv A outer s H E)) : PSs (Z.X I_prior_after cdv A outer s H E) I_prior_after.d.body (tS (Z.cf fsL d E) Z.tk Z.g I_prior_after.fd.b) :=
  (s_cons (b_for B (i_seq B.hc (x_op B.hc rfl (x_op B.hc rfl (x_lst (a_cons rfl x_int a_nil)) (x_var (pv 3))) (x_op B.hc rfl (x_lst (a_cons rfl x_int a_nil)) (x_var (pv 4))))) (g_name B.nd rfl (by first | exact Or.inl rfl | exact Or.inr rfl) (by first | exact Or.inl rfl | exact Or.inr rfl)) (s_cons (s_asn B.nd rfl (by first | exact Or.inl rfl | exact Or.inr rfl) (Or.inl rfl) (x_ix B.hc B.hw B.hu (fun _ _ => rfl) (b_call B 8 rfl rfl rfl rfl rfl (a_cons rfl (x_var (pv 0)) (a_cons rfl (x_var (pv 1)) (a_cons rfl (x_var (pv 2)) a_nil)))) (x_op B.hc rfl x_int (x_var (pv 5)))) rfl) (s_cons (s_ite (t_cmp B.hc B.hw B.hu rfl rfl (x_var (pv 6)) x_non) (s_cons (b_raise B (xz zx 0 rfl) rfl rfl) s_nil) s_nil) (s_cons (s_asn B.nd rfl (by first | exact Or.inl rfl | exact Or.inr rfl) (Or.inl rfl) (x_var (pv 6)) rfl) s_nil))) (fun _ => rfl)) (s_cons (s_ret (x_var (pv 2))) s_nil))
theorem B__law_draw {Z : Wd} (zx : Z.xn = xnL) (d : Nat) (cdv : Value) (A : Around) (outer : List PySem.Env) (s : Shared) (H : Hp) (E : XK) (B : Bd fsL Z bnL csL d (Z.cf fsL d E) (Z.X I__law_draw cdv A outer s H E)) : PSs (Z.X I__law_draw cdv A outer s H E) I__law_draw.d.body (tS (Z.cf fsL d E) Z.tk Z.g I__law_draw.fd.b) :=
  (s_cons (s_asn B.nd rfl (by first | exact Or.inl rfl | exact Or.inr rfl) (Or.inl rfl) x_int rfl) (s_cons (b_for B (i_seq B.hc (x_var (pv 0))) (g_name B.nd rfl (by first | exact Or.inl rfl | exact Or.inr rfl) (by first | exact Or.inl rfl | exact Or.inr rfl)) (s_cons (s_asn B.nd rfl (by first | exact Or.inl rfl | exact Or.inr rfl) (Or.inl rfl) (x_op B.hc rfl (x_bi B.hc B.calm rfl rfl (B.mb m_int) rfl (a_cons rfl (x_op B.hc rfl (x_op B.hc rfl (x_op B.hc rfl (x_var (pv 1)) x_int) (x_op B.hc rfl (x_bi B.hc B.calm rfl rfl (B.mb m_abs) rfl (a_cons rfl (x_bi B.hc B.calm rfl rfl (B.mb m_int) rfl (a_cons rfl (x_var (pv 2)) a_nil)) a_nil)) x_int)) x_int) a_nil)) x_int) rfl) s_nil) (fun _ => rfl)) (s_cons (s_ret (x_lst (a_cons rfl (b_lc (ownN := [("cell", 2)]) B [2] rfl (by kernel_rfl) (i_seq B.hc (x_var (pv 0))) (fun s H C cl fp B => (g_name B.nd rfl (by first | exact Or.inl rfl | exact Or.inr rfl) (by first | exact Or.inl rfl | exact Or.inr rfl))) (fun s H C cl fp B => pts_no) (fun s H C cl fp B => (x_bi B.hc B.calm rfl rfl (B.mb m_abs) rfl (a_cons rfl (x_bi B.hc B.calm rfl rfl (B.mb m_int) rfl (a_cons rfl (x_var (pv 2)) a_nil)) a_nil))) (fun _ => rfl)) (a_cons rfl (x_neg B.hc x_int) (a_cons rfl x_int (a_cons rfl (x_var (pv 1)) a_nil)))))) s_nil)))
theorem B__law_take {Z : Wd} (zx : Z.xn = xnL) (d : Nat) (cdv : Value) (A : Around) (outer : List PySem.Env) (s : Shared) (H : Hp) (E : XK) (B : Bd fsL Z bnL csL d (Z.cf fsL d E) (Z.X I__law_take cdv A outer s H E)) : PSs (Z.X I__law_take cdv A outer s H E) I__law_take.d.body (tS (Z.cf fsL d E) Z.tk Z.g I__law_take.fd.b) :=
  (s_cons (s_ite (t_cmp B.hc B.hw B.hu rfl rfl (x_ix B.hc B.hw B.hu (fun _ _ => rfl) (x_var (pv 0)) x_int) x_int) (s_cons (s_six B.hc B.hw B.hu (pv 0) x_int (x_op B.hc rfl (x_ix B.hc B.hw B.hu (fun _ _ => rfl) (x_var (pv 0)) x_int) x_int) rfl rfl (fun _ => rfl)) (s_cons (s_ite (t_cmp B.hc B.hw B.hu rfl rfl (x_ix B.hc B.hw B.hu (fun _ _ => rfl) (x_var (pv 0)) x_int) (x_bi B.hc B.calm rfl rfl (B.mb m_len) rfl (a_cons rfl (x_ix B.hc B.hw B.hu (fun _ _ => rfl) (x_var (pv 0)) x_int) a_nil))) (s_cons (s_six B.hc B.hw B.hu (pv 0) x_int (x_ix B.hc B.hw B.hu (fun _ _ => rfl) (x_ix B.hc B.hw B.hu (fun _ _ => rfl) (x_var (pv 0)) x_int) (x_ix B.hc B.hw B.hu (fun _ _ => rfl) (x_var (pv 0)) x_int)) rfl rfl (fun _ => rfl)) s_nil) s_nil) (s_cons (s_ite (t_cmp B.hc B.hw B.hu rfl rfl (x_ix B.hc B.hw B.hu (fun _ _ => rfl) (x_var (pv 0)) x_int) x_int) (s_cons (s_six B.hc B.hw B.hu (pv 0) x_int (x_op B.hc rfl (x_bi B.hc B.calm rfl rfl (B.mb m_int) rfl (a_cons rfl (x_op B.hc rfl (x_op B.hc rfl (x_ix B.hc B.hw B.hu (fun _ _ => rfl) (x_var (pv 0)) x_int) x_int) x_int) a_nil)) x_int) rfl rfl (fun _ => rfl)) (s_cons (s_six B.hc B.hw B.hu (pv 0) x_int (x_ix B.hc B.hw B.hu (fun _ _ => rfl) (x_var (pv 0)) x_int) rfl rfl (fun _ => rfl)) s_nil)) s_nil) s_nil))) s_nil) (s_cons (s_asn B.nd rfl (by first | exact Or.inl rfl | exact Or.inr rfl) (Or.inl rfl) (x_op B.hc rfl (x_bi B.hc B.calm rfl rfl (B.mb m_int) rfl (a_cons rfl (x_ix B.hc B.hw B.hu (fun _ _ => rfl) (x_var (pv 0)) x_int) a_nil)) (x_var (pv 1))) rfl) (s_cons (s_six B.hc B.hw B.hu (pv 0) x_int (x_op B.hc rfl (x_ix B.hc B.hw B.hu (fun _ _ => rfl) (x_var (pv 0)) x_int) (x_var (pv 1))) rfl rfl (fun _ => rfl)) (s_cons (s_ret (x_var (pv 2))) s_nil))))
theorem B__law_lowest {Z : Wd} (zx : Z.xn = xnL) (d : Nat) (cdv : Value) (A : Around) (outer : List PySem.Env) (s : Shared) (H : Hp) (E : XK) (B : Bd fsL Z bnL csL d (Z.cf fsL d E) (Z.X I__law_lowest cdv A outer s H E)) : PSs (Z.X I__law_lowest cdv A outer s H E) I__law_lowest.d.body (tS (Z.cf fsL d E) Z.tk Z.g I__law_lowest.fd.b) :=
  (s_cons (s_par2 B.calm B.nd rfl rfl rfl rfl (a_cons rfl (x_bi B.hc B.calm rfl rfl (B.mb m_abs) rfl (a_cons rfl (x_var (pv 0)) a_nil)) (a_cons rfl (x_bi B.hc B.calm rfl rfl (B.mb m_abs) rfl (a_cons rfl (x_var (pv 1)) a_nil)) a_nil)) rfl (by decide)) (s_cons (s_whl B.po (t_cmp B.hc B.hw B.hu rfl rfl (x_var (pv 3)) x_int) (s_cons (s_par2 B.calm B.nd rfl rfl rfl rfl (a_cons rfl (x_var (pv 3)) (a_cons rfl (x_op B.hc rfl (x_var (pv 2)) (x_op B.hc rfl (x_var (pv 3)) (x_op B.hc rfl (x_var (pv 2)) (x_var (pv 3))))) a_nil)) rfl (by decide)) s_nil)) (s_cons (s_ret (x_ite (t_cmp B.hc B.hw B.hu rfl rfl (x_var (pv 1)) x_int) (x_tup (a_cons rfl (x_op B.hc rfl (x_var (pv 0)) (x_var (pv 2))) (a_cons rfl (x_op B.hc rfl (x_var (pv 1)) (x_var (pv 2))) a_nil))) (x_tup (a_cons rfl (x_op B.hc rfl (x_neg B.hc (x_var (pv 0))) (x_var (pv 2))) (a_cons rfl (x_op B.hc rfl (x_neg B.hc (x_var (pv 1))) (x_var (pv 2))) a_nil))))) s_nil)))
theorem B__law_plus {Z : Wd} (zx : Z.xn = xnL) (d : Nat) (cdv : Value) (A : Around) (outer : List PySem.Env) (s : Shared) (H : Hp) (E : XK) (B : Bd fsL Z bnL csL d (Z.cf fsL d E) (Z.X I__law_plus cdv A outer s H E)) : PSs (Z.X I__law_plus cdv A outer s H E) I__law_plus.d.body (tS (Z.cf fsL d E) Z.tk Z.g I__law_plus.fd.b) :=
  (s_cons (s_ret (b_call B 17 rfl rfl rfl rfl rfl (a_cons rfl (x_op B.hc rfl (x_op B.hc rfl (x_ix B.hc B.hw B.hu (fun _ _ => rfl) (x_var (pv 0)) x_int) (x_ix B.hc B.hw B.hu (fun _ _ => rfl) (x_var (pv 1)) x_int)) (x_op B.hc rfl (x_ix B.hc B.hw B.hu (fun _ _ => rfl) (x_var (pv 1)) x_int) (x_ix B.hc B.hw B.hu (fun _ _ => rfl) (x_var (pv 0)) x_int))) (a_cons rfl (x_op B.hc rfl (x_ix B.hc B.hw B.hu (fun _ _ => rfl) (x_var (pv 0)) x_int) (x_ix B.hc B.hw B.hu (fun _ _ => rfl) (x_var (pv 1)) x_int)) a_nil)))) s_nil)
theorem B__law_times {Z : Wd} (zx : Z.xn = xnL) (d : Nat) (cdv : Value) (A : Around) (outer : List PySem.Env) (s : Shared) (H : Hp) (E : XK) (B : Bd fsL Z bnL csL d (Z.cf fsL d E) (Z.X I__law_times cdv A outer s H E)) : PSs (Z.X I__law_times cdv A outer s H E) I__law_times.d.body (tS (Z.cf fsL d E) Z.tk Z.g I__law_times.fd.b) :=
  (s_cons (s_ret (b_call B 17 rfl rfl rfl rfl rfl (a_cons rfl (x_op B.hc rfl (x_ix B.hc B.hw B.hu (fun _ _ => rfl) (x_var (pv 0)) x_int) (x_ix B.hc B.hw B.hu (fun _ _ => rfl) (x_var (pv 1)) x_int)) (a_cons rfl (x_op B.hc rfl (x_ix B.hc B.hw B.hu (fun _ _ => rfl) (x_var (pv 0)) x_int) (x_ix B.hc B.hw B.hu (fun _ _ => rfl) (x_var (pv 1)) x_int)) a_nil)))) s_nil)
theorem B__law_minus {Z : Wd} (zx : Z.xn = xnL) (d : Nat) (cdv : Value) (A : Around) (outer : List PySem.Env) (s : Shared) (H : Hp) (E : XK) (B : Bd fsL Z bnL csL d (Z.cf fsL d E) (Z.X I__law_minus cdv A outer s H E)) : PSs (Z.X I__law_minus cdv A outer s H E) I__law_minus.d.body (tS (Z.cf fsL d E) Z.tk Z.g I__law_minus.fd.b) :=
  (s_cons (s_ret (b_call B 18 rfl rfl rfl rfl rfl (a_cons rfl (x_var (pv 0)) (a_cons rfl (x_tup (a_cons rfl (x_neg B.hc (x_ix B.hc B.hw B.hu (fun _ _ => rfl) (x_var (pv 1)) x_int)) (a_cons rfl (x_ix B.hc B.hw B.hu (fun _ _ => rfl) (x_var (pv 1)) x_int) a_nil))) a_nil)))) s_nil)
theorem B__law_over {Z : Wd} (zx : Z.xn = xnL) (d : Nat) (cdv : Value) (A : Around) (outer : List PySem.Env) (s : Shared) (H : Hp) (E : XK) (B : Bd fsL Z bnL csL d (Z.cf fsL d E) (Z.X I__law_over cdv A outer s H E)) : PSs (Z.X I__law_over cdv A outer s H E) I__law_over.d.body (tS (Z.cf fsL d E) Z.tk Z.g I__law_over.fd.b) :=
  (s_cons (s_ret (b_call B 17 rfl rfl rfl rfl rfl (a_cons rfl (x_op B.hc rfl (x_ix B.hc B.hw B.hu (fun _ _ => rfl) (x_var (pv 0)) x_int) (x_ix B.hc B.hw B.hu (fun _ _ => rfl) (x_var (pv 1)) x_int)) (a_cons rfl (x_op B.hc rfl (x_ix B.hc B.hw B.hu (fun _ _ => rfl) (x_var (pv 0)) x_int) (x_ix B.hc B.hw B.hu (fun _ _ => rfl) (x_var (pv 1)) x_int)) a_nil)))) s_nil)
theorem B__law_less {Z : Wd} (zx : Z.xn = xnL) (d : Nat) (cdv : Value) (A : Around) (outer : List PySem.Env) (s : Shared) (H : Hp) (E : XK) (B : Bd fsL Z bnL csL d (Z.cf fsL d E) (Z.X I__law_less cdv A outer s H E)) : PSs (Z.X I__law_less cdv A outer s H E) I__law_less.d.body (tS (Z.cf fsL d E) Z.tk Z.g I__law_less.fd.b) :=
  (s_cons (s_ret (x_cmp B.hc B.hw B.hu rfl rfl (x_op B.hc rfl (x_ix B.hc B.hw B.hu (fun _ _ => rfl) (x_var (pv 0)) x_int) (x_ix B.hc B.hw B.hu (fun _ _ => rfl) (x_var (pv 1)) x_int)) (x_op B.hc rfl (x_ix B.hc B.hw B.hu (fun _ _ => rfl) (x_var (pv 1)) x_int) (x_ix B.hc B.hw B.hu (fun _ _ => rfl) (x_var (pv 0)) x_int)))) s_nil)
theorem B__law_best {Z : Wd} (zx : Z.xn = xnL) (d : Nat) (cdv : Value) (A : Around) (outer : List PySem.Env) (s : Shared) (H : Hp) (E : XK) (B : Bd fsL Z bnL csL d (Z.cf fsL d E) (Z.X I__law_best cdv A outer s H E)) : PSs (Z.X I__law_best cdv A outer s H E) I__law_best.d.body (tS (Z.cf fsL d E) Z.tk Z.g I__law_best.fd.b) :=
  (s_cons (s_asn B.nd rfl (by first | exact Or.inl rfl | exact Or.inr rfl) (Or.inl rfl) (x_ix B.hc B.hw B.hu (fun _ _ => rfl) (x_var (pv 0)) x_int) rfl) (s_cons (b_for B (i_seq B.hc (x_var (pv 0))) (g_name B.nd rfl (by first | exact Or.inl rfl | exact Or.inr rfl) (by first | exact Or.inl rfl | exact Or.inr rfl)) (s_cons (s_ite (PW.pt (t_or (PW.pt (t_and (t_plain B.hc (b_call B 22 rfl rfl rfl rfl rfl (a_cons rfl (x_var (pv 2)) (a_cons rfl (x_var (pv 3)) a_nil))) (fun _ => rfl) (fun _ => rfl)) (t_and1 (t_cmp B.hc B.hw B.hu rfl rfl (x_var (pv 1)) x_int)))) (t_or1 (PW.pt (t_and (t_plain B.hc (b_call B 22 rfl rfl rfl rfl rfl (a_cons rfl (x_var (pv 3)) (a_cons rfl (x_var (pv 2)) a_nil))) (fun _ => rfl) (fun _ => rfl)) (t_and1 (t_cmp B.hc B.hw B.hu rfl rfl (x_var (pv 1)) (x_neg B.hc x_int)))))))) (s_cons (s_asn B.nd rfl (by first | exact Or.inl rfl | exact Or.inr rfl) (Or.inl rfl) (x_var (pv 3)) rfl) s_nil) s_nil) s_nil) (fun _ => rfl)) (s_cons (s_ret (x_var (pv 2))) s_nil)))
theorem B__law_cost {Z : Wd} (zx : Z.xn = xnL) (d : Nat) (cdv : Value) (A : Around) (outer : List PySem.Env) (s : Shared) (H : Hp) (E : XK) (B : Bd fsL Z bnL csL d (Z.cf fsL d E) (Z.X I__law_cost cdv A outer s H E)) : PSs (Z.X I__law_cost cdv A outer s H E) I__law_cost.d.body (tS (Z.cf fsL d E) Z.tk Z.g I__law_cost.fd.b) :=
  (s_cons (s_asn B.nd rfl (by first | exact Or.inl rfl | exact Or.inr rfl) (Or.inl rfl) (b_call B 18 rfl rfl rfl rfl rfl (a_cons rfl (x_ix B.hc B.hw B.hu (fun _ _ => rfl) (x_var (pv 2)) x_int) (a_cons rfl (x_ix B.hc B.hw B.hu (fun _ _ => rfl) (x_var (pv 2)) x_int) a_nil))) rfl) (s_cons (s_asn B.nd rfl (by first | exact Or.inl rfl | exact Or.inr rfl) (Or.inl rfl) (b_call B 23 rfl rfl rfl rfl rfl (a_cons rfl (x_lst (a_cons rfl (x_ix B.hc B.hw B.hu (fun _ _ => rfl) (x_var (pv 2)) x_int) (a_cons rfl (x_ix B.hc B.hw B.hu (fun _ _ => rfl) (x_var (pv 2)) x_int) a_nil))) (a_cons rfl (x_neg B.hc x_int) a_nil))) rfl) (s_cons (s_ite (PW.pt (t_or (t_cmp B.hc B.hw B.hu rfl rfl (x_var (pv 4)) x_int) (t_or1 (t_cmp B.hc B.hw B.hu rfl rfl (x_var (pv 5)) (x_tup (a_cons rfl x_int (a_cons rfl x_int a_nil))))))) (s_cons (s_ret (x_var (pv 6))) s_nil) s_nil) (s_cons (s_asn B.nd rfl (by first | exact Or.inl rfl | exact Or.inr rfl) (Or.inl rfl) (b_call B 19 rfl rfl rfl rfl rfl (a_cons rfl (x_var (pv 3)) (a_cons rfl (x_var (pv 5)) a_nil))) rfl) (s_cons (b_for B (i_seq B.hc (x_lst (a_cons rfl (x_tup (a_cons rfl (x_var (pv 0)) (a_cons rfl (x_var (pv 1)) a_nil))) (a_cons rfl (x_tup (a_cons rfl (b_call B 20 rfl rfl rfl rfl rfl (a_cons rfl (x_tup (a_cons rfl x_int (a_cons rfl x_int a_nil))) (a_cons rfl (x_var (pv 0)) a_nil))) (a_cons rfl (b_call B 20 rfl rfl rfl rfl rfl (a_cons rfl (x_tup (a_cons rfl x_int (a_cons rfl x_int a_nil))) (a_cons rfl (x_var (pv 1)) a_nil))) a_nil))) a_nil)))) (g_tupB B rfl rfl (g_cons rfl (g_name B.nd rfl (by first | exact Or.inl rfl | exact Or.inr rfl) (by first | exact Or.inl rfl | exact Or.inr rfl)) (g_cons rfl (g_name B.nd rfl (by first | exact Or.inl rfl | exact Or.inr rfl) (by first | exact Or.inl rfl | exact Or.inr rfl)) g_nil))) (s_cons (s_asn B.nd rfl (by first | exact Or.inl rfl | exact Or.inr rfl) (Or.inl rfl) (b_call B 18 rfl rfl rfl rfl rfl (a_cons rfl (x_var (pv 7)) (a_cons rfl (b_call B 24 rfl rfl rfl rfl rfl (a_cons rfl (x_var (pv 0)) (a_cons rfl (x_var (pv 1)) (a_cons rfl (x_tup (a_cons rfl (b_call B 19 rfl rfl rfl rfl rfl (a_cons rfl (x_ix B.hc B.hw B.hu (fun _ _ => rfl) (x_var (pv 2)) x_int) (a_cons rfl (x_var (pv 8)) a_nil))) (a_cons rfl (b_call B 19 rfl rfl rfl rfl rfl (a_cons rfl (x_ix B.hc B.hw B.hu (fun _ _ => rfl) (x_var (pv 2)) x_int) (a_cons rfl (x_var (pv 9)) a_nil))) a_nil))) (a_cons rfl (x_var (pv 3)) (a_cons rfl (x_op B.hc rfl (x_var (pv 4)) x_int) a_nil)))))) a_nil))) rfl) s_nil) (fun _ => rfl)) (s_cons (s_ret (b_call B 23 rfl rfl rfl rfl rfl (a_cons rfl (x_lst (a_cons rfl (x_var (pv 6)) (a_cons rfl (x_var (pv 7)) a_nil))) (a_cons rfl (x_neg B.hc x_int) a_nil)))) s_nil))))))
theorem B__law_toss {Z : Wd} (zx : Z.xn = xnL) (d : Nat) (cdv : Value) (A : Around) (outer : List PySem.Env) (s : Shared) (H : Hp) (E : XK) (B : Bd fsL Z bnL csL d (Z.cf fsL d E) (Z.X I__law_toss cdv A outer s H E)) : PSs (Z.X I__law_toss cdv A outer s H E) I__law_toss.d.body (tS (Z.cf fsL d E) Z.tk Z.g I__law_toss.fd.b) :=
  (s_cons (s_asn B.nd rfl (by first | exact Or.inl rfl | exact Or.inr rfl) (Or.inl rfl) (b_call B 19 rfl rfl rfl rfl rfl (a_cons rfl (x_var (pv 3)) (a_cons rfl (b_call B 18 rfl rfl rfl rfl rfl (a_cons rfl (x_ix B.hc B.hw B.hu (fun _ _ => rfl) (x_var (pv 2)) x_int) (a_cons rfl (x_ix B.hc B.hw B.hu (fun _ _ => rfl) (x_var (pv 2)) x_int) a_nil))) a_nil))) rfl) (s_cons (b_for B (i_seq B.hc (x_lst (a_cons rfl (x_tup (a_cons rfl (x_var (pv 0)) (a_cons rfl (x_var (pv 1)) a_nil))) (a_cons rfl (x_tup (a_cons rfl (b_call B 20 rfl rfl rfl rfl rfl (a_cons rfl (x_tup (a_cons rfl x_int (a_cons rfl x_int a_nil))) (a_cons rfl (x_var (pv 0)) a_nil))) (a_cons rfl (b_call B 20 rfl rfl rfl rfl rfl (a_cons rfl (x_tup (a_cons rfl x_int (a_cons rfl x_int a_nil))) (a_cons rfl (x_var (pv 1)) a_nil))) a_nil))) a_nil)))) (g_tupB B rfl rfl (g_cons rfl (g_name B.nd rfl (by first | exact Or.inl rfl | exact Or.inr rfl) (by first | exact Or.inl rfl | exact Or.inr rfl)) (g_cons rfl (g_name B.nd rfl (by first | exact Or.inl rfl | exact Or.inr rfl) (by first | exact Or.inl rfl | exact Or.inr rfl)) g_nil))) (s_cons (s_asn B.nd rfl (by first | exact Or.inl rfl | exact Or.inr rfl) (Or.inl rfl) (b_call B 18 rfl rfl rfl rfl rfl (a_cons rfl (x_var (pv 5)) (a_cons rfl (b_call B 24 rfl rfl rfl rfl rfl (a_cons rfl (x_var (pv 0)) (a_cons rfl (x_var (pv 1)) (a_cons rfl (x_tup (a_cons rfl (b_call B 19 rfl rfl rfl rfl rfl (a_cons rfl (x_ix B.hc B.hw B.hu (fun _ _ => rfl) (x_var (pv 2)) x_int) (a_cons rfl (x_var (pv 6)) a_nil))) (a_cons rfl (b_call B 19 rfl rfl rfl rfl rfl (a_cons rfl (x_ix B.hc B.hw B.hu (fun _ _ => rfl) (x_var (pv 2)) x_int) (a_cons rfl (x_var (pv 7)) a_nil))) a_nil))) (a_cons rfl (x_var (pv 3)) (a_cons rfl (x_op B.hc rfl (x_var (pv 4)) x_int) a_nil)))))) a_nil))) rfl) s_nil) (fun _ => rfl)) (s_cons (s_ret (x_var (pv 5))) s_nil)))
theorem B__law_after {Z : Wd} (zx : Z.xn = xnL) (d : Nat) (cdv : Value) (A : Around) (outer : List PySem.Env) (s : Shared) (H : Hp) (E : XK) (B : Bd fsL Z bnL csL d (Z.cf fsL d E) (Z.X I__law_after cdv A outer s H E)) : PSs (Z.X I__law_after cdv A outer s H E) I__law_after.d.body (tS (Z.cf fsL d E) Z.tk Z.g I__law_after.fd.b) :=
  (s_cons (b_try B (xz zx 0 rfl) rfl rfl rfl rfl (fun W pn xe B => (s_cons (s_ret (b_call B 14 rfl rfl rfl rfl rfl (a_cons rfl (x_var (pv 0)) (a_cons rfl (x_var (pv 1)) (a_cons rfl (x_var (pv 2)) (a_cons rfl (x_var (pv 3)) (a_cons rfl (x_var (pv 4)) a_nil))))))) s_nil)) (fun a oe pn => (s_cons (s_ret x_non) s_nil))) s_nil)
theorem B_law {Z : Wd} (zx : Z.xn = xnL) (d : Nat) (cdv : Value) (A : Around) (outer : List PySem.Env) (s : Shared) (H : Hp) (E : XK) (B : Bd fsL Z bnL csL d (Z.cf fsL d E) (Z.X I_law cdv A outer s H E)) : PSs (Z.X I_law cdv A outer s H E) I_law.d.body (tS (Z.cf fsL d E) Z.tk Z.g I_law.fd.b) :=
  (s_cons (s_asn B.nd rfl (by first | exact Or.inl rfl | exact Or.inr rfl) (Or.inl rfl) (b_call B 15 rfl rfl rfl rfl rfl (a_cons rfl (x_var (pv 0)) a_nil)) rfl) (s_cons (s_asn B.nd rfl (by first | exact Or.inl rfl | exact Or.inr rfl) (Or.inl rfl) (x_lst (a_cons rfl (x_tup (a_cons rfl x_int (a_cons rfl x_int a_nil))) (a_cons rfl (x_tup (a_cons rfl x_int (a_cons rfl x_int a_nil))) (a_cons rfl (x_tup (a_cons rfl x_int (a_cons rfl x_int a_nil))) (a_cons rfl (x_tup (a_cons rfl x_int (a_cons rfl x_int a_nil))) (a_cons rfl (x_tup (a_cons rfl x_int (a_cons rfl x_int a_nil))) (a_cons rfl (x_tup (a_cons rfl x_int (a_cons rfl x_int a_nil))) a_nil))))))) rfl) (s_cons (b_for B (i_rng1 rfl (B.mb m_range) rfl (a_cons rfl x_int a_nil) (arity_ok rfl)) (g_name B.nd rfl (by first | exact Or.inl rfl | exact Or.inr rfl) (by first | exact Or.inl rfl | exact Or.inr rfl)) (s_cons (s_popi B.hc B.nd rfl (by first | exact Or.inl rfl | exact Or.inr rfl) (Or.inl rfl) (pv 2) rfl (a_cons rfl (b_call B 16 rfl rfl rfl rfl rfl (a_cons rfl (x_var (pv 1)) (a_cons rfl (x_bi B.hc B.calm rfl rfl (B.mb m_len) rfl (a_cons rfl (x_var (pv 2)) a_nil)) a_nil))) a_nil) rfl rfl) (s_cons (s_par2 B.calm B.nd rfl rfl rfl rfl (a_cons rfl (x_ix B.hc B.hw B.hu (fun _ _ => rfl) (x_var (pv 2)) (b_call B 16 rfl rfl rfl rfl rfl (a_cons rfl (x_var (pv 1)) (a_cons rfl (x_bi B.hc B.calm rfl rfl (B.mb m_len) rfl (a_cons rfl (x_var (pv 2)) a_nil)) a_nil)))) (a_cons rfl (x_ix B.hc B.hw B.hu (fun _ _ => rfl) (x_lst (a_cons rfl (x_tup (a_cons rfl x_int (a_cons rfl x_int a_nil))) (a_cons rfl (x_tup (a_cons rfl x_int (a_cons rfl x_int a_nil))) (a_cons rfl (x_tup (a_cons rfl x_int (a_cons rfl x_int a_nil))) (a_cons rfl (x_tup (a_cons rfl x_int (a_cons rfl x_int a_nil))) (a_cons rfl (x_tup (a_cons rfl x_int (a_cons rfl x_int a_nil))) a_nil)))))) (b_call B 16 rfl rfl rfl rfl rfl (a_cons rfl (x_var (pv 1)) (a_cons rfl x_int a_nil)))) a_nil)) rfl (by decide)) (s_cons (s_par2 B.calm B.nd rfl rfl rfl rfl (a_cons rfl (x_ix B.hc B.hw B.hu (fun _ _ => rfl) (x_lst (a_cons rfl (x_tup (a_cons rfl x_int (a_cons rfl x_int a_nil))) (a_cons rfl (x_tup (a_cons rfl x_int (a_cons rfl x_int a_nil))) (a_cons rfl (x_tup (a_cons rfl x_int (a_cons rfl x_int a_nil))) (a_cons rfl (x_tup (a_cons rfl x_int (a_cons rfl x_int a_nil))) a_nil))))) (b_call B 16 rfl rfl rfl rfl rfl (a_cons rfl (x_var (pv 1)) (a_cons rfl x_int a_nil)))) (a_cons rfl (b_call B 16 rfl rfl rfl rfl rfl (a_cons rfl (x_var (pv 1)) (a_cons rfl x_int a_nil))) a_nil)) rfl (by decide)) (s_cons (s_asn B.nd rfl (by first | exact Or.inl rfl | exact Or.inr rfl) (Or.inl rfl) (x_tup (a_cons rfl (x_var (pv 6)) (a_cons rfl (b_call B 20 rfl rfl rfl rfl rfl (a_cons rfl (x_tup (a_cons rfl x_int (a_cons rfl x_int a_nil))) (a_cons rfl (x_var (pv 6)) a_nil))) a_nil))) rfl) (s_cons (s_ite (PW.pt (t_or (t_cmp B.hc B.hw B.hu rfl rfl (b_call B 12 rfl rfl rfl rfl rfl (a_cons rfl (x_var (pv 4)) (a_cons rfl (x_var (pv 5)) (a_cons rfl (x_var (pv 6)) (a_cons rfl (x_var (pv 7)) (a_cons rfl (x_var (pv 8)) a_nil)))))) (b_call B 24 rfl rfl rfl rfl rfl (a_cons rfl (x_var (pv 4)) (a_cons rfl (x_var (pv 5)) (a_cons rfl (x_var (pv 9)) (a_cons rfl (x_var (pv 7)) (a_cons rfl (x_var (pv 8)) a_nil))))))) (t_or1 (t_not (t_plain B.hc (x_isi (t := .tuple) B.hc rfl (B.mb m_isinstance) rfl (B.mb m_tuple) rfl (b_call B 12 rfl rfl rfl rfl rfl (a_cons rfl (x_var (pv 4)) (a_cons rfl (x_var (pv 5)) (a_cons rfl (x_var (pv 6)) (a_cons rfl (x_var (pv 7)) (a_cons rfl (x_var (pv 8)) a_nil))))))) (fun _ => rfl) (fun _ => rfl)))))) (s_cons (s_ret x_bl) s_nil) s_nil) (s_cons (s_asn B.nd rfl (by first | exact Or.inl rfl | exact Or.inr rfl) (Or.inl rfl) (x_ite (t_plain B.hc (b_call B 22 rfl rfl rfl rfl rfl (a_cons rfl (x_var (pv 6)) (a_cons rfl (x_tup (a_cons rfl x_int (a_cons rfl x_int a_nil))) a_nil))) (fun _ => rfl) (fun _ => rfl)) (x_str (by decide +kernel)) (x_str (by decide +kernel))) rfl) (s_cons (s_asn B.nd rfl (by first | exact Or.inl rfl | exact Or.inr rfl) (Or.inl rfl) (x_ite (PW.pt (t_and (t_cmp B.hc B.hw B.hu rfl rfl (x_var (pv 8)) x_int) (t_and1 (t_plain B.hc (b_call B 22 rfl rfl rfl rfl rfl (a_cons rfl (b_call B 25 rfl rfl rfl rfl rfl (a_cons rfl (x_var (pv 4)) (a_cons rfl (x_var (pv 5)) (a_cons rfl (x_var (pv 9)) (a_cons rfl (x_var (pv 7)) (a_cons rfl (x_var (pv 8)) a_nil)))))) (a_cons rfl (b_call B 23 rfl rfl rfl rfl rfl (a_cons rfl (x_bi B.hc B.calm rfl rfl (B.mb m_list) rfl (a_cons rfl (x_var (pv 9)) a_nil)) (a_cons rfl (x_neg B.hc x_int) a_nil))) a_nil))) (fun _ => rfl) (fun _ => rfl))))) (x_str (by decide +kernel)) (x_var (pv 10))) rfl) (s_cons (s_ite (t_cmp B.hc B.hw B.hu rfl rfl (b_call B 13 rfl rfl rfl rfl rfl (a_cons rfl (x_var (pv 4)) (a_cons rfl (x_var (pv 5)) (a_cons rfl (x_var (pv 6)) (a_cons rfl (x_var (pv 7)) (a_cons rfl (x_var (pv 8)) a_nil)))))) (x_var (pv 11))) (s_cons (s_ret x_bl) s_nil) s_nil) (s_cons (s_par2 B.calm B.nd rfl rfl rfl rfl (a_cons rfl (b_call B 16 rfl rfl rfl rfl rfl (a_cons rfl (x_var (pv 1)) (a_cons rfl x_int a_nil))) (a_cons rfl (b_call B 16 rfl rfl rfl rfl rfl (a_cons rfl (x_var (pv 1)) (a_cons rfl x_int a_nil))) a_nil)) rfl (by decide)) (s_cons (s_asp (g_tupB B rfl rfl (g_cons rfl (g_name B.nd rfl (by first | exact Or.inl rfl | exact Or.inr rfl) (by first | exact Or.inl rfl | exact Or.inr rfl)) (g_cons rfl (g_name B.nd rfl (by first | exact Or.inl rfl | exact Or.inr rfl) (by first | exact Or.inl rfl | exact Or.inr rfl)) g_nil))) B.hc (x_var (pv 9)) rfl rfl rfl) (s_cons (b_for B (i_rng1 rfl (B.mb m_range) rfl (a_cons rfl (x_var (pv 12)) a_nil) (arity_ok rfl)) (g_name B.nd rfl (by first | exact Or.inl rfl | exact Or.inr rfl) (by first | exact Or.inl rfl | exact Or.inr rfl)) (s_cons (s_par2 B.calm B.nd rfl rfl rfl rfl (a_cons rfl (b_call B 19 rfl rfl rfl rfl rfl (a_cons rfl (x_var (pv 14)) (a_cons rfl (x_var (pv 4)) a_nil))) (a_cons rfl (b_call B 19 rfl rfl rfl rfl rfl (a_cons rfl (x_var (pv 15)) (a_cons rfl (x_var (pv 5)) a_nil))) a_nil)) rfl (by decide)) s_nil) (fun _ => rfl)) (s_cons (b_for B (i_rng1 rfl (B.mb m_range) rfl (a_cons rfl (x_var (pv 13)) a_nil) (arity_ok rfl)) (g_name B.nd rfl (by first | exact Or.inl rfl | exact Or.inr rfl) (by first | exact Or.inl rfl | exact Or.inr rfl)) (s_cons (s_par2 B.calm B.nd rfl rfl rfl rfl (a_cons rfl (b_call B 19 rfl rfl rfl rfl rfl (a_cons rfl (x_var (pv 14)) (a_cons rfl (b_call B 20 rfl rfl rfl rfl rfl (a_cons rfl (x_tup (a_cons rfl x_int (a_cons rfl x_int a_nil))) (a_cons rfl (x_var (pv 4)) a_nil))) a_nil))) (a_cons rfl (b_call B 19 rfl rfl rfl rfl rfl (a_cons rfl (x_var (pv 15)) (a_cons rfl (b_call B 20 rfl rfl rfl rfl rfl (a_cons rfl (x_tup (a_cons rfl x_int (a_cons rfl x_int a_nil))) (a_cons rfl (x_var (pv 5)) a_nil))) a_nil))) a_nil)) rfl (by decide)) s_nil) (fun _ => rfl)) (s_cons (s_asn B.nd rfl (by first | exact Or.inl rfl | exact Or.inr rfl) (Or.inl rfl) (b_call B 18 rfl rfl rfl rfl rfl (a_cons rfl (x_var (pv 14)) (a_cons rfl (x_var (pv 15)) a_nil))) rfl) (s_cons (s_ite (t_cmp B.hc B.hw B.hu rfl rfl (b_call B 26 rfl rfl rfl rfl rfl (a_cons rfl (x_var (pv 4)) (a_cons rfl (x_var (pv 5)) (a_cons rfl (x_var (pv 6)) (a_cons rfl (x_var (pv 12)) (a_cons rfl (x_var (pv 13)) a_nil)))))) (x_ite (t_cmp B.hc B.hw B.hu rfl rfl (x_var (pv 17)) (x_tup (a_cons rfl x_int (a_cons rfl x_int a_nil)))) (b_call B 21 rfl rfl rfl rfl rfl (a_cons rfl (x_var (pv 14)) (a_cons rfl (x_var (pv 17)) a_nil))) x_non)) (s_cons (s_ret x_bl) s_nil) s_nil) s_nil)))))))))))))) (fun _ => rfl)) (s_cons (s_ret (x_and B.hc (x_cmp B.hc B.hw B.hu rfl rfl (b_call B 12 rfl rfl rfl rfl rfl (a_cons rfl (x_tup (a_cons rfl x_int (a_cons rfl x_int a_nil))) (a_cons rfl (x_tup (a_cons rfl x_int (a_cons rfl x_int a_nil))) (a_cons rfl (x_tup (a_cons rfl x_int (a_cons rfl x_int a_nil))) (a_cons rfl (x_tup (a_cons rfl x_int (a_cons rfl x_int a_nil))) (a_cons rfl x_int a_nil)))))) (x_tup (a_cons rfl x_int (a_cons rfl x_int a_nil)))) (x_and1 (x_cmp B.hc B.hw B.hu rfl rfl (b_call B 13 rfl rfl rfl rfl rfl (a_cons rfl (x_tup (a_cons rfl x_int (a_cons rfl x_int a_nil))) (a_cons rfl (x_tup (a_cons rfl x_int (a_cons rfl x_int a_nil))) (a_cons rfl (x_tup (a_cons rfl x_int (a_cons rfl x_int a_nil))) (a_cons rfl (x_tup (a_cons rfl x_int (a_cons rfl x_int a_nil))) (a_cons rfl x_int a_nil)))))) (x_str (by decide +kernel)))))) s_nil))))
end
theorem K_common : InfoOk I_common := ⟨⟨rfl, rfl, rfl, by decide +kernel, rfl, by decide +kernel, by decide +kernel⟩, rfl, rfl, by decide⟩
theorem N_common {K : PySem.W.Frag} {f : Addr} {fd : FuncData} (F : FunD K I_common.d.name I_common.d.qual I_common.d.params I_common.d.body I_common.d.scope [] [] f fd) : Binds K fd I_common.ps [] := F.bindsN fun _ _ _ _ _ _ us hl => match us, hl with | [_, _], _ => rfl
theorem K_lowest : InfoOk I_lowest := ⟨⟨rfl, rfl, rfl, by decide +kernel, rfl, by decide +kernel, by decide +kernel⟩, rfl, rfl, by decide⟩
theorem N_lowest {K : PySem.W.Frag} {f : Addr} {fd : FuncData} (F : FunD K I_lowest.d.name I_lowest.d.qual I_lowest.d.params I_lowest.d.body I_lowest.d.scope [] [] f fd) : Binds K fd I_lowest.ps [] := F.bindsN fun _ _ _ _ _ _ us hl => match us, hl with | [_, _], _ => rfl
theorem K_plus : InfoOk I_plus := ⟨⟨rfl, rfl, rfl, by decide +kernel, rfl, by decide +kernel, by decide +kernel⟩, rfl, rfl, by decide⟩
theorem N_plus {K : PySem.W.Frag} {f : Addr} {fd : FuncData} (F : FunD K I_plus.d.name I_plus.d.qual I_plus.d.params I_plus.d.body I_plus.d.scope [] [] f fd) : Binds K fd I_plus.ps [] := F.bindsN fun _ _ _ _ _ _ us hl => match us, hl with | [_, _], _ => rfl
theorem K_minus : InfoOk I_minus := ⟨⟨rfl, rfl, rfl, by decide +kernel, rfl, by decide +kernel, by decide +kernel⟩, rfl, rfl, by decide⟩
theorem N_minus {K : PySem.W.Frag} {f : Addr} {fd : FuncData} (F : FunD K I_minus.d.name I_minus.d.qual I_minus.d.params I_minus.d.body I_minus.d.scope [] [] f fd) : Binds K fd I_minus.ps [] := F.bindsN fun _ _ _ _ _ _ us hl => match us, hl with | [_, _], _ => rfl
theorem K_times : InfoOk I_times := ⟨⟨rfl, rfl, rfl, by decide +kernel, rfl, by decide +kernel, by decide +kernel⟩, rfl, rfl, by decide⟩
theorem N_times {K : PySem.W.Frag} {f : Addr} {fd : FuncData} (F : FunD K I_times.d.name I_times.d.qual I_times.d.params I_times.d.body I_times.d.scope [] [] f fd) : Binds K fd I_times.ps [] := F.bindsN fun _ _ _ _ _ _ us hl => match us, hl with | [_, _], _ => rfl
theorem K_divided : InfoOk I_divided := ⟨⟨rfl, rfl, rfl, by decide +kernel, rfl, by decide +kernel, by decide +kernel⟩, rfl, rfl, by decide⟩
theorem N_divided {K : PySem.W.Frag} {f : Addr} {fd : FuncData} (F : FunD K I_divided.d.name I_divided.d.qual I_divided.d.params I_divided.d.body I_divided.d.scope [] [] f fd) : Binds K fd I_divided.ps [] := F.bindsN fun _ _ _ _ _ _ us hl => match us, hl with | [_, _], _ => rfl
theorem K_less : InfoOk I_less := ⟨⟨rfl, rfl, rfl, by decide +kernel, rfl, by decide +kernel, by decide +kernel⟩, rfl, rfl, by decide⟩
theorem N_less {K : PySem.W.Frag} {f : Addr} {fd : FuncData} (F : FunD K I_less.d.name I_less.d.qual I_less.d.params I_less.d.body I_less.d.scope [] [] f fd) : Binds K fd I_less.ps [] := F.bindsN fun _ _ _ _ _ _ us hl => match us, hl with | [_, _], _ => rfl
theorem K_least : InfoOk I_least := ⟨⟨rfl, rfl, rfl, by decide +kernel, rfl, by decide +kernel, by decide +kernel⟩, rfl, rfl, by decide⟩
theorem N_least {K : PySem.W.Frag} {f : Addr} {fd : FuncData} (F : FunD K I_least.d.name I_least.d.qual I_least.d.params I_least.d.body I_least.d.scope [] [] f fd) : Binds K fd I_least.ps [] := F.bindsN fun _ _ _ _ _ _ us hl => match us, hl with | [_], _ => rfl
theorem K_toss_told : InfoOk I_toss_told := ⟨⟨rfl, rfl, rfl, by decide +kernel, rfl, by decide +kernel, by decide +kernel⟩, rfl, rfl, by decide⟩
theorem N_toss_told {K : PySem.W.Frag} {f : Addr} {fd : FuncData} (F : FunD K I_toss_told.d.name I_toss_told.d.qual I_toss_told.d.params I_toss_told.d.body I_toss_told.d.scope [] [] f fd) : Binds K fd I_toss_told.ps [] := F.bindsN fun _ _ _ _ _ _ us hl => match us, hl with | [_, _, _], _ => rfl
theorem K_say_cost : InfoOk I_say_cost := ⟨⟨rfl, rfl, rfl, by decide +kernel, rfl, by decide +kernel, by decide +kernel⟩, rfl, rfl, by decide⟩
theorem N_say_cost {K : PySem.W.Frag} {f : Addr} {fd : FuncData} (F : FunD K I_say_cost.d.name I_say_cost.d.qual I_say_cost.d.params I_say_cost.d.body I_say_cost.d.scope [] [] f fd) : Binds K fd I_say_cost.ps [] := F.bindsN fun _ _ _ _ _ _ us hl => match us, hl with | [_], _ => rfl
theorem K_toss_cost : InfoOk I_toss_cost := ⟨⟨rfl, rfl, rfl, by decide +kernel, rfl, by decide +kernel, by decide +kernel⟩, rfl, rfl, by decide⟩
theorem N_toss_cost {K : PySem.W.Frag} {f : Addr} {fd : FuncData} (F : FunD K I_toss_cost.d.name I_toss_cost.d.qual I_toss_cost.d.params I_toss_cost.d.body I_toss_cost.d.scope [] [] f fd) : Binds K fd I_toss_cost.ps [] := F.bindsN fun _ _ _ _ _ _ us hl => match us, hl with | [_, _, _, _, _, _], _ => rfl
theorem K_told_cost : InfoOk I_told_cost := ⟨⟨rfl, rfl, rfl, by decide +kernel, rfl, by decide +kernel, by decide +kernel⟩, rfl, rfl, by decide⟩
theorem N_told_cost {K : PySem.W.Frag} {f : Addr} {fd : FuncData} (F : FunD K I_told_cost.d.name I_told_cost.d.qual I_told_cost.d.params I_told_cost.d.body I_told_cost.d.scope [] [] f fd) : Binds K fd I_told_cost.ps [] := F.bindsN fun _ _ _ _ _ _ us hl => match us, hl with | [_, _, _, _, _, _], _ => rfl
theorem K_test_worth : InfoOk I_test_worth := ⟨⟨rfl, rfl, rfl, by decide +kernel, rfl, by decide +kernel, by decide +kernel⟩, rfl, rfl, by decide⟩
theorem N_test_worth {K : PySem.W.Frag} {f : Addr} {fd : FuncData} (F : FunD K I_test_worth.d.name I_test_worth.d.qual I_test_worth.d.params I_test_worth.d.body I_test_worth.d.scope [] [] f fd) : Binds K fd I_test_worth.ps [] := F.bindsN fun _ _ _ _ _ _ us hl => match us, hl with | [_, _, _, _, _], _ => rfl
theorem K_test_next : InfoOk I_test_next := ⟨⟨rfl, rfl, rfl, by decide +kernel, rfl, by decide +kernel, by decide +kernel⟩, rfl, rfl, by decide⟩
theorem N_test_next {K : PySem.W.Frag} {f : Addr} {fd : FuncData} (F : FunD K I_test_next.d.name I_test_next.d.qual I_test_next.d.params I_test_next.d.body I_test_next.d.scope [] [] f fd) : Binds K fd I_test_next.ps [] := F.bindsN fun _ _ _ _ _ _ us hl => match us, hl with | [_, _, _, _, _], _ => rfl
theorem K_prior_after : InfoOk I_prior_after := ⟨⟨rfl, rfl, rfl, by decide +kernel, rfl, by decide +kernel, by decide +kernel⟩, rfl, rfl, by decide⟩
theorem N_prior_after {K : PySem.W.Frag} {f : Addr} {fd : FuncData} (F : FunD K I_prior_after.d.name I_prior_after.d.qual I_prior_after.d.params I_prior_after.d.body I_prior_after.d.scope [] [] f fd) : Binds K fd I_prior_after.ps [] := F.bindsN fun _ _ _ _ _ _ us hl => match us, hl with | [_, _, _, _, _], _ => rfl
theorem K__law_draw : InfoOk I__law_draw := ⟨⟨rfl, rfl, rfl, by decide +kernel, rfl, by decide +kernel, by decide +kernel⟩, rfl, rfl, by decide⟩
theorem N__law_draw {K : PySem.W.Frag} {f : Addr} {fd : FuncData} (F : FunD K I__law_draw.d.name I__law_draw.d.qual I__law_draw.d.params I__law_draw.d.body I__law_draw.d.scope [] [] f fd) : Binds K fd I__law_draw.ps [] := F.bindsN fun _ _ _ _ _ _ us hl => match us, hl with | [_], _ => rfl
theorem K__law_take : InfoOk I__law_take := ⟨⟨rfl, rfl, rfl, by decide +kernel, rfl, by decide +kernel, by decide +kernel⟩, rfl, rfl, by decide⟩
theorem N__law_take {K : PySem.W.Frag} {f : Addr} {fd : FuncData} (F : FunD K I__law_take.d.name I__law_take.d.qual I__law_take.d.params I__law_take.d.body I__law_take.d.scope [] [] f fd) : Binds K fd I__law_take.ps [] := F.bindsN fun _ _ _ _ _ _ us hl => match us, hl with | [_, _], _ => rfl
theorem K__law_lowest : InfoOk I__law_lowest := ⟨⟨rfl, rfl, rfl, by decide +kernel, rfl, by decide +kernel, by decide +kernel⟩, rfl, rfl, by decide⟩
theorem N__law_lowest {K : PySem.W.Frag} {f : Addr} {fd : FuncData} (F : FunD K I__law_lowest.d.name I__law_lowest.d.qual I__law_lowest.d.params I__law_lowest.d.body I__law_lowest.d.scope [] [] f fd) : Binds K fd I__law_lowest.ps [] := F.bindsN fun _ _ _ _ _ _ us hl => match us, hl with | [_, _], _ => rfl
theorem K__law_plus : InfoOk I__law_plus := ⟨⟨rfl, rfl, rfl, by decide +kernel, rfl, by decide +kernel, by decide +kernel⟩, rfl, rfl, by decide⟩
theorem N__law_plus {K : PySem.W.Frag} {f : Addr} {fd : FuncData} (F : FunD K I__law_plus.d.name I__law_plus.d.qual I__law_plus.d.params I__law_plus.d.body I__law_plus.d.scope [] [] f fd) : Binds K fd I__law_plus.ps [] := F.bindsN fun _ _ _ _ _ _ us hl => match us, hl with | [_, _], _ => rfl
theorem K__law_times : InfoOk I__law_times := ⟨⟨rfl, rfl, rfl, by decide +kernel, rfl, by decide +kernel, by decide +kernel⟩, rfl, rfl, by decide⟩
theorem N__law_times {K : PySem.W.Frag} {f : Addr} {fd : FuncData} (F : FunD K I__law_times.d.name I__law_times.d.qual I__law_times.d.params I__law_times.d.body I__law_times.d.scope [] [] f fd) : Binds K fd I__law_times.ps [] := F.bindsN fun _ _ _ _ _ _ us hl => match us, hl with | [_, _], _ => rfl
theorem K__law_minus : InfoOk I__law_minus := ⟨⟨rfl, rfl, rfl, by decide +kernel, rfl, by decide +kernel, by decide +kernel⟩, rfl, rfl, by decide⟩
theorem N__law_minus {K : PySem.W.Frag} {f : Addr} {fd : FuncData} (F : FunD K I__law_minus.d.name I__law_minus.d.qual I__law_minus.d.params I__law_minus.d.body I__law_minus.d.scope [] [] f fd) : Binds K fd I__law_minus.ps [] := F.bindsN fun _ _ _ _ _ _ us hl => match us, hl with | [_, _], _ => rfl
theorem K__law_over : InfoOk I__law_over := ⟨⟨rfl, rfl, rfl, by decide +kernel, rfl, by decide +kernel, by decide +kernel⟩, rfl, rfl, by decide⟩
theorem N__law_over {K : PySem.W.Frag} {f : Addr} {fd : FuncData} (F : FunD K I__law_over.d.name I__law_over.d.qual I__law_over.d.params I__law_over.d.body I__law_over.d.scope [] [] f fd) : Binds K fd I__law_over.ps [] := F.bindsN fun _ _ _ _ _ _ us hl => match us, hl with | [_, _], _ => rfl
theorem K__law_less : InfoOk I__law_less := ⟨⟨rfl, rfl, rfl, by decide +kernel, rfl, by decide +kernel, by decide +kernel⟩, rfl, rfl, by decide⟩
theorem N__law_less {K : PySem.W.Frag} {f : Addr} {fd : FuncData} (F : FunD K I__law_less.d.name I__law_less.d.qual I__law_less.d.params I__law_less.d.body I__law_less.d.scope [] [] f fd) : Binds K fd I__law_less.ps [] := F.bindsN fun _ _ _ _ _ _ us hl => match us, hl with | [_, _], _ => rfl
theorem K__law_best : InfoOk I__law_best := ⟨⟨rfl, rfl, rfl, by decide +kernel, rfl, by decide +kernel, by decide +kernel⟩, rfl, rfl, by decide⟩
theorem N__law_best {K : PySem.W.Frag} {f : Addr} {fd : FuncData} (F : FunD K I__law_best.d.name I__law_best.d.qual I__law_best.d.params I__law_best.d.body I__law_best.d.scope [] [] f fd) : Binds K fd I__law_best.ps [] := F.bindsN fun _ _ _ _ _ _ us hl => match us, hl with | [_, _], _ => rfl
theorem K__law_cost : InfoOk I__law_cost := ⟨⟨rfl, rfl, rfl, by decide +kernel, rfl, by decide +kernel, by decide +kernel⟩, rfl, rfl, by decide⟩
theorem N__law_cost {K : PySem.W.Frag} {f : Addr} {fd : FuncData} (F : FunD K I__law_cost.d.name I__law_cost.d.qual I__law_cost.d.params I__law_cost.d.body I__law_cost.d.scope [] [] f fd) : Binds K fd I__law_cost.ps [] := F.bindsN fun _ _ _ _ _ _ us hl => match us, hl with | [_, _, _, _, _], _ => rfl
theorem K__law_toss : InfoOk I__law_toss := ⟨⟨rfl, rfl, rfl, by decide +kernel, rfl, by decide +kernel, by decide +kernel⟩, rfl, rfl, by decide⟩
theorem N__law_toss {K : PySem.W.Frag} {f : Addr} {fd : FuncData} (F : FunD K I__law_toss.d.name I__law_toss.d.qual I__law_toss.d.params I__law_toss.d.body I__law_toss.d.scope [] [] f fd) : Binds K fd I__law_toss.ps [] := F.bindsN fun _ _ _ _ _ _ us hl => match us, hl with | [_, _, _, _, _], _ => rfl
theorem K__law_after : InfoOk I__law_after := ⟨⟨rfl, rfl, rfl, by decide +kernel, rfl, by decide +kernel, by decide +kernel⟩, rfl, rfl, by decide⟩
theorem N__law_after {K : PySem.W.Frag} {f : Addr} {fd : FuncData} (F : FunD K I__law_after.d.name I__law_after.d.qual I__law_after.d.params I__law_after.d.body I__law_after.d.scope [] [] f fd) : Binds K fd I__law_after.ps [] := F.bindsN fun _ _ _ _ _ _ us hl => match us, hl with | [_, _, _, _, _], _ => rfl
theorem K_law : InfoOk I_law := ⟨⟨rfl, rfl, rfl, by decide +kernel, rfl, by decide +kernel, by decide +kernel⟩, rfl, rfl, by decide⟩
theorem N_law {K : PySem.W.Frag} {f : Addr} {fd : FuncData} (F : FunD K I_law.d.name I_law.d.qual I_law.d.params I_law.d.body I_law.d.scope [] [] f fd) : Binds K fd I_law.ps [] := F.bindsN fun _ _ _ _ _ _ us hl => match us, hl with | [_], _ => rfl
end K36

namespace K36
open PySem PySem.Spec PyProof.Rows L2 Py
abbrev R : PySem.W.OpenRow := PySem.W.OpenLaw.row PySem.Challenge.rw_worthstopping_k36_tosses_that_test_two_c
def faL : List He.Fa := [.glo "common", .glo "lowest", .glo "plus", .glo "minus", .glo "times", .glo "divided", .glo "less", .glo "least", .glo "toss_told", .glo "say_cost", .glo "toss_cost", .glo "told_cost", .glo "test_worth", .glo "test_next", .glo "prior_after", .glo "_law_draw", .glo "_law_take", .glo "_law_lowest", .glo "_law_plus", .glo "_law_times", .glo "_law_minus", .glo "_law_over", .glo "_law_less", .glo "_law_best", .glo "_law_cost", .glo "_law_toss", .glo "_law_after", .glo "law"] ++ [.free "abs", .free "int", .free "isinstance", .free "len", .free "list", .free "range", .free "tuple"] ++ [.glo "Missing", .exc "Missing"] ++ [.exm "Missing" "Missing" true]
def tkT : List (Nat × Nat × Bool) := [(0, 0, true)]
abbrev tkL : Tk := tkX tkT
def fnL : List He.DefD := [I_common.d, I_lowest.d, I_plus.d, I_minus.d, I_times.d, I_divided.d, I_less.d, I_least.d, I_toss_told.d, I_say_cost.d, I_toss_cost.d, I_told_cost.d, I_test_worth.d, I_test_next.d, I_prior_after.d, I__law_draw.d, I__law_take.d, I__law_lowest.d, I__law_plus.d, I__law_times.d, I__law_minus.d, I__law_over.d, I__law_less.d, I__law_best.d, I__law_cost.d, I__law_toss.d, I__law_after.d, I_law.d]
def exK (K : PySem.W.Frag) : Bool := noList K && csL.all (gconOk K)
abbrev hk : PySem.W.Hook := hookP 4 faL fnL exK
def ob (s : PySem.W.SharedT) : AlP := obsP 4 faL fnL exK (HandSHeadRun.getT s)
theorem ob_eq (s : PySem.W.SharedT) : ob s = hk.obs s.abs := obsP_eq (HandSHeadRun.getT_eq s)
def loose0 : List Str := ["WorthError", "Missing", "ZERO", "ONE", "common", "lowest", "plus", "minus", "times", "divided", "less", "least", "toss_told", "say_cost", "toss_cost", "told_cost", "test_worth", "test_next", "prior_after", "_law_draw", "_law_take", "_law_lowest", "_law_plus", "_law_times", "_law_minus", "_law_over", "_law_less", "_law_sum", "_law_best", "_law_cost"]
def loose1 : List Str := ["_law_toss", "_law_after"]
def looseL : List Str := loose0 ++ loose1
theorem runs (w : World) : HandSHeadRun.RunEq R (PySem.W.view R.prog [36]) hk ob 3000 looseL w := by
  intro os
  kernel_rfl
abbrev ZZ (P : Program) (w : World) (K : PySem.W.Frag) (mg : Str → Option Value) (base : Heap) (g : Nat) : Wd := ⟨P, w, K, mg, base, tkL, clsX xnL K, g, xnL⟩
theorem G_common {K : PySem.W.Frag} {mg : Str → Option Value} {h : Heap} (X : K.In h) (G : h.Ns mainGlobals mg) (c : SaysP faL fnL exK K) : ∃ fdat, Good K I_common fdat ∧ mg I_common.d.name = some (.ref (He.ga K I_common.d.name)) := by
  obtain ⟨fd, F⟩ := c.1.def_ 0 (d := I_common.d) rfl
  exact ⟨fd, ⟨F, N_common F⟩, He.glo_ok X G (c.1.fact 0 (f := .glo "common") rfl)⟩
theorem G_lowest {K : PySem.W.Frag} {mg : Str → Option Value} {h : Heap} (X : K.In h) (G : h.Ns mainGlobals mg) (c : SaysP faL fnL exK K) : ∃ fdat, Good K I_lowest fdat ∧ mg I_lowest.d.name = some (.ref (He.ga K I_lowest.d.name)) := by
  obtain ⟨fd, F⟩ := c.1.def_ 1 (d := I_lowest.d) rfl
  exact ⟨fd, ⟨F, N_lowest F⟩, He.glo_ok X G (c.1.fact 1 (f := .glo "lowest") rfl)⟩
theorem G_plus {K : PySem.W.Frag} {mg : Str → Option Value} {h : Heap} (X : K.In h) (G : h.Ns mainGlobals mg) (c : SaysP faL fnL exK K) : ∃ fdat, Good K I_plus fdat ∧ mg I_plus.d.name = some (.ref (He.ga K I_plus.d.name)) := by
  obtain ⟨fd, F⟩ := c.1.def_ 2 (d := I_plus.d) rfl
  exact ⟨fd, ⟨F, N_plus F⟩, He.glo_ok X G (c.1.fact 2 (f := .glo "plus") rfl)⟩
theorem G_minus {K : PySem.W.Frag} {mg : Str → Option Value} {h : Heap} (X : K.In h) (G : h.Ns mainGlobals mg) (c : SaysP faL fnL exK K) : ∃ fdat, Good K I_minus fdat ∧ mg I_minus.d.name = some (.ref (He.ga K I_minus.d.name)) := by
  obtain ⟨fd, F⟩ := c.1.def_ 3 (d := I_minus.d) rfl
  exact ⟨fd, ⟨F, N_minus F⟩, He.glo_ok X G (c.1.fact 3 (f := .glo "minus") rfl)⟩
theorem G_times {K : PySem.W.Frag} {mg : Str → Option Value} {h : Heap} (X : K.In h) (G : h.Ns mainGlobals mg) (c : SaysP faL fnL exK K) : ∃ fdat, Good K I_times fdat ∧ mg I_times.d.name = some (.ref (He.ga K I_times.d.name)) := by
  obtain ⟨fd, F⟩ := c.1.def_ 4 (d := I_times.d) rfl
  exact ⟨fd, ⟨F, N_times F⟩, He.glo_ok X G (c.1.fact 4 (f := .glo "times") rfl)⟩
theorem G_divided {K : PySem.W.Frag} {mg : Str → Option Value} {h : Heap} (X : K.In h) (G : h.Ns mainGlobals mg) (c : SaysP faL fnL exK K) : ∃ fdat, Good K I_divided fdat ∧ mg I_divided.d.name = some (.ref (He.ga K I_divided.d.name)) := by
  obtain ⟨fd, F⟩ := c.1.def_ 5 (d := I_divided.d) rfl
  exact ⟨fd, ⟨F, N_divided F⟩, He.glo_ok X G (c.1.fact 5 (f := .glo "divided") rfl)⟩
theorem G_less {K : PySem.W.Frag} {mg : Str → Option Value} {h : Heap} (X : K.In h) (G : h.Ns mainGlobals mg) (c : SaysP faL fnL exK K) : ∃ fdat, Good K I_less fdat ∧ mg I_less.d.name = some (.ref (He.ga K I_less.d.name)) := by
  obtain ⟨fd, F⟩ := c.1.def_ 6 (d := I_less.d) rfl
  exact ⟨fd, ⟨F, N_less F⟩, He.glo_ok X G (c.1.fact 6 (f := .glo "less") rfl)⟩
theorem G_least {K : PySem.W.Frag} {mg : Str → Option Value} {h : Heap} (X : K.In h) (G : h.Ns mainGlobals mg) (c : SaysP faL fnL exK K) : ∃ fdat, Good K I_least fdat ∧ mg I_least.d.name = some (.ref (He.ga K I_least.d.name)) := by
  obtain ⟨fd, F⟩ := c.1.def_ 7 (d := I_least.d) rfl
  exact ⟨fd, ⟨F, N_least F⟩, He.glo_ok X G (c.1.fact 7 (f := .glo "least") rfl)⟩
theorem G_toss_told {K : PySem.W.Frag} {mg : Str → Option Value} {h : Heap} (X : K.In h) (G : h.Ns mainGlobals mg) (c : SaysP faL fnL exK K) : ∃ fdat, Good K I_toss_told fdat ∧ mg I_toss_told.d.name = some (.ref (He.ga K I_toss_told.d.name)) := by
  obtain ⟨fd, F⟩ := c.1.def_ 8 (d := I_toss_told.d) rfl
  exact ⟨fd, ⟨F, N_toss_told F⟩, He.glo_ok X G (c.1.fact 8 (f := .glo "toss_told") rfl)⟩
theorem G_say_cost {K : PySem.W.Frag} {mg : Str → Option Value} {h : Heap} (X : K.In h) (G : h.Ns mainGlobals mg) (c : SaysP faL fnL exK K) : ∃ fdat, Good K I_say_cost fdat ∧ mg I_say_cost.d.name = some (.ref (He.ga K I_say_cost.d.name)) := by
  obtain ⟨fd, F⟩ := c.1.def_ 9 (d := I_say_cost.d) rfl
  exact ⟨fd, ⟨F, N_say_cost F⟩, He.glo_ok X G (c.1.fact 9 (f := .glo "say_cost") rfl)⟩
theorem G_toss_cost {K : PySem.W.Frag} {mg : Str → Option Value} {h : Heap} (X : K.In h) (G : h.Ns mainGlobals mg) (c : SaysP faL fnL exK K) : ∃ fdat, Good K I_toss_cost fdat ∧ mg I_toss_cost.d.name = some (.ref (He.ga K I_toss_cost.d.name)) := by
  obtain ⟨fd, F⟩ := c.1.def_ 10 (d := I_toss_cost.d) rfl
  exact ⟨fd, ⟨F, N_toss_cost F⟩, He.glo_ok X G (c.1.fact 10 (f := .glo "toss_cost") rfl)⟩
theorem G_told_cost {K : PySem.W.Frag} {mg : Str → Option Value} {h : Heap} (X : K.In h) (G : h.Ns mainGlobals mg) (c : SaysP faL fnL exK K) : ∃ fdat, Good K I_told_cost fdat ∧ mg I_told_cost.d.name = some (.ref (He.ga K I_told_cost.d.name)) := by
  obtain ⟨fd, F⟩ := c.1.def_ 11 (d := I_told_cost.d) rfl
  exact ⟨fd, ⟨F, N_told_cost F⟩, He.glo_ok X G (c.1.fact 11 (f := .glo "told_cost") rfl)⟩
theorem G_test_worth {K : PySem.W.Frag} {mg : Str → Option Value} {h : Heap} (X : K.In h) (G : h.Ns mainGlobals mg) (c : SaysP faL fnL exK K) : ∃ fdat, Good K I_test_worth fdat ∧ mg I_test_worth.d.name = some (.ref (He.ga K I_test_worth.d.name)) := by
  obtain ⟨fd, F⟩ := c.1.def_ 12 (d := I_test_worth.d) rfl
  exact ⟨fd, ⟨F, N_test_worth F⟩, He.glo_ok X G (c.1.fact 12 (f := .glo "test_worth") rfl)⟩
theorem G_test_next {K : PySem.W.Frag} {mg : Str → Option Value} {h : Heap} (X : K.In h) (G : h.Ns mainGlobals mg) (c : SaysP faL fnL exK K) : ∃ fdat, Good K I_test_next fdat ∧ mg I_test_next.d.name = some (.ref (He.ga K I_test_next.d.name)) := by
  obtain ⟨fd, F⟩ := c.1.def_ 13 (d := I_test_next.d) rfl
  exact ⟨fd, ⟨F, N_test_next F⟩, He.glo_ok X G (c.1.fact 13 (f := .glo "test_next") rfl)⟩
theorem G_prior_after {K : PySem.W.Frag} {mg : Str → Option Value} {h : Heap} (X : K.In h) (G : h.Ns mainGlobals mg) (c : SaysP faL fnL exK K) : ∃ fdat, Good K I_prior_after fdat ∧ mg I_prior_after.d.name = some (.ref (He.ga K I_prior_after.d.name)) := by
  obtain ⟨fd, F⟩ := c.1.def_ 14 (d := I_prior_after.d) rfl
  exact ⟨fd, ⟨F, N_prior_after F⟩, He.glo_ok X G (c.1.fact 14 (f := .glo "prior_after") rfl)⟩
theorem G__law_draw {K : PySem.W.Frag} {mg : Str → Option Value} {h : Heap} (X : K.In h) (G : h.Ns mainGlobals mg) (c : SaysP faL fnL exK K) : ∃ fdat, Good K I__law_draw fdat ∧ mg I__law_draw.d.name = some (.ref (He.ga K I__law_draw.d.name)) := by
  obtain ⟨fd, F⟩ := c.1.def_ 15 (d := I__law_draw.d) rfl
  exact ⟨fd, ⟨F, N__law_draw F⟩, He.glo_ok X G (c.1.fact 15 (f := .glo "_law_draw") rfl)⟩
theorem G__law_take {K : PySem.W.Frag} {mg : Str → Option Value} {h : Heap} (X : K.In h) (G : h.Ns mainGlobals mg) (c : SaysP faL fnL exK K) : ∃ fdat, Good K I__law_take fdat ∧ mg I__law_take.d.name = some (.ref (He.ga K I__law_take.d.name)) := by
  obtain ⟨fd, F⟩ := c.1.def_ 16 (d := I__law_take.d) rfl
  exact ⟨fd, ⟨F, N__law_take F⟩, He.glo_ok X G (c.1.fact 16 (f := .glo "_law_take") rfl)⟩
theorem G__law_lowest {K : PySem.W.Frag} {mg : Str → Option Value} {h : Heap} (X : K.In h) (G : h.Ns mainGlobals mg) (c : SaysP faL fnL exK K) : ∃ fdat, Good K I__law_lowest fdat ∧ mg I__law_lowest.d.name = some (.ref (He.ga K I__law_lowest.d.name)) := by
  obtain ⟨fd, F⟩ := c.1.def_ 17 (d := I__law_lowest.d) rfl
  exact ⟨fd, ⟨F, N__law_lowest F⟩, He.glo_ok X G (c.1.fact 17 (f := .glo "_law_lowest") rfl)⟩
theorem G__law_plus {K : PySem.W.Frag} {mg : Str → Option Value} {h : Heap} (X : K.In h) (G : h.Ns mainGlobals mg) (c : SaysP faL fnL exK K) : ∃ fdat, Good K I__law_plus fdat ∧ mg I__law_plus.d.name = some (.ref (He.ga K I__law_plus.d.name)) := by
  obtain ⟨fd, F⟩ := c.1.def_ 18 (d := I__law_plus.d) rfl
  exact ⟨fd, ⟨F, N__law_plus F⟩, He.glo_ok X G (c.1.fact 18 (f := .glo "_law_plus") rfl)⟩
theorem G__law_times {K : PySem.W.Frag} {mg : Str → Option Value} {h : Heap} (X : K.In h) (G : h.Ns mainGlobals mg) (c : SaysP faL fnL exK K) : ∃ fdat, Good K I__law_times fdat ∧ mg I__law_times.d.name = some (.ref (He.ga K I__law_times.d.name)) := by
  obtain ⟨fd, F⟩ := c.1.def_ 19 (d := I__law_times.d) rfl
  exact ⟨fd, ⟨F, N__law_times F⟩, He.glo_ok X G (c.1.fact 19 (f := .glo "_law_times") rfl)⟩
theorem G__law_minus {K : PySem.W.Frag} {mg : Str → Option Value} {h : Heap} (X : K.In h) (G : h.Ns mainGlobals mg) (c : SaysP faL fnL exK K) : ∃ fdat, Good K I__law_minus fdat ∧ mg I__law_minus.d.name = some (.ref (He.ga K I__law_minus.d.name)) := by
  obtain ⟨fd, F⟩ := c.1.def_ 20 (d := I__law_minus.d) rfl
  exact ⟨fd, ⟨F, N__law_minus F⟩, He.glo_ok X G (c.1.fact 20 (f := .glo "_law_minus") rfl)⟩
theorem G__law_over {K : PySem.W.Frag} {mg : Str → Option Value} {h : Heap} (X : K.In h) (G : h.Ns mainGlobals mg) (c : SaysP faL fnL exK K) : ∃ fdat, Good K I__law_over fdat ∧ mg I__law_over.d.name = some (.ref (He.ga K I__law_over.d.name)) := by
  obtain ⟨fd, F⟩ := c.1.def_ 21 (d := I__law_over.d) rfl
  exact ⟨fd, ⟨F, N__law_over F⟩, He.glo_ok X G (c.1.fact 21 (f := .glo "_law_over") rfl)⟩
theorem G__law_less {K : PySem.W.Frag} {mg : Str → Option Value} {h : Heap} (X : K.In h) (G : h.Ns mainGlobals mg) (c : SaysP faL fnL exK K) : ∃ fdat, Good K I__law_less fdat ∧ mg I__law_less.d.name = some (.ref (He.ga K I__law_less.d.name)) := by
  obtain ⟨fd, F⟩ := c.1.def_ 22 (d := I__law_less.d) rfl
  exact ⟨fd, ⟨F, N__law_less F⟩, He.glo_ok X G (c.1.fact 22 (f := .glo "_law_less") rfl)⟩
theorem G__law_best {K : PySem.W.Frag} {mg : Str → Option Value} {h : Heap} (X : K.In h) (G : h.Ns mainGlobals mg) (c : SaysP faL fnL exK K) : ∃ fdat, Good K I__law_best fdat ∧ mg I__law_best.d.name = some (.ref (He.ga K I__law_best.d.name)) := by
  obtain ⟨fd, F⟩ := c.1.def_ 23 (d := I__law_best.d) rfl
  exact ⟨fd, ⟨F, N__law_best F⟩, He.glo_ok X G (c.1.fact 23 (f := .glo "_law_best") rfl)⟩
theorem G__law_cost {K : PySem.W.Frag} {mg : Str → Option Value} {h : Heap} (X : K.In h) (G : h.Ns mainGlobals mg) (c : SaysP faL fnL exK K) : ∃ fdat, Good K I__law_cost fdat ∧ mg I__law_cost.d.name = some (.ref (He.ga K I__law_cost.d.name)) := by
  obtain ⟨fd, F⟩ := c.1.def_ 24 (d := I__law_cost.d) rfl
  exact ⟨fd, ⟨F, N__law_cost F⟩, He.glo_ok X G (c.1.fact 24 (f := .glo "_law_cost") rfl)⟩
theorem G__law_toss {K : PySem.W.Frag} {mg : Str → Option Value} {h : Heap} (X : K.In h) (G : h.Ns mainGlobals mg) (c : SaysP faL fnL exK K) : ∃ fdat, Good K I__law_toss fdat ∧ mg I__law_toss.d.name = some (.ref (He.ga K I__law_toss.d.name)) := by
  obtain ⟨fd, F⟩ := c.1.def_ 25 (d := I__law_toss.d) rfl
  exact ⟨fd, ⟨F, N__law_toss F⟩, He.glo_ok X G (c.1.fact 25 (f := .glo "_law_toss") rfl)⟩
theorem G__law_after {K : PySem.W.Frag} {mg : Str → Option Value} {h : Heap} (X : K.In h) (G : h.Ns mainGlobals mg) (c : SaysP faL fnL exK K) : ∃ fdat, Good K I__law_after fdat ∧ mg I__law_after.d.name = some (.ref (He.ga K I__law_after.d.name)) := by
  obtain ⟨fd, F⟩ := c.1.def_ 26 (d := I__law_after.d) rfl
  exact ⟨fd, ⟨F, N__law_after F⟩, He.glo_ok X G (c.1.fact 26 (f := .glo "_law_after") rfl)⟩
theorem G_law {K : PySem.W.Frag} {mg : Str → Option Value} {h : Heap} (X : K.In h) (G : h.Ns mainGlobals mg) (c : SaysP faL fnL exK K) : ∃ fdat, Good K I_law fdat ∧ mg I_law.d.name = some (.ref (He.ga K I_law.d.name)) := by
  obtain ⟨fd, F⟩ := c.1.def_ 27 (d := I_law.d) rfl
  exact ⟨fd, ⟨F, N_law F⟩, He.glo_ok X G (c.1.fact 27 (f := .glo "law") rfl)⟩
theorem gxL {K : PySem.W.Frag} {h : Heap} {mg : Str → Option Value} (X : K.In h) (G : h.Ns mainGlobals mg) (c : SaysP faL fnL exK K) : ∀ n ∈ xnL, mg n = some (.ref (He.ga K n)) ∧ ExcC K (He.ga K n) := all_cons ⟨He.glo_ok X G (c.1.fact 35 (f := .glo "Missing") rfl), excC_ok (c.1.fact 36 (f := .exc "Missing") rfl)⟩ (all_nil)
theorem gmL {K : PySem.W.Frag} (c : SaysP faL fnL exK K) : ∀ t ∈ tkT, PySem.W.exmOne K (clsX xnL K t.2.1) (clsX xnL K t.1) = some t.2.2 := all_cons (He.exm_ok (c.1.fact 37 (f := .exm "Missing" "Missing" true) rfl)) (all_nil)
theorem gsL [HW] {P : Program} {w : World} {K : PySem.W.Frag} {mg : Str → Option Value} {base h : Heap} {g : Nat} (hw : HW.P = P ∧ HW.w = w) (X : K.In h) (G : h.Ns mainGlobals mg) (c : SaysP faL fnL exK K) : Gs fsL (ZZ P w K mg base g) bnL csL :=
  have c2 := Bool.and_eq_true_iff.mp (show (noList K && csL.all (gconOk K)) = true from c.2)
  ⟨all_get (P := fun I => ∃ fdat, Good K I fdat ∧ mg I.d.name = some (.ref (He.ga K I.d.name))) (all_cons (G_common X G c) (all_cons (G_lowest X G c) (all_cons (G_plus X G c) (all_cons (G_minus X G c) (all_cons (G_times X G c) (all_cons (G_divided X G c) (all_cons (G_less X G c) (all_cons (G_least X G c) (all_cons (G_toss_told X G c) (all_cons (G_say_cost X G c) (all_cons (G_toss_cost X G c) (all_cons (G_told_cost X G c) (all_cons (G_test_worth X G c) (all_cons (G_test_next X G c) (all_cons (G_prior_after X G c) (all_cons (G__law_draw X G c) (all_cons (G__law_take X G c) (all_cons (G__law_lowest X G c) (all_cons (G__law_plus X G c) (all_cons (G__law_times X G c) (all_cons (G__law_minus X G c) (all_cons (G__law_over X G c) (all_cons (G__law_less X G c) (all_cons (G__law_best X G c) (all_cons (G__law_cost X G c) (all_cons (G__law_toss X G c) (all_cons (G__law_after X G c) (all_cons (G_law X G c) (all_nil))))))))))))))))))))))))))))), all_cons (He.free_ok X G (c.1.fact 28 (f := .free "abs") rfl)) (all_cons (He.free_ok X G (c.1.fact 29 (f := .free "int") rfl)) (all_cons (He.free_ok X G (c.1.fact 30 (f := .free "isinstance") rfl)) (all_cons (He.free_ok X G (c.1.fact 31 (f := .free "len") rfl)) (all_cons (He.free_ok X G (c.1.fact 32 (f := .free "list") rfl)) (all_cons (He.free_ok X G (c.1.fact 33 (f := .free "range") rfl)) (all_cons (He.free_ok X G (c.1.fact 34 (f := .free "tuple") rfl)) (all_nil))))))), hw, fun j n e => ⟨(all_get (gxL X G c) j n e).1, clsX_at e, (all_get (gxL X G c) j n e).2⟩, fun i y k e => tkX_at (P := fun i y k => PySem.W.exmOne K (clsX xnL K y) (clsX xnL K i) = some k) (gmL c) e, fun p hp => gcon_ok X G (List.all_eq_true.mp c2.2 p hp)⟩
theorem okL : ∀ (j : Nat) (I : Info), fsL[j]? = some I → InfoOk I := all_get (all_cons K_common (all_cons K_lowest (all_cons K_plus (all_cons K_minus (all_cons K_times (all_cons K_divided (all_cons K_less (all_cons K_least (all_cons K_toss_told (all_cons K_say_cost (all_cons K_toss_cost (all_cons K_told_cost (all_cons K_test_worth (all_cons K_test_next (all_cons K_prior_after (all_cons K__law_draw (all_cons K__law_take (all_cons K__law_lowest (all_cons K__law_plus (all_cons K__law_times (all_cons K__law_minus (all_cons K__law_over (all_cons K__law_less (all_cons K__law_best (all_cons K__law_cost (all_cons K__law_toss (all_cons K__law_after (all_cons K_law (all_nil)))))))))))))))))))))))))))))
theorem bodL [HW] {Z : Wd} (zx : Z.xn = xnL) : ∀ (j : Nat) (I : Info), fsL[j]? = some I → ∀ d cdv A outer s H E, Bd fsL Z bnL csL d (Z.cf fsL d E) (Z.X I cdv A outer s H E) → PSs (Z.X I cdv A outer s H E) I.d.body (tS (Z.cf fsL d E) Z.tk Z.g I.fd.b) :=
  all_get (P := fun I => ∀ d cdv A outer s H E, Bd fsL Z bnL csL d (Z.cf fsL d E) (Z.X I cdv A outer s H E) → PSs (Z.X I cdv A outer s H E) I.d.body (tS (Z.cf fsL d E) Z.tk Z.g I.fd.b)) (all_cons (fun d cdv A outer s H E B => B_common zx d cdv A outer s H E B) (all_cons (fun d cdv A outer s H E B => B_lowest zx d cdv A outer s H E B) (all_cons (fun d cdv A outer s H E B => B_plus zx d cdv A outer s H E B) (all_cons (fun d cdv A outer s H E B => B_minus zx d cdv A outer s H E B) (all_cons (fun d cdv A outer s H E B => B_times zx d cdv A outer s H E B) (all_cons (fun d cdv A outer s H E B => B_divided zx d cdv A outer s H E B) (all_cons (fun d cdv A outer s H E B => B_less zx d cdv A outer s H E B) (all_cons (fun d cdv A outer s H E B => B_least zx d cdv A outer s H E B) (all_cons (fun d cdv A outer s H E B => B_toss_told zx d cdv A outer s H E B) (all_cons (fun d cdv A outer s H E B => B_say_cost zx d cdv A outer s H E B) (all_cons (fun d cdv A outer s H E B => B_toss_cost zx d cdv A outer s H E B) (all_cons (fun d cdv A outer s H E B => B_told_cost zx d cdv A outer s H E B) (all_cons (fun d cdv A outer s H E B => B_test_worth zx d cdv A outer s H E B) (all_cons (fun d cdv A outer s H E B => B_test_next zx d cdv A outer s H E B) (all_cons (fun d cdv A outer s H E B => B_prior_after zx d cdv A outer s H E B) (all_cons (fun d cdv A outer s H E B => B__law_draw zx d cdv A outer s H E B) (all_cons (fun d cdv A outer s H E B => B__law_take zx d cdv A outer s H E B) (all_cons (fun d cdv A outer s H E B => B__law_lowest zx d cdv A outer s H E B) (all_cons (fun d cdv A outer s H E B => B__law_plus zx d cdv A outer s H E B) (all_cons (fun d cdv A outer s H E B => B__law_times zx d cdv A outer s H E B) (all_cons (fun d cdv A outer s H E B => B__law_minus zx d cdv A outer s H E B) (all_cons (fun d cdv A outer s H E B => B__law_over zx d cdv A outer s H E B) (all_cons (fun d cdv A outer s H E B => B__law_less zx d cdv A outer s H E B) (all_cons (fun d cdv A outer s H E B => B__law_best zx d cdv A outer s H E B) (all_cons (fun d cdv A outer s H E B => B__law_cost zx d cdv A outer s H E B) (all_cons (fun d cdv A outer s H E B => B__law_toss zx d cdv A outer s H E B) (all_cons (fun d cdv A outer s H E B => B__law_after zx d cdv A outer s H E B) (all_cons (fun d cdv A outer s H E B => B_law zx d cdv A outer s H E B) (all_nil)))))))))))))))))))))))))))))
abbrev lawFn (g : Nat) : Fn := run (fsL.map Info.fd) tkL g 40
abbrev spLaw [HW] (K : PySem.W.Frag) : Sp := fun vs H Q _ => spE (fun g => spF K (clsX xnL K) (lawFn g) I_law.fd I_law.N 27) vs H Q fun _ _ _ => False
theorem facts [HW] {P : Program} {w : World} {K : PySem.W.Frag} {h : Heap} {mg : Str → Option Value} {f : Addr} (hw : HW.P = P ∧ HW.w = w) (X : K.In h) (G : h.Ns mainGlobals mg) (hfa : mg ("law" : Str) = some (.ref f)) (c : SaysP faL fnL exK K) :
    noList K = true ∧ ∃ fd : FuncData, (∀ (s : Shared) (v : Value), BindsTo s fd ⟨[v], []⟩ [("script", v)]) ∧ ∀ base : Heap, K.In base → base.Ns mainGlobals mg → FnOk P w K mg base CX0 40 f fd ["script"] (spLaw K) := by
  have c2 := Bool.and_eq_true_iff.mp (show (noList K && csL.all (gconOk K)) = true from c.2)
  obtain ⟨fd, F⟩ := c.1.def_ 27 (d := I_law.d) rfl
  have e := hfa.symm.trans (He.glo_ok X G (c.1.fact 27 (f := .glo "law") rfl))
  cases e
  have b := FunD.bindsA (ps := ["script"]) F fun _ _ _ _ _ _ us hl => match us, hl with | [_], _ => rfl
  exact ⟨c2.1, fd, fun s v => b s [v] rfl, fun base _ _ => fnOk_0 (fnOk_ex fun g => okAt (Z := ZZ P w K mg base g) (gsL hw X G c) okL (bodL rfl) 40 27 I_law fd rfl ⟨F, N_law F⟩)⟩
end K36

set_option exponentiation.threshold 10000
namespace K36
open PySem PySem.Spec PyProof.Rows L2 Py
abbrev fsd : List FD := fsL.map Info.fd
def gg : Nat := 2 ^ 9000
theorem lgg : 2 ^ 9000 ≤ gg := Nat.le_refl _
abbrev rn (d : Nat) : Fn := run fsd tkL gg d
abbrev Y := Option (W × Fl)
/-! ### ratios by whole numbers -/
theorem low_neg {a b : Int} (hb : b ≠ 0) : low (-a) (-b) = low a b := by
  unfold low
  rw [Int.natAbs_neg, Int.natAbs_neg, Int.neg_neg, Int.neg_neg]
  by_cases h : 0 < b
  · rw [if_pos h, if_neg (by omega)]
  · rw [if_neg h, if_pos (by omega)]
theorem low_mulP {k a b : Int} (hk : 0 < k) : low (k * a) (k * b) = low a b := by
  have hg : ((Nat.gcd (k * a).natAbs (k * b).natAbs : Nat) : Int) = k * ((Nat.gcd a.natAbs b.natAbs : Nat) : Int) := by
    rw [Int.natAbs_mul, Int.natAbs_mul, Nat.gcd_mul_left, Int.natCast_mul]
    congr 1
    omega
  have hf : ∀ x : Int, (k * x).fdiv (k * ((Nat.gcd a.natAbs b.natAbs : Nat) : Int)) = x.fdiv ((Nat.gcd a.natAbs b.natAbs : Nat) : Int) := fun x => Int.mul_fdiv_mul_of_pos _ _ hk
  have hs : (0 < k * b) ↔ 0 < b := by
    constructor
    · intro h; exact Int.pos_of_mul_pos_right h (by omega)
    · intro h; exact Int.mul_pos hk h
  unfold low
  rw [hg]
  by_cases h : 0 < b
  · rw [if_pos h, if_pos (hs.mpr h), hf, hf]
  · rw [if_neg h, if_neg (fun z => h (hs.mp z)), ← Int.mul_neg, ← Int.mul_neg, hf, hf]
theorem low_x {a b c d : Int} (hb : 0 < b) (hd : 0 < d) (h : a * d = c * b) : low a b = low c d := by
  rw [← low_mulP (a := a) (b := b) hd, ← low_mulP (a := c) (b := d) hb, Int.mul_comm d a, h, Int.mul_comm c b, Int.mul_comm d b]
theorem low_sp {a b : Int} (hb : 0 < b) : ∃ g, 0 < g ∧ a = g * (low a b).1 ∧ b = g * (low a b).2 ∧ 0 < (low a b).2 := by
  obtain ⟨g, a', b', hg, rfl, rfl, ⟨_, h3, e⟩ | ⟨h2, _, _⟩⟩ := low_by a b (by omega)
  · exact ⟨g, hg, by rw [e], by rw [e], by rw [e]; exact h3⟩
  · omega
section
variable {a b c d : Int} (hb : 0 < b) (hd : 0 < d)
include hb hd
theorem rpl_low : rpl (low a b) (low c d) = low (a * d + c * b) (b * d) := by
  obtain ⟨g, hg, e1, e2, e3⟩ := low_sp (a := a) hb
  obtain ⟨h, hh, f1, f2, f3⟩ := low_sp (a := c) hd
  unfold rpl
  refine low_x (Int.mul_pos e3 f3) (Int.mul_pos hb hd) ?_
  generalize low a b = p at *
  generalize low c d = q at *
  subst e1 e2 f1 f2
  grind
theorem rmi_low : rmi (low a b) (low c d) = low (a * d - c * b) (b * d) := by
  obtain ⟨g, hg, e1, e2, e3⟩ := low_sp (a := a) hb
  obtain ⟨h, hh, f1, f2, f3⟩ := low_sp (a := c) hd
  unfold rmi
  refine low_x (Int.mul_pos e3 f3) (Int.mul_pos hb hd) ?_
  generalize low a b = p at *
  generalize low c d = q at *
  subst e1 e2 f1 f2
  grind
theorem rtm_low : rtm (low a b) (low c d) = low (a * c) (b * d) := by
  obtain ⟨g, hg, e1, e2, e3⟩ := low_sp (a := a) hb
  obtain ⟨h, hh, f1, f2, f3⟩ := low_sp (a := c) hd
  unfold rtm
  refine low_x (Int.mul_pos e3 f3) (Int.mul_pos hb hd) ?_
  generalize low a b = p at *
  generalize low c d = q at *
  subst e1 e2 f1 f2
  grind
theorem rdv_low (hc : 0 < c) : rdv (low a b) (low c d) = low (a * d) (b * c) := by
  obtain ⟨g, hg, e1, e2, e3⟩ := low_sp (a := a) hb
  obtain ⟨h, hh, f1, f2, f3⟩ := low_sp (a := c) hd
  have f0 : 0 < (low c d).1 := Int.pos_of_mul_pos_right (f1 ▸ hc) (by omega)
  unfold rdv
  refine low_x (Int.mul_pos e3 f0) (Int.mul_pos hb hc) ?_
  generalize low a b = p at *
  generalize low c d = q at *
  subst e1 e2 f1 f2
  grind
theorem rls_low : rls (low a b) (low c d) = decide (a * d < c * b) := by
  obtain ⟨g, hg, e1, e2, e3⟩ := low_sp (a := a) hb
  obtain ⟨h, hh, f1, f2, f3⟩ := low_sp (a := c) hd
  unfold rls
  congr 1
  generalize low a b = p at *
  generalize low c d = q at *
  have hgh : 0 < g * h := Int.mul_pos hg hh
  have k1 : a * d = (g * h) * (p.1 * q.2) := by rw [e1, f2]; grind
  have k2 : c * b = (g * h) * (q.1 * p.2) := by rw [f1, e2]; grind
  rw [k1, k2]
  exact propext (Int.mul_lt_mul_left hgh).symm
end
/-- no chance -/
theorem low_zero {a b : Int} (hb : 0 < b) : low a b = (0, 1) ↔ a = 0 := by
  constructor
  · intro h
    obtain ⟨g, hg, e1, e2, e3⟩ := low_sp (a := a) hb
    rw [h] at e1
    simpa using e1
  · rintro rfl
    rw [low_x (c := 0) (d := 1) hb (by decide) (by simp)]
    rfl
theorem eq0_low {a b : Int} (hb : 0 < b) : eqW (rt (low a b)) (.tup [.int 0, .int 1]) = decide (a = 0) := by
  by_cases h : a = 0
  · rw [(low_zero hb).mpr h]
    simp [rt, eqW, eqWs, h]
  · have h1 : (low a b).1 ≠ 0 := by
      obtain ⟨g, hg, e1, e2, e3⟩ := low_sp (a := a) hb
      intro z
      rw [z] at e1
      exact h (by simpa using e1)
    simp [rt, eqW, eqWs, h, h1]
theorem ne0_low {a b : Int} (hb : 0 < b) : cmpW .ne (rt (low a b)) (.tup [.int 0, .int 1]) = some (!decide (a = 0)) := by
  rw [← eq0_low hb]
  show (if eqOk (rt (low a b)) (.tup [.int 0, .int 1]) then some (!eqW (rt (low a b)) (.tup [.int 0, .int 1])) else none) = _
  rw [if_pos (show eqOk (rt (low a b)) (.tup [.int 0, .int 1]) = true from rfl)]
theorem is0_low {a b : Int} (hb : 0 < b) : cmpW .eq (rt (low a b)) (.tup [.int 0, .int 1]) = some (decide (a = 0)) := by
  rw [← eq0_low hb]
  show (if eqOk (rt (low a b)) (.tup [.int 0, .int 1]) then some (eqW (rt (low a b)) (.tup [.int 0, .int 1])) else none) = _
  rw [if_pos (show eqOk (rt (low a b)) (.tup [.int 0, .int 1]) = true from rfl)]
/-! ### the lesser -/
def mn (a b : Int) : Int := if b < a then b else a
theorem mn_mul {k a b : Int} (hk : 0 < k) : mn (k * a) (k * b) = k * mn a b := by
  unfold mn
  by_cases h : b < a
  · rw [if_pos h, if_pos ((Int.mul_lt_mul_left hk).mpr h)]
  · rw [if_neg h, if_neg (fun z => h ((Int.mul_lt_mul_left hk).mp z))]
theorem mn_le1 (a b : Int) : mn a b ≤ a := by unfold mn; split <;> omega
theorem mn_le2 (a b : Int) : mn a b ≤ b := by unfold mn; split <;> omega
theorem mn_nn {a b : Int} (h1 : 0 ≤ a) (h2 : 0 ≤ b) : 0 ≤ mn a b := by unfold mn; split <;> omega
theorem le2 (p q : Int × Int) : leR [p, q] = if rls q p then q else p := by
  show bsF rgt (if rgt p p then p else p) [q] = _
  have : (if rgt p p then p else p) = p := by split <;> rfl
  rw [this]
  rfl
theorem le2_low {a b m : Int} (hm : 0 < m) : leR [low a m, low b m] = low (mn a b) m := by
  rw [le2, rls_low hm hm]
  unfold mn
  by_cases h : b < a
  · rw [if_pos h, decide_eq_true (Int.mul_lt_mul_of_pos_right h hm)]; rfl
  · rw [if_neg h, decide_eq_false (fun z => h (Int.lt_of_mul_lt_mul_right z (by omega)))]; rfl
theorem le1' (p : Int × Int) : leR [p] = p := by
  show (if rgt p p then p else p) = p
  split <;> rfl
/-! ### sizes -/
def Sz (k : Nat) (i : Int) : Prop := i.natAbs < 2 ^ k
theorem Sz.up {k m : Nat} {i : Int} (h : Sz k i) (hk : k ≤ m) : Sz m i := Nat.lt_of_lt_of_le h (Nat.pow_le_pow_right (by decide) hk)
theorem Sz.mul {k m : Nat} {i j : Int} (h : Sz k i) (h' : Sz m j) : Sz (k + m) (i * j) := mul_lt2 h h'
theorem Sz.add {k : Nat} {i j : Int} (h : Sz k i) (h' : Sz k j) : Sz (k + 1) (i + j) := by
  have := Int.natAbs_add_le i j
  unfold Sz at *
  rw [Nat.pow_succ]
  omega
theorem Sz.le {k : Nat} {i j : Int} (h0 : 0 ≤ i) (h1 : i ≤ j) (h : Sz k j) : Sz k i := by unfold Sz at *; omega
theorem g_low {k : Nat} {a b : Int} (hk : k ≤ 4490) (hb : 0 < b) (h1 : Sz k a) (h2 : Sz k b) : gR (low a b) = true := (low_bd (by omega) h1 h2 : bd k (low a b)).g hk
theorem m_low {k : Nat} {a b : Int} (hk : k ≤ 4490) (hb : 0 < b) (h1 : Sz k a) (h2 : Sz k b) : gM (low a b) = true := gM_of (g_low hk hb h1 h2)
end K36

set_option exponentiation.threshold 10000
namespace K36
open PySem PySem.Spec PyProof.Rows L2 Py
/-- two chances and a cost -/
structure Pm where
  pn : Int
  pd : Int
  qn : Int
  qd : Int
  cn : Int
  cd : Int
structure Ok (P : Pm) : Prop where
  p0 : 0 ≤ P.pn
  p1 : P.pn ≤ P.pd
  p2 : 1 ≤ P.pd
  p3 : P.pd ≤ 4
  q0 : 0 ≤ P.qn
  q1 : P.qn ≤ P.qd
  q2 : 1 ≤ P.qd
  q3 : P.qd ≤ 4
  c0 : 0 ≤ P.cn
  c1 : P.cn ≤ P.cd
  c2 : 1 ≤ P.cd
  c3 : P.cd ≤ 100
def Pm.p (P : Pm) : Int × Int := low P.pn P.pd
def Pm.q (P : Pm) : Int × Int := low P.qn P.qd
def Pm.c (P : Pm) : Int × Int := low P.cn P.cd
def Pm.D (P : Pm) : Int := P.pd * P.qd
/-- behind heads, behind tails -/
def Pm.hA (P : Pm) (A : Int) : Int := A * P.pn * P.qd
def Pm.hB (P : Pm) (B : Int) : Int := B * P.qn * P.pd
def Pm.tA (P : Pm) (A : Int) : Int := A * (P.pd - P.pn) * P.qd
def Pm.tB (P : Pm) (B : Int) : Int := B * (P.qd - P.qn) * P.pd
def Pm.E (P : Pm) : Nat → Int
  | 0 => 1
  | n + 1 => Pm.E P n * P.D
/-- the least cost, by whole numbers -/
def Z (P : Pm) : Nat → Int → Int → Int
  | 0, A, B => P.cd * mn A B
  | n + 1, A, B => mn (P.cd * P.E (n + 1) * mn A B) (P.cn * P.E (n + 1) * (A + B) + Z P n (P.hA A) (P.hB B) + Z P n (P.tA A) (P.tB B))
def TT (P : Pm) (n : Nat) (A B : Int) : Int := P.cn * P.E (n + 1) * (A + B) + Z P n (P.hA A) (P.hB B) + Z P n (P.tA A) (P.tB B)
theorem Z_succ (P : Pm) (n : Nat) (A B : Int) : Z P (n + 1) A B = mn (P.cd * P.E (n + 1) * mn A B) (TT P n A B) := rfl
def V (P : Pm) (n : Nat) (x : Int × Int) : Int × Int := low (Z P n x.1 (x.2 - x.1)) (P.cd * P.E n * x.2)
theorem Z_mul (P : Pm) {k : Int} (hk : 0 < k) : ∀ (n : Nat) (A B : Int), Z P n (k * A) (k * B) = k * Z P n A B
  | 0, A, B => by
    show P.cd * mn (k * A) (k * B) = k * (P.cd * mn A B)
    rw [mn_mul hk]
    grind
  | n + 1, A, B => by
    have e1 : P.hA (k * A) = k * P.hA A := by unfold Pm.hA; grind
    have e2 : P.hB (k * B) = k * P.hB B := by unfold Pm.hB; grind
    have e3 : P.tA (k * A) = k * P.tA A := by unfold Pm.tA; grind
    have e4 : P.tB (k * B) = k * P.tB B := by unfold Pm.tB; grind
    show mn (P.cd * P.E (n + 1) * mn (k * A) (k * B)) (P.cn * P.E (n + 1) * (k * A + k * B) + Z P n (P.hA (k * A)) (P.hB (k * B)) + Z P n (P.tA (k * A)) (P.tB (k * B))) = k * mn _ _
    rw [e1, e2, e3, e4, Z_mul P hk n, Z_mul P hk n, mn_mul (a := A) (b := B) hk]
    refine Eq.trans ?_ (mn_mul hk)
    congr 1 <;> grind
theorem E_pos {P : Pm} (h : Ok P) : ∀ n, 0 < P.E n
  | 0 => by show (0 : Int) < 1; decide
  | n + 1 => Int.mul_pos (E_pos h n) (Int.mul_pos (by have := h.p2; omega) (by have := h.q2; omega))
theorem D_pos {P : Pm} (h : Ok P) : 0 < P.D := Int.mul_pos (by have := h.p2; omega) (by have := h.q2; omega)
theorem sz3 {i : Int} (h0 : 0 ≤ i) (h : i ≤ 4) : Sz 3 i := by show i.natAbs < 8; omega
theorem sz7 {i : Int} (h0 : 0 ≤ i) (h : i ≤ 100) : Sz 7 i := by show i.natAbs < 128; omega
theorem D_sz {P : Pm} (h : Ok P) : Sz 6 P.D := (sz3 (by have := h.p2; omega) h.p3).mul (sz3 (by have := h.q2; omega) h.q3)
theorem E_sz {P : Pm} (h : Ok P) : ∀ n, Sz (6 * n + 1) (P.E n)
  | 0 => by show (1 : Int).natAbs < 2; decide
  | n + 1 => ((E_sz h n).mul (D_sz h)).up (by omega)
section
variable {P : Pm} (h : Ok P)
include h
theorem hA_nn {A : Int} (a : 0 ≤ A) : 0 ≤ P.hA A := Int.mul_nonneg (Int.mul_nonneg a h.p0) (by have := h.q2; omega)
theorem hB_nn {A : Int} (a : 0 ≤ A) : 0 ≤ P.hB A := Int.mul_nonneg (Int.mul_nonneg a h.q0) (by have := h.p2; omega)
theorem tA_nn {A : Int} (a : 0 ≤ A) : 0 ≤ P.tA A := Int.mul_nonneg (Int.mul_nonneg a (by have := h.p1; omega)) (by have := h.q2; omega)
theorem tB_nn {A : Int} (a : 0 ≤ A) : 0 ≤ P.tB A := Int.mul_nonneg (Int.mul_nonneg a (by have := h.q1; omega)) (by have := h.p2; omega)
theorem hA_sz {k : Nat} {A : Int} (a : Sz k A) : Sz (k + 6) (P.hA A) := ((a.mul (sz3 h.p0 (by have := h.p1; have := h.p3; omega))).mul (sz3 (by have := h.q2; omega) h.q3)).up (by omega)
theorem hB_sz {k : Nat} {A : Int} (a : Sz k A) : Sz (k + 6) (P.hB A) := ((a.mul (sz3 h.q0 (by have := h.q1; have := h.q3; omega))).mul (sz3 (by have := h.p2; omega) h.p3)).up (by omega)
theorem tA_sz {k : Nat} {A : Int} (a : Sz k A) : Sz (k + 6) (P.tA A) := ((a.mul (sz3 (by have := h.p1; omega) (by have := h.p0; have := h.p3; omega))).mul (sz3 (by have := h.q2; omega) h.q3)).up (by omega)
theorem tB_sz {k : Nat} {A : Int} (a : Sz k A) : Sz (k + 6) (P.tB A) := ((a.mul (sz3 (by have := h.q1; omega) (by have := h.q0; have := h.q3; omega))).mul (sz3 (by have := h.p2; omega) h.p3)).up (by omega)
theorem Z_nn : ∀ (n : Nat) {A B : Int}, 0 ≤ A → 0 ≤ B → 0 ≤ Z P n A B
  | 0, A, B, a, b => Int.mul_nonneg (by have := h.c2; omega) (mn_nn a b)
  | n + 1, A, B, a, b => by
    have e := E_pos h (n + 1)
    have z1 := Z_nn n (hA_nn h a) (hB_nn h b)
    have z2 := Z_nn n (tA_nn h a) (tB_nn h b)
    have z3 : 0 ≤ P.cn * P.E (n + 1) * (A + B) := Int.mul_nonneg (Int.mul_nonneg h.c0 (by omega)) (by omega)
    exact mn_nn (Int.mul_nonneg (Int.mul_nonneg (by have := h.c2; omega) (by omega)) (mn_nn a b)) (by omega)
theorem Z_le : ∀ (n : Nat) (A B : Int), Z P n A B ≤ P.cd * P.E n * mn A B
  | 0, A, B => by show P.cd * mn A B ≤ P.cd * 1 * mn A B; rw [Int.mul_one]; exact Int.le_refl _
  | n + 1, A, B => mn_le1 _ _
theorem Z_sz {k : Nat} (n : Nat) {A B : Int} (a : 0 ≤ A) (b : 0 ≤ B) (s : Sz k A) : Sz (6 * n + k + 8) (Z P n A B) := by
  have m : Sz k (mn A B) := Sz.le (mn_nn a b) (mn_le1 A B) s
  have := ((sz7 (by have := h.c2; omega) h.c3).mul (E_sz h n)).mul m
  exact (Sz.le (Z_nn h n a b) (Z_le h n A B) this).up (by omega)
theorem Z_00 (n : Nat) : Z P n 0 0 = 0 := by
  have h1 := Z_nn h n (A := 0) (B := 0) (Int.le_refl _) (Int.le_refl _)
  have h2 := Z_le h n 0 0
  have : mn 0 0 = 0 := rfl
  rw [this, Int.mul_zero] at h2
  omega
theorem dn_pos (n : Nat) {S : Int} (s : 0 < S) : 0 < P.cd * P.E n * S := Int.mul_pos (Int.mul_pos (by have := h.c2; omega) (E_pos h n)) s
theorem dn_sz {k : Nat} (n : Nat) {S : Int} (s : Sz k S) : Sz (6 * n + k + 8) (P.cd * P.E n * S) := (((sz7 (by have := h.c2; omega) h.c3).mul (E_sz h n)).mul s).up (by omega)
/-- by whole numbers of any size -/
theorem V_low (n : Nat) {A S : Int} (s : 0 < S) : V P n (low A S) = low (Z P n A (S - A)) (P.cd * P.E n * S) := by
  obtain ⟨g, hg, e1, e2, e3⟩ := low_sp (a := A) s
  unfold V
  generalize low A S = x at *
  have z : Z P n A (S - A) = g * Z P n x.1 (x.2 - x.1) := by
    rw [← Z_mul P hg]
    congr 1
    rw [Int.mul_sub, ← e1, ← e2]
  refine low_x (dn_pos h n e3) (dn_pos h n s) ?_
  rw [z, e2]
  grind
theorem TT_nn (n : Nat) {A B : Int} (a : 0 ≤ A) (b : 0 ≤ B) : 0 ≤ TT P n A B := by
  have e := E_pos h (n + 1)
  have z1 := Z_nn h n (hA_nn h a) (hB_nn h b)
  have z2 := Z_nn h n (tA_nn h a) (tB_nn h b)
  have z3 : 0 ≤ P.cn * P.E (n + 1) * (A + B) := Int.mul_nonneg (Int.mul_nonneg h.c0 (by omega)) (by omega)
  unfold TT
  omega
theorem TT_sz {k : Nat} (n : Nat) {A B : Int} (a : 0 ≤ A) (b : 0 ≤ B) (s : Sz k A) (sb : Sz k B) : Sz (6 * n + k + 18) (TT P n A B) := by
  have m := ((sz7 h.c0 (by have := h.c1; have := h.c3; omega)).mul (E_sz h (n + 1))).mul (s.add sb)
  have z1 := Z_sz h n (hA_nn h a) (hB_nn h b) (hA_sz h s)
  have z2 := Z_sz h n (tA_nn h a) (tB_nn h b) (tA_sz h s)
  have m' : Sz (6 * n + k + 16) (P.cn * P.E (n + 1) * (A + B)) := m.up (by omega)
  exact ((m'.add (z1.up (by omega))).add (z2.up (by omega))).up (by omega)
theorem hS (A B : Int) : P.hA A + P.hB B + (P.tA A + P.tB B) = (A + B) * P.D := by
  unfold Pm.hA Pm.hB Pm.tA Pm.tB Pm.D
  grind
end
end K36

set_option exponentiation.threshold 10000
namespace K36
open PySem PySem.Spec PyProof.Rows L2 Py
/-! ### each ratio's def at its depth -/
theorem rd1 : RD fsd 0 1 0 := .lw (jc := 0) rfl rfl
theorem rd2 : RD fsd 1 2 0 := .pl rd1 rfl
theorem rd17 : RD fsd 0 17 0 := .lwl rfl
theorem rd18 : RD fsd 1 18 0 := .pl rd17 rfl
section
variable {k m d : Nat} {a b c e : Int} (hd : 5 ≤ d) (hk : k ≤ 4490) (hm : m ≤ 4490) (hb : 0 < b) (he : 0 < e) (s1 : Sz k a) (s2 : Sz k b) (s3 : Sz m c) (s4 : Sz m e)
include hd hk hm hb he s1 s2 s3 s4
theorem o2 {t : Int × Int} (h : low (a * e + c * b) (b * e) = t) : rn d 2 [rt (low a b), rt (low c e)] = .ret (rt t) false [] := by
  rw [← h, ← rpl_low hb he]
  exact pl_at lgg rd2 (by omega) (g_low hk hb s1 s2) (g_low hm he s3 s4)
theorem o18 {t : Int × Int} (h : low (a * e + c * b) (b * e) = t) : rn d 18 [rt (low a b), rt (low c e)] = .ret (rt t) false [] := by
  rw [← h, ← rpl_low hb he]
  exact pl_at lgg rd18 (by omega) (g_low hk hb s1 s2) (g_low hm he s3 s4)
theorem o3 {t : Int × Int} (h : low (a * e - c * b) (b * e) = t) : rn d 3 [rt (low a b), rt (low c e)] = .ret (rt t) false [] := by
  rw [← h, ← rmi_low hb he]
  exact mi_at lgg rd1 rfl (by omega) (g_low hk hb s1 s2) (g_low hm he s3 s4)
theorem o20 {t : Int × Int} (h : low (a * e - c * b) (b * e) = t) : rn d 20 [rt (low a b), rt (low c e)] = .ret (rt t) false [] := by
  rw [← h, ← rmi_low hb he]
  exact ml_at lgg rd18 rfl (by omega) (g_low hk hb s1 s2) (g_low hm he s3 s4)
theorem o4 {t : Int × Int} (h : low (a * c) (b * e) = t) : rn d 4 [rt (low a b), rt (low c e)] = .ret (rt t) false [] := by
  rw [← h, ← rtm_low hb he]
  exact tm_at lgg rd1 rfl (by omega) (g_low hk hb s1 s2) (g_low hm he s3 s4)
theorem o19 {t : Int × Int} (h : low (a * c) (b * e) = t) : rn d 19 [rt (low a b), rt (low c e)] = .ret (rt t) false [] := by
  rw [← h, ← rtm_low hb he]
  exact tm_at lgg rd17 rfl (by omega) (g_low hk hb s1 s2) (g_low hm he s3 s4)
theorem o5 {t : Int × Int} (hc : 0 < c) (h : low (a * e) (b * c) = t) : rn d 5 [rt (low a b), rt (low c e)] = .ret (rt t) false [] := by
  rw [← h, ← rdv_low hb he hc]
  refine dv_at lgg rd1 rfl (by omega) (g_low hk hb s1 s2) (g_low hm he s3 s4) fun z => ?_
  obtain ⟨g, hg, e1, e2, e3⟩ := low_sp (a := c) he
  rw [z] at e1
  simp at e1
  omega
theorem o21 {t : Int × Int} (hc : 0 < c) (h : low (a * e) (b * c) = t) : rn d 21 [rt (low a b), rt (low c e)] = .ret (rt t) false [] := by
  rw [← h, ← rdv_low hb he hc]
  refine dv_at lgg rd17 rfl (by omega) (g_low hk hb s1 s2) (g_low hm he s3 s4) fun z => ?_
  obtain ⟨g, hg, e1, e2, e3⟩ := low_sp (a := c) he
  rw [z] at e1
  simp at e1
  omega
theorem o6 : rn d 6 [rt (low a b), rt (low c e)] = .ret (.bl (decide (a * e < c * b))) false [] := by
  rw [← rls_low hb he]
  exact ls_at rfl (by omega) (m_low hk hb s1 s2) (m_low hm he s3 s4)
theorem o22 : rn d 22 [rt (low a b), rt (low c e)] = .ret (.bl (decide (a * e < c * b))) false [] := by
  rw [← rls_low hb he]
  exact ls_at rfl (by omega) (m_low hk hb s1 s2) (m_low hm he s3 s4)
end
section
variable {k d : Nat} {a c e : Int} (hd : 5 ≤ d) (hk : k ≤ 4490) (he : 0 < e) (s1 : Sz k a) (s3 : Sz k c) (s4 : Sz k e)
include hd hk he s1 s3 s4
theorem o7 : rn d 7 [.lst [rt (low a e), rt (low c e)]] = .ret (rt (low (mn a c) e)) false [] := by
  rw [← le2_low he]
  exact leR_at (l := [low a e, low c e]) rfl rfl (by omega) (gMs_of fun p hp => by
    simp at hp
    rcases hp with rfl | rfl
    · exact m_low hk he s1 s4
    · exact m_low hk he s3 s4) (by simp)
theorem o23 : rn d 23 [.lst [rt (low a e), rt (low c e)], .int (-1)] = .ret (rt (low (mn a c) e)) false [] := by
  rw [← le2_low he]
  exact bsL_at (l := [low a e, low c e]) rfl rfl (by omega) (gMs_of fun p hp => by
    simp at hp
    rcases hp with rfl | rfl
    · exact m_low hk he s1 s4
    · exact m_low hk he s3 s4) (by simp)
theorem o7s : rn d 7 [.lst [rt (low a e)]] = .ret (rt (low a e)) false [] := by
  have := leR_at (fs := fsd) (tk := tkL) (g := gg) (j := 7) (jls := 6) (d := d) (l := [low a e]) rfl rfl (by omega) (gMs_of fun p hp => by
    simp at hp
    subst hp
    exact m_low hk he s1 s4) (by simp)
  rw [le1'] at this
  exact this
end
theorem one_low : (.tup [.int 1, .int 1] : W) = rt (low 1 1) := by rw [show low 1 1 = (1, 1) by decide]; rfl
theorem sz1 : Sz 1 1 := by show (1 : Int).natAbs < 2; decide
/-! ### toss_told -/
def hd (X S : Int) : W := if S = 0 then .non else rt (low X S)
theorem tt_C (C : Fn) (tk : Tk) (g : Nat) (p q x u1 u2 u3 bo ot m u4 h t : W) (b1 b2 : Bool) (d1 : isD p = false) (d2 : isD q = false) (d3 : isD x = false) (d4 : isD u1 = false) (d5 : isD u2 = false) (d6 : isD u3 = false) (d7 : isD bo = false) (d8 : isD ot = false) (d9 : isD m = false) (d10 : isD u4 = false) (d11 : isD h = false) (d12 : isD t = false)
    (h1 : C 4 [x, p] = .ret u1 false []) (h2 : C 3 [.tup [.int 1, .int 1], x] = .ret u2 false []) (h3 : C 4 [u2, q] = .ret u3 false []) (h4 : C 2 [u1, u3] = .ret bo false []) (n1 : cmpW .ne bo (.tup [.int 0, .int 1]) = some b1) (h5 : b1 = true → C 5 [u1, bo] = .ret h false [])
    (h6 : C 3 [.tup [.int 1, .int 1], bo] = .ret ot false []) (n2 : cmpW .ne ot (.tup [.int 0, .int 1]) = some b2) (h7 : C 3 [.tup [.int 1, .int 1], p] = .ret m false []) (h8 : C 4 [x, m] = .ret u4 false []) (h9 : b2 = true → C 5 [u4, ot] = .ret t false []) :
    ofS I_toss_told.fd (xs C tk g S_toss_told [some (p, .sh), some (q, .sh), some (x, .sh), none, none, none, none]) = .ret (.tup [bo, if b1 then h else .non, if b2 then t else .non]) false [] := by
  have z3 : 3 ≤ szL := Py.sz3
  cases b1 <;> cases b2
  · simp [Py.xs, Py.ev, Py.SO.thn, Py.wOf, Py.l1, Py.l2, Py.lL, Py.ress, Py.res, Py.ofO, Py.bW, Py.trO, Py.truth, Py.isTy, Py.callW, Py.shM, Py.shr, Py.shrs, Py.ioW, Py.ioB, Py.ofE, Py.asA, Py.setN, Py.fixA, Py.asAs, Py.retA, Py.ofS, Py.ioE, Py.stepV, Py.stepE, Py.asP, Py.wpE, Py.rsE, Py.lkE, Py.lkE1, Py.ulE, Py.ulE1, S_toss_told, h1, h2, h3, h4, n1, h6, n2, d1, d2, d3, d4, d5, d6, d7, d8, z3, I_toss_told]
  · have h9 := h9 rfl
    simp [Py.xs, Py.ev, Py.SO.thn, Py.wOf, Py.l1, Py.l2, Py.lL, Py.ress, Py.res, Py.ofO, Py.bW, Py.trO, Py.truth, Py.isTy, Py.callW, Py.shM, Py.shr, Py.shrs, Py.ioW, Py.ioB, Py.ofE, Py.asA, Py.setN, Py.fixA, Py.asAs, Py.retA, Py.ofS, Py.ioE, Py.stepV, Py.stepE, Py.asP, Py.wpE, Py.rsE, Py.lkE, Py.lkE1, Py.ulE, Py.ulE1, S_toss_told, h1, h2, h3, h4, n1, h6, n2, h7, h8, h9, d1, d2, d3, d4, d5, d6, d7, d8, d9, d10, d12, z3, I_toss_told]
  · have h5 := h5 rfl
    simp [Py.xs, Py.ev, Py.SO.thn, Py.wOf, Py.l1, Py.l2, Py.lL, Py.ress, Py.res, Py.ofO, Py.bW, Py.trO, Py.truth, Py.isTy, Py.callW, Py.shM, Py.shr, Py.shrs, Py.ioW, Py.ioB, Py.ofE, Py.asA, Py.setN, Py.fixA, Py.asAs, Py.retA, Py.ofS, Py.ioE, Py.stepV, Py.stepE, Py.asP, Py.wpE, Py.rsE, Py.lkE, Py.lkE1, Py.ulE, Py.ulE1, S_toss_told, h1, h2, h3, h4, n1, h5, h6, n2, d1, d2, d3, d4, d5, d6, d7, d8, d11, z3, I_toss_told]
  · have h5 := h5 rfl
    have h9 := h9 rfl
    simp [Py.xs, Py.ev, Py.SO.thn, Py.wOf, Py.l1, Py.l2, Py.lL, Py.ress, Py.res, Py.ofO, Py.bW, Py.trO, Py.truth, Py.isTy, Py.callW, Py.shM, Py.shr, Py.shrs, Py.ioW, Py.ioB, Py.ofE, Py.asA, Py.setN, Py.fixA, Py.asAs, Py.retA, Py.ofS, Py.ioE, Py.stepV, Py.stepE, Py.asP, Py.wpE, Py.rsE, Py.lkE, Py.lkE1, Py.ulE, Py.ulE1, S_toss_told, h1, h2, h3, h4, n1, h5, h6, n2, h7, h8, h9, d1, d2, d3, d4, d5, d6, d7, d8, d9, d10, d11, d12, z3, I_toss_told]
section
variable {P : Pm} (h : Ok P)
include h
theorem tt_at {k d : Nat} (hd' : 6 ≤ d) (hk : k ≤ 400) {A S : Int} (a0 : 0 ≤ A) (a1 : A ≤ S) (s0 : 0 < S) (sS : Sz k S) :
    rn d 8 [rt P.p, rt P.q, rt (low A S)] = .ret (.tup [rt (low (P.hA A + P.hB (S - A)) (S * P.D)), hd (P.hA A) (P.hA A + P.hB (S - A)), hd (P.tA A) (P.tA A + P.tB (S - A))]) false [] := by
  obtain ⟨d, rfl⟩ : ∃ e, d = e + 1 := ⟨d - 1, by omega⟩
  have hd5 : 5 ≤ d := by omega
  have sA : Sz k A := Sz.le a0 a1 sS
  have sB : Sz k (S - A) := Sz.le (by omega) (by omega) sS
  have b0 : 0 ≤ S - A := by omega
  have p2 := h.p2
  have q2 := h.q2
  have sp : Sz 3 P.pn := sz3 h.p0 (by have := h.p1; have := h.p3; omega)
  have spd : Sz 3 P.pd := sz3 (by omega) h.p3
  have sq : Sz 3 P.qn := sz3 h.q0 (by have := h.q1; have := h.q3; omega)
  have sqd : Sz 3 P.qd := sz3 (by omega) h.q3
  have sm' : Sz 3 (P.pd - P.pn) := sz3 (by have := h.p1; omega) (by have := h.p0; have := h.p3; omega)
  have D0 := D_pos h
  have SD0 : 0 < S * P.D := Int.mul_pos s0 D0
  have sSD : Sz (k + 6) (S * P.D) := sS.mul (D_sz h)
  have n1 := hA_nn h a0
  have n2 := hB_nn h b0
  have n3 := tA_nn h a0
  have n4 := tB_nn h b0
  have z1 := hA_sz h sA
  have z2 := hB_sz h sB
  have z3 := tA_sz h sA
  have z4 := tB_sz h sB
  have zh := z1.add z2
  have zt := z3.add z4
  have hs := hS h A (S - A)
  rw [show A + (S - A) = S by omega] at hs
  have one1 : (1 : Int) ≤ 1 := Int.le_refl _
  show run fsd tkL gg (d + 1) 8 _ = _
  rw [run_at (fd := I_toss_told.fd) rfl rfl]
  refine (tt_C (rn d) tkL gg (rt P.p) (rt P.q) (rt (low A S)) (rt (low (P.hA A) (S * P.D))) (rt (low (S - A) S)) (rt (low (P.hB (S - A)) (S * P.D))) (rt (low (P.hA A + P.hB (S - A)) (S * P.D))) (rt (low (P.tA A + P.tB (S - A)) (S * P.D))) (rt (low (P.pd - P.pn) P.pd)) (rt (low (P.tA A) (S * P.D)))
    (rt (low (P.hA A) (P.hA A + P.hB (S - A)))) (rt (low (P.tA A) (P.tA A + P.tB (S - A)))) (!decide (P.hA A + P.hB (S - A) = 0)) (!decide (P.tA A + P.tB (S - A) = 0)) rfl rfl rfl rfl rfl rfl rfl rfl rfl rfl rfl rfl
    (o4 hd5 (by omega) (by omega) s0 (by omega) sA sS sp spd (low_x (Int.mul_pos s0 (by omega)) SD0 (by unfold Pm.hA Pm.D; grind)))
    (by rw [one_low]; exact o3 hd5 (by decide) (by omega) (by decide) s0 sz1 sz1 sA sS (low_x (Int.mul_pos (by decide) s0) s0 (by grind)))
    (o4 hd5 (by omega) (by omega) s0 (by omega) sB sS sq sqd (low_x (Int.mul_pos s0 (by omega)) SD0 (by unfold Pm.hB Pm.D; grind)))
    (o2 hd5 (by omega) (by omega) SD0 SD0 z1 sSD z2 sSD (low_x (Int.mul_pos SD0 SD0) SD0 (by grind)))
    (ne0_low SD0)
    (fun hb => ?_)
    (by rw [one_low]; exact o3 hd5 (by decide) (by omega) (by decide) SD0 sz1 sz1 zh (sSD.up (by omega)) (low_x (Int.mul_pos (by decide) SD0) SD0 (by grind)))
    (ne0_low SD0)
    (by rw [one_low]; exact o3 hd5 (by decide) (by omega) (by decide) (by omega) sz1 sz1 sp spd (low_x (Int.mul_pos (by decide) (by omega)) (by omega) (by grind)))
    (o4 hd5 (by omega) (by omega) s0 (by omega) sA sS sm' spd (low_x (Int.mul_pos s0 (by omega)) SD0 (by unfold Pm.tA Pm.D; grind)))
    (fun hb => ?_)).trans ?_
  · have hb : P.hA A + P.hB (S - A) ≠ 0 := by simpa using hb
    have hp : 0 < P.hA A + P.hB (S - A) := by omega
    exact o5 hd5 (by omega) (by omega) SD0 SD0 z1 sSD zh (sSD.up (by omega)) hp (low_x (Int.mul_pos SD0 hp) hp (by grind))
  · have hb : P.tA A + P.tB (S - A) ≠ 0 := by simpa using hb
    have hp : 0 < P.tA A + P.tB (S - A) := by omega
    exact o5 hd5 (by omega) (by omega) SD0 SD0 z3 sSD zt (sSD.up (by omega)) hp (low_x (Int.mul_pos SD0 hp) hp (by grind))
  · unfold hd
    by_cases c1 : P.hA A + P.hB (S - A) = 0 <;> by_cases c2 : P.tA A + P.tB (S - A) = 0 <;> simp [c1, c2]
end
/-! ### say_cost -/
theorem say_C (C : Fn) (tk : Tk) (g : Nat) (x u r : W) (d1 : isD x = false) (d2 : isD u = false) (h1 : C 3 [.tup [.int 1, .int 1], x] = .ret u false []) (h2 : C 7 [.lst [x, u]] = .ret r false []) : ofS I_say_cost.fd (xs C tk g S_say_cost [some (x, .sh)]) = .ret r false [] := by
  have z2 := Py.sz2
  simp [Py.xs, Py.ev, Py.SO.thn, Py.wOf, Py.l1, Py.l2, Py.lL, Py.ress, Py.res, Py.ofO, Py.bW, Py.trO, Py.truth, Py.isTy, Py.callW, Py.shM, Py.shr, Py.shrs, Py.ioW, Py.ioB, Py.ofE, Py.asA, Py.setN, Py.fixA, Py.asAs, Py.retA, Py.ofS, Py.ioE, Py.stepV, Py.stepE, Py.asP, Py.wpE, Py.rsE, Py.lkE, Py.lkE1, Py.ulE, Py.ulE1, S_say_cost, h1, h2, d1, d2, z2, I_say_cost]
theorem say_at {k d : Nat} (hd' : 6 ≤ d) (hk : k ≤ 400) {A S : Int} (a0 : 0 ≤ A) (a1 : A ≤ S) (s0 : 0 < S) (sS : Sz k S) : rn d 9 [rt (low A S)] = .ret (rt (low (mn A (S - A)) S)) false [] := by
  obtain ⟨d, rfl⟩ : ∃ e, d = e + 1 := ⟨d - 1, by omega⟩
  have hd5 : 5 ≤ d := by omega
  have sA : Sz k A := Sz.le a0 a1 sS
  have sB : Sz k (S - A) := Sz.le (by omega) (by omega) sS
  show run fsd tkL gg (d + 1) 9 _ = _
  rw [run_at (fd := I_say_cost.fd) rfl rfl]
  exact say_C (rn d) tkL gg _ (rt (low (S - A) S)) _ rfl rfl (by rw [one_low]; exact o3 hd5 (by decide) (by omega) (by decide) s0 sz1 sz1 sA sS (low_x (Int.mul_pos (by decide) s0) s0 (by grind))) (o7 hd5 (by omega) s0 sA sB sS)
end K36

set_option exponentiation.threshold 10000
namespace K36
open PySem PySem.Spec PyProof.Rows L2 Py
/-! ### the memo -/
def ky (n : Int) (x : Int × Int) : W := .tup [.int n, rt x]
theorem ky_eq {n m : Int} {x y : Int × Int} : eqW (ky n x) (ky m y) = true ↔ n = m ∧ x = y := by
  obtain ⟨x1, x2⟩ := x
  obtain ⟨y1, y2⟩ := y
  simp [ky, rt, eqW, eqWs]
theorem ky_hk (n : Int) (x : Int × Int) : hkW (ky n x) = true := rfl
theorem allT_put {k v : W} (hk : isT k = true) : ∀ {kvs : List (W × W)}, allT kvs = true → allT (ptW k v kvs) = true
  | [], _ => by simp [ptW, allT, hk]
  | (a, u) :: r, h => by
    simp only [allT, Bool.and_eq_true] at h
    by_cases e : eqW a k = true
    · simp [ptW, e, allT, h.1, h.2]
    · simp [ptW, e, allT, h.1, allT_put hk h.2]
structure Mk (P : Pm) (kvs : List (W × W)) : Prop where
  t : allT kvs = true
  m : ∀ p ∈ kvs, ∃ (n : Nat) (x : Int × Int), p.1 = ky n x ∧ p.2 = rt (V P n x)
theorem Mk.k {P : Pm} {kvs : List (W × W)} (h : Mk P kvs) (n : Int) (x : Int × Int) : kOk (ky n x) kvs = true := by
  unfold kOk
  rw [ky_hk, h.t]
  rfl
theorem pt_mem {k v : W} {p : W × W} : ∀ {kvs : List (W × W)}, p ∈ ptW k v kvs → p ∈ kvs ∨ (p.2 = v ∧ (p.1 = k ∨ ∃ u, (p.1, u) ∈ kvs ∧ eqW p.1 k = true))
  | [], h => by
    simp only [ptW, List.mem_singleton] at h
    subst h
    exact .inr ⟨rfl, .inl rfl⟩
  | (a, u) :: r, h => by
    by_cases e : eqW a k = true
    · simp only [ptW, e, if_true, List.mem_cons] at h
      rcases h with h | h
      · subst h
        exact .inr ⟨rfl, .inr ⟨u, List.mem_cons_self, e⟩⟩
      · exact .inl (List.mem_cons_of_mem _ h)
    · rw [show ptW k v ((a, u) :: r) = (a, u) :: ptW k v r from if_neg e] at h
      rcases List.mem_cons.mp h with h | h
      · subst h; exact .inl List.mem_cons_self
      · exact (pt_mem h).imp (List.mem_cons_of_mem _) fun ⟨h1, h2⟩ => ⟨h1, h2.imp id fun ⟨u, h3, h4⟩ => ⟨u, List.mem_cons_of_mem _ h3, h4⟩⟩
theorem Mk.lk {P : Pm} {kvs : List (W × W)} (h : Mk P kvs) {n : Nat} {x : Int × Int} {v : W} (e : lkW (ky n x) kvs = some v) : v = rt (V P n x) := by
  obtain ⟨k', m, e'⟩ := lk_mem e
  obtain ⟨n', x', h1, h3⟩ := h.m _ m
  dsimp only at h1 h3
  rw [h1, ky_eq] at e'
  obtain ⟨e1, rfl⟩ := e'
  obtain rfl : n' = n := by omega
  exact h3
theorem Mk.pt {P : Pm} {kvs : List (W × W)} (h : Mk P kvs) (n : Nat) (x : Int × Int) : Mk P (ptW (ky n x) (rt (V P n x)) kvs) := by
  refine ⟨allT_put rfl h.t, fun p hp => ?_⟩
  rcases pt_mem hp with hp | ⟨h1, h2⟩
  · exact h.m p hp
  · refine ⟨n, x, ?_, h1⟩
    rcases h2 with h2 | ⟨u, h3, h4⟩
    · exact h2
    · obtain ⟨n', x', e1, _⟩ := h.m _ h3
      dsimp only at e1
      rw [e1] at h4 ⊢
      obtain ⟨e2, rfl⟩ := ky_eq.mp h4
      rw [e2]
/-! ### told_cost -/
theorem tc_new0 (C : Fn) (tk : Tk) (g : Nat) (p q c : W) (x r : Int × Int) (kvs : List (W × W)) (hk : kOk (ky 0 x) kvs = true) (hl : lkW (ky 0 x) kvs = none) (hz : kvs.length < szL) (s : W) (ds : isD s = false)
    (h1 : C 9 [rt x] = .ret s false []) (h2 : C 7 [.lst [s]] = .ret (rt r) false []) (hk2 : kOk (ky 0 x) (ptW (ky 0 x) (rt r) kvs) = true) :
    ofS I_told_cost.fd (xs C tk g S_told_cost [some (p, .sh), some (q, .sh), some (rt x, .sh), some (c, .sh), some (.int 0, .sh), some (.dct kvs, .io), none]) = .ret (rt r) false [.dct (ptW (ky 0 x) (rt r) kvs)] := by
  have e1 : cmpW .nin (.tup [.int 0, rt x]) (.dct kvs) = some true := by
    show (if kOk (ky 0 x) kvs = true then some (!(lkW (ky 0 x) kvs).isSome) else none) = _
    rw [if_pos hk, hl]; rfl
  have e2 : cmpW .gt (.int 0) (.int 0) = some false := rfl
  have e3 : putW (.dct kvs) (.tup [.int 0, rt x]) (rt r) = some (.dct (ptW (ky 0 x) (rt r) kvs)) := if_pos ⟨hk, hz⟩
  have e4 : ixW (.dct (ptW (ky 0 x) (rt r) kvs)) (.tup [.int 0, rt x]) = some (rt r, false) := by
    show (if kOk (ky 0 x) _ = true then (lkW (ky 0 x) _).map _ else none) = _
    rw [if_pos hk2, pt_lk (ky_eq.mpr ⟨rfl, rfl⟩)]; rfl
  have z2 := Py.sz2
  have d1 := isD_rt x
  have d2 := isD_rt r
  generalize ptW (ky 0 x) (rt r) kvs = kvs' at e3 e4 ⊢
  generalize rt r = rw_ at *
  generalize rt x = xw at *
  simp [Py.xs, Py.ev, Py.SO.thn, Py.wOf, Py.l1, Py.l2, Py.lL, Py.ress, Py.res, Py.ofO, Py.bW, Py.trO, Py.truth, Py.isTy, Py.callW, Py.shM, Py.shr, Py.shrs, Py.ioW, Py.ioB, Py.ofE, Py.asA, Py.setN, Py.fixA, Py.asAs, Py.retA, Py.ofS, Py.ioE, Py.stepV, Py.stepE, Py.asP, Py.wpE, Py.rsE, Py.lkE, Py.lkE1, Py.ulE, Py.ulE1, S_told_cost, e1, e2, e3, e4, h1, h2, ds, d1, d2, z2, sixE, ↓if_sz1, I_told_cost]
theorem tc_newS (C : Fn) (tk : Tk) (g : Nat) (p q c : W) (dp : isD p = false) (dq : isD q = false) (dc : isD c = false) (N : Int) (hN : 0 < N) (x r : Int × Int) (kvs kvs1 : List (W × W)) (hk : kOk (ky N x) kvs = true) (hl : lkW (ky N x) kvs = none) (hk1 : kOk (ky N x) kvs1 = true) (hz : kvs1.length < szL) (s t : W) (ds : isD s = false) (dt : isD t = false)
    (h1 : C 9 [rt x] = .ret s false []) (h3 : C 10 [p, q, rt x, c, .int N, .dct kvs] = .ret t false [.dct kvs1]) (h2 : C 7 [.lst [s, t]] = .ret (rt r) false []) (hk2 : kOk (ky N x) (ptW (ky N x) (rt r) kvs1) = true) :
    ofS I_told_cost.fd (xs C tk g S_told_cost [some (p, .sh), some (q, .sh), some (rt x, .sh), some (c, .sh), some (.int N, .sh), some (.dct kvs, .io), none]) = .ret (rt r) false [.dct (ptW (ky N x) (rt r) kvs1)] := by
  have e1 : cmpW .nin (.tup [.int N, rt x]) (.dct kvs) = some true := by
    show (if kOk (ky N x) kvs = true then some (!(lkW (ky N x) kvs).isSome) else none) = _
    rw [if_pos hk, hl]; rfl
  have e2 : cmpW .gt (.int N) (.int 0) = some true := by show some (decide _) = _; rw [decide_eq_true hN]
  have e3 : putW (.dct kvs1) (.tup [.int N, rt x]) (rt r) = some (.dct (ptW (ky N x) (rt r) kvs1)) := if_pos ⟨hk1, hz⟩
  have e4 : ixW (.dct (ptW (ky N x) (rt r) kvs1)) (.tup [.int N, rt x]) = some (rt r, false) := by
    show (if kOk (ky N x) _ = true then (lkW (ky N x) _).map _ else none) = _
    rw [if_pos hk2, pt_lk (ky_eq.mpr ⟨rfl, rfl⟩)]; rfl
  have e5 : mutW .append (.lst [s]) [t] = some (.lst [s, t]) := rfl
  have e6 : mutOk (some (.lst [s], .own)) = true := rfl
  have z2 := Py.sz2
  have d1 := isD_rt x
  have d2 := isD_rt r
  generalize ptW (ky N x) (rt r) kvs1 = kvs' at e3 e4 ⊢
  generalize rt r = rw_ at *
  generalize rt x = xw at *
  simp [Py.xs, Py.ev, Py.SO.thn, Py.wOf, Py.l1, Py.l2, Py.lL, Py.ress, Py.res, Py.ofO, Py.bW, Py.trO, Py.truth, Py.isTy, Py.callW, Py.shM, Py.shr, Py.shrs, Py.ioW, Py.ioB, Py.ofE, Py.asA, Py.setN, Py.fixA, Py.asAs, Py.retA, Py.ofS, Py.ioE, Py.stepV, Py.stepE, Py.asP, Py.wpE, Py.rsE, Py.lkE, Py.lkE1, Py.ulE, Py.ulE1, S_told_cost, e1, e2, e3, e4, e5, e6, h1, h2, h3, ds, dt, dp, dq, dc, d1, d2, z2, sixE, mutE, ↓if_sz1, I_told_cost]
theorem tc_old (C : Fn) (tk : Tk) (g : Nat) (p q c : W) (N : Int) (x r : Int × Int) (kvs : List (W × W)) (hk : kOk (ky N x) kvs = true) (hl : lkW (ky N x) kvs = some (rt r)) :
    ofS I_told_cost.fd (xs C tk g S_told_cost [some (p, .sh), some (q, .sh), some (rt x, .sh), some (c, .sh), some (.int N, .sh), some (.dct kvs, .io), none]) = .ret (rt r) false [.dct kvs] := by
  have e1 : cmpW .nin (.tup [.int N, rt x]) (.dct kvs) = some false := by
    show (if kOk (ky N x) kvs = true then some (!(lkW (ky N x) kvs).isSome) else none) = _
    rw [if_pos hk, hl]; rfl
  have e4 : ixW (.dct kvs) (.tup [.int N, rt x]) = some (rt r, false) := by
    show (if kOk (ky N x) _ = true then (lkW (ky N x) _).map _ else none) = _
    rw [if_pos hk, hl]; rfl
  have z2 := Py.sz2
  have d1 := isD_rt x
  have d2 := isD_rt r
  generalize rt r = rw_ at *
  generalize rt x = xw at *
  simp [Py.xs, Py.ev, Py.SO.thn, Py.wOf, Py.l1, Py.l2, Py.lL, Py.ress, Py.res, Py.ofO, Py.bW, Py.trO, Py.truth, Py.isTy, Py.callW, Py.shM, Py.shr, Py.shrs, Py.ioW, Py.ioB, Py.ofE, Py.asA, Py.setN, Py.fixA, Py.asAs, Py.retA, Py.ofS, Py.ioE, Py.stepV, Py.stepE, Py.asP, Py.wpE, Py.rsE, Py.lkE, Py.lkE1, Py.ulE, Py.ulE1, S_told_cost, e1, e4, d1, d2, z2, I_told_cost]
/-! ### toss_cost -/
theorem to_C (C : Fn) (tk : Tk) (g : Nat) (p q x c : W) (dp : isD p = false) (dq : isD q = false) (dx : isD x = false) (dc : isD c = false) (N : Int) (bo hw tw ot : W) (dbo : isD bo = false) (dot : isD ot = false) (kvs kvs1 kvs2 : List (W × W)) (b1 b2 : Bool) (hd1 : isD hw = false) (hd2 : isD tw = false) (hn1 : isN hw = !b1) (hn2 : isN tw = !b2)
    (v1 m1 f1 v2 m2 f2 : W) (dv1 : isD v1 = false) (dm1 : isD m1 = false) (df1 : isD f1 = false) (dv2 : isD v2 = false) (dm2 : isD m2 = false) (df2 : isD f2 = false)
    (h0 : C 8 [p, q, x] = .ret (.tup [bo, hw, tw]) false [])
    (h1 : b1 = true → C 11 [p, q, hw, c, .int (N - 1), .dct kvs] = .ret v1 false [.dct kvs1] ∧ C 4 [bo, v1] = .ret m1 false [] ∧ C 2 [c, m1] = .ret f1 false [])
    (h1' : b1 = false → f1 = c ∧ kvs1 = kvs)
    (h2 : b2 = true → C 3 [.tup [.int 1, .int 1], bo] = .ret ot false [] ∧ C 11 [p, q, tw, c, .int (N - 1), .dct kvs1] = .ret v2 false [.dct kvs2] ∧ C 4 [ot, v2] = .ret m2 false [] ∧ C 2 [f1, m2] = .ret f2 false [])
    (h2' : b2 = false → f2 = f1 ∧ kvs2 = kvs1) :
    ofS I_toss_cost.fd (xs C tk g S_toss_cost [some (p, .sh), some (q, .sh), some (x, .sh), some (c, .sh), some (.int N, .sh), some (.dct kvs, .io), none, none, none, none]) = .ret f2 false [.dct kvs2] := by
  have i1 : cmpW .isnt hw .non = some b1 := by show some (!isN hw) = _; rw [hn1, Bool.not_not]
  have i2 : cmpW .isnt tw .non = some b2 := by show some (!isN tw) = _; rw [hn2, Bool.not_not]
  have sb : opW .sub (.int N) (.int 1) = some (.int (N - 1), false) := rfl
  cases b1 <;> cases b2
  · obtain ⟨rfl, rfl⟩ := h1' rfl
    obtain ⟨rfl, rfl⟩ := h2' rfl
    simp [Py.xs, Py.ev, Py.SO.thn, Py.wOf, Py.l1, Py.l2, Py.lL, Py.ress, Py.res, Py.ofO, Py.bW, Py.trO, Py.truth, Py.isTy, Py.callW, Py.shM, Py.shr, Py.shrs, Py.ioW, Py.ioB, Py.ofE, Py.asA, Py.setN, Py.fixA, Py.asAs, Py.retA, Py.ofS, Py.ioE, Py.stepV, Py.stepE, Py.asP, Py.wpE, Py.rsE, Py.lkE, Py.lkE1, Py.ulE, Py.ulE1, S_toss_cost, h0, i1, i2, dp, dq, dx, dc, I_toss_cost]
  · obtain ⟨rfl, rfl⟩ := h1' rfl
    obtain ⟨k1, k2, k3, k4⟩ := h2 rfl
    simp [Py.xs, Py.ev, Py.SO.thn, Py.wOf, Py.l1, Py.l2, Py.lL, Py.ress, Py.res, Py.ofO, Py.bW, Py.trO, Py.truth, Py.isTy, Py.callW, Py.shM, Py.shr, Py.shrs, Py.ioW, Py.ioB, Py.ofE, Py.asA, Py.setN, Py.fixA, Py.asAs, Py.retA, Py.ofS, Py.ioE, Py.stepV, Py.stepE, Py.asP, Py.wpE, Py.rsE, Py.lkE, Py.lkE1, Py.ulE, Py.ulE1, S_toss_cost, h0, i1, i2, dp, dq, dx, dc, sb, dbo, dot, hd1, hd2, dv2, dm2, df2, k1, k2, k3, k4, I_toss_cost]
  · obtain ⟨k1, k2, k3⟩ := h1 rfl
    obtain ⟨rfl, rfl⟩ := h2' rfl
    simp [Py.xs, Py.ev, Py.SO.thn, Py.wOf, Py.l1, Py.l2, Py.lL, Py.ress, Py.res, Py.ofO, Py.bW, Py.trO, Py.truth, Py.isTy, Py.callW, Py.shM, Py.shr, Py.shrs, Py.ioW, Py.ioB, Py.ofE, Py.asA, Py.setN, Py.fixA, Py.asAs, Py.retA, Py.ofS, Py.ioE, Py.stepV, Py.stepE, Py.asP, Py.wpE, Py.rsE, Py.lkE, Py.lkE1, Py.ulE, Py.ulE1, S_toss_cost, h0, i1, i2, dp, dq, dx, dc, sb, dbo, dot, hd1, hd2, dv1, dm1, df1, k1, k2, k3, I_toss_cost]
  · obtain ⟨k1, k2, k3⟩ := h1 rfl
    obtain ⟨k4, k5, k6, k7⟩ := h2 rfl
    simp [Py.xs, Py.ev, Py.SO.thn, Py.wOf, Py.l1, Py.l2, Py.lL, Py.ress, Py.res, Py.ofO, Py.bW, Py.trO, Py.truth, Py.isTy, Py.callW, Py.shM, Py.shr, Py.shrs, Py.ioW, Py.ioB, Py.ofE, Py.asA, Py.setN, Py.fixA, Py.asAs, Py.retA, Py.ofS, Py.ioE, Py.stepV, Py.stepE, Py.asP, Py.wpE, Py.rsE, Py.lkE, Py.lkE1, Py.ulE, Py.ulE1, S_toss_cost, h0, i1, i2, dp, dq, dx, dc, sb, dbo, dot, hd1, hd2, dv1, dm1, df1, dv2, dm2, df2, k1, k2, k3, k4, k5, k6, k7, I_toss_cost]
end K36

set_option exponentiation.threshold 10000
namespace K36
open PySem PySem.Spec PyProof.Rows L2 Py
def Told (P : Pm) (n : Nat) : Prop := ∀ (k d : Nat) (A S : Int) (kvs : List (W × W)), 2 * n + 7 ≤ d → k + 7 * n ≤ 200 → 0 ≤ A → A ≤ S → 0 < S → Sz k S → Mk P kvs → kvs.length + 2 ^ (n + 1) ≤ szL →
  ∃ kvs', rn d 11 [rt P.p, rt P.q, rt (low A S), rt P.c, .int n, .dct kvs] = .ret (rt (V P n (low A S))) false [.dct kvs'] ∧ Mk P kvs' ∧ kvs'.length + 1 ≤ kvs.length + 2 ^ (n + 1)
theorem hd_isD (X S : Int) : isD (hd X S) = false := by unfold hd; split <;> rfl
theorem hd_isN (X S : Int) : isN (hd X S) = decide (S = 0) := by
  unfold hd
  by_cases h : S = 0
  · rw [if_pos h, decide_eq_true h]; rfl
  · rw [if_neg h, decide_eq_false h]; rfl
theorem hd_pos {X S : Int} (h : S ≠ 0) : hd X S = rt (low X S) := if_neg h
section
variable {P : Pm} (h : Ok P)
include h
theorem toss_at {n : Nat} (T : Told P n) {k d : Nat} {A S : Int} {kvs : List (W × W)} (hd' : 2 * n + 8 ≤ d) (hk : k + 7 * (n + 1) ≤ 200) (a0 : 0 ≤ A) (a1 : A ≤ S) (s0 : 0 < S) (sS : Sz k S) (hm : Mk P kvs) (hz : kvs.length + 2 * 2 ^ (n + 1) ≤ szL) :
    ∃ kvs', rn d 10 [rt P.p, rt P.q, rt (low A S), rt P.c, .int (n + 1 : Nat), .dct kvs] = .ret (rt (low (TT P n A (S - A)) (P.cd * P.E (n + 1) * S))) false [.dct kvs'] ∧ Mk P kvs' ∧ kvs'.length + 2 ≤ kvs.length + 2 * 2 ^ (n + 1) := by
  obtain ⟨d, rfl⟩ : ∃ e, d = e + 1 := ⟨d - 1, by omega⟩
  have hd5 : 5 ≤ d := by omega
  have sA : Sz k A := Sz.le a0 a1 sS
  have sB : Sz k (S - A) := Sz.le (by omega) (by omega) sS
  have b0 : 0 ≤ S - A := by omega
  have c2 := h.c2
  have D0 := D_pos h
  have SD0 : 0 < S * P.D := Int.mul_pos s0 D0
  have sSD : Sz (k + 6) (S * P.D) := sS.mul (D_sz h)
  have n1 := hA_nn h a0
  have n2 := hB_nn h b0
  have n3 := tA_nn h a0
  have n4 := tB_nn h b0
  have z1 := hA_sz h sA
  have z2 := hB_sz h sB
  have z3 := tA_sz h sA
  have z4 := tB_sz h sB
  have zh := z1.add z2
  have zt := z3.add z4
  have hs := hS h A (S - A)
  rw [show A + (S - A) = S by omega] at hs
  have hE : P.E (n + 1) = P.E n * P.D := rfl
  have Zh0 := Z_nn h n n1 n2
  have Zt0 := Z_nn h n n3 n4
  have sZh := Z_sz h n n1 n2 z1
  have sZt := Z_sz h n n3 n4 z3
  have dn0 := dn_pos h (n + 1) s0
  have dns := dn_sz h (n + 1) sS
  have sc : Sz 7 P.cn := sz7 h.c0 (by have := h.c1; have := h.c3; omega)
  have scd : Sz 7 P.cd := sz7 (by omega) h.c3
  have sce : Sz (6 * n + k + 20) (P.cn * P.E (n + 1) * S) := ((sc.mul (E_sz h (n + 1))).mul sS).up (by omega)
  have sF1 : Sz (6 * n + k + 30) (P.cn * P.E (n + 1) * S + Z P n (P.hA A) (P.hB (S - A))) := (sce.add (sZh.up (by omega))).up (by omega)
  have eN : (((n + 1 : Nat) : Int) - 1) = (n : Int) := by omega
  have ht := tt_at h (k := k) (d := d) (by omega) (by omega) a0 a1 s0 sS
  have p2 : 0 < 2 ^ (n + 1) := Nat.pow_pos (by decide)
  -- behind heads
  have H1 : ∃ kvs1, Mk P kvs1 ∧ kvs1.length + 1 ≤ kvs.length + 2 ^ (n + 1) ∧ (P.hA A + P.hB (S - A) ≠ 0 → rn d 11 [rt P.p, rt P.q, hd (P.hA A) (P.hA A + P.hB (S - A)), rt P.c, .int n, .dct kvs] = .ret (rt (V P n (low (P.hA A) (P.hA A + P.hB (S - A))))) false [.dct kvs1]) ∧ (P.hA A + P.hB (S - A) = 0 → kvs1 = kvs) := by
    by_cases hc : P.hA A + P.hB (S - A) = 0
    · exact ⟨kvs, hm, by omega, fun z => absurd hc z, fun _ => rfl⟩
    · obtain ⟨kvs1, e1, m1, l1⟩ := T (k + 7) d (P.hA A) (P.hA A + P.hB (S - A)) kvs (by omega) (by omega) n1 (by omega) (by omega) (zh.up (by omega)) hm (by omega)
      exact ⟨kvs1, m1, l1, fun _ => by rw [hd_pos hc]; exact e1, fun z => absurd z hc⟩
  obtain ⟨kvs1, m1, l1, e1, e1'⟩ := H1
  have H2 : ∃ kvs2, Mk P kvs2 ∧ kvs2.length + 1 ≤ kvs1.length + 2 ^ (n + 1) ∧ (P.tA A + P.tB (S - A) ≠ 0 → rn d 11 [rt P.p, rt P.q, hd (P.tA A) (P.tA A + P.tB (S - A)), rt P.c, .int n, .dct kvs1] = .ret (rt (V P n (low (P.tA A) (P.tA A + P.tB (S - A))))) false [.dct kvs2]) ∧ (P.tA A + P.tB (S - A) = 0 → kvs2 = kvs1) := by
    by_cases hc : P.tA A + P.tB (S - A) = 0
    · exact ⟨kvs1, m1, by omega, fun z => absurd hc z, fun _ => rfl⟩
    · obtain ⟨kvs2, e2, m2, l2⟩ := T (k + 7) d (P.tA A) (P.tA A + P.tB (S - A)) kvs1 (by omega) (by omega) n3 (by omega) (by omega) (zt.up (by omega)) m1 (by omega)
      exact ⟨kvs2, m2, l2, fun _ => by rw [hd_pos hc]; exact e2, fun z => absurd z hc⟩
  obtain ⟨kvs2, m2, l2, e2, e2'⟩ := H2
  refine ⟨kvs2, ?_, m2, by omega⟩
  have TTe : TT P n A (S - A) = P.cn * P.E (n + 1) * S + Z P n (P.hA A) (P.hB (S - A)) + Z P n (P.tA A) (P.tB (S - A)) := by
    unfold TT
    rw [show A + (S - A) = S by omega]
  have cS : rt P.c = rt (low P.cn P.cd) := rfl
  show run fsd tkL gg (d + 1) 10 _ = _
  rw [run_at (fd := I_toss_cost.fd) rfl rfl, TTe]
  refine to_C (rn d) tkL gg (rt P.p) (rt P.q) (rt (low A S)) (rt P.c) rfl rfl rfl rfl _ (rt (low (P.hA A + P.hB (S - A)) (S * P.D))) (hd (P.hA A) (P.hA A + P.hB (S - A))) (hd (P.tA A) (P.tA A + P.tB (S - A))) (rt (low (P.tA A + P.tB (S - A)) (S * P.D))) rfl rfl kvs kvs1 kvs2 (!decide (P.hA A + P.hB (S - A) = 0)) (!decide (P.tA A + P.tB (S - A) = 0)) (hd_isD _ _) (hd_isD _ _) (by rw [hd_isN, Bool.not_not]) (by rw [hd_isN, Bool.not_not])
    (rt (V P n (low (P.hA A) (P.hA A + P.hB (S - A))))) (rt (low (Z P n (P.hA A) (P.hB (S - A))) (P.cd * P.E (n + 1) * S))) (rt (low (P.cn * P.E (n + 1) * S + Z P n (P.hA A) (P.hB (S - A))) (P.cd * P.E (n + 1) * S)))
    (rt (V P n (low (P.tA A) (P.tA A + P.tB (S - A))))) (rt (low (Z P n (P.tA A) (P.tB (S - A))) (P.cd * P.E (n + 1) * S))) _ rfl rfl rfl rfl rfl rfl ht (fun hb => ?_) (fun hb => ?_) (fun hb => ?_) (fun hb => ?_)
  · have hc : P.hA A + P.hB (S - A) ≠ 0 := by simpa using hb
    have hp : 0 < P.hA A + P.hB (S - A) := by omega
    refine ⟨by rw [eN]; exact e1 hc, ?_, ?_⟩
    · rw [V_low h n hp, show P.hA A + P.hB (S - A) - P.hA A = P.hB (S - A) by omega]
      refine o4 (k := 6 * n + k + 30) (m := 6 * n + k + 30) hd5 (by omega) (by omega) SD0 (dn_pos h n hp) (zh.up (by omega)) (sSD.up (by omega)) (sZh.up (by omega)) ((dn_sz h n zh).up (by omega)) (low_x (Int.mul_pos SD0 (dn_pos h n hp)) dn0 ?_)
      rw [hE]
      grind
    · rw [cS]
      exact o2 (k := 7) (m := 6 * n + k + 30) hd5 (by omega) (by omega) (by omega) dn0 sc scd (sZh.up (by omega)) (dns.up (by omega)) (low_x (Int.mul_pos (by omega) dn0) dn0 (by grind))
  · have hc : P.hA A + P.hB (S - A) = 0 := by simpa using hb
    refine ⟨?_, e1' hc⟩
    rw [show P.hA A = 0 by omega, show P.hB (S - A) = 0 by omega, Z_00 h, Int.add_zero, cS]
    exact congrArg rt (low_x dn0 (by omega) (by grind))
  · have hc : P.tA A + P.tB (S - A) ≠ 0 := by simpa using hb
    have hp : 0 < P.tA A + P.tB (S - A) := by omega
    refine ⟨?_, by rw [eN]; exact e2 hc, ?_, ?_⟩
    · rw [one_low]
      exact o3 hd5 (by decide) (by omega) (by decide) SD0 sz1 sz1 zh (sSD.up (by omega)) (low_x (Int.mul_pos (by decide) SD0) SD0 (by grind))
    · rw [V_low h n hp, show P.tA A + P.tB (S - A) - P.tA A = P.tB (S - A) by omega]
      refine o4 (k := 6 * n + k + 30) (m := 6 * n + k + 30) hd5 (by omega) (by omega) SD0 (dn_pos h n hp) (zt.up (by omega)) (sSD.up (by omega)) (sZt.up (by omega)) ((dn_sz h n zt).up (by omega)) (low_x (Int.mul_pos SD0 (dn_pos h n hp)) dn0 ?_)
      rw [hE]
      grind
    · exact o2 (k := 6 * n + k + 30) (m := 6 * n + k + 30) hd5 (by omega) (by omega) dn0 dn0 sF1 (dns.up (by omega)) (sZt.up (by omega)) (dns.up (by omega)) (low_x (Int.mul_pos dn0 dn0) dn0 (by grind))
  · have hc : P.tA A + P.tB (S - A) = 0 := by simpa using hb
    refine ⟨?_, e2' hc⟩
    rw [show P.tA A = 0 by omega, show P.tB (S - A) = 0 by omega, Z_00 h, Int.add_zero]
theorem told : ∀ n : Nat, Told P n
  | 0 => fun k d A S kvs hd' hk a0 a1 s0 sS hm hz => by
    obtain ⟨d, rfl⟩ : ∃ e, d = e + 1 := ⟨d - 1, by omega⟩
    have sA : Sz k A := Sz.le a0 a1 sS
    have sB : Sz k (S - A) := Sz.le (by omega) (by omega) sS
    have c2 := h.c2
    show ∃ kvs', run fsd tkL gg (d + 1) 11 _ = _ ∧ _
    rw [run_at (fd := I_told_cost.fd) rfl rfl]
    cases hl : lkW (ky 0 (low A S)) kvs with
    | some v =>
      have := hm.lk (n := 0) hl
      subst this
      exact ⟨kvs, tc_old (rn d) tkL gg _ _ _ 0 _ _ kvs (hm.k _ _) hl, hm, by simp⟩
    | none =>
      have hm2 := hm.pt 0 (low A S)
      have z3 := ptw_len (ky 0 (low A S)) (rt (V P 0 (low A S))) kvs
      have hz : kvs.length + 2 ≤ szL := hz
      have hv : V P 0 (low A S) = low (mn A (S - A)) S := by
        rw [V_low h 0 s0]
        refine low_x (dn_pos h 0 s0) s0 ?_
        show P.cd * mn A (S - A) * S = mn A (S - A) * (P.cd * 1 * S)
        grind
      refine ⟨_, tc_new0 (rn d) tkL gg _ _ _ _ _ kvs (hm.k _ _) hl (by omega) (rt (low (mn A (S - A)) S)) rfl (say_at (by omega) (by omega) a0 a1 s0 sS) ?_ (hm2.k _ _), hm2, by show _ ≤ kvs.length + 2; omega⟩
      rw [hv]
      exact o7s (k := k) (by omega) (by omega) s0 (Sz.le (mn_nn a0 (by omega)) (mn_le1 _ _) sA) sA sS
  | n + 1 => fun k d A S kvs hd' hk a0 a1 s0 sS hm hz => by
    obtain ⟨d, rfl⟩ : ∃ e, d = e + 1 := ⟨d - 1, by omega⟩
    have sA : Sz k A := Sz.le a0 a1 sS
    have sB : Sz k (S - A) := Sz.le (by omega) (by omega) sS
    have b0 : 0 ≤ S - A := by omega
    have e5 : 2 ^ (n + 1 + 1) = 2 * 2 ^ (n + 1) := by rw [Nat.pow_succ, Nat.mul_comm]
    have p5 : 0 < 2 ^ (n + 1) := Nat.pow_pos (by decide)
    rw [e5] at hz ⊢
    show ∃ kvs', run fsd tkL gg (d + 1) 11 _ = _ ∧ _
    rw [run_at (fd := I_told_cost.fd) rfl rfl]
    cases hl : lkW (ky ((n + 1 : Nat) : Int) (low A S)) kvs with
    | some v =>
      have := hm.lk (n := n + 1) hl
      subst this
      exact ⟨kvs, tc_old (rn d) tkL gg _ _ _ _ _ _ kvs (hm.k _ _) hl, hm, by omega⟩
    | none =>
      obtain ⟨kvs1, e1, m1, l1⟩ := toss_at h (told n) (d := d) (by omega) (by omega) a0 a1 s0 sS hm (by omega)
      have hm2 := m1.pt (n + 1) (low A S)
      have z3 := ptw_len (ky ((n + 1 : Nat) : Int) (low A S)) (rt (V P (n + 1) (low A S))) kvs1
      have dn0 := dn_pos h (n + 1) s0
      have dns := dn_sz h (n + 1) sS
      have mS := Sz.le (mn_nn a0 b0) (mn_le1 A (S - A)) sA
      have mZ : Sz (6 * n + k + 30) (P.cd * P.E (n + 1) * mn A (S - A)) := (dn_sz h (n + 1) mS).up (by omega)
      have hv : V P (n + 1) (low A S) = low (mn (P.cd * P.E (n + 1) * mn A (S - A)) (TT P n A (S - A))) (P.cd * P.E (n + 1) * S) := by
        rw [V_low h (n + 1) s0, Z_succ]
      have hs : low (mn A (S - A)) S = low (P.cd * P.E (n + 1) * mn A (S - A)) (P.cd * P.E (n + 1) * S) := low_x s0 dn0 (by grind)
      refine ⟨_, tc_newS (rn d) tkL gg _ _ _ rfl rfl rfl _ (by omega) _ _ kvs kvs1 (hm.k _ _) hl (m1.k _ _) (by omega) (rt (low (mn A (S - A)) S)) _ rfl rfl (say_at (by omega) (by omega) a0 a1 s0 sS) e1 ?_ (hm2.k _ _), hm2, by omega⟩
      rw [hv, hs]
      exact o7 (k := 6 * n + k + 30) (by omega) (by omega) dn0 mZ ((TT_sz h n a0 b0 sA sB).up (by omega)) (dns.up (by omega))
end
end K36

set_option exponentiation.threshold 10000
namespace K36
open PySem PySem.Spec PyProof.Rows L2 Py
/-! ### test_worth, test_next -/
theorem mk0 (P : Pm) : Mk P [] := ⟨rfl, fun p hp => nomatch hp⟩
theorem tw_C (C : Fn) (tk : Tk) (g : Nat) (p q x c : W) (dp : isD p = false) (dq : isD q = false) (dx : isD x = false) (dc : isD c = false) (N : Int) (v : W) (kvs : List (W × W)) (h1 : C 11 [p, q, x, c, .int N, .dct []] = .ret v false [.dct kvs]) :
    ofS I_test_worth.fd (xs C tk g S_test_worth [some (p, .sh), some (q, .sh), some (x, .sh), some (c, .sh), some (.int N, .sh)]) = .ret v false [] := by
  simp [Py.xs, Py.ev, Py.SO.thn, Py.wOf, Py.l1, Py.l2, Py.lL, Py.ress, Py.res, Py.ofO, Py.bW, Py.trO, Py.truth, Py.isTy, Py.callW, Py.shM, Py.shr, Py.shrs, Py.ioW, Py.ioB, Py.ofE, Py.asA, Py.setN, Py.fixA, Py.asAs, Py.retA, Py.ofS, Py.ioE, Py.stepV, Py.stepE, Py.asP, Py.wpE, Py.rsE, Py.lkE, Py.lkE1, Py.ulE, Py.ulE1, S_test_worth, h1, dp, dq, dx, dc, pairs, mergeW, I_test_worth]
def nxW (N : Int) (b b2 : Bool) : W := if decide (0 < N) && b then .str [116, 111, 115, 115] else if b2 then .str [113] else .str [112]
theorem tn_C0 (C : Fn) (tk : Tk) (g : Nat) (p q x c : W) (dx : isD x = false) (b b2 : Bool) (h2 : C 6 [x, .tup [.int 1, .int 2]] = .ret (.bl b2) false []) :
    ofS I_test_next.fd (xs C tk g S_test_next [some (p, .sh), some (q, .sh), some (x, .sh), some (c, .sh), some (.int 0, .sh)]) = .ret (nxW 0 b b2) false [] := by
  have e2 : cmpW .gt (.int 0) (.int 0) = some false := rfl
  have z2 := Py.sz2
  cases b2 <;> simp [Py.xs, Py.ev, Py.SO.thn, Py.wOf, Py.l1, Py.l2, Py.lL, Py.ress, Py.res, Py.ofO, Py.bW, Py.trO, Py.truth, Py.isTy, Py.callW, Py.shM, Py.shr, Py.shrs, Py.ioW, Py.ioB, Py.ofE, Py.asA, Py.setN, Py.fixA, Py.asAs, Py.retA, Py.ofS, Py.ioE, Py.stepV, Py.stepE, Py.asP, Py.wpE, Py.rsE, Py.lkE, Py.lkE1, Py.ulE, Py.ulE1, S_test_next, e2, h2, dx, z2, nxW, I_test_next]
theorem tn_CS (C : Fn) (tk : Tk) (g : Nat) (p q x c t s : W) (dp : isD p = false) (dq : isD q = false) (dx : isD x = false) (dc : isD c = false) (dt : isD t = false) (ds : isD s = false) (N : Int) (hN : 0 < N) (kvs : List (W × W)) (b b2 : Bool)
    (h1 : C 10 [p, q, x, c, .int N, .dct []] = .ret t false [.dct kvs]) (h3 : C 9 [x] = .ret s false []) (h4 : C 6 [t, s] = .ret (.bl b) false []) (h2 : C 6 [x, .tup [.int 1, .int 2]] = .ret (.bl b2) false []) :
    ofS I_test_next.fd (xs C tk g S_test_next [some (p, .sh), some (q, .sh), some (x, .sh), some (c, .sh), some (.int N, .sh)]) = .ret (nxW N b b2) false [] := by
  have e2 : cmpW .gt (.int N) (.int 0) = some true := by show some (decide _) = _; rw [decide_eq_true hN]
  have z2 := Py.sz2
  cases b <;> cases b2 <;> simp [Py.xs, Py.ev, Py.SO.thn, Py.wOf, Py.l1, Py.l2, Py.lL, Py.ress, Py.res, Py.ofO, Py.bW, Py.trO, Py.truth, Py.isTy, Py.callW, Py.shM, Py.shr, Py.shrs, Py.ioW, Py.ioB, Py.ofE, Py.asA, Py.setN, Py.fixA, Py.asAs, Py.retA, Py.ofS, Py.ioE, Py.stepV, Py.stepE, Py.asP, Py.wpE, Py.rsE, Py.lkE, Py.lkE1, Py.ulE, Py.ulE1, S_test_next, e2, h1, h2, h3, h4, dp, dq, dx, dc, dt, ds, z2, nxW, hN, pairs, mergeW, I_test_next]
theorem half_low : (.tup [.int 1, .int 2] : W) = rt (low 1 2) := by rw [show low 1 2 = (1, 2) by decide]; rfl
theorem szL_pow {n : Nat} (h : n ≤ 8) : 2 * 2 ^ (n + 1) ≤ szL := by
  have h1 : 2 ^ (n + 1) ≤ 2 ^ 9 := Nat.pow_le_pow_right (by decide) (by omega)
  have h2 : 2 * 2 ^ 9 ≤ szL := by decide +kernel
  omega
section
variable {P : Pm} (h : Ok P)
include h
theorem tw_at {k d n : Nat} (hn : n ≤ 8) (hd' : 2 * n + 8 ≤ d) (hk : k + 7 * n ≤ 200) {A S : Int} (a0 : 0 ≤ A) (a1 : A ≤ S) (s0 : 0 < S) (sS : Sz k S) : rn d 12 [rt P.p, rt P.q, rt (low A S), rt P.c, .int n] = .ret (rt (low (Z P n A (S - A)) (P.cd * P.E n * S))) false [] := by
  obtain ⟨d, rfl⟩ : ∃ e, d = e + 1 := ⟨d - 1, by omega⟩
  have := szL_pow hn
  obtain ⟨kvs, e, _⟩ := told h n k d A S [] (by omega) hk a0 a1 s0 sS (mk0 P) (by rw [List.length_nil]; omega)
  show run fsd tkL gg (d + 1) 12 _ = _
  rw [run_at (fd := I_test_worth.fd) rfl rfl]
  rw [V_low h n s0] at e
  exact tw_C (rn d) tkL gg _ _ _ _ rfl rfl rfl rfl _ _ kvs e
theorem tn_at0 {k d : Nat} (hd' : 8 ≤ d) (hk : k ≤ 200) {A S : Int} (s0 : 0 < S) (sA : Sz k A) (sS : Sz k S) (b : Bool) : rn d 13 [rt P.p, rt P.q, rt (low A S), rt P.c, .int 0] = .ret (nxW 0 b (decide (A * 2 < 1 * S))) false [] := by
  obtain ⟨d, rfl⟩ : ∃ e, d = e + 1 := ⟨d - 1, by omega⟩
  show run fsd tkL gg (d + 1) 13 _ = _
  rw [run_at (fd := I_test_next.fd) rfl rfl]
  exact tn_C0 (rn d) tkL gg _ _ _ _ rfl b _ (by rw [half_low]; exact o6 (k := k) (m := 2) (by omega) (by omega) (by decide) s0 (by decide) sA sS (sz1.up (by decide)) (show (2 : Int).natAbs < 4 by decide))
theorem tn_at {k d n : Nat} (hn : n ≤ 8) (hd' : 2 * n + 10 ≤ d) (hk : k + 7 * (n + 1) ≤ 200) {A S : Int} (a0 : 0 ≤ A) (a1 : A ≤ S) (s0 : 0 < S) (sS : Sz k S) :
    rn d 13 [rt P.p, rt P.q, rt (low A S), rt P.c, .int (n + 1 : Nat)] = .ret (nxW (n + 1 : Nat) (decide (TT P n A (S - A) * S < mn A (S - A) * (P.cd * P.E (n + 1) * S))) (decide (A * 2 < 1 * S))) false [] := by
  obtain ⟨d, rfl⟩ : ∃ e, d = e + 1 := ⟨d - 1, by omega⟩
  have := szL_pow hn
  have sA : Sz k A := Sz.le a0 a1 sS
  have sB : Sz k (S - A) := Sz.le (by omega) (by omega) sS
  have b0 : 0 ≤ S - A := by omega
  obtain ⟨kvs, e, _⟩ := toss_at h (told h n) (d := d) (kvs := []) (by omega) hk a0 a1 s0 sS (mk0 P) (by rw [List.length_nil]; omega)
  show run fsd tkL gg (d + 1) 13 _ = _
  rw [run_at (fd := I_test_next.fd) rfl rfl]
  exact tn_CS (rn d) tkL gg _ _ _ _ _ (rt (low (mn A (S - A)) S)) rfl rfl rfl rfl rfl rfl _ (by omega) kvs _ _ e (say_at (by omega) (by omega) a0 a1 s0 sS)
    (o6 (k := 6 * n + k + 30) (m := k) (by omega) (by omega) (by omega) (dn_pos h (n + 1) s0) s0 ((TT_sz h n a0 b0 sA sB).up (by omega)) ((dn_sz h (n + 1) sS).up (by omega)) (Sz.le (mn_nn a0 b0) (mn_le1 _ _) sA) sS)
    (by rw [half_low]; exact o6 (k := k) (m := 2) (by omega) (by omega) (by decide) s0 (by decide) sA sS (sz1.up (by decide)) (show (2 : Int).natAbs < 4 by decide))
end
/-! ### the law's own cost -/
theorem wt0 (a b : W) : ixW (.tup [a, b]) (.int 0) = some (a, false) := rfl
theorem wt1 (a b : W) : ixW (.tup [a, b]) (.int 1) = some (b, false) := rfl
theorem lc_stop (C : Fn) (tk : Tk) (g : Nat) (p q w0 w1 c wh say : W) (d0 : isD w0 = false) (d1 : isD w1 = false) (dw : isD wh = false) (N : Int) (b1 b2 : Bool) (n1 : cmpW .eq (.int N) (.int 0) = some b1) (n2 : cmpW .eq wh (.tup [.int 0, .int 1]) = some b2) (hb : (b1 || b2) = true)
    (h1 : C 18 [w0, w1] = .ret wh false []) (h2 : C 23 [.lst [w0, w1], .int (-1)] = .ret say false []) :
    ofS I__law_cost.fd (xs C tk g S__law_cost [some (p, .sh), some (q, .sh), some (.tup [w0, w1], .sh), some (c, .sh), some (.int N, .sh), none, none, none, none, none]) = .ret say false [] := by
  have z2 := Py.sz2
  cases b1 <;> cases b2 <;> first | exact absurd hb (by decide) | simp [Py.xs, Py.ev, Py.SO.thn, Py.wOf, Py.l1, Py.l2, Py.lL, Py.ress, Py.res, Py.ofO, Py.bW, Py.trO, Py.truth, Py.isTy, Py.callW, Py.shM, Py.shr, Py.shrs, Py.ioW, Py.ioB, Py.ofE, Py.asA, Py.setN, Py.fixA, Py.asAs, Py.retA, Py.ofS, Py.ioE, Py.stepV, Py.stepE, Py.asP, Py.wpE, Py.rsE, Py.lkE, Py.lkE1, Py.ulE, Py.ulE1, S__law_cost, n1, n2, wt0, wt1, h1, h2, d0, d1, dw, z2, I__law_cost]
theorem lc_go (C : Fn) (tk : Tk) (g : Nat) (p q w0 w1 c wh say t0 p' q' x0 x1 y0 y1 l1 f1 l2 f2 r : W) (dp : isD p = false) (dq : isD q = false) (dc : isD c = false) (d0 : isD w0 = false) (d1 : isD w1 = false) (dw : isD wh = false) (ds : isD say = false) (dt : isD t0 = false) (dp' : isD p' = false) (dq' : isD q' = false)
    (dx0 : isD x0 = false) (dx1 : isD x1 = false) (dy0 : isD y0 = false) (dy1 : isD y1 = false) (dl1 : isD l1 = false) (df1 : isD f1 = false) (dl2 : isD l2 = false) (df2 : isD f2 = false) (N : Int) (n1 : cmpW .eq (.int N) (.int 0) = some false) (n2 : cmpW .eq wh (.tup [.int 0, .int 1]) = some false)
    (h1 : C 18 [w0, w1] = .ret wh false []) (h2 : C 23 [.lst [w0, w1], .int (-1)] = .ret say false []) (h3 : C 19 [c, wh] = .ret t0 false []) (h4 : C 20 [.tup [.int 1, .int 1], p] = .ret p' false []) (h5 : C 20 [.tup [.int 1, .int 1], q] = .ret q' false [])
    (h6 : C 19 [w0, p] = .ret x0 false []) (h7 : C 19 [w1, q] = .ret x1 false []) (h8 : C 24 [p, q, .tup [x0, x1], c, .int (N - 1)] = .ret l1 false []) (h9 : C 18 [t0, l1] = .ret f1 false [])
    (h10 : C 19 [w0, p'] = .ret y0 false []) (h11 : C 19 [w1, q'] = .ret y1 false []) (h12 : C 24 [p, q, .tup [y0, y1], c, .int (N - 1)] = .ret l2 false []) (h13 : C 18 [f1, l2] = .ret f2 false []) (h14 : C 23 [.lst [say, f2], .int (-1)] = .ret r false []) :
    ofS I__law_cost.fd (xs C tk g S__law_cost [some (p, .sh), some (q, .sh), some (.tup [w0, w1], .sh), some (c, .sh), some (.int N, .sh), none, none, none, none, none]) = .ret r false [] := by
  have z2 := Py.sz2
  have sb : opW .sub (.int N) (.int 1) = some (.int (N - 1), false) := rfl
  simp [Py.xs, Py.ev, Py.SO.thn, Py.wOf, Py.l1, Py.l2, Py.lL, Py.ress, Py.res, Py.ofO, Py.bW, Py.trO, Py.truth, Py.isTy, Py.callW, Py.shM, Py.shr, Py.shrs, Py.ioW, Py.ioB, Py.ofE, Py.asA, Py.setN, Py.fixA, Py.asAs, Py.retA, Py.ofS, Py.ioE, Py.stepV, Py.stepE, Py.asP, Py.wpE, Py.rsE, Py.lkE, Py.lkE1, Py.ulE, Py.ulE1, S__law_cost, n1, n2, wt0, wt1, h1, h2, h3, h4, h5, h6, h7, h8, h9, h10, h11, h12, h13, h14, d0, d1, dw, dp, dq, dc, ds, dt, dp', dq', dx0, dx1, dy0, dy1, dl1, df1, dl2, df2, sb, z2, itW, forL, SO.mapE, I__law_cost]
theorem lt_C (C : Fn) (tk : Tk) (g : Nat) (p q w0 w1 c wh t0 p' q' x0 x1 y0 y1 l1 f1 l2 f2 : W) (dp : isD p = false) (dq : isD q = false) (dc : isD c = false) (d0 : isD w0 = false) (d1 : isD w1 = false) (dw : isD wh = false) (dt : isD t0 = false) (dp' : isD p' = false) (dq' : isD q' = false)
    (dx0 : isD x0 = false) (dx1 : isD x1 = false) (dy0 : isD y0 = false) (dy1 : isD y1 = false) (dl1 : isD l1 = false) (df1 : isD f1 = false) (dl2 : isD l2 = false) (df2 : isD f2 = false) (N : Int)
    (h1 : C 18 [w0, w1] = .ret wh false []) (h3 : C 19 [c, wh] = .ret t0 false []) (h4 : C 20 [.tup [.int 1, .int 1], p] = .ret p' false []) (h5 : C 20 [.tup [.int 1, .int 1], q] = .ret q' false [])
    (h6 : C 19 [w0, p] = .ret x0 false []) (h7 : C 19 [w1, q] = .ret x1 false []) (h8 : C 24 [p, q, .tup [x0, x1], c, .int (N - 1)] = .ret l1 false []) (h9 : C 18 [t0, l1] = .ret f1 false [])
    (h10 : C 19 [w0, p'] = .ret y0 false []) (h11 : C 19 [w1, q'] = .ret y1 false []) (h12 : C 24 [p, q, .tup [y0, y1], c, .int (N - 1)] = .ret l2 false []) (h13 : C 18 [f1, l2] = .ret f2 false []) :
    ofS I__law_toss.fd (xs C tk g S__law_toss [some (p, .sh), some (q, .sh), some (.tup [w0, w1], .sh), some (c, .sh), some (.int N, .sh), none, none, none]) = .ret f2 false [] := by
  have z2 := Py.sz2
  have sb : opW .sub (.int N) (.int 1) = some (.int (N - 1), false) := rfl
  simp [Py.xs, Py.ev, Py.SO.thn, Py.wOf, Py.l1, Py.l2, Py.lL, Py.ress, Py.res, Py.ofO, Py.bW, Py.trO, Py.truth, Py.isTy, Py.callW, Py.shM, Py.shr, Py.shrs, Py.ioW, Py.ioB, Py.ofE, Py.asA, Py.setN, Py.fixA, Py.asAs, Py.retA, Py.ofS, Py.ioE, Py.stepV, Py.stepE, Py.asP, Py.wpE, Py.rsE, Py.lkE, Py.lkE1, Py.ulE, Py.ulE1, S__law_toss, wt0, wt1, h1, h3, h4, h5, h6, h7, h8, h9, h10, h11, h12, h13, d0, d1, dw, dp, dq, dc, dt, dp', dq', dx0, dx1, dy0, dy1, dl1, df1, dl2, df2, sb, z2, itW, forL, SO.mapE, I__law_toss]
end K36

set_option exponentiation.threshold 10000
namespace K36
open PySem PySem.Spec PyProof.Rows L2 Py
section
variable {P : Pm} (h : Ok P)
include h
def Lc (P : Pm) (n : Nat) : Prop := ∀ (k d : Nat) (A B M : Int), n + 7 ≤ d → k + 7 * n ≤ 200 → 0 ≤ A → 0 ≤ B → 0 < M → Sz k A → Sz k B → Sz k M →
  rn d 24 [rt P.p, rt P.q, .tup [rt (low A M), rt (low B M)], rt P.c, .int n] = .ret (rt (low (Z P n A B) (P.cd * P.E n * M))) false []
/-- what a toss costs, by the law: both ways of it -/
theorem ways {n : Nat} (T : Lc P n) {k d : Nat} {A B M : Int} (hd' : n + 7 ≤ d) (hk : k + 7 * (n + 1) ≤ 200) (a0 : 0 ≤ A) (b0 : 0 ≤ B) (s0 : 0 < M) (sA : Sz k A) (sB : Sz k B) (sM : Sz k M) :
    rn d 18 [rt (low A M), rt (low B M)] = .ret (rt (low (A + B) M)) false [] ∧ rn d 19 [rt P.c, rt (low (A + B) M)] = .ret (rt (low (P.cn * (A + B)) (P.cd * M))) false [] ∧
    rn d 20 [.tup [.int 1, .int 1], rt P.p] = .ret (rt (low (P.pd - P.pn) P.pd)) false [] ∧ rn d 20 [.tup [.int 1, .int 1], rt P.q] = .ret (rt (low (P.qd - P.qn) P.qd)) false [] ∧
    rn d 19 [rt (low A M), rt P.p] = .ret (rt (low (P.hA A) (M * P.D))) false [] ∧ rn d 19 [rt (low B M), rt P.q] = .ret (rt (low (P.hB B) (M * P.D))) false [] ∧
    rn d 24 [rt P.p, rt P.q, .tup [rt (low (P.hA A) (M * P.D)), rt (low (P.hB B) (M * P.D))], rt P.c, .int n] = .ret (rt (low (Z P n (P.hA A) (P.hB B)) (P.cd * P.E (n + 1) * M))) false [] ∧
    rn d 18 [rt (low (P.cn * (A + B)) (P.cd * M)), rt (low (Z P n (P.hA A) (P.hB B)) (P.cd * P.E (n + 1) * M))] = .ret (rt (low (P.cn * P.E (n + 1) * (A + B) + Z P n (P.hA A) (P.hB B)) (P.cd * P.E (n + 1) * M))) false [] ∧
    rn d 19 [rt (low A M), rt (low (P.pd - P.pn) P.pd)] = .ret (rt (low (P.tA A) (M * P.D))) false [] ∧ rn d 19 [rt (low B M), rt (low (P.qd - P.qn) P.qd)] = .ret (rt (low (P.tB B) (M * P.D))) false [] ∧
    rn d 24 [rt P.p, rt P.q, .tup [rt (low (P.tA A) (M * P.D)), rt (low (P.tB B) (M * P.D))], rt P.c, .int n] = .ret (rt (low (Z P n (P.tA A) (P.tB B)) (P.cd * P.E (n + 1) * M))) false [] ∧
    rn d 18 [rt (low (P.cn * P.E (n + 1) * (A + B) + Z P n (P.hA A) (P.hB B)) (P.cd * P.E (n + 1) * M)), rt (low (Z P n (P.tA A) (P.tB B)) (P.cd * P.E (n + 1) * M))] = .ret (rt (low (TT P n A B) (P.cd * P.E (n + 1) * M))) false [] := by
  have hd5 : 5 ≤ d := by omega
  have c2 := h.c2
  have p2 := h.p2
  have q2 := h.q2
  have D0 := D_pos h
  have MD0 : 0 < M * P.D := Int.mul_pos s0 D0
  have sMD : Sz (k + 7) (M * P.D) := (sM.mul (D_sz h)).up (by omega)
  have sp : Sz 3 P.pn := sz3 h.p0 (by have := h.p1; have := h.p3; omega)
  have spd : Sz 3 P.pd := sz3 (by omega) h.p3
  have sq : Sz 3 P.qn := sz3 h.q0 (by have := h.q1; have := h.q3; omega)
  have sqd : Sz 3 P.qd := sz3 (by omega) h.q3
  have spm : Sz 3 (P.pd - P.pn) := sz3 (by have := h.p1; omega) (by have := h.p0; have := h.p3; omega)
  have sqm : Sz 3 (P.qd - P.qn) := sz3 (by have := h.q1; omega) (by have := h.q0; have := h.q3; omega)
  have n1 := hA_nn h a0
  have n2 := hB_nn h b0
  have n3 := tA_nn h a0
  have n4 := tB_nn h b0
  have z1 := (hA_sz h sA).up (m := k + 7) (by omega)
  have z2 := (hB_sz h sB).up (m := k + 7) (by omega)
  have z3 := (tA_sz h sA).up (m := k + 7) (by omega)
  have z4 := (tB_sz h sB).up (m := k + 7) (by omega)
  have hE : P.E (n + 1) = P.E n * P.D := rfl
  have sAB := sA.add sB
  have sc : Sz 7 P.cn := sz7 h.c0 (by have := h.c1; have := h.c3; omega)
  have scd : Sz 7 P.cd := sz7 (by omega) h.c3
  have sZh := Z_sz h n n1 n2 z1
  have sZt := Z_sz h n n3 n4 z3
  have dn0 := dn_pos h (n + 1) s0
  have dns := dn_sz h (n + 1) sM
  have cM0 : 0 < P.cd * M := Int.mul_pos (by omega) s0
  have sce : Sz (6 * n + k + 20) (P.cn * P.E (n + 1) * (A + B)) := ((sc.mul (E_sz h (n + 1))).mul sAB).up (by omega)
  have sF1 : Sz (6 * n + k + 30) (P.cn * P.E (n + 1) * (A + B) + Z P n (P.hA A) (P.hB B)) := (sce.add (sZh.up (by omega))).up (by omega)
  have t1 := T (k + 7) d _ _ _ hd' (by omega) n1 n2 MD0 z1 z2 sMD
  have t2 := T (k + 7) d _ _ _ hd' (by omega) n3 n4 MD0 z3 z4 sMD
  have eM : P.cd * P.E n * (M * P.D) = P.cd * P.E (n + 1) * M := by rw [hE]; grind
  rw [eM] at t1 t2
  refine ⟨o18 hd5 (by omega) (by omega) s0 s0 sA sM sB sM (low_x (Int.mul_pos s0 s0) s0 (by grind)), ?_, ?_, ?_, ?_, ?_, t1, ?_, ?_, ?_, t2, ?_⟩
  · exact o19 (k := 7) (m := k + 1) hd5 (by omega) (by omega) (by omega) s0 sc scd sAB (sM.up (by omega)) rfl
  · rw [one_low]
    exact o20 hd5 (by decide) (by omega) (by decide) (by omega) sz1 sz1 sp spd (low_x (Int.mul_pos (by decide) (by omega)) (by omega) (by grind))
  · rw [one_low]
    exact o20 hd5 (by decide) (by omega) (by decide) (by omega) sz1 sz1 sq sqd (low_x (Int.mul_pos (by decide) (by omega)) (by omega) (by grind))
  · exact o19 hd5 (by omega) (by omega) s0 (by omega) sA sM sp spd (low_x (Int.mul_pos s0 (by omega)) MD0 (by unfold Pm.hA Pm.D; grind))
  · exact o19 hd5 (by omega) (by omega) s0 (by omega) sB sM sq sqd (low_x (Int.mul_pos s0 (by omega)) MD0 (by unfold Pm.hB Pm.D; grind))
  · exact o18 (k := 6 * n + k + 30) (m := 6 * n + k + 30) hd5 (by omega) (by omega) cM0 dn0 ((sc.mul sAB).up (by omega)) ((scd.mul sM).up (by omega)) (sZh.up (by omega)) (dns.up (by omega)) (low_x (Int.mul_pos cM0 dn0) dn0 (by grind))
  · exact o19 hd5 (by omega) (by omega) s0 (by omega) sA sM spm spd (low_x (Int.mul_pos s0 (by omega)) MD0 (by unfold Pm.tA Pm.D; grind))
  · exact o19 hd5 (by omega) (by omega) s0 (by omega) sB sM sqm sqd (low_x (Int.mul_pos s0 (by omega)) MD0 (by unfold Pm.tB Pm.D; grind))
  · exact o18 (k := 6 * n + k + 30) (m := 6 * n + k + 30) hd5 (by omega) (by omega) dn0 dn0 sF1 (dns.up (by omega)) (sZt.up (by omega)) (dns.up (by omega)) (low_x (Int.mul_pos dn0 dn0) dn0 (by unfold TT; grind))
theorem lc_at : ∀ n, Lc P n
  | 0 => fun k d A B M hd' hk a0 b0 s0 sA sB sM => by
    obtain ⟨d, rfl⟩ : ∃ e, d = e + 1 := ⟨d - 1, by omega⟩
    have c2 := h.c2
    show run fsd tkL gg (d + 1) 24 _ = _
    rw [run_at (fd := I__law_cost.fd) rfl rfl]
    have e : low (Z P 0 A B) (P.cd * P.E 0 * M) = low (mn A B) M := low_x (dn_pos h 0 s0) s0 (by
      show P.cd * mn A B * M = mn A B * (P.cd * 1 * M)
      grind)
    rw [e]
    exact lc_stop (rn d) tkL gg _ _ _ _ _ (rt (low (A + B) M)) _ rfl rfl rfl _ true _ rfl (is0_low s0) rfl (o18 (by omega) (by omega) (by omega) s0 s0 sA sM sB sM (low_x (Int.mul_pos s0 s0) s0 (by grind))) (o23 (by omega) (by omega) s0 sA sB sM)
  | n + 1 => fun k d A B M hd' hk a0 b0 s0 sA sB sM => by
    obtain ⟨d, rfl⟩ : ∃ e, d = e + 1 := ⟨d - 1, by omega⟩
    have c2 := h.c2
    obtain ⟨w1, w2, w3, w4, w5, w6, w7, w8, w9, w10, w11, w12⟩ := ways h (lc_at n) (d := d) (by omega) hk a0 b0 s0 sA sB sM
    have n1 : cmpW .eq (.int ((n + 1 : Nat) : Int)) (.int 0) = some false := by rw [eqI, decide_eq_false (by omega)]
    have n2 := is0_low (a := A + B) s0
    have dn0 := dn_pos h (n + 1) s0
    have dns := dn_sz h (n + 1) sM
    have eN : (((n + 1 : Nat) : Int) - 1) = (n : Int) := by omega
    show run fsd tkL gg (d + 1) 24 _ = _
    rw [run_at (fd := I__law_cost.fd) rfl rfl]
    by_cases hz : A + B = 0
    · obtain rfl : A = 0 := by omega
      obtain rfl : B = 0 := by omega
      rw [Z_00 h, low_x (c := 0) (d := M) dn0 s0 (by simp)]
      rw [decide_eq_true (by decide)] at n2
      exact lc_stop (rn d) tkL gg _ _ _ _ _ (rt (low (0 + 0) M)) _ rfl rfl rfl _ false true n1 n2 rfl w1 (o23 (a := 0) (c := 0) (by omega) (by omega) s0 sA sB sM)
    · rw [decide_eq_false hz] at n2
      have mS := Sz.le (mn_nn a0 b0) (mn_le1 A B) sA
      have mZ : Sz (6 * n + k + 30) (P.cd * P.E (n + 1) * mn A B) := (dn_sz h (n + 1) mS).up (by omega)
      have hs : low (mn A B) M = low (P.cd * P.E (n + 1) * mn A B) (P.cd * P.E (n + 1) * M) := low_x s0 dn0 (by grind)
      refine lc_go (rn d) tkL gg _ _ _ _ _ (rt (low (A + B) M)) (rt (low (mn A B) M)) _ _ _ _ _ _ _ _ _ _ _ _ rfl rfl rfl rfl rfl rfl rfl rfl rfl rfl rfl rfl rfl rfl rfl rfl rfl rfl _ n1 n2 w1 (o23 (by omega) (by omega) s0 sA sB sM) w2 w3 w4 w5 w6 (by rw [eN]; exact w7) w8 w9 w10 (by rw [eN]; exact w11) w12 ?_
      rw [hs]
      exact o23 (k := 6 * n + k + 30) (by omega) (by omega) dn0 mZ ((TT_sz h n a0 b0 sA sB).up (by omega)) (dns.up (by omega))
theorem lt_at {n k d : Nat} {A B M : Int} (hd' : n + 8 ≤ d) (hk : k + 7 * (n + 1) ≤ 200) (a0 : 0 ≤ A) (b0 : 0 ≤ B) (s0 : 0 < M) (sA : Sz k A) (sB : Sz k B) (sM : Sz k M) :
    rn d 25 [rt P.p, rt P.q, .tup [rt (low A M), rt (low B M)], rt P.c, .int (n + 1 : Nat)] = .ret (rt (low (TT P n A B) (P.cd * P.E (n + 1) * M))) false [] := by
  obtain ⟨d, rfl⟩ : ∃ e, d = e + 1 := ⟨d - 1, by omega⟩
  obtain ⟨w1, w2, w3, w4, w5, w6, w7, w8, w9, w10, w11, w12⟩ := ways h (lc_at h n) (d := d) (by omega) hk a0 b0 s0 sA sB sM
  have eN : (((n + 1 : Nat) : Int) - 1) = (n : Int) := by omega
  show run fsd tkL gg (d + 1) 25 _ = _
  rw [run_at (fd := I__law_toss.fd) rfl rfl]
  exact lt_C (rn d) tkL gg _ _ _ _ _ (rt (low (A + B) M)) _ _ _ _ _ _ _ _ _ _ _ rfl rfl rfl rfl rfl rfl rfl rfl rfl rfl rfl rfl rfl rfl rfl rfl rfl _ w1 w2 w3 w4 w5 w6 (by rw [eN]; exact w7) w8 w9 w10 (by rw [eN]; exact w11) w12
end
end K36

set_option exponentiation.threshold 10000
namespace K36
open PySem PySem.Spec PyProof.Rows L2 Py
/-! ### a row of tosses -/
def stA (P : Pm) (b : Bool) (A : Int) : Int := if b then P.hA A else P.tA A
def stB (P : Pm) (b : Bool) (B : Int) : Int := if b then P.hB B else P.tB B
def fA (P : Pm) : List Bool → Int → Int
  | [], A => A
  | b :: l, A => fA P l (stA P b A)
def fB (P : Pm) : List Bool → Int → Int
  | [], B => B
  | b :: l, B => fB P l (stB P b B)
def fM (P : Pm) : Nat → Int → Int
  | 0, M => M
  | n + 1, M => fM P n (M * P.D)
theorem fA_0 (P : Pm) : ∀ l, fA P l 0 = 0
  | [] => rfl
  | b :: l => by
    have : stA P b 0 = 0 := by unfold stA; split <;> simp [Pm.hA, Pm.tA]
    show fA P l (stA P b 0) = 0
    rw [this, fA_0 P l]
theorem fB_0 (P : Pm) : ∀ l, fB P l 0 = 0
  | [] => rfl
  | b :: l => by
    have : stB P b 0 = 0 := by unfold stB; split <;> simp [Pm.hB, Pm.tB]
    show fB P l (stB P b 0) = 0
    rw [this, fB_0 P l]
theorem fA_app (P : Pm) : ∀ (l m : List Bool) (A : Int), fA P (l ++ m) A = fA P m (fA P l A)
  | [], m, A => rfl
  | b :: l, m, A => fA_app P l m (stA P b A)
theorem fB_app (P : Pm) : ∀ (l m : List Bool) (A : Int), fB P (l ++ m) A = fB P m (fB P l A)
  | [], m, A => rfl
  | b :: l, m, A => fB_app P l m (stB P b A)
section
variable {P : Pm} (h : Ok P)
include h
theorem stA_nn (b : Bool) {A : Int} (a : 0 ≤ A) : 0 ≤ stA P b A := by unfold stA; split; exact hA_nn h a; exact tA_nn h a
theorem stB_nn (b : Bool) {A : Int} (a : 0 ≤ A) : 0 ≤ stB P b A := by unfold stB; split; exact hB_nn h a; exact tB_nn h a
theorem stA_sz (b : Bool) {k : Nat} {A : Int} (a : Sz k A) : Sz (k + 6) (stA P b A) := by unfold stA; split; exact hA_sz h a; exact tA_sz h a
theorem stB_sz (b : Bool) {k : Nat} {A : Int} (a : Sz k A) : Sz (k + 6) (stB P b A) := by unfold stB; split; exact hB_sz h a; exact tB_sz h a
theorem fA_nn : ∀ (l : List Bool) {A : Int}, 0 ≤ A → 0 ≤ fA P l A
  | [], _, a => a
  | b :: l, _, a => fA_nn l (stA_nn h b a)
theorem fB_nn : ∀ (l : List Bool) {A : Int}, 0 ≤ A → 0 ≤ fB P l A
  | [], _, a => a
  | b :: l, _, a => fB_nn l (stB_nn h b a)
theorem fA_sz : ∀ (l : List Bool) {k : Nat} {A : Int}, Sz k A → Sz (k + 6 * l.length) (fA P l A)
  | [], _, _, a => a
  | b :: l, k, _, a => (fA_sz l (stA_sz h b a)).up (by simp; omega)
theorem fB_sz : ∀ (l : List Bool) {k : Nat} {A : Int}, Sz k A → Sz (k + 6 * l.length) (fB P l A)
  | [], _, _, a => a
  | b :: l, k, _, a => (fB_sz l (stB_sz h b a)).up (by simp; omega)
theorem fM_pos : ∀ (n : Nat) {M : Int}, 0 < M → 0 < fM P n M
  | 0, _, a => a
  | n + 1, _, a => fM_pos n (Int.mul_pos a (D_pos h))
theorem fM_sz : ∀ (n : Nat) {k : Nat} {M : Int}, Sz k M → Sz (k + 6 * n) (fM P n M)
  | 0, _, _, a => a
  | n + 1, k, _, a => (fM_sz n (a.mul (D_sz h))).up (by omega)
end
theorem fM_add (P : Pm) : ∀ (n m : Nat) (M : Int), fM P (n + m) M = fM P m (fM P n M)
  | 0, m, M => by rw [Nat.zero_add]; rfl
  | n + 1, m, M => by rw [Nat.add_right_comm]; exact fM_add P n m (M * P.D)
/-! ### prior_after -/
def paB : S := (.seq (.asn 6 (.ix (.call 8 [false, false, false] (.cons (.var 0) (.cons (.var 1) (.cons (.var 2) .nil)))) (.op .add (.con (.int 1)) (.var 5)))) (.seq (.ite (.cmp .is (.var 6) (.con .non)) (.seq (.rais 0 .nil) .nil) .nil) (.seq (.asn 2 (.var 6)) .nil)))
def sI (b : Bool) : Int := if b then 0 else 1
theorem pa_body (C : Fn) (tk : Tk) (g : Nat) (p q x hh ht bo w : W) (dp : isD p = false) (dq : isD q = false) (dx : isD x = false) (b : Bool) (z : Bool) (y3 y4 y6 : Y) (hy : plainS y6 = true) (h0 : C 8 [p, q, x] = .ret (.tup [bo, hh, ht]) false []) (hw : (if b then hh else ht) = w) (dw : isD w = false) (hz : isN w = z) :
    xs C tk g paB [some (p, .sh), some (q, .sh), some (x, .sh), y3, y4, some (.int (sI b), .sh), y6] = if z then .ex 0 .non [some (p, .sh), some (q, .sh), some (x, .sh), y3, y4, some (.int (sI b), .sh), some (w, .sh)] else .nx [some (p, .sh), some (q, .sh), some (w, .sh), y3, y4, some (.int (sI b), .sh), some (w, .sh)] := by
  have e1 : ixW (.tup [bo, hh, ht]) (.int (1 + sI b)) = some (w, false) := by subst hw; cases b <;> rfl
  have e2 : opW .add (.int 1) (.int (sI b)) = some (.int (1 + sI b), false) := rfl
  have e3 : cmpW .is w .non = some z := by show some (isN w) = _; rw [hz]
  generalize sI b = i at e1 e2 ⊢
  match y6, hy with
  | none, _ => cases z <;> simp [Py.xs, Py.ev, Py.SO.thn, Py.wOf, Py.l1, Py.l2, Py.lL, Py.ress, Py.res, Py.ofO, Py.bW, Py.trO, Py.truth, Py.isTy, Py.callW, Py.shM, Py.shr, Py.shrs, Py.ioW, Py.ioB, Py.ofE, Py.asA, Py.setN, Py.fixA, Py.asAs, Py.retA, Py.ofS, Py.ioE, Py.stepV, Py.stepE, Py.asP, Py.wpE, Py.rsE, Py.lkE, Py.lkE1, Py.ulE, Py.ulE1, paB, h0, dp, dq, dx, dw, e1, e2, e3]
  | some (u, .sh), _ => cases z <;> simp [Py.xs, Py.ev, Py.SO.thn, Py.wOf, Py.l1, Py.l2, Py.lL, Py.ress, Py.res, Py.ofO, Py.bW, Py.trO, Py.truth, Py.isTy, Py.callW, Py.shM, Py.shr, Py.shrs, Py.ioW, Py.ioB, Py.ofE, Py.asA, Py.setN, Py.fixA, Py.asAs, Py.retA, Py.ofS, Py.ioE, Py.stepV, Py.stepE, Py.asP, Py.wpE, Py.rsE, Py.lkE, Py.lkE1, Py.ulE, Py.ulE1, paB, h0, dp, dq, dx, dw, e1, e2, e3]
section
variable {P : Pm} (h : Ok P)
include h
theorem pa_loop {d : Nat} (hd' : 6 ≤ d) (y3 y4 : Y) : ∀ (l : List Bool) (k : Nat) (A S : Int) (y5 y6 : Y), k + 7 * l.length ≤ 300 → 0 ≤ A → A ≤ S → 0 < S → Sz k S → plainS y5 = true → plainS y6 = true →
    ∃ y2 y5' y6', (fA P l A + fB P l (S - A) ≠ 0 → y2 = some (rt (low (fA P l A) (fA P l A + fB P l (S - A))), .sh)) ∧ forL (stF (rn d) tkL gg (.n 5) paB) (l.map fun b => W.int (sI b)) [some (rt P.p, .sh), some (rt P.q, .sh), some (rt (low A S), .sh), y3, y4, y5, y6] =
      if fA P l A + fB P l (S - A) = 0 then .ex 0 .non [some (rt P.p, .sh), some (rt P.q, .sh), y2, y3, y4, y5', y6'] else .nx [some (rt P.p, .sh), some (rt P.q, .sh), y2, y3, y4, y5', y6']
  | [], k, A, S, y5, y6, hk, a0, a1, s0, sS, hy5, hy6 => by
    refine ⟨some (rt (low A S), .sh), y5, y6, fun _ => ?_, ?_⟩
    · show _ = some (rt (low A (A + (S - A))), Fl.sh)
      rw [show A + (S - A) = S by omega]
    · show _ = if A + (S - A) = 0 then _ else _
      rw [if_neg (by omega)]
      rfl
  | b :: l, k, A, S, y5, y6, hk, a0, a1, s0, sS, hy5, hy6 => by
    simp only [List.length_cons] at hk
    have b0 : 0 ≤ S - A := by omega
    have sA : Sz k A := Sz.le a0 a1 sS
    have sB : Sz k (S - A) := Sz.le (by omega) (by omega) sS
    have ea : asP (.n 5) (.int (sI b)) [some (rt P.p, .sh), some (rt P.q, .sh), some (rt (low A S), .sh), y3, y4, y5, y6] = some [some (rt P.p, .sh), some (rt P.q, .sh), some (rt (low A S), .sh), y3, y4, some (.int (sI b), .sh), y6] := by
      match y5, hy5 with
      | none, _ => rfl
      | some (_, .sh), _ => rfl
    have ht := tt_at h (k := k) (d := d) hd' (by omega) a0 a1 s0 sS
    have hw : (if b then hd (P.hA A) (P.hA A + P.hB (S - A)) else hd (P.tA A) (P.tA A + P.tB (S - A))) = hd (stA P b A) (stA P b A + stB P b (S - A)) := by cases b <;> rfl
    have hb := pa_body (rn d) tkL gg (rt P.p) (rt P.q) (rt (low A S)) _ _ _ _ rfl rfl rfl b (decide (stA P b A + stB P b (S - A) = 0)) y3 y4 y6 hy6 ht hw (hd_isD _ _) (hd_isN _ _)
    have n1 := stA_nn h b a0
    have n2 := stB_nn h b b0
    by_cases hc : stA P b A + stB P b (S - A) = 0
    · have e1 : stA P b A = 0 := by omega
      have e2 : stB P b (S - A) = 0 := by omega
      rw [decide_eq_true hc] at hb
      have f1 : fA P (b :: l) A = 0 := by show fA P l (stA P b A) = 0; rw [e1, fA_0]
      have f2 : fB P (b :: l) (S - A) = 0 := by show fB P l (stB P b (S - A)) = 0; rw [e2, fB_0]
      rw [f1, f2]
      refine ⟨some (rt (low A S), .sh), some (.int (sI b), .sh), some (hd (stA P b A) (stA P b A + stB P b (S - A)), .sh), fun z => absurd rfl z, ?_⟩
      rw [if_pos (by decide)]
      simp only [List.map_cons, forL, stF_ok ea, hb]
      rfl
    · rw [decide_eq_false hc] at hb
      obtain ⟨y2, y5', y6', h1, h2⟩ := pa_loop hd' y3 y4 l (k + 7) (stA P b A) (stA P b A + stB P b (S - A)) (some (.int (sI b), .sh)) (some (hd (stA P b A) (stA P b A + stB P b (S - A)), .sh)) (by omega) n1 (by omega) (by omega) (((stA_sz h b sA).add (stB_sz h b sB)).up (by omega)) rfl rfl
      rw [show stA P b A + stB P b (S - A) - stA P b A = stB P b (S - A) by omega] at h1 h2
      refine ⟨y2, y5', y6', h1, ?_⟩
      simp only [List.map_cons, forL, stF_ok ea, hb]
      rw [hd_pos hc] at h2 ⊢
      exact h2
theorem pa_at {d k : Nat} (hd' : 7 ≤ d) (H T : Nat) (hH : H ≤ 3) (hT : T ≤ 3) (hk : k ≤ 100) {A S : Int} (a0 : 0 ≤ A) (a1 : A ≤ S) (s0 : 0 < S) (sS : Sz k S) :
    rn d 14 [rt P.p, rt P.q, rt (low A S), .int H, .int T] = (let l := List.replicate H true ++ List.replicate T false; if fA P l A + fB P l (S - A) = 0 then .ex 0 .non [] else .ret (rt (low (fA P l A) (fA P l A + fB P l (S - A)))) false []) := by
  obtain ⟨d, rfl⟩ : ∃ e, d = e + 1 := ⟨d - 1, by omega⟩
  have hl : ((List.replicate H true ++ List.replicate T false).map fun b => W.int (sI b)) = rep [W.int 0] H ++ rep [W.int 1] T := by
    have : ∀ (n : Nat) (w : W), rep [w] n = List.replicate n w := fun n w => by
      unfold rep
      induction n with
      | zero => rfl
      | succ n ih => rw [List.replicate_succ, List.flatten_cons, ih, List.replicate_succ]; rfl
    rw [this, this, List.map_append, List.map_replicate, List.map_replicate]
    rfl
  obtain ⟨y2, y5', y6', h1, h2⟩ := pa_loop h (d := d) (by omega) (some (.int H, .sh)) (some (.int T, .sh)) (List.replicate H true ++ List.replicate T false) k A S none none (by simp; omega) a0 a1 s0 sS rfl rfl
  rw [hl] at h2
  have zl : ∀ n : Nat, n ≤ 3 → ∀ w : W, (rep [w] n).length = n := fun n _ w => by
    unfold rep
    simp
  have ha : (ev (rn d) (.cons (.op .add (.op .mul (.lst (.cons (.con (.int 0)) .nil)) (.var 3)) (.op .mul (.lst (.cons (.con (.int 1)) .nil)) (.var 4))) .nil)).a [some (rt P.p, .sh), some (rt P.q, .sh), some (rt (low A S), .sh), some (.int H, .sh), some (.int T, .sh), none, none] = .ok [.val (.lst (rep [W.int 0] H ++ rep [W.int 1] T)) true] [some (rt P.p, .sh), some (rt P.q, .sh), some (rt (low A S), .sh), some (.int H, .sh), some (.int T, .sh), none, none] := by
    have m1 : ∀ (n : Nat) (w : W), n ≤ 3 → opW .mul (.lst [w]) (.int n) = some (.lst (rep [w] n), true) := fun n w hn => by
      show (if [w].length * (n : Int).toNat ≤ szL ∧ -1000 ≤ (n : Int) ∧ (n : Int) ≤ szL then some (W.lst (rep [w] (n : Int).toNat), true) else none) = _
      rw [if_pos ⟨by simp only [List.length_cons, List.length_nil]; unfold szL; omega, by omega, by unfold szL; omega⟩]
      rfl
    have o1 : opW .add (.lst (rep [W.int 0] H)) (.lst (rep [W.int 1] T)) = some (.lst (rep [W.int 0] H ++ rep [W.int 1] T), true) := by
      show (if (rep [W.int 0] H).length + (rep [W.int 1] T).length ≤ szL then _ else _) = _
      rw [if_pos (by rw [zl H hH, zl T hT]; unfold szL; omega)]
    have m1a := m1 H (.int 0) hH
    have m1b := m1 T (.int 1) hT
    generalize rep [W.int 0] H ++ rep [W.int 1] T = r3 at o1 ⊢
    generalize rep [W.int 0] H = r1 at *
    generalize rep [W.int 1] T = r2 at *
    generalize (H : Int) = Hi at *
    generalize (T : Int) = Ti at *
    generalize rt P.p = w1
    generalize rt P.q = w2
    generalize rt (low A S) = w3
    simp [Py.xs, Py.ev, Py.SO.thn, Py.wOf, Py.l1, Py.l2, Py.lL, Py.ress, Py.res, Py.ofO, Py.bW, Py.trO, Py.truth, Py.isTy, Py.callW, Py.shM, Py.shr, Py.shrs, Py.ioW, Py.ioB, Py.ofE, Py.asA, Py.setN, Py.fixA, Py.asAs, Py.retA, Py.ofS, Py.ioE, Py.stepV, Py.stepE, Py.asP, Py.wpE, Py.rsE, Py.lkE, Py.lkE1, Py.ulE, Py.ulE1, m1a, m1b, o1, ↓if_sz1]
  have hfor : xs (rn d) tkL gg (.for_ (.n 5) .seq (.cons (.op .add (.op .mul (.lst (.cons (.con (.int 0)) .nil)) (.var 3)) (.op .mul (.lst (.cons (.con (.int 1)) .nil)) (.var 4))) .nil) paB) [some (rt P.p, .sh), some (rt P.q, .sh), some (rt (low A S), .sh), some (.int H, .sh), some (.int T, .sh), none, none] = _ := for_ok ha rfl
  have hlk : ∀ (ρ : Py.Env) (w : W) (b : Bool), lkE ρ [.val w b] = ρ := fun _ _ _ => rfl
  rw [hlk, h2] at hfor
  show run fsd tkL gg (d + 1) 14 _ = _
  rw [run_at (fd := I_prior_after.fd) rfl rfl]
  show ofS I_prior_after.fd (SO.thn (xs (rn d) tkL gg (.for_ (.n 5) .seq (.cons (.op .add (.op .mul (.lst (.cons (.con (.int 0)) .nil)) (.var 3)) (.op .mul (.lst (.cons (.con (.int 1)) .nil)) (.var 4))) .nil) paB) [some (rt P.p, .sh), some (rt P.q, .sh), some (rt (low A S), .sh), some (.int H, .sh), some (.int T, .sh), none, none]) fun ρ => xs (rn d) tkL gg (.seq (.ret (.var 2)) .nil) ρ) = _
  rw [hfor]
  by_cases hc : fA P (List.replicate H true ++ List.replicate T false) A + fB P (List.replicate H true ++ List.replicate T false) (S - A) = 0
  · simp only [hc, if_true]
    rfl
  · simp only [hc, if_false]
    rw [h1 hc]
    rfl
end
/-! ### the law's own -/
theorem tk00 : tkL 0 0 = some true := by decide +kernel
theorem la_ret (C : Fn) (g : Nat) (p q x : W) (hp : W) (H T : Int) (dp : isD p = false) (dq : isD q = false) (dx : isD x = false) (h1 : C 14 [p, q, x, .int H, .int T] = .ret hp false []) : ofS I__law_after.fd (xs C tkL g S__law_after [some (p, .sh), some (q, .sh), some (x, .sh), some (.int H, .sh), some (.int T, .sh)]) = .ret hp false [] := by
  simp [Py.xs, Py.ev, Py.SO.thn, Py.wOf, Py.l1, Py.l2, Py.lL, Py.ress, Py.res, Py.ofO, Py.bW, Py.trO, Py.truth, Py.isTy, Py.callW, Py.shM, Py.shr, Py.shrs, Py.ioW, Py.ioB, Py.ofE, Py.asA, Py.setN, Py.fixA, Py.asAs, Py.retA, Py.ofS, Py.ioE, Py.stepV, Py.stepE, Py.asP, Py.wpE, Py.rsE, Py.lkE, Py.lkE1, Py.ulE, Py.ulE1, S__law_after, h1, dp, dq, dx, I__law_after]
theorem la_ex (C : Fn) (g : Nat) (p q x : W) (H T : Int) (dp : isD p = false) (dq : isD q = false) (dx : isD x = false) (h1 : C 14 [p, q, x, .int H, .int T] = .ex 0 .non []) : ofS I__law_after.fd (xs C tkL g S__law_after [some (p, .sh), some (q, .sh), some (x, .sh), some (.int H, .sh), some (.int T, .sh)]) = .ret .non false [] := by
  simp [Py.xs, Py.ev, Py.SO.thn, Py.wOf, Py.l1, Py.l2, Py.lL, Py.ress, Py.res, Py.ofO, Py.bW, Py.trO, Py.truth, Py.isTy, Py.callW, Py.shM, Py.shr, Py.shrs, Py.ioW, Py.ioB, Py.ofE, Py.asA, Py.setN, Py.fixA, Py.asAs, Py.retA, Py.ofS, Py.ioE, Py.stepV, Py.stepE, Py.asP, Py.wpE, Py.rsE, Py.lkE, Py.lkE1, Py.ulE, Py.ulE1, S__law_after, h1, dp, dq, dx, tk00, SO.calm, I__law_after]
end K36

set_option exponentiation.threshold 10000
namespace K36
open PySem PySem.Spec PyProof.Rows L2 Py
/-! ### the law's turn, statement by statement -/
def B1 : S := (.popi 4 2 (.cons (.call 16 [true, false] (.cons (.var 1) (.cons (.bi .len (.cons (.var 2) .nil)) .nil))) .nil))
def B2 : S := (.par [5, 6] (.cons (.ix (.var 2) (.call 16 [true, false] (.cons (.var 1) (.cons (.bi .len (.cons (.var 2) .nil)) .nil)))) (.cons (.ix (.lst (.cons (.tup (.cons (.con (.int 1)) (.cons (.con (.int 2)) .nil))) (.cons (.tup (.cons (.con (.int 1)) (.cons (.con (.int 3)) .nil))) (.cons (.tup (.cons (.con (.int 0)) (.cons (.con (.int 1)) .nil))) (.cons (.tup (.cons (.con (.int 3)) (.cons (.con (.int 4)) .nil))) (.cons (.tup (.cons (.con (.int 1)) (.cons (.con (.int 1)) .nil))) .nil)))))) (.call 16 [true, false] (.cons (.var 1) (.cons (.con (.int 5)) .nil)))) .nil)))
def B3 : S := (.par [7, 8] (.cons (.ix (.lst (.cons (.tup (.cons (.con (.int 0)) (.cons (.con (.int 1)) .nil))) (.cons (.tup (.cons (.con (.int 1)) (.cons (.con (.int 20)) .nil))) (.cons (.tup (.cons (.con (.int 1)) (.cons (.con (.int 8)) .nil))) (.cons (.tup (.cons (.con (.int 1)) (.cons (.con (.int 100)) .nil))) .nil))))) (.call 16 [true, false] (.cons (.var 1) (.cons (.con (.int 4)) .nil)))) (.cons (.call 16 [true, false] (.cons (.var 1) (.cons (.con (.int 6)) .nil))) .nil)))
def B4 : S := (.asn 9 (.tup (.cons (.var 6) (.cons (.call 20 [false, false] (.cons (.tup (.cons (.con (.int 1)) (.cons (.con (.int 1)) .nil))) (.cons (.var 6) .nil))) .nil))))
def B5 : S := (.ite (.or (.cmp .ne (.call 12 [false, false, false, false, false] (.cons (.var 4) (.cons (.var 5) (.cons (.var 6) (.cons (.var 7) (.cons (.var 8) .nil)))))) (.call 24 [false, false, false, false, false] (.cons (.var 4) (.cons (.var 5) (.cons (.var 9) (.cons (.var 7) (.cons (.var 8) .nil))))))) (.not (.isi (.call 12 [false, false, false, false, false] (.cons (.var 4) (.cons (.var 5) (.cons (.var 6) (.cons (.var 7) (.cons (.var 8) .nil)))))) .tuple))) (.seq (.ret (.con (.bl false))) .nil) .nil)
def B6 : S := (.asn 10 (.ite (.call 22 [false, false] (.cons (.var 6) (.cons (.tup (.cons (.con (.int 1)) (.cons (.con (.int 2)) .nil))) .nil))) (.con (.str [113])) (.con (.str [112]))))
def B7 : S := (.asn 11 (.ite (.and (.cmp .gt (.var 8) (.con (.int 0))) (.call 22 [false, false] (.cons (.call 25 [false, false, false, false, false] (.cons (.var 4) (.cons (.var 5) (.cons (.var 9) (.cons (.var 7) (.cons (.var 8) .nil)))))) (.cons (.call 23 [false, false] (.cons (.bi .list (.cons (.var 9) .nil)) (.cons (.neg (.con (.int 1))) .nil))) .nil)))) (.con (.str [116, 111, 115, 115])) (.var 10)))
def B8 : S := (.ite (.cmp .ne (.call 13 [false, false, false, false, false] (.cons (.var 4) (.cons (.var 5) (.cons (.var 6) (.cons (.var 7) (.cons (.var 8) .nil)))))) (.var 11)) (.seq (.ret (.con (.bl false))) .nil) .nil)
def B9 : S := (.par [12, 13] (.cons (.call 16 [true, false] (.cons (.var 1) (.cons (.con (.int 4)) .nil))) (.cons (.call 16 [true, false] (.cons (.var 1) (.cons (.con (.int 4)) .nil))) .nil)))
def B10 : S := (.asp (.t (.cons (.n 14) (.cons (.n 15) .nil))) (.var 9))
def B11 : S := (.for_ (.n 16) .rng (.cons (.var 12) .nil) (.seq (.par [14, 15] (.cons (.call 19 [false, false] (.cons (.var 14) (.cons (.var 4) .nil))) (.cons (.call 19 [false, false] (.cons (.var 15) (.cons (.var 5) .nil))) .nil))) .nil))
def B12 : S := (.for_ (.n 16) .rng (.cons (.var 13) .nil) (.seq (.par [14, 15] (.cons (.call 19 [false, false] (.cons (.var 14) (.cons (.call 20 [false, false] (.cons (.tup (.cons (.con (.int 1)) (.cons (.con (.int 1)) .nil))) (.cons (.var 4) .nil))) .nil))) (.cons (.call 19 [false, false] (.cons (.var 15) (.cons (.call 20 [false, false] (.cons (.tup (.cons (.con (.int 1)) (.cons (.con (.int 1)) .nil))) (.cons (.var 5) .nil))) .nil))) .nil))) .nil))
def B13 : S := (.asn 17 (.call 18 [false, false] (.cons (.var 14) (.cons (.var 15) .nil))))
def B14 : S := (.ite (.cmp .ne (.call 26 [false, false, false, false, false] (.cons (.var 4) (.cons (.var 5) (.cons (.var 6) (.cons (.var 12) (.cons (.var 13) .nil)))))) (.ite (.cmp .ne (.var 17) (.tup (.cons (.con (.int 0)) (.cons (.con (.int 1)) .nil)))) (.call 21 [false, false] (.cons (.var 14) (.cons (.var 17) .nil))) (.con .non))) (.seq (.ret (.con (.bl false))) .nil) .nil)
def LB : S := (.seq B1 (.seq B2 (.seq B3 (.seq B4 (.seq B5 (.seq B6 (.seq B7 (.seq B8 (.seq B9 (.seq B10 (.seq B11 (.seq B12 (.seq B13 (.seq B14 .nil))))))))))))))
def L1 : S := (.asn 1 (.call 15 [false] (.cons (.var 0) .nil)))
def L2 : S := (.asn 2 (.lst (.cons (.tup (.cons (.con (.int 0)) (.cons (.con (.int 1)) .nil))) (.cons (.tup (.cons (.con (.int 1)) (.cons (.con (.int 3)) .nil))) (.cons (.tup (.cons (.con (.int 1)) (.cons (.con (.int 2)) .nil))) (.cons (.tup (.cons (.con (.int 2)) (.cons (.con (.int 3)) .nil))) (.cons (.tup (.cons (.con (.int 1)) (.cons (.con (.int 1)) .nil))) (.cons (.tup (.cons (.con (.int 3)) (.cons (.con (.int 4)) .nil))) .nil))))))))
def L4 : S := (.ret (.and (.cmp .eq (.call 12 [false, false, false, false, false] (.cons (.tup (.cons (.con (.int 0)) (.cons (.con (.int 1)) .nil))) (.cons (.tup (.cons (.con (.int 1)) (.cons (.con (.int 1)) .nil))) (.cons (.tup (.cons (.con (.int 1)) (.cons (.con (.int 2)) .nil))) (.cons (.tup (.cons (.con (.int 1)) (.cons (.con (.int 9)) .nil))) (.cons (.con (.int 3)) .nil)))))) (.tup (.cons (.con (.int 1)) (.cons (.con (.int 9)) .nil)))) (.cmp .eq (.call 13 [false, false, false, false, false] (.cons (.tup (.cons (.con (.int 0)) (.cons (.con (.int 1)) .nil))) (.cons (.tup (.cons (.con (.int 1)) (.cons (.con (.int 1)) .nil))) (.cons (.tup (.cons (.con (.int 1)) (.cons (.con (.int 2)) .nil))) (.cons (.tup (.cons (.con (.int 1)) (.cons (.con (.int 2)) .nil))) (.cons (.con (.int 3)) .nil)))))) (.con (.str [112])))))
theorem law_is : S_law = .seq L1 (.seq K36.L2 (.seq (.for_ (.n 3) .rng (.cons (.con (.int 3)) .nil) LB) (.seq L4 .nil))) := rfl
theorem set_pl {ρ : Py.Env} {i : Nat} {y : Y} (h : ρ[i]? = some y) (hy : plainS y = true) (w : W) (f : Fl) : setN ρ i w f = some (ρ.set i (some (w, f))) := by
  unfold setN
  rw [h]
  match y, hy with
  | none, _ => rfl
  | some (_, .sh), _ => rfl
section
variable (C : Fn) (tk : Tk) (g : Nat)
theorem asn_ok {e : E} {ρ : Py.Env} {w : W} {fr : Bool} {i : Nat} {ρ1 ρ2 : Py.Env} (h : (ev C e).x ρ = .ok (.val w fr) ρ1) (h2 : setN ρ1 i w (if fr then .own else .sh) = some ρ2) : xs C tk g (.asn i e) ρ = .nx ρ2 := by
  have e1 : xs C tk g (.asn i e) ρ = SO.bnd ((ev C e).x ρ) fun a ρ1 => ofE (asA i a ρ1) := rfl
  rw [e1, h]
  show ofE (setN ρ1 i w _) = _
  rw [h2]
  rfl
theorem asn_pl {e : E} {ρ : Py.Env} {w : W} {i : Nat} {ρ1 : Py.Env} {y : Y} (h : (ev C e).x ρ = .ok (.val w false) ρ1) (h1 : ρ1[i]? = some y) (hy : plainS y = true) : xs C tk g (.asn i e) ρ = .nx (ρ1.set i (some (w, .sh))) := asn_ok C tk g h (set_pl h1 hy w .sh)
theorem par2 {e : E} {ρ ρ1 : Py.Env} {a b : W} {i j : Nat} {y y' : Y} (h : (ev C e).a ρ = .ok [.val a false, .val b false] ρ1) (hij : (i == j) = false) (h1 : ρ1[i]? = some y) (hy : plainS y = true) (h2 : (ρ1.set i (some (a, .sh)))[j]? = some y') (hy' : plainS y' = true) : xs C tk g (.par [i, j] e) ρ = .nx ((ρ1.set i (some (a, .sh))).set j (some (b, .sh))) := by
  have e1 : xs C tk g (.par [i, j] e) ρ = SO.bnd ((ev C e).a ρ) fun as ρ1 => match fixA ρ1 as with
    | some (as', ρ2) => ofE (asAs [i, j] as' ρ2)
    | none => .bad := rfl
  rw [e1, h]
  show ofE (asAs [i, j] [.val a false, .val b false] ρ1) = _
  have g1 : asA i (.val a false) ρ1 = some (ρ1.set i (some (a, .sh))) := set_pl h1 hy a .sh
  have g2 : asA j (.val b false) (ρ1.set i (some (a, .sh))) = some ((ρ1.set i (some (a, .sh))).set j (some (b, .sh))) := set_pl h2 hy' b .sh
  have hij' : ¬ i = j := by simpa using hij
  simp [asAs, g1, g2, ofE, hij']
theorem ite_no {c : E} {a b : S} {ρ ρ1 : Py.Env} (h : (ev C c).t ρ = .ok false ρ1) : xs C tk g (.ite c a b) ρ = xs C tk g b ρ1 := by
  have e : xs C tk g (.ite c a b) ρ = SO.bnd ((ev C c).t ρ) fun k ρ1 => if k then xs C tk g a ρ1 else xs C tk g b ρ1 := rfl
  rw [e, h]
  rfl
abbrev eT (s : Y) (w L : W) (t p q x c n ws sy du H T o r k wh : Y) : Py.Env := [s, some (w, .own), some (L, .own), t, p, q, x, c, n, ws, sy, du, H, T, o, r, k, wh]
variable (s t p q x c n ws sy du H T o r k wh : Y)
theorem b1 (w w' v : W) (l : List W) (m i : Int) (hp : plainS p = true) (hl : biW .len [.lst l] = some (.int m, false)) (h : C 16 [w, .int m] = .ret (.int i) false [w']) (hi : 0 ≤ i ∧ i < l.length) (hv : l[i.toNat]? = some v) :
    xs C tk g B1 (eT s w (.lst l) t p q x c n ws sy du H T o r k wh) = .nx (eT s w' (.lst (l.eraseIdx i.toNat)) t (some (v, .sh)) q x c n ws sy du H T o r k wh) := by
  have ha : (ev C (.cons (.call 16 [true, false] (.cons (.var 1) (.cons (.bi .len (.cons (.var 2) .nil)) .nil))) .nil)).a (eT s w (.lst l) t p q x c n ws sy du H T o r k wh) = .ok [.val (.int i) false] (eT s w' (.lst l) t p q x c n ws sy du H T o r k wh) := by
    simp [Py.xs, Py.ev, Py.SO.thn, Py.wOf, Py.l1, Py.l2, Py.lL, Py.ress, Py.res, Py.ofO, Py.bW, Py.trO, Py.truth, Py.isTy, Py.callW, Py.shM, Py.shr, Py.shrs, Py.ioW, Py.ioB, Py.ofE, Py.asA, Py.setN, Py.fixA, Py.asAs, Py.retA, Py.ofS, Py.ioE, Py.stepV, Py.stepE, Py.asP, Py.wpE, Py.rsE, Py.lkE, Py.lkE1, Py.ulE, Py.ulE1, hl, h]
  have hs : setN (eT s w' (.lst l) t p q x c n ws sy du H T o r k wh) 4 v .sh = some (eT s w' (.lst l) t (some (v, .sh)) q x c n ws sy du H T o r k wh) := set_pl (ρ := eT s w' (.lst l) t p q x c n ws sy du H T o r k wh) (i := 4) (y := p) rfl hp v .sh
  have e : xs C tk g B1 (eT s w (.lst l) t p q x c n ws sy du H T o r k wh) = SO.bnd ((ev C (.cons (.call 16 [true, false] (.cons (.var 1) (.cons (.bi .len (.cons (.var 2) .nil)) .nil))) .nil)).a (eT s w (.lst l) t p q x c n ws sy du H T o r k wh)) fun us ρ1 => popE 4 2 us ρ1 := rfl
  rw [e, ha]
  show popE 4 2 [.val (.int i) false] (eT s w' (.lst l) t p q x c n ws sy du H T o r k wh) = _
  have hw : wOf (eT s w' (.lst l) t p q x c n ws sy du H T o r k wh) 2 = some (.lst l, .own) := rfl
  have hsh : shrs (eT s w' (.lst l) t p q x c n ws sy du H T o r k wh) [.val (.int i) false] = some ([.int i], eT s w' (.lst l) t p q x c n ws sy du H T o r k wh) := rfl
  unfold popE
  rw [hsh]
  simp only [hw, hv, hs]
  rw [if_pos ⟨hi, by decide⟩]
  rfl
theorem at_R {l : List (Int × Int)} {i : Int} (h0 : 0 ≤ i) (h1 : i < l.length) : ∃ v ∈ l, ixW (.lst (l.map rt)) (.int i) = some (rt v, false) ∧ (l.map rt)[i.toNat]? = some (rt v) := by
  have hk : i.toNat < l.length := by omega
  refine ⟨l[i.toNat], List.getElem_mem hk, ?_, by simp [hk]⟩
  have e : L2.ixN (l.map rt).length i = some i.toNat := by
    unfold L2.ixN
    rw [List.length_map]
    split <;> rename_i q <;> first | rfl | (split <;> first | rfl | omega) | omega
  show (L2.atI (l.map rt) i).map _ = _
  unfold L2.atI
  rw [e]
  simp [hk]
def xL : List (Int × Int) := [(1, 2), (1, 3), (0, 1), (3, 4), (1, 1)]
def cL : List (Int × Int) := [(0, 1), (1, 20), (1, 8), (1, 100)]
def pL : List (Int × Int) := [(0, 1), (1, 3), (1, 2), (2, 3), (1, 1), (3, 4)]
def xE : E := (.lst (.cons (.tup (.cons (.con (.int 1)) (.cons (.con (.int 2)) .nil))) (.cons (.tup (.cons (.con (.int 1)) (.cons (.con (.int 3)) .nil))) (.cons (.tup (.cons (.con (.int 0)) (.cons (.con (.int 1)) .nil))) (.cons (.tup (.cons (.con (.int 3)) (.cons (.con (.int 4)) .nil))) (.cons (.tup (.cons (.con (.int 1)) (.cons (.con (.int 1)) .nil))) .nil))))))
def cE : E := (.lst (.cons (.tup (.cons (.con (.int 0)) (.cons (.con (.int 1)) .nil))) (.cons (.tup (.cons (.con (.int 1)) (.cons (.con (.int 20)) .nil))) (.cons (.tup (.cons (.con (.int 1)) (.cons (.con (.int 8)) .nil))) (.cons (.tup (.cons (.con (.int 1)) (.cons (.con (.int 100)) .nil))) .nil)))))
def pE : E := (.lst (.cons (.tup (.cons (.con (.int 0)) (.cons (.con (.int 1)) .nil))) (.cons (.tup (.cons (.con (.int 1)) (.cons (.con (.int 3)) .nil))) (.cons (.tup (.cons (.con (.int 1)) (.cons (.con (.int 2)) .nil))) (.cons (.tup (.cons (.con (.int 2)) (.cons (.con (.int 3)) .nil))) (.cons (.tup (.cons (.con (.int 1)) (.cons (.con (.int 1)) .nil))) (.cons (.tup (.cons (.con (.int 3)) (.cons (.con (.int 4)) .nil))) .nil)))))))
theorem xE_ok (ρ : Py.Env) : (ev C xE).x ρ = .ok (.val (.lst (xL.map rt)) true) ρ := by
  have z2 := Py.sz2
  have z5 : 5 ≤ szL := by unfold szL; omega
  simp [Py.xs, Py.ev, Py.SO.thn, Py.wOf, Py.l1, Py.l2, Py.lL, Py.ress, Py.res, Py.ofO, Py.bW, Py.trO, Py.truth, Py.isTy, Py.callW, Py.shM, Py.shr, Py.shrs, Py.ioW, Py.ioB, Py.ofE, Py.asA, Py.setN, Py.fixA, Py.asAs, Py.retA, Py.ofS, Py.ioE, Py.stepV, Py.stepE, Py.asP, Py.wpE, Py.rsE, Py.lkE, Py.lkE1, Py.ulE, Py.ulE1, xE, xL, rt, z2, z5]
theorem cE_ok (ρ : Py.Env) : (ev C cE).x ρ = .ok (.val (.lst (cL.map rt)) true) ρ := by
  have z2 := Py.sz2
  have z4 := Py.sz4
  simp [Py.xs, Py.ev, Py.SO.thn, Py.wOf, Py.l1, Py.l2, Py.lL, Py.ress, Py.res, Py.ofO, Py.bW, Py.trO, Py.truth, Py.isTy, Py.callW, Py.shM, Py.shr, Py.shrs, Py.ioW, Py.ioB, Py.ofE, Py.asA, Py.setN, Py.fixA, Py.asAs, Py.retA, Py.ofS, Py.ioE, Py.stepV, Py.stepE, Py.asP, Py.wpE, Py.rsE, Py.lkE, Py.lkE1, Py.ulE, Py.ulE1, cE, cL, rt, z2, z4]
theorem pE_ok (ρ : Py.Env) : (ev C pE).x ρ = .ok (.val (.lst (pL.map rt)) true) ρ := by
  have z2 := Py.sz2
  have z6 : 6 ≤ szL := by unfold szL; omega
  simp [Py.xs, Py.ev, Py.SO.thn, Py.wOf, Py.l1, Py.l2, Py.lL, Py.ress, Py.res, Py.ofO, Py.bW, Py.trO, Py.truth, Py.isTy, Py.callW, Py.shM, Py.shr, Py.shrs, Py.ioW, Py.ioB, Py.ofE, Py.asA, Py.setN, Py.fixA, Py.asAs, Py.retA, Py.ofS, Py.ioE, Py.stepV, Py.stepE, Py.asP, Py.wpE, Py.rsE, Py.lkE, Py.lkE1, Py.ulE, Py.ulE1, pE, pL, rt, z2, z6]
theorem b2 (w w1 w2 L : W) (m i j : Int) (v u : W) (hq : plainS q = true) (hx : plainS x = true) (hl : biW .len [L] = some (.int m, false)) (h1 : C 16 [w, .int m] = .ret (.int i) false [w1]) (hv : ixW L (.int i) = some (v, false)) (h2 : C 16 [w1, .int 5] = .ret (.int j) false [w2]) (hu : ixW (.lst (xL.map rt)) (.int j) = some (u, false)) :
    xs C tk g B2 (eT s w L t p q x c n ws sy du H T o r k wh) = .nx (eT s w2 L t p (some (v, .sh)) (some (u, .sh)) c n ws sy du H T o r k wh) := by
  refine par2 C tk g (i := 5) (j := 6) (ρ1 := eT s w2 L t p q x c n ws sy du H T o r k wh) ?_ rfl rfl hq rfl hx
  have hE := xE_ok C
  show (ev C (.cons _ (.cons (.ix xE _) .nil))).a _ = _
  generalize xE = E1 at hE ⊢
  generalize W.lst (xL.map rt) = z at hE hu
  simp [Py.xs, Py.ev, Py.SO.thn, Py.wOf, Py.l1, Py.l2, Py.lL, Py.ress, Py.res, Py.ofO, Py.bW, Py.trO, Py.truth, Py.isTy, Py.callW, Py.shM, Py.shr, Py.shrs, Py.ioW, Py.ioB, Py.ofE, Py.asA, Py.setN, Py.fixA, Py.asAs, Py.retA, Py.ofS, Py.ioE, Py.stepV, Py.stepE, Py.asP, Py.wpE, Py.rsE, Py.lkE, Py.lkE1, Py.ulE, Py.ulE1, hl, h1, hv, h2, hE, hu]
theorem b3 (w w1 w2 L : W) (i j : Int) (u : W) (hq : plainS c = true) (hx : plainS n = true) (h1 : C 16 [w, .int 4] = .ret (.int i) false [w1]) (hu : ixW (.lst (cL.map rt)) (.int i) = some (u, false)) (h2 : C 16 [w1, .int 6] = .ret (.int j) false [w2]) :
    xs C tk g B3 (eT s w L t p q x c n ws sy du H T o r k wh) = .nx (eT s w2 L t p q x (some (u, .sh)) (some (.int j, .sh)) ws sy du H T o r k wh) := by
  refine par2 C tk g (i := 7) (j := 8) (ρ1 := eT s w2 L t p q x c n ws sy du H T o r k wh) ?_ rfl rfl hq rfl hx
  have hE := cE_ok C
  show (ev C (.cons (.ix cE _) (.cons _ .nil))).a _ = _
  generalize cE = E1 at hE ⊢
  generalize W.lst (cL.map rt) = z at hE hu
  simp [Py.xs, Py.ev, Py.SO.thn, Py.wOf, Py.l1, Py.l2, Py.lL, Py.ress, Py.res, Py.ofO, Py.bW, Py.trO, Py.truth, Py.isTy, Py.callW, Py.shM, Py.shr, Py.shrs, Py.ioW, Py.ioB, Py.ofE, Py.asA, Py.setN, Py.fixA, Py.asAs, Py.retA, Py.ofS, Py.ioE, Py.stepV, Py.stepE, Py.asP, Py.wpE, Py.rsE, Py.lkE, Py.lkE1, Py.ulE, Py.ulE1, h1, h2, hE, hu]
theorem b4 (w L xw ow : W) (dx : isD xw = false) (do_ : isD ow = false) (hy : plainS ws = true) (h : C 20 [.tup [.int 1, .int 1], xw] = .ret ow false []) :
    xs C tk g B4 (eT s w L t p q (some (xw, .sh)) c n ws sy du H T o r k wh) = .nx (eT s w L t p q (some (xw, .sh)) c n (some (.tup [xw, ow], .sh)) sy du H T o r k wh) := by
  refine asn_pl C tk g (i := 9) (ρ1 := eT s w L t p q (some (xw, .sh)) c n ws sy du H T o r k wh) ?_ rfl hy
  have z2 := Py.sz2
  simp [Py.xs, Py.ev, Py.SO.thn, Py.wOf, Py.l1, Py.l2, Py.lL, Py.ress, Py.res, Py.ofO, Py.bW, Py.trO, Py.truth, Py.isTy, Py.callW, Py.shM, Py.shr, Py.shrs, Py.ioW, Py.ioB, Py.ofE, Py.asA, Py.setN, Py.fixA, Py.asAs, Py.retA, Py.ofS, Py.ioE, Py.stepV, Py.stepE, Py.asP, Py.wpE, Py.rsE, Py.lkE, Py.lkE1, Py.ulE, Py.ulE1, h, dx, do_, z2]
theorem b5 (w L pw qw xw cw ww : W) (nn : Int) (v : Int × Int) (d1 : isD pw = false) (d2 : isD qw = false) (d3 : isD xw = false) (d4 : isD cw = false) (d5 : isD ww = false) (h1 : C 12 [pw, qw, xw, cw, .int nn] = .ret (rt v) false []) (h2 : C 24 [pw, qw, ww, cw, .int nn] = .ret (rt v) false []) :
    xs C tk g B5 (eT s w L t (some (pw, .sh)) (some (qw, .sh)) (some (xw, .sh)) (some (cw, .sh)) (some (.int nn, .sh)) (some (ww, .sh)) sy du H T o r k wh) = .nx (eT s w L t (some (pw, .sh)) (some (qw, .sh)) (some (xw, .sh)) (some (cw, .sh)) (some (.int nn, .sh)) (some (ww, .sh)) sy du H T o r k wh) := by
  have e1 := ne_rt v
  have ty : isTy .tuple (rt v) = true := rfl
  have dv := isD_rt v
  refine (ite_no C tk g (ρ1 := eT s w L t (some (pw, .sh)) (some (qw, .sh)) (some (xw, .sh)) (some (cw, .sh)) (some (.int nn, .sh)) (some (ww, .sh)) sy du H T o r k wh) ?_).trans rfl
  have ty2 : ∀ u, isTy .tuple (rt v) = u → u = true := fun u e => by rw [← e]; rfl
  show _ = _
  obtain ⟨v1, v2⟩ := v
  simp only [rt] at h1 h2 e1 dv
  simp [Py.xs, Py.ev, Py.SO.thn, Py.wOf, Py.l1, Py.l2, Py.lL, Py.ress, Py.res, Py.ofO, Py.bW, Py.trO, Py.truth, Py.isTy, Py.callW, Py.shM, Py.shr, Py.shrs, Py.ioW, Py.ioB, Py.ofE, Py.asA, Py.setN, Py.fixA, Py.asAs, Py.retA, Py.ofS, Py.ioE, Py.stepV, Py.stepE, Py.asP, Py.wpE, Py.rsE, Py.lkE, Py.lkE1, Py.ulE, Py.ulE1, h1, h2, e1, d1, d2, d3, d4, d5]
theorem b6 (w L xw : W) (b : Bool) (dx : isD xw = false) (hy : plainS sy = true) (h : C 22 [xw, .tup [.int 1, .int 2]] = .ret (.bl b) false []) :
    xs C tk g B6 (eT s w L t p q (some (xw, .sh)) c n ws sy du H T o r k wh) = .nx (eT s w L t p q (some (xw, .sh)) c n ws (some (if b then .str [113] else .str [112], .sh)) du H T o r k wh) := by
  refine asn_pl C tk g (i := 10) (ρ1 := eT s w L t p q (some (xw, .sh)) c n ws sy du H T o r k wh) ?_ rfl hy
  have z2 := Py.sz2
  cases b <;> simp [Py.xs, Py.ev, Py.SO.thn, Py.wOf, Py.l1, Py.l2, Py.lL, Py.ress, Py.res, Py.ofO, Py.bW, Py.trO, Py.truth, Py.isTy, Py.callW, Py.shM, Py.shr, Py.shrs, Py.ioW, Py.ioB, Py.ofE, Py.asA, Py.setN, Py.fixA, Py.asAs, Py.retA, Py.ofS, Py.ioE, Py.stepV, Py.stepE, Py.asP, Py.wpE, Py.rsE, Py.lkE, Py.lkE1, Py.ulE, Py.ulE1, h, dx, z2]
theorem b7z (w L pw qw xw cw ww sw : W) (hy : plainS du = true) (ds : isD sw = false) :
    xs C tk g B7 (eT s w L t (some (pw, .sh)) (some (qw, .sh)) (some (xw, .sh)) (some (cw, .sh)) (some (.int 0, .sh)) (some (ww, .sh)) (some (sw, .sh)) du H T o r k wh) = .nx (eT s w L t (some (pw, .sh)) (some (qw, .sh)) (some (xw, .sh)) (some (cw, .sh)) (some (.int 0, .sh)) (some (ww, .sh)) (some (sw, .sh)) (some (sw, .sh)) H T o r k wh) := by
  have hs := set_pl (ρ := eT s w L t (some (pw, .sh)) (some (qw, .sh)) (some (xw, .sh)) (some (cw, .sh)) (some (.int 0, .sh)) (some (ww, .sh)) (some (sw, .sh)) du H T o r k wh) (i := 11) (y := du) rfl hy sw .sh
  exact congrArg ofE hs
theorem b7 (w L pw qw xw cw w0 w1 tw mw sw : W) (nn : Int) (hn : 0 < nn) (b : Bool) (hy : plainS du = true) (d1 : isD pw = false) (d2 : isD qw = false) (d4 : isD cw = false) (d5 : isD w0 = false) (d6 : isD w1 = false) (d7 : isD tw = false) (d8 : isD mw = false)
    (h1 : C 25 [pw, qw, .tup [w0, w1], cw, .int nn] = .ret tw false []) (h2 : C 23 [.lst [w0, w1], .int (-1)] = .ret mw false []) (h3 : C 22 [tw, mw] = .ret (.bl b) false []) :
    xs C tk g B7 (eT s w L t (some (pw, .sh)) (some (qw, .sh)) (some (xw, .sh)) (some (cw, .sh)) (some (.int nn, .sh)) (some (.tup [w0, w1], .sh)) (some (sw, .sh)) du H T o r k wh) = .nx (eT s w L t (some (pw, .sh)) (some (qw, .sh)) (some (xw, .sh)) (some (cw, .sh)) (some (.int nn, .sh)) (some (.tup [w0, w1], .sh)) (some (sw, .sh)) (some (if b then .str [116, 111, 115, 115] else sw, .sh)) H T o r k wh) := by
  have e1 : cmpW .gt (.int nn) (.int 0) = some true := by show some (decide _) = _; rw [decide_eq_true hn]
  have hb : biW .list [.tup [w0, w1]] = some (.lst [w0, w1], true) := rfl
  have ht : (ev C (.and (.cmp .gt (.var 8) (.con (.int 0))) (.call 22 [false, false] (.cons (.call 25 [false, false, false, false, false] (.cons (.var 4) (.cons (.var 5) (.cons (.var 9) (.cons (.var 7) (.cons (.var 8) .nil)))))) (.cons (.call 23 [false, false] (.cons (.bi .list (.cons (.var 9) .nil)) (.cons (.neg (.con (.int 1))) .nil))) .nil))))).t (eT s w L t (some (pw, .sh)) (some (qw, .sh)) (some (xw, .sh)) (some (cw, .sh)) (some (.int nn, .sh)) (some (.tup [w0, w1], .sh)) (some (sw, .sh)) du H T o r k wh) = .ok b (eT s w L t (some (pw, .sh)) (some (qw, .sh)) (some (xw, .sh)) (some (cw, .sh)) (some (.int nn, .sh)) (some (.tup [w0, w1], .sh)) (some (sw, .sh)) du H T o r k wh) := by
    simp [Py.xs, Py.ev, Py.SO.thn, Py.wOf, Py.l1, Py.l2, Py.lL, Py.ress, Py.res, Py.ofO, Py.bW, Py.trO, Py.truth, Py.isTy, Py.callW, Py.shM, Py.shr, Py.shrs, Py.ioW, Py.ioB, Py.ofE, Py.asA, Py.setN, Py.fixA, Py.asAs, Py.retA, Py.ofS, Py.ioE, Py.stepV, Py.stepE, Py.asP, Py.wpE, Py.rsE, Py.lkE, Py.lkE1, Py.ulE, Py.ulE1, e1, hb, h1, h2, h3, d1, d2, d4, d7, d8]
  have e : ∀ (c a b' : E) (ρ : Py.Env), (ev C (.ite c a b')).x ρ = ((ev C c).t ρ).bind fun k ρ1 => if k then (ev C a).x ρ1 else (ev C b').x ρ1 := fun _ _ _ _ => rfl
  cases b with
  | true =>
    refine asn_pl C tk g (i := 11) (ρ1 := eT s w L t (some (pw, .sh)) (some (qw, .sh)) (some (xw, .sh)) (some (cw, .sh)) (some (.int nn, .sh)) (some (.tup [w0, w1], .sh)) (some (sw, .sh)) du H T o r k wh) ?_ rfl hy
    rw [e, ht]
    rfl
  | false =>
    have hs := set_pl (ρ := eT s w L t (some (pw, .sh)) (some (qw, .sh)) (some (xw, .sh)) (some (cw, .sh)) (some (.int nn, .sh)) (some (.tup [w0, w1], .sh)) (some (sw, .sh)) du H T o r k wh) (i := 11) (y := du) rfl hy sw .sh
    have e2 : ∀ (i : Nat) (E0 : E) (ρ : Py.Env), xs C tk g (.asn i E0) ρ = SO.bnd ((ev C E0).x ρ) fun a ρ1 => ofE (asA i a ρ1) := fun _ _ _ => rfl
    unfold B7
    rw [e2, e, ht]
    exact congrArg ofE hs
theorem ne_str (z : Cs) : cmpW .ne (.str z) (.str z) = some false := by
  show (if eqOk (.str z) (.str z) then some (!eqW (.str z) (.str z)) else none) = _
  rw [if_pos (show eqOk (.str z) (.str z) = true from rfl)]
  simp [eqW]
theorem b8 (w L pw qw xw cw : W) (nn : Int) (z : Cs) (d1 : isD pw = false) (d2 : isD qw = false) (d3 : isD xw = false) (d4 : isD cw = false) (h1 : C 13 [pw, qw, xw, cw, .int nn] = .ret (.str z) false []) :
    xs C tk g B8 (eT s w L t (some (pw, .sh)) (some (qw, .sh)) (some (xw, .sh)) (some (cw, .sh)) (some (.int nn, .sh)) ws sy (some (.str z, .sh)) H T o r k wh) = .nx (eT s w L t (some (pw, .sh)) (some (qw, .sh)) (some (xw, .sh)) (some (cw, .sh)) (some (.int nn, .sh)) ws sy (some (.str z, .sh)) H T o r k wh) := by
  have e1 := ne_str z
  refine (ite_no C tk g (ρ1 := eT s w L t (some (pw, .sh)) (some (qw, .sh)) (some (xw, .sh)) (some (cw, .sh)) (some (.int nn, .sh)) ws sy (some (.str z, .sh)) H T o r k wh) ?_).trans rfl
  simp [Py.xs, Py.ev, Py.SO.thn, Py.wOf, Py.l1, Py.l2, Py.lL, Py.ress, Py.res, Py.ofO, Py.bW, Py.trO, Py.truth, Py.isTy, Py.callW, Py.shM, Py.shr, Py.shrs, Py.ioW, Py.ioB, Py.ofE, Py.asA, Py.setN, Py.fixA, Py.asAs, Py.retA, Py.ofS, Py.ioE, Py.stepV, Py.stepE, Py.asP, Py.wpE, Py.rsE, Py.lkE, Py.lkE1, Py.ulE, Py.ulE1, h1, e1, d1, d2, d3, d4]
theorem b9 (w w1 w2 L : W) (i j : Int) (hq : plainS H = true) (hx : plainS T = true) (h1 : C 16 [w, .int 4] = .ret (.int i) false [w1]) (h2 : C 16 [w1, .int 4] = .ret (.int j) false [w2]) :
    xs C tk g B9 (eT s w L t p q x c n ws sy du H T o r k wh) = .nx (eT s w2 L t p q x c n ws sy du (some (.int i, .sh)) (some (.int j, .sh)) o r k wh) := by
  refine par2 C tk g (i := 12) (j := 13) (ρ1 := eT s w2 L t p q x c n ws sy du H T o r k wh) ?_ rfl rfl hq rfl hx
  simp [Py.xs, Py.ev, Py.SO.thn, Py.wOf, Py.l1, Py.l2, Py.lL, Py.ress, Py.res, Py.ofO, Py.bW, Py.trO, Py.truth, Py.isTy, Py.callW, Py.shM, Py.shr, Py.shrs, Py.ioW, Py.ioB, Py.ofE, Py.asA, Py.setN, Py.fixA, Py.asAs, Py.retA, Py.ofS, Py.ioE, Py.stepV, Py.stepE, Py.asP, Py.wpE, Py.rsE, Py.lkE, Py.lkE1, Py.ulE, Py.ulE1, h1, h2]
theorem b10 (w L w0 w1 : W) (hq : plainS o = true) (hx : plainS r = true) :
    xs C tk g B10 (eT s w L t p q x c n (some (.tup [w0, w1], .sh)) sy du H T o r k wh) = .nx (eT s w L t p q x c n (some (.tup [w0, w1], .sh)) sy du H T (some (w0, .sh)) (some (w1, .sh)) k wh) := by
  match o, hq, r, hx with
  | none, _, none, _ => rfl
  | none, _, some (_, .sh), _ => rfl
  | some (_, .sh), _, none, _ => rfl
  | some (_, .sh), _, some (_, .sh), _ => rfl
def hB : S := (.seq (.par [14, 15] (.cons (.call 19 [false, false] (.cons (.var 14) (.cons (.var 4) .nil))) (.cons (.call 19 [false, false] (.cons (.var 15) (.cons (.var 5) .nil))) .nil))) .nil)
def tB' : S := (.seq (.par [14, 15] (.cons (.call 19 [false, false] (.cons (.var 14) (.cons (.call 20 [false, false] (.cons (.tup (.cons (.con (.int 1)) (.cons (.con (.int 1)) .nil))) (.cons (.var 4) .nil))) .nil))) (.cons (.call 19 [false, false] (.cons (.var 15) (.cons (.call 20 [false, false] (.cons (.tup (.cons (.con (.int 1)) (.cons (.con (.int 1)) .nil))) (.cons (.var 5) .nil))) .nil))) .nil))) .nil)
theorem B11_is : B11 = .for_ (.n 16) .rng (.cons (.var 12) .nil) hB := rfl
theorem B12_is : B12 = .for_ (.n 16) .rng (.cons (.var 13) .nil) tB' := rfl
theorem b11s (w L pw qw a b a' b' : W) (d1 : isD pw = false) (d2 : isD qw = false) (d3 : isD a = false) (d4 : isD b = false) (h1 : C 19 [a, pw] = .ret a' false []) (h2 : C 19 [b, qw] = .ret b' false []) :
    xs C tk g hB (eT s w L t (some (pw, .sh)) (some (qw, .sh)) x c n ws sy du H T (some (a, .sh)) (some (b, .sh)) k wh) = .nx (eT s w L t (some (pw, .sh)) (some (qw, .sh)) x c n ws sy du H T (some (a', .sh)) (some (b', .sh)) k wh) := by
  refine (seq_nx (par2 C tk g (i := 14) (j := 15) (ρ1 := eT s w L t (some (pw, .sh)) (some (qw, .sh)) x c n ws sy du H T (some (a, .sh)) (some (b, .sh)) k wh) ?_ rfl rfl rfl rfl rfl)).trans rfl
  simp [Py.xs, Py.ev, Py.SO.thn, Py.wOf, Py.l1, Py.l2, Py.lL, Py.ress, Py.res, Py.ofO, Py.bW, Py.trO, Py.truth, Py.isTy, Py.callW, Py.shM, Py.shr, Py.shrs, Py.ioW, Py.ioB, Py.ofE, Py.asA, Py.setN, Py.fixA, Py.asAs, Py.retA, Py.ofS, Py.ioE, Py.stepV, Py.stepE, Py.asP, Py.wpE, Py.rsE, Py.lkE, Py.lkE1, Py.ulE, Py.ulE1, h1, h2, d1, d2, d3, d4]
theorem b12s (w L pw qw a b a' b' pm qm : W) (d1 : isD pw = false) (d2 : isD qw = false) (d3 : isD a = false) (d4 : isD b = false) (d5 : isD pm = false) (d6 : isD qm = false) (h3 : C 20 [.tup [.int 1, .int 1], pw] = .ret pm false []) (h4 : C 20 [.tup [.int 1, .int 1], qw] = .ret qm false []) (h1 : C 19 [a, pm] = .ret a' false []) (h2 : C 19 [b, qm] = .ret b' false []) :
    xs C tk g tB' (eT s w L t (some (pw, .sh)) (some (qw, .sh)) x c n ws sy du H T (some (a, .sh)) (some (b, .sh)) k wh) = .nx (eT s w L t (some (pw, .sh)) (some (qw, .sh)) x c n ws sy du H T (some (a', .sh)) (some (b', .sh)) k wh) := by
  refine (seq_nx (par2 C tk g (i := 14) (j := 15) (ρ1 := eT s w L t (some (pw, .sh)) (some (qw, .sh)) x c n ws sy du H T (some (a, .sh)) (some (b, .sh)) k wh) ?_ rfl rfl rfl rfl rfl)).trans rfl
  have z2 := Py.sz2
  simp [Py.xs, Py.ev, Py.SO.thn, Py.wOf, Py.l1, Py.l2, Py.lL, Py.ress, Py.res, Py.ofO, Py.bW, Py.trO, Py.truth, Py.isTy, Py.callW, Py.shM, Py.shr, Py.shrs, Py.ioW, Py.ioB, Py.ofE, Py.asA, Py.setN, Py.fixA, Py.asAs, Py.retA, Py.ofS, Py.ioE, Py.stepV, Py.stepE, Py.asP, Py.wpE, Py.rsE, Py.lkE, Py.lkE1, Py.ulE, Py.ulE1, h1, h2, h3, h4, d1, d2, d3, d4, d5, d6, z2]
theorem b13 (w L a b u : W) (d3 : isD a = false) (d4 : isD b = false) (hy : plainS wh = true) (h : C 18 [a, b] = .ret u false []) :
    xs C tk g B13 (eT s w L t p q x c n ws sy du H T (some (a, .sh)) (some (b, .sh)) k wh) = .nx (eT s w L t p q x c n ws sy du H T (some (a, .sh)) (some (b, .sh)) k (some (u, .sh))) := by
  refine asn_pl C tk g (i := 17) (ρ1 := eT s w L t p q x c n ws sy du H T (some (a, .sh)) (some (b, .sh)) k wh) ?_ rfl hy
  simp [Py.xs, Py.ev, Py.SO.thn, Py.wOf, Py.l1, Py.l2, Py.lL, Py.ress, Py.res, Py.ofO, Py.bW, Py.trO, Py.truth, Py.isTy, Py.callW, Py.shM, Py.shr, Py.shrs, Py.ioW, Py.ioB, Py.ofE, Py.asA, Py.setN, Py.fixA, Py.asAs, Py.retA, Py.ofS, Py.ioE, Py.stepV, Py.stepE, Py.asP, Py.wpE, Py.rsE, Py.lkE, Py.lkE1, Py.ulE, Py.ulE1, h, d3, d4]
theorem b14 (w L pw qw xw a u v : W) (i j : Int) (b : Bool) (d1 : isD pw = false) (d2 : isD qw = false) (d3 : isD xw = false) (d4 : isD a = false) (d5 : isD u = false) (h1 : C 26 [pw, qw, xw, .int i, .int j] = .ret (if b then v else .non) false []) (hb : cmpW .ne u (.tup [.int 0, .int 1]) = some b) (h2 : b = true → C 21 [a, u] = .ret v false []) (hv : cmpW .ne v v = some false) :
    xs C tk g B14 (eT s w L t (some (pw, .sh)) (some (qw, .sh)) (some (xw, .sh)) c n ws sy du (some (.int i, .sh)) (some (.int j, .sh)) (some (a, .sh)) r k (some (u, .sh))) = .nx (eT s w L t (some (pw, .sh)) (some (qw, .sh)) (some (xw, .sh)) c n ws sy du (some (.int i, .sh)) (some (.int j, .sh)) (some (a, .sh)) r k (some (u, .sh))) := by
  refine (ite_no C tk g (ρ1 := eT s w L t (some (pw, .sh)) (some (qw, .sh)) (some (xw, .sh)) c n ws sy du (some (.int i, .sh)) (some (.int j, .sh)) (some (a, .sh)) r k (some (u, .sh))) ?_).trans rfl
  have z2 := Py.sz2
  have hn : cmpW .ne .non .non = some false := rfl
  cases b with
  | true =>
    have h2 := h2 rfl
    simp [Py.xs, Py.ev, Py.SO.thn, Py.wOf, Py.l1, Py.l2, Py.lL, Py.ress, Py.res, Py.ofO, Py.bW, Py.trO, Py.truth, Py.isTy, Py.callW, Py.shM, Py.shr, Py.shrs, Py.ioW, Py.ioB, Py.ofE, Py.asA, Py.setN, Py.fixA, Py.asAs, Py.retA, Py.ofS, Py.ioE, Py.stepV, Py.stepE, Py.asP, Py.wpE, Py.rsE, Py.lkE, Py.lkE1, Py.ulE, Py.ulE1, h1, h2, hb, hv, d1, d2, d3, d4, d5, z2]
  | false =>
    simp [Py.xs, Py.ev, Py.SO.thn, Py.wOf, Py.l1, Py.l2, Py.lL, Py.ress, Py.res, Py.ofO, Py.bW, Py.trO, Py.truth, Py.isTy, Py.callW, Py.shM, Py.shr, Py.shrs, Py.ioW, Py.ioB, Py.ofE, Py.asA, Py.setN, Py.fixA, Py.asAs, Py.retA, Py.ofS, Py.ioE, Py.stepV, Py.stepE, Py.asP, Py.wpE, Py.rsE, Py.lkE, Py.lkE1, Py.ulE, Py.ulE1, h1, hb, hn, d1, d2, d3, z2]
end
end K36

set_option exponentiation.threshold 10000
namespace K36
open PySem PySem.Spec PyProof.Rows L2 Py
/-! ### the turn -/
def Gd (m : Int) (c : Int × Int) : Prop := ∃ n d : Int, c = low n d ∧ 0 ≤ n ∧ n ≤ d ∧ 1 ≤ d ∧ d ≤ m
theorem gd_p : ∀ c ∈ pL, Gd 4 c := by
  intro c hc
  simp only [pL, List.mem_cons, List.not_mem_nil, or_false] at hc
  rcases hc with rfl | rfl | rfl | rfl | rfl | rfl
  · exact ⟨0, 1, by decide, by decide, by decide, by decide, by decide⟩
  · exact ⟨1, 3, by decide, by decide, by decide, by decide, by decide⟩
  · exact ⟨1, 2, by decide, by decide, by decide, by decide, by decide⟩
  · exact ⟨2, 3, by decide, by decide, by decide, by decide, by decide⟩
  · exact ⟨1, 1, by decide, by decide, by decide, by decide, by decide⟩
  · exact ⟨3, 4, by decide, by decide, by decide, by decide, by decide⟩
theorem gd_x : ∀ c ∈ xL, Gd 4 c := by
  intro c hc
  simp only [xL, List.mem_cons, List.not_mem_nil, or_false] at hc
  rcases hc with rfl | rfl | rfl | rfl | rfl
  · exact ⟨1, 2, by decide, by decide, by decide, by decide, by decide⟩
  · exact ⟨1, 3, by decide, by decide, by decide, by decide, by decide⟩
  · exact ⟨0, 1, by decide, by decide, by decide, by decide, by decide⟩
  · exact ⟨3, 4, by decide, by decide, by decide, by decide, by decide⟩
  · exact ⟨1, 1, by decide, by decide, by decide, by decide, by decide⟩
theorem gd_c : ∀ c ∈ cL, Gd 100 c := by
  intro c hc
  simp only [cL, List.mem_cons, List.not_mem_nil, or_false] at hc
  rcases hc with rfl | rfl | rfl | rfl
  · exact ⟨0, 1, by decide, by decide, by decide, by decide, by decide⟩
  · exact ⟨1, 20, by decide, by decide, by decide, by decide, by decide⟩
  · exact ⟨1, 8, by decide, by decide, by decide, by decide, by decide⟩
  · exact ⟨1, 100, by decide, by decide, by decide, by decide, by decide⟩
theorem tk_at {d : Nat} (hd' : 1 ≤ d) (w : W) (m : Int) (hw : DW w) (h0 : 0 < m) (h1 : m ≤ 100) : ∃ r w', 0 ≤ r ∧ r < m ∧ DW w' ∧ rn d 16 [w, .int m] = .ret (.int r) false [w'] := by
  obtain ⟨d, rfl⟩ : ∃ e, d = e + 1 := ⟨d - 1, by omega⟩
  show ∃ r w', 0 ≤ r ∧ r < m ∧ DW w' ∧ run fsd tkL gg (d + 1) 16 _ = _
  rw [run_at (fd := FD_tk) rfl rfl]
  exact tk_ok _ _ _ hw h0 (sm_of_lt (Nat.lt_of_lt_of_le (show m.natAbs < 2 ^ 7 by omega) (by decide +kernel)) (by decide))
section
variable {P : Pm} (h : Ok P)
include h
theorem la_at {d k : Nat} (hd' : 8 ≤ d) (H T : Nat) (hH : H ≤ 3) (hT : T ≤ 3) (hk : k ≤ 100) {A S : Int} (a0 : 0 ≤ A) (a1 : A ≤ S) (s0 : 0 < S) (sS : Sz k S) {u M : Int} (hu : u = fA P (List.replicate H true ++ List.replicate T false) A + fB P (List.replicate H true ++ List.replicate T false) (S - A)) :
    rn d 26 [rt P.p, rt P.q, rt (low A S), .int H, .int T] = .ret (if (!decide (u = 0)) then rt (low (fA P (List.replicate H true ++ List.replicate T false) A) u) else .non) false [] := by
  obtain ⟨d, rfl⟩ : ∃ e, d = e + 1 := ⟨d - 1, by omega⟩
  have e := pa_at h (d := d) (k := k) (by omega) H T hH hT hk a0 a1 s0 sS
  simp only at e
  rw [← hu] at e
  show run fsd tkL gg (d + 1) 26 _ = _
  rw [run_at (fd := I__law_after.fd) rfl rfl]
  by_cases hc : u = 0
  · rw [if_pos hc] at e
    rw [decide_eq_true hc]
    exact la_ex (rn d) gg _ _ _ _ _ rfl rfl rfl e
  · rw [if_neg hc] at e
    rw [decide_eq_false hc]
    exact la_ret (rn d) gg _ _ _ _ _ _ rfl rfl rfl e
/-- the weights behind heads -/
theorem heads_at {d : Nat} (hd' : 5 ≤ d) (s t x c n ws sy du H T wh : Y) (w L : W) {k A B M : Int} {kk : Nat} (hk : kk ≤ 100) (m0 : 0 < M) (sA : Sz kk A) (sB : Sz kk B) (sM : Sz kk M) (N : Nat) (hN : N ≤ 3) (y : Y) (hy : plainS y = true) :
    ∃ y', plainS y' = true ∧ forL (stF (rn d) tkL gg (.n 16) hB) (rngL N 0) (eT s w L t (some (rt P.p, .sh)) (some (rt P.q, .sh)) x c n ws sy du H T (some (rt (low A M), .sh)) (some (rt (low B M), .sh)) y wh) =
      .nx (eT s w L t (some (rt P.p, .sh)) (some (rt P.q, .sh)) x c n ws sy du H T (some (rt (low (fA P (List.replicate N true) A) (fM P N M)), .sh)) (some (rt (low (fB P (List.replicate N true) B) (fM P N M)), .sh)) y' wh) := by
  obtain ⟨ρ', e1, i, y', hi, h1, h2⟩ := forL_rng (step := stF (rn d) tkL gg (.n 16) hB) (I := fun i ρ => ∃ (j : Nat) (y : Y), i = j ∧ plainS y = true ∧ ρ = eT s w L t (some (rt P.p, .sh)) (some (rt P.q, .sh)) x c n ws sy du H T (some (rt (low (fA P (List.replicate j true) A) (fM P j M)), .sh)) (some (rt (low (fB P (List.replicate j true) B) (fM P j M)), .sh)) y wh) N (a := 0) (ρ := eT s w L t (some (rt P.p, .sh)) (some (rt P.q, .sh)) x c n ws sy du H T (some (rt (low A M), .sh)) (some (rt (low B M), .sh)) y wh)
    (fun i ρ i0 i1 ⟨j, y, hj, hy, hρ⟩ => by
      subst hρ hj
      have hj3 : j ≤ 3 := by omega
      have ea : asP (.n 16) (.int (j : Int)) (eT s w L t (some (rt P.p, .sh)) (some (rt P.q, .sh)) x c n ws sy du H T (some (rt (low (fA P (List.replicate j true) A) (fM P j M)), .sh)) (some (rt (low (fB P (List.replicate j true) B) (fM P j M)), .sh)) y wh) = some (eT s w L t (some (rt P.p, .sh)) (some (rt P.q, .sh)) x c n ws sy du H T (some (rt (low (fA P (List.replicate j true) A) (fM P j M)), .sh)) (some (rt (low (fB P (List.replicate j true) B) (fM P j M)), .sh)) (some (.int (j : Int), .sh)) wh) := by
        match y, hy with
        | none, _ => rfl
        | some (_, .sh), _ => rfl
      have zA := (fA_sz h (List.replicate j true) sA).up (m := kk + 30) (by simp; omega)
      have zB := (fB_sz h (List.replicate j true) sB).up (m := kk + 30) (by simp; omega)
      have zM := (fM_sz h j sM).up (m := kk + 30) (by omega)
      have m1 := fM_pos h j m0
      have p2 := h.p2
      have q2 := h.q2
      have sp : Sz 3 P.pn := sz3 h.p0 (by have := h.p1; have := h.p3; omega)
      have spd : Sz 3 P.pd := sz3 (by omega) h.p3
      have sq : Sz 3 P.qn := sz3 h.q0 (by have := h.q1; have := h.q3; omega)
      have sqd : Sz 3 P.qd := sz3 (by omega) h.q3
      have M1 : fM P (j + 1) M = fM P j M * P.D := by rw [fM_add]; rfl
      have A1 : fA P (List.replicate (j + 1) true) A = P.hA (fA P (List.replicate j true) A) := by rw [List.replicate_succ', fA_app]; rfl
      have B1 : fB P (List.replicate (j + 1) true) B = P.hB (fB P (List.replicate j true) B) := by rw [List.replicate_succ', fB_app]; rfl
      have D0 := D_pos h
      have hb := b11s (rn d) tkL gg s t x c n ws sy du H T (some (.int (j : Int), .sh)) wh w L (rt P.p) (rt P.q) _ _ (rt (low (fA P (List.replicate (j + 1) true) A) (fM P (j + 1) M))) (rt (low (fB P (List.replicate (j + 1) true) B) (fM P (j + 1) M))) rfl rfl rfl rfl
        (o19 (d := d) hd' (by omega) (by omega) m1 (by omega) zA zM sp spd (by rw [A1, M1]; exact low_x (Int.mul_pos m1 (by omega)) (Int.mul_pos m1 D0) (by unfold Pm.hA Pm.D; grind)))
        (o19 (d := d) hd' (by omega) (by omega) m1 (by omega) zB zM sq sqd (by rw [B1, M1]; exact low_x (Int.mul_pos m1 (by omega)) (Int.mul_pos m1 D0) (by unfold Pm.hB Pm.D; grind)))
      exact ⟨_, (stF_ok ea).trans hb, j + 1, some (.int (j : Int), .sh), by omega, rfl, rfl⟩) ⟨0, y, rfl, hy, rfl⟩
  obtain rfl : i = N := by omega
  exact ⟨y', h1, by rw [e1, h2]⟩
theorem tails_at {d : Nat} (hd' : 5 ≤ d) (s t x c n ws sy du H T wh : Y) (w L : W) {k A B M : Int} {kk : Nat} (hk : kk ≤ 100) (m0 : 0 < M) (sA : Sz kk A) (sB : Sz kk B) (sM : Sz kk M) (N : Nat) (hN : N ≤ 3) (y : Y) (hy : plainS y = true) :
    ∃ y', plainS y' = true ∧ forL (stF (rn d) tkL gg (.n 16) tB') (rngL N 0) (eT s w L t (some (rt P.p, .sh)) (some (rt P.q, .sh)) x c n ws sy du H T (some (rt (low A M), .sh)) (some (rt (low B M), .sh)) y wh) =
      .nx (eT s w L t (some (rt P.p, .sh)) (some (rt P.q, .sh)) x c n ws sy du H T (some (rt (low (fA P (List.replicate N false) A) (fM P N M)), .sh)) (some (rt (low (fB P (List.replicate N false) B) (fM P N M)), .sh)) y' wh) := by
  obtain ⟨ρ', e1, i, y', hi, h1, h2⟩ := forL_rng (step := stF (rn d) tkL gg (.n 16) tB') (I := fun i ρ => ∃ (j : Nat) (y : Y), i = j ∧ plainS y = true ∧ ρ = eT s w L t (some (rt P.p, .sh)) (some (rt P.q, .sh)) x c n ws sy du H T (some (rt (low (fA P (List.replicate j false) A) (fM P j M)), .sh)) (some (rt (low (fB P (List.replicate j false) B) (fM P j M)), .sh)) y wh) N (a := 0) (ρ := eT s w L t (some (rt P.p, .sh)) (some (rt P.q, .sh)) x c n ws sy du H T (some (rt (low A M), .sh)) (some (rt (low B M), .sh)) y wh)
    (fun i ρ i0 i1 ⟨j, y, hj, hy, hρ⟩ => by
      subst hρ hj
      have hj3 : j ≤ 3 := by omega
      have ea : asP (.n 16) (.int (j : Int)) (eT s w L t (some (rt P.p, .sh)) (some (rt P.q, .sh)) x c n ws sy du H T (some (rt (low (fA P (List.replicate j false) A) (fM P j M)), .sh)) (some (rt (low (fB P (List.replicate j false) B) (fM P j M)), .sh)) y wh) = some (eT s w L t (some (rt P.p, .sh)) (some (rt P.q, .sh)) x c n ws sy du H T (some (rt (low (fA P (List.replicate j false) A) (fM P j M)), .sh)) (some (rt (low (fB P (List.replicate j false) B) (fM P j M)), .sh)) (some (.int (j : Int), .sh)) wh) := by
        match y, hy with
        | none, _ => rfl
        | some (_, .sh), _ => rfl
      have zA := (fA_sz h (List.replicate j false) sA).up (m := kk + 30) (by simp; omega)
      have zB := (fB_sz h (List.replicate j false) sB).up (m := kk + 30) (by simp; omega)
      have zM := (fM_sz h j sM).up (m := kk + 30) (by omega)
      have m1 := fM_pos h j m0
      have p2 := h.p2
      have q2 := h.q2
      have sp : Sz 3 P.pn := sz3 h.p0 (by have := h.p1; have := h.p3; omega)
      have spd : Sz 3 P.pd := sz3 (by omega) h.p3
      have sq : Sz 3 P.qn := sz3 h.q0 (by have := h.q1; have := h.q3; omega)
      have sqd : Sz 3 P.qd := sz3 (by omega) h.q3
      have spm : Sz 3 (P.pd - P.pn) := sz3 (by have := h.p1; omega) (by have := h.p0; have := h.p3; omega)
      have sqm : Sz 3 (P.qd - P.qn) := sz3 (by have := h.q1; omega) (by have := h.q0; have := h.q3; omega)
      have M1 : fM P (j + 1) M = fM P j M * P.D := by rw [fM_add]; rfl
      have A1 : fA P (List.replicate (j + 1) false) A = P.tA (fA P (List.replicate j false) A) := by rw [List.replicate_succ', fA_app]; rfl
      have B1 : fB P (List.replicate (j + 1) false) B = P.tB (fB P (List.replicate j false) B) := by rw [List.replicate_succ', fB_app]; rfl
      have D0 := D_pos h
      have hb := b12s (rn d) tkL gg s t x c n ws sy du H T (some (.int (j : Int), .sh)) wh w L (rt P.p) (rt P.q) _ _ (rt (low (fA P (List.replicate (j + 1) false) A) (fM P (j + 1) M))) (rt (low (fB P (List.replicate (j + 1) false) B) (fM P (j + 1) M))) (rt (low (P.pd - P.pn) P.pd)) (rt (low (P.qd - P.qn) P.qd)) rfl rfl rfl rfl rfl rfl
        (by rw [one_low]; exact o20 (d := d) hd' (by decide) (by omega) (by decide) (by omega) sz1 sz1 sp spd (low_x (Int.mul_pos (by decide) (by omega)) (by omega) (by grind)))
        (by rw [one_low]; exact o20 (d := d) hd' (by decide) (by omega) (by decide) (by omega) sz1 sz1 sq sqd (low_x (Int.mul_pos (by decide) (by omega)) (by omega) (by grind)))
        (o19 (d := d) hd' (by omega) (by omega) m1 (by omega) zA zM spm spd (by rw [A1, M1]; exact low_x (Int.mul_pos m1 (by omega)) (Int.mul_pos m1 D0) (by unfold Pm.tA Pm.D; grind)))
        (o19 (d := d) hd' (by omega) (by omega) m1 (by omega) zB zM sqm sqd (by rw [B1, M1]; exact low_x (Int.mul_pos m1 (by omega)) (Int.mul_pos m1 D0) (by unfold Pm.tB Pm.D; grind)))
      exact ⟨_, (stF_ok ea).trans hb, j + 1, some (.int (j : Int), .sh), by omega, rfl, rfl⟩) ⟨0, y, rfl, hy, rfl⟩
  obtain rfl : i = N := by omega
  exact ⟨y', h1, by rw [e1, h2]⟩
end
end K36

set_option exponentiation.threshold 10000
namespace K36
open PySem PySem.Spec PyProof.Rows L2 Py
theorem rng_s {ρ : Py.Env} {k i : Nat} {f : Fl} (e : wOf ρ i = some (.int (k : Int), f)) (h : k ≤ 1000) : (ress ρ [.slot i]).bind (itW .rng) = some (rngL k 0) := by
  have e : ress ρ [.slot i] = some [.int (k : Int)] := by simp [ress, res, e]
  rw [e, Option.bind_some]
  show (if okR (k : Int) = true ∧ (k : Int) ≤ szL then some (rngL (k : Int).toNat 0) else none) = _
  rw [if_pos ⟨decide_eq_true ⟨by omega, by omega⟩, by unfold szL; omega⟩]
  rfl
theorem rng_b {ρ : Py.Env} {k : Nat} {fr : Bool} (h : k ≤ 1000) : (ress ρ [.val (.int (k : Int)) fr]).bind (itW .rng) = some (rngL k 0) := by
  have e : ress ρ [.val (.int (k : Int)) fr] = some [.int (k : Int)] := rfl
  rw [e, Option.bind_some]
  show (if okR (k : Int) = true ∧ (k : Int) ≤ szL then some (rngL (k : Int).toNat 0) else none) = _
  rw [if_pos ⟨decide_eq_true ⟨by omega, by omega⟩, by unfold szL; omega⟩]
  rfl
theorem er_map {α β : Type} (f : α → β) : ∀ (l : List α) (i : Nat), (l.map f).eraseIdx i = (l.eraseIdx i).map f
  | [], _ => rfl
  | a :: l, 0 => rfl
  | a :: l, i + 1 => by simp [er_map f l i]
theorem len_R (l : List (Int × Int)) : biW .len [.lst (l.map rt)] = some (.int (l.length : Nat), false) := by
  show some (W.int ((l.map rt).length : Nat), false) = _
  rw [List.length_map]
theorem due_z (s t H T o r k wh du : Y) (hy : plainS du = true) {P : Pm} (h : Ok P) {d : Nat} (hd' : 30 ≤ d) {A S : Int} (a0 : 0 ≤ A) (a1 : A ≤ S) (s0 : 0 < S) (sS : Sz 3 S) (w L : W) (N : Nat) (hN : N ≤ 5) :
    ∃ z : Cs, rn d 13 [rt P.p, rt P.q, rt (low A S), rt P.c, .int N] = .ret (.str z) false [] ∧
      xs (rn d) tkL gg B7 (eT s w L t (some (rt P.p, .sh)) (some (rt P.q, .sh)) (some (rt (low A S), .sh)) (some (rt P.c, .sh)) (some (.int N, .sh)) (some (.tup [rt (low A S), rt (low (S - A) S)], .sh)) (some (if decide (A * 2 < 1 * S) then .str [113] else .str [112], .sh)) du H T o r k wh) = .nx (eT s w L t (some (rt P.p, .sh)) (some (rt P.q, .sh)) (some (rt (low A S), .sh)) (some (rt P.c, .sh)) (some (.int N, .sh)) (some (.tup [rt (low A S), rt (low (S - A) S)], .sh)) (some (if decide (A * 2 < 1 * S) then .str [113] else .str [112], .sh)) (some (.str z, .sh)) H T o r k wh) := by
  have sA : Sz 3 A := Sz.le a0 a1 sS
  have sB : Sz 3 (S - A) := Sz.le (by omega) (by omega) sS
  have b0 : 0 ≤ S - A := by omega
  have hsay : ∀ b : Bool, ∃ z : Cs, (if b then W.str [113] else .str [112]) = .str z := fun b => by cases b; exact ⟨_, rfl⟩; exact ⟨_, rfl⟩
  obtain ⟨z0, hz0⟩ := hsay (decide (A * 2 < 1 * S))
  cases N with
  | zero =>
    refine ⟨z0, ?_, ?_⟩
    · have e := tn_at0 h (d := d) (k := 3) (by omega) (by decide) s0 sA sS false
      rw [← hz0]
      exact e
    · rw [hz0]
      exact b7z (rn d) tkL gg s t du H T o r k wh w L _ _ _ _ _ (.str z0) hy rfl
  | succ m =>
    have e := tn_at h (d := d) (k := 3) (n := m) (by omega) (by omega) (by omega) a0 a1 s0 sS
    have dn0 := dn_pos h (m + 1) s0
    have h1 := lt_at h (n := m) (k := 3) (d := d) (by omega) (by omega) a0 b0 s0 sA sB sS
    have h2 := o23 (d := d) (k := 3) (by omega) (by decide) s0 sA sB sS
    have h3 := o22 (d := d) (k := 6 * m + 3 + 30) (m := 3) (by omega) (by omega) (by decide) dn0 s0 ((TT_sz h m a0 b0 sA sB).up (by omega)) ((dn_sz h (m + 1) sS).up (by omega)) (Sz.le (mn_nn a0 b0) (mn_le1 A (S - A)) sA) sS
    have x7 := b7 (rn d) tkL gg s t du H T o r k wh w L (rt P.p) (rt P.q) (rt (low A S)) (rt P.c) (rt (low A S)) (rt (low (S - A) S)) _ _ (.str z0) ((m + 1 : Nat) : Int) (by omega) _ hy rfl rfl rfl rfl rfl rfl rfl h1 h2 h3
    rw [hz0]
    generalize decide (TT P m A (S - A) * S < mn A (S - A) * (P.cd * P.E (m + 1) * S)) = b at e x7
    have hp : decide ((0 : Int) < ((m + 1 : Nat) : Int)) = true := decide_eq_true (by omega)
    unfold nxW at e
    rw [hp, hz0] at e
    cases b with
    | true => exact ⟨_, e, x7⟩
    | false => exact ⟨z0, e, x7⟩
theorem turn_ok {d : Nat} (hd' : 30 ≤ d) (s : Y) (w : W) (hw : DW w) (l : List (Int × Int)) (hl : ∀ c ∈ l, Gd 4 c) (l2 : 2 ≤ l.length) (l3 : l.length ≤ 100) (t p q x c n ws sy du H T o r k wh : Y) (hP : [p, q, x, c, n, ws, sy, du, H, T, o, r, k, wh].all plainS = true) :
    ∃ (w' : W) (l' : List (Int × Int)) (p' q' x' c' n' ws' sy' du' H' T' o' r' k' wh' : Y), DW w' ∧ (∀ c ∈ l', Gd 4 c) ∧ l'.length + 1 = l.length ∧ [p', q', x', c', n', ws', sy', du', H', T', o', r', k', wh'].all plainS = true ∧
      xs (rn d) tkL gg LB (eT s w (.lst (l.map rt)) t p q x c n ws sy du H T o r k wh) = .nx (eT s w' (.lst (l'.map rt)) t p' q' x' c' n' ws' sy' du' H' T' o' r' k' wh') := by
  simp only [List.all_cons, List.all_nil, Bool.and_true, Bool.and_eq_true] at hP
  obtain ⟨hp, hq, hx, hc, hn, hws, hsy, hdu, hH, hT, ho, hr, hk, hwh⟩ := hP
  obtain ⟨i, w1, i0, i1, hw1, e1⟩ := tk_at (d := d) (by omega) w (l.length : Nat) hw (by omega) (by omega)
  obtain ⟨v, hv, _, hv2⟩ := at_R (l := l) i0 i1
  have x1 := b1 (rn d) tkL gg s t p q x c n ws sy du H T o r k wh w w1 (rt v) (l.map rt) (l.length : Nat) i hp (len_R l) e1 ⟨i0, by rw [List.length_map]; exact i1⟩ hv2
  rw [er_map] at x1
  have hlen : (l.eraseIdx i.toNat).length + 1 = l.length := by
    rw [List.length_eraseIdx_of_lt (by omega)]; omega
  have hl1 : ∀ c ∈ l.eraseIdx i.toNat, Gd 4 c := fun c hc => hl c (List.mem_of_mem_eraseIdx hc)
  generalize l.eraseIdx i.toNat = l1 at x1 hlen hl1
  obtain ⟨j, w2, j0, j1, hw2, e2⟩ := tk_at (d := d) (by omega) w1 (l1.length : Nat) hw1 (by omega) (by omega)
  obtain ⟨u, hu, hu1, _⟩ := at_R (l := l1) j0 j1
  obtain ⟨f, w3, f0, f1, hw3, e3⟩ := tk_at (d := d) (by omega) w2 5 hw2 (by decide) (by decide)
  obtain ⟨y, hyx, hy1, _⟩ := at_R (l := xL) f0 f1
  have x2 := b2 (rn d) tkL gg s t (some (rt v, .sh)) q x c n ws sy du H T o r k wh w1 w2 w3 (.lst (l1.map rt)) (l1.length : Nat) j f (rt u) (rt y) hq hx (len_R l1) e2 hu1 e3 hy1
  obtain ⟨a, w4, a0', a1', hw4, e4⟩ := tk_at (d := d) (by omega) w3 4 hw3 (by decide) (by decide)
  obtain ⟨cc, hcc, hc1, _⟩ := at_R (l := cL) a0' a1'
  obtain ⟨N, w5, N0, N1, hw5, e5⟩ := tk_at (d := d) (by omega) w4 6 hw4 (by decide) (by decide)
  obtain ⟨N, rfl⟩ : ∃ m : Nat, N = m := ⟨N.toNat, by omega⟩
  have x3 := b3 (rn d) tkL gg s t (some (rt v, .sh)) (some (rt u, .sh)) (some (rt y, .sh)) c n ws sy du H T o r k wh w3 w4 w5 (.lst (l1.map rt)) a N (rt cc) hc hn e4 hc1 e5
  obtain ⟨pn, pd, ep, p0, p1, p2, p3⟩ := hl v hv
  obtain ⟨qn, qd, eq, q0, q1, q2, q3⟩ := hl1 u hu
  obtain ⟨A, S, ex, a0, a1, s1, s3⟩ := gd_x y hyx
  obtain ⟨cn, cd, ec, c0, c1', c2, c3⟩ := gd_c cc hcc
  have h : Ok ⟨pn, pd, qn, qd, cn, cd⟩ := ⟨p0, p1, p2, p3, q0, q1, q2, q3, c0, c1', c2, c3⟩
  generalize hPm : (⟨pn, pd, qn, qd, cn, cd⟩ : Pm) = P at h
  have ep' : v = P.p := by rw [ep, ← hPm]; rfl
  have eq' : u = P.q := by rw [eq, ← hPm]; rfl
  have ec' : cc = P.c := by rw [ec, ← hPm]; rfl
  rw [ep'] at x1 x2 x3
  rw [eq', ex] at x2
  rw [eq', ex, ec'] at x3
  have s0 : 0 < S := by omega
  have sS : Sz 3 S := sz3 (by omega) s3
  have sA : Sz 3 A := Sz.le a0 a1 sS
  have sB : Sz 3 (S - A) := Sz.le (by omega) (by omega) sS
  have b0 : 0 ≤ S - A := by omega
  have x4 := b4 (rn d) tkL gg s t (some (rt P.p, .sh)) (some (rt P.q, .sh)) (some (rt P.c, .sh)) (some (.int N, .sh)) ws sy du H T o r k wh w5 (.lst (l1.map rt)) (rt (low A S)) (rt (low (S - A) S)) rfl rfl hws
    (by rw [one_low]; exact o20 (d := d) (by omega) (by decide) (by decide) (by decide) s0 sz1 sz1 sA sS (low_x (Int.mul_pos (by decide) s0) s0 (by grind)))
  have x5 := b5 (rn d) tkL gg s t sy du H T o r k wh w5 (.lst (l1.map rt)) (rt P.p) (rt P.q) (rt (low A S)) (rt P.c) (.tup [rt (low A S), rt (low (S - A) S)]) N _ rfl rfl rfl rfl rfl
    (tw_at h (d := d) (k := 3) (n := N) (by omega) (by omega) (by omega) a0 a1 s0 sS) (lc_at h N 3 d A (S - A) S (by omega) (by omega) a0 b0 s0 sA sB sS)
  have x6 := b6 (rn d) tkL gg s t (some (rt P.p, .sh)) (some (rt P.q, .sh)) (some (rt P.c, .sh)) (some (.int N, .sh)) (some (.tup [rt (low A S), rt (low (S - A) S)], .sh)) sy du H T o r k wh w5 (.lst (l1.map rt)) (rt (low A S)) (decide (A * 2 < 1 * S)) rfl hsy
    (by rw [half_low]; exact o22 (d := d) (k := 3) (m := 2) (by omega) (by decide) (by decide) s0 (by decide) sA sS (sz1.up (by decide)) (show (2 : Int).natAbs < 4 by decide))
  obtain ⟨z, x8', x7⟩ := due_z s t H T o r k wh du hdu h hd' a0 a1 s0 sS w5 (.lst (l1.map rt)) N (by omega)
  generalize hsay : (some (if decide (A * 2 < 1 * S) then W.str [113] else .str [112], Fl.sh) : Y) = say at x6 x7
  have x8 := b8 (rn d) tkL gg s t (some (.tup [rt (low A S), rt (low (S - A) S)], .sh)) say H T o r k wh w5 (.lst (l1.map rt)) (rt P.p) (rt P.q) (rt (low A S)) (rt P.c) N z rfl rfl rfl rfl x8'
  obtain ⟨hh, w6, h0, h1, hw6, e6⟩ := tk_at (d := d) (by omega) w5 4 hw5 (by decide) (by decide)
  obtain ⟨tt, w7, t0, t1, hw7, e7⟩ := tk_at (d := d) (by omega) w6 4 hw6 (by decide) (by decide)
  obtain ⟨hh, rfl⟩ : ∃ m : Nat, hh = m := ⟨hh.toNat, by omega⟩
  obtain ⟨tt, rfl⟩ : ∃ m : Nat, tt = m := ⟨tt.toNat, by omega⟩
  have x9 := b9 (rn d) tkL gg s t (some (rt P.p, .sh)) (some (rt P.q, .sh)) (some (rt (low A S), .sh)) (some (rt P.c, .sh)) (some (.int N, .sh)) (some (.tup [rt (low A S), rt (low (S - A) S)], .sh)) say (some (.str z, .sh)) H T o r k wh w5 w6 w7 (.lst (l1.map rt)) hh tt hH hT e6 e7
  have x10 := b10 (rn d) tkL gg s t (some (rt P.p, .sh)) (some (rt P.q, .sh)) (some (rt (low A S), .sh)) (some (rt P.c, .sh)) (some (.int N, .sh)) say (some (.str z, .sh)) (some (.int hh, .sh)) (some (.int tt, .sh)) o r k wh w7 (.lst (l1.map rt)) (rt (low A S)) (rt (low (S - A) S)) ho hr
  obtain ⟨y1, hy1', f11⟩ := heads_at h (d := d) (by omega) s t (some (rt (low A S), .sh)) (some (rt P.c, .sh)) (some (.int N, .sh)) (some (.tup [rt (low A S), rt (low (S - A) S)], .sh)) say (some (.str z, .sh)) (some (.int hh, .sh)) (some (.int tt, .sh)) wh w7 (.lst (l1.map rt)) (k := 0) (kk := 3) (by decide) s0 sA sB sS hh (by omega) k hk
  have x11 : xs (rn d) tkL gg B11 (eT s w7 (.lst (l1.map rt)) t (some (rt P.p, .sh)) (some (rt P.q, .sh)) (some (rt (low A S), .sh)) (some (rt P.c, .sh)) (some (.int N, .sh)) (some (.tup [rt (low A S), rt (low (S - A) S)], .sh)) say (some (.str z, .sh)) (some (.int hh, .sh)) (some (.int tt, .sh)) (some (rt (low A S), .sh)) (some (rt (low (S - A) S), .sh)) k wh) =
      .nx (eT s w7 (.lst (l1.map rt)) t (some (rt P.p, .sh)) (some (rt P.q, .sh)) (some (rt (low A S), .sh)) (some (rt P.c, .sh)) (some (.int N, .sh)) (some (.tup [rt (low A S), rt (low (S - A) S)], .sh)) say (some (.str z, .sh)) (some (.int hh, .sh)) (some (.int tt, .sh)) (some (rt (low (fA P (List.replicate hh true) A) (fM P hh S)), .sh)) (some (rt (low (fB P (List.replicate hh true) (S - A)) (fM P hh S)), .sh)) y1 wh) := by
    rw [B11_is, for_ok (us := [.slot 12]) rfl (rng_s (k := hh) (f := .sh) rfl (by omega))]
    refine (congrArg (SO.mapE _) f11).trans ?_
    rfl
  have zA := (fA_sz h (List.replicate hh true) sA).up (m := 30) (by simp; omega)
  have zB := (fB_sz h (List.replicate hh true) sB).up (m := 30) (by simp; omega)
  have zM := (fM_sz h hh sS).up (m := 30) (by omega)
  have m1 := fM_pos h hh s0
  obtain ⟨y2, hy2', f12⟩ := tails_at h (d := d) (by omega) s t (some (rt (low A S), .sh)) (some (rt P.c, .sh)) (some (.int N, .sh)) (some (.tup [rt (low A S), rt (low (S - A) S)], .sh)) say (some (.str z, .sh)) (some (.int hh, .sh)) (some (.int tt, .sh)) wh w7 (.lst (l1.map rt)) (k := 0) (kk := 30) (by decide) m1 zA zB zM tt (by omega) y1 hy1'
  rw [← fA_app, ← fB_app] at f12
  have zA2 := (fA_sz h (List.replicate hh true ++ List.replicate tt false) sA).up (m := 60) (by simp; omega)
  have zB2 := (fB_sz h (List.replicate hh true ++ List.replicate tt false) sB).up (m := 60) (by simp; omega)
  have zM2 := (fM_sz h tt zM).up (m := 60) (by omega)
  have m2 := fM_pos h tt m1
  have nA := fA_nn h (List.replicate hh true ++ List.replicate tt false) a0
  have nB := fB_nn h (List.replicate hh true ++ List.replicate tt false) b0
  have x14' := la_at h (d := d) (k := 3) (by omega) hh tt (by omega) (by omega) (by decide) a0 a1 s0 sS (M := 0) rfl
  have x12 : xs (rn d) tkL gg B12 (eT s w7 (.lst (l1.map rt)) t (some (rt P.p, .sh)) (some (rt P.q, .sh)) (some (rt (low A S), .sh)) (some (rt P.c, .sh)) (some (.int N, .sh)) (some (.tup [rt (low A S), rt (low (S - A) S)], .sh)) say (some (.str z, .sh)) (some (.int hh, .sh)) (some (.int tt, .sh)) (some (rt (low (fA P (List.replicate hh true) A) (fM P hh S)), .sh)) (some (rt (low (fB P (List.replicate hh true) (S - A)) (fM P hh S)), .sh)) y1 wh) =
      .nx (eT s w7 (.lst (l1.map rt)) t (some (rt P.p, .sh)) (some (rt P.q, .sh)) (some (rt (low A S), .sh)) (some (rt P.c, .sh)) (some (.int N, .sh)) (some (.tup [rt (low A S), rt (low (S - A) S)], .sh)) say (some (.str z, .sh)) (some (.int hh, .sh)) (some (.int tt, .sh)) (some (rt (low (fA P (List.replicate hh true ++ List.replicate tt false) A) (fM P tt (fM P hh S))), .sh)) (some (rt (low (fB P (List.replicate hh true ++ List.replicate tt false) (S - A)) (fM P tt (fM P hh S))), .sh)) y2 wh) := by
    rw [B12_is, for_ok (us := [.slot 13]) rfl (rng_s (k := tt) (f := .sh) rfl (by omega))]
    refine (congrArg (SO.mapE _) f12).trans ?_
    rfl
  generalize fA P (List.replicate hh true ++ List.replicate tt false) A = Af at x12 x14' zA2 nA
  generalize fB P (List.replicate hh true ++ List.replicate tt false) (S - A) = Bf at x12 x14' zB2 nB
  generalize fM P tt (fM P hh S) = Mf at x12 zM2 m2
  have x13 := b13 (rn d) tkL gg s t (some (rt P.p, .sh)) (some (rt P.q, .sh)) (some (rt (low A S), .sh)) (some (rt P.c, .sh)) (some (.int N, .sh)) (some (.tup [rt (low A S), rt (low (S - A) S)], .sh)) say (some (.str z, .sh)) (some (.int hh, .sh)) (some (.int tt, .sh)) y2 wh w7 (.lst (l1.map rt)) (rt (low Af Mf)) (rt (low Bf Mf)) (rt (low (Af + Bf) Mf)) rfl rfl hwh
    (o18 (d := d) (by omega) (by decide) (by decide) m2 m2 zA2 zM2 zB2 zM2 (low_x (Int.mul_pos m2 m2) m2 (by grind)))
  have x14 := b14 (rn d) tkL gg s t (some (rt P.c, .sh)) (some (.int N, .sh)) (some (.tup [rt (low A S), rt (low (S - A) S)], .sh)) say (some (.str z, .sh)) (some (rt (low Bf Mf), .sh)) y2 w7 (.lst (l1.map rt)) (rt P.p) (rt P.q) (rt (low A S)) (rt (low Af Mf)) (rt (low (Af + Bf) Mf)) (rt (low Af (Af + Bf))) hh tt (!decide (Af + Bf = 0)) rfl rfl rfl rfl rfl x14' (ne0_low m2)
    (fun hb => by
      have hb : Af + Bf ≠ 0 := by simpa using hb
      have hp : 0 < Af + Bf := by omega
      exact o21 (d := d) (k := 60) (m := 61) (by omega) (by decide) (by decide) m2 m2 zA2 zM2 (zA2.add zB2) (zM2.up (by decide)) hp (low_x (Int.mul_pos m2 hp) hp (by grind))) (ne_rt _)
  have key : xs (rn d) tkL gg LB (eT s w (.lst (l.map rt)) t p q x c n ws sy du H T o r k wh) = .nx (eT s w7 (.lst (l1.map rt)) t (some (rt P.p, .sh)) (some (rt P.q, .sh)) (some (rt (low A S), .sh)) (some (rt P.c, .sh)) (some (.int N, .sh)) (some (.tup [rt (low A S), rt (low (S - A) S)], .sh)) say (some (.str z, .sh)) (some (.int hh, .sh)) (some (.int tt, .sh)) (some (rt (low Af Mf), .sh)) (some (rt (low Bf Mf), .sh)) y2 (some (rt (low (Af + Bf) Mf), .sh))) := by
    unfold LB
    rw [seq_nx x1, seq_nx x2, seq_nx x3, seq_nx x4, seq_nx x5, seq_nx x6, seq_nx x7, seq_nx x8, seq_nx x9, seq_nx x10, seq_nx x11, seq_nx x12, seq_nx x13]
    exact (seq_nx x14).trans rfl
  refine ⟨w7, l1, _, _, _, _, _, _, _, _, _, _, _, _, _, _, hw7, hl1, hlen, ?_, key⟩
  rw [← hsay]
  simp only [List.all_cons, List.all_nil, hy2', Bool.and_true]
  rfl
end K36

set_option exponentiation.threshold 10000
namespace K36
open PySem PySem.Spec PyProof.Rows L2 Py
theorem l4 (s w L t p q x c n ws sy du H T o r k wh : Y) : ofS I_law.fd (xs (rn 39) tkL gg (.seq L4 .nil) [s, w, L, t, p, q, x, c, n, ws, sy, du, H, T, o, r, k, wh]) = .ret (.bl true) false [] := by kernel_rfl
end K36

set_option exponentiation.threshold 10000
namespace K36
open PySem PySem.Spec PyProof.Rows L2 Py
theorem turns_ok {d : Nat} (hd' : 30 ≤ d) (s : Y) (w : W) (hw : DW w) : ∃ (w' L t p q x c n ws sy du H T o r k wh : Y), xs (rn d) tkL gg (.for_ (.n 3) .rng (.cons (.con (.int 3)) .nil) LB) (eT s w (.lst (pL.map rt)) none none none none none none none none none none none none none none none) = .nx [s, w', L, t, p, q, x, c, n, ws, sy, du, H, T, o, r, k, wh] := by
  obtain ⟨w1, l1, p1, q1, x1, c1, n1, ws1, sy1, du1, H1, T1, o1, r1, k1, wh1, hw1, g1, z1, P1, e1⟩ := turn_ok hd' s w hw pL gd_p (by decide) (by decide) (some (.int 0, .sh)) none none none none none none none none none none none none none none rfl
  have z1 : l1.length = 5 := by have : pL.length = 6 := rfl; omega
  obtain ⟨w2, l2, p2, q2, x2, c2, n2, ws2, sy2, du2, H2, T2, o2, r2, k2, wh2, hw2, g2, z2, P2, e2⟩ := turn_ok hd' s w1 hw1 l1 g1 (by omega) (by omega) (some (.int 1, .sh)) p1 q1 x1 c1 n1 ws1 sy1 du1 H1 T1 o1 r1 k1 wh1 P1
  obtain ⟨w3, l3, p3, q3, x3, c3, n3, ws3, sy3, du3, H3, T3, o3, r3, k3, wh3, hw3, g3, z3, P3, e3⟩ := turn_ok hd' s w2 hw2 l2 g2 (by omega) (by omega) (some (.int 2, .sh)) p2 q2 x2 c2 n2 ws2 sy2 du2 H2 T2 o2 r2 k2 wh2 P2
  refine ⟨some (w3, .own), some (.lst (l3.map rt), .own), some (.int 2, .sh), p3, q3, x3, c3, n3, ws3, sy3, du3, H3, T3, o3, r3, k3, wh3, ?_⟩
  have a1 : stF (rn d) tkL gg (.n 3) LB (.int 0) (eT s w (.lst (pL.map rt)) none none none none none none none none none none none none none none none) = .nx (eT s w1 (.lst (l1.map rt)) (some (.int 0, .sh)) p1 q1 x1 c1 n1 ws1 sy1 du1 H1 T1 o1 r1 k1 wh1) := (stF_ok rfl).trans e1
  have a2 : stF (rn d) tkL gg (.n 3) LB (.int 1) (eT s w1 (.lst (l1.map rt)) (some (.int 0, .sh)) p1 q1 x1 c1 n1 ws1 sy1 du1 H1 T1 o1 r1 k1 wh1) = .nx (eT s w2 (.lst (l2.map rt)) (some (.int 1, .sh)) p2 q2 x2 c2 n2 ws2 sy2 du2 H2 T2 o2 r2 k2 wh2) := (stF_ok rfl).trans e2
  have a3 : stF (rn d) tkL gg (.n 3) LB (.int 2) (eT s w2 (.lst (l2.map rt)) (some (.int 1, .sh)) p2 q2 x2 c2 n2 ws2 sy2 du2 H2 T2 o2 r2 k2 wh2) = .nx (eT s w3 (.lst (l3.map rt)) (some (.int 2, .sh)) p3 q3 x3 c3 n3 ws3 sy3 du3 H3 T3 o3 r3 k3 wh3) := (stF_ok rfl).trans e3
  have hb : (ress (eT s w (.lst (pL.map rt)) none none none none none none none none none none none none none none none) [.val (.int 3) false]).bind (itW .rng) = some [.int 0, .int 1, .int 2] := rng_b (k := 3) (by decide)
  have a4 : forL (stF (rn d) tkL gg (.n 3) LB) [.int 0, .int 1, .int 2] (eT s w (.lst (pL.map rt)) none none none none none none none none none none none none none none none) = .nx (eT s w3 (.lst (l3.map rt)) (some (.int 2, .sh)) p3 q3 x3 c3 n3 ws3 sy3 du3 H3 T3 o3 r3 k3 wh3) := by
    simp only [forL, a1, a2, a3]
  rw [for_ok (ρ1 := eT s w (.lst (pL.map rt)) none none none none none none none none none none none none none none none) (us := [.val (.int 3) false]) rfl hb]
  refine (congrArg (SO.mapE _) a4).trans ?_
  rfl
theorem law_d {d : Nat} (hd' : 30 ≤ d) (ns : List Int) (hz : ns.length ≤ 63) (hl : ∀ (s w L t p q x c n ws sy du H T o r k wh : Y), ofS I_law.fd (xs (rn d) tkL gg (.seq L4 .nil) [s, w, L, t, p, q, x, c, n, ws, sy, du, H, T, o, r, k, wh]) = .ret (.bl true) false []) :
    ofS I_law.fd (xs (rn d) tkL gg S_law [some (.lst (ns.map W.int), .sh), none, none, none, none, none, none, none, none, none, none, none, none, none, none, none, none, none]) = .ret (.bl true) false [] := by
  have h15 : ∃ w, DW w ∧ rn d 15 [.lst (ns.map W.int)] = .ret w true [] := by
    obtain ⟨d, rfl⟩ : ∃ e, d = e + 1 := ⟨d - 1, by omega⟩
    show ∃ w, DW w ∧ run fsd tkL gg (d + 1) 15 _ = _
    rw [run_at (fd := FD_dr) rfl rfl]
    exact dr_ok _ _ _ hz
  obtain ⟨w, hw, e0⟩ := h15
  have x1 : xs (rn d) tkL gg L1 [some (.lst (ns.map W.int), .sh), none, none, none, none, none, none, none, none, none, none, none, none, none, none, none, none, none] = .nx [some (.lst (ns.map W.int), .sh), some (w, .own), none, none, none, none, none, none, none, none, none, none, none, none, none, none, none, none] := by
    generalize W.lst (ns.map W.int) = z at e0 ⊢
    simp [Py.xs, Py.ev, Py.SO.thn, Py.wOf, Py.l1, Py.l2, Py.lL, Py.ress, Py.res, Py.ofO, Py.bW, Py.trO, Py.truth, Py.isTy, Py.callW, Py.shM, Py.shr, Py.shrs, Py.ioW, Py.ioB, Py.ofE, Py.asA, Py.setN, Py.fixA, Py.asAs, Py.retA, Py.ofS, Py.ioE, Py.stepV, Py.stepE, Py.asP, Py.wpE, Py.rsE, Py.lkE, Py.lkE1, Py.ulE, Py.ulE1, L1, e0]
  have x2 : xs (rn d) tkL gg K36.L2 [some (.lst (ns.map W.int), .sh), some (w, .own), none, none, none, none, none, none, none, none, none, none, none, none, none, none, none, none] = .nx (eT (some (.lst (ns.map W.int), .sh)) w (.lst (pL.map rt)) none none none none none none none none none none none none none none none) :=
    asn_ok (rn d) tkL gg (i := 2) (pE_ok (rn d) _) rfl
  obtain ⟨w', L, t, p, q, x, c, n, ws, sy, du, H, T, o, r, k, wh, x3⟩ := turns_ok hd' (some (.lst (ns.map W.int), .sh)) w hw
  rw [law_is, seq_nx x1, seq_nx x2, seq_nx x3]
  exact hl _ _ _ _ _ _ _ _ _ _ _ _ _ _ _ _ _ _
theorem law_true (ns : List Int) (hz : ns.length ≤ 63) : ∃ g, lawFn g 27 [.lst (ns.map W.int)] = .ret (.bl true) false [] := by
  refine ⟨gg, ?_⟩
  show run fsd tkL gg (39 + 1) 27 _ = _
  rw [run_at (fd := I_law.fd) rfl rfl]
  exact law_d (d := 39) (by decide) ns hz l4
end K36

open PySem PySem.W PySem.Calls PyProof.Rows
theorem PySem.Challenge.cw_worthstopping_k36_tosses_that_test_two_c_holds : PySem.Challenge.rw_worthstopping_k36_tosses_that_test_two_c.Holds := by
  w_on; o_law
  refine HandSHeadRun.head_any (r := OpenLaw.row PySem.Challenge.rw_worthstopping_k36_tosses_that_test_two_c) (q := view (OpenLaw.row PySem.Challenge.rw_worthstopping_k36_tosses_that_test_two_c).prog [36]) (H := K36.hk) (ob := K36.ob) (M := 3000) (loose := K36.looseL) (d := HandSHeadRun.topDef (OpenLaw.row PySem.Challenge.rw_worthstopping_k36_tosses_that_test_two_c).prog 36) (kwd := []) K36.ob_eq
    (by kernel_rfl) (fun s => by kernel_rfl) K36.runs (by kernel_rfl) (by kernel_rfl) (by kernel_rfl) (by rfl) (by first | assumption | decide +kernel) (by decide +kernel) ⟨rfl, rfl, rfl, rfl, rfl, by decide +kernel⟩ ?hw ?hc
  case hw => w_witness2
  case hc =>
    refine L2.walk_ofE (l := PySem.Challenge.rw_worthstopping_k36_tosses_that_test_two_c) (n := 63) (k := 40) (x := "script") (CX := L2.CX0) rfl (by decide) (by kernel_rfl) ⟨rfl, by decide, by decide⟩ ?F (fun _ _ _ _ z => z)
    intro w mg fa h Y G hm0
    obtain ⟨K, KX, c⟩ := Y
    have hm : mg ("law" : PySem.Str) = some (.ref fa) := by
      have e : (HandSHeadRun.topDef (OpenLaw.row PySem.Challenge.rw_worthstopping_k36_tosses_that_test_two_c).prog 36).name = ("law" : PySem.Str) := by kernel_rfl
      rw [← e]
      exact hm0
    letI : Py.HW := ⟨(PySem.Challenge.rw_worthstopping_k36_tosses_that_test_two_c).prog, w⟩
    obtain ⟨hl, fd, hb, hF⟩ := K36.facts (P := (PySem.Challenge.rw_worthstopping_k36_tosses_that_test_two_c).prog) (w := w) ⟨rfl, rfl⟩ KX G hm c
    refine ⟨K, fd, K36.spLaw K, KX, hb, fun H a ns hn _ hS => ?_, hF⟩
    obtain ⟨g, hg⟩ := K36.law_true ns hn
    exact ⟨g, Py.spF_law rfl rfl (by decide) hl (Nat.le_trans hn (by decide)) hS hg⟩

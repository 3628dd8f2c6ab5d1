import PyProof.Rows.All
import Wide.All
import OpenK.AllK
import Wide.FinOn
import HandS.ForMost
import HandS.ForExc
import KE.KDictKeyed
import HandS.TupAny
import HandS.TupMul
import HandS.Deep
import HandS.IsInst
import HandS.Wide
import HandS.Dict
import PyProof.DictRoadsH
import PyProof.Rows.TupTab
import HandS.Flow
import HandS.Style
import HandS.Zip
import HandS.Rev
import KE.GoesMore
import KE.GoesEnum
import KE.KDictWalk
import HandS.Iter
import HandS.Set
import HandS.SetFor
import HandS.More
import HandS.SortInts
import KE.KDictSum
import KE.KDictList
import KE.KDictItemsList
import HandS.ListItems
import HandS.Conv
import HandS.HeadHook2
import HandS.TryOnly
import HandS.ExcOwn
import HandS.WordsExc
import HandS.HeadHook1
import HandS.Defaults
import HandS.Head0
import HandS.Head1
import HandS.Head2
import HandS.HeadEnd
import Lean
import PySem.Challenge.RW_worthstopping_k21_spreads_of_gains
set_option Elab.async false
set_option linter.all false
set_option autoImplicit false
set_option maxRecDepth 100000
set_option maxHeartbeats 0
/-! A small evaluator over trees for the part of Python that these programs use: lists and dicts are values, each name that holds one says whether it is the only one that does (own), so that a change in place is a change of the name's value. -/
namespace Py
open PySem

abbrev Cs := List Nat

inductive W where
  | non | bl (b : Bool) | int (i : Int) | str (s : Cs) | tup (xs : List W) | lst (xs : List W) | dct (kvs : List (W × W)) | st (xs : List W)

mutual
def eqW : W → W → Bool
  | .non, .non => true
  | .bl a, .bl b => a == b
  | .bl a, .int j => (if a then 1 else 0) == j
  | .int i, .bl b => i == (if b then 1 else 0)
  | .int i, .int j => i == j
  | .str x, .str y => x == y
  | .lst xs, .lst ys => eqWs xs ys
  | .tup xs, .tup ys => eqWs xs ys
  | _, _ => false
def eqWs : List W → List W → Bool
  | [], [] => true
  | x :: xs, y :: ys => eqW x y && eqWs xs ys
  | _, _ => false
end
mutual
/-- how deep; of what == is not served: too deep -/
def dep : W → Nat
  | .lst xs => deps xs + 1
  | .tup xs => deps xs + 1
  | .dct _ => 1000
  | .st _ => 1000
  | _ => 0
def deps : List W → Nat
  | [] => 0
  | x :: xs => max (dep x) (deps xs)
end

/-- how a name holds its value: shared (never changed again), alone, alone and walked, a parameter that the caller sees changed, such a one walked -/
inductive Fl where
  | sh | own | ownL | io | ioL
  deriving DecidableEq

abbrev Env := List (Option (W × Fl))

inductive Out (α : Type) where
  | ok (a : α) (ρ : Env) | ex (x : Nat) (p : W) (ρ : Env) | bad

def Out.bind {α β : Type} : Out α → (α → Env → Out β) → Out β
  | .ok a ρ, f => f a ρ
  | .ex x p ρ, _ => .ex x p ρ
  | .bad, _ => .bad
@[simp] theorem Out.bind_ok {α β : Type} (a : α) (ρ : Env) (f : α → Env → Out β) : (Out.ok a ρ).bind f = f a ρ := rfl
@[simp] theorem Out.bind_ex {α β : Type} (x : Nat) (p : W) (ρ : Env) (f : α → Env → Out β) : (Out.ex x p ρ).bind f = .ex x p ρ := rfl
@[simp] theorem Out.bind_bad {α β : Type} (f : α → Env → Out β) : (Out.bad : Out α).bind f = .bad := rfl

inductive Arg where
  | val (w : W) (fr : Bool) | slot (i : Nat)

/-- what a call of a def of the text gives: its value (a new list of its own: fr), the parameters that it changed -/
inductive CO where
  | ret (w : W) (fr : Bool) (ios : List W) | ex (x : Nat) (p : W) (ios : List W) | bad

inductive BOp | add | sub | mul | fdv | md
  deriving DecidableEq
inductive COp | lt | le | gt | ge | eq | ne | is | isnt | inn | nin
  deriving DecidableEq
inductive Ty | int | bool | str | tuple | list | dict
  deriving DecidableEq
inductive IK | seq | rng | enu | zip | items | vals | rev
  deriving DecidableEq
inductive BI | len | abs | int | str | bool | min | max | sum | all | any | sorted | tuple | list | set | dict | lrng
  deriving DecidableEq
inductive MI | index | count | get | litems | join | split | partition
  deriving DecidableEq
inductive MK | append | extend | insert | pop | pop0 | remove
  deriving DecidableEq

inductive Pt where
  | n (i : Nat) | t (l : Pt) | nil | cons (a b : Pt)

inductive E where
  | bad
  | var (i : Nat) | con (w : W)
  | op (o : BOp) (a b : E) | neg (a : E)
  | cmp (o : COp) (a b : E) | cmp2 (o p : COp) (a b c : E)
  | and (a b : E) | or (a b : E) | not (a : E) | ite (c a b : E)
  | tup (es : E) | lst (es : E) | dsp (es : E)
  | ix (a b : E) | slc (a : E) (l h : Bool) (lo hi : E)
  | call (f : Nat) (m : List Bool) (es : E) | bi (f : BI) (es : E) | mth (m : MI) (o : E) (es : E)
  | isi (a : E) (t : Ty)
  | fst (es : E)
  | lc (elt : E) (p : Pt) (t : E) (k : IK) (es : E) (own : List Nat)
  | lc2 (elt : E) (p : Pt) (t : E) (k : IK) (es : E) (p1 : Pt) (t1 : E) (k1 : IK) (es1 : E) (own : List Nat)
  | nil | cons (a b : E)

inductive S where
  | bad | nil | seq (s r : S)
  | asn (i : Nat) (e : E) | asp (p : Pt) (e : E) | par (is : List Nat) (es : E)
  | six (i : Nat) (k e : E)
  | aug (i : Nat) (o : BOp) (e : E)
  | exp (e : E) | mut (m : MK) (i : Nat) (es : E) | popi (i j : Nat) (es : E)
  | ret (e : E) | retN
  | ite (c : E) (a b : S)
  | for_ (p : Pt) (k : IK) (es : E) (b : S)
  | whl (c : E) (b : S)
  | pass | brk | cnt
  | rais (x : Nat) (e : E)
  | try_ (b : S) (x : Nat) (as : Option Nat) (h : S)

/-! ### values -/
def szL : Nat := 16777216
/-- the most that a product's factors may have, in bits -/
def bitL : Nat := 134217728
def bits (i : Int) : Nat := if i == 0 then 0 else i.natAbs.log2 + 1

def truth : W → Option Bool
  | .non => some false
  | .bl b => some b
  | .int i => some (i != 0)
  | .str s => some (!s.isEmpty)
  | .tup xs => some (!xs.isEmpty)
  | .lst xs => some (!xs.isEmpty)
  | .dct _ => none
  | .st xs => some (!xs.isEmpty)

def rep {α : Type} (xs : List α) (k : Nat) : List α := (List.replicate k xs).flatten

def opW : BOp → W → W → Option (W × Bool)
  | .add, .int i, .int j => some (.int (i + j), false)
  | .add, .str x, .str y => if x.length + y.length ≤ szL then some (.str (x ++ y), false) else none
  | .add, .tup x, .tup y => if x.length + y.length ≤ szL then some (.tup (x ++ y), false) else none
  | .add, .lst x, .lst y => if x.length + y.length ≤ szL then some (.lst (x ++ y), true) else none
  | .sub, .int i, .int j => some (.int (i - j), false)
  | .mul, .int i, .int j => if bits i + bits j ≤ bitL then some (.int (i * j), false) else none
  | .mul, .tup x, .int k => if (2 ≤ k ∧ k ≤ 1000) ∧ x.length ≤ 1000 ∧ x ≠ [] then some (.tup (rep x k.toNat), false) else none
  | .mul, .lst x, .int k => if x.length * k.toNat ≤ szL ∧ -1000 ≤ k ∧ k ≤ szL then some (.lst (rep x k.toNat), true) else none
  | .fdv, .int i, .int j => if j ≠ 0 ∧ Builtin.divisionGoesByPylong i j = false then some (.int (i.fdiv j), false) else none
  | .md, .int i, .int j => if j = 0 then none else some (.int (i.fmod j), false)
  | _, _, _ => none

def memW (x : W) (xs : List W) : Bool := xs.any fun y => eqW y x

/-- s within t, for texts -/
def subT (s t : Cs) : Bool := match t with
  | [] => s.isEmpty
  | _ :: r => s.isPrefixOf t || subT s r

def lkW (k : W) : List (W × W) → Option W
  | [] => none
  | (a, v) :: r => if eqW a k then some v else lkW k r
def ptW (k v : W) : List (W × W) → List (W × W)
  | [] => [(k, v)]
  | (a, u) :: r => if eqW a k then (a, v) :: r else (a, u) :: ptW k v r

mutual
/-- may stand in a key -/
def hsb : W → Bool
  | .non => true
  | .bl _ => true
  | .int _ => true
  | .str _ => true
  | .tup xs => hsbs xs
  | .lst _ => false
  | .dct _ => false
  | .st _ => false
def hsbs : List W → Bool
  | [] => true
  | x :: xs => hsb x && hsbs xs
end
def isT : W → Bool
  | .tup _ => true
  | _ => false
/-- a key that the dicts here may have: a tuple -/
def hkW (w : W) : Bool := isT w && (hsb w && decide (dep w ≤ 8))

def isI : W → Bool
  | .int _ => true
  | _ => false
/-- a dict of tuples, of numbers -/
def allT : List (W × W) → Bool
  | [] => true
  | (k, _) :: r => isT k && allT r
def allI : List (W × W) → Bool
  | [] => true
  | (k, _) :: r => isI k && allI r
/-- a key that this dict may have -/
def kOk (k : W) (kvs : List (W × W)) : Bool := (hkW k && allT kvs) || (isI k && allI kvs)

/-- served by == -/
def eqOk (x y : W) : Bool := decide (min (dep x) (dep y) ≤ 64 ∧ dep x < 1000 ∧ dep y < 1000)
def isN : W → Bool
  | .non => true
  | _ => false
def cmpW : COp → W → W → Option Bool
  | .lt, .int i, .int j => some (decide (i < j))
  | .le, .int i, .int j => some (decide (i ≤ j))
  | .gt, .int i, .int j => some (decide (j < i))
  | .ge, .int i, .int j => some (decide (j ≤ i))
  | .eq, x, y => if eqOk x y then some (eqW x y) else none
  | .ne, x, y => if eqOk x y then some (!eqW x y) else none
  | .is, x, .non => some (isN x)
  | .isnt, x, .non => some (!isN x)
  | .inn, x, .tup ys => if dep x = 0 ∧ deps ys = 0 then some (memW x ys) else none
  | .nin, x, .tup ys => if dep x = 0 ∧ deps ys = 0 then some (!memW x ys) else none
  | .inn, x, .lst ys => if dep x ≤ 60 ∧ deps ys ≤ 60 then some (memW x ys) else none
  | .nin, x, .lst ys => if dep x ≤ 60 ∧ deps ys ≤ 60 then some (!memW x ys) else none
  | .inn, x, .dct kvs => if kOk x kvs = true then some (lkW x kvs).isSome else none
  | .nin, x, .dct kvs => if kOk x kvs = true then some (!(lkW x kvs).isSome) else none
  | _, _, _ => none

open L2 (atI ixN)
def ixW : W → W → Option (W × Bool)
  | .lst xs, .int i => (atI xs i).map fun w => (w, false)
  | .tup xs, .int i => (atI xs i).map fun w => (w, false)
  | .str s, .int i => (atI s i).map fun c => (.str [c], false)
  | .dct kvs, k => if kOk k kvs = true then (lkW k kvs).map fun w => (w, false) else none
  | _, _ => none

def cut {α : Type} (xs : List α) (lo hi : Option Int) : List α := (xs.drop (HT.sIx xs.length 0 lo)).take (HT.sIx xs.length xs.length hi - HT.sIx xs.length 0 lo)
def slc1 (lo hi : Option Int) : W → Option (W × Bool)
  | .lst xs => some (.lst (cut xs lo hi), true)
  | .tup xs => some (.tup (cut xs lo hi), false)
  | .str s => some (.str (cut s lo hi), false)
  | _ => none
def digs (n : Nat) : Cs := (Nat.repr n).toList.map Char.toNat
def strI (i : Int) : Cs := if i < 0 then 45 :: digs i.natAbs else digs i.natAbs

def sumI : List W → Option Int
  | [] => some 0
  | .int i :: r => (sumI r).map (i + ·)
  | _ => none
def asInts : List W → Option (List Int)
  | [] => some []
  | .int i :: r => (asInts r).map (i :: ·)
  | _ => none
def asBools : List W → Option (List Bool)
  | [] => some []
  | .bl i :: r => (asBools r).map (i :: ·)
  | _ => none
def minI : Int → List Int → Int
  | a, [] => a
  | a, b :: r => minI (if b < a then b else a) r
def maxI : Int → List Int → Int
  | a, [] => a
  | a, b :: r => maxI (if a < b then b else a) r
def leastL (ws : List W) : Option Int := match asInts ws with
  | some (a :: r) => some (minI a r)
  | _ => none
def mostL (ws : List W) : Option Int := match asInts ws with
  | some (a :: r) => some (maxI a r)
  | _ => none
def insI (a : Int) : List Int → List Int
  | [] => [a]
  | b :: r => if a ≤ b then a :: b :: r else b :: insI a r
def srtI : List Int → List Int
  | [] => []
  | a :: r => insI a (srtI r)

/-- .. each once -/
def insU (a : Int) : List Int → List Int
  | [] => [a]
  | b :: r => if a < b then a :: b :: r else if a = b then b :: r else b :: insU a r
def srtU : List Int → List Int
  | [] => []
  | a :: r => insU a (srtU r)
def rngL : Nat → Int → List W
  | 0, _ => []
  | n + 1, a => .int a :: rngL n (a + 1)
def rngD : Nat → Int → List W
  | 0, _ => []
  | n + 1, a => .int a :: rngD n (a - 1)
def okR (i : Int) : Bool := decide (-(2 ^ 62) ≤ i ∧ i < 2 ^ 62)
/-- the items of range -/
def rngW : List W → Option (List W)
  | [.int j] => if okR j = true ∧ j ≤ szL then some (rngL j.toNat 0) else none
  | [.int i, .int j] => if (okR i && okR j) = true ∧ j - i ≤ szL then some (rngL (j - i).toNat i) else none
  | [.int i, .int j, .int k] => if (k = -1 ∧ i - j ≤ szL) ∧ (okR i && okR j) = true then some (rngD (i - j).toNat i) else none
  | _ => none

/-- the number that a text of digits is -/
def numN (s : Cs) : Nat := s.foldl (fun a c => a * 10 + (c - 48)) 0
def isDig (c : Nat) : Bool := decide (48 ≤ c ∧ c ≤ 57)
/-- int of a text: digits alone, a minus ahead -/
def numT : Cs → Option Int
  | 45 :: s => if (s.all isDig && !s.isEmpty) = true ∧ s.length ≤ 600 then some (-(numN s : Int)) else none
  | s => if (s.all isDig && !s.isEmpty) = true ∧ s.length ≤ 600 then some (numN s) else none

def seqW : W → Option (List W)
  | .lst xs => some xs
  | .tup xs => some xs
  | _ => none

def biW : BI → List W → Option (W × Bool)
  | .len, [.lst xs] => some (.int xs.length, false)
  | .len, [.tup xs] => some (.int xs.length, false)
  | .len, [.str xs] => some (.int xs.length, false)
  | .abs, [.int i] => some (.int (if i < 0 then -i else i), false)
  | .int, [.int i] => some (.int i, false)
  | .bool, [.int i] => some (.bl (i != 0), false)
  | .bool, [.bl i] => some (.bl i, false)
  | .min, [.int i, .int j] => some (.int (if j < i then j else i), false)
  | .min, [.lst xs] => (leastL xs).map fun i => (.int i, false)
  | .min, [.tup xs] => (leastL xs).map fun i => (.int i, false)
  | .max, [.int i, .int j] => some (.int (if j > i then j else i), false)
  | .max, [.lst xs] => (mostL xs).map fun i => (.int i, false)
  | .lrng, [.int j] => (rngW [.int j]).map fun its => (.lst its, true)
  | .lrng, [.int i, .int j] => (rngW [.int i, .int j]).map fun its => (.lst its, true)
  | .sum, [.lst xs] => (sumI xs).map fun i => (.int i, false)
  | .all, [.lst xs] => (asBools xs).map fun i => (.bl (i.all id), false)
  | .any, [.lst xs] => (asBools xs).map fun i => (.bl (i.any id), false)
  | .tuple, [.lst xs] => some (.tup xs, false)
  | .sorted, [.lst xs] => (asInts xs).map fun i => (.lst ((srtI i).map .int), true)
  | .sorted, [.dct kvs] => if kvs.length < 64 then (asInts (kvs.map (·.1))).map fun i => (.lst ((srtI i).map .int), true) else none
  | .set, [.lst xs] => if xs.length < 60 then (asInts xs).map fun i => (.lst ((srtU i).map .int), true) else none
  | .set, [.tup xs] => if xs.length < 60 then (asInts xs).map fun i => (.lst ((srtU i).map .int), true) else none
  | .tuple, [.tup xs] => some (.tup xs, false)
  | .list, [.lst xs] => some (.lst xs, true)
  | .list, [.tup xs] => some (.lst xs, true)
  | _, _ => none

/-- the place of the first that equals -/
def idxW (x : W) : List W → Option Nat
  | [] => none
  | y :: r => if eqW y x then some 0 else (idxW x r).map (· + 1)

def partT (sep : Nat) : Cs → Cs × Bool × Cs
  | [] => ([], false, [])
  | c :: r => if c = sep then ([], true, r) else let q := partT sep r; (c :: q.1, q.2.1, q.2.2)

/-- what is never shared -/
def isD : W → Bool
  | .dct _ => true
  | .st _ => true
  | _ => false
/-- what may be changed: a list too -/
def isC : W → Bool
  | .lst _ => true
  | w => isD w
def mthW : MI → W → List W → Option (W × Bool)
  | .get, .dct kvs, [k] => if kOk k kvs = true then some ((lkW k kvs).getD .non, false) else none
  | .get, .dct kvs, [k, d] => if kOk k kvs = true ∧ isC d = false then some ((lkW k kvs).getD d, false) else none
  | .litems, .dct kvs, [] => some (.lst (kvs.map fun p => .tup [p.1, p.2]), true)
  | .index, .lst xs, [y] => if dep y ≤ 64 ∧ deps xs ≤ 60 then (idxW y xs).map fun (n : Nat) => (W.int (n : Int), false) else none
  | _, _, _ => none

/-- what has the method -/
def mTy : MI → W → Option Unit
  | .get, .dct _ => some ()
  | .litems, .dct _ => some ()
  | .index, .lst _ => some ()
  | _, _ => none

def isTy : Ty → W → Bool
  | .int, .int _ => true
  | .int, .bl _ => true
  | .bool, .bl _ => true
  | .str, .str _ => true
  | .tuple, .tup _ => true
  | .list, .lst _ => true
  | .dict, .dct _ => true
  | _, _ => false

/-- one part of an f-string -/
def fmtW : W → Option Cs
  | .str s => some s
  | .int i => if bits i < 1900 then some (strI i) else none
  | _ => none

/-- what a loop walks -/
def enuL : Nat → List W → List W
  | _, [] => []
  | n, w :: r => .tup [.int n, w] :: enuL (n + 1) r
def zip2 : List W → List W → List W
  | x :: xs, y :: ys => .tup [x, y] :: zip2 xs ys
  | _, _ => []
def zip3 : List W → List W → List W → List W
  | x :: xs, y :: ys, z :: zs => .tup [x, y, z] :: zip3 xs ys zs
  | _, _, _ => []
def itW : IK → List W → Option (List W)
  | .seq, [.lst xs] => some xs
  | .seq, [.tup xs] => some xs
  | .rng, ws => rngW ws
  | .enu, [.lst xs] => some (enuL 0 xs)
  | .enu, [.tup xs] => some (enuL 0 xs)
  | .zip, [.lst xs, .lst ys] => some (zip2 xs ys)
  | .zip, [.tup xs, .tup ys] => some (zip2 xs ys)
  | .rev, [.lst xs] => some xs.reverse
  | .rev, [.tup xs] => some xs.reverse
  | .seq, [.dct kvs] => some (kvs.map (·.1))
  | .items, [.dct kvs] => some (kvs.map fun p => .tup [p.1, p.2])
  | .vals, [.dct kvs] => some (kvs.map (·.2))
  | _, _ => none

def mutW : MK → W → List W → Option W
  | .append, .lst xs, [w] => if xs.length < szL then some (.lst (xs ++ [w])) else none
  | .extend, .lst xs, [.lst ys] => if xs.length + ys.length ≤ szL then some (.lst (xs ++ ys)) else none
  | .insert, .lst xs, [.int k, w] => if xs.length < szL ∧ 0 ≤ k ∧ k ≤ xs.length then some (.lst (xs.take k.toNat ++ w :: xs.drop k.toNat)) else none
  | .pop, .lst xs, [] => if xs.isEmpty then none else some (.lst xs.dropLast)
  | .pop0, .lst (_ :: xs), [] => some (.lst xs)
  | _, _, _ => none

/-- x[k] = v -/
def putW : W → W → W → Option W
  | .lst xs, .int i, v => (ixN xs.length i).map fun j => .lst (xs.set j v)
  | .dct kvs, k, v => if kOk k kvs = true ∧ kvs.length < szL then some (.dct (ptW k v kvs)) else none
  | _, _, _ => none

/-! ### names -/
def wOf (ρ : Env) (i : Nat) : Option (W × Fl) := (ρ[i]?).join
def res (ρ : Env) : Arg → Option W
  | .val w _ => some w
  | .slot i => (wOf ρ i).map (·.1)
def ress (ρ : Env) : List Arg → Option (List W)
  | [] => some []
  | a :: r => match res ρ a, ress ρ r with
    | some w, some ws => some (w :: ws)
    | _, _ => none
/-- an argument becomes a value that is never changed again -/
def shr (ρ : Env) : Arg → Option (W × Env)
  | .val w _ => if isD w then none else some (w, ρ)
  | .slot i => match wOf ρ i with
    | some (w, .sh) => some (w, ρ)
    | some (w, .own) => if isD w then none else some (w, ρ.set i (some (w, .sh)))
    | some (w, .ownL) => if isD w then none else some (w, ρ.set i (some (w, .sh)))
    | _ => none
def shrs (ρ : Env) : List Arg → Option (List W × Env)
  | [] => some ([], ρ)
  | a :: r => match shr ρ a with
    | some (w, ρ1) => match shrs ρ1 r with
      | some (ws, ρ2) => some (w :: ws, ρ2)
      | none => none
    | none => none

/-- a plain name is stored -/
def setN (ρ : Env) (i : Nat) (w : W) (f : Fl) : Option Env :=
  match ρ[i]? with
  | some (some (_, .io)) => none
  | some (some (_, .ioL)) => none
  | some _ => some (ρ.set i (some (w, f)))
  | none => none
def asP : Pt → W → Env → Option Env
  | .n i, w, ρ => setN ρ i w .sh
  | .t l, w, ρ => match w with
    | .tup xs => asP l (.tup xs) ρ
    | .lst xs => asP l (.tup xs) ρ
    | _ => none
  | .nil, w, ρ => match w with
    | .tup [] => some ρ
    | _ => none
  | .cons a b, w, ρ => match w with
    | .tup (x :: xs) => match asP a x ρ with
      | some ρ1 => asP b (.tup xs) ρ1
      | none => none
    | _ => none

def lkE1 (ρ : Env) (i : Nat) : Env :=
  match wOf ρ i with
  | some (w, .own) => ρ.set i (some (w, .ownL))
  | some (w, .io) => ρ.set i (some (w, .ioL))
  | _ => ρ
def lkE (ρ : Env) : List Arg → Env
  | [] => ρ
  | .slot i :: r => lkE (lkE1 ρ i) r
  | .val _ _ :: r => lkE ρ r
/-- ρ0: the names ahead of the loop -/
def ulE1 (ρ0 ρ : Env) (i : Nat) : Env :=
  match wOf ρ0 i, wOf ρ i with
  | some (_, .own), some (w, .ownL) => ρ.set i (some (w, .own))
  | some (_, .io), some (w, .ioL) => ρ.set i (some (w, .io))
  | _, _ => ρ
def ulE (ρ0 ρ : Env) : List Arg → Env
  | [] => ρ
  | .slot i :: r => ulE ρ0 (ulE1 ρ0 ρ i) r
  | .val _ _ :: r => ulE ρ0 ρ r
/-- a comprehension's own names: forgotten, given back -/
def wpE (ρ : Env) : List Nat → Env
  | [] => ρ
  | i :: r => (wpE ρ r).set i none
def rsE (ρ0 ρ : Env) : List Nat → Env
  | [] => ρ
  | i :: r => match ρ0[i]? with
    | some x => (rsE ρ0 ρ r).set i x
    | none => rsE ρ0 ρ r

/-! ### calls -/
abbrev Fn := Nat → List W → CO
/-- the arguments that are handed over: values, and the names (or new objects) that the callee changes -/
def shM (ρ : Env) : List Bool → List Arg → Option (List (Option W) × Env)
  | [], [] => some ([], ρ)
  | false :: m, a :: r => match shr ρ a with
    | some (w, ρ1) => match shM ρ1 m r with
      | some (ws, ρ2) => some (some w :: ws, ρ2)
      | none => none
    | none => none
  | true :: m, _ :: r => match shM ρ m r with
    | some (ws, ρ2) => some (none :: ws, ρ2)
    | none => none
  | _, _ => none
/-- now what is changed, as it stands; each name once -/
def ioW (ρ : Env) : List Nat → List (Option W) → List Arg → Option (List W)
  | _, [], [] => some []
  | us, some w :: m, _ :: r => (ioW ρ us m r).map (w :: ·)
  | us, none :: m, a :: r => match a with
    | .val w true => (ioW ρ us m r).map (w :: ·)
    | .slot i => if us.contains i then none else match wOf ρ i with
      | some (w, .own) => (ioW ρ (i :: us) m r).map (w :: ·)
      | some (w, .io) => (ioW ρ (i :: us) m r).map (w :: ·)
      | _ => none
    | _ => none
  | _, _, _ => none
def ioB (ρ : Env) : List Bool → List Arg → List W → Option Env
  | [], [], [] => some ρ
  | false :: m, _ :: r, ws => ioB ρ m r ws
  | true :: m, .val _ _ :: r, _ :: ws => ioB ρ m r ws
  | true :: m, .slot i :: r, w :: ws => match wOf ρ i with
    | some (_, f) => ioB (ρ.set i (some (w, f))) m r ws
    | none => none
  | _, _, _ => none
def callW (C : Fn) (f : Nat) (m : List Bool) (xs : List Arg) (ρ : Env) : Out Arg :=
  match shM ρ m xs with
  | none => .bad
  | some (ows, ρ1) => match ioW ρ1 [] ows xs with
    | none => .bad
    | some ws => match C f ws with
      | .bad => .bad
      | .ret w fr ios => match ioB ρ1 m xs ios with
        | some ρ2 => .ok (.val w fr) ρ2
        | none => .bad
      | .ex x p ios => match ioB ρ1 m xs ios with
        | some ρ2 => .ex x p ρ2
        | none => .bad

/-! ### expressions -/
structure Sm where
  x : Env → Out Arg
  t : Env → Out Bool
  a : Env → Out (List Arg)

def ofO (o : Option (W × Bool)) (ρ : Env) : Out Arg := match o with
  | some (w, fr) => .ok (.val w fr) ρ
  | none => .bad
def ofB (o : Option Bool) (ρ : Env) : Out Arg := match o with
  | some b => .ok (.val (.bl b) false) ρ
  | none => .bad
def l1 (f : W → Option (W × Bool)) (a : Arg) (ρ : Env) : Out Arg := match res ρ a with
  | some w => ofO (f w) ρ
  | none => .bad
def l2 (f : W → W → Option (W × Bool)) (a b : Arg) (ρ : Env) : Out Arg := match res ρ a, res ρ b with
  | some w, some u => ofO (f w u) ρ
  | _, _ => .bad
/-- a slice's bound -/
def part (l : Bool) (x : Env → Out Arg) (ρ : Env) : Out (Option Int) :=
  if l then (x ρ).bind fun v ρ1 => match res ρ1 v with
    | some (.int i) => .ok (some i) ρ1
    | _ => .bad
  else .ok none ρ
def lL (f : List W → Option (W × Bool)) (as : List Arg) (ρ : Env) : Out Arg := match ress ρ as with
  | some ws => ofO (f ws) ρ
  | none => .bad
def trO (o : Option W) (ρ : Env) : Out Bool := match o.bind truth with
  | some b => .ok b ρ
  | none => .bad
def bW (f : W → W → Option Bool) : W → W → Option (W × Bool) := fun x y => (f x y).map fun b => (.bl b, false)

/-- the turns of a list comprehension -/
def lcL (step : W → Env → Out (Option W)) : List W → List W → Env → Out (List W)
  | [], acc, ρ => .ok acc ρ
  | w :: r, acc, ρ => match step w ρ with
    | .ok (some y) ρ1 => lcL step r (acc ++ [y]) ρ1
    | .ok none ρ1 => lcL step r acc ρ1
    | _ => .bad
def stepV (x : Env → Out Arg) (ρ : Env) : Out (Option W) := (x ρ).bind fun a ρ1 => match shr ρ1 a with
  | some (w, ρ2) => .ok (some w) ρ2
  | none => .bad
def stepE (own : List Nat) (p : Pt) (t : Env → Out Bool) (x : Env → Out Arg) (w : W) (ρ : Env) : Out (Option W) :=
  match asP p w (wpE ρ own) with
  | none => .bad
  | some ρ1 => (t ρ1).bind fun k ρ2 => if k then stepV x ρ2 else .ok none ρ2

/-- the names of a target -/
def Pt.ns : Pt → List Nat
  | .n i => [i]
  | .t l => l.ns
  | .nil => []
  | .cons a b => a.ns ++ b.ns
/-- the turns of a second generator -/
def lcM (step : W → Env → Out (Option W)) : List W → List W → Env → Out (List W)
  | [], acc, ρ => .ok acc ρ
  | w :: r, acc, ρ => match step w ρ with
    | .ok (some y) ρ1 => if acc.length < szL then lcM step r (acc ++ [y]) ρ1 else .bad
    | .ok none ρ1 => lcM step r acc ρ1
    | _ => .bad
def lcO (step : W → List W → Env → Out (List W)) : List W → List W → Env → Out (List W)
  | [], acc, ρ => .ok acc ρ
  | w :: r, acc, ρ => match step w acc ρ with
    | .ok acc' ρ1 => lcO step r acc' ρ1
    | _ => .bad
/-- a turn of the first generator: what the second walks is never changed again -/
def lc2S (own : List Nat) (p p1 : Pt) (k1 : IK) (t t1 : Env → Out Bool) (es1 : Env → Out (List Arg)) (x : Env → Out Arg) (w : W) (acc : List W) (ρ : Env) : Out (List W) :=
  match asP p w (wpE ρ own) with
  | none => .bad
  | some ρ1 => (t ρ1).bind fun k ρ2 => if k then (es1 ρ2).bind fun us ρ3 => match shrs ρ3 us with
      | none => .bad
      | some (ws, ρ4) => match itW k1 ws with
        | none => .bad
        | some its => lcM (stepE p1.ns p1 t1 x) its acc ρ4
    else .ok acc ρ2

def pairs : List W → Option (List (W × W))
  | [] => some []
  | k :: v :: r => (pairs r).map ((k, v) :: ·)
  | _ => none
def mergeW (l : List (W × W)) : List (W × W) := l.foldl (fun d p => ptW p.1 p.2 d) []

def fmts : List W → Option Cs
  | [] => some []
  | w :: r => match fmtW w, fmts r with
    | some s, some u => some (s ++ u)
    | _, _ => none

def ev (C : Fn) : E → Sm
  | .bad => ⟨fun _ => .bad, fun _ => .bad, fun _ => .bad⟩
  | .var i =>
    { x := fun ρ => match wOf ρ i with | some _ => .ok (.slot i) ρ | none => .bad
      t := fun ρ => trO ((wOf ρ i).map (·.1)) ρ
      a := fun _ => .bad }
  | .con w => ⟨fun ρ => .ok (.val w false) ρ, fun ρ => trO (some w) ρ, fun _ => .bad⟩
  | .op o a b => let x := fun ρ => ((ev C a).x ρ).bind fun u ρ1 => ((ev C b).x ρ1).bind fun v ρ2 => l2 (opW o) u v ρ2
    ⟨x, fun ρ => (x ρ).bind fun u ρ1 => trO (res ρ1 u) ρ1, fun _ => .bad⟩
  | .neg a => let x := fun ρ => ((ev C a).x ρ).bind fun u ρ1 => l1 (fun w => match w with | .int i => some (.int (-i), false) | _ => none) u ρ1
    ⟨x, fun ρ => (x ρ).bind fun u ρ1 => trO (res ρ1 u) ρ1, fun _ => .bad⟩
  | .cmp o a b => let x := fun ρ => ((ev C a).x ρ).bind fun u ρ1 => ((ev C b).x ρ1).bind fun v ρ2 => l2 (bW (cmpW o)) u v ρ2
    ⟨x, fun ρ => (x ρ).bind fun u ρ1 => trO (res ρ1 u) ρ1, fun _ => .bad⟩
  | .cmp2 o q a b c => let x := fun ρ => ((ev C a).x ρ).bind fun u ρ1 => ((ev C b).x ρ1).bind fun v ρ2 => match res ρ2 u, res ρ2 v with
      | some w1, some w2 => match cmpW o w1 w2 with
        | some true => ((ev C c).x ρ2).bind fun z ρ3 => l2 (bW (cmpW q)) v z ρ3
        | some false => .ok (.val (.bl false) false) ρ2
        | none => .bad
      | _, _ => .bad
    ⟨x, fun ρ => (x ρ).bind fun u ρ1 => trO (res ρ1 u) ρ1, fun _ => .bad⟩
  | .and a b =>
    { x := fun ρ => ((ev C a).x ρ).bind fun u ρ1 => match (res ρ1 u).bind truth with
        | some true => (ev C b).x ρ1
        | some false => .ok u ρ1
        | none => .bad
      t := fun ρ => ((ev C a).t ρ).bind fun k ρ1 => if k then (ev C b).t ρ1 else .ok false ρ1
      a := fun _ => .bad }
  | .or a b =>
    { x := fun ρ => ((ev C a).x ρ).bind fun u ρ1 => match (res ρ1 u).bind truth with
        | some true => .ok u ρ1
        | some false => (ev C b).x ρ1
        | none => .bad
      t := fun ρ => ((ev C a).t ρ).bind fun k ρ1 => if k then .ok true ρ1 else (ev C b).t ρ1
      a := fun _ => .bad }
  | .not a =>
    { x := fun ρ => ((ev C a).x ρ).bind fun u ρ1 => l1 (fun w => (truth w).map fun b => (.bl (!b), false)) u ρ1
      t := fun ρ => ((ev C a).t ρ).bind fun k ρ1 => .ok (!k) ρ1
      a := fun _ => .bad }
  | .ite c a b => let x := fun ρ => ((ev C c).t ρ).bind fun k ρ1 => if k then (ev C a).x ρ1 else (ev C b).x ρ1
    ⟨x, fun ρ => ((ev C c).t ρ).bind fun k ρ1 => if k then (ev C a).t ρ1 else (ev C b).t ρ1, fun _ => .bad⟩
  | .tup es => let x := fun ρ => ((ev C es).a ρ).bind fun us ρ1 => match shrs ρ1 us with
      | some (ws, ρ2) => if ws.length ≤ szL then .ok (.val (.tup ws) false) ρ2 else .bad
      | none => .bad
    ⟨x, fun ρ => (x ρ).bind fun u ρ1 => trO (res ρ1 u) ρ1, fun _ => .bad⟩
  | .lst es => let x := fun ρ => ((ev C es).a ρ).bind fun us ρ1 => match shrs ρ1 us with
      | some (ws, ρ2) => if ws.length ≤ szL then .ok (.val (.lst ws) true) ρ2 else .bad
      | none => .bad
    ⟨x, fun ρ => (x ρ).bind fun u ρ1 => trO (res ρ1 u) ρ1, fun _ => .bad⟩
  | .dsp es => let x := fun ρ => ((ev C es).a ρ).bind fun us ρ1 => match shrs ρ1 us with
      | some (ws, ρ2) => match pairs ws with
        | some ps => if ps.length ≤ 15 then .ok (.val (.dct (mergeW ps)) true) ρ2 else .bad
        | none => .bad
      | none => .bad
    ⟨x, fun ρ => (x ρ).bind fun u ρ1 => trO (res ρ1 u) ρ1, fun _ => .bad⟩
  | .ix a b => let x := fun ρ => ((ev C a).x ρ).bind fun u ρ1 => ((ev C b).x ρ1).bind fun v ρ2 => l2 ixW u v ρ2
    ⟨x, fun ρ => (x ρ).bind fun u ρ1 => trO (res ρ1 u) ρ1, fun _ => .bad⟩
  | .slc a l h lo hi => let x := fun ρ => ((ev C a).x ρ).bind fun u ρ1 => (part l (ev C lo).x ρ1).bind fun i ρ2 => (part h (ev C hi).x ρ2).bind fun j ρ3 => l1 (slc1 i j) u ρ3
    ⟨x, fun ρ => (x ρ).bind fun u ρ1 => trO (res ρ1 u) ρ1, fun _ => .bad⟩
  | .call f m es => let x := fun ρ => ((ev C es).a ρ).bind fun us ρ1 => callW C f m us ρ1
    ⟨x, fun ρ => (x ρ).bind fun u ρ1 => trO (res ρ1 u) ρ1, fun _ => .bad⟩
  | .bi f es => let x := fun ρ => ((ev C es).a ρ).bind fun us ρ1 => lL (biW f) us ρ1
    ⟨x, fun ρ => (x ρ).bind fun u ρ1 => trO (res ρ1 u) ρ1, fun _ => .bad⟩
  | .mth f o es => let x := fun ρ => ((ev C o).x ρ).bind fun v ρ1 => match (res ρ1 v).bind (mTy f) with
      | some _ => ((ev C es).a ρ1).bind fun us ρ2 => match res ρ2 v with
        | some w => lL (mthW f w) us ρ2
        | none => .bad
      | none => .bad
    ⟨x, fun ρ => (x ρ).bind fun u ρ1 => trO (res ρ1 u) ρ1, fun _ => .bad⟩
  | .isi a t => let x := fun ρ => ((ev C a).x ρ).bind fun u ρ1 => l1 (fun w => if isD w then none else some (.bl (isTy t w), false)) u ρ1
    ⟨x, fun ρ => (x ρ).bind fun u ρ1 => trO (res ρ1 u) ρ1, fun _ => .bad⟩
  | .fst es => let x := fun ρ => ((ev C es).a ρ).bind fun us ρ1 => lL (fun ws => (fmts ws).map fun s => (.str s, false)) us ρ1
    ⟨x, fun ρ => (x ρ).bind fun u ρ1 => trO (res ρ1 u) ρ1, fun _ => .bad⟩
  | .lc elt p t k es own => let x := fun ρ => ((ev C es).a ρ).bind fun us ρ1 => match (ress ρ1 us).bind (itW k) with
      | none => .bad
      | some its => match lcL (stepE own p (ev C t).t (ev C elt).x) its [] (lkE ρ1 us) with
        | .ok acc ρ3 => if its.length ≤ szL then .ok (.val (.lst acc) true) (ulE ρ1 (rsE (lkE ρ1 us) ρ3 own) us) else .bad
        | _ => .bad
    ⟨x, fun ρ => (x ρ).bind fun u ρ1 => trO (res ρ1 u) ρ1, fun _ => .bad⟩
  | .lc2 elt p t k es p1 t1 k1 es1 own => let x := fun ρ => ((ev C es).a ρ).bind fun us ρ1 => match (ress ρ1 us).bind (itW k) with
      | none => .bad
      | some its => match lcO (lc2S own p p1 k1 (ev C t).t (ev C t1).t (ev C es1).a (ev C elt).x) its [] (lkE ρ1 us) with
        | .ok acc ρ3 => .ok (.val (.lst acc) true) (ulE ρ1 (rsE (lkE ρ1 us) ρ3 own) us)
        | _ => .bad
    ⟨x, fun ρ => (x ρ).bind fun u ρ1 => trO (res ρ1 u) ρ1, fun _ => .bad⟩
  | .nil => ⟨fun _ => .bad, fun ρ => .ok true ρ, fun ρ => .ok [] ρ⟩
  | .cons a b => ⟨fun _ => .bad, fun _ => .bad, fun ρ => ((ev C a).x ρ).bind fun u ρ1 => ((ev C b).a ρ1).bind fun us ρ2 => .ok (u :: us) ρ2⟩

/-! ### statements -/
inductive SO where
  | nx (ρ : Env) | bk (ρ : Env) | ct (ρ : Env) | rt (w : W) (fr : Bool) (ρ : Env) | ex (x : Nat) (p : W) (ρ : Env) | bad

def SO.bnd {α : Type} : Out α → (α → Env → SO) → SO
  | .ok a ρ, f => f a ρ
  | .ex x p ρ, _ => .ex x p ρ
  | .bad, _ => .bad
@[simp] theorem SO.bnd_ok {α : Type} (a : α) (ρ : Env) (f : α → Env → SO) : SO.bnd (Out.ok a ρ) f = f a ρ := rfl
@[simp] theorem SO.bnd_ex {α : Type} (x : Nat) (p : W) (ρ : Env) (f : α → Env → SO) : SO.bnd (Out.ex x p ρ) f = .ex x p ρ := rfl
@[simp] theorem SO.bnd_bad {α : Type} (f : α → Env → SO) : SO.bnd (Out.bad : Out α) f = .bad := rfl
def SO.thn : SO → (Env → SO) → SO
  | .nx ρ, f => f ρ
  | o, _ => o
def ofE : Option Env → SO
  | some ρ => .nx ρ
  | none => .bad

/-- x = an argument -/
def asA (i : Nat) (a : Arg) (ρ : Env) : Option Env := match a with
  | .val w fr => setN ρ i w (if fr then .own else .sh)
  | .slot j => match shr ρ (.slot j) with
    | some (w, ρ1) => setN ρ1 i w .sh
    | none => none
/-- several at once, names all different -/
def asAs : List Nat → List Arg → Env → Option Env
  | [], [], ρ => some ρ
  | i :: is, a :: as, ρ => if is.contains i then none else match asA i a ρ with
    | some ρ1 => asAs is as ρ1
    | none => none
  | _, _, _ => none
/-- arguments whose names are read now -/
def fixA (ρ : Env) : List Arg → Option (List Arg × Env)
  | [] => some ([], ρ)
  | .val w fr :: r => match fixA ρ r with
    | some (as, ρ1) => some (.val w fr :: as, ρ1)
    | none => none
  | .slot i :: r => match shr ρ (.slot i) with
    | some (w, ρ1) => match fixA ρ1 r with
      | some (as, ρ2) => some (.val w false :: as, ρ2)
      | none => none
    | none => none

def retA (a : Arg) (ρ : Env) : SO := match a with
  | .val w fr => .rt w fr ρ
  | .slot i => match wOf ρ i with
    | some (w, .sh) => .rt w false ρ
    | some (w, .own) => .rt w true (ρ.set i none)
    | some (w, .ownL) => if isD w then .bad else .rt w false (ρ.set i (some (w, .sh)))
    | _ => .bad

def mutOk : Option (W × Fl) → Bool
  | some (.lst _, .own) => true
  | some (.lst _, .io) => true
  | _ => false
def mutE (m : MK) (i : Nat) (us : List Arg) (ρ : Env) : SO := match shrs ρ us with
  | none => .bad
  | some (ws, ρ1) => match wOf ρ1 i with
    | some (w, .own) => match mutW m w ws with
      | some w' => .nx (ρ1.set i (some (w', .own)))
      | none => .bad
    | some (w, .io) => match mutW m w ws with
      | some w' => .nx (ρ1.set i (some (w', .io)))
      | none => .bad
    | _ => .bad
/-- x = y.pop(k) -/
def popE (i j : Nat) (us : List Arg) (ρ : Env) : SO := match shrs ρ us with
  | none => .bad
  | some (ws, ρ1) => match wOf ρ1 j with
    | some (.lst xs, .own) => match ws with
      | [.int k] => if (0 ≤ k ∧ k < xs.length) ∧ i ≠ j then (match xs[k.toNat]? with
        | some w => match setN ρ1 i w .sh with
          | some ρ2 => .nx (ρ2.set j (some (.lst (xs.eraseIdx k.toNat), .own)))
          | none => .bad
        | none => .bad) else .bad
      | _ => .bad
    | _ => .bad
def sixE (i : Nat) (e k : Arg) (ρ : Env) : SO := match shr ρ e with
  | none => .bad
  | some (v, ρ1) => match shr ρ1 k with
    | none => .bad
    | some (kw, ρ2) => match wOf ρ2 i with
      | some (w, .own) => match putW w kw v with
        | some w' => .nx (ρ2.set i (some (w', .own)))
        | none => .bad
      | some (w, .io) => match putW w kw v with
        | some w' => .nx (ρ2.set i (some (w', .io)))
        | none => .bad
      | _ => .bad

def forL (step : W → Env → SO) : List W → Env → SO
  | [], ρ => .nx ρ
  | w :: r, ρ => match step w ρ with
    | .nx ρ1 => forL step r ρ1
    | .ct ρ1 => forL step r ρ1
    | .bk ρ1 => .nx ρ1
    | o => o
def whlL (t : Env → Out Bool) (b : Env → SO) : Nat → Env → SO
  | 0, _ => .bad
  | n + 1, ρ => SO.bnd (t ρ) fun k ρ1 => if k then match b ρ1 with
      | .nx ρ2 => whlL t b n ρ2
      | .ct ρ2 => whlL t b n ρ2
      | .bk ρ2 => .nx ρ2
      | o => o
    else .nx ρ1
/-- behind a loop -/
def SO.mapE (f : Env → Env) : SO → SO
  | .nx ρ => .nx (f ρ)
  | .bk ρ => .bk (f ρ)
  | .ct ρ => .ct (f ρ)
  | o => o

/-- which clause takes which exception: 0 is NotAllowed .. ; the base takes all -/
abbrev Tk := Nat → Nat → Option Bool
/-- an except suite that raises is not served -/
def SO.calm : SO → SO
  | .ex _ _ _ => .bad
  | o => o

def xs (C : Fn) (tk : Tk) (g : Nat) : S → Env → SO
  | .bad, _ => .bad
  | .nil, ρ => .nx ρ
  | .seq s r, ρ => (xs C tk g s ρ).thn fun ρ1 => xs C tk g r ρ1
  | .asn i e, ρ => SO.bnd ((ev C e).x ρ) fun a ρ1 => ofE (asA i a ρ1)
  | .asp p e, ρ => SO.bnd ((ev C e).x ρ) fun a ρ1 => match shr ρ1 a with
    | some (w, ρ2) => ofE (asP p w ρ2)
    | none => .bad
  | .par is es, ρ => SO.bnd ((ev C es).a ρ) fun as ρ1 => match fixA ρ1 as with
    | some (as', ρ2) => ofE (asAs is as' ρ2)
    | none => .bad
  | .six i k e, ρ => SO.bnd ((ev C e).x ρ) fun a ρ1 => match wOf ρ1 i with
    | none => .bad
    | some _ => SO.bnd ((ev C k).x ρ1) fun b ρ2 => sixE i a b ρ2
  | .aug i o e, ρ => match wOf ρ i with
    | some (w, .sh) => SO.bnd ((ev C e).x ρ) fun a ρ1 => match res ρ1 a with
      | some u => match opW o w u with
        | some (.int z, _) => ofE (setN ρ1 i (.int z) .sh)
        | _ => .bad
      | none => .bad
    | _ => .bad
  | .exp e, ρ => SO.bnd ((ev C e).x ρ) fun _ ρ1 => .nx ρ1
  | .mut m i es, ρ => if mutOk (wOf ρ i) then SO.bnd ((ev C es).a ρ) fun us ρ1 => mutE m i us ρ1 else .bad
  | .popi i j es, ρ => if mutOk (wOf ρ j) then SO.bnd ((ev C es).a ρ) fun us ρ1 => popE i j us ρ1 else .bad
  | .ret e, ρ => SO.bnd ((ev C e).x ρ) fun a ρ1 => retA a ρ1
  | .retN, ρ => .rt .non false ρ
  | .ite c a b, ρ => SO.bnd ((ev C c).t ρ) fun k ρ1 => if k then xs C tk g a ρ1 else xs C tk g b ρ1
  | .for_ p k es b, ρ => SO.bnd ((ev C es).a ρ) fun us ρ1 => match (ress ρ1 us).bind (itW k) with
    | none => .bad
    | some its => (forL (fun w ρ => match asP p w ρ with
      | none => .bad
      | some ρ1 => xs C tk g b ρ1) its (lkE ρ1 us)).mapE fun ρ3 => ulE ρ1 ρ3 us
  | .whl c b, ρ => whlL (ev C c).t (xs C tk g b) g ρ
  | .pass, ρ => .nx ρ
  | .brk, ρ => .bk ρ
  | .cnt, ρ => .ct ρ
  | .rais x e, ρ => SO.bnd ((ev C e).a ρ) fun us ρ1 => match us with
    | [] => .ex x .non ρ1
    | [a] => match shr ρ1 a with
      | some (w, ρ2) => .ex x w ρ2
      | none => .bad
    | _ => .bad
  | .try_ b x as h, ρ => match xs C tk g b ρ with
    | .ex y p ρ1 => match tk x y with
      | none => .bad
      | some false => .ex y p ρ1
      | some true => match as with
        | none => (xs C tk g h ρ1).calm
        | some _ => .bad
    | o => o

/-! ### a program -/
structure FD where
  n : Nat      -- names
  m : List Bool      -- parameters: which ones the caller sees changed
  b : S
def env0 (fd : FD) (ws : List W) : Env := (ws.zip fd.m).map (fun p => some (p.1, if p.2 then Fl.io else Fl.sh)) ++ List.replicate (fd.n - ws.length) none
def ioE (ρ : Env) : Nat → List Bool → Option (List W)
  | _, [] => some []
  | k, false :: m => ioE ρ (k + 1) m
  | k, true :: m => match wOf ρ k, ioE ρ (k + 1) m with
    | some (w, .io), some ws => some (w :: ws)
    | some (w, .ioL), some ws => some (w :: ws)
    | _, _ => none
def ofS (fd : FD) : SO → CO
  | .nx ρ => match ioE ρ 0 fd.m with
    | some ios => .ret .non false ios
    | none => .bad
  | .rt w fr ρ => match ioE ρ 0 fd.m with
    | some ios => .ret w fr ios
    | none => .bad
  | .ex x p ρ => match ioE ρ 0 fd.m with
    | some ios => .ex x p ios
    | none => .bad
  | _ => .bad
def run (fs : List FD) (tk : Tk) (g : Nat) : Nat → Fn
  | 0 => fun _ _ => .bad
  | d + 1 => fun f ws => match fs[f]? with
    | none => .bad
    | some fd => if ws.length = fd.m.length then ofS fd (xs (run fs tk g d) tk g fd.b (env0 fd ws)) else .bad
end Py

namespace Py
/-- the program and the world of the proof: a text's hash is the world's -/
class HW where
  P : PySem.Program
  w : PySem.World
open PySem PySem.Spec PyProof.Rows L2
variable [HW]

abbrev S8 (s : Cs) : Str := ⟨s.toArray⟩

/-! ### a value and what it is -/
mutual
inductive HR (K : PySem.W.Frag) (H : Hp) (F : Addr → Prop) : V → W → Prop
  | non : HR K H F .non .non
  | bl (b : Bool) : HR K H F (.bl b) (.bl b)
  | int (i : Int) : HR K H F (.int i) (.int i)
  | str (s : Cs) : s.length ≤ szL → PyData.strOk (S8 s) = true → HR K H F (.str (S8 s)) (.str s)
  | tup {a : Addr} {vs : List V} {ws : List W} : SqT K H a vs → vs.length ≤ szL → HRs K H F vs ws → HR K H F (.ref a) (.tup ws)
  | lst {a : Addr} {vs : List V} {ws : List W} : F a → Rd H a (.lst vs) → vs.length ≤ szL → HRs K H F vs ws → HR K H F (.ref a) (.lst ws)
inductive HRs (K : PySem.W.Frag) (H : Hp) (F : Addr → Prop) : List V → List W → Prop
  | nil : HRs K H F [] []
  | cons {v : V} {vs : List V} {w : W} {ws : List W} : HR K H F v w → HRs K H F vs ws → HRs K H F (v :: vs) (w :: ws)
end

/-! ### dicts whose keys are tuples -/
mutual
/-- a key -/
def nk : W → Option NestedKey
  | .non => some .none
  | .bl b => some (.num (if b then 1 else 0))
  | .int i => some (.num i)
  | .str s => some (.text (S8 s))
  | .tup ws => (nks ws).map .tup
  | _ => none
def nks : List W → Option (List NestedKey)
  | [] => some []
  | w :: r => match nk w, nks r with
    | some k, some l => some (k :: l)
    | _, _ => none
end
/-- a dict's entries: the key, what it stands as, the value -/
abbrev DEs := List (NestedKey × V × V)
inductive EntR [HW] : DEs → List DictEntry → Prop
  | nil : EntR [] []
  | cons {k : NestedKey} {x v : V} {a b : Value} {es : DEs} {l : List DictEntry} : RelV x a → RelV v b → EntR es l → EntR ((k, x, v) :: es) (⟨k.hash HW.w, a, b⟩ :: l)
theorem EntR.length {es : DEs} {l : List DictEntry} (h : EntR es l) : l.length = es.length := by
  induction h with
  | nil => rfl
  | cons _ _ _ ih => simp [ih]
def dcO [HW] (a : Addr) (es : DEs) (ep : Nat) : HO := .ext fun h => (a == sysModules) = false ∧ ∃ o l, h.get? a = some o ∧ o.ExactDict ∧ o.data = .dict l ep ∧ EntR es l.toList
inductive DRel (K : PySem.W.Frag) (H : Hp) (F : Addr → Prop) : DEs → List (W × W) → Prop
  | nil : DRel K H F [] []
  | cons {k : NestedKey} {b : Addr} {v : V} {ws : List W} {w : W} {es : DEs} {kvs : List (W × W)} : nk (.tup ws) = some k → k.depth ≤ 8 → HR K H F (.ref b) (.tup ws) → HR K H F v w → DRel K H F es kvs → DRel K H F ((k, .ref b, v) :: es) ((.tup ws, w) :: kvs)
  | consI {i : Int} {v : V} {w : W} {es : DEs} {kvs : List (W × W)} : HR K H F v w → DRel K H F es kvs → DRel K H F ((.num i, .int i, v) :: es) ((.int i, w) :: kvs)
theorem DRel.length {K : PySem.W.Frag} {H : Hp} {F : Addr → Prop} {es : DEs} {kvs : List (W × W)} (h : DRel K H F es kvs) : es.length = kvs.length := by
  induction h with
  | nil => rfl
  | cons _ _ _ _ _ ih => simp [ih]
  | consI _ _ ih => simp [ih]
/-- an object that one name alone holds -/
def Cell (K : PySem.W.Frag) (H : Hp) (F : Addr → Prop) (a : Addr) (w : W) : Prop := match w with
  | .lst ws => ∃ vs, H a = some (.lst vs) ∧ vs.length ≤ szL ∧ HRs K H F vs ws
  | .dct kvs => ∃ es, (∃ ep, H a = some (dcO a es ep)) ∧ es.length ≤ szL ∧ (es.map (·.1)).Nodup ∧ DRel K H F es kvs
  | _ => False
/-- what may be read now -/
def PkR (K : PySem.W.Frag) (H : Hp) (F : Addr → Prop) (v : V) (w : W) : Prop := HR K H F v w ∨ ∃ c, v = .ref c ∧ Cell K H F c w

section
variable {K : PySem.W.Frag} {H H' : Hp} {F F' : Addr → Prop}
theorem HRs.length {vs : List V} {ws : List W} (h : HRs K H F vs ws) : vs.length = ws.length := by
  induction ws generalizing vs with
  | nil => cases h; rfl
  | cons w ws ih => cases h with | cons _ t => simp [ih t]
theorem HRs.get {vs : List V} {ws : List W} {i : Nat} {w : W} (h : HRs K H F vs ws) (e : ws[i]? = some w) : ∃ v, vs[i]? = some v ∧ HR K H F v w := by
  induction ws generalizing vs i with
  | nil => simp at e
  | cons w' ws ih =>
    cases h with
    | cons r t => cases i with
      | zero => simp at e; subst e; exact ⟨_, rfl, r⟩
      | succ i => simpa using ih t (by simpa using e)
theorem HRs.getV {vs : List V} {ws : List W} {i : Nat} {v : V} (h : HRs K H F vs ws) (e : vs[i]? = some v) : ∃ w, ws[i]? = some w ∧ HR K H F v w := by
  induction ws generalizing vs i with
  | nil => cases h; simp at e
  | cons w' ws ih =>
    cases h with
    | cons r t => cases i with
      | zero => simp at e; subst e; exact ⟨_, rfl, r⟩
      | succ i => simpa using ih t (by simpa using e)
theorem HRs.append {vs vs' : List V} {ws ws' : List W} (h : HRs K H F vs ws) (h' : HRs K H F vs' ws') : HRs K H F (vs ++ vs') (ws ++ ws') := by
  induction ws generalizing vs with
  | nil => cases h; exact h'
  | cons w ws ih => cases h with | cons r t => exact .cons r (ih t)
theorem HRs.one {v : V} {w : W} (h : HR K H F v w) : HRs K H F [v] [w] := .cons h .nil
theorem HRs.take {vs : List V} {ws : List W} (h : HRs K H F vs ws) (n : Nat) : HRs K H F (vs.take n) (ws.take n) := by
  induction n generalizing vs ws with
  | zero => simp; exact .nil
  | succ n ih => cases h with
    | nil => exact .nil
    | cons r t => exact .cons r (ih t)
theorem HRs.drop {vs : List V} {ws : List W} (h : HRs K H F vs ws) (n : Nat) : HRs K H F (vs.drop n) (ws.drop n) := by
  induction n generalizing vs ws with
  | zero => simpa
  | succ n ih => cases h with
    | nil => exact .nil
    | cons r t => simpa using ih t
theorem HRs.set {vs : List V} {ws : List W} {v : V} {w : W} (h : HRs K H F vs ws) (r : HR K H F v w) (n : Nat) : HRs K H F (vs.set n v) (ws.set n w) := by
  induction ws generalizing vs n with
  | nil => cases h; exact .nil
  | cons w' ws ih => cases h with
    | cons q t => cases n with
      | zero => exact .cons r t
      | succ n => exact .cons q (ih t n)
theorem HRs.reverse {vs : List V} {ws : List W} (h : HRs K H F vs ws) : HRs K H F vs.reverse ws.reverse := by
  induction ws generalizing vs with
  | nil => cases h; exact .nil
  | cons w ws ih => cases h with | cons r t => simpa using (ih t).append (.one r)
theorem HRs.dropLast {vs : List V} {ws : List W} (h : HRs K H F vs ws) : HRs K H F vs.dropLast ws.dropLast := by
  rw [List.dropLast_eq_take, List.dropLast_eq_take, h.length]
  exact h.take _
theorem HRs.split {vs : List V} {w : W} {ws : List W} (h : HRs K H F vs (w :: ws)) : ∃ v r, vs = v :: r ∧ HR K H F v w ∧ HRs K H F r ws := by
  cases h with | cons a b => exact ⟨_, _, rfl, a, b⟩
theorem HRs.nl {vs : List V} (h : HRs K H F vs []) : vs = [] := by cases h; rfl

mutual
theorem HR.mono (hS : ∀ a xs, SqT K H a xs → SqT K H' a xs) (hF : ∀ a, F a → F' a) (hL : ∀ a xs, F a → Rd H a (.lst xs) → Rd H' a (.lst xs)) {v : V} {w : W} : HR K H F v w → HR K H' F' v w
  | .non => .non
  | .bl b => .bl b
  | .int i => .int i
  | .str s h k => .str s h k
  | .tup a b c => .tup (hS _ _ a) b (HRs.mono hS hF hL c)
  | .lst a b c d => .lst (hF _ a) (hL _ _ a b) c (HRs.mono hS hF hL d)
theorem HRs.mono (hS : ∀ a xs, SqT K H a xs → SqT K H' a xs) (hF : ∀ a, F a → F' a) (hL : ∀ a xs, F a → Rd H a (.lst xs) → Rd H' a (.lst xs)) {vs : List V} {ws : List W} : HRs K H F vs ws → HRs K H' F' vs ws
  | .nil => .nil
  | .cons a b => .cons (HR.mono hS hF hL a) (HRs.mono hS hF hL b)
end
theorem PkR.of {v : V} {w : W} (h : HR K H F v w) : PkR K H F v w := .inl h
/-- a list to be read -/
theorem PkR.rd {v : V} {ws : List W} (h : PkR K H F v (.lst ws)) : ∃ a vs, v = .ref a ∧ Rd H a (.lst vs) ∧ vs.length ≤ szL ∧ HRs K H F vs ws := by
  rcases h with h | ⟨c, e, h⟩
  · cases h with | lst a b c d => exact ⟨_, _, rfl, b, c, d⟩
  · obtain ⟨vs, a, b, d⟩ := h
    exact ⟨c, vs, e, .inl a, b, d⟩
theorem PkR.lst {v : V} {ws : List W} (h : PkR K H F v (.lst ws)) : ∃ a vs, v = .ref a ∧ SqL K H a vs ∧ vs.length ≤ szL ∧ HRs K H F vs ws := by
  obtain ⟨a, vs, e, r, z, q⟩ := h.rd
  exact ⟨a, vs, e, .inl r, z, q⟩
theorem HR.tupI {v : V} {ws : List W} (h : HR K H F v (.tup ws)) : ∃ a vs, v = .ref a ∧ SqT K H a vs ∧ vs.length ≤ szL ∧ HRs K H F vs ws := by
  cases h with | tup a b c => exact ⟨_, _, rfl, a, b, c⟩
theorem PkR.tup {v : V} {ws : List W} (h : PkR K H F v (.tup ws)) : ∃ a vs, v = .ref a ∧ SqT K H a vs ∧ vs.length ≤ szL ∧ HRs K H F vs ws := by
  rcases h with h | ⟨c, e, h⟩
  · exact h.tupI
  · exact h.elim
theorem PkR.int {v : V} {i : Int} (h : PkR K H F v (.int i)) : v = .int i := by
  rcases h with h | ⟨c, e, h⟩
  · cases h; rfl
  · exact h.elim
theorem PkR.bl {v : V} {i : Bool} (h : PkR K H F v (.bl i)) : v = .bl i := by
  rcases h with h | ⟨c, e, h⟩
  · cases h; rfl
  · exact h.elim
theorem PkR.non {v : V} (h : PkR K H F v .non) : v = .non := by
  rcases h with h | ⟨c, e, h⟩
  · cases h; rfl
  · exact h.elim
theorem PkR.str {v : V} {s : Cs} (h : PkR K H F v (.str s)) : v = .str (S8 s) ∧ s.length ≤ szL ∧ PyData.strOk (S8 s) = true := by
  rcases h with h | ⟨c, e, h⟩
  · cases h with | str _ a b => exact ⟨rfl, a, b⟩
  · exact h.elim
theorem PkR.dct {v : V} {s : List (W × W)} (h : PkR K H F v (.dct s)) : ∃ a es, v = .ref a ∧ (∃ ep, H a = some (dcO a es ep)) ∧ es.length ≤ szL ∧ (es.map (·.1)).Nodup ∧ DRel K H F es s := by
  rcases h with h | ⟨c, e, h⟩
  · cases h
  · obtain ⟨es, h⟩ := h
    exact ⟨c, es, e, h⟩
theorem PkR.st {v : V} {s : List W} (h : PkR K H F v (.st s)) : False := by
  rcases h with h | ⟨c, e, h⟩
  · cases h
  · exact h.elim
theorem PkR.inl' {v : V} {w : W} (h : HR K H F v w) : PkR K H F v w := .inl h
theorem szL_eq : szL = sizeLine := by decide

/-! ### == of data -/
mutual
def pd : W → PyData
  | .non => .none | .bl b => .bool b | .int i => .int i | .str s => .str (S8 s) | .tup xs => .tuple (pds xs) | .lst xs => .list (pds xs) | .dct _ => .none | .st _ => .none
def pds : List W → List PyData
  | [] => []
  | x :: xs => pd x :: pds xs
end
mutual
theorem HR.dp {v : V} {w : W} (hl : ∀ a vs, F a → Rd H a (.lst vs) → SqL K H a vs) : HR K H F v w → Dp K H v (pd w)
  | .non => by simp only [pd]; exact .non
  | .bl b => by simp only [pd]; exact .bl b
  | .int i => by simp only [pd]; exact .int i
  | .str s h k => by simp only [pd]; exact .str _
  | .tup a b c => by simp only [pd]; exact .tup a (HRs.dp hl c)
  | .lst a b c d => by simp only [pd]; exact .lst (hl _ _ a b) (HRs.dp hl d)
theorem HRs.dp {vs : List V} {ws : List W} (hl : ∀ a vs, F a → Rd H a (.lst vs) → SqL K H a vs) : HRs K H F vs ws → DpAll K H vs (pds ws)
  | .nil => by simp only [pds]; exact .nil
  | .cons a b => by simp only [pds]; exact .cons (HR.dp hl a) (HRs.dp hl b)
end
theorem PkR.dp {v : V} {w : W} (h : PkR K H F v w) (hd : dep w < 1000) : Dp K H v (pd w) := by
  rcases h with h | ⟨c, e, h⟩
  · exact h.dp fun _ _ _ r => .inl r
  · subst e
    cases w <;> first | exact h.elim | skip
    case dct => exact absurd hd (by simp [dep])
    obtain ⟨vs, a, b, d⟩ := h
    simp only [pd]
    exact .lst (.inl (.inl a)) (d.dp fun _ _ _ r => .inl r)
mutual
theorem HR.lay {v : V} {w : W} : HR K H F v w → (pd w).canLay0 = true
  | .non => by simp only [pd]; rfl
  | .bl b => by simp only [pd]; rfl
  | .int i => by simp only [pd]; rfl
  | .str s h k => by simp only [pd]; simpa [PyData.canLay0] using k
  | .tup a b c => by simp only [pd]; simpa [PyData.canLay0] using HRs.lay c
  | .lst a b c d => by simp only [pd]; simpa [PyData.canLay0] using HRs.lay d
theorem HRs.lay {vs : List V} {ws : List W} : HRs K H F vs ws → PyData.canLayAll0 (pds ws) = true
  | .nil => by simp only [pds]; rfl
  | .cons a b => by simp only [pds]; simp [PyData.canLayAll0, HR.lay a, HRs.lay b]
end
theorem PkR.lay {v : V} {w : W} (h : PkR K H F v w) : (pd w).canLay0 = true := by
  rcases h with h | ⟨c, e, h⟩
  · exact h.lay
  · cases w <;> first | exact h.elim | skip
    case dct => simp only [pd]; rfl
    obtain ⟨vs, a, b, d⟩ := h
    simp only [pd]
    simpa [PyData.canLay0] using d.lay
mutual
theorem dep_pd : ∀ w : W, (pd w).depth ≤ dep w
  | .non => by simp [pd, PyData.depth]
  | .bl _ => by simp [pd, PyData.depth]
  | .int _ => by simp [pd, PyData.depth]
  | .str _ => by simp [pd, PyData.depth]
  | .tup xs => by have := deps_pd xs; simp only [pd, PyData.depth, dep]; omega
  | .lst xs => by have := deps_pd xs; simp only [pd, PyData.depth, dep]; omega
  | .dct _ => by simp [pd, PyData.depth]
  | .st _ => by simp [pd, PyData.depth]
theorem deps_pd : ∀ ws : List W, PyData.depthAll (pds ws) ≤ deps ws
  | [] => by simp [pds, PyData.depthAll]
  | w :: ws => by have := dep_pd w; have := deps_pd ws; simp only [pds, PyData.depthAll, deps]; omega
end
theorem s8_beq (x y : Cs) : ((S8 x) == (S8 y)) = (x == y) := by
  rw [Bool.eq_iff_iff]; simp
mutual
theorem eqv_pd : ∀ {v v' : V} (x y : W), dep x < 1000 → dep y < 1000 → PyData.eqv (pd x) (pd y) = eqW x y
  | _, _, x, y, h, h' => by
    cases x <;> cases y <;> first
      | (simp only [dep] at h h'; omega)
      | (simp only [pd, PyData.eqv, eqW]; done)
      | (simp only [pd, PyData.eqv, eqW]; exact s8_beq _ _)
      | (simp only [pd, PyData.eqv, eqW]; simp only [dep] at h h'; exact eqvs_pd _ _ (by omega) (by omega))
theorem eqvs_pd : ∀ (x y : List W), deps x < 1000 → deps y < 1000 → PyData.eqvAll (pds x) (pds y) = eqWs x y
  | [], [], _, _ => by simp [pds, PyData.eqvAll, eqWs]
  | [], _ :: _, _, _ => by simp [pds, PyData.eqvAll, eqWs]
  | _ :: _, [], _, _ => by simp [pds, PyData.eqvAll, eqWs]
  | x :: xs, y :: ys, h, h' => by
    simp only [deps] at h h'
    simp only [pds, PyData.eqvAll, eqWs]
    rw [eqv_pd (v := .non) (v' := .non) x y (by omega) (by omega), eqvs_pd xs ys (by omega) (by omega)]
end
end
end Py

namespace Py
open PySem PySem.Spec PyProof.Rows L2
variable [HW]
abbrev Sg := L2.St

/-- the name i holds the object at a alone -/
def SlA (σ : Sg) (ρ : Env) (i : Nat) (a : Addr) : Prop := ∃ (w : W) (f : Fl), ρ[i]? = some (some (w, f)) ∧ f ≠ Fl.sh ∧ σ[i]? = some (some (V.ref a))
/-- .. and may change it -/
def Om (σ : Sg) (ρ : Env) (a : Addr) : Prop := ∃ (i : Nat) (w : W) (f : Fl), ρ[i]? = some (some (w, f)) ∧ (f = Fl.own ∨ f = Fl.io) ∧ σ[i]? = some (some (V.ref a))
/-- .. and it is the name's alone -/
def Ow (σ : Sg) (ρ : Env) (a : Addr) : Prop := ∃ (i : Nat) (w : W) (f : Fl), ρ[i]? = some (some (w, f)) ∧ (f = Fl.own ∨ f = Fl.ownL) ∧ σ[i]? = some (some (V.ref a))
theorem Om.sl {σ : Sg} {ρ : Env} {a : Addr} (h : Om σ ρ a) : ∃ i, SlA σ ρ i a := by
  obtain ⟨i, w, f, a, b, c⟩ := h
  exact ⟨i, w, f, a, by rcases b with rfl | rfl <;> decide, c⟩

/-- names, slots, the heap; Pn: new objects that nothing holds yet; A: the objects of the parameters that the caller sees changed -/
structure SRel (K : PySem.W.Frag) (A : Nat → Option Addr) (σ : Sg) (ρ : Env) (H : Hp) (F : Addr → Prop) (Pn : List (Addr × W)) : Prop where
  ln : ρ.length = σ.length
  sh : ∀ (i : Nat) (w : W), ρ[i]? = some (some (w, Fl.sh)) → ∃ v, σ[i]? = some (some v) ∧ HR K H F v w
  ow : ∀ (i : Nat) (w : W) (f : Fl), ρ[i]? = some (some (w, f)) → f ≠ .sh → ∃ a, σ[i]? = some (some (V.ref a)) ∧ ¬ F a ∧ Cell K H F a w
  io : ∀ (i : Nat) (w : W) (f : Fl), ρ[i]? = some (some (w, f)) → (f = .io ∨ f = .ioL) → ∃ a, A i = some a ∧ σ[i]? = some (some (V.ref a))
  dj : ∀ i j a, SlA σ ρ i a → SlA σ ρ j a → i = j
  pn : ∀ p ∈ Pn, ¬ F p.1 ∧ Cell K H F p.1 p.2 ∧ ∀ i, ¬ SlA σ ρ i p.1
  pd : (Pn.map (·.1)).Nodup
  ff : ∀ a, F a → ∃ o, H a = some o

/-- what a step keeps -/
structure Stp (σ : Sg) (ρ : Env) (H : Hp) (F : Addr → Prop) (σ' : Sg) (ρ' : Env) (H' : Hp) (F' : Addr → Prop) : Prop where
  kp : ∀ a o, H a = some o → ¬ Om σ ρ a → H' a = some o
  fr : ∀ a, F a → F' a
  nf : ∀ a o, H a = some o → F' a → F a ∨ ∃ i, SlA σ ρ i a
  no : ∀ a o, H a = some o → Om σ' ρ' a → Om σ ρ a
  ns : ∀ a o, H a = some o → ∀ i, SlA σ' ρ' i a → SlA σ ρ i a
  nw : ∀ a o, H a = some o → Ow σ' ρ' a → Ow σ ρ a
  al : ∀ a o, H a = some o → ∃ o', H' a = some o'

section
variable {K : PySem.W.Frag} {A : Nat → Option Addr} {σ σ' σ'' : Sg} {ρ ρ' ρ'' : Env} {H H' H'' : Hp} {F F' F'' : Addr → Prop} {Pn Pn' : List (Addr × W)}

/-- what may change -/
def Mut : HO → Prop
  | .lst _ => True
  | .ext _ => True
  | _ => False
theorem no_tup {a : Addr} {o : HO} {xs : List V} (e : H a = some o) (m : Mut o) (h : Rd H a (.tup xs)) : False := by
  rcases h with h | ⟨o', h⟩ <;> (rw [e] at h; cases h; exact m)
theorem Cell.obj {a : Addr} {w : W} (h : Cell K H F a w) : ∃ o, H a = some o ∧ Mut o := by
  cases w <;> first | exact h.elim | skip
  · obtain ⟨vs, e, _⟩ := h
    exact ⟨_, e, trivial⟩
  · obtain ⟨es, ⟨ep, e⟩, _⟩ := h
    exact ⟨_, e, trivial⟩
theorem SRel.slc (h : SRel K A σ ρ H F Pn) {i : Nat} {a : Addr} (s : SlA σ ρ i a) : ¬ F a ∧ ∃ o, H a = some o ∧ Mut o := by
  obtain ⟨w, f, e, nf, eσ⟩ := s
  obtain ⟨b, eb, nF, c⟩ := h.ow i w f e nf
  rw [eσ] at eb; cases eb
  exact ⟨nF, c.obj⟩
theorem SRel.omc (h : SRel K A σ ρ H F Pn) {a : Addr} (s : Om σ ρ a) : ¬ F a ∧ ∃ o, H a = some o ∧ Mut o := let ⟨_, x⟩ := s.sl; h.slc x

theorem Stp.refl : Stp σ ρ H F σ ρ H F := ⟨fun _ _ h _ => h, fun _ h => h, fun _ _ _ h => .inl h, fun _ _ _ h => h, fun _ _ _ i h => h, fun _ _ _ h => h, fun _ o h => ⟨o, h⟩⟩
theorem Stp.trans (x : Stp σ ρ H F σ' ρ' H' F') (y : Stp σ' ρ' H' F' σ'' ρ'' H'' F'') : Stp σ ρ H F σ'' ρ'' H'' F'' := by
  refine ⟨fun a o h n => ?_, fun a h => y.fr a (x.fr a h), fun a o h f => ?_, fun a o h f => ?_, fun a o h i f => ?_, fun a o h f => ?_, fun a o h => ?_⟩
  · exact y.kp a o (x.kp a o h n) fun z => n (x.no a o h z)
  · obtain ⟨o', e⟩ := x.al a o h
    rcases y.nf a o' e f with z | ⟨i, z⟩
    · exact x.nf a o h z
    · exact .inr ⟨i, x.ns a o h i z⟩
  · obtain ⟨o', e⟩ := x.al a o h
    exact x.no a o h (y.no a o' e f)
  · obtain ⟨o', e⟩ := x.al a o h
    exact x.ns a o h i (y.ns a o' e i f)
  · obtain ⟨o', e⟩ := x.al a o h
    exact x.nw a o h (y.nw a o' e f)
  · obtain ⟨o', e⟩ := x.al a o h
    exact y.al a o' e

theorem Stp.rd (hs : SRel K A σ ρ H F Pn) (st : Stp σ ρ H F σ' ρ' H' F') {a : Addr} {u : HO} (h : Rd H a u) (nl : ¬ ∃ i, SlA σ ρ i a) : Rd H' a u := by
  have n : ¬ Om σ ρ a := fun z => nl z.sl
  rcases h with h | ⟨o, h⟩
  · exact .inl (st.kp _ _ h n)
  · exact .inr ⟨o, st.kp _ _ h n⟩
theorem Stp.sqt (hs : SRel K A σ ρ H F Pn) (st : Stp σ ρ H F σ' ρ' H' F') (a : Addr) (xs : List V) (h : SqT K H a xs) : SqT K H' a xs := by
  rcases h with h | h
  · refine .inl (st.rd hs h ?_)
    rintro ⟨i, s⟩
    obtain ⟨_, vs, e, m⟩ := hs.slc s
    exact no_tup e m h
  · exact .inr h
theorem Stp.hr (hs : SRel K A σ ρ H F Pn) (st : Stp σ ρ H F σ' ρ' H' F') {v : V} {w : W} (h : HR K H F v w) : HR K H' F' v w :=
  h.mono (st.sqt hs) st.fr fun a xs f r => st.rd hs r fun ⟨i, s⟩ => (hs.slc s).1 f
theorem Stp.hrs (hs : SRel K A σ ρ H F Pn) (st : Stp σ ρ H F σ' ρ' H' F') {v : List V} {w : List W} (h : HRs K H F v w) : HRs K H' F' v w :=
  h.mono (st.sqt hs) st.fr fun a xs f r => st.rd hs r fun ⟨i, s⟩ => (hs.slc s).1 f
theorem Stp.drel (hs : SRel K A σ ρ H F Pn) (st : Stp σ ρ H F σ' ρ' H' F') {es : DEs} {kvs : List (W × W)} (h : DRel K H F es kvs) : DRel K H' F' es kvs := by
  induction h with
  | nil => exact .nil
  | cons a b c d _ ih => exact .cons a b (st.hr hs c) (st.hr hs d) ih
  | consI d _ ih => exact .consI (st.hr hs d) ih
theorem SRel.perm (h : SRel K A σ ρ H F Pn) (p : Pn.Perm Pn') : SRel K A σ ρ H F Pn' :=
  ⟨h.ln, h.sh, h.ow, h.io, h.dj, fun q hq => h.pn q (p.mem_iff.mpr hq), (p.map _).nodup_iff.mp h.pd, h.ff⟩
theorem SRel.drop (h : SRel K A σ ρ H F (Pn' ++ Pn)) : SRel K A σ ρ H F Pn :=
  ⟨h.ln, h.sh, h.ow, h.io, h.dj, fun q hq => h.pn q (List.mem_append_right _ hq), by have := h.pd; rw [List.map_append] at this; exact (List.nodup_append.mp this).2.1, h.ff⟩

/-- a larger frozen part -/
theorem HR.more (hF : ∀ a, F a → F' a) {v : V} {w : W} (h : HR K H F v w) : HR K H F' v w := h.mono (fun _ _ q => q) hF fun _ _ _ r => r
theorem HRs.more (hF : ∀ a, F a → F' a) {v : List V} {w : List W} (h : HRs K H F v w) : HRs K H F' v w := h.mono (fun _ _ q => q) hF fun _ _ _ r => r
theorem DRel.mono (hS : ∀ a xs, SqT K H a xs → SqT K H' a xs) (hF : ∀ a, F a → F' a) (hL : ∀ a xs, F a → Rd H a (.lst xs) → Rd H' a (.lst xs)) {es : DEs} {kvs : List (W × W)} (h : DRel K H F es kvs) : DRel K H' F' es kvs := by
  induction h with
  | nil => exact .nil
  | cons a b c d _ ih => exact .cons a b (c.mono hS hF hL) (d.mono hS hF hL) ih
  | consI d _ ih => exact .consI (d.mono hS hF hL) ih
theorem DRel.more (hF : ∀ a, F a → F' a) {es : DEs} {kvs : List (W × W)} (h : DRel K H F es kvs) : DRel K H F' es kvs := h.mono (fun _ _ q => q) hF fun _ _ _ r => r
theorem Cell.more (hF : ∀ a, F a → F' a) {a : Addr} {w : W} (h : Cell K H F a w) : Cell K H F' a w := by
  cases w <;> first | exact h.elim | skip
  · obtain ⟨vs, e, z, q⟩ := h
    exact ⟨vs, e, z, q.more hF⟩
  · obtain ⟨es, e, z, n, q⟩ := h
    exact ⟨es, e, z, n, q.more hF⟩
def fz (F : Addr → Prop) (c : Addr) : Addr → Prop := fun a => F a ∨ a = c
theorem Cell.hr {a : Addr} {w : W} (h : Cell K H F a w) (hd : isD w = false) : HR K H (fz F a) (.ref a) w := by
  cases w <;> first | exact h.elim | (cases hd; done) | skip
  obtain ⟨vs, e, z, q⟩ := h
  exact .lst (.inr rfl) (.inl e) z (q.more fun _ => .inl)
/-- a new object is frozen -/
theorem SRel.freeze {P1 : List (Addr × W)} {c : Addr} {w : W} (h : SRel K A σ ρ H F (P1 ++ (c, w) :: Pn)) (nd : isD w = false) : SRel K A σ ρ H (fz F c) (P1 ++ Pn) ∧ HR K H (fz F c) (.ref c) w := by
  have hc := h.pn (c, w) (by simp)
  have hd : c ∉ (P1 ++ Pn).map (·.1) ∧ ((P1 ++ Pn).map (·.1)).Nodup := by
    have := h.pd
    rw [List.map_append, List.map_cons] at this
    have q := (List.perm_middle (a := c) (l₁ := P1.map (·.1)) (l₂ := Pn.map (·.1))).nodup_iff.mp this
    rw [← List.map_append] at q
    exact List.nodup_cons.mp q
  refine ⟨⟨h.ln, fun i w e => ?_, fun i w f e n => ?_, h.io, h.dj, fun p hp => ?_, hd.2, fun a q => ?_⟩, hc.2.1.hr nd⟩
  · obtain ⟨v, a, b⟩ := h.sh i w e
    exact ⟨v, a, b.more fun _ => .inl⟩
  · obtain ⟨a, x, y, z⟩ := h.ow i w f e n
    refine ⟨a, x, ?_, z.more fun _ => .inl⟩
    rintro (q | rfl)
    · exact y q
    · exact hc.2.2 i ⟨w, f, e, n, x⟩
  · have hm : p ∈ P1 ++ (c, w) :: Pn := by
      rcases List.mem_append.mp hp with q | q
      · exact List.mem_append_left _ q
      · exact List.mem_append_right _ (List.mem_cons_of_mem _ q)
    obtain ⟨x, y, z⟩ := h.pn p hm
    refine ⟨?_, y.more fun _ => .inl, z⟩
    rintro (q | q)
    · exact x q
    · exact hd.1 (q ▸ List.mem_map_of_mem hp)
  · rcases q with q | rfl
    · exact h.ff a q
    · obtain ⟨vs, e, _⟩ := hc.2.1.obj
      exact ⟨_, e⟩

/-! ### arguments -/
/-- an argument and its value -/
def AR (K : PySem.W.Frag) (σ : Sg) (H : Hp) (F : Addr → Prop) : Arg → V → Prop
  | .val w false, v => HR K H F v w
  | .val _ true, v => ∃ c, v = .ref c
  | .slot i, v => σ[i]? = some (some v)
def pnd : Arg → V → List (Addr × W)
  | .val w true, .ref c => [(c, w)]
  | _, _ => []
inductive ARs (K : PySem.W.Frag) (σ : Sg) (H : Hp) (F : Addr → Prop) : List Arg → List V → Prop
  | nil : ARs K σ H F [] []
  | cons {a : Arg} {v : V} {as : List Arg} {vs : List V} : AR K σ H F a v → ARs K σ H F as vs → ARs K σ H F (a :: as) (v :: vs)
def pnds : List Arg → List V → List (Addr × W)
  | a :: as, v :: vs => pnds as vs ++ pnd a v
  | _, _ => []
theorem AR.stp (hs : SRel K A σ ρ H F Pn) (st : Stp σ ρ H F σ ρ' H' F') {a : Arg} {v : V} (h : AR K σ H F a v) : AR K σ H' F' a v := by
  cases a with
  | slot i => exact h
  | val w fr => cases fr with
    | true => exact h
    | false => exact st.hr hs h
theorem wOf_eq {i : Nat} {x : W × Fl} : wOf ρ i = some x ↔ ρ[i]? = some (some x) := by
  unfold wOf
  cases h : ρ[i]? with
  | none => simp
  | some y => cases y <;> simp
/-- what a name holds may be read -/
theorem SRel.peek (hs : SRel K A σ ρ H F Pn) {i : Nat} {w : W} {f : Fl} {v : V} (h : wOf ρ i = some (w, f)) (e : σ[i]? = some (some v)) : PkR K H F v w := by
  rw [wOf_eq] at h
  by_cases hf : f = .sh
  · subst hf
    obtain ⟨u, a, b⟩ := hs.sh i w h
    rw [e] at a; cases a
    exact .inl b
  · obtain ⟨u, a, b, c⟩ := hs.ow i w f h hf
    rw [e] at a; cases a
    exact .inr ⟨u, rfl, c⟩
theorem SRel.val (hs : SRel K A σ ρ H F Pn) {i : Nat} {x : W × Fl} (h : wOf ρ i = some x) : ∃ v, σ[i]? = some (some v) := by
  rw [wOf_eq] at h
  obtain ⟨w, f⟩ := x
  by_cases hf : f = .sh
  · subst hf
    obtain ⟨u, a, b⟩ := hs.sh i w h
    exact ⟨u, a⟩
  · obtain ⟨u, a, b, c⟩ := hs.ow i w f h hf
    exact ⟨_, a⟩
theorem AR.peek {P1 : List (Addr × W)} {a : Arg} {v : V} {w : W} (hs : SRel K A σ ρ H F P1) (hp : ∀ p ∈ pnd a v, p ∈ P1) (h : AR K σ H F a v) (e : res ρ a = some w) : PkR K H F v w := by
  cases a with
  | val u fr =>
    obtain rfl : u = w := Option.some.inj e
    cases fr with
    | false => exact .inl h
    | true =>
      obtain ⟨c, rfl⟩ := h
      exact .inr ⟨c, rfl, (hs.pn (c, u) (hp _ (by simp [pnd]))).2.1⟩
  | slot i =>
    simp only [res] at e
    cases q : wOf ρ i with
    | none => rw [q] at e; cases e
    | some x =>
      rw [q] at e
      obtain ⟨x, f⟩ := x
      obtain rfl : x = w := Option.some.inj e
      exact hs.peek q h
inductive PkRs (K : PySem.W.Frag) (H : Hp) (F : Addr → Prop) : List V → List W → Prop
  | nil : PkRs K H F [] []
  | cons {v : V} {w : W} {vs : List V} {ws : List W} : PkR K H F v w → PkRs K H F vs ws → PkRs K H F (v :: vs) (w :: ws)
theorem ARs.peek {P1 : List (Addr × W)} (hs : SRel K A σ ρ H F P1) : ∀ {as : List Arg} {vs : List V} {ws : List W}, (∀ p ∈ pnds as vs, p ∈ P1) → ARs K σ H F as vs → ress ρ as = some ws → PkRs K H F vs ws
  | [], _, _, _, .nil, e => by
    obtain rfl := Option.some.inj e
    exact .nil
  | a :: as, v :: vs, ws, hp, .cons h t, e => by
    unfold ress at e
    cases q1 : res ρ a with
    | none => rw [q1] at e; simp at e
    | some w => cases q2 : ress ρ as with
      | none => rw [q1, q2] at e; simp at e
      | some us =>
        rw [q1, q2] at e
        obtain rfl : w :: us = ws := Option.some.inj e
        exact .cons (h.peek hs (fun p z => hp p (List.mem_append_right _ z)) q1) (t.peek hs (fun p z => hp p (List.mem_append_left _ z)) q2)
theorem ARs.stp (hs : SRel K A σ ρ H F Pn) (st : Stp σ ρ H F σ ρ' H' F') {as : List Arg} {vs : List V} (h : ARs K σ H F as vs) : ARs K σ H' F' as vs := by
  induction h with
  | nil => exact .nil
  | cons a _ ih => exact .cons (a.stp hs st) ih

theorem AR.more (hF : ∀ a, F a → F' a) {a : Arg} {v : V} (h : AR K σ H F a v) : AR K σ H F' a v := by
  cases a with
  | slot i => exact h
  | val w fr => cases fr with
    | true => exact h
    | false => exact HR.more hF h
theorem ARs.more (hF : ∀ a, F a → F' a) {as : List Arg} {vs : List V} (h : ARs K σ H F as vs) : ARs K σ H F' as vs := by
  induction h with
  | nil => exact .nil
  | cons a _ ih => exact .cons (a.more hF) ih

theorem ARs.snoc {as : List Arg} {vs : List V} {a : Arg} {v : V} (h : ARs K σ H F as vs) (q : AR K σ H F a v) : ARs K σ H F (as ++ [a]) (vs ++ [v]) := by
  induction h with
  | nil => exact .cons q .nil
  | cons a _ ih => exact .cons a ih

/-! ### a name's place changes -/
theorem get_set {ρ : Env} {i j : Nat} {x : Option (W × Fl)} (h : i < ρ.length) : (ρ.set i x)[j]? = if j = i then some x else ρ[j]? := by
  by_cases e : j = i
  · subst e; rw [List.getElem?_set_self h, if_pos rfl]
  · rw [List.getElem?_set_ne (Ne.symm e), if_neg e]
theorem lt_of_get {α : Type} {l : List α} {i : Nat} {x : α} (h : l[i]? = some x) : i < l.length := (List.getElem?_eq_some_iff.mp h).1

/-- a name gives its object to everybody -/
theorem SRel.give (hs : SRel K A σ ρ H F Pn) {i : Nat} {w : W} {f : Fl} (nd : isD w = false) (e : ρ[i]? = some (some (w, f))) (hf : f = .own ∨ f = .ownL) {v : V} (ev : σ[i]? = some (some v)) :
    ∃ F', SRel K A σ (ρ.set i (some (w, .sh))) H F' Pn ∧ HR K H F' v w ∧ Stp σ ρ H F σ (ρ.set i (some (w, .sh))) H F' := by
  have ns : f ≠ .sh := by rcases hf with rfl | rfl <;> decide
  obtain ⟨c, eσ, nF, hc⟩ := hs.ow i w f e ns
  rw [ev] at eσ; cases eσ
  have hi := lt_of_get e
  have sl : SlA σ ρ i c := ⟨w, f, e, ns, ev⟩
  have back : ∀ {j : Nat} {a : Addr}, SlA σ (ρ.set i (some (w, .sh))) j a → j ≠ i ∧ SlA σ ρ j a := fun {j a} ⟨w', f', e', n', s'⟩ => by
    rw [get_set hi] at e'
    by_cases q : j = i
    · rw [if_pos q] at e'; cases e'; exact absurd rfl n'
    · rw [if_neg q] at e'; exact ⟨q, w', f', e', n', s'⟩
  refine ⟨fz F c, ⟨by simpa using hs.ln, fun j w' e' => ?_, fun j w' f' e' n' => ?_, fun j w' f' e' q => ?_, fun j k a h1 h2 => hs.dj j k a (back h1).2 (back h2).2, fun p hp => ?_, hs.pd, fun a q => ?_⟩, hc.hr nd, ⟨fun _ _ h _ => h, fun _ => .inl, fun a o h q => ?_, fun a o h q => ?_, fun a o h j q => (back q).2, fun a o h q => ?_, fun _ o h => ⟨o, h⟩⟩⟩
  · rw [get_set hi] at e'
    by_cases q : j = i
    · rw [if_pos q] at e'; cases e'
      subst q
      exact ⟨_, ev, hc.hr nd⟩
    · rw [if_neg q] at e'
      obtain ⟨v, a, b⟩ := hs.sh j w' e'
      exact ⟨v, a, b.more fun _ => .inl⟩
  · rw [get_set hi] at e'
    by_cases q : j = i
    · rw [if_pos q] at e'; cases e'; exact absurd rfl n'
    · rw [if_neg q] at e'
      obtain ⟨a, x, y, z⟩ := hs.ow j w' f' e' n'
      refine ⟨a, x, ?_, z.more fun _ => .inl⟩
      rintro (r | rfl)
      · exact y r
      · exact q (hs.dj j i _ ⟨w', f', e', n', x⟩ sl)
  · rw [get_set hi] at e'
    by_cases r : j = i
    · rw [if_pos r] at e'; cases e'; rcases q with q | q <;> cases q
    · rw [if_neg r] at e'; exact hs.io j w' f' e' q
  · obtain ⟨x, y, z⟩ := hs.pn p hp
    refine ⟨?_, y.more fun _ => .inl, fun j q => z j (back q).2⟩
    rintro (r | r)
    · exact x r
    · exact z i (r ▸ sl)
  · rcases q with q | rfl
    · exact hs.ff a q
    · obtain ⟨vs, r, _⟩ := hc.obj
      exact ⟨_, r⟩
  · rcases q with q | rfl
    · exact .inl q
    · exact .inr ⟨i, sl⟩
  · obtain ⟨j, w', f', e', n', s'⟩ := q
    rw [get_set hi] at e'
    by_cases q : j = i
    · rw [if_pos q] at e'; cases e'; rcases n' with n' | n' <;> cases n'
    · rw [if_neg q] at e'; exact ⟨j, w', f', e', n', s'⟩
  · obtain ⟨j, w', f', e', n', s'⟩ := q
    rw [get_set hi] at e'
    by_cases q : j = i
    · rw [if_pos q] at e'; cases e'; rcases n' with n' | n' <;> cases n'
    · rw [if_neg q] at e'; exact ⟨j, w', f', e', n', s'⟩
/-- an argument becomes a value -/
theorem AR.share {P1 : List (Addr × W)} {a : Arg} {v : V} {w : W} (hs : SRel K A σ ρ H F (P1 ++ pnd a v ++ Pn)) (h : AR K σ H F a v) (e : shr ρ a = some (w, ρ')) :
    ∃ F', SRel K A σ ρ' H F' (P1 ++ Pn) ∧ HR K H F' v w ∧ (∀ a, F a → F' a) ∧ ∀ H0 F0 ρ0, Stp σ ρ0 H0 F0 σ ρ H F → (∀ c x, (c, x) ∈ pnd a v → H0 c = none) → Stp σ ρ0 H0 F0 σ ρ' H F' := by
  cases a with
  | val u fr =>
    obtain ⟨nd, rfl, rfl⟩ : isD u = false ∧ u = w ∧ ρ = ρ' := by simpa [shr] using e
    cases fr with
    | false => exact ⟨F, by simpa [pnd] using hs, h, fun _ q => q, fun _ _ _ st _ => st⟩
    | true =>
      obtain ⟨c, rfl⟩ := h
      have hs' : SRel K A σ ρ H F (P1 ++ (c, u) :: Pn) := by simpa [pnd] using hs
      obtain ⟨x, y⟩ := hs'.freeze nd
      refine ⟨_, x, y, fun _ => .inl, fun H0 F0 ρ0 st hn => ⟨st.kp, fun a q => .inl (st.fr a q), fun a o q r => ?_, st.no, st.ns, st.nw, st.al⟩⟩
      rcases r with r | rfl
      · exact st.nf a o q r
      · rw [hn a u (by simp [pnd])] at q; cases q
  | slot i =>
    have hs' : SRel K A σ ρ H F (P1 ++ Pn) := by simpa [pnd] using hs
    unfold shr at e
    cases q : wOf ρ i with
    | none => simp [q] at e
    | some x =>
      obtain ⟨x, f⟩ := x
      have q' := wOf_eq.mp q
      simp only [q] at e
      cases f with
      | sh =>
        obtain ⟨rfl, rfl⟩ : x = w ∧ ρ = ρ' := by simpa using e
        obtain ⟨u, a, b⟩ := hs'.sh i x q'
        rw [show σ[i]? = some (some v) from h] at a; cases a
        exact ⟨F, hs', b, fun _ z => z, fun _ _ _ st _ => st⟩
      | own =>
        obtain ⟨nd, rfl, rfl⟩ : isD x = false ∧ x = w ∧ ρ.set i (some (x, .sh)) = ρ' := by simpa using e
        obtain ⟨F', a, b, c⟩ := hs'.give nd q' (.inl rfl) h
        exact ⟨F', a, b, c.fr, fun _ _ _ st _ => st.trans c⟩
      | ownL =>
        obtain ⟨nd, rfl, rfl⟩ : isD x = false ∧ x = w ∧ ρ.set i (some (x, .sh)) = ρ' := by simpa using e
        obtain ⟨F', a, b, c⟩ := hs'.give nd q' (.inr rfl) h
        exact ⟨F', a, b, c.fr, fun _ _ _ st _ => st.trans c⟩
      | io => simp at e
      | ioL => simp at e
theorem ARs.share : ∀ {as : List Arg} {vs : List V} {ws : List W} {P1 : List (Addr × W)} {ρ ρ' : Env} {F : Addr → Prop}, SRel K A σ ρ H F (P1 ++ pnds as vs ++ Pn) → ARs K σ H F as vs → shrs ρ as = some (ws, ρ') →
    ∃ F', SRel K A σ ρ' H F' (P1 ++ Pn) ∧ HRs K H F' vs ws ∧ (∀ a, F a → F' a) ∧ ∀ H0 F0 ρ0, Stp σ ρ0 H0 F0 σ ρ H F → (∀ c x, (c, x) ∈ pnds as vs → H0 c = none) → Stp σ ρ0 H0 F0 σ ρ' H F'
  | [], _, _, _, _, _, F, hs, .nil, e => by
    obtain ⟨rfl, rfl⟩ : [] = _ ∧ _ = _ := by simpa [shrs] using e
    exact ⟨F, by simpa [pnds] using hs, .nil, fun _ q => q, fun _ _ _ st _ => st⟩
  | a :: as, v :: vs, ws, P1, ρ, ρ', F, hs, .cons h t, e => by
    unfold shrs at e
    cases q1 : shr ρ a with
    | none => simp [q1] at e
    | some x =>
      obtain ⟨w, ρ1⟩ := x
      cases q2 : shrs ρ1 as with
      | none => simp [q1, q2] at e
      | some y =>
        obtain ⟨us, ρ2⟩ := y
        obtain ⟨rfl, rfl⟩ : w :: us = ws ∧ ρ2 = ρ' := by simpa [q1, q2] using e
        have hs1 : SRel K A σ ρ H F ((P1 ++ pnds as vs) ++ pnd a v ++ Pn) := by simpa [pnds] using hs
        obtain ⟨F1, s1, r1, m1, t1⟩ := h.share hs1 q1
        obtain ⟨F2, s2, r2, m2, t2⟩ := ARs.share s1 (t.more m1) q2
        exact ⟨F2, s2, .cons (r1.more m2) r2, fun c z => m2 c (m1 c z), fun H0 F0 ρ0 st hn => t2 H0 F0 ρ0 (t1 H0 F0 ρ0 st fun c x z => hn c x (by simp [pnds, z])) fun c x z => hn c x (by simp [pnds, z])⟩
end
end Py

namespace Py
open PySem PySem.Spec PyProof.Rows L2
variable [HW]

/-- the result of a rule: as it stood, or one new object -/
inductive Nw (K : PySem.W.Frag) (H : Hp) (F : Addr → Prop) : V → Hp → W → Bool → Prop
  | old {v : V} {w : W} : HR K H F v w → Nw K H F v H w false
  | tup {p : Addr} {vs : List V} {ws : List W} : H p = none → vs.length ≤ szL → HRs K H F vs ws → Nw K H F (.ref p) (upd H p (.tup vs)) (.tup ws) false
  | lst {p : Addr} {vs : List V} {ws : List W} : H p = none → vs.length ≤ szL → HRs K H F vs ws → Nw K H F (.ref p) (upd H p (.lst vs)) (.lst ws) true
def Rs (K : PySem.W.Frag) (H : Hp) (F : Addr → Prop) (Q : VK) (r : W × Bool) : Prop := ∀ v H', Nw K H F v H' r.1 r.2 → Q v H'
/-- two read values in, a value out -/
def r2 (K : PySem.W.Frag) (f : W → W → Option (W × Bool)) : R2 := fun x y H Q => ∃ F w u r, PkR K H F x w ∧ PkR K H F y u ∧ f w u = some r ∧ Rs K H F Q r

section
variable {K : PySem.W.Frag} {H : Hp} {F : Addr → Prop} {Q : VK}
theorem Rs.int {i : Int} (h : Rs K H F Q (.int i, false)) : Q (.int i) H := h _ _ (.old (.int i))
theorem Rs.bl {i : Bool} (h : Rs K H F Q (.bl i, false)) : Q (.bl i) H := h _ _ (.old (.bl i))
theorem opImp {X : Cx} {f : Value → Value → Sem Value} {r r' : R2} (h : OpR X f r) (i : ∀ x y H Q, r' x y H Q → r x y H Q) : OpR X f r' :=
  fun pins s σ H x y v u Q I rx ry q => h pins s σ H x y v u Q I rx ry (i _ _ _ _ q)
end

section
variable {X : Cx}
/-- by the two values' forms -/
theorem opBy {f : Value → Value → Sem Value} {g : W → W → Option (W × Bool)}
    (h : ∀ (w u : W) (r : W × Bool) (F : Addr → Prop) (pins : List (Addr × Obj)) (s : Shared) (σ : L2.St) (H : Hp) (x y : V) (v z : Value) (Q : VK), g w u = some r → Inv X pins σ H s → RelV x v → RelV y z → PkR X.K H F x w → PkR X.K H F y u → Rs X.K H F Q r →
      wpAny (model X.prog X.w) X.A (f v z) (EP X pins σ Q) X.xe s) : OpR X f (r2 X.K g) := by
  intro pins s σ H x y v u Q I rx ry ⟨F, w, u', r, a, b, e, q⟩
  exact h w u' r F pins s σ H x y v u Q e I rx ry a b q

theorem log2_bits {i j : Int} (h : bits i + bits j ≤ bitL) : IntMulOk i j := by
  have e : ∀ x : Int, Builtin.Int.intBits x = bits x := fun x => rfl
  have e2 : bitsLine = 134217728 := by decide
  unfold IntMulOk
  intro z
  rw [Bool.and_eq_true] at z
  have z2 := z.2
  unfold Builtin.Int.intTooBig at z2
  have z3 := of_decide_eq_true z2
  rw [e, e, e2] at z3
  unfold bitL at h
  omega

theorem of_if {α : Type} {c : Prop} [Decidable c] {x r : α} (h : (if c then some x else none) = some r) : c ∧ x = r := by
  by_cases k : c
  · rw [if_pos k] at h; exact ⟨k, Option.some.inj h⟩
  · rw [if_neg k] at h; cases h
theorem of_if' {α : Type} {c : Prop} [Decidable c] {x r : α} (h : (if c then none else some x) = some r) : ¬ c ∧ x = r := by
  by_cases k : c
  · rw [if_pos k] at h; cases h
  · rw [if_neg k] at h; exact ⟨k, Option.some.inj h⟩

theorem s8_len (s : Cs) : (S8 s).length = s.length := by simp [S8, Str.length]
theorem s8_app (x y : Cs) : S8 x ++ S8 y = S8 (x ++ y) := by
  show Str.mk (x.toArray ++ y.toArray) = _
  simp [S8]
theorem strOk_s8 (s : Cs) : PyData.strOk (S8 s) = s.all fun c => decide (c < 0x110000) := by
  show s.toArray.all _ = _
  simp

theorem list_at {pins : List (Addr × Obj)} {σ : L2.St} {H : Hp} {s : Shared} {F : Addr → Prop} {ws : List W} {v : V} (I : Inv X pins σ H s) (h : PkR X.K H F v (.lst ws)) :
    ∃ (a : Addr) (vs : List V) (its : List Value) (n : Nat), v = .ref a ∧ vs.length ≤ szL ∧ HRs X.K H F vs ws ∧ Vals vs its ∧ s.heap.get? a = some { cls := .type "list", data := .seq its.toArray n } := by
  obtain ⟨a, vs, rfl, hq, hz, hr⟩ := h.rd
  obtain ⟨_, its, n, rv, e⟩ := hq.ok I.hok
  exact ⟨a, vs, its, n, rfl, hz, hr, rv, e⟩

theorem op_addW : OpR X (binaryOp .Add) (r2 X.K (opW .add)) := by
  refine opBy fun w u r F pins s σ H x y v z Q e I rx ry a b q => ?_
  cases w with
  | int i => cases u with
    | int j =>
      obtain rfl := Option.some.inj e
      obtain rfl := a.int
      obtain rfl := b.int
      exact op_add pins s σ H _ _ v z Q I rx ry ⟨i, j, rfl, rfl, q.int⟩
    | _ => simp [opW] at e
  | str i => cases u with
    | str j =>
      obtain ⟨hz, rfl⟩ := of_if e
      obtain ⟨rfl, z1, k1⟩ := a.str
      obtain ⟨rfl, z2, k2⟩ := b.str
      refine op_add_str pins s σ H _ _ v z Q I rx ry ⟨_, _, rfl, rfl, by rw [s8_len, s8_len]; exact hz, ?_⟩
      rw [s8_app]
      refine q _ _ (.old (.str _ (by rw [List.length_append]; exact hz) ?_))
      rw [strOk_s8] at k1 k2 ⊢
      rw [List.all_append, k1, k2]; rfl
    | _ => simp [opW] at e
  | tup i => cases u with
    | tup j =>
      obtain ⟨hz, rfl⟩ := of_if e
      obtain ⟨p, xs, rfl, sx, zx, hx⟩ := a.tup
      obtain ⟨p', ys, rfl, sy, zy, hy⟩ := b.tup
      have lx := hx.length
      have ly := hy.length
      refine op_catA pins s σ H _ _ v z Q I rx ry ⟨p, p', xs, ys, rfl, rfl, sx, sy, by rw [lx, ly]; exact hz, fun e => ?_, fun e e' => ?_, fun e e' p hp => ?_⟩
      · subst e
        have := hx.length
        obtain rfl : i = [] := List.eq_nil_of_length_eq_zero (by simpa using this.symm)
        exact q _ _ (.old (.tup sy zy (by simpa using hy)))
      · subst e'
        obtain rfl : j = [] := List.eq_nil_of_length_eq_zero (by simpa using hy.length.symm)
        exact q _ _ (.old (.tup sx zx (by simpa using hx)))
      · exact q _ _ (.tup hp (by rw [List.length_append, lx, ly]; exact hz) (hx.append hy))
    | _ => simp [opW] at e
  | lst i => cases u with
    | lst j =>
      obtain ⟨hz, rfl⟩ := of_if e
      obtain ⟨p, xs, its, n, rfl, zx, hx, rv, ho⟩ := list_at I a
      obtain ⟨p', ys, its', n', rfl, zy, hy, rv', ho'⟩ := list_at I b
      cases rx; cases ry
      have lx := hx.length
      have ly := hy.length
      have l1 := rv.length
      have l2 := rv'.length
      refine PySem.P.add_list ho ho' ?_ (by rw [List.size_toArray, List.size_toArray, ← l1, ← l2, lx, ly]; exact hz)
      have ea : its.toArray ++ its'.toArray = (its ++ its').toArray := by simp
      rw [ea]
      exact ⟨.ref _, _, I.lnew (t' := s.toks) (rv.append rv') (by rw [List.length_append, lx, ly]; exact hz), rfl, q _ _ (.lst I.fresh (by rw [List.length_append, lx, ly]; exact hz) (hx.append hy))⟩
    | _ => simp [opW] at e
  | _ => cases u <;> simp [opW] at e
theorem op_subW : OpR X (binaryOp .Sub) (r2 X.K (opW .sub)) := by
  refine opBy fun w u r F pins s σ H x y v z Q e I rx ry a b q => ?_
  cases w with
  | int i => cases u with
    | int j =>
      obtain rfl := Option.some.inj e
      obtain rfl := a.int
      obtain rfl := b.int
      exact op_sub pins s σ H _ _ v z Q I rx ry ⟨i, j, rfl, rfl, q.int⟩
    | _ => simp [opW] at e
  | _ => cases u <;> simp [opW] at e
theorem op_mdW : OpR X (binaryOp .Mod) (r2 X.K (opW .md)) := by
  refine opBy fun w u r F pins s σ H x y v z Q e I rx ry a b q => ?_
  cases w with
  | int i => cases u with
    | int j =>
      obtain ⟨hz, rfl⟩ := of_if' e
      obtain rfl := a.int
      obtain rfl := b.int
      exact op_modN pins s σ H _ _ v z Q I rx ry ⟨i, j, rfl, rfl, hz, q.int⟩
    | _ => simp [opW] at e
  | _ => cases u <;> simp [opW] at e
theorem op_fdW : OpR X (binaryOp .FloorDiv) (r2 X.K (opW .fdv)) := by
  refine opBy fun w u r F pins s σ H x y v z Q e I rx ry a b q => ?_
  cases w with
  | int i => cases u with
    | int j =>
      obtain ⟨⟨hz, hy⟩, rfl⟩ := of_if e
      obtain rfl := a.int
      obtain rfl := b.int
      obtain ⟨t, rfl⟩ := rx
      obtain ⟨t', rfl⟩ := ry
      exact floordiv_int hz ⟨.int _, H, I.tok _, ⟨_, rfl⟩, q.int⟩ (.inl hy)
    | _ => simp [opW] at e
  | _ => cases u <;> simp [opW] at e
theorem rep_rs {K : PySem.W.Frag} {H : Hp} {F : Addr → Prop} {vs : List V} {ws : List W} (h : HRs K H F vs ws) : ∀ n, HRs K H F (List.replicate n vs).flatten (rep ws n)
  | 0 => by unfold rep; simp; exact .nil
  | n + 1 => by
    unfold rep
    simp only [List.replicate_succ, List.flatten_cons]
    exact h.append (rep_rs h n)
theorem op_mulW : OpR X (binaryOp .Mult) (r2 X.K (opW .mul)) := by
  refine opBy fun w u r F pins s σ H x y v z Q e I rx ry a b q => ?_
  cases w with
  | int i => cases u with
    | int j =>
      obtain ⟨hz, rfl⟩ := of_if e
      obtain rfl := a.int
      obtain rfl := b.int
      obtain ⟨t, rfl⟩ := rx
      obtain ⟨t', rfl⟩ := ry
      exact mul_int ⟨.int _, H, I.tok _, ⟨_, rfl⟩, q.int⟩ (log2_bits hz)
    | _ => simp [opW] at e
  | tup i => cases u with
    | int k =>
      obtain ⟨⟨⟨h1, h2⟩, h3, h4⟩, rfl⟩ := of_if e
      obtain ⟨p, xs, rfl, sx, zx, hx⟩ := a.tup
      obtain rfl := b.int
      have lx := hx.length
      have hne : xs ≠ [] := fun e => h4 (List.eq_nil_of_length_eq_zero (by rw [← lx, e]; rfl))
      refine op_repT pins s σ H _ _ v z Q I rx ry ⟨p, k, xs, rfl, rfl, sx, hne, h1, h2, by omega, fun p hp => q _ _ (.tup hp ?_ (rep_rs hx _))⟩
      have := (rep_rs hx k.toNat).length
      rw [PyProof.Rows.lm_len_rep_flat]
      have : k.toNat * xs.length ≤ 1000 * 1000 := Nat.mul_le_mul (by omega) (by omega)
      unfold szL; omega
    | _ => simp [opW] at e
  | lst i => cases u with
    | int k =>
      obtain ⟨⟨hz, h1, h2⟩, rfl⟩ := of_if e
      obtain ⟨p, xs, its, n, rfl, zx, hx, r, ho⟩ := list_at I a
      obtain rfl := b.int
      have lx := hx.length
      have hl := r.length
      cases rx
      obtain ⟨t, rfl⟩ := ry
      have hlen : its.toArray.size * k.toNat ≤ sizeLine := by rw [List.size_toArray, ← hl, lx]; exact hz
      have hcap : ¬ its.toArray.size * k.toNat > (2 ^ 63 - 1) / 8 := by
        have : (sizeLine : Nat) ≤ (2 ^ 63 - 1) / 8 := by decide
        omega
      have hfit : ¬ (!Builtin.List.listFitsIndex k) = true := by
        rw [fitsIndex_both (by omega) (by unfold szL at h2; omega)]
        exact Bool.false_ne_true
      have hlong : ¬ Builtin.List.listTooLong (its.toArray.size * k.toNat) = true := by
        rw [notLongL hlen]
        exact Bool.false_ne_true
      have hnew : List.foldl (fun x1 x2 => x1 ++ x2) #[] (List.replicate (if its.toArray.isEmpty = true then 0 else k.toNat) its.toArray) = (List.replicate k.toNat its).flatten.toArray := by
        rw [L2.size_rep]
        cases its with
        | nil => simp
        | cons a r' => rw [if_neg (by simp)]
      refine wpAny_binaryOp_repeat_ref (T := "list") (U := "int") (by decide) ⟨_, ho, rfl⟩ (fun s' => typeIs_int s' k t) noFill_list_mul PySem.F.fills_int_mul PySem.F.slot_int_rmul repeat_list PySem.F.slot_int_index.lookup
        (call_meets PySem.F.slot_int_rmul (typeIs_int s k t) PySem.F.entry_int_rmul (PySem.F.args_int_rmul_2 _ _) (int___rmul___int_list k t p its.toArray n)
          ⟨ho, rfl, ⟨_, ho, rfl⟩, call_meets PySem.F.slot_list_mul ⟨_, ho, rfl⟩ PySem.F.entry_list_mul (PySem.F.args_list_mul_2 _ _) (AutoListH.list___mul___list_int_3 p its.toArray n k t hfit hcap hlong) ⟨ho, ?_⟩⟩)
      rw [hnew]
      have hz' : (List.replicate k.toNat xs).flatten.length ≤ szL := by rw [PyProof.Rows.lm_len_rep_flat, Nat.mul_comm, lx]; exact hz
      exact ⟨.ref _, _, I.lnew (t' := s.toks) (r.rep k.toNat) hz', rfl, q _ _ (.lst I.fresh hz' (rep_rs hx _))⟩
    | _ => simp [opW] at e
  | _ => cases u <;> simp [opW] at e
end
end Py

namespace Py
open PySem PySem.Spec PyProof.Rows L2
variable [HW]
section
variable {X : Cx} {pins : List (Addr × Obj)} {s : Shared} {σ : Sg} {H : Hp} {F : Addr → Prop}
mutual
/-- a key's tuples as they stand -/
theorem nested_of (I : Inv X pins σ H s) : ∀ {w : W} {v : V} {k : NestedKey} {u : Value}, HR X.K H F v w → nk w = some k → RelV v u → NestedIs s.heap k u
  | .non, v, k, u, h, e, r => by cases h; cases e; cases r; exact .none
  | .bl b, v, k, u, h, e, r => by cases h; cases e; cases r; exact .bool rfl
  | .int i, v, k, u, h, e, r => by cases h; cases e; obtain ⟨t, rfl⟩ := r; exact .int i t
  | .str z, v, k, u, h, e, r => by cases h; cases e; obtain ⟨t, rfl⟩ := r; exact .text _ t
  | .tup ws, v, k, u, h, e, r => by
    cases h with
    | tup a b c =>
      simp only [nk] at e
      obtain ⟨ks, e1, rfl⟩ := Option.map_eq_some_iff.mp e
      cases r
      obtain ⟨its, rv, ⟨o, e2, e3, n, e4⟩, _⟩ := I.tuple a
      exact .tup e2 e3 e4 (by simpa using nesteds_of I c e1 rv)
  | .lst _, v, k, u, h, e, r => by cases e
  | .dct _, v, k, u, h, e, r => by cases e
  | .st _, v, k, u, h, e, r => by cases e
theorem nesteds_of (I : Inv X pins σ H s) : ∀ {ws : List W} {vs : List V} {ks : List NestedKey} {us : List Value}, HRs X.K H F vs ws → nks ws = some ks → Vals vs us → NestedAll s.heap ks us
  | [], vs, ks, us, h, e, r => by cases h; cases e; cases r; exact .nil
  | w :: ws, vs, ks, us, h, e, r => by
    cases h with
    | cons a b =>
      cases r with
      | cons r1 r2 =>
        simp only [nks] at e
        split at e
        · rename_i k l e1 e2
          cases e
          exact .cons (nested_of I a e1 r1) (nesteds_of I b e2 r2)
        · cases e
end

/-- a dict of tuples as it stands -/
inductive XR (K : PySem.W.Frag) (H : Hp) (F : Addr → Prop) : List (NestedKey × Addr × Value) → List (W × W) → Prop
  | nil : XR K H F [] []
  | cons {k : NestedKey} {b : Addr} {v : V} {u : Value} {ws : List W} {w : W} {xs : List (NestedKey × Addr × Value)} {kvs : List (W × W)} : nk (.tup ws) = some k → k.depth ≤ 8 → HR K H F (.ref b) (.tup ws) → HR K H F v w → RelV v u → XR K H F xs kvs → XR K H F ((k, b, u) :: xs) ((.tup ws, w) :: kvs)
/-- a dict of numbers as it stands -/
inductive IR (K : PySem.W.Frag) (H : Hp) (F : Addr → Prop) : List (Int × Value) → List (W × W) → Prop
  | nil : IR K H F [] []
  | cons {i : Int} {v : V} {u : Value} {w : W} {xs : List (Int × Value)} {kvs : List (W × W)} : HR K H F v w → RelV v u → IR K H F xs kvs → IR K H F ((i, u) :: xs) ((.int i, w) :: kvs)
def toX (x : NestedKey × Addr × Value) : DictEntry := ⟨x.1.hash HW.w, .ref x.2.1, x.2.2⟩
theorem xr_of {K : PySem.W.Frag} {H : Hp} {F : Addr → Prop} {es : DEs} {kvs : List (W × W)} (h : DRel K H F es kvs) : ∀ {l : List DictEntry}, allT kvs = true → EntR es l → ∃ xs, l = xs.map toX ∧ XR K H F xs kvs ∧ xs.map (·.1) = es.map (·.1) := by
  induction h with
  | nil => intro l _ e; cases e; exact ⟨[], rfl, .nil, rfl⟩
  | @cons k b v ws w es kvs a c d e _ ih =>
    intro l t r
    cases r with
    | @cons _ _ _ x y _ l' r1 r2 r3 =>
      obtain ⟨xs, e1, e2, e3⟩ := ih (by simpa [allT, isT] using t) r3
      have r1 : x = .ref b := r1
      subst r1
      exact ⟨(k, b, y) :: xs, by rw [e1]; rfl, .cons a c d e r2 e2, by simp [e3]⟩
  | consI _ _ _ => intro l t; simp [allT, isT] at t
theorem xr_to {K : PySem.W.Frag} {H : Hp} {F : Addr → Prop} {xs : List (NestedKey × Addr × Value)} {kvs : List (W × W)} (h : XR K H F xs kvs) : ∃ es, DRel K H F es kvs ∧ EntR es (xs.map toX) ∧ es.map (·.1) = xs.map (·.1) := by
  induction h with
  | nil => exact ⟨[], .nil, .nil, rfl⟩
  | @cons k b v u ws w xs kvs a c d e f _ ih =>
    obtain ⟨es, e1, e2, e3⟩ := ih
    exact ⟨(k, .ref b, v) :: es, .cons a c d e e1, .cons rfl f e2, by simp [e3]⟩
theorem XR.length {K : PySem.W.Frag} {H : Hp} {F : Addr → Prop} {xs : List (NestedKey × Addr × Value)} {kvs : List (W × W)} (h : XR K H F xs kvs) : xs.length = kvs.length := by
  induction h with
  | nil => rfl
  | cons _ _ _ _ _ _ ih => simp [ih]
theorem IR.length {K : PySem.W.Frag} {H : Hp} {F : Addr → Prop} {xs : List (Int × Value)} {kvs : List (W × W)} (h : IR K H F xs kvs) : xs.length = kvs.length := by
  induction h with
  | nil => rfl
  | cons _ _ _ ih => simp [ih]
/-- the entries of a dict of numbers -/
inductive IE : List (Int × Value) → List DictEntry → Prop
  | nil : IE [] []
  | cons {i : Int} {u : Value} {t : Tok} {xs : List (Int × Value)} {l : List DictEntry} : IE xs l → IE ((i, u) :: xs) (⟨hashInt i, .int i t, u⟩ :: l)
theorem ir_of {K : PySem.W.Frag} {H : Hp} {F : Addr → Prop} {es : DEs} {kvs : List (W × W)} (h : DRel K H F es kvs) : ∀ {l : List DictEntry}, allI kvs = true → EntR es l → ∃ xs, IE xs l ∧ IR K H F xs kvs ∧ es.map (·.1) = xs.map (fun x => NestedKey.num x.1) := by
  induction h with
  | nil => intro l _ e; cases e; exact ⟨[], .nil, .nil, rfl⟩
  | cons _ _ _ _ _ _ => intro l t; simp [allI, isI] at t
  | @consI i v w es kvs e _ ih =>
    intro l t r
    cases r with
    | @cons _ _ _ x y _ l' r1 r2 r3 =>
      obtain ⟨xs, e1, e2, e3⟩ := ih (by simpa [allI, isI] using t) r3
      obtain ⟨tk, rfl⟩ := (show ∃ t, x = .int i t from r1)
      exact ⟨(i, y) :: xs, .cons e1, .cons e r2 e2, by simp [e3]⟩
theorem ir_to {K : PySem.W.Frag} {H : Hp} {F : Addr → Prop} {xs : List (Int × Value)} {kvs : List (W × W)} (h : IR K H F xs kvs) : ∀ {l : List DictEntry}, IE xs l → ∃ es, DRel K H F es kvs ∧ EntR es l ∧ es.map (·.1) = xs.map (fun x => NestedKey.num x.1) := by
  induction h with
  | nil => intro l e; cases e; exact ⟨[], .nil, .nil, rfl⟩
  | @cons i v u w xs kvs a b _ ih =>
    intro l e
    cases e with
    | cons e1 =>
      obtain ⟨es, e1, e2, e3⟩ := ih e1
      exact ⟨(.num i, .int i, v) :: es, .consI a e1, .cons ⟨_, rfl⟩ b e2, by simp [e3]⟩
theorem ie_pairs {P : Program} {w : World} {xs : List (Int × Value)} {l : List DictEntry} (h : IE xs l) : Pairs (intKind P w) l xs := by
  induction h with
  | nil => exact .nil
  | cons _ ih => exact .cons (by simp [intKind, Value.isInt]) rfl ih
theorem ie_keys {P : Program} {w : World} {xs : List (Int × Value)} {l : List DictEntry} (h : IE xs l) : ∀ e ∈ l, ∃ k, (intKind P w).is k e.key = true ∧ e.hash = (intKind P w).hash k := by
  induction h with
  | nil => intro e h; cases h
  | @cons i u t xs l _ ih =>
    intro e h
    rcases List.mem_cons.mp h with rfl | h
    · exact ⟨i, by simp [intKind, Value.isInt], rfl⟩
    · exact ih e h
theorem ie_of {P : Program} {w : World} {xs : List (Int × Value)} {l : List DictEntry} (h : Pairs (intKind P w) l xs) : (∀ e ∈ l, ∃ k, (intKind P w).is k e.key = true ∧ e.hash = (intKind P w).hash k) → IE xs l := by
  induction h with
  | nil => intro _; exact .nil
  | @cons e kv es kvs h1 h2 _ ih =>
    intro g
    obtain ⟨k, k1, k2⟩ := g e (List.mem_cons_self ..)
    obtain ⟨i, v⟩ := kv
    obtain ⟨eh, ek, ev⟩ := e
    obtain ⟨t, ht⟩ := Value.isInt_shape h1
    have ht : ek = .int i t := ht
    subst ht
    have h2 : ev = v := h2
    subst h2
    have : k = i := (intKind P w).inj _ _ _ k1 h1
    subst this
    have k2 : eh = hashInt k := k2
    subst k2
    exact .cons (ih fun e he => g e (List.mem_cons_of_mem _ he))
theorem xr_is {K : PySem.W.Frag} (I : Inv X pins σ H s) {xs : List (NestedKey × Addr × Value)} {kvs : List (W × W)} (h : XR X.K H F xs kvs) : ∀ x ∈ xs, NestedIs s.heap x.1 (.ref x.2.1) ∧ x.1.depth ≤ 8 := by
  induction h with
  | nil => intro x hx; cases hx
  | cons a b c d _ _ ih =>
    intro x hx
    rcases List.mem_cons.mp hx with rfl | hx
    · exact ⟨nested_of I c a rfl, b⟩
    · exact ih x hx
theorem nodup_num {xs : List (Int × Value)} : (xs.map (fun x => NestedKey.num x.1)).Nodup ↔ (xs.map (·.1)).Nodup := by
  induction xs with
  | nil => simp
  | cons x r ih => simp only [List.map_cons, List.nodup_cons, ih, List.mem_map, NestedKey.num.injEq]
theorem dict_of (hw : HW.P = X.prog ∧ HW.w = X.w) (I : Inv X pins σ H s) {a : Addr} {es : DEs} {ep : Nat} {kvs : List (W × W)} (hH : H a = some (dcO a es ep)) (hr : DRel X.K H F es kvs) (nd : (es.map (·.1)).Nodup) (ht : allT kvs = true) :
    (a == sysModules) = false ∧ ∃ xs, XR X.K H F xs kvs ∧ s.heap.DictOfH (nestedKind X.prog X.w) a xs := by
  obtain ⟨⟨h1, o, l, h2, h3, h4, h5⟩, _⟩ := I.hok a _ hH
  obtain ⟨xs, e1, e2, e3⟩ := xr_of hr ht h5
  refine ⟨h1, xs, e2, o, l, ep, h2, h3, h4, ?_, fun x hx => xr_is (K := X.K) I e2 x hx, by rw [e3]; exact nd⟩
  rw [e1]
  unfold toX entryOfKey
  rw [hw.2]
  rfl
theorem dict_ofI (I : Inv X pins σ H s) {a : Addr} {es : DEs} {ep : Nat} {kvs : List (W × W)} (hH : H a = some (dcO a es ep)) (hr : DRel X.K H F es kvs) (nd : (es.map (·.1)).Nodup) (ht : allI kvs = true) :
    (a == sysModules) = false ∧ ∃ xs, IR X.K H F xs kvs ∧ s.heap.DictOf (intKind X.prog X.w) a xs := by
  obtain ⟨⟨h1, o, l, h2, h3, h4, h5⟩, _⟩ := I.hok a _ hH
  obtain ⟨xs, e1, e2, e3⟩ := ir_of hr ht h5
  refine ⟨h1, xs, e2, o, l, ep, h2, h3, h4, fun e he => ie_keys e1 e (by simpa using he), ie_pairs e1, ?_⟩
  rw [e3] at nd
  exact nodup_num.mp nd
end
mutual
/-- keys are equal as the values are -/
theorem eq_nk : ∀ {a b : W} {x y : NestedKey}, nk a = some x → nk b = some y → eqW a b = NestedKey.beq x y
  | .non, b, x, y, h, k => by
    cases h
    cases b with
    | tup l => simp only [nk] at k; obtain ⟨_, _, rfl⟩ := Option.map_eq_some_iff.mp k; rfl
    | non => cases k; rfl
    | bl _ => cases k; rfl
    | int _ => cases k; rfl
    | str _ => cases k; rfl
    | lst _ => cases k
    | dct _ => cases k
    | st _ => cases k
  | .bl a, b, x, y, h, k => by
    cases h
    cases b with
    | tup l => simp only [nk] at k; obtain ⟨_, _, rfl⟩ := Option.map_eq_some_iff.mp k; rfl
    | non => cases k; rfl
    | bl b => cases k; cases a <;> cases b <;> rfl
    | int j => cases k; rfl
    | str _ => cases k; rfl
    | lst _ => cases k
    | dct _ => cases k
    | st _ => cases k
  | .int i, b, x, y, h, k => by
    cases h
    cases b with
    | tup l => simp only [nk] at k; obtain ⟨_, _, rfl⟩ := Option.map_eq_some_iff.mp k; rfl
    | non => cases k; rfl
    | bl b => cases k; rfl
    | int j => cases k; rfl
    | str _ => cases k; rfl
    | lst _ => cases k
    | dct _ => cases k
    | st _ => cases k
  | .str s, b, x, y, h, k => by
    cases h
    cases b with
    | tup l => simp only [nk] at k; obtain ⟨_, _, rfl⟩ := Option.map_eq_some_iff.mp k; rfl
    | non => cases k; rfl
    | bl b => cases k; rfl
    | int j => cases k; rfl
    | str t =>
      cases k
      show (s == t) = decide (S8 s = S8 t)
      rw [← s8_beq]
      by_cases q : S8 s = S8 t
      · rw [decide_eq_true q, q]; simp
      · rw [decide_eq_false q]; simpa using q
    | lst _ => cases k
    | dct _ => cases k
    | st _ => cases k
  | .tup ws, b, x, y, h, k => by
    simp only [nk] at h
    obtain ⟨ks, e1, rfl⟩ := Option.map_eq_some_iff.mp h
    cases b <;> simp only [nk] at k <;> first | (cases k; done) | skip
    case non => cases k; rfl
    case bl => cases k; rfl
    case int => cases k; rfl
    case str => cases k; rfl
    obtain ⟨ls, e2, rfl⟩ := Option.map_eq_some_iff.mp k
    simp only [eqW, NestedKey.beq]
    exact eqs_nk e1 e2
  | .lst _, b, x, y, h, k => by cases h
  | .dct _, b, x, y, h, k => by cases h
  | .st _, b, x, y, h, k => by cases h
theorem eqs_nk : ∀ {a b : List W} {x y : List NestedKey}, nks a = some x → nks b = some y → eqWs a b = NestedKey.beqAll x y
  | [], b, x, y, h, k => by
    cases h
    cases b with
    | nil => cases k; rfl
    | cons w r =>
      simp only [nks] at k
      split at k
      · cases k; rfl
      · cases k
  | w :: r, b, x, y, h, k => by
    simp only [nks] at h
    split at h
    · rename_i k1 l1 e1 e2
      cases h
      cases b with
      | nil => cases k; rfl
      | cons w' r' =>
        simp only [nks] at k
        split at k
        · rename_i k2 l2 e3 e4
          cases k
          simp only [eqWs, NestedKey.beqAll, eq_nk e1 e3, eqs_nk e2 e4]
        · cases k
    · cases h
end
theorem at_dct {K : PySem.W.Frag} {H : Hp} {F : Addr → Prop} {kw : W} {k : NestedKey} (hk : nk kw = some k) {xs : List (NestedKey × Addr × Value)} {kvs : List (W × W)} (hr : XR K H F xs kvs) :
    (∀ w, lkW kw kvs = some w → ∃ b v u, atKey xs k = some (b, u) ∧ RelV v u ∧ HR K H F v w) ∧ (lkW kw kvs = none → atKey xs k = none) := by
  induction hr with
  | nil =>
    refine ⟨fun w h => ?_, fun _ => ?_⟩
    · cases h
    · simp [atKey]
  | @cons k' b v u ws w xs kvs a c d e r1 _ ih =>
    obtain ⟨i1, i2⟩ := ih
    have eq : eqW (.tup ws) kw = decide (k' = k) := by rw [eq_nk a hk, NestedKey.decide_eq]
    by_cases q : k' = k
    · rw [decide_eq_true q] at eq
      refine ⟨fun w' h => ?_, fun h => ?_⟩
      · simp only [lkW, eq, if_true] at h
        cases h
        exact ⟨b, v, u, by simp [atKey, q], r1, e⟩
      · simp only [lkW, eq, if_true] at h; cases h
    · rw [decide_eq_false q] at eq
      simp only [lkW, eq, Bool.false_eq_true, if_false]
      have z : atKey ((k', b, u) :: xs) k = atKey xs k := by simp [atKey, List.find?_cons, q]
      rw [z]
      exact ⟨i1, i2⟩
theorem at_int {K : PySem.W.Frag} {H : Hp} {F : Addr → Prop} {k : Int} {xs : List (Int × Value)} {kvs : List (W × W)} (hr : IR K H F xs kvs) :
    (∀ w, lkW (.int k) kvs = some w → ∃ v u, valueAt xs k = some u ∧ RelV v u ∧ HR K H F v w) ∧ (lkW (.int k) kvs = none → valueAt xs k = none) := by
  induction hr with
  | nil =>
    refine ⟨fun w h => ?_, fun _ => ?_⟩
    · cases h
    · simp [valueAt]
  | @cons i v u w xs kvs e r1 _ ih =>
    obtain ⟨i1, i2⟩ := ih
    by_cases q : i = k
    · subst q
      refine ⟨fun w' h => ?_, fun h => ?_⟩
      · simp only [lkW, eqW, beq_self_eq_true, if_true] at h
        cases h
        exact ⟨v, u, by simp [valueAt], r1, e⟩
      · simp [lkW, eqW] at h
    · have eq : (i == k) = false := beq_eq_false_iff_ne.mpr q
      simp only [lkW, eqW, eq, Bool.false_eq_true, if_false]
      have z : valueAt ((i, u) :: xs) k = valueAt xs k := by simp [valueAt, List.find?_cons, q]
      rw [z]
      exact ⟨i1, i2⟩

mutual
theorem nk_of : ∀ {w : W}, hsb w = true → ∃ k, nk w = some k ∧ k.depth ≤ dep w
  | .non, _ => ⟨_, rfl, Nat.le_refl _⟩
  | .bl _, _ => ⟨_, rfl, Nat.le_refl _⟩
  | .int _, _ => ⟨_, rfl, Nat.le_refl _⟩
  | .str _, _ => ⟨_, rfl, Nat.le_refl _⟩
  | .tup ws, h => by
    obtain ⟨ks, e, d⟩ := nks_of (ws := ws) (by simpa [hsb] using h)
    exact ⟨.tup ks, by simp [nk, e], by simp only [NestedKey.depth, dep]; omega⟩
  | .lst _, h => by simp [hsb] at h
  | .dct _, h => by simp [hsb] at h
  | .st _, h => by simp [hsb] at h
theorem nks_of : ∀ {ws : List W}, hsbs ws = true → ∃ ks, nks ws = some ks ∧ NestedKey.depthAll ks ≤ deps ws
  | [], _ => ⟨[], rfl, Nat.le_refl _⟩
  | w :: ws, h => by
    simp only [hsbs, Bool.and_eq_true] at h
    obtain ⟨k, e, d⟩ := nk_of h.1
    obtain ⟨ks, e', d'⟩ := nks_of h.2
    exact ⟨k :: ks, by simp [nks, e, e'], by simp only [NestedKey.depthAll, deps]; omega⟩
end
theorem hkW_of {w : W} (h : hkW w = true) : ∃ ws k, w = .tup ws ∧ nk (.tup ws) = some k ∧ k.depth ≤ 8 := by
  unfold hkW at h
  rw [Bool.and_eq_true, Bool.and_eq_true] at h
  obtain ⟨h1, h2, h3⟩ := h
  cases w <;> first | (cases h1; done) | skip
  rename_i ws
  obtain ⟨k, e, d⟩ := nk_of h2
  exact ⟨ws, k, rfl, e, Nat.le_trans d (of_decide_eq_true h3)⟩

section
variable {X : Cx} {pins : List (Addr × Obj)} {s : Shared} {σ : Sg} {H : Hp} {F : Addr → Prop}
/-- a key as it stands -/
theorem key_at (I : Inv X pins σ H s) {y : V} {kw : W} {u : Value} (h : PkR X.K H F y kw) (hk : hkW kw = true) (r : RelV y u) :
    ∃ ws k b, kw = .tup ws ∧ nk (.tup ws) = some k ∧ k.depth ≤ 8 ∧ y = .ref b ∧ u = .ref b ∧ (nestedKind X.prog X.w).is s.heap k b ∧ HR X.K H F (.ref b) (.tup ws) := by
  obtain ⟨ws, k, rfl, e, d⟩ := hkW_of hk
  rcases h with h | ⟨c, _, h⟩
  · obtain ⟨b, _, rfl, _⟩ := h.tupI
    cases r
    exact ⟨ws, k, b, rfl, e, d, rfl, rfl, ⟨nested_of I h e rfl, d⟩, h⟩
  · exact h.elim
theorem room_d (hu : X.A.units + 200 < cLine) : (nestedKind X.prog X.w).room X.A.in1 := by
  show X.A.in1.units + 8 < cLine
  rw [Around.in1_units]
  omega
theorem kOk_of {w : W} {kvs : List (W × W)} (h : kOk w kvs = true) : (hkW w = true ∧ allT kvs = true) ∨ ∃ i, w = .int i ∧ allI kvs = true := by
  unfold kOk at h
  rcases Bool.or_eq_true_iff.mp h with h | h
  · exact .inl (Bool.and_eq_true_iff.mp h)
  · obtain ⟨a, b⟩ := Bool.and_eq_true_iff.mp h
    cases w <;> first | (cases a; done) | skip
    exact .inr ⟨_, rfl, b⟩
theorem int_is {i : Int} {v : Value} {P : Program} {w : World} (h : RelV (.int i) v) : (intKind P w).is i v = true := by
  obtain ⟨t, rfl⟩ := h
  simp [intKind, Value.isInt]
theorem in_dct {Q : VK} (hw : HW.P = X.prog ∧ HW.w = X.w) (hu : X.A.units + 200 < cLine) (I : Inv X pins σ H s) {x y : V} {v z : Value} {w : W} {kvs : List (W × W)} (a : PkR X.K H F x w) (b : PkR X.K H F y (.dct kvs)) (hk : kOk w kvs = true) (rx : RelV x v) (ry : RelV y z)
    (q : Q (.bl ((lkW w kvs).isSome)) H) : wpAny (model X.prog X.w) X.A (compareOp .In v z) (EP X pins σ Q) X.xe s := by
  obtain ⟨p, es, rfl, ⟨ep, hH⟩, hz, nd, hr⟩ := b.dct
  cases ry
  rcases kOk_of hk with ⟨hk, ht⟩ | ⟨i, rfl, ht⟩
  · obtain ⟨ws, k, c, rfl, e, d, rfl, rfl, is, _⟩ := key_at I a hk rx
    obtain ⟨hs, xs, hx, dd⟩ := dict_of hw I hH hr nd ht
    obtain ⟨g1, g2⟩ := at_dct e hx
    refine wpAny_in_heap (room_d hu) is hs dd ⟨.bl _, _, I.tok _, rfl, ?_⟩
    cases h : lkW (.tup ws) kvs with
    | some w' =>
      obtain ⟨b', v', u', e2, _⟩ := g1 _ h
      rw [e2]; rw [h] at q; exact q
    | none =>
      rw [g2 h]; rw [h] at q; exact q
  · obtain ⟨hs, xs, hx, dd⟩ := dict_ofI I hH hr nd ht
    obtain ⟨g1, g2⟩ := at_int (k := i) hx
    cases a.int
    refine wpAny_in_of (int_is rx) hs dd.mapOf ⟨.bl _, _, I.tok _, rfl, ?_⟩
    cases h : lkW (.int i) kvs with
    | some w' =>
      obtain ⟨v', u', e2, _⟩ := g1 _ h
      rw [e2]; rw [h] at q; exact q
    | none =>
      rw [g2 h]; rw [h] at q; exact q
theorem nin_dct {Q : VK} (hw : HW.P = X.prog ∧ HW.w = X.w) (hu : X.A.units + 200 < cLine) (I : Inv X pins σ H s) {x y : V} {v z : Value} {w : W} {kvs : List (W × W)} (a : PkR X.K H F x w) (b : PkR X.K H F y (.dct kvs)) (hk : kOk w kvs = true) (rx : RelV x v) (ry : RelV y z)
    (q : Q (.bl (!(lkW w kvs).isSome)) H) : wpAny (model X.prog X.w) X.A (compareOp .NotIn v z) (EP X pins σ Q) X.xe s := by
  obtain ⟨p, es, rfl, ⟨ep, hH⟩, hz, nd, hr⟩ := b.dct
  cases ry
  rcases kOk_of hk with ⟨hk, ht⟩ | ⟨i, rfl, ht⟩
  · obtain ⟨ws, k, c, rfl, e, d, rfl, rfl, is, _⟩ := key_at I a hk rx
    obtain ⟨hs, xs, hx, dd⟩ := dict_of hw I hH hr nd ht
    obtain ⟨g1, g2⟩ := at_dct e hx
    refine wpAny_bind (wpAny_contains_heap (room_d hu) is hs dd (wpAny_pure ⟨.bl _, _, I.tok _, rfl, ?_⟩))
    cases h : lkW (.tup ws) kvs with
    | some w' =>
      obtain ⟨b', v', u', e2, _⟩ := g1 _ h
      rw [e2]; rw [h] at q; exact q
    | none =>
      rw [g2 h]; rw [h] at q; exact q
  · obtain ⟨hs, xs, hx, dd⟩ := dict_ofI I hH hr nd ht
    obtain ⟨g1, g2⟩ := at_int (k := i) hx
    cases a.int
    refine wpAny_notIn_of (int_is rx) hs dd.mapOf ⟨.bl _, _, I.tok _, rfl, ?_⟩
    cases h : lkW (.int i) kvs with
    | some w' =>
      obtain ⟨v', u', e2, _⟩ := g1 _ h
      rw [e2]; rw [h] at q; exact q
    | none =>
      rw [g2 h]; rw [h] at q; exact q
theorem ix_dct {Q : VK} {value slice : Expr} (hw : HW.P = X.prog ∧ HW.w = X.w) (hu : X.A.units + 200 < cLine) (I : Inv X pins σ H s) {x y : V} {v z : Value} {w r : W} {kvs : List (W × W)} (a : PkR X.K H F y w) (b : PkR X.K H F x (.dct kvs)) (hk : kOk w kvs = true) (rx : RelV x v) (ry : RelV y z)
    (h : lkW w kvs = some r) (q : ∀ r', HR X.K H F r' r → Q r' H) (hs : subscripted slice false v z = operate [v, z] (getItem v z)) : wpAny (model X.prog X.w) X.A (subscriptTail value slice v z) (EP X pins σ Q) X.xe s := by
  obtain ⟨p, es, rfl, ⟨ep, hH⟩, hz, nd, hr⟩ := b.dct
  cases rx
  rcases kOk_of hk with ⟨hk, ht⟩ | ⟨i, rfl, ht⟩
  · obtain ⟨ws, k, c, rfl, e, d, rfl, rfl, is, _⟩ := key_at I a hk ry
    obtain ⟨hs', xs, hx, dd⟩ := dict_of hw I hH hr nd ht
    obtain ⟨b', v', u', e2, e3, e4⟩ := (at_dct e hx).1 _ h
    exact subscriptTail_builtinR (x := u') dd.typeIs slot_dict_getitem.lookup (wpAny_getItem_heap (room_d hu) is dd e2 ⟨rfl, v', _, I.tok _, e3, q _ e4⟩) hs
  · obtain ⟨hs', xs, hx, dd⟩ := dict_ofI I hH hr nd ht
    obtain ⟨v', u', e2, e3, e4⟩ := (at_int (k := i) hx).1 _ h
    cases a.int
    exact subscriptTail_builtinR (x := u') dd.typeIs slot_dict_getitem.lookup (wpAny_getItem_of (int_is ry) dd.mapOf e2 ⟨rfl, v', _, I.tok _, e3, q _ e4⟩) hs
end

/-! ### d[k] = v -/
def putX : List (NestedKey × Addr × Value) → NestedKey → Addr → Value → List (NestedKey × Addr × Value)
  | [], k, a, v => [(k, a, v)]
  | x :: r, k, a, v => if x.1 = k then (x.1, x.2.1, v) :: r else x :: putX r k a v
theorem put_not {k : NestedKey} {v : Value} : ∀ {xs : List (NestedKey × Addr × Value)}, k ∉ xs.map (·.1) → xs.map (putAt k v) = xs
  | [], _ => rfl
  | x :: r, h => by
    simp only [List.map_cons, List.mem_cons, not_or] at h
    rw [List.map_cons, put_not h.2]
    unfold putAt
    rw [if_neg (Ne.symm h.1)]
theorem storedH_putX {k : NestedKey} {a : Addr} {v : Value} : ∀ {xs : List (NestedKey × Addr × Value)}, (xs.map (·.1)).Nodup → storedH xs k a v = putX xs k a v
  | [], _ => rfl
  | x :: r, h => by
    rw [List.map_cons, List.nodup_cons] at h
    have ih := storedH_putX (k := k) (a := a) (v := v) h.2
    by_cases e : x.1 = k
    · have e1 : (atKey (x :: r) k).isSome = true := by simp [atKey, e]
      unfold storedH
      rw [if_pos e1, List.map_cons, put_not (e ▸ h.1)]
      simp [putAt, putX, e]
    · have e1 : atKey (x :: r) k = atKey r k := by simp [atKey, List.find?_cons, e]
      have e2 : putX (x :: r) k a v = x :: putX r k a v := by simp [putX, e]
      rw [e2, ← ih]
      unfold storedH
      rw [e1]
      split
      · rw [List.map_cons]; simp [putAt, e]
      · rfl
theorem put_dct {K : PySem.W.Frag} {H : Hp} {F : Addr → Prop} {ws : List W} {k : NestedKey} {b : Addr} {v : V} {u : Value} {w : W} (hk : nk (.tup ws) = some k) (hd : k.depth ≤ 8) (hb : HR K H F (.ref b) (.tup ws)) (hv : HR K H F v w) (rv : RelV v u) {xs : List (NestedKey × Addr × Value)} {kvs : List (W × W)} (hr : XR K H F xs kvs) :
    XR K H F (putX xs k b u) (ptW (.tup ws) w kvs) ∧ (putX xs k b u).length ≤ xs.length + 1 := by
  induction hr with
  | nil => exact ⟨.cons hk hd hb hv rv .nil, Nat.le_refl _⟩
  | @cons k' b' v' u' ws' w' xs kvs a c d e f g ih =>
    have eq : eqW (.tup ws') (.tup ws) = decide (k' = k) := by rw [eq_nk a hk, NestedKey.decide_eq]
    by_cases q : k' = k
    · rw [decide_eq_true q] at eq
      simp only [putX, q, if_true, ptW, eq]
      exact ⟨.cons (q ▸ a) (q ▸ c) d hv rv g, by simp⟩
    · rw [decide_eq_false q] at eq
      simp only [putX, q, if_false, ptW, eq, Bool.false_eq_true]
      exact ⟨.cons a c d e f ih.1, by simpa using ih.2⟩
def putI : List (Int × Value) → Int → Value → List (Int × Value)
  | [], k, v => [(k, v)]
  | x :: r, k, v => if x.1 = k then (x.1, v) :: r else x :: putI r k v
theorem put_notI {k : Int} {v : Value} : ∀ {xs : List (Int × Value)}, k ∉ xs.map (·.1) → xs.map (fun kv => if kv.1 = k then (kv.1, v) else kv) = xs
  | [], _ => rfl
  | x :: r, h => by
    simp only [List.map_cons, List.mem_cons, not_or] at h
    rw [List.map_cons, put_notI h.2, if_neg (Ne.symm h.1)]
theorem stored_putI {k : Int} {v : Value} : ∀ {xs : List (Int × Value)}, (xs.map (·.1)).Nodup → stored xs k v = putI xs k v
  | [], _ => rfl
  | x :: r, h => by
    rw [List.map_cons, List.nodup_cons] at h
    have ih := stored_putI (k := k) (v := v) h.2
    by_cases e : x.1 = k
    · unfold stored
      rw [if_pos (by simp [e]), List.map_cons, put_notI (e ▸ h.1)]
      simp [putI, e]
    · have e2 : putI (x :: r) k v = x :: putI r k v := by simp [putI, e]
      rw [e2, ← ih]
      unfold stored
      rw [List.any_cons, decide_eq_false e, Bool.false_or]
      split
      · rw [List.map_cons]; simp [e]
      · rfl
theorem put_int {K : PySem.W.Frag} {H : Hp} {F : Addr → Prop} {k : Int} {v : V} {u : Value} {w : W} (hv : HR K H F v w) (rv : RelV v u) {xs : List (Int × Value)} {kvs : List (W × W)} (hr : IR K H F xs kvs) :
    IR K H F (putI xs k u) (ptW (.int k) w kvs) ∧ (putI xs k u).length ≤ xs.length + 1 := by
  induction hr with
  | nil => exact ⟨.cons hv rv .nil, Nat.le_refl _⟩
  | @cons i v' u' w' xs kvs e f g ih =>
    by_cases q : i = k
    · subst q
      simp only [putI, if_true, ptW, eqW, beq_self_eq_true]
      exact ⟨.cons hv rv g, by simp⟩
    · have eq : (i == k) = false := beq_eq_false_iff_ne.mpr q
      simp only [putI, q, if_false, ptW, eqW, eq, Bool.false_eq_true]
      exact ⟨.cons e f ih.1, by simpa using ih.2⟩
theorem dcO_ok {P : Program} {w : World} {H' : Hp} {h' : Heap} {a : Addr} {es : DEs} (hs : (a == sysModules) = false) {o : Obj} {l : Array DictEntry} {ep : Nat} (h1 : h'.get? a = some o) (h2 : o.ExactDict) (h3 : o.data = .dict l ep) (h5 : EntR es l.toList) :
    ObjOk P w H' h' a (dcO a es ep) :=
  ⟨⟨hs, o, l, h1, h2, h3, h5⟩, ⟨o, h1⟩, fun g1 g2 ⟨q, o, l, h1, h2, h3, h5⟩ k => ⟨q, o, l, k o h1, h2, h3, h5⟩⟩
section
variable {X : Cx}
def rSetD (K : PySem.W.Frag) : V → V → V → Hp → (Hp → Prop) → Prop := fun o i v H Q => ∃ F a es kvs kw w, o = .ref a ∧ (∃ ep, H a = some (dcO a es ep)) ∧ es.length < szL ∧ (es.map (·.1)).Nodup ∧ DRel K H F es kvs ∧ HR K H F i kw ∧ kOk kw kvs = true ∧ HR K H F v w ∧
  ∀ es' ep', es'.length ≤ szL → (es'.map (·.1)).Nodup → DRel K H F es' (ptW kw w kvs) → Q (upd H a (dcO a es' ep'))
theorem set_dct (hw : HW.P = X.prog ∧ HW.w = X.w) (hu : X.A.units + 200 < cLine) : PSet X (rSetD X.K) := by
  intro pins s σ H o i v ov iv u Q I ro ri rv ⟨F, a, es, kvs, kw, w, e0, ⟨ep, hH⟩, hz, nd, hr, hi, hk, hv, q⟩
  subst e0
  cases ro
  rcases kOk_of hk with ⟨hk, ht⟩ | ⟨j, rfl, ht⟩
  · obtain ⟨ws, k, b, rfl, e, d, rfl, rfl, is, hb⟩ := key_at I (.inl hi) hk ri
    obtain ⟨hs, xs, hx, dd⟩ := dict_of hw I hH hr nd ht
    have hl : xs.length = es.length := by rw [hx.length, hr.length]
    have zl : xs.length ≤ sizeLine := by rw [← szL_eq]; omega
    refine wpAny_setItem_heap (hsz := zl) (room_d hu) is dd fun h' dd' hs' => ?_
    have en : (xs.map (·.1)).Nodup := by obtain ⟨_, _, _, _, _, _, _, _, z⟩ := dd; exact z
    rw [storedH_putX en] at dd'
    obtain ⟨i3, i4⟩ := put_dct e d hb hv rv hx
    obtain ⟨es', j1, j2, j3⟩ := xr_to i3
    obtain ⟨ob, en', ep', h1, h2, h3, h4, _, h5⟩ := dd'
    have j4 := congrArg List.length j3
    simp only [List.length_map] at j4
    refine ⟨_, d_write (ob := dcO a es' ep') I (by rw [hH]; exact True.intro) hs' ⟨_, h1⟩ (dcO_ok hs h1 h2 h3 ?_), q es' ep' (by omega) (by rw [j3]; exact h5) j1⟩
    rw [h4]
    have : List.map (entryOfKey (nestedKind X.prog X.w)) (putX xs k b u) = (putX xs k b u).map toX := by
      unfold toX entryOfKey
      rw [hw.2]
      rfl
    rw [this]
    exact j2
  · obtain ⟨hs, xs, hx, dd⟩ := dict_ofI I hH hr nd ht
    have hl : xs.length = es.length := by rw [hx.length, hr.length]
    have zl : xs.length ≤ sizeLine := by rw [← szL_eq]; omega
    cases (PkR.of hi).int
    refine wpAny_setItem_pairs (hsz := zl) (int_is ri) dd fun h' dd' hs' => ?_
    have en : (xs.map (·.1)).Nodup := by obtain ⟨_, _, _, _, _, _, _, _, z⟩ := dd; exact z
    rw [stored_putI en] at dd'
    obtain ⟨i3, i4⟩ := put_int (k := j) hv rv hx
    obtain ⟨ob, en', ep', h1, h2, h3, h4, h4', h5⟩ := dd'
    obtain ⟨es', j1, j2, j3⟩ := ir_to i3 (ie_of h4' fun e he => h4 e (by simpa using he))
    have j4 := congrArg List.length j3
    simp only [List.length_map] at j4
    refine ⟨_, d_write (ob := dcO a es' ep') I (by rw [hH]; exact True.intro) hs' ⟨_, h1⟩ (dcO_ok hs h1 h2 h3 j2), q es' ep' (by omega) ?_ j1⟩
    rw [j3]
    exact nodup_num.mpr h5
def rSetLD (K : PySem.W.Frag) : V → V → V → Hp → (Hp → Prop) → Prop := fun o i v H Q => rSetL o i v H Q ∨ rSetD K o i v H Q
theorem set_ld (hw : HW.P = X.prog ∧ HW.w = X.w) (hu : X.A.units + 200 < cLine) : PSet X (rSetLD X.K) := fun pins s σ H o i v ov iv u Q I ro ri rv h => h.elim (set_list pins s σ H o i v ov iv u Q I ro ri rv) (set_dct hw hu pins s σ H o i v ov iv u Q I ro ri rv)

/-- {} -/
def tDNw : TE := fun _ H Q => ∀ p, H p = none → Q (.ref p) (upd H p (dcO p [] 0))
theorem pe_dnw {pos : Pos} : PE X (.Dict [] [] pos) tDNw := ⟨fun pins s σ H Q I h =>
  wpAny_Dict_empty ⟨.ref s.heap.objs.size, _, I.laid (a := s.heap.objs.size) (o := dcO s.heap.objs.size [] 0) (t' := s.toks) (fun _ _ q => Heap.get?_push_of_some _ q) (Nat.le_refl _)
    (dcO_ok (l := #[]) (ep := 0) (beq_eq_false_iff_ne.mpr (Ne.symm (Nat.ne_of_lt I.big))) (Heap.get?_push_size _ rfl) ⟨rfl, rfl, rfl⟩ rfl .nil), rfl, h _ (I.hok.fresh (Nat.le_refl _))⟩⟩
end
end Py

namespace Py
open PySem PySem.Spec PyProof.Rows L2
variable [HW]
section
variable {X : Cx}
theorem bW_some {f : W → W → Option Bool} {w u : W} {r : W × Bool} (h : bW f w u = some r) : ∃ b, f w u = some b ∧ r = (.bl b, false) := by
  unfold bW at h
  cases e : f w u with
  | none => rw [e] at h; cases h
  | some b => rw [e] at h; exact ⟨b, rfl, (Option.some.inj h).symm⟩
theorem eqOk_dep {w u : W} (h : eqOk w u = true) : min (dep w) (dep u) ≤ 64 ∧ dep w < 1000 ∧ dep u < 1000 := of_decide_eq_true h
theorem op_eqW (hu : X.A.units + 200 < cLine) : OpR X (compareOp .Eq) (r2 X.K (bW (cmpW .eq))) := by
  refine opBy fun w u r F pins s σ H x y v z Q e I rx ry a b q => ?_
  obtain ⟨k, ek, rfl⟩ := bW_some e
  replace e := ek
  have e : (if eqOk w u then some (eqW w u) else none) = some k := by cases w <;> cases u <;> exact e
  obtain ⟨hk, rfl⟩ := of_if e
  obtain ⟨h1, h2, h3⟩ := eqOk_dep hk
  obtain ⟨as, r1⟩ := Dp.reads I _ x v (a.dp (by omega)) rx
  obtain ⟨bs, r2⟩ := Dp.reads I _ y z (b.dp (by omega)) ry
  refine SeqAt.compareEq_reads r1 r2 a.lay b.lay ?_ ⟨.bl _, H, I, rfl, ?_⟩
  · have := dep_pd w; have := dep_pd u; omega
  · rw [eqv_pd (v := .non) (v' := .non) w u h2 h3]; exact q.bl
theorem op_neW (hu : X.A.units + 200 < cLine) : OpR X (compareOp .NotEq) (r2 X.K (bW (cmpW .ne))) := by
  refine opBy fun w u r F pins s σ H x y v z Q e I rx ry a b q => ?_
  obtain ⟨k, ek, rfl⟩ := bW_some e
  replace e := ek
  have e : (if eqOk w u then some (!eqW w u) else none) = some k := by cases w <;> cases u <;> exact e
  obtain ⟨hk, rfl⟩ := of_if e
  obtain ⟨h1, h2, h3⟩ := eqOk_dep hk
  obtain ⟨as, r1⟩ := Dp.reads I _ x v (a.dp (by omega)) rx
  obtain ⟨bs, r2⟩ := Dp.reads I _ y z (b.dp (by omega)) ry
  refine SeqAt.compareNe_reads r1 r2 a.lay b.lay ?_ ⟨.bl _, H, I, rfl, ?_⟩
  · have := dep_pd w; have := dep_pd u; omega
  · rw [eqv_pd (v := .non) (v' := .non) w u h2 h3]; exact q.bl
/-- a comparison of two ints -/
theorem opII {f : Value → Value → Sem Value} {o : COp} {p : Int → Int → Bool} (h : OpR X f (rI0 fun i j => .bl (p i j))) (hc : ∀ w u b, cmpW o w u = some b → ∃ i j, w = .int i ∧ u = .int j ∧ b = p i j) : OpR X f (r2 X.K (bW (cmpW o))) := by
  refine opImp h fun x y H Q ⟨F, w, u, r, a, b, e, q⟩ => ?_
  obtain ⟨k, ek, rfl⟩ := bW_some e
  replace e := ek
  obtain ⟨i, j, rfl, rfl, rfl⟩ := hc w u k e
  exact ⟨i, j, a.int, b.int, q.bl⟩
theorem op_ltW : OpR X (compareOp .Lt) (r2 X.K (bW (cmpW .lt))) := opII op_lt fun w u b e => by
  cases w <;> cases u <;> first | (cases e; done) | exact ⟨_, _, rfl, rfl, (Option.some.inj e).symm⟩
theorem op_leW : OpR X (compareOp .LtE) (r2 X.K (bW (cmpW .le))) := opII op_le fun w u b e => by
  cases w <;> cases u <;> first | (cases e; done) | exact ⟨_, _, rfl, rfl, (Option.some.inj e).symm⟩
theorem op_gtW : OpR X (compareOp .Gt) (r2 X.K (bW (cmpW .gt))) := opII op_gt fun w u b e => by
  cases w <;> cases u <;> first | (cases e; done) | exact ⟨_, _, rfl, rfl, (Option.some.inj e).symm⟩
theorem op_geW : OpR X (compareOp .GtE) (r2 X.K (bW (cmpW .ge))) := opII op_ge fun w u b e => by
  cases w <;> cases u <;> first | (cases e; done) | exact ⟨_, _, rfl, rfl, (Option.some.inj e).symm⟩
theorem nonI {K : PySem.W.Frag} {H : Hp} {F : Addr → Prop} {v : V} {w : W} (h : PkR K H F v w) : decide (v = .non) = isN w := by
  rcases h with h | ⟨c, rfl, h⟩
  · cases h <;> rfl
  · cases w <;> first | exact h.elim | rfl
theorem op_isW : OpR X (compareOp .Is) (r2 X.K (bW (cmpW .is))) := by
  refine opImp op_isN fun x y H Q ⟨F, w, u, r, a, b, e, q⟩ => ?_
  obtain ⟨k, ek, rfl⟩ := bW_some e
  replace e := ek
  cases u <;> first | (cases w <;> cases e; done) | skip
  refine ⟨b.non, ?_⟩
  rw [nonI a]
  have : k = isN w := by cases w <;> exact (Option.some.inj e).symm
  rw [← this]; exact q.bl
theorem op_isntW : OpR X (compareOp .IsNot) (r2 X.K (bW (cmpW .isnt))) := by
  refine opImp op_notN fun x y H Q ⟨F, w, u, r, a, b, e, q⟩ => ?_
  obtain ⟨k, ek, rfl⟩ := bW_some e
  replace e := ek
  cases u <;> first | (cases w <;> cases e; done) | skip
  refine ⟨b.non, ?_⟩
  rw [nonI a]
  have : k = !isN w := by cases w <;> exact (Option.some.inj e).symm
  rw [← this]; exact q.bl
theorem flat_of {K : PySem.W.Frag} {H : Hp} {F : Addr → Prop} {v : V} {w : W} (h : PkR K H F v w) (d : dep w = 0) : flatV v = true ∧ HR K H F v w := by
  rcases h with h | ⟨c, rfl, h⟩
  · cases h <;> first | exact ⟨rfl, by constructor <;> assumption⟩ | (simp [dep] at d)
  · cases w <;> first | exact h.elim | (simp [dep] at d)
theorem eqV_eqW {K : PySem.W.Frag} {H : Hp} {F : Addr → Prop} {v v' : V} {w w' : W} (h : HR K H F v w) (h' : HR K H F v' w') (d : dep w = 0) (d' : dep w' = 0) : eqV v v' = eqW w w' := by
  cases h <;> cases h' <;> first
    | (simp [dep] at d; done)
    | (simp [dep] at d'; done)
    | (simp [eqV, eqW]; done)
    | (simp only [eqV, eqW]; exact s8_beq _ _)
theorem in_flat {K : PySem.W.Frag} {H : Hp} {F : Addr → Prop} {x : V} {w : W} (h : HR K H F x w) (d : dep w = 0) {vs : List V} {ws : List W} (hs : HRs K H F vs ws) (ds : deps ws = 0) :
    vs.all flatV = true ∧ inV x vs = memW w ws := by
  unfold inV memW
  induction ws generalizing vs with
  | nil => cases hs; exact ⟨rfl, rfl⟩
  | cons u ws ih =>
    cases hs with
    | cons a b =>
      simp only [deps] at ds
      obtain ⟨i1, i2⟩ := ih b (by omega)
      have fu := flat_of (.inl a) (show dep u = 0 by omega)
      refine ⟨by simp [fu.1, i1], ?_⟩
      simp only [List.any_cons]
      rw [eqV_eqW a h (by omega) d, i2]
theorem mem_pd (x : W) (xs : List W) (h : dep x < 1000) (h' : deps xs < 1000) : ((pds xs).any fun z => PyData.eqv z (pd x)) = memW x xs := by
  unfold memW
  induction xs with
  | nil => simp [pds]
  | cons y ys ih =>
    simp only [deps] at h'
    simp only [pds, List.any_cons]
    rw [ih (by omega), eqv_pd (v := .non) (v' := .non) y x (by omega) h]
theorem shaped_of {K : PySem.W.Frag} {H : Hp} {F : Addr → Prop} {v : V} {w : W} (h : PkR K H F v w) (d : dep w ≤ 64) : SeqAt.shaped (pd w) = true := by
  unfold SeqAt.shaped
  rw [h.lay, Bool.true_and]
  exact decide_eq_true (Nat.le_trans (dep_pd w) d)
theorem op_inW (hw : HW.P = X.prog ∧ HW.w = X.w) (hu : X.A.units + 200 < cLine) : OpR X (compareOp .In) (r2 X.K (bW (cmpW .inn))) := by
  refine opBy fun w u r F pins s σ H x y v z Q e I rx ry a b q => ?_
  obtain ⟨k, ek, rfl⟩ := bW_some e
  replace e := ek
  cases u with
  | tup ys =>
    have e : (if dep w = 0 ∧ deps ys = 0 then some (memW w ys) else none) = some k := by cases w <;> exact e
    obtain ⟨⟨d1, d2⟩, rfl⟩ := of_if e
    obtain ⟨p, vs, rfl, hs, hz, hr⟩ := b.tup
    obtain ⟨f1, f2⟩ := flat_of a d1
    obtain ⟨g1, g2⟩ := in_flat f2 d1 hr d2
    refine op_in_seq pins s σ H _ _ v z Q I rx ry ⟨p, vs, rfl, .inr hs, f1, g1, ?_⟩
    show Q (.bl (inV x vs)) H
    rw [g2]; exact q.bl
  | lst ys =>
    have e : (if dep w ≤ 60 ∧ deps ys ≤ 60 then some (memW w ys) else none) = some k := by cases w <;> exact e
    obtain ⟨⟨d1, d2⟩, rfl⟩ := of_if e
    have hb := b.dp (by simp only [dep]; omega)
    simp only [pd] at hb
    have hsh := shaped_of b (by simp only [dep]; omega)
    simp only [pd] at hsh
    refine op_inD (by omega) pins s σ H _ _ v z Q I rx ry ⟨pd w, pds ys, a.dp (by omega), hb, shaped_of a (by omega), hsh, ?_⟩
    rw [mem_pd w ys (by omega) (by omega)]; exact q.bl
  | dct kvs =>
    have e : (if kOk w kvs = true then some (lkW w kvs).isSome else none) = some k := by cases w <;> exact e
    obtain ⟨d1, rfl⟩ := of_if e
    exact in_dct hw hu I a b d1 rx ry q.bl
  | _ => cases w <;> cases e
theorem op_ninW (hw : HW.P = X.prog ∧ HW.w = X.w) (hu : X.A.units + 200 < cLine) : OpR X (compareOp .NotIn) (r2 X.K (bW (cmpW .nin))) := by
  refine opBy fun w u r F pins s σ H x y v z Q e I rx ry a b q => ?_
  obtain ⟨k, ek, rfl⟩ := bW_some e
  replace e := ek
  cases u with
  | tup ys =>
    have e : (if dep w = 0 ∧ deps ys = 0 then some (!memW w ys) else none) = some k := by cases w <;> exact e
    obtain ⟨⟨d1, d2⟩, rfl⟩ := of_if e
    obtain ⟨p, vs, rfl, hs, hz, hr⟩ := b.tup
    obtain ⟨f1, f2⟩ := flat_of a d1
    obtain ⟨g1, g2⟩ := in_flat f2 d1 hr d2
    refine op_notIn_seq pins s σ H _ _ v z Q I rx ry ⟨p, vs, rfl, .inr hs, f1, g1, ?_⟩
    show Q (.bl (!inV x vs)) H
    rw [g2]; exact q.bl
  | lst ys =>
    have e : (if dep w ≤ 60 ∧ deps ys ≤ 60 then some (!memW w ys) else none) = some k := by cases w <;> exact e
    obtain ⟨⟨d1, d2⟩, rfl⟩ := of_if e
    have hb := b.dp (by simp only [dep]; omega)
    simp only [pd] at hb
    have hsh := shaped_of b (by simp only [dep]; omega)
    simp only [pd] at hsh
    refine op_notInD (by omega) pins s σ H _ _ v z Q I rx ry ⟨pd w, pds ys, a.dp (by omega), hb, shaped_of a (by omega), hsh, ?_⟩
    rw [mem_pd w ys (by omega) (by omega)]; exact q.bl
  | dct kvs =>
    have e : (if kOk w kvs = true then some (!(lkW w kvs).isSome) else none) = some k := by cases w <;> exact e
    obtain ⟨d1, rfl⟩ := of_if e
    exact nin_dct hw hu I a b d1 rx ry q.bl
  | _ => cases w <;> cases e

def cOp : CmpOp → Option COp
  | .Lt => some .lt | .LtE => some .le | .Gt => some .gt | .GtE => some .ge | .Eq => some .eq | .NotEq => some .ne | .Is => some .is | .IsNot => some .isnt | .In => some .inn | .NotIn => some .nin
theorem op_cmpW (hw : HW.P = X.prog ∧ HW.w = X.w) (hu : X.A.units + 200 < cLine) {o : CmpOp} {p : COp} (h : cOp o = some p) : OpR X (compareOp o) (r2 X.K (bW (cmpW p))) := by
  cases o <;> cases Option.some.inj h
  · exact op_eqW hu
  · exact op_neW hu
  · exact op_ltW
  · exact op_leW
  · exact op_gtW
  · exact op_geW
  · exact op_isW
  · exact op_isntW
  · exact op_inW hw hu
  · exact op_ninW hw hu
def bOp : Operator → Option BOp
  | .Add => some .add | .Sub => some .sub | .Mult => some .mul | .FloorDiv => some .fdv | .Mod => some .md | _ => none
theorem op_binW {o : Operator} {p : BOp} (h : bOp o = some p) : OpR X (binaryOp o) (r2 X.K (opW p)) := by
  cases o <;> first | (cases h; done) | cases Option.some.inj h
  · exact op_addW
  · exact op_subW
  · exact op_mulW
  · exact op_mdW
  · exact op_fdW

/-! ### items, slices -/
theorem at_rel {K : PySem.W.Frag} {H : Hp} {F : Addr → Prop} {vs : List V} {ws : List W} {i : Int} {w : W} (h : HRs K H F vs ws) (e : atI ws i = some w) : ∃ v, atI vs i = some v ∧ HR K H F v w := by
  unfold atI at e ⊢
  rw [h.length]
  cases q : L2.ixN ws.length i with
  | none => rw [q] at e; cases e
  | some j => rw [q] at e; exact h.get e
theorem at_all {p : Nat → Bool} {s : Cs} {i : Int} {c : Nat} (h : s.all p = true) (e : atI s i = some c) : p c = true := by
  unfold atI at e
  cases q : L2.ixN s.length i with
  | none => rw [q] at e; cases e
  | some j => rw [q] at e; exact List.all_eq_true.mp h c (List.mem_of_getElem? e)
theorem ix_W (hw : HW.P = X.prog ∧ HW.w = X.w) (hu : X.A.units + 200 < cLine) : IxR X (r2 X.K ixW) := by
  intro value slice pins s σ H x y v u Q I rx ry ⟨F, w, z, r, a, b, e, q⟩ hs
  by_cases hd : ∃ kvs, w = .dct kvs
  · obtain ⟨kvs, rfl⟩ := hd
    have e : (if kOk z kvs = true then (lkW z kvs).map (fun w => (w, false)) else none) = some r := by cases z <;> exact e
    by_cases hk : kOk z kvs = true
    · rw [if_pos hk] at e
      obtain ⟨w', e', rfl⟩ := Option.map_eq_some_iff.mp e
      exact ix_dct hw hu I b a hk rx ry e' (fun r' h => q _ _ (.old h)) hs
    · rw [if_neg hk] at e; cases e
  refine ix_seq value slice pins s σ H x y v u Q I rx ry ?_ hs
  cases w <;> first | (exact absurd ⟨_, rfl⟩ hd) | (cases e; done) | (cases z <;> first | (cases e; done) | skip)
  · rename_i xs i
    simp only [ixW, Option.map_eq_some_iff] at e
    obtain ⟨c, e, rfl⟩ := e
    obtain ⟨rfl, hz, hk⟩ := a.str
    rw [strOk_s8] at hk
    have hc := at_all hk e
    exact .inr (.inr ⟨_, i, c, rfl, b.int, by rw [s8_len]; exact hz, by simpa using e, q _ _ (.old (.str [c] (by simp [szL]) (by rw [strOk_s8]; simpa using hc)))⟩)
  · rename_i xs i
    simp only [ixW, Option.map_eq_some_iff] at e
    obtain ⟨c, e, rfl⟩ := e
    obtain ⟨p, vs, rfl, hs', hz, hr⟩ := a.tup
    obtain ⟨v', e', r'⟩ := at_rel hr e
    exact .inr (.inl ⟨p, vs, i, v', rfl, b.int, hs', e', q _ _ (.old r')⟩)
  · rename_i xs i
    simp only [ixW, Option.map_eq_some_iff] at e
    obtain ⟨c, e, rfl⟩ := e
    obtain ⟨p, vs, rfl, hs', hz, hr⟩ := a.lst
    obtain ⟨v', e', r'⟩ := at_rel hr e
    exact .inl ⟨p, vs, i, v', rfl, b.int, hs', e', q _ _ (.old r')⟩
theorem cut_len {α : Type} (xs : List α) (lo hi : Option Int) : (cut xs lo hi).length ≤ xs.length := by
  unfold cut
  rw [List.length_take, List.length_drop]
  omega
theorem HRs.cut {K : PySem.W.Frag} {H : Hp} {F : Addr → Prop} {vs : List V} {ws : List W} (h : HRs K H F vs ws) (lo hi : Option Int) : HRs K H F (cutV vs lo hi) (cut ws lo hi) := by
  unfold Py.cut cutV
  rw [h.length]
  exact (h.drop _).take _
/-- a slice of a value by its bounds -/
def rSl (K : PySem.W.Frag) : V → Option Int → Option Int → Hp → VK → Prop := fun x lo hi H Q => ∃ F w r, PkR K H F x w ∧ slc1 lo hi w = some r ∧ Rs K H F Q r
theorem sl_W : SlR X (rSl X.K) := by
  intro pins s σ H x v vl vu lo hi sl Q I rx hs pl pu ⟨F, w, r, a, e, q⟩
  cases w <;> first | (cases e; done) | cases Option.some.inj e
  · rename_i xs
    obtain ⟨rfl, hz, hk⟩ := a.str
    refine sl_str pins s σ H _ v vl vu lo hi sl Q I rx hs pl pu ⟨_, rfl, by rw [s8_len]; exact hz, ?_⟩
    have ec : cutS (S8 xs) lo hi = S8 (cut xs lo hi) := by
      unfold cutS cut
      rw [s8_len]
    rw [ec]
    refine q _ _ (.old (.str _ (Nat.le_trans (cut_len _ _ _) hz) ?_))
    rw [strOk_s8] at hk ⊢
    refine List.all_eq_true.mpr fun c hc => List.all_eq_true.mp hk c ?_
    exact List.mem_of_mem_drop (List.mem_of_mem_take hc)
  · rename_i xs
    obtain ⟨p, vs, rfl, hs', hz, hr⟩ := a.tup
    have hl := hr.length
    refine sl_tupA pins s σ H _ v vl vu lo hi sl Q I rx hs pl pu ⟨p, vs, rfl, hs', fun ⟨h1, h2⟩ => ?_, fun _ p' hp => q _ _ (.tup hp ?_ (hr.cut lo hi))⟩
    · refine q _ _ (.old (.tup hs' hz ?_))
      have : cut xs lo hi = xs := by
        unfold cut
        rw [hl] at h1 h2
        rw [h1, h2]; simp
      rw [this]; exact hr
    · exact Nat.le_trans (cutV_length _ _ _) hz
  · rename_i xs
    obtain ⟨p, vs, rfl, hs', hz, hr⟩ := a.lst
    exact sl_list pins s σ H _ v vl vu lo hi sl Q I rx hs pl pu ⟨p, vs, rfl, hs', fun p' hp => q _ _ (.lst hp (Nat.le_trans (cutV_length _ _ _) hz) (hr.cut lo hi))⟩

/-! ### built-in calls -/
def rL (K : PySem.W.Frag) (f : List W → Option (W × Bool)) : List V → Hp → VK → Prop := fun xs H Q => ∃ F ws r, PkRs K H F xs ws ∧ f ws = some r ∧ Rs K H F Q r
theorem callImp {f : Value} {r r' : List V → Hp → VK → Prop} (h : CallR X f r) (i : ∀ xs H Q, r' xs H Q → r xs H Q) : CallR X f r' := fun pins s σ H xs us Q I rs q => h pins s σ H xs us Q I rs (i _ _ _ q)
theorem PkRs.one {K : PySem.W.Frag} {H : Hp} {F : Addr → Prop} {vs : List V} {w : W} (h : PkRs K H F vs [w]) : ∃ v, vs = [v] ∧ PkR K H F v w := by
  cases h with | cons a b => cases b; exact ⟨_, rfl, a⟩
theorem PkRs.two {K : PySem.W.Frag} {H : Hp} {F : Addr → Prop} {vs : List V} {w u : W} (h : PkRs K H F vs [w, u]) : ∃ v v', vs = [v, v'] ∧ PkR K H F v w ∧ PkR K H F v' u := by
  cases h with | cons a b => obtain ⟨v', rfl, q⟩ := b.one; exact ⟨_, _, rfl, a, q⟩
theorem call_lenW : CallR X (.builtin "len") (rL X.K (biW .len)) := by
  refine callImp call_len fun xs H Q ⟨F, ws, r, a, e, q⟩ => ?_
  match ws, e, a with
  | [.lst ys], e, a =>
    obtain ⟨v, rfl, b⟩ := a.one
    cases Option.some.inj e
    obtain ⟨p, vs, rfl, h1, h2, h3⟩ := b.lst
    exact ⟨_, vs.length, rfl, .inl ⟨vs, h1, rfl⟩, by rw [h3.length]; exact q.int⟩
  | [.tup ys], e, a =>
    obtain ⟨v, rfl, b⟩ := a.one
    cases Option.some.inj e
    obtain ⟨p, vs, rfl, h1, h2, h3⟩ := b.tup
    exact ⟨_, vs.length, rfl, .inr ⟨vs, h1, rfl⟩, by rw [h3.length]; exact q.int⟩
  | [.str ys], e, a =>
    obtain ⟨v, rfl, b⟩ := a.one
    cases Option.some.inj e
    obtain ⟨rfl, h1, h2⟩ := b.str
    exact ⟨_, _, rfl, ⟨by rw [s8_len]; exact h1, rfl⟩, by rw [s8_len]; exact q.int⟩
theorem call_absW : CallR X (.builtin "abs") (rL X.K (biW .abs)) := by
  refine callImp call_abs fun xs H Q ⟨F, ws, r, a, e, q⟩ => ?_
  match ws, e, a with
  | [.int i], e, a =>
    obtain ⟨v, rfl, b⟩ := a.one
    cases Option.some.inj e
    exact ⟨i, by rw [b.int], q.int⟩
theorem call_intW : CallR X (.type "int") (rL X.K (biW .int)) := by
  refine callImp call_int1 fun xs H Q ⟨F, ws, r, a, e, q⟩ => ?_
  match ws, e, a with
  | [.int i], e, a =>
    obtain ⟨v, rfl, b⟩ := a.one
    cases Option.some.inj e
    exact .inl ⟨i, by rw [b.int], q.int⟩
theorem call_boolW : CallR X (.type "bool") (rL X.K (biW .bool)) := by
  refine callImp call_bool1 fun xs H Q ⟨F, ws, r, a, e, q⟩ => ?_
  match ws, e, a with
  | [.int i], e, a =>
    obtain ⟨v, rfl, b⟩ := a.one
    cases Option.some.inj e
    exact .inl ⟨i, by rw [b.int], q.bl⟩
  | [.bl i], e, a =>
    obtain ⟨v, rfl, b⟩ := a.one
    cases Option.some.inj e
    exact .inr ⟨i, by rw [b.bl], q.bl⟩
section
variable {prog : Program} {w : World} {A : Around} {s : Shared} {l : Addr} {it : Array (Int × Tok)} {Er Qr : Value → Shared → Prop}
theorem min_tupI (hh : A.handled = none) (hT : s.heap.IsTuple l (intItems it)) (hne : 0 < it.size)
    (k : ∀ v h' tk, (intItems it)[argBest (fun i j => decide (numAt it i < numAt it j)) (it.size - 1)]? = some v → (∀ b o, s.heap.get? b = some o → h'.get? b = some o) → Qr v { s with heap := h', toks := tk }) : wpAny (model prog w) A (call (.builtin "min") [.ref l]) Qr Er s := by
  refine call_min_walk (wpAny_pyIter_tuple hT ?_)
  have hlt : l < s.heap.objs.size := let ⟨_, e, _⟩ := hT; Heap.lt_size e
  refine ⟨_, [_, l], [_], _, _, _, _, rfl, Walks.tuple (A := A.in1) hh _ l (Nat.ne_of_lt hlt) (intItems it), ⟨⟨_, Heap.get?_push_size _ rfl, rfl, rfl⟩, hT.push _⟩, fun c hc => ?_, by simpa [intItems] using hne, CmpOf.ints_lt (numAt it) (fun _ _ => intItems_at), fun v h' tk hP hk => ?_⟩
  · show c < (s.heap.push _).objs.size
    rw [Heap.size_push]
    rcases List.mem_cons.mp hc with rfl | hc
    · exact Nat.lt_succ_self _
    · rcases List.mem_cons.mp hc with rfl | hc
      · exact Nat.lt_succ_of_lt hlt
      · cases hc
  · refine k v h' tk (by simpa [intItems] using hP) fun c o e => hk c o (fun hm => ?_) (Heap.get?_push_of_some _ e)
    rcases List.mem_cons.mp hm with e1 | hm
    · have := Heap.lt_size e; rw [e1] at this; exact Nat.lt_irrefl _ this
    · cases hm
theorem min_tupR {its : List Value} {ns : List Int} (hh : A.handled = none) (hl : s.heap.IsTuple l its.toArray) (hi : IntsAre its ns) (hne : 0 < ns.length)
    (k : ∀ h' tk m t, (∀ b o, s.heap.get? b = some o → h'.get? b = some o) → m ∈ ns → (∀ a, a ∈ ns → m ≤ a) → Qr (.int m t) { s with heap := h', toks := tk }) : wpAny (model prog w) A (call (.builtin "min") [.ref l]) Qr Er s := by
  obtain ⟨zs, e⟩ := hi.allInts.items
  have en : numsOf (intItems zs).toList = ns := by
    rw [← e]; exact hi.numsOf
  rw [nums_intItems] at en; subst en; rw [e] at hl
  have hz : 0 < zs.size := by simpa using hne
  refine min_tupI hh hl hz fun v h' tk hv hk => ?_
  obtain ⟨t, rfl⟩ := intItems_at hv
  obtain ⟨b1, b2⟩ := argBest_lt (numAt zs) (zs.size - 1)
  refine k h' tk _ t hk (by rw [numAt_eq]; exact PySem.getD_mem (by rw [List.length_map, Array.length_toList]; omega)) fun a ha => ?_
  obtain ⟨j, hj, rfl⟩ := mem_getD ha
  rw [List.length_map, Array.length_toList] at hj
  rw [← numAt_eq]; exact b2 j (by omega)
end
theorem minI_ok : ∀ (r : List Int) (a : Int), minI a r ∈ a :: r ∧ ∀ y ∈ a :: r, minI a r ≤ y
  | [], a => by simp [minI]
  | b :: r, a => by
    obtain ⟨h1, h2⟩ := minI_ok r (if b < a then b else a)
    simp only [minI]
    have h3 := h2 _ List.mem_cons_self
    refine ⟨?_, fun y hy => ?_⟩
    · rcases List.mem_cons.mp h1 with h | h
      · rw [h]; split <;> simp
      · exact List.mem_cons_of_mem _ (List.mem_cons_of_mem _ h)
    · rcases List.mem_cons.mp hy with rfl | hy
      · split at h3 <;> rename_i q <;> simp only [q, if_true, if_false] <;> omega
      · rcases List.mem_cons.mp hy with rfl | hy
        · split at h3 <;> rename_i q <;> simp only [q, if_true, if_false] <;> omega
        · exact h2 y (List.mem_cons_of_mem _ hy)
theorem maxI_ok : ∀ (r : List Int) (a : Int), maxI a r ∈ a :: r ∧ ∀ y ∈ a :: r, y ≤ maxI a r
  | [], a => by simp [maxI]
  | b :: r, a => by
    obtain ⟨h1, h2⟩ := maxI_ok r (if a < b then b else a)
    simp only [maxI]
    have h3 := h2 _ List.mem_cons_self
    refine ⟨?_, fun y hy => ?_⟩
    · rcases List.mem_cons.mp h1 with h | h
      · rw [h]; split <;> simp
      · exact List.mem_cons_of_mem _ (List.mem_cons_of_mem _ h)
    · rcases List.mem_cons.mp hy with rfl | hy
      · split at h3 <;> rename_i q <;> simp only [q, if_true, if_false] <;> omega
      · rcases List.mem_cons.mp hy with rfl | hy
        · split at h3 <;> rename_i q <;> simp only [q, if_true, if_false] <;> omega
        · exact h2 y (List.mem_cons_of_mem _ hy)
theorem ints_rel {K : PySem.W.Frag} {H : Hp} {F : Addr → Prop} : ∀ {vs : List V} {ws : List W} {i : List Int}, HRs K H F vs ws → asInts ws = some i → vs = i.map V.int
  | _, [], i, h, e => by cases h; cases Option.some.inj e; rfl
  | _, w :: ws, i, h, e => by
    cases h with
    | cons a b =>
      cases w <;> first | (cases e; done) | skip
      rename_i k
      simp only [asInts, Option.map_eq_some_iff] at e
      obtain ⟨j, e, rfl⟩ := e
      rw [ints_rel b e, (PkR.inl' a).int]; rfl
theorem least_inv {ws : List W} {i : Int} (h : leastL ws = some i) : ∃ a r, asInts ws = some (a :: r) ∧ i = minI a r := by
  unfold leastL at h
  split at h
  · rename_i a r e; exact ⟨a, r, e, (Option.some.inj h).symm⟩
  · cases h
theorem most_inv {ws : List W} {i : Int} (h : mostL ws = some i) : ∃ a r, asInts ws = some (a :: r) ∧ i = maxI a r := by
  unfold mostL at h
  split at h
  · rename_i a r e; exact ⟨a, r, e, (Option.some.inj h).symm⟩
  · cases h
theorem call_minW (hc : X.calm = true) : CallR X (.builtin "min") (rL X.K (biW .min)) := by
  intro pins s σ H xs us Q I rx ⟨F, ws, r, a, e, q⟩
  match ws, e, a with
  | [.int i, .int j], e, a =>
    obtain ⟨v, v', rfl, b, c⟩ := a.two
    cases Option.some.inj e
    exact call_min2 hc pins s σ H _ us Q I rx ⟨i, j, by rw [b.int, c.int], q.int⟩
  | [.lst ys], e, a =>
    obtain ⟨v, rfl, b⟩ := a.one
    obtain ⟨i, e1, rfl⟩ := Option.map_eq_some_iff.mp e
    obtain ⟨a0, r0, e2, rfl⟩ := least_inv e1
    obtain ⟨p, vs, rfl, h1, h2, h3⟩ := b.lst
    rw [ints_rel h3 e2] at h1
    obtain ⟨k1, k2⟩ := minI_ok r0 a0
    exact cr_min hc pins s σ H _ us Q I rx ⟨p, _, rfl, h1, by simp, fun m hm hle => by rw [show m = minI a0 r0 from Int.le_antisymm (hle _ k1) (k2 m hm)]; exact q.int⟩
  | [.tup ys], e, a =>
    obtain ⟨v, rfl, b⟩ := a.one
    obtain ⟨i, e1, rfl⟩ := Option.map_eq_some_iff.mp e
    obtain ⟨a0, r0, e2, rfl⟩ := least_inv e1
    obtain ⟨p, vs, rfl, h1, h2, h3⟩ := b.tup
    rw [ints_rel h3 e2] at h1
    obtain ⟨k1, k2⟩ := minI_ok r0 a0
    obtain ⟨its, rv, hl, _⟩ := I.tuple h1
    rw [Vals.ref1 rx]
    refine min_tupR (I.ok.hd hc) hl rv.ints (by simp) fun h' tk m t hk hm hle => ⟨.int _, H, I.kept hk, ⟨_, rfl⟩, ?_⟩
    rw [show m = minI a0 r0 from Int.le_antisymm (hle _ k1) (k2 m hm)]; exact q.int
theorem call_maxW (hc : X.calm = true) : CallR X (.builtin "max") (rL X.K (biW .max)) := by
  intro pins s σ H xs us Q I rx ⟨F, ws, r, a, e, q⟩
  match ws, e, a with
  | [.int i, .int j], e, a =>
    obtain ⟨v, v', rfl, b, c⟩ := a.two
    cases Option.some.inj e
    exact call_max2 hc pins s σ H _ us Q I rx ⟨i, j, by rw [b.int, c.int], q.int⟩
  | [.lst ys], e, a =>
    obtain ⟨v, rfl, b⟩ := a.one
    obtain ⟨i, e1, rfl⟩ := Option.map_eq_some_iff.mp e
    obtain ⟨a0, r0, e2, rfl⟩ := most_inv e1
    obtain ⟨p, vs, rfl, h1, h2, h3⟩ := b.lst
    rw [ints_rel h3 e2] at h1
    obtain ⟨k1, k2⟩ := maxI_ok r0 a0
    exact cr_max hc pins s σ H _ us Q I rx ⟨p, _, rfl, h1, by simp, fun m hm hle => by rw [show m = maxI a0 r0 from Int.le_antisymm (k2 m hm) (hle _ k1)]; exact q.int⟩
theorem sum_rel {K : PySem.W.Frag} {H : Hp} {F : Addr → Prop} : ∀ {vs : List V} {ws : List W} {i : Int}, HRs K H F vs ws → sumI ws = some i → ∃ ns : List Int, vs = ns.map V.int ∧ i = ns.sum
  | _, [], i, h, e => by cases h; exact ⟨[], rfl, (Option.some.inj e).symm⟩
  | _, w :: ws, i, h, e => by
    cases h with
    | cons a b =>
      cases w <;> first | (cases e; done) | skip
      rename_i k
      simp only [sumI, Option.map_eq_some_iff] at e
      obtain ⟨j, e, rfl⟩ := e
      obtain ⟨ns, rfl, rfl⟩ := sum_rel b e
      exact ⟨k :: ns, by rw [(PkR.inl' a).int]; rfl, by simp⟩
theorem bls_rel {K : PySem.W.Frag} {H : Hp} {F : Addr → Prop} : ∀ {vs : List V} {ws : List W} {i : List Bool}, HRs K H F vs ws → asBools ws = some i → vs = i.map V.bl
  | _, [], i, h, e => by cases h; cases Option.some.inj e; rfl
  | _, w :: ws, i, h, e => by
    cases h with
    | cons a b =>
      cases w <;> first | (cases e; done) | skip
      rename_i k
      simp only [asBools, Option.map_eq_some_iff] at e
      obtain ⟨j, e, rfl⟩ := e
      rw [bls_rel b e, (PkR.inl' a).bl]; rfl
theorem call_sumW (hc : X.calm = true) : CallR X (.builtin "sum") (rL X.K (biW .sum)) := by
  refine callImp (cr_sum hc) fun xs H Q ⟨F, ws, r, a, e, q⟩ => ?_
  match ws, e, a with
  | [.lst ys], e, a =>
    obtain ⟨v, rfl, b⟩ := a.one
    simp only [biW, Option.map_eq_some_iff] at e
    obtain ⟨i, e3, rfl⟩ := e
    obtain ⟨p, vs, rfl, h1, h2, h3⟩ := b.lst
    obtain ⟨ns, rfl, rfl⟩ := sum_rel h3 e3
    exact ⟨p, ns, rfl, h1, q.int⟩
theorem call_allW (hc : X.calm = true) : CallR X (.builtin "all") (rL X.K (biW .all)) := by
  refine callImp (cr_all hc) fun xs H Q ⟨F, ws, r, a, e, q⟩ => ?_
  match ws, e, a with
  | [.lst ys], e, a =>
    obtain ⟨v, rfl, b⟩ := a.one
    simp only [biW, Option.map_eq_some_iff] at e
    obtain ⟨i, e3, rfl⟩ := e
    obtain ⟨p, vs, rfl, h1, h2, h3⟩ := b.lst
    obtain rfl := bls_rel h3 e3
    exact ⟨p, i, rfl, h1, q.bl⟩
theorem call_anyW (hc : X.calm = true) : CallR X (.builtin "any") (rL X.K (biW .any)) := by
  refine callImp (cr_any hc) fun xs H Q ⟨F, ws, r, a, e, q⟩ => ?_
  match ws, e, a with
  | [.lst ys], e, a =>
    obtain ⟨v, rfl, b⟩ := a.one
    simp only [biW, Option.map_eq_some_iff] at e
    obtain ⟨i, e3, rfl⟩ := e
    obtain ⟨p, vs, rfl, h1, h2, h3⟩ := b.lst
    obtain rfl := bls_rel h3 e3
    exact ⟨p, i, rfl, h1, q.bl⟩
theorem call_tupleW : CallR X (.type "tuple") (rL X.K (biW .tuple)) := by
  refine callImp call_tuple_of fun xs H Q ⟨F, ws, r, a, e, q⟩ => ?_
  match ws, e, a with
  | [.lst ys], e, a =>
    obtain ⟨v, rfl, b⟩ := a.one
    cases Option.some.inj e
    obtain ⟨p, vs, rfl, h1, h2, h3⟩ := b.lst
    exact ⟨p, vs, rfl, .inl ⟨h1, fun l hl => q _ _ (.tup hl h2 h3)⟩⟩
  | [.tup ys], e, a =>
    obtain ⟨v, rfl, b⟩ := a.one
    cases Option.some.inj e
    obtain ⟨p, vs, rfl, h1, h2, h3⟩ := b.tup
    exact ⟨p, vs, rfl, .inr ⟨h1, q _ _ (.old (.tup h1 h2 h3))⟩⟩
theorem call_listW : CallR X (.type "list") (rL X.K (biW .list)) := by
  refine callImp call_list_of fun xs H Q ⟨F, ws, r, a, e, q⟩ => ?_
  match ws, e, a with
  | [.lst ys], e, a =>
    obtain ⟨v, rfl, b⟩ := a.one
    cases Option.some.inj e
    obtain ⟨p, vs, rfl, h1, h2, h3⟩ := b.lst
    exact ⟨p, vs, rfl, .inl h1, fun l hl => q _ _ (.lst hl h2 h3)⟩
  | [.tup ys], e, a =>
    obtain ⟨v, rfl, b⟩ := a.one
    cases Option.some.inj e
    obtain ⟨p, vs, rfl, h1, h2, h3⟩ := b.tup
    exact ⟨p, vs, rfl, .inr h1, fun l hl => q _ _ (.lst hl h2 h3)⟩
end
end Py

namespace Py
open PySem PySem.Spec PyProof.Rows L2
variable [HW]

/-- an exception's own dict -/
def ExD (p : W) (d : Option Addr) (H : Hp) : Prop := match p with
  | .non => d = none
  | .int i => ∃ a, d = some a ∧ H a = some (.xd [("line", .int i)])
  | _ => False

/-- what stands still: the written part, the exceptions' classes, what is wanted of an exception, the defs -/
structure Cf where
  K : PySem.W.Frag
  cls : Nat → Value
  wx : WX
  C : Fn

def OkX {α : Type} (o : Out α) (P : α → Env → Prop) (E : Nat → W → Env → Prop) : Prop := match o with
  | .ok a ρ => P a ρ
  | .ex x p ρ => E x p ρ
  | .bad => False
theorem OkX.bind {α β : Type} {o : Out α} {f : α → Env → Out β} {P : β → Env → Prop} {E : Nat → W → Env → Prop} (h : OkX (o.bind f) P E) : OkX o (fun a ρ => OkX (f a ρ) P E) E := by
  cases o <;> exact h
theorem OkX.mono {α : Type} {o : Out α} {P P' : α → Env → Prop} {E E' : Nat → W → Env → Prop} (h : OkX o P E) (hp : ∀ a ρ, P a ρ → P' a ρ) (he : ∀ x p ρ, E x p ρ → E' x p ρ) : OkX o P' E' := by
  cases o with
  | ok a ρ => exact hp _ _ h
  | ex x p ρ => exact he _ _ _ h
  | bad => exact h

section
variable (c : Cf) (A : Nat → Option Addr) (σ : Sg) (ρ : Env) (H : Hp) (F : Addr → Prop) (Pn : List (Addr × W))
def PX (Q : VK) (a : Arg) (ρ' : Env) : Prop := ∀ v H' F', Stp σ ρ H F σ ρ' H' F' → SRel c.K A σ ρ' H' F' (pnd a v ++ Pn) → AR c.K σ H' F' a v → (∀ d x, (d, x) ∈ pnd a v → H d = none) → Q v H'
def PL (Q : List V → Hp → Prop) (as : List Arg) (ρ' : Env) : Prop := ∀ vs H' F', Stp σ ρ H F σ ρ' H' F' → SRel c.K A σ ρ' H' F' (pnds as vs ++ Pn) → ARs c.K σ H' F' as vs → (∀ d x, (d, x) ∈ pnds as vs → H d = none) → Q vs H'
def PB (Q : Bool → Hp → Prop) (k : Bool) (ρ' : Env) : Prop := ∀ H' F', Stp σ ρ H F σ ρ' H' F' → SRel c.K A σ ρ' H' F' Pn → Q k H'
def EX (x : Nat) (p : W) (ρ' : Env) : Prop := ∀ H' F' d, Stp σ ρ H F σ ρ' H' F' → SRel c.K A σ ρ' H' F' Pn → ExD p d H' → c.wx (c.cls x) d σ H'
end
def tX (c : Cf) (e : E) : TE := fun σ H Q => ∃ A ρ F Pn, SRel c.K A σ ρ H F Pn ∧ OkX ((ev c.C e).x ρ) (PX c A σ ρ H F Pn Q) (EX c A σ ρ H F Pn)
def tXL (c : Cf) (e : E) : TA := fun σ H Q => ∃ A ρ F Pn, SRel c.K A σ ρ H F Pn ∧ OkX ((ev c.C e).a ρ) (PL c A σ ρ H F Pn Q) (EX c A σ ρ H F Pn)
def tXB (c : Cf) (e : E) : TT := fun σ H Q => ∃ A ρ F Pn, SRel c.K A σ ρ H F Pn ∧ OkX ((ev c.C e).t ρ) (PB c A σ ρ H F Pn Q) (EX c A σ ρ H F Pn)

theorem peImp {X : Cx} {e : Expr} {t t' : TE} (h : PE X e t) (i : ∀ σ H Q, t' σ H Q → t σ H Q) : PE X e t' := ⟨fun pins s σ H Q I q => h.run pins s σ H Q I (i σ H Q q)⟩
theorem ptImp {X : Cx} {e : Expr} {t t' : TT} (h : PT X e t) (i : ∀ σ H Q, t' σ H Q → t σ H Q) : PT X e t' := ⟨fun pins s σ H Q I q => h.run pins s σ H Q I (i σ H Q q)⟩
theorem paImp {X : Cx} {e : List Expr} {t t' : TA} (h : PA X e t) (i : ∀ σ H Q, t' σ H Q → t σ H Q) : PA X e t' := ⟨fun pos pins s σ H Q I q => h.run pos pins s σ H Q I (i σ H Q q)⟩
theorem psImp {X : Cx} {e : Stmt} {t t' : TS} (h : PS X e t) (i : ∀ D σ H, t' D σ H → t D σ H) : PS X e t' := ⟨fun pins s σ H D I q => h.run pins s σ H D I (i D σ H q)⟩
theorem pssImp {X : Cx} {e : List Stmt} {t t' : TS} (h : PSs X e t) (i : ∀ D σ H, t' D σ H → t D σ H) : PSs X e t' := ⟨fun pins s σ H D I q => h.run pins s σ H D I (i D σ H q)⟩

section
variable {c : Cf} {A : Nat → Option Addr} {σ : Sg} {ρ ρ1 ρ' : Env} {H H1 : Hp} {F F1 : Addr → Prop} {Pn P1 : List (Addr × W)}
theorem EX.step {x : Nat} {p : W} (h : EX c A σ ρ H F Pn x p ρ') (st : Stp σ ρ H F σ ρ1 H1 F1) : EX c A σ ρ1 H1 F1 (P1 ++ Pn) x p ρ' :=
  fun H' F' d st' s e => h H' F' d (st.trans st') s.drop e

/-- behind some arguments -/
structure Md (c : Cf) (A : Nat → Option Addr) (σ : Sg) (ρ : Env) (H : Hp) (F : Addr → Prop) (Pn : List (Addr × W)) (as : List Arg) (vs : List V) (ρ' : Env) (H' : Hp) (F' : Addr → Prop) : Prop where
  st : Stp σ ρ H F σ ρ' H' F'
  sr : SRel c.K A σ ρ' H' F' (pnds as vs ++ Pn)
  ar : ARs c.K σ H' F' as vs
  fr : ∀ d x, (d, x) ∈ pnds as vs → H d = none
theorem Stp.fresh {σ' : Sg} (st : Stp σ ρ H F σ' ρ1 H1 F1) {a : Addr} (h : H1 a = none) : H a = none := by
  cases e : H a with
  | none => rfl
  | some o => obtain ⟨o', e'⟩ := st.al a o e; rw [h] at e'; cases e'
theorem Md.nil (hs : SRel c.K A σ ρ H F Pn) : Md c A σ ρ H F Pn [] [] ρ H F := ⟨.refl, hs, .nil, fun _ _ h => nomatch h⟩
/-- one argument more -/
theorem Md.snoc {as : List Arg} {vs : List V} {H' H2 : Hp} {F' F2 : Addr → Prop} {a : Arg} {v : V} {ρ2 : Env} (m : Md c A σ ρ H F Pn as vs ρ' H' F')
    (st : Stp σ ρ' H' F' σ ρ2 H2 F2) (sr : SRel c.K A σ ρ2 H2 F2 (pnd a v ++ (pnds as vs ++ Pn))) (ar : AR c.K σ H2 F2 a v) (fr : ∀ d x, (d, x) ∈ pnd a v → H' d = none) : Md c A σ ρ H F Pn (as ++ [a]) (vs ++ [v]) ρ2 H2 F2 := by
  have e : ∀ {as : List Arg} {vs : List V}, ARs c.K σ H' F' as vs → pnds (as ++ [a]) (vs ++ [v]) = pnd a v ++ pnds as vs := by
    intro as vs h
    induction h with
    | nil => simp [pnds]
    | cons _ _ ih => simp [pnds, ih]
  have e := e m.ar
  refine ⟨m.st.trans st, by rw [e, List.append_assoc]; exact sr, ?_, fun d x h => ?_⟩
  · exact (m.ar.stp m.sr st).snoc ar
  · rw [e] at h
    rcases List.mem_append.mp h with h | h
    · exact m.st.fresh (fr d x h)
    · exact m.fr d x h
theorem tX_of {e : E} {Q : VK} {R : VK} {as : List Arg} {vs : List V} {H' : Hp} {F' : Addr → Prop} {k : Arg → Env → Out Arg} (m : Md c A σ ρ H F Pn as vs ρ' H' F')
    (h : OkX (((ev c.C e).x ρ').bind k) (PX c A σ ρ H F Pn Q) (EX c A σ ρ H F Pn))
    (fin : ∀ a v ρ2 H2 F2, Md c A σ ρ H F Pn (as ++ [a]) (vs ++ [v]) ρ2 H2 F2 → OkX (k a ρ2) (PX c A σ ρ H F Pn Q) (EX c A σ ρ H F Pn) → R v H2) : tX c e σ H' R :=
  ⟨A, ρ', F', pnds as vs ++ Pn, m.sr, h.bind.mono (fun a ρ2 h2 v H2 F2 st s ar fr => fin a v ρ2 H2 F2 (m.snoc st s ar fr) h2) fun _ _ _ e => e.step m.st⟩
theorem tX_ofG {α : Type} {P : α → Env → Prop} {e : E} {R : VK} {as : List Arg} {vs : List V} {H' : Hp} {F' : Addr → Prop} {k : Arg → Env → Out α} (m : Md c A σ ρ H F Pn as vs ρ' H' F')
    (h : OkX (((ev c.C e).x ρ').bind k) P (EX c A σ ρ H F Pn))
    (fin : ∀ a v ρ2 H2 F2, Md c A σ ρ H F Pn (as ++ [a]) (vs ++ [v]) ρ2 H2 F2 → OkX (k a ρ2) P (EX c A σ ρ H F Pn) → R v H2) : tX c e σ H' R :=
  ⟨A, ρ', F', pnds as vs ++ Pn, m.sr, h.bind.mono (fun a ρ2 h2 v H2 F2 st s ar fr => fin a v ρ2 H2 F2 (m.snoc st s ar fr) h2) fun _ _ _ e => e.step m.st⟩
theorem tXL_of {e : E} {Q : VK} {R : List V → Hp → Prop} {k : List Arg → Env → Out Arg} (hs : SRel c.K A σ ρ H F Pn)
    (h : OkX (((ev c.C e).a ρ).bind k) (PX c A σ ρ H F Pn Q) (EX c A σ ρ H F Pn))
    (fin : ∀ as vs ρ2 H2 F2, Md c A σ ρ H F Pn as vs ρ2 H2 F2 → OkX (k as ρ2) (PX c A σ ρ H F Pn Q) (EX c A σ ρ H F Pn) → R vs H2) : tXL c e σ H R :=
  ⟨A, ρ, F, Pn, hs, h.bind.mono (fun as ρ2 h2 vs H2 F2 st s ar fr => fin as vs ρ2 H2 F2 ⟨st, s, ar, fr⟩ h2) fun _ _ _ e => e⟩

/-! ### something new in the heap -/
theorem upd_some {H : Hp} {p : Addr} {o u : HO} {a : Addr} (hp : H p = none) (h : H a = some u) : upd H p o a = some u := by
  rw [upd_ne (ne_of_none h hp)]; exact h
theorem Rd.upd {p a : Addr} {o u : HO} (hp : H p = none) (h : Rd H a u) : Rd (L2.upd H p o) a u := by
  rcases h with h | ⟨b, h⟩
  · exact .inl (upd_some hp h)
  · exact .inr ⟨b, upd_some hp h⟩
theorem SqT.upd {K : PySem.W.Frag} {p a : Addr} {o : HO} {xs : List V} (hp : H p = none) (h : SqT K H a xs) : SqT K (L2.upd H p o) a xs := by
  rcases h with h | h
  · exact .inl (Rd.upd hp h)
  · exact .inr h
theorem HR.upd {K : PySem.W.Frag} {p : Addr} {o : HO} {v : V} {w : W} (hp : H p = none) (h : HR K H F v w) : HR K (L2.upd H p o) F v w := h.mono (fun _ _ q => SqT.upd hp q) (fun _ q => q) fun _ _ _ q => Rd.upd hp q
theorem HRs.upd {K : PySem.W.Frag} {p : Addr} {o : HO} {v : List V} {w : List W} (hp : H p = none) (h : HRs K H F v w) : HRs K (L2.upd H p o) F v w := h.mono (fun _ _ q => SqT.upd hp q) (fun _ q => q) fun _ _ _ q => Rd.upd hp q
theorem Cell.upd {K : PySem.W.Frag} {p a : Addr} {o : HO} {w : W} (hp : H p = none) (h : Cell K H F a w) : Cell K (L2.upd H p o) F a w := by
  cases w <;> first | exact h.elim | skip
  · obtain ⟨vs, e, z, r⟩ := h
    exact ⟨vs, upd_some hp e, z, r.upd hp⟩
  · obtain ⟨es, e, z, n, r⟩ := h
    exact ⟨es, e.imp fun _ e => upd_some hp e, z, n, r.mono (fun _ _ q => SqT.upd hp q) (fun _ q => q) fun _ _ _ q => Rd.upd hp q⟩
theorem SRel.alloc {K : PySem.W.Frag} {p : Addr} {o : HO} (h : SRel K A σ ρ H F Pn) (hp : H p = none) : SRel K A σ ρ (L2.upd H p o) F Pn := by
  refine ⟨h.ln, fun i w e => ?_, fun i w f e n => ?_, h.io, h.dj, fun q hq => ?_, h.pd, fun a q => ?_⟩
  · obtain ⟨v, a, b⟩ := h.sh i w e
    exact ⟨v, a, b.upd hp⟩
  · obtain ⟨a, x, y, z⟩ := h.ow i w f e n
    exact ⟨a, x, y, z.upd hp⟩
  · obtain ⟨x, y, z⟩ := h.pn q hq
    exact ⟨x, y.upd hp, z⟩
  · obtain ⟨u, e⟩ := h.ff a q
    exact ⟨u, upd_some hp e⟩
theorem Stp.alloc {p : Addr} {o : HO} (hp : H p = none) : Stp σ ρ H F σ ρ (L2.upd H p o) F :=
  ⟨fun _ _ h _ => upd_some hp h, fun _ h => h, fun _ _ _ h => .inl h, fun _ _ _ h => h, fun _ _ _ i h => h, fun _ _ _ h => h, fun _ u h => ⟨u, upd_some hp h⟩⟩
/-- a new object that nothing holds -/
theorem SRel.pend {K : PySem.W.Frag} {p : Addr} {o : HO} {w : W} (h : SRel K A σ ρ H F Pn) (hp : H p = none) (hc : Cell K (L2.upd H p o) F p w) : SRel K A σ ρ (L2.upd H p o) F ((p, w) :: Pn) := by
  have h1 := h.alloc (o := o) hp
  refine ⟨h1.ln, h1.sh, h1.ow, h1.io, h1.dj, fun q hq => ?_, ?_, h1.ff⟩
  · rcases List.mem_cons.mp hq with rfl | hq
    · refine ⟨fun f => ?_, hc, fun i s => ?_⟩
      · obtain ⟨u, e⟩ := h.ff p f; rw [hp] at e; cases e
      · obtain ⟨_, vs, e, _⟩ := h.slc s; rw [hp] at e; cases e
    · exact h1.pn q hq
  · refine List.nodup_cons.mpr ⟨fun hm => ?_, h.pd⟩
    obtain ⟨q, hq, e⟩ := List.mem_map.mp hm
    obtain ⟨vs, e', _⟩ := (h.pn q hq).2.1.obj
    dsimp only at e
    rw [e, hp] at e'; cases e'
/-- the result of a rule -/
theorem Md.fin {as : List Arg} {vs : List V} {H' : Hp} {F' : Addr → Prop} {Q : VK} {r : W × Bool} (m : Md c A σ ρ H F Pn as vs ρ' H' F') (h : PX c A σ ρ H F Pn Q (.val r.1 r.2) ρ') : Rs c.K H' F' Q r := by
  intro v H2 n
  obtain ⟨w, f⟩ := r
  have sr := m.sr.drop
  cases n with
  | old q => exact h v H' F' m.st (by simpa [pnd] using sr) q fun d x z => by simp [pnd] at z
  | tup hp hz hr =>
    rename_i p us ws
    exact h _ _ F' (m.st.trans (.alloc hp)) (by simpa [pnd] using sr.alloc hp) (HR.tup (.inl (.inl upd_same)) hz (hr.upd hp)) fun d x z => by simp [pnd] at z
  | lst hp hz hr =>
    rename_i p us ws
    refine h _ _ F' (m.st.trans (.alloc hp)) (by simpa [pnd] using sr.pend (w := .lst ws) hp ⟨us, upd_same, hz, hr.upd hp⟩) ⟨p, rfl⟩ fun d x z => ?_
    obtain ⟨rfl, rfl⟩ : d = p ∧ x = .lst ws := by simpa [pnd] using z
    exact m.st.fresh hp
theorem Md.pk {as : List Arg} {vs : List V} {H' : Hp} {F' : Addr → Prop} {ws : List W} (m : Md c A σ ρ H F Pn as vs ρ' H' F') (e : ress ρ' as = some ws) : PkRs c.K H' F' vs ws :=
  m.ar.peek m.sr (fun p h => List.mem_append_left _ h) e
theorem ofO_ok {o : Option (W × Bool)} {P : Arg → Env → Prop} {E : Nat → W → Env → Prop} (h : OkX (ofO o ρ) P E) : ∃ r, o = some r ∧ P (.val r.1 r.2) ρ := by
  unfold ofO at h
  cases o with
  | none => exact h.elim
  | some r => exact ⟨r, rfl, h⟩
theorem ress1 {a : Arg} {w : W} (h : res ρ a = some w) : ress ρ [a] = some [w] := by simp [ress, h]
theorem ress2 {a b : Arg} {w u : W} (h : res ρ a = some w) (h' : res ρ b = some u) : ress ρ [a, b] = some [w, u] := by simp [ress, h, h']
theorem l1_ok {f : W → Option (W × Bool)} {a : Arg} {P : Arg → Env → Prop} {E : Nat → W → Env → Prop} (h : OkX (l1 f a ρ) P E) : ∃ w r, ress ρ [a] = some [w] ∧ f w = some r ∧ P (.val r.1 r.2) ρ := by
  unfold l1 at h
  cases e : res ρ a with
  | none => rw [e] at h; exact h.elim
  | some w =>
    rw [e] at h
    obtain ⟨r, e', q⟩ := ofO_ok h
    exact ⟨w, r, ress1 e, e', q⟩
theorem l2_ok {f : W → W → Option (W × Bool)} {a b : Arg} {P : Arg → Env → Prop} {E : Nat → W → Env → Prop} (h : OkX (l2 f a b ρ) P E) : ∃ w u r, ress ρ [a, b] = some [w, u] ∧ f w u = some r ∧ P (.val r.1 r.2) ρ := by
  unfold l2 at h
  cases e : res ρ a with
  | none => rw [e] at h; exact h.elim
  | some w =>
    cases e2 : res ρ b with
    | none => rw [e, e2] at h; exact h.elim
    | some u =>
      rw [e, e2] at h
      obtain ⟨r, e', q⟩ := ofO_ok h
      exact ⟨w, u, r, ress2 e e2, e', q⟩
theorem lL_ok {f : List W → Option (W × Bool)} {a : List Arg} {P : Arg → Env → Prop} {E : Nat → W → Env → Prop} (h : OkX (lL f a ρ) P E) : ∃ w r, ress ρ a = some w ∧ f w = some r ∧ P (.val r.1 r.2) ρ := by
  unfold lL at h
  cases e : ress ρ a with
  | none => rw [e] at h; exact h.elim
  | some w =>
    rw [e] at h
    obtain ⟨r, e', q⟩ := ofO_ok h
    exact ⟨w, r, rfl, e', q⟩
theorem trO_ok {o : Option W} {P : Bool → Env → Prop} {E : Nat → W → Env → Prop} (h : OkX (trO o ρ) P E) : ∃ w b, o = some w ∧ truth w = some b ∧ P b ρ := by
  unfold trO at h
  cases e : o.bind truth with
  | none => rw [e] at h; exact h.elim
  | some b =>
    rw [e] at h
    obtain ⟨w, e1, e2⟩ := Option.bind_eq_some_iff.mp e
    exact ⟨w, b, e1, e2, h⟩
end

/-! ### the rules -/
section
variable {X : Cx} {c : Cf} {e a b : Expr} {ea eb : E} {pos : Pos}
theorem x_con {v : V} {w : W} (h : PE X e (tC v)) (hr : ∀ H F, HR c.K H F v w) : PE X e (tX c (.con w)) := by
  refine peImp h fun σ H Q ⟨A, ρ, F, Pn, hs, q⟩ => ?_
  exact q v H F .refl (by simpa [pnd] using hs) (hr H F) fun d x z => by simp [pnd] at z
theorem x_var {i : Nat} (h : PE X e (tVar i)) : PE X e (tX c (.var i)) := by
  refine peImp h fun σ H Q ⟨A, ρ, F, Pn, hs, q⟩ => ?_
  have q : OkX (match wOf ρ i with | some _ => Out.ok (Arg.slot i) ρ | none => .bad) (PX c A σ ρ H F Pn Q) (EX c A σ ρ H F Pn) := q
  cases e : wOf ρ i with
  | none => rw [e] at q; exact q.elim
  | some x =>
    rw [e] at q
    obtain ⟨v, ev⟩ := hs.val e
    exact ⟨v, ev, q v H F .refl (by simpa [pnd] using hs) ev fun d x z => by simp [pnd] at z⟩
theorem x_op {o : Operator} {p : BOp} (hc : c.K = X.K) (ho : bOp o = some p) (ha : PE X a (tX c ea)) (hb : PE X b (tX c eb)) : PE X (.BinOp a o b pos) (tX c (.op p ea eb)) := by
  refine peImp (pe_op (op_binW ho) ha hb) fun σ H Q ⟨A, ρ, F, Pn, hs, q⟩ => ?_
  refine tX_of (.nil hs) q fun u v ρ1 H1 F1 m1 q1 => tX_of m1 q1 fun u' v' ρ2 H2 F2 m2 q2 => ?_
  obtain ⟨w, z, r, e1, e2, q3⟩ := l2_ok q2
  obtain ⟨_, _, e, p1, p2⟩ := (m2.pk e1).two
  cases e
  rw [← hc]
  exact ⟨F2, w, z, r, p1, p2, e2, m2.fin q3⟩
theorem x_cmp {o : CmpOp} {p : COp} (hc : c.K = X.K) (hw : HW.P = X.prog ∧ HW.w = X.w) (hu : X.A.units + 200 < cLine) (ho : cOp o = some p) (hm : behindInMarks o b = false) (ha : PE X a (tX c ea)) (hb : PE X b (tX c eb)) : PE X (.Compare a [o] [b] pos) (tX c (.cmp p ea eb)) := by
  refine peImp (pe_cmpR (op_cmpW hw hu ho) ha hb hm) fun σ H Q ⟨A, ρ, F, Pn, hs, q⟩ => ?_
  refine tX_of (.nil hs) q fun u v ρ1 H1 F1 m1 q1 => tX_of m1 q1 fun u' v' ρ2 H2 F2 m2 q2 => ?_
  obtain ⟨w, z, r, e1, e2, q3⟩ := l2_ok q2
  obtain ⟨_, _, e, p1, p2⟩ := (m2.pk e1).two
  cases e
  rw [← hc]
  exact ⟨F2, w, z, r, p1, p2, e2, m2.fin q3⟩
theorem x_ix (hc : c.K = X.K) (hw : HW.P = X.prog ∧ HW.w = X.w) (hu : X.A.units + 200 < cLine) (hp : PlainIx b) (ha : PE X a (tX c ea)) (hb : PE X b (tX c eb)) : PE X (.Subscript a b pos) (tX c (.ix ea eb)) := by
  refine peImp (pe_ix (ix_W hw hu) ha hb hp) fun σ H Q ⟨A, ρ, F, Pn, hs, q⟩ => ?_
  refine tX_of (.nil hs) q fun u v ρ1 H1 F1 m1 q1 => tX_of m1 q1 fun u' v' ρ2 H2 F2 m2 q2 => ?_
  obtain ⟨w, z, r, e1, e2, q3⟩ := l2_ok q2
  obtain ⟨_, _, e, p1, p2⟩ := (m2.pk e1).two
  cases e
  rw [← hc]
  exact ⟨F2, w, z, r, p1, p2, e2, m2.fin q3⟩
theorem x_neg (hc : c.K = X.K) (ha : PE X a (tX c ea)) : PE X (.UnaryOp .USub a pos) (tX c (.neg ea)) := by
  refine peImp (pe_un un_neg ha) fun σ H Q ⟨A, ρ, F, Pn, hs, q⟩ => ?_
  refine tX_of (.nil hs) q fun u v ρ1 H1 F1 m1 q1 => ?_
  obtain ⟨w, r, e1, e2, q3⟩ := l1_ok q1
  obtain ⟨_, e, p1⟩ := (m1.pk e1).one
  cases e
  cases w <;> first | (cases e2; done) | cases Option.some.inj e2
  exact ⟨_, p1.int, (m1.fin (r := (.int _, false)) q3).int⟩

/-- the readings are what they ask -/
theorem res_bind {α : Type} {o : Option W} {f : W → Option α} {r : α} (h : o.bind f = some r) : ∃ w, o = some w ∧ f w = some r := Option.bind_eq_some_iff.mp h
/-- truth of a read value -/
theorem tru_of {K : PySem.W.Frag} {H : Hp} {F : Addr → Prop} {v : V} {w : W} {b : Bool} (h : PkR K H F v w) (e : truth w = some b) : TruV K v H b := by
  cases w with
  | non => rw [h.non]; exact (Option.some.inj e).symm
  | bl k => rw [h.bl]; exact (Option.some.inj e).symm
  | int k => rw [h.int]; exact (Option.some.inj e).symm
  | str k =>
    obtain ⟨rfl, z, _⟩ := h.str
    refine ⟨by rw [s8_len]; exact z, ?_⟩
    rw [s8_len]
    have : b = !k.isEmpty := (Option.some.inj e).symm
    rw [this]
    cases k <;> simp <;> omega
  | tup k =>
    obtain ⟨p, vs, rfl, a, z, r⟩ := h.tup
    refine .inr (.inl ⟨vs, a, ?_⟩)
    have : b = !k.isEmpty := (Option.some.inj e).symm
    rw [this]
    have := r.length
    cases vs <;> cases k <;> simp_all
  | lst k =>
    obtain ⟨p, vs, rfl, a, z, r⟩ := h.lst
    refine .inl ⟨vs, a, ?_⟩
    have : b = !k.isEmpty := (Option.some.inj e).symm
    rw [this]
    have := r.length
    cases vs <;> cases k <;> simp_all
  | dct k => cases e
  | st k => exact h.st.elim
/-- a test by the value's truth -/
theorem t_plain (hc : c.K = X.K) (h : PE X e (tX c ea)) (ht : ∀ ρ, (ev c.C ea).t ρ = ((ev c.C ea).x ρ).bind fun u ρ1 => trO (res ρ1 u) ρ1)
    (he : ∀ whole, isTrue e X.env whole = (do let v ← whole; standAt e.pos; holding [v] (truthy v))) : PT X e (tXB c ea) := by
  refine ptImp (pt_truth h he) fun σ H Q ⟨A, ρ, F, Pn, hs, q⟩ => ?_
  rw [ht] at q
  refine tX_ofG (.nil hs) q fun u v ρ1 H1 F1 m1 q1 => ?_
  obtain ⟨w, b, e1, e2, q2⟩ := trO_ok q1
  obtain ⟨_, e, p1⟩ := (m1.pk (ress1 e1)).one
  cases e
  exact ⟨b, by rw [← hc]; exact tru_of p1 e2, q2 H1 F1 m1.st m1.sr.drop⟩
/-- .. of a value that is a truth value -/
theorem t_bool (h : PT X e (tTest (tX c ea))) (ht : ∀ ρ, (ev c.C ea).t ρ = ((ev c.C ea).x ρ).bind fun u ρ1 => trO (res ρ1 u) ρ1) (hb : ∀ ρ a ρ1, (ev c.C ea).x ρ = .ok a ρ1 → ∃ b, a = .val (.bl b) false) : PT X e (tXB c ea) := by
  refine ptImp h fun σ H Q ⟨A, ρ, F, Pn, hs, q⟩ => ?_
  rw [ht] at q
  cases e1 : (ev c.C ea).x ρ with
  | bad => rw [e1] at q; exact q.elim
  | ex x p ρ1 =>
    rw [e1] at q
    refine ⟨A, ρ, F, Pn, hs, ?_⟩
    rw [e1]; exact q
  | ok a ρ1 =>
    obtain ⟨b, rfl⟩ := hb ρ a ρ1 e1
    rw [e1] at q
    refine ⟨A, ρ, F, Pn, hs, ?_⟩
    rw [e1]
    intro v H' F' st sr ar fr
    have ar' : HR c.K H' F' v (.bl b) := ar
    cases ar'
    exact ⟨b, rfl, q H' F' st (by simpa [pnd] using sr)⟩
theorem l2_val {f : W → W → Option Bool} {u v a : Arg} {ρ ρ' : Env} (h : l2 (bW f) u v ρ = .ok a ρ') : ∃ b, a = .val (.bl b) false := by
  unfold l2 at h
  split at h
  · rename_i w z _ _
    unfold ofO at h
    cases e : bW f w z with
    | none => rw [e] at h; cases h
    | some r =>
      obtain ⟨b, _, rfl⟩ := bW_some e
      rw [e] at h
      cases h
      exact ⟨b, rfl⟩
  · cases h
theorem bind_ok {α β : Type} {o : Out α} {f : α → Env → Out β} {b : β} {ρ : Env} (h : o.bind f = .ok b ρ) : ∃ a ρ1, o = .ok a ρ1 ∧ f a ρ1 = .ok b ρ := by
  cases o with
  | ok a ρ1 => exact ⟨a, ρ1, rfl, h⟩
  | ex x p ρ1 => cases h
  | bad => cases h
theorem t_cmp {o : CmpOp} {p : COp} (hc : c.K = X.K) (hw : HW.P = X.prog ∧ HW.w = X.w) (hu : X.A.units + 200 < cLine) (ho : cOp o = some p) (hm : behindInMarks o b = false) (ha : PE X a (tX c ea)) (hb : PE X b (tX c eb)) : PT X (.Compare a [o] [b] pos) (tXB c (.cmp p ea eb)) := by
  refine t_bool (ptImp (pt_cmpR (op_cmpW hw hu ho) ha hb hm) fun σ H Q h => ?_) (fun _ => rfl) fun ρ a' ρ1 e => ?_
  · obtain ⟨A, ρ, F, Pn, hs, q⟩ := h
    refine tX_of (.nil hs) q fun u v ρ1 H1 F1 m1 q1 => tX_of m1 q1 fun u' v' ρ2 H2 F2 m2 q2 => ?_
    obtain ⟨w, z, r, e1, e2, q3⟩ := l2_ok q2
    obtain ⟨_, _, e, p1, p2⟩ := (m2.pk e1).two
    cases e
    rw [← hc]
    exact ⟨F2, w, z, r, p1, p2, e2, m2.fin q3⟩
  · obtain ⟨_, _, _, e⟩ := bind_ok e
    obtain ⟨_, _, _, e⟩ := bind_ok e
    exact l2_val e

/-! ### a < b < c -/
theorem cmp2_ok {p q : COp} {ec : E} {σ : Sg} {A : Nat → Option Addr} {ρ : Env} {H : Hp} {F : Addr → Prop} {Pn : List (Addr × W)} {Q : VK} (hc : c.K = X.K) (hs : SRel c.K A σ ρ H F Pn)
    (h : OkX ((ev c.C (.cmp2 p q ea eb ec)).x ρ) (PX c A σ ρ H F Pn Q) (EX c A σ ρ H F Pn)) : tChain (r2 X.K (bW (cmpW p))) (r2 X.K (bW (cmpW q))) (tX c ea) (tX c eb) (tX c ec) σ H Q := by
  refine tX_of (.nil hs) h fun u v ρ1 H1 F1 m1 q1 => tX_of m1 q1 fun u' v' ρ2 H2 F2 m2 q2 => ?_
  cases e1 : res ρ2 u with
  | none => simp only [e1] at q2; exact q2.elim
  | some w => cases e2 : res ρ2 u' with
    | none => simp only [e1, e2] at q2; exact q2.elim
    | some z => cases e3 : cmpW p w z with
      | none => simp only [e1, e2, e3] at q2; exact q2.elim
      | some k =>
        simp only [e1, e2, e3] at q2
        obtain ⟨_, _, e, p1, p2⟩ := (m2.pk (ress2 e1 e2)).two
        cases e
        rw [← hc]
        refine ⟨F2, w, z, (.bl k, false), p1, p2, by simp [bW, e3], fun v3 H3 n => ?_⟩
        cases n with | old n =>
        cases n
        refine ⟨k, rfl, ?_⟩
        cases k with
        | false => exact iteF ((m2.fin (r := (.bl false, false)) q2).bl)
        | true =>
          refine iteT (tX_of m2 q2 fun u3 v3 ρ3 H3 F3 m3 q3 => ?_)
          obtain ⟨w', z', r, e4, e5, q4⟩ := l2_ok q3
          have p1' : PkR c.K H3 F3 v' w' ∧ PkR c.K H3 F3 v3 z' := by
            have a1 := m3.ar
            have e7 : res ρ3 u' = some w' ∧ res ρ3 u3 = some z' := by
              simp only [ress] at e4
              cases h1 : res ρ3 u' <;> cases h2 : res ρ3 u3 <;> simp_all
            cases a1 with | cons x1 a1 => cases a1 with | cons x2 a1 => cases a1 with | cons x3 a1 =>
              exact ⟨x2.peek m3.sr (fun p h => by simp [pnds, h]) e7.1, x3.peek m3.sr (fun p h => by simp [pnds, h]) e7.2⟩
          exact ⟨F3, w', z', r, p1'.1, p1'.2, e5, m3.fin q4⟩
theorem x_cmp2 {d : Expr} {ec : E} {o o' : CmpOp} {p q : COp} (hc : c.K = X.K) (hw : HW.P = X.prog ∧ HW.w = X.w) (hu : X.A.units + 200 < cLine) (ho : cOp o = some p) (ho' : cOp o' = some q) (hm : lastMarks [o, o'] [b, d] = false) (ha : PE X a (tX c ea)) (hb : PE X b (tX c eb)) (hd : PE X d (tX c ec)) :
    PE X (.Compare a [o, o'] [b, d] pos) (tX c (.cmp2 p q ea eb ec)) :=
  peImp (pe_chain (op_cmpW hw hu ho) (op_cmpW hw hu ho') ha hb hd hm) fun σ H Q ⟨A, ρ, F, Pn, hs, h⟩ => cmp2_ok hc hs h
theorem t_cmp2 {d : Expr} {ec : E} {o o' : CmpOp} {p q : COp} (hc : c.K = X.K) (hw : HW.P = X.prog ∧ HW.w = X.w) (hu : X.A.units + 200 < cLine) (ho : cOp o = some p) (ho' : cOp o' = some q) (hm : lastMarks [o, o'] [b, d] = false) (ha : PE X a (tX c ea)) (hb : PE X b (tX c eb)) (hd : PE X d (tX c ec)) :
    PT X (.Compare a [o, o'] [b, d] pos) (tXB c (.cmp2 p q ea eb ec)) := by
  refine t_bool (ptImp (pt_chain (op_cmpW hw hu ho) (op_cmpW hw hu ho') ha hb hd hm) fun σ H Q ⟨A, ρ, F, Pn, hs, h⟩ => cmp2_ok hc hs h) (fun _ => rfl) fun ρ a' ρ1 e => ?_
  obtain ⟨_, _, _, e⟩ := bind_ok e
  obtain ⟨_, _, _, e⟩ := bind_ok e
  split at e
  · split at e
    · obtain ⟨_, _, _, e⟩ := bind_ok e
      exact l2_val e
    · cases e; exact ⟨false, rfl⟩
    · cases e
  · cases e

/-! ### and, or, not, if -/
theorem tXB_of {e : E} {α : Type} {P : α → Env → Prop} {R : Bool → Hp → Prop} {σ : Sg} {A : Nat → Option Addr} {ρ : Env} {H : Hp} {F : Addr → Prop} {Pn : List (Addr × W)} {k : Bool → Env → Out α} (hs : SRel c.K A σ ρ H F Pn)
    (h : OkX (((ev c.C e).t ρ).bind k) P (EX c A σ ρ H F Pn))
    (fin : ∀ b ρ2 H2 F2, Md c A σ ρ H F Pn [] [] ρ2 H2 F2 → OkX (k b ρ2) P (EX c A σ ρ H F Pn) → R b H2) : tXB c e σ H R :=
  ⟨A, ρ, F, Pn, hs, h.bind.mono (fun b ρ2 h2 H2 F2 st s => fin b ρ2 H2 F2 ⟨st, s, .nil, fun _ _ h => nomatch h⟩ h2) fun _ _ _ e => e⟩
/-- a later point -/
theorem PX.step {σ : Sg} {A : Nat → Option Addr} {ρ ρ1 ρ' : Env} {H H1 : Hp} {F F1 : Addr → Prop} {Pn : List (Addr × W)} {Q : VK} {x : Arg} (h : PX c A σ ρ H F Pn Q x ρ') (st : Stp σ ρ H F σ ρ1 H1 F1) : PX c A σ ρ1 H1 F1 Pn Q x ρ' :=
  fun v H' F' st' s ar fr => h v H' F' (st.trans st') s ar fun d y z => st.fresh (fr d y z)
theorem PB.step {σ : Sg} {A : Nat → Option Addr} {ρ ρ1 ρ' : Env} {H H1 : Hp} {F F1 : Addr → Prop} {Pn : List (Addr × W)} {Q : Bool → Hp → Prop} {x : Bool} (h : PB c A σ ρ H F Pn Q x ρ') (st : Stp σ ρ H F σ ρ1 H1 F1) : PB c A σ ρ1 H1 F1 Pn Q x ρ' :=
  fun H' F' st' s => h H' F' (st.trans st') s
theorem tX_at {e : E} {Q : VK} {σ : Sg} {A : Nat → Option Addr} {ρ ρ1 : Env} {H H1 : Hp} {F F1 : Addr → Prop} {Pn P1 : List (Addr × W)} (hs : SRel c.K A σ ρ1 H1 F1 (P1 ++ Pn)) (st : Stp σ ρ H F σ ρ1 H1 F1)
    (h : OkX ((ev c.C e).x ρ1) (PX c A σ ρ H F Pn Q) (EX c A σ ρ H F Pn)) : tX c e σ H1 Q :=
  ⟨A, ρ1, F1, Pn, hs.drop, h.mono (fun _ _ q => q.step st) fun _ _ _ q => by simpa using q.step (P1 := []) st⟩
theorem tXB_at {e : E} {Q : Bool → Hp → Prop} {σ : Sg} {A : Nat → Option Addr} {ρ ρ1 : Env} {H H1 : Hp} {F F1 : Addr → Prop} {Pn P1 : List (Addr × W)} (hs : SRel c.K A σ ρ1 H1 F1 (P1 ++ Pn)) (st : Stp σ ρ H F σ ρ1 H1 F1)
    (h : OkX ((ev c.C e).t ρ1) (PB c A σ ρ H F Pn Q) (EX c A σ ρ H F Pn)) : tXB c e σ H1 Q :=
  ⟨A, ρ1, F1, Pn, hs.drop, h.mono (fun _ _ q => q.step st) fun _ _ _ q => by simpa using q.step (P1 := []) st⟩
theorem x_ite {g : Expr} {ec : E} (hg : PT X g (tXB c ec)) (ha : PE X a (tX c ea)) (hb : PE X b (tX c eb)) : PE X (.IfExp g a b pos) (tX c (.ite ec ea eb)) := by
  refine peImp (pe_ifExp hg ha hb) fun σ H Q ⟨A, ρ, F, Pn, hs, q⟩ => ?_
  refine tXB_of hs q fun k ρ1 H1 F1 m q1 => ?_
  cases k with
  | true => exact iteT (tX_at m.sr m.st q1)
  | false => exact iteF (tX_at m.sr m.st q1)
theorem t_ite {g : Expr} {ec : E} (hg : PT X g (tXB c ec)) (ha : PT X a (tXB c ea)) (hb : PT X b (tXB c eb)) : PT X (.IfExp g a b pos) (tXB c (.ite ec ea eb)) := by
  refine ⟨fun pins s σ H Q I ⟨A, ρ, F, Pn, hs, q⟩ => ?_⟩
  have h : tXB c ec σ H fun k H1 => if k = true then tXB c ea σ H1 Q else tXB c eb σ H1 Q := by
    refine tXB_of hs q fun k ρ1 H1 F1 m q1 => ?_
    cases k with
    | true => exact iteT (tXB_at m.sr m.st q1)
    | false => exact iteF (tXB_at m.sr m.st q1)
  show wpAny _ _ (PySem.isTrue (.IfExp g a b pos) X.env (eval (.IfExp g a b pos) X.env)) _ _ _
  rw [PySem.isTrue]
  refine wpAny_bind (thn (hg.run pins s σ H _ I h) fun k s1 ⟨H1, I1, q1⟩ => ?_)
  cases k with
  | true => exact ha.run pins s1 σ H1 Q I1 (by simpa using q1)
  | false => exact hb.run pins s1 σ H1 Q I1 (by simpa using q1)
end
end Py

namespace Py
open PySem PySem.Spec PyProof.Rows L2
variable [HW]
section
variable {X : Cx} {c : Cf} {e a b : Expr} {ea eb : E} {rest : List Expr} {pos : Pos}
/-! ### and, or, not as tests -/
theorem x_dnw : PE X (.Dict [] [] pos) (tX c (.dsp .nil)) := by
  refine peImp pe_dnw fun σ H Q ⟨A, ρ, F, Pn, hs, q⟩ => ?_
  have q : PX c A σ ρ H F Pn Q (.val (.dct []) true) ρ := q
  intro p hp
  refine q (.ref p) _ F (.alloc hp) (by simpa [pnd] using hs.pend (w := .dct []) hp ⟨[], ⟨_, upd_same⟩, Nat.zero_le _, List.nodup_nil, .nil⟩) ⟨p, rfl⟩ fun d x z => ?_
  obtain ⟨rfl, rfl⟩ : d = p ∧ x = .dct [] := by simpa [pnd] using z
  exact hp
theorem t_and1 (ha : PT X a (tXB c ea)) : PW X (.BoolOp .And [a] pos) (tXB c ea) := pw_and1 ha
theorem t_or1 (ha : PT X a (tXB c ea)) : PW X (.BoolOp .Or [a] pos) (tXB c ea) := pw_or1 ha
theorem pwImp {t t' : TT} (h : PW X e t) (i : ∀ σ H Q, t' σ H Q → t σ H Q) : PW X e t' := ⟨fun w pins s σ H Q I q => h.run w pins s σ H Q I (i σ H Q q)⟩
theorem t_and (ha : PT X a (tXB c ea)) (hb : PW X (.BoolOp .And (b :: rest) pos) (tXB c eb)) : PW X (.BoolOp .And (a :: b :: rest) pos) (tXB c (.and ea eb)) := by
  refine pwImp (pw_and ha hb) fun σ H Q ⟨A, ρ, F, Pn, hs, q⟩ => ?_
  refine tXB_of hs q fun k ρ1 H1 F1 m q1 => ?_
  cases k with
  | true => exact iteT (tXB_at m.sr m.st q1)
  | false => exact iteF (q1 H1 F1 m.st m.sr.drop)
theorem t_or (ha : PT X a (tXB c ea)) (hb : PW X (.BoolOp .Or (b :: rest) pos) (tXB c eb)) : PW X (.BoolOp .Or (a :: b :: rest) pos) (tXB c (.or ea eb)) := by
  refine pwImp (pw_or ha hb) fun σ H Q ⟨A, ρ, F, Pn, hs, q⟩ => ?_
  refine tXB_of hs q fun k ρ1 H1 F1 m q1 => ?_
  cases k with
  | false => exact iteF (tXB_at m.sr m.st q1)
  | true => exact iteT (q1 H1 F1 m.st m.sr.drop)
theorem t_not (ha : PT X a (tXB c ea)) : PT X (.UnaryOp .Not a pos) (tXB c (.not ea)) := by
  refine ptImp (pt_not ha) fun σ H Q ⟨A, ρ, F, Pn, hs, q⟩ => ?_
  exact tXB_of hs q fun k ρ1 H1 F1 m q1 => q1 H1 F1 m.st m.sr.drop
/-! ### as values -/
theorem x_and1 (h : PE X a (tX c ea)) : PE X (.BoolOp .And [a] pos) (tX c ea) := pe_one h
theorem x_or1 (h : PE X a (tX c ea)) : PE X (.BoolOp .Or [a] pos) (tX c ea) := pe_one h
theorem x_and (hc : c.K = X.K) (ha : PE X a (tX c ea)) (hb : PE X (.BoolOp .And (b :: rest) pos) (tX c eb)) : PE X (.BoolOp .And (a :: b :: rest) pos) (tX c (.and ea eb)) := by
  refine peImp (pe_andT ha hb) fun σ H Q ⟨A, ρ, F, Pn, hs, q⟩ => ?_
  have q : OkX (((ev c.C ea).x ρ).bind fun u ρ1 => match (res ρ1 u).bind truth with
        | some true => (ev c.C eb).x ρ1
        | some false => .ok u ρ1
        | none => .bad) (PX c A σ ρ H F Pn Q) (EX c A σ ρ H F Pn) := q
  refine tX_of (.nil hs) q fun u v ρ1 H1 F1 m q1 => ?_
  cases e1 : (res ρ1 u).bind truth with
  | none => simp only [e1] at q1; exact q1.elim
  | some k =>
    simp only [e1] at q1
    obtain ⟨w, e2, e3⟩ := res_bind e1
    obtain ⟨_, e, p1⟩ := (m.pk (ress1 e2)).one
    cases e
    refine ⟨k, by rw [← hc]; exact tru_of p1 e3, ?_⟩
    cases k with
    | true => exact iteT (tX_at m.sr m.st q1)
    | false =>
      refine iteF (q1 v H1 F1 m.st (by simpa [pnds] using m.sr) ?_ (fun d x z => m.fr d x (by simpa [pnds] using z)))
      cases m.ar with | cons h _ => exact h
theorem x_or (hc : c.K = X.K) (ha : PE X a (tX c ea)) (hb : PE X (.BoolOp .Or (b :: rest) pos) (tX c eb)) : PE X (.BoolOp .Or (a :: b :: rest) pos) (tX c (.or ea eb)) := by
  refine peImp (pe_orT ha hb) fun σ H Q ⟨A, ρ, F, Pn, hs, q⟩ => ?_
  have q : OkX (((ev c.C ea).x ρ).bind fun u ρ1 => match (res ρ1 u).bind truth with
        | some true => .ok u ρ1
        | some false => (ev c.C eb).x ρ1
        | none => .bad) (PX c A σ ρ H F Pn Q) (EX c A σ ρ H F Pn) := q
  refine tX_of (.nil hs) q fun u v ρ1 H1 F1 m q1 => ?_
  cases e1 : (res ρ1 u).bind truth with
  | none => simp only [e1] at q1; exact q1.elim
  | some k =>
    simp only [e1] at q1
    obtain ⟨w, e2, e3⟩ := res_bind e1
    obtain ⟨_, e, p1⟩ := (m.pk (ress1 e2)).one
    cases e
    refine ⟨k, by rw [← hc]; exact tru_of p1 e3, ?_⟩
    cases k with
    | false => exact iteF (tX_at m.sr m.st q1)
    | true =>
      refine iteT (q1 v H1 F1 m.st (by simpa [pnds] using m.sr) ?_ (fun d x z => m.fr d x (by simpa [pnds] using z)))
      cases m.ar with | cons h _ => exact h
theorem x_not (hc : c.K = X.K) (ha : PE X a (tX c ea)) : PE X (.UnaryOp .Not a pos) (tX c (.not ea)) := by
  refine peImp (pe_notT ha) fun σ H Q ⟨A, ρ, F, Pn, hs, q⟩ => ?_
  refine tX_of (.nil hs) q fun u v ρ1 H1 F1 m q1 => ?_
  obtain ⟨w, r, e1, e2, q3⟩ := l1_ok q1
  obtain ⟨_, e, p1⟩ := (m.pk e1).one
  cases e
  obtain ⟨k, e3, rfl⟩ := Option.map_eq_some_iff.mp e2
  exact ⟨k, by rw [← hc]; exact tru_of p1 e3, (m.fin (r := (.bl (!k), false)) q3).bl⟩

/-! ### argument lists, displays -/
def plainE : Expr → Bool
  | .Starred _ _ => false
  | _ => true
theorem star_cons (env : PySem.Env) (h : plainE e = true) (es : List Expr) : starEach (e :: es) env = (false, eval e env) :: starEach es env := by
  cases e <;> first | rfl | cases h
theorem star_all (env : PySem.Env) (p : Pos) : ∀ {es : List Expr}, es.all plainE = true → (backTo p (starEach es env)).any (·.1) = false ∧ (backTo p (starEach es env)).all (fun x => !x.1) = true
  | [], _ => ⟨rfl, rfl⟩
  | e :: es, h => by
    rw [List.all_cons, Bool.and_eq_true] at h
    rw [star_cons env h.1]
    obtain ⟨i1, i2⟩ := star_all env p h.2
    exact ⟨i1, i2⟩
theorem a_nil : PA X [] (tXL c .nil) := by
  refine paImp pa_nil fun σ H Q ⟨A, ρ, F, Pn, hs, q⟩ => ?_
  exact q [] H F .refl (by simpa [pnds] using hs) .nil fun d x z => by simp [pnds] at z
theorem a_cons {es : List Expr} {eas : E} (hp : plainE e = true) (ha : PE X e (tX c ea)) (hr : PA X es (tXL c eas)) : PA X (e :: es) (tXL c (.cons ea eas)) := by
  refine paImp (pa_cons ha hr (star_cons _ hp _)) fun σ H Q ⟨A, ρ, F, Pn, hs, q⟩ => ?_
  refine tX_ofG (.nil hs) q fun u v ρ1 H1 F1 m q1 => ?_
  refine ⟨A, ρ1, F1, pnd u v ++ Pn, by simpa [pnds] using m.sr, q1.bind.mono (fun as ρ2 h2 vs H2 F2 st s ar fr => ?_) fun _ _ _ e => e.step m.st⟩
  have ar1 : AR c.K σ H1 F1 u v := by cases m.ar with | cons h _ => exact h
  refine h2 (v :: vs) H2 F2 (m.st.trans st) (by simpa [pnds] using s) (.cons (ar1.stp m.sr st) ar) fun d x z => ?_
  simp only [pnds] at z
  rcases List.mem_append.mp z with z | z
  · exact m.st.fresh (fr d x z)
  · exact m.fr d x (by simpa [pnds] using z)
theorem Md.share {A : Nat → Option Addr} {σ : Sg} {ρ ρ1 ρ2 : Env} {H H1 : Hp} {F F1 : Addr → Prop} {Pn : List (Addr × W)} {as : List Arg} {vs : List V} {ws : List W} (m : Md c A σ ρ H F Pn as vs ρ1 H1 F1) (e : shrs ρ1 as = some (ws, ρ2)) :
    ∃ F2, Md c A σ ρ H F Pn [] [] ρ2 H1 F2 ∧ HRs c.K H1 F2 vs ws := by
  obtain ⟨F2, s2, r2, m2, t2⟩ := ARs.share (P1 := []) (Pn := Pn) (by simpa using m.sr) m.ar e
  exact ⟨F2, ⟨t2 H F ρ m.st m.fr, by simpa [pnds] using s2, .nil, fun _ _ h => nomatch h⟩, r2⟩
theorem x_tup {es : List Expr} {eas : E} {k : Nat} (ha : PA X es (tXL c eas)) : PE X (.Tuple es k pos) (tX c (.tup eas)) := by
  refine peImp (pe_tup ha) fun σ H Q ⟨A, ρ, F, Pn, hs, q⟩ => ?_
  refine tXL_of hs q fun as vs ρ1 H1 F1 m q1 => ?_
  cases e : shrs ρ1 as with
  | none => simp only [e] at q1; exact q1.elim
  | some p =>
    obtain ⟨ws, ρ2⟩ := p
    simp only [e] at q1
    obtain ⟨F2, m2, r2⟩ := m.share e
    by_cases hz : ws.length ≤ szL
    · rw [if_pos hz] at q1
      exact ⟨by rw [r2.length]; exact hz, fun p hp => m2.fin (r := (.tup ws, false)) q1 _ _ (.tup hp (by rw [r2.length]; exact hz) r2)⟩
    · rw [if_neg hz] at q1; exact q1.elim
theorem x_lst {es : List Expr} {eas : E} (ha : PA X es (tXL c eas)) : PE X (.List es pos) (tX c (.lst eas)) := by
  refine peImp (pe_lst ha) fun σ H Q ⟨A, ρ, F, Pn, hs, q⟩ => ?_
  refine tXL_of hs q fun as vs ρ1 H1 F1 m q1 => ?_
  cases e : shrs ρ1 as with
  | none => simp only [e] at q1; exact q1.elim
  | some p =>
    obtain ⟨ws, ρ2⟩ := p
    simp only [e] at q1
    obtain ⟨F2, m2, r2⟩ := m.share e
    by_cases hz : ws.length ≤ szL
    · rw [if_pos hz] at q1
      exact ⟨by rw [r2.length]; exact hz, fun p hp => m2.fin (r := (.lst ws, true)) q1 _ _ (.lst hp (by rw [r2.length]; exact hz) r2)⟩
    · rw [if_neg hz] at q1; exact q1.elim

/-! ### slices -/
theorem ARs.unsnoc {K : PySem.W.Frag} {σ : Sg} {H : Hp} {F : Addr → Prop} {u : Arg} {v : V} : ∀ {as : List Arg} {vs : List V}, as.length = vs.length → ARs K σ H F (as ++ [u]) (vs ++ [v]) → ARs K σ H F as vs
  | [], [], _, _ => .nil
  | _ :: as, _ :: vs, h, .cons x t => .cons x (ARs.unsnoc (by simpa using h) t)
theorem ARs.len {K : PySem.W.Frag} {σ : Sg} {H : Hp} {F : Addr → Prop} {as : List Arg} {vs : List V} (h : ARs K σ H F as vs) : as.length = vs.length := by
  induction h with
  | nil => rfl
  | cons _ _ ih => simp [ih]
theorem ARs.last {K : PySem.W.Frag} {σ : Sg} {H : Hp} {F : Addr → Prop} {u : Arg} {v : V} : ∀ {as : List Arg} {vs : List V}, as.length = vs.length → ARs K σ H F (as ++ [u]) (vs ++ [v]) → AR K σ H F u v
  | [], [], _, .cons x _ => x
  | _ :: as, _ :: vs, h, .cons _ t => ARs.last (as := as) (vs := vs) (by simpa using h) t
theorem pnds_snoc {u : Arg} {v : V} : ∀ {as : List Arg} {vs : List V}, as.length = vs.length → pnds (as ++ [u]) (vs ++ [v]) = pnd u v ++ pnds as vs
  | [], [], _ => by simp [pnds]
  | a :: as, x :: vs, h => by
    simp only [List.cons_append, pnds]
    rw [pnds_snoc (as := as) (vs := vs) (by simpa using h)]
    simp
theorem Md.unsnoc {A : Nat → Option Addr} {σ : Sg} {ρ ρ1 : Env} {H H1 : Hp} {F F1 : Addr → Prop} {Pn : List (Addr × W)} {as : List Arg} {vs : List V} {u : Arg} {v : V} (m : Md c A σ ρ H F Pn (as ++ [u]) (vs ++ [v]) ρ1 H1 F1) (hp : pnd u v = []) : Md c A σ ρ H F Pn as vs ρ1 H1 F1 := by
  have hl : as.length = vs.length := by have := m.ar.len; simpa using this
  have e : ∀ {as : List Arg} {vs : List V}, as.length = vs.length → pnds (as ++ [u]) (vs ++ [v]) = pnds as vs := by
    intro as
    induction as with
    | nil => intro vs h; cases vs <;> simp_all [pnds]
    | cons a as ih => intro vs h; cases vs with
      | nil => simp at h
      | cons x vs => simp only [List.cons_append, pnds]; rw [ih (by simpa using h)]
  exact ⟨m.st, by have := m.sr; rw [e hl] at this; exact this, ARs.unsnoc hl m.ar, fun d x z => m.fr d x (by rw [e hl]; exact z)⟩
/-- a slice's part: there, or not -/
def tPt (c : Cf) (l : Bool) (ea : E) : TO := if l = true then tPart (tX c ea) else tNoPart
inductive Part (X : Cx) (c : Cf) : Option Expr → Bool → E → Prop
  | none {ea : E} : Part X c none false ea
  | some {e : Expr} {ea : E} : PE X e (tX c ea) → Part X c (some e) true ea
theorem Part.po {o : Option Expr} {l : Bool} (h : Part X c o l ea) : PO X o (tPt c l ea) := by
  cases h with
  | none => exact po_none
  | some h => exact po_some h
theorem tPt_of {A : Nat → Option Addr} {σ : Sg} {ρ ρ1 : Env} {H H1 : Hp} {F F1 : Addr → Prop} {Pn : List (Addr × W)} {as : List Arg} {vs : List V} {Q : VK} {l : Bool} {R : Option Int → Hp → Prop} {k : Option Int → Env → Out Arg}
    (m : Md c A σ ρ H F Pn as vs ρ1 H1 F1) (h : OkX ((part l (ev c.C ea).x ρ1).bind k) (PX c A σ ρ H F Pn Q) (EX c A σ ρ H F Pn))
    (fin : ∀ i ρ2 H2 F2, Md c A σ ρ H F Pn as vs ρ2 H2 F2 → OkX (k i ρ2) (PX c A σ ρ H F Pn Q) (EX c A σ ρ H F Pn) → R i H2) : tPt c l ea σ H1 R := by
  cases l with
  | false => exact fin none ρ1 H1 F1 m h
  | true =>
    have h' : OkX (((ev c.C ea).x ρ1).bind fun v ρ2 => (match res ρ2 v with | some (.int i) => Out.ok (some i) ρ2 | _ => .bad).bind k) (PX c A σ ρ H F Pn Q) (EX c A σ ρ H F Pn) := by
      unfold part at h
      rw [if_pos rfl] at h
      cases e : (ev c.C ea).x ρ1 with
      | ok a ρ2 => rw [e] at h; exact h
      | ex x p ρ2 => rw [e] at h; exact h
      | bad => rw [e] at h; exact h
    refine tX_of m h' fun u v ρ2 H2 F2 m2 q2 => ?_
    cases e : res ρ2 u with
    | none => simp only [e] at q2; exact q2.elim
    | some w =>
      cases w with
      | int i =>
        simp only [e] at q2
        have ar : AR c.K σ H2 F2 u v := ARs.last m.ar.len m2.ar
        have hv : v = .int i := (ar.peek m2.sr (fun p hp => by rw [pnds_snoc m.ar.len]; simp [hp]) e).int
        subst hv
        exact ⟨i, rfl, fin _ ρ2 H2 F2 (m2.unsnoc (by cases u with | slot _ => rfl | val w f => cases f <;> rfl)) q2⟩
      | _ => simp only [e] at q2; exact q2.elim
theorem x_slc {lo hi : Option Expr} {l h : Bool} {el eh : E} {p2 : Pos} (hc : c.K = X.K) (ha : PE X a (tX c ea)) (hl : Part X c lo l el) (hh : Part X c hi h eh) : PE X (.Subscript a (.Slice lo hi none p2) pos) (tX c (.slc ea l h el eh)) := by
  refine peImp (pe_slice sl_W ha hl.po hh.po) fun σ H Q ⟨A, ρ, F, Pn, hs, q⟩ => ?_
  refine tX_of (.nil hs) q fun u v ρ1 H1 F1 m1 q1 => tPt_of m1 q1 fun i ρ2 H2 F2 m2 q2 => tPt_of m2 q2 fun j ρ3 H3 F3 m3 q3 => ?_
  obtain ⟨w, r, e1, e2, q4⟩ := l1_ok q3
  obtain ⟨_, e, p1⟩ := (m3.pk e1).one
  cases e
  rw [← hc]
  exact ⟨F3, w, r, p1, e2, m3.fin q4⟩

/-! ### built-in functions -/
def bName : BI → Option (Str × Value)
  | .len => some ("len", .builtin "len") | .abs => some ("abs", .builtin "abs") | .min => some ("min", .builtin "min") | .max => some ("max", .builtin "max") | .sum => some ("sum", .builtin "sum")
  | .all => some ("all", .builtin "all") | .any => some ("any", .builtin "any") | .int => some ("int", .type "int") | .bool => some ("bool", .type "bool") | .tuple => some ("tuple", .type "tuple") | .list => some ("list", .type "list")
  | _ => none
theorem bi_run {f : BI} {id : Str} {fv : Value} (hc : X.calm = true) (h : bName f = some (id, fv)) : CallR X fv (rL X.K (biW f)) := by
  cases f <;> first | (cases h; done) | cases Option.some.inj h
  · exact call_lenW
  · exact call_absW
  · exact call_intW
  · exact call_boolW
  · exact call_minW hc
  · exact call_maxW hc
  · exact call_sumW hc
  · exact call_allW hc
  · exact call_anyW hc
  · exact call_tupleW
  · exact call_listW
theorem bi_boot {f : BI} {id : Str} {fv : Value} (h : bName f = some (id, fv)) : bootBuiltins id = some fv ∧ id ≠ "__name__" ∧ (id == ("__debug__" : Str)) = false := by
  cases f <;> first | (cases h; done) | (cases Option.some.inj h; exact ⟨by decide +kernel, by decide +kernel, by decide +kernel⟩)
theorem x_bi {es : List Expr} {eas : E} {f : BI} {id : Str} {fv : Value} {p : Pos} (hc : c.K = X.K) (calm : X.calm = true) (hf : bName f = some (id, fv)) (hg : Gl X id) (hm : X.mg id = none) (hp : (e :: es).all plainE = true) (ha : PA X (e :: es) (tXL c eas)) :
    PE X (.Call (.Name id p) (e :: es) [] pos) (tX c (.bi f eas)) := by
  have hr := bi_run (X := X) calm hf
  obtain ⟨h1, h2, h3⟩ := bi_boot hf
  have hpe : plainE e = true := by rw [List.all_cons, Bool.and_eq_true] at hp; exact hp.1
  have hps : es.all plainE = true := by rw [List.all_cons, Bool.and_eq_true] at hp; exact hp.2
  have key : ∀ {t : TA → TE}, (∀ t', t t' = tCB (rL X.K (biW f)) t') → ∀ σ H Q, tX c (.bi f eas) σ H Q → t (tXL c eas) σ H Q := by
    intro t ht σ H Q ⟨A, ρ, F, Pn, hs, q⟩
    rw [ht]
    refine tXL_of hs q fun as vs ρ1 H1 F1 m q1 => ?_
    obtain ⟨w, r, e1, e2, q2⟩ := lL_ok q1
    rw [← hc]
    exact ⟨F1, w, r, m.pk e1, e2, m.fin q2⟩
  cases fv with
  | builtin n => exact peImp (pe_callB hr hg hm h1 ha h2 h3 (star_cons _ hpe _) (star_all _ _ hps).1) (key fun _ => rfl)
  | type n => exact peImp (pe_callTy hr hg hm h1 ha h2 h3 (star_cons _ hpe _) (star_all _ _ hps).1) (key fun _ => rfl)
  | _ => cases f <;> cases hf
end
end Py

namespace Py
open PySem PySem.Spec PyProof.Rows L2
variable [HW]
/-! ### isinstance -/
def tyN : W → String
  | .non => "NoneType" | .bl _ => "bool" | .int _ => "int" | .str _ => "str" | .tup _ => "tuple" | .lst _ => "list" | .dct _ => "dict" | .st _ => "set"
def tyT : Ty → String
  | .int => "int" | .bool => "bool" | .str => "str" | .tuple => "tuple" | .list => "list" | .dict => "dict"
theorem kit_all : ∀ (t : Ty) (w : W), (∀ l, w ≠ .st l) → kitB (tyN w) (tyT t) = some (isTy t w) := by
  have h : ∀ t : Ty, kitB "NoneType" (tyT t) = some (isTy t .non) ∧ kitB "bool" (tyT t) = some (isTy t (.bl true)) ∧ kitB "int" (tyT t) = some (isTy t (.int 0)) ∧ kitB "str" (tyT t) = some (isTy t (.str [])) ∧
      kitB "tuple" (tyT t) = some (isTy t (.tup [])) ∧ kitB "list" (tyT t) = some (isTy t (.lst [])) ∧ kitB "dict" (tyT t) = some (isTy t (.dct [])) := by
    intro t
    cases t <;> decide +kernel
  intro t w hw
  obtain ⟨h1, h2, h3, h4, h5, h6, h7⟩ := h t
  cases w with
  | non => exact h1
  | bl b => exact h2.trans (by cases t <;> rfl)
  | int b => exact h3.trans (by cases t <;> rfl)
  | str b => exact h4.trans (by cases t <;> rfl)
  | tup b => exact h5.trans (by cases t <;> rfl)
  | lst b => exact h6.trans (by cases t <;> rfl)
  | dct b => exact h7.trans (by cases t <;> rfl)
  | st l => exact absurd rfl (hw l)
theorem tyX_of {K : PySem.W.Frag} {H : Hp} {F : Addr → Prop} {v : V} {w : W} (h : PkR K H F v w) (hd : isD w = false) : TyX K H v (.type (tyN w)) := by
  cases w with
  | non => rw [h.non]; exact .base .non
  | bl b => rw [h.bl]; exact .base (.bl b)
  | int b => rw [h.int]; exact .base (.int b)
  | str b => rw [h.str.1]; exact .base (.str _)
  | tup b =>
    obtain ⟨p, vs, rfl, hs, _, _⟩ := h.tup
    rcases hs with (hs | ⟨o, hs⟩) | ⟨o, its, n, hk, hc, _⟩
    · exact .base (.tup hs)
    · exact .fTuple hs
    · exact .kTuple hk hc
  | lst b =>
    obtain ⟨p, vs, rfl, hs, _, _⟩ := h.rd
    rcases hs with hs | ⟨o, hs⟩
    · exact .base (.lst hs)
    · exact .base (.frz hs)
  | dct b => cases hd
  | st b => exact h.st.elim
theorem ty_boot (t : Ty) : bootBuiltins (Str.ofString (tyT t)) = some (.type (tyT t)) ∧ (Str.ofString (tyT t)) ≠ "__name__" ∧ ((Str.ofString (tyT t)) == ("__debug__" : Str)) = false := by
  cases t <;> exact ⟨by decide +kernel, by decide +kernel, by decide +kernel⟩
section
variable {X : Cx} {c : Cf} {e a b o : Expr} {ea eb eo : E} {rest : List Expr} {pos p p2 apos : Pos}
theorem x_isi {t : Ty} (hc : c.K = X.K) (hg : Gl X "isinstance") (hm : X.mg "isinstance" = none) (hg2 : Gl X (Str.ofString (tyT t))) (hm2 : X.mg (Str.ofString (tyT t)) = none) (hp : plainE a = true) (ha : PE X a (tX c ea)) :
    PE X (.Call (.Name "isinstance" p) [a, .Name (Str.ofString (tyT t)) p2] [] pos) (tX c (.isi ea t)) := by
  obtain ⟨b1, b2, b3⟩ := ty_boot t
  have h2 : PE X (.Name (Str.ofString (tyT t)) p2) (tC (.ty (tyT t))) := pe_bltn hg2 hm2 b1 rfl b2 b3
  refine peImp (pe_callB call_isi hg hm (by decide +kernel) (pa_cons ha (pa_cons h2 pa_nil) (star_cons _ hp _)) (by decide) (by decide) (star_cons _ hp _) rfl) fun σ H Q ⟨A, ρ, F, Pn, hs, q⟩ => ?_
  refine tX_of (.nil hs) q fun u v ρ1 H1 F1 m q1 => ?_
  obtain ⟨w, r, e1, e2, q2⟩ := l1_ok q1
  obtain ⟨_, e, p1⟩ := (m.pk e1).one
  cases e
  by_cases hd : isD w = true
  · rw [if_pos hd] at e2; cases e2
  rw [if_neg hd] at e2
  have hd : isD w = false := by simpa using hd
  cases Option.some.inj e2
  refine ⟨v, .ty (tyT t), .type (tyN w), .type (tyT t), isTy t w, rfl, .ty _, by rw [← hc]; exact tyX_of p1 hd, kit_ty (kit_all t w fun l h => ?_), (m.fin (r := (.bl (isTy t w), false)) q2).bl⟩
  subst h; exact p1.st

/-! ### methods that read -/
theorem base_plain {attr : Str} {env : PySem.Env} {w : Sem Value} (h : ∀ id q r, o ≠ .Call (.Name id q) [] [] r) : attributeBase o attr env w = w := by
  unfold attributeBase
  split
  · exact absurd rfl (h _ _ _)
  · rfl
theorem idx_rel : ∀ {y : W} {ws : List W} {n : Nat}, dep y < 1000 → deps ws < 1000 → idxW y ws = some n → ∃ z, (pds ws)[n]? = some z ∧ PyData.eqv z (pd y) = true ∧ ∀ m z', m < n → (pds ws)[m]? = some z' → PyData.eqv z' (pd y) = false
  | y, [], n, _, _, e => by cases e
  | y, w :: ws, n, h1, h2, e => by
    simp only [deps] at h2
    simp only [idxW] at e
    by_cases k : eqW w y = true
    · rw [if_pos k] at e
      cases Option.some.inj e
      refine ⟨pd w, rfl, by rw [eqv_pd (v := .non) (v' := .non) w y (by omega) h1]; exact k, fun m z' h => by omega⟩
    · rw [if_neg k] at e
      obtain ⟨m, e', rfl⟩ := Option.map_eq_some_iff.mp e
      obtain ⟨z, a1, a2, a3⟩ := idx_rel h1 (by omega) e'
      refine ⟨z, a1, a2, fun i z' hi hz => ?_⟩
      cases i with
      | zero =>
        simp only [pds, List.getElem?_cons_zero] at hz
        cases Option.some.inj hz
        rw [eqv_pd (v := .non) (v' := .non) w y (by omega) h1]
        exact Bool.not_eq_true _ ▸ k
      | succ i => exact a3 i z' (by omega) (by simpa [pds] using hz)
def mName : MI → Option (Str × String × String)
  | .index => some ("index", "list", "list.index")
  | _ => none
def rM (K : PySem.W.Frag) (f : W → List W → Option (W × Bool)) : V → List V → Hp → VK → Prop := fun x xs H Q => ∃ F w ws r, PkR K H F x w ∧ PkRs K H F xs ws ∧ f w ws = some r ∧ Rs K H F Q r
theorem mt_indexW (hu : X.A.units + 200 < cLine) : MtR X "list.index" (rM X.K (mthW .index)) := by
  intro pins s σ H x xs v us Q I rx rxs ⟨F, w, ws, r, a, b, e, q⟩
  match w, ws, e, a, b with
  | .lst ys, [y], e, a, b =>
    obtain ⟨⟨d1, d2⟩, e7⟩ : (dep y ≤ 64 ∧ deps ys ≤ 60) ∧ (idxW y ys).map (fun (n : Nat) => (W.int (n : Int), false)) = some r := by
      have e : (if dep y ≤ 64 ∧ deps ys ≤ 60 then (idxW y ys).map (fun (n : Nat) => (W.int (n : Int), false)) else none) = some r := e
      by_cases k : dep y ≤ 64 ∧ deps ys ≤ 60
      · rw [if_pos k] at e; exact ⟨k, e⟩
      · rw [if_neg k] at e; cases e
    obtain ⟨n, e8, rfl⟩ := Option.map_eq_some_iff.mp e7
    obtain ⟨z, h1, h2, h3⟩ := idx_rel (by omega) (by omega) e8
    obtain ⟨y', rfl, b2⟩ := b.one
    obtain ⟨p, vs, rfl, hs, hz, hr⟩ := a.lst
    have hl := a.dp (by simp only [dep]; omega)
    simp only [pd] at hl
    have sh := shaped_of a (by simp only [dep]; omega)
    simp only [pd] at sh
    exact mt_indexD (by omega) pins s σ H _ _ v us Q I rx rxs ⟨p, y', pd y, pds ys, n, z, rfl, rfl, hl, b2.dp (by omega), sh, shaped_of b2 d1, h1, h2, h3, q.int⟩
theorem x_mth {es : List Expr} {eas : E} {name : Str} (hc : c.K = X.K) (hu : X.A.units + 200 < cLine) (hn : name = "index") (hb : ∀ id q r, o ≠ .Call (.Name id q) [] [] r) (hl : (apos.endLine == pos.line) = true)
    (hp : (e :: es).all plainE = true) (hfew : (e :: es).length < 30) (ho : PE X o (tX c eo)) (ha : PA X (e :: es) (tXL c eas)) : PE X (.Call (.Attribute o name apos) (e :: es) [] pos) (tX c (.mth .index eo eas)) := by
  subst hn
  have hpe : plainE e = true := by rw [List.all_cons, Bool.and_eq_true] at hp; exact hp.1
  have hps : es.all plainE = true := by rw [List.all_cons, Bool.and_eq_true] at hp; exact hp.2
  refine peImp (pe_bm PySem.F.plainAttrs_list PySem.F.slot_list_index PySem.F.type_list_index (mt_indexW hu) ho ha (base_plain hb) ?_ hl (star_cons _ hpe _) (star_all _ _ hps).1) fun σ H Q ⟨A, ρ, F, Pn, hs, q⟩ => ?_
  · rw [(star_all _ _ hp).2]
    simp [backToKw, keywordEach] at hfew ⊢
    omega
  · refine tX_of (.nil hs) q fun u v ρ1 H1 F1 m1 q1 => ?_
    cases e1 : (res ρ1 u).bind (mTy .index) with
    | none => simp only [e1] at q1; exact q1.elim
    | some k =>
      simp only [e1] at q1
      obtain ⟨w, e2, e3⟩ := res_bind e1
      obtain ⟨_, e, p1⟩ := (m1.pk (ress1 e2)).one
      cases e
      cases w <;> first | (cases e3; done) | skip
      obtain ⟨p, vs, rfl, hsq, _, _⟩ := p1.lst
      refine ⟨.inl ⟨rfl, vs, by rw [← hc]; exact hsq⟩, A, ρ1, F1, pnds [u] [.ref p] ++ Pn, m1.sr, q1.bind.mono (fun as ρ2 h2 vs' H2 F2 st s ar fr => ?_) fun _ _ _ e => e.step m1.st⟩
      have m2 : Md c A σ ρ H F Pn (u :: as) (.ref p :: vs') ρ2 H2 F2 := by
        refine ⟨m1.st.trans st, by simpa [pnds] using s, ?_, fun d x z => ?_⟩
        · cases m1.ar with | cons h _ => exact .cons (h.stp m1.sr st) ar
        · simp only [pnds] at z
          rcases List.mem_append.mp z with z | z
          · exact m1.st.fresh (fr d x z)
          · exact m1.fr d x (by simpa [pnds] using z)
      cases e4 : res ρ2 u with
      | none => simp only [e4] at h2; exact h2.elim
      | some w =>
        simp only [e4] at h2
        obtain ⟨ws, r, e5, e6, q3⟩ := lL_ok h2
        have pk := m2.pk (ws := w :: ws) (by simp [ress, e4, e5])
        cases pk with | cons k1 k2 =>
        rw [← hc]
        exact ⟨F2, w, ws, r, k1, k2, e6, m2.fin q3⟩
end
end Py

namespace Py
open PySem PySem.Spec PyProof.Rows L2
variable [HW]

/-- what a def promises: C j is what it gives -/
def spF (K : PySem.W.Frag) (cls : Nat → Value) (C : Fn) (fd : FD) (N : List Str) (j : Nat) : Sp := fun vs H Q E => vs.length = fd.m.length ∧ ∃ A F ws, ws.length = fd.m.length ∧ SRel K A (L2.start N vs) (env0 fd ws) H F [] ∧
  match C j ws with
  | .bad => False
  | .ret w fr ios => ∀ v H' F' σ' ρ', Stp (L2.start N vs) (env0 fd ws) H F σ' ρ' H' F' → SRel K A σ' ρ' H' F' (pnd (.val w fr) v) → ioE ρ' 0 fd.m = some ios → (fr = true → ∃ a, v = .ref a ∧ H a = none) → (fr = false → HR K H' F' v w) → Q v H'
  | .ex x p ios => ∀ H' F' σ' ρ' d, Stp (L2.start N vs) (env0 fd ws) H F σ' ρ' H' F' → SRel K A σ' ρ' H' F' [] → ioE ρ' 0 fd.m = some ios → ExD p d H' → E (cls x) d H'

section
variable {K : PySem.W.Frag} {A : Nat → Option Addr} {σ : Sg} {H : Hp}

def pndM : List Bool → List Arg → List V → List (Addr × W)
  | false :: m, _ :: as, _ :: vs => pndM m as vs
  | true :: m, a :: as, v :: vs => pndM m as vs ++ pnd a v
  | _, _, _ => []
inductive OW (K : PySem.W.Frag) (σ : Sg) (H : Hp) (F : Addr → Prop) : List Bool → List Arg → List V → List (Option W) → Prop
  | nil : OW K σ H F [] [] [] []
  | sh {m : List Bool} {a : Arg} {as : List Arg} {v : V} {vs : List V} {w : W} {ws : List (Option W)} : HR K H F v w → OW K σ H F m as vs ws → OW K σ H F (false :: m) (a :: as) (v :: vs) (some w :: ws)
  | io {m : List Bool} {a : Arg} {as : List Arg} {v : V} {vs : List V} {ws : List (Option W)} : AR K σ H F a v → OW K σ H F m as vs ws → OW K σ H F (true :: m) (a :: as) (v :: vs) (none :: ws)
theorem pndM_sub : ∀ {m : List Bool} {as : List Arg} {vs : List V} {p : Addr × W}, p ∈ pndM m as vs → p ∈ pnds as vs
  | false :: m, _ :: as, _ :: vs, p, h => List.mem_append_left _ (pndM_sub (m := m) h)
  | true :: m, a :: as, v :: vs, p, h => by
    simp only [pndM] at h
    rcases List.mem_append.mp h with h | h
    · exact List.mem_append_left _ (pndM_sub h)
    · exact List.mem_append_right _ h
  | [], _, _, p, h => by simp [pndM] at h
  | false :: _, [], _, p, h => by simp [pndM] at h
  | true :: _, [], _, p, h => by simp [pndM] at h
  | false :: _, _ :: _, [], p, h => by simp [pndM] at h
  | true :: _, _ :: _, [], p, h => by simp [pndM] at h
theorem shM_ok : ∀ {m : List Bool} {as : List Arg} {vs : List V} {ows : List (Option W)} {P1 Pn : List (Addr × W)} {ρ ρ' : Env} {F : Addr → Prop}, SRel K A σ ρ H F (P1 ++ (pnds as vs ++ Pn)) → ARs K σ H F as vs → shM ρ m as = some (ows, ρ') →
    ∃ F', SRel K A σ ρ' H F' (P1 ++ (pndM m as vs ++ Pn)) ∧ OW K σ H F' m as vs ows ∧ (∀ a, F a → F' a) ∧ ∀ H0 F0 ρ0, Stp σ ρ0 H0 F0 σ ρ H F → (∀ c x, (c, x) ∈ pnds as vs → H0 c = none) → Stp σ ρ0 H0 F0 σ ρ' H F'
  | [], [], [], ows, P1, Pn, ρ, ρ', F, hs, .nil, e => by
    obtain ⟨rfl, rfl⟩ : [] = ows ∧ ρ = ρ' := by simpa [shM] using e
    exact ⟨F, hs, .nil, fun _ h => h, fun _ _ _ st _ => st⟩
  | false :: m, a :: as, v :: vs, ows, P1, Pn, ρ, ρ', F, hs, .cons h t, e => by
    unfold shM at e
    cases q1 : shr ρ a with
    | none => simp [q1] at e
    | some x =>
      obtain ⟨w, ρ1⟩ := x
      cases q2 : shM ρ1 m as with
      | none => simp [q1, q2] at e
      | some y =>
        obtain ⟨us, ρ2⟩ := y
        obtain ⟨rfl, rfl⟩ : some w :: us = ows ∧ ρ2 = ρ' := by simpa [q1, q2] using e
        have hs1 : SRel K A σ ρ H F ((P1 ++ pnds as vs) ++ pnd a v ++ Pn) := by simpa [pnds] using hs
        obtain ⟨F1, s1, r1, m1, t1⟩ := h.share hs1 q1
        obtain ⟨F2, s2, r2, m2, t2⟩ := shM_ok (P1 := P1) (by simpa using s1) (t.more m1) q2
        exact ⟨F2, s2, .sh (r1.more m2) r2, fun c z => m2 c (m1 c z), fun H0 F0 ρ0 st hn => t2 H0 F0 ρ0 (t1 H0 F0 ρ0 st fun c x z => hn c x (by simp [pnds, z])) fun c x z => hn c x (by simp [pnds, z])⟩
  | true :: m, a :: as, v :: vs, ows, P1, Pn, ρ, ρ', F, hs, .cons h t, e => by
    unfold shM at e
    cases q2 : shM ρ m as with
    | none => simp [q2] at e
    | some y =>
      obtain ⟨us, ρ2⟩ := y
      obtain ⟨rfl, rfl⟩ : none :: us = ows ∧ ρ2 = ρ' := by simpa [q2] using e
      obtain ⟨F2, s2, r2, m2, t2⟩ := shM_ok (P1 := P1) (Pn := pnd a v ++ Pn) (by simpa [pnds] using hs) t q2
      exact ⟨F2, by simpa [pndM] using s2, .io (h.more m2) r2, m2, fun H0 F0 ρ0 st hn => t2 H0 F0 ρ0 st fun c x z => hn c x (by simp [pnds, z])⟩
  | [], _ :: _, _, _, _, _, _, _, _, _, _, e => by simp [shM] at e
  | false :: _, [], _, _, _, _, _, _, _, _, _, e => by simp [shM] at e
  | true :: _, [], _, _, _, _, _, _, _, _, _, e => by simp [shM] at e

/-- the places that the callee changes -/
def IoAt (ρ : Env) (us : List Nat) (ows : List (Option W)) (as : List Arg) (ws : List W) : Prop := ws.length = ows.length ∧
    (∀ (k : Nat) (w : W), ows[k]? = some (some w) → ws[k]? = some w) ∧
    (∀ (k : Nat), ows[k]? = some none → (∃ w, as[k]? = some (.val w true) ∧ ws[k]? = some w) ∨ ∃ i w f, as[k]? = some (.slot i) ∧ wOf ρ i = some (w, f) ∧ (f = Fl.own ∨ f = Fl.io) ∧ ws[k]? = some w ∧ i ∉ us) ∧
    (∀ (k k' i : Nat), ows[k]? = some none → ows[k']? = some none → as[k]? = some (.slot i) → as[k']? = some (.slot i) → k = k')
theorem IoAt.sh {ρ : Env} {us : List Nat} {ows : List (Option W)} {as : List Arg} {ws : List W} {w : W} {a : Arg} (h : IoAt ρ us ows as ws) : IoAt ρ us (some w :: ows) (a :: as) (w :: ws) := by
  obtain ⟨h0, h1, h2, h3⟩ := h
  refine ⟨by simp [h0], fun k w' h => ?_, fun k h => ?_, fun k k' i a1 a2 a3 a4 => ?_⟩
  · cases k with
    | zero => simpa using h
    | succ k => simpa using h1 k w' (by simpa using h)
  · cases k with
    | zero => simp at h
    | succ k => simpa using h2 k (by simpa using h)
  · cases k with
    | zero => simp at a1
    | succ k => cases k' with
      | zero => simp at a2
      | succ k' => rw [h3 k k' i (by simpa using a1) (by simpa using a2) (by simpa using a3) (by simpa using a4)]
theorem IoAt.pn {ρ : Env} {us : List Nat} {ows : List (Option W)} {as : List Arg} {ws : List W} {w : W} (h : IoAt ρ us ows as ws) : IoAt ρ us (none :: ows) (.val w true :: as) (w :: ws) := by
  obtain ⟨h0, h1, h2, h3⟩ := h
  refine ⟨by simp [h0], fun k w' h => ?_, fun k h => ?_, fun k k' i a1 a2 a3 a4 => ?_⟩
  · cases k with
    | zero => simp at h
    | succ k => simpa using h1 k w' (by simpa using h)
  · cases k with
    | zero => exact .inl ⟨w, rfl, rfl⟩
    | succ k => simpa using h2 k (by simpa using h)
  · cases k with
    | zero => simp at a3
    | succ k => cases k' with
      | zero => simp at a4
      | succ k' => rw [h3 k k' i (by simpa using a1) (by simpa using a2) (by simpa using a3) (by simpa using a4)]
theorem IoAt.sl {ρ : Env} {us : List Nat} {ows : List (Option W)} {as : List Arg} {ws : List W} {w : W} {f : Fl} {i : Nat} (hw : wOf ρ i = some (w, f)) (hf : f = .own ∨ f = .io) (hu : us.contains i = false) (h : IoAt ρ (i :: us) ows as ws) : IoAt ρ us (none :: ows) (.slot i :: as) (w :: ws) := by
  obtain ⟨h0, h1, h2, h3⟩ := h
  have hu' : i ∉ us := fun z => by rw [List.contains_iff_mem.mpr z] at hu; cases hu
  refine ⟨by simp [h0], fun k w' h => ?_, fun k h => ?_, fun k k' j a1 a2 a3 a4 => ?_⟩
  · cases k with
    | zero => simp at h
    | succ k => simpa using h1 k w' (by simpa using h)
  · cases k with
    | zero => exact .inr ⟨i, w, f, rfl, hw, hf, rfl, hu'⟩
    | succ k =>
      rcases h2 k (by simpa using h) with ⟨w', x1, x2⟩ | ⟨i', w', f', x1, x2, x3, x4, x5⟩
      · exact .inl ⟨w', by simpa using x1, by simpa using x2⟩
      · exact .inr ⟨i', w', f', by simpa using x1, x2, x3, by simpa using x4, fun z => x5 (List.mem_cons_of_mem _ z)⟩
  · cases k with
    | zero =>
      cases k' with
      | zero => rfl
      | succ k' =>
        obtain rfl : i = j := by simpa using a3
        rcases h2 k' (by simpa using a2) with ⟨w', x1, x2⟩ | ⟨i', w', f', x1, x2, x3, x4, x5⟩
        · rw [show as[k']? = some (.slot i) by simpa using a4] at x1; cases x1
        · rw [show as[k']? = some (.slot i) by simpa using a4] at x1; cases x1
          exact absurd List.mem_cons_self x5
    | succ k => cases k' with
      | zero =>
        obtain rfl : i = j := by simpa using a4
        rcases h2 k (by simpa using a1) with ⟨w', x1, x2⟩ | ⟨i', w', f', x1, x2, x3, x4, x5⟩
        · rw [show as[k]? = some (.slot i) by simpa using a3] at x1; cases x1
        · rw [show as[k]? = some (.slot i) by simpa using a3] at x1; cases x1
          exact absurd List.mem_cons_self x5
      | succ k' => rw [h3 k k' j (by simpa using a1) (by simpa using a2) (by simpa using a3) (by simpa using a4)]
theorem ioW_at {ρ : Env} : ∀ {ows : List (Option W)} {as : List Arg} {ws : List W} {us : List Nat}, ioW ρ us ows as = some ws → IoAt ρ us ows as ws
  | [], [], ws, us, e => by
    obtain rfl : [] = ws := by simpa [ioW] using e
    exact ⟨rfl, fun k w h => by simp at h, fun k h => by simp at h, fun k k' i h => by simp at h⟩
  | some w :: ows, a :: as, ws, us, e => by
    unfold ioW at e
    obtain ⟨us', e', he⟩ := Option.map_eq_some_iff.mp e
    rw [← he]
    exact (ioW_at e').sh
  | none :: ows, .val w false :: as, ws, us, e => by simp [ioW] at e
  | none :: ows, .val w true :: as, ws, us, e => by
    simp only [ioW] at e
    obtain ⟨us', e', he⟩ := Option.map_eq_some_iff.mp e
    rw [← he]
    exact (ioW_at e').pn
  | none :: ows, .slot i :: as, ws, us, e => by
    simp only [ioW] at e
    cases hu : us.contains i with
    | true => rw [hu] at e; simp at e
    | false =>
      rw [hu] at e
      simp only [Bool.false_eq_true, if_false] at e
      cases hw : wOf ρ i with
      | none => rw [hw] at e; cases e
      | some x =>
        obtain ⟨w, f⟩ := x
        rw [hw] at e
        cases f with
        | own =>
          obtain ⟨us', e', he⟩ := Option.map_eq_some_iff.mp e
          rw [← he]
          exact (ioW_at e').sl hw (.inl rfl) hu
        | io =>
          obtain ⟨us', e', he⟩ := Option.map_eq_some_iff.mp e
          rw [← he]
          exact (ioW_at e').sl hw (.inr rfl) hu
        | sh => cases e
        | ownL => cases e
        | ioL => cases e
  | [], _ :: _, _, _, e => by simp [ioW] at e
  | some _ :: _, [], _, _, e => by simp [ioW] at e
  | none :: _, [], _, _, e => by simp [ioW] at e

theorem OW.len {F : Addr → Prop} {m : List Bool} {as : List Arg} {vs : List V} {ws : List (Option W)} (h : OW K σ H F m as vs ws) : as.length = m.length ∧ vs.length = m.length ∧ ws.length = m.length := by
  induction h with
  | nil => exact ⟨rfl, rfl, rfl⟩
  | sh _ _ ih => simp [ih]
  | io _ _ ih => simp [ih]
theorem OW.at {F : Addr → Prop} {m : List Bool} {as : List Arg} {vs : List V} {ws : List (Option W)} (h : OW K σ H F m as vs ws) : ∀ (k : Nat) (b : Bool), m[k]? = some b → ∃ a v, as[k]? = some a ∧ vs[k]? = some v ∧
    ((b = false ∧ ∃ w, ws[k]? = some (some w) ∧ HR K H F v w) ∨ (b = true ∧ ws[k]? = some none ∧ AR K σ H F a v)) := by
  induction h with
  | nil => intro k b e; simp at e
  | sh r _ ih =>
    intro k b e
    cases k with
    | zero => exact ⟨_, _, rfl, rfl, .inl ⟨by simpa using e.symm, _, rfl, r⟩⟩
    | succ k => simpa using ih k b (by simpa using e)
  | io r _ ih =>
    intro k b e
    cases k with
    | zero => exact ⟨_, _, rfl, rfl, .inr ⟨by simpa using e.symm, rfl, r⟩⟩
    | succ k => simpa using ih k b (by simpa using e)
theorem pndM_mem : ∀ {m : List Bool} {as : List Arg} {vs : List V} (k : Nat) {a : Arg} {v : V}, m[k]? = some true → as[k]? = some a → vs[k]? = some v → ∀ p ∈ pnd a v, p ∈ pndM m as vs
  | b :: m, a' :: as, v' :: vs, 0, a, v, h1, h2, h3, p, hp => by
    obtain rfl : b = true := by simpa using h1
    obtain rfl : a' = a := by simpa using h2
    obtain rfl : v' = v := by simpa using h3
    exact List.mem_append_right _ hp
  | b :: m, a' :: as, v' :: vs, k + 1, a, v, h1, h2, h3, p, hp => by
    have ih := pndM_mem (m := m) (as := as) (vs := vs) k (by simpa using h1) (by simpa using h2) (by simpa using h3) p hp
    cases b with
    | true => exact List.mem_append_left _ ih
    | false => exact ih
  | [], _, _, _, _, _, h, _, _, _, _ => by simp at h
  | _ :: _, [], _, _, _, _, _, h, _, _, _ => by simp at h
  | _ :: _, _ :: _, [], _, _, _, _, _, h, _, _ => by simp at h
/-- two places with one new object are one -/
theorem pndM_inj : ∀ {m : List Bool} {as : List Arg} {vs : List V} (k k' : Nat) {w w' : W} {c : Addr}, ((pndM m as vs).map (·.1)).Nodup → m[k]? = some true → m[k']? = some true → as[k]? = some (.val w true) → as[k']? = some (.val w' true) → vs[k]? = some (.ref c) → vs[k']? = some (.ref c) → k = k'
  | b :: m, a :: as, v :: vs, 0, 0, _, _, _, _, _, _, _, _, _, _ => rfl
  | b :: m, a :: as, v :: vs, 0, k + 1, w, w', c, nd, h1, h2, h3, h4, h5, h6 => by
    obtain rfl : b = true := by simpa using h1
    obtain rfl : a = .val w true := by simpa using h3
    obtain rfl : v = .ref c := by simpa using h5
    have x := pndM_mem (m := m) (as := as) (vs := vs) k (by simpa using h2) (by simpa using h4) (by simpa using h6) (c, w') (by simp [pnd])
    simp only [pndM, List.map_append] at nd
    exact absurd rfl ((List.nodup_append.mp nd).2.2 c (List.mem_map_of_mem (f := (·.1)) x) c (by simp [pnd]))
  | b :: m, a :: as, v :: vs, k + 1, 0, w, w', c, nd, h1, h2, h3, h4, h5, h6 => by
    obtain rfl : b = true := by simpa using h2
    obtain rfl : a = .val w' true := by simpa using h4
    obtain rfl : v = .ref c := by simpa using h6
    have x := pndM_mem (m := m) (as := as) (vs := vs) k (by simpa using h1) (by simpa using h3) (by simpa using h5) (c, w) (by simp [pnd])
    simp only [pndM, List.map_append] at nd
    exact absurd rfl ((List.nodup_append.mp nd).2.2 c (List.mem_map_of_mem (f := (·.1)) x) c (by simp [pnd]))
  | b :: m, a :: as, v :: vs, k + 1, k' + 1, w, w', c, nd, h1, h2, h3, h4, h5, h6 => by
    have nd' : ((pndM m as vs).map (·.1)).Nodup := by
      cases b with
      | true => simp only [pndM, List.map_append] at nd; exact (List.nodup_append.mp nd).1
      | false => exact nd
    rw [pndM_inj (m := m) (as := as) (vs := vs) k k' nd' (by simpa using h1) (by simpa using h2) (by simpa using h3) (by simpa using h4) (by simpa using h5) (by simpa using h6)]
  | [], _, _, _, _, _, _, _, _, h, _, _, _, _, _ => by simp at h
  | _ :: _, [], _, _, _, _, _, _, _, _, _, h, _, _, _ => by simp at h
  | _ :: _, _ :: _, [], _, _, _, _, _, _, _, _, _, _, h, _ => by simp at h

theorem env0_get {fd : FD} {ws : List W} {k : Nat} {w : W} {f : Fl} (hl : ws.length = fd.m.length) (h : (env0 fd ws)[k]? = some (some (w, f))) : ∃ b, ws[k]? = some w ∧ fd.m[k]? = some b ∧ f = if b then Fl.io else Fl.sh := by
  unfold env0 at h
  by_cases hk : k < (ws.zip fd.m).length
  · rw [List.getElem?_append_left (by simpa using hk), List.getElem?_map] at h
    cases e : (ws.zip fd.m)[k]? with
    | none => rw [e] at h; cases h
    | some p =>
      rw [e] at h
      obtain ⟨w', b⟩ := p
      have h1 : w' = w ∧ (if b then Fl.io else Fl.sh) = f := by simpa using h
      obtain ⟨rfl, rfl⟩ := h1
      rw [List.getElem?_zip_eq_some] at e
      exact ⟨b, e.1, e.2, rfl⟩
  · rw [List.getElem?_append_right (by simpa using hk), List.getElem?_replicate] at h
    split at h <;> cases h
theorem env0_len {fd : FD} {ws : List W} (hl : ws.length = fd.m.length) (hn : fd.m.length ≤ fd.n) : (env0 fd ws).length = fd.n := by
  unfold env0
  rw [List.length_append, List.length_map, List.length_zip, List.length_replicate]
  omega
theorem start_len {N : List Str} {vs : List V} (h : vs.length ≤ N.length) : (L2.start N vs).length = N.length := by
  unfold L2.start
  rw [List.length_append, List.length_map, List.length_replicate]
  omega
theorem start_get {N : List Str} {vs : List V} {k : Nat} {v : V} (h : vs[k]? = some v) : (L2.start N vs)[k]? = some (some v) := by
  unfold L2.start
  have hk := (List.getElem?_eq_some_iff.mp h).1
  rw [List.getElem?_append_left (by simpa using hk), List.getElem?_map, h]
  rfl
/-- the objects that a callee changes -/
def ioA (m : List Bool) (vs : List V) : Nat → Option Addr := fun k => match m[k]?, vs[k]? with
  | some true, some (.ref a) => some a
  | _, _ => none

theorem b_false {b : Bool} (h : Fl.sh = if b then Fl.io else Fl.sh) : b = false := by
  cases b with
  | false => rfl
  | true => cases h
theorem b_true {b : Bool} {f : Fl} (n : f ≠ .sh) (h : f = if b then Fl.io else Fl.sh) : b = true := by
  cases b with
  | true => rfl
  | false => exact absurd h n
theorem b_io {b : Bool} {f : Fl} (n : f = .io ∨ f = .ioL) (h : f = if b then Fl.io else Fl.sh) : b = true := b_true (by rcases n with rfl | rfl <;> decide) h
theorem start_rel {Pn : List (Addr × W)} {ρ : Env} {F : Addr → Prop} {fd : FD} {N : List Str} {as : List Arg} {vs : List V} {ows : List (Option W)} {ws : List W} (hs : SRel K A σ ρ H F (pndM fd.m as vs ++ Pn)) (ow : OW K σ H F fd.m as vs ows) (e : ioW ρ [] ows as = some ws) (hn : fd.m.length ≤ fd.n) (hN : N.length = fd.n) :
    ws.length = fd.m.length ∧ vs.length = fd.m.length ∧ SRel K (ioA fd.m vs) (L2.start N vs) (env0 fd ws) H F [] ∧
    (∀ (k : Nat), fd.m[k]? = some true → ∃ a c, as[k]? = some a ∧ vs[k]? = some (.ref c) ∧ ((∃ i, a = .slot i ∧ SlA σ ρ i c ∧ Om σ ρ c ∧ σ[i]? = some (some (.ref c))) ∨ ∃ w, a = .val w true ∧ (c, w) ∈ pndM fd.m as vs)) ∧
    (∀ (k k' i : Nat), fd.m[k]? = some true → fd.m[k']? = some true → as[k]? = some (.slot i) → as[k']? = some (.slot i) → k = k') := by
  obtain ⟨l1, l2, l3⟩ := ow.len
  obtain ⟨w0, w1, w2, w3⟩ := ioW_at e
  have hl : ws.length = fd.m.length := by rw [w0, l3]
  -- every changed place
  have chg : ∀ (k : Nat), fd.m[k]? = some true → ∃ a c w, as[k]? = some a ∧ vs[k]? = some (.ref c) ∧ ws[k]? = some w ∧ ¬ F c ∧ Cell K H F c w ∧ ((∃ i, a = .slot i ∧ SlA σ ρ i c ∧ Om σ ρ c ∧ σ[i]? = some (some (.ref c))) ∨ (a = .val w true ∧ (c, w) ∈ pndM fd.m as vs)) := fun k hk => by
    obtain ⟨a, v, ha, hv, h | ⟨_, hw, har⟩⟩ := ow.at k true hk
    · cases h.1
    · rcases w2 k hw with ⟨w, x1, x2⟩ | ⟨i, w, f, x1, x2, x3, x4, _⟩
      · rw [ha] at x1; cases x1
        obtain ⟨c, rfl⟩ := har
        have hm := pndM_mem k hk ha hv (c, w) (by simp [pnd])
        obtain ⟨p1, p2, _⟩ := hs.pn (c, w) (List.mem_append_left _ hm)
        exact ⟨_, c, w, ha, hv, x2, p1, p2, .inr ⟨rfl, hm⟩⟩
      · rw [ha] at x1; cases x1
        have x2' := wOf_eq.mp x2
        have nsh : f ≠ .sh := by rcases x3 with rfl | rfl <;> decide
        obtain ⟨c, ec, nF, hc⟩ := hs.ow i w f x2' nsh
        have : σ[i]? = some (some v) := har
        rw [this] at ec; cases ec
        exact ⟨_, c, w, ha, hv, x4, nF, hc, .inl ⟨i, rfl, ⟨w, f, x2', nsh, this⟩, ⟨i, w, f, x2', x3, this⟩, this⟩⟩
  have inj : ∀ (k k' : Nat) (c : Addr), fd.m[k]? = some true → fd.m[k']? = some true → vs[k]? = some (.ref c) → vs[k']? = some (.ref c) → k = k' := fun k k' c h1 h2 h3 h4 => by
    obtain ⟨a, d, w, a1, a2, a3, a4, a5, a6⟩ := chg k h1
    rw [h3] at a2; cases a2
    obtain ⟨a', d', w', b1, b2, b3, b4, b5, b6⟩ := chg k' h2
    rw [h4] at b2; cases b2
    rcases a6 with ⟨i, rfl, s1, _⟩ | ⟨rfl, s1⟩
    · rcases b6 with ⟨i', rfl, s2, _⟩ | ⟨rfl, s2⟩
      · obtain rfl := hs.dj i i' c s1 s2
        obtain ⟨_, _, _, _, z | ⟨_, hw, _⟩⟩ := ow.at k true h1
        · cases z.1
        · obtain ⟨_, _, _, _, z | ⟨_, hw', _⟩⟩ := ow.at k' true h2
          · cases z.1
          · exact w3 k k' i hw hw' a1 b1
      · exact absurd s1 ((hs.pn _ (List.mem_append_left _ s2)).2.2 i)
    · rcases b6 with ⟨i', rfl, s2, _⟩ | ⟨rfl, s2⟩
      · exact absurd s2 ((hs.pn _ (List.mem_append_left _ s1)).2.2 i')
      · have nd := hs.pd
        rw [List.map_append] at nd
        exact pndM_inj k k' (List.nodup_append.mp nd).1 h1 h2 a1 b1 h3 h4
  refine ⟨hl, l2, ⟨?_, fun k w h => ?_, fun k w f h n => ?_, fun k w f h q => ?_, fun k k' a h1 h2 => ?_, (fun p hp => nomatch hp), List.nodup_nil, hs.ff⟩, fun k hk => ?_, fun k k' i h1 h2 h3 h4 => ?_⟩
  · rw [env0_len hl hn, start_len (by omega), hN]
  · obtain ⟨b, h1, h2, h3⟩ := env0_get hl h
    obtain rfl := b_false h3
    obtain ⟨a, v, ha, hv, ⟨_, w', x1, x2⟩ | ⟨z, _⟩⟩ := ow.at k false h2
    · have := w1 k w' x1
      rw [h1] at this; cases this
      exact ⟨v, start_get hv, x2⟩
    · cases z
  · obtain ⟨b, h1, h2, h3⟩ := env0_get hl h
    obtain rfl := b_true n h3
    obtain ⟨a, c, w', a1, a2, a3, a4, a5, _⟩ := chg k h2
    rw [h1] at a3; cases a3
    exact ⟨c, start_get a2, a4, a5⟩
  · obtain ⟨b, h1, h2, h3⟩ := env0_get hl h
    obtain rfl := b_io q h3
    obtain ⟨a, c, w', a1, a2, a3, a4, a5, _⟩ := chg k h2
    exact ⟨c, by simp [ioA, h2, a2], start_get a2⟩
  · obtain ⟨w, f, e1, n1, s1⟩ := h1
    obtain ⟨w', f', e2, n2, s2⟩ := h2
    obtain ⟨b, h1, h2, h3⟩ := env0_get hl e1
    obtain rfl := b_true n1 h3
    obtain ⟨b', h1', h2', h3'⟩ := env0_get hl e2
    obtain rfl := b_true n2 h3'
    obtain ⟨_, c, _, _, a2, _⟩ := chg k h2
    obtain ⟨_, c', _, _, b2, _⟩ := chg k' h2'
    rw [start_get a2] at s1; cases s1
    rw [start_get b2] at s2; cases s2
    exact inj k k' _ h2 h2' a2 b2
  · obtain ⟨a, c, w, a1, a2, a3, a4, a5, a6⟩ := chg k hk
    exact ⟨a, c, a1, a2, a6.imp id fun ⟨x, y⟩ => ⟨w, x, y⟩⟩
  · obtain ⟨_, _, _, _, z | ⟨_, hw, _⟩⟩ := ow.at k true h1
    · cases z.1
    · obtain ⟨_, _, _, _, z | ⟨_, hw', _⟩⟩ := ow.at k' true h2
      · cases z.1
      · exact w3 k k' i hw hw' h3 h4
end
end Py

namespace Py
open PySem PySem.Spec PyProof.Rows L2
variable [HW]
section
variable {K : PySem.W.Frag} {A : Nat → Option Addr} {σ σ' : Sg} {H H' : Hp}
theorem ioB_at {ρ' : Env} : ∀ {m : List Bool} {as : List Arg} {ios : List W} {ρ ρ4 : Env} {k0 : Nat}, ioE ρ' k0 m = some ios → ioB ρ m as ios = some ρ4 → ρ4.length = ρ.length ∧ ∀ (j : Nat) (x : Option (W × Fl)), ρ4[j]? = some x →
    (ρ[j]? = some x ∧ ∀ k : Nat, m[k]? = some true → as[k]? ≠ some (.slot j)) ∨ ∃ (k : Nat) (w : W) (f : Fl) (w0 : W), m[k]? = some true ∧ as[k]? = some (.slot j) ∧ (∃ g, wOf ρ' (k0 + k) = some (w, g) ∧ (g = Fl.io ∨ g = Fl.ioL)) ∧ wOf ρ j = some (w0, f) ∧ x = some (w, f)
  | [], as, ios, ρ, ρ4, k0, h1, h2 => by
    cases as with
    | nil =>
      obtain rfl : [] = ios := by simpa [ioE] using h1
      obtain rfl : ρ = ρ4 := by simpa [ioB] using h2
      exact ⟨rfl, fun j x h => .inl ⟨h, fun k e => by simp at e⟩⟩
    | cons _ _ => cases ios <;> simp [ioB] at h2
  | false :: m, [], ios, ρ, ρ4, k0, h1, h2 => by simp [ioB] at h2
  | false :: m, a :: as, ios, ρ, ρ4, k0, h1, h2 => by
    obtain ⟨l, ih⟩ := ioB_at (m := m) (k0 := k0 + 1) (by simpa [ioE] using h1) (by simpa [ioB] using h2)
    refine ⟨l, fun j x h => ?_⟩
    rcases ih j x h with ⟨a1, a2⟩ | ⟨k, w, f, w0, a1, a2, a3, a4, a5⟩
    · refine .inl ⟨a1, fun k e => ?_⟩
      cases k with
      | zero => simp at e
      | succ k => simpa using a2 k (by simpa using e)
    · exact .inr ⟨k + 1, w, f, w0, by simpa using a1, by simpa using a2, by rw [show k0 + (k + 1) = k0 + 1 + k by omega]; exact a3, a4, a5⟩
  | true :: m, [], ios, ρ, ρ4, k0, h1, h2 => by cases ios <;> simp [ioB] at h2
  | true :: m, .val u fr :: as, [], ρ, ρ4, k0, h1, h2 => by simp [ioB] at h2
  | true :: m, .slot i :: as, [], ρ, ρ4, k0, h1, h2 => by simp [ioB] at h2
  | true :: m, .val u fr :: as, w :: ios, ρ, ρ4, k0, h1, h2 => by
    have h1' : ioE ρ' (k0 + 1) m = some ios := by
      simp only [ioE] at h1
      split at h1 <;> first | (cases h1; done) | (rename_i e; cases Option.some.inj h1; exact e)
    obtain ⟨l, ih⟩ := ioB_at (m := m) (k0 := k0 + 1) h1' (by simpa [ioB] using h2)
    refine ⟨l, fun j x h => ?_⟩
    rcases ih j x h with ⟨a1, a2⟩ | ⟨k, w, f, w0, a1, a2, a3, a4, a5⟩
    · refine .inl ⟨a1, fun k e => ?_⟩
      cases k with
      | zero => simp
      | succ k => simpa using a2 k (by simpa using e)
    · exact .inr ⟨k + 1, w, f, w0, by simpa using a1, by simpa using a2, by rw [show k0 + (k + 1) = k0 + 1 + k by omega]; exact a3, a4, a5⟩
  | true :: m, .slot i :: as, w :: ios, ρ, ρ4, k0, h1, h2 => by
    have h1' : ioE ρ' (k0 + 1) m = some ios ∧ ∃ g, wOf ρ' k0 = some (w, g) ∧ (g = Fl.io ∨ g = Fl.ioL) := by
      simp only [ioE] at h1
      split at h1 <;> first
        | (cases h1; done)
        | (rename_i e1 e2; cases Option.some.inj h1; exact ⟨e2, _, e1, .inl rfl⟩)
        | (rename_i e1 e2; cases Option.some.inj h1; exact ⟨e2, _, e1, .inr rfl⟩)
    obtain ⟨h1', g, hg, hg'⟩ := h1'
    simp only [ioB] at h2
    cases hw : wOf ρ i with
    | none => rw [hw] at h2; cases h2
    | some y =>
      obtain ⟨w0, f⟩ := y
      rw [hw] at h2
      obtain ⟨l, ih⟩ := ioB_at (m := m) (k0 := k0 + 1) h1' h2
      have hi : i < ρ.length := lt_of_get (wOf_eq.mp hw)
      refine ⟨by simpa using l, fun j x h => ?_⟩
      rcases ih j x h with ⟨a1, a2⟩ | ⟨k, w', f', w0', a1, a2, a3, a4, a5⟩
      · rw [get_set hi] at a1
        by_cases hj : j = i
        · rw [if_pos hj] at a1
          subst hj
          exact .inr ⟨0, w, f, w0, rfl, rfl, ⟨g, hg, hg'⟩, hw, (Option.some.inj a1).symm⟩
        · rw [if_neg hj] at a1
          refine .inl ⟨a1, fun k e => ?_⟩
          cases k with
          | zero => intro z; have : i = j := by simpa using z
                    exact hj this.symm
          | succ k => simpa using a2 k (by simpa using e)
      · have a4' : ∃ w1, wOf ρ j = some (w1, f') := by
          rw [wOf_eq] at a4
          rw [get_set hi] at a4
          by_cases hj : j = i
          · rw [if_pos hj] at a4
            subst hj
            cases a4
            exact ⟨w0, hw⟩
          · rw [if_neg hj] at a4
            exact ⟨w0', wOf_eq.mpr a4⟩
        obtain ⟨w1, a4'⟩ := a4'
        exact .inr ⟨k + 1, w', f', w1, by simpa using a1, by simpa using a2, by rw [show k0 + (k + 1) = k0 + 1 + k by omega]; exact a3, a4', a5⟩

theorem sl_start {fd : FD} {N : List Str} {vs : List V} {ws : List W} {i : Nat} {a : Addr} (hl : ws.length = fd.m.length) (hv : vs.length = fd.m.length) (h : SlA (L2.start N vs) (env0 fd ws) i a) : fd.m[i]? = some true ∧ vs[i]? = some (.ref a) := by
  obtain ⟨w, f, e, n, s⟩ := h
  obtain ⟨b, h1, h2, h3⟩ := env0_get hl e
  obtain rfl := b_true n h3
  have hk : i < vs.length := by rw [hv]; exact lt_of_get h2
  refine ⟨h2, ?_⟩
  have e2 := start_get (N := N) (List.getElem?_eq_getElem hk)
  rw [e2] at s
  rw [List.getElem?_eq_getElem hk]
  exact Option.some.inj s
theorem end_rel {Pn Px : List (Addr × W)} {ρ3 ρ4 ρ' : Env} {F F' : Addr → Prop} {fd : FD} {N : List Str} {as : List Arg} {vs : List V} {ws ios : List W} (hs : SRel K A σ ρ3 H F (pndM fd.m as vs ++ Pn)) (hl : ws.length = fd.m.length) (hv : vs.length = fd.m.length)
    (cs : SRel K (ioA fd.m vs) (L2.start N vs) (env0 fd ws) H F [])
    (ch : ∀ (k : Nat), fd.m[k]? = some true → ∃ a c, as[k]? = some a ∧ vs[k]? = some (.ref c) ∧ ((∃ i, a = .slot i ∧ SlA σ ρ3 i c ∧ Om σ ρ3 c ∧ σ[i]? = some (some (.ref c))) ∨ ∃ w, a = .val w true ∧ (c, w) ∈ pndM fd.m as vs))
    (st : Stp (L2.start N vs) (env0 fd ws) H F σ' ρ' H' F') (sr : SRel K (ioA fd.m vs) σ' ρ' H' F' Px) (hx : ∀ p ∈ Px, H p.1 = none) (he : ioE ρ' 0 fd.m = some ios) (hb : ioB ρ3 fd.m as ios = some ρ4) :
    SRel K A σ ρ4 H' F' (Px ++ Pn) ∧ ∀ H0 F0 ρ0, Stp σ ρ0 H0 F0 σ ρ3 H F → (∀ c x, (c, x) ∈ pndM fd.m as vs → H0 c = none) → Stp σ ρ0 H0 F0 σ ρ4 H' F' := by
  obtain ⟨b1, b2⟩ := ioB_at he hb
  -- the objects that the callee may change
  have io : ∀ a i, SlA (L2.start N vs) (env0 fd ws) i a → (∃ j, as[i]? = some (.slot j) ∧ SlA σ ρ3 j a ∧ Om σ ρ3 a ∧ σ[j]? = some (some (.ref a))) ∨ ∃ w, as[i]? = some (.val w true) ∧ (a, w) ∈ pndM fd.m as vs := fun a i s => by
    obtain ⟨h1, h2⟩ := sl_start hl hv s
    obtain ⟨x, c, x1, x2, x3⟩ := ch i h1
    rw [h2] at x2; cases x2
    rcases x3 with ⟨j, rfl, x4⟩ | ⟨w, rfl, x4⟩
    · exact .inl ⟨j, x1, x4⟩
    · exact .inr ⟨w, x1, x4⟩
  have nio : ∀ j a, SlA σ ρ3 j a → (∀ k : Nat, fd.m[k]? = some true → as[k]? ≠ some (.slot j)) → ¬ ∃ i, SlA (L2.start N vs) (env0 fd ws) i a := fun j a s h => by
    rintro ⟨i, si⟩
    rcases io a i si with ⟨j', x1, x2, _⟩ | ⟨w, x1, x2⟩
    · obtain rfl := hs.dj j j' a s x2
      exact h i (sl_start hl hv si).1 x1
    · exact (hs.pn _ (List.mem_append_left _ x2)).2.2 j s
  have npn : ∀ p ∈ Pn, ¬ ∃ i, SlA (L2.start N vs) (env0 fd ws) i p.1 := fun p hp => by
    rintro ⟨i, si⟩
    rcases io _ i si with ⟨j', x1, x2, _⟩ | ⟨w, x1, x2⟩
    · exact (hs.pn p (List.mem_append_right _ hp)).2.2 j' x2
    · have nd := hs.pd
      rw [List.map_append] at nd
      exact (List.nodup_append.mp nd).2.2 _ (List.mem_map_of_mem (f := (·.1)) x2) _ (List.mem_map_of_mem (f := (·.1)) hp) rfl
  have cell : ∀ a w, ¬ F a → (¬ ∃ i, SlA (L2.start N vs) (env0 fd ws) i a) → Cell K H F a w → ¬ F' a ∧ Cell K H' F' a w := fun a w nF ni hc => by
    obtain ⟨vs', e, _⟩ := hc.obj
    refine ⟨fun f => ?_, ?_⟩
    · rcases st.nf a _ e f with z | z
      · exact nF z
      · exact ni z
    · cases w <;> first | exact hc.elim | skip
      · obtain ⟨us, e1, z, r⟩ := hc
        exact ⟨us, st.kp _ _ e1 fun z => ni z.sl, z, st.hrs cs r⟩
      · obtain ⟨us, e1, z, n, r⟩ := hc
        exact ⟨us, e1.imp fun _ e1 => st.kp _ _ e1 fun z => ni z.sl, z, n, st.drel cs r⟩
  -- a place of the final names
  have place : ∀ (j : Nat) (w : W) (f : Fl), ρ4[j]? = some (some (w, f)) → (ρ3[j]? = some (some (w, f)) ∧ ∀ k : Nat, fd.m[k]? = some true → as[k]? ≠ some (.slot j)) ∨ ∃ (c : Addr) (w0 : W), ρ3[j]? = some (some (w0, f)) ∧ f ≠ .sh ∧ SlA σ ρ3 j c ∧ σ[j]? = some (some (.ref c)) ∧ ¬ F' c ∧ Cell K H' F' c w := fun j w f h => by
    rcases b2 j _ h with h | ⟨k, w', f', w0, x1, x2, ⟨g, x3, x4⟩, x5, x6⟩
    · exact .inl h
    · cases x6
      obtain ⟨a, c, y1, y2, y3⟩ := ch k x1
      rw [x2] at y1; cases y1
      rcases y3 with ⟨i, e, s, o, sg⟩ | ⟨_, e, _⟩
      · cases e
        have x3' := wOf_eq.mp x3
        rw [show 0 + k = k by omega] at x3'
        have ng : g ≠ .sh := by rcases x4 with rfl | rfl <;> decide
        obtain ⟨a, z1, z2, z3⟩ := sr.ow k w g x3' ng
        obtain ⟨a', z4, z5⟩ := sr.io k w g x3' x4
        rw [z1] at z5; cases z5
        have : a = c := by simpa [ioA, x1, y2] using z4.symm
        subst this
        obtain ⟨w1, f1, e1, n1, s1⟩ := s
        have e2 := wOf_eq.mp x5
        rw [e1] at e2; cases e2
        exact .inr ⟨a, _, e1, n1, ⟨_, f, e1, n1, s1⟩, sg, z2, z3⟩
      · cases e
  have back : ∀ j a, SlA σ ρ4 j a → SlA σ ρ3 j a := fun j a ⟨w, f, e, n, s⟩ => by
    rcases place j w f e with ⟨h, _⟩ | ⟨c, w0, h1, h2, h3, h4, _⟩
    · exact ⟨w, f, h, n, s⟩
    · rw [s] at h4; cases h4; exact h3
  have pnx : ∀ p ∈ Pn, ¬ F' p.1 ∧ Cell K H' F' p.1 p.2 := fun p hp => by
    obtain ⟨x, y, _⟩ := hs.pn p (List.mem_append_right _ hp)
    exact cell _ _ x (npn p hp) y
  refine ⟨⟨by rw [b1]; exact hs.ln, fun j w e => ?_, fun j w f e n => ?_, fun j w f e q => ?_, fun i j a h1 h2 => hs.dj i j a (back _ _ h1) (back _ _ h2), fun p hp => ?_, ?_, fun a f => ?_⟩, fun H0 F0 ρ0 s0 hn => ?_⟩
  · rcases place j w .sh e with ⟨h, _⟩ | ⟨c, w0, h1, h2, _⟩
    · obtain ⟨v, a, b⟩ := hs.sh j w h
      exact ⟨v, a, st.hr cs b⟩
    · exact absurd rfl h2
  · rcases place j w f e with ⟨h, h'⟩ | ⟨c, w0, h1, h2, h3, h4, h5, h6⟩
    · obtain ⟨a, x, y, z⟩ := hs.ow j w f h n
      obtain ⟨u1, u2⟩ := cell a w y (nio j a ⟨w, f, h, n, x⟩ h') z
      exact ⟨a, x, u1, u2⟩
    · exact ⟨c, h4, h5, h6⟩
  · rcases place j w f e with ⟨h, h'⟩ | ⟨c, w0, h1, _⟩
    · exact hs.io j w f h q
    · exact hs.io j w0 f h1 q
  · rcases List.mem_append.mp hp with hp | hp
    · obtain ⟨x, y, _⟩ := sr.pn p hp
      refine ⟨x, y, fun i s => ?_⟩
      obtain ⟨_, vs', e, _⟩ := hs.slc (back _ _ s)
      rw [hx p hp] at e; cases e
    · obtain ⟨x, y⟩ := pnx p hp
      exact ⟨x, y, fun i s => (hs.pn p (List.mem_append_right _ hp)).2.2 i (back _ _ s)⟩
  · rw [List.map_append]
    refine List.nodup_append.mpr ⟨sr.pd, ?_, fun a ha b hb e => ?_⟩
    · have nd := hs.pd
      rw [List.map_append] at nd
      exact (List.nodup_append.mp nd).2.1
    · obtain ⟨p, hp, rfl⟩ := List.mem_map.mp ha
      obtain ⟨q, hq, rfl⟩ := List.mem_map.mp hb
      obtain ⟨vs', e', _⟩ := (hs.pn q (List.mem_append_right _ hq)).2.1.obj
      have := hx p hp
      rw [e, e'] at this; cases this
  · exact sr.ff a f
  · have up : ∀ a o, H0 a = some o → ∀ i, SlA (L2.start N vs) (env0 fd ws) i a → ∃ j, SlA σ ρ3 j a ∧ Om σ ρ3 a := fun a o h i s => by
      rcases io a i s with ⟨j, _, x1, x2, _⟩ | ⟨w, _, x⟩
      · exact ⟨j, x1, x2⟩
      · rw [hn a w x] at h; cases h
    refine ⟨fun a o h n => st.kp a o (s0.kp a o h n) fun z => ?_, fun a f => st.fr a (s0.fr a f), fun a o h f => ?_, fun a o h z => ?_, fun a o h i z => s0.ns a o h i (back _ _ z), fun a o h z => ?_, fun a o h => ?_⟩
    · obtain ⟨i, s⟩ := z.sl
      obtain ⟨j, _, o'⟩ := up a o h i s
      exact n (s0.no a o h o')
    · obtain ⟨o', e⟩ := s0.al a o h
      rcases st.nf a o' e f with z | ⟨i, z⟩
      · exact s0.nf a o h z
      · obtain ⟨j, x, _⟩ := up a o h i z
        exact .inr ⟨j, s0.ns a o h j x⟩
    · obtain ⟨i, w, f, e, q, s⟩ := z
      rcases place i w f e with ⟨h', _⟩ | ⟨c, w0, h1, h2, h3, h4, _⟩
      · exact s0.no a o h ⟨i, w, f, h', q, s⟩
      · exact s0.no a o h ⟨i, w0, f, h1, q, s⟩
    · obtain ⟨i, w, f, e, q, s⟩ := z
      rcases place i w f e with ⟨h', _⟩ | ⟨c, w0, h1, h2, h3, h4, _⟩
      · exact s0.nw a o h ⟨i, w, f, h', q, s⟩
      · exact s0.nw a o h ⟨i, w0, f, h1, q, s⟩
    · obtain ⟨o', e⟩ := s0.al a o h
      exact st.al a o' e
end

section
variable {X : Cx} {c : Cf} {e : Expr} {es : List Expr} {eas : E} {pos p : Pos} {x : Str}
theorem pndM_none {Hf : Addr → Prop} {m : List Bool} {as : List Arg} {vs : List V} (h : ∀ d y, (d, y) ∈ pnds as vs → Hf d) : ∀ d y, (d, y) ∈ pndM m as vs → Hf d := fun d y z => h d y (pndM_sub z)
/-- f(..), f a def of the text -/
theorem x_call {k j : Nat} {f : Addr} {fdat : FuncData} {ps : List Str} {fd : FD} {N : List Str} (hc : c.K = X.K) (tk : Takes X c.wx) (F : FnOk X.prog X.w X.K X.mg X.base (L2.CX X.prog X.w) k f fdat ps (spF X.K c.cls c.C fd N j))
    (hr : Room k X.A) (hg : Gl X x) (hm : X.mg x = some (.ref f)) (hk : PySem.W.keepIn X.K (.ref f) = true) (hb : Binds X.K fdat ps []) (hdb : (x == ("__debug__" : Str)) = false) (hn : fd.m.length ≤ fd.n) (hN : N.length = fd.n)
    (hp : (e :: es).all plainE = true) (ha : PA X (e :: es) (tXL c eas)) : PE X (.Call (.Name x p) (e :: es) [] pos) (tX c (.call j fd.m eas)) := by
  have hpe : plainE e = true := by rw [List.all_cons, Bool.and_eq_true] at hp; exact hp.1
  have hps : es.all plainE = true := by rw [List.all_cons, Bool.and_eq_true] at hp; exact hp.2
  refine peImp (pe_callS (E := WE c.wx) F hr hg hm hk hb (fun σ => passAt tk σ) ha hdb (star_cons _ hpe _) (star_all _ _ hps).1) fun σ H Q ⟨A, ρ, F, Pn, hs, q⟩ => ?_
  refine tXL_of hs q fun as vs ρ1 H1 F1 m q1 => ?_
  unfold callW at q1
  cases e1 : shM ρ1 fd.m as with
  | none => simp only [e1] at q1; exact q1.elim
  | some y =>
    obtain ⟨ows, ρ2⟩ := y
    cases e2 : ioW ρ2 [] ows as with
    | none => simp only [e1, e2] at q1; exact q1.elim
    | some ws =>
      simp only [e1, e2] at q1
      obtain ⟨F2, s2, ow, _, t2⟩ := shM_ok (P1 := []) (by simpa using m.sr) m.ar e1
      have s2 : SRel c.K A σ ρ2 H1 F2 (pndM fd.m as vs ++ Pn) := by simpa using s2
      have st2 := t2 H F ρ m.st m.fr
      obtain ⟨hl, hv, cs, ch, _⟩ := start_rel s2 ow e2 hn hN
      rw [← hc]
      refine ⟨hv, ioA fd.m vs, F2, ws, hl, cs, ?_⟩
      cases e3 : c.C j ws with
      | bad => simp only [e3] at q1; exact q1.elim
      | ret w fr ios =>
        simp only [e3] at q1
        intro v H' F' σ' ρ' st sr he hf1 hf2
        cases e4 : ioB ρ2 fd.m as ios with
        | none => simp only [e4] at q1; exact q1.elim
        | some ρ4 =>
          simp only [e4] at q1
          have hx : ∀ p ∈ pnd (.val w fr) v, H1 p.1 = none := fun p hp => by
            cases fr with
            | false => simp [pnd] at hp
            | true =>
              obtain ⟨a, rfl, hn⟩ := hf1 rfl
              obtain rfl : p = (a, w) := by simpa [pnd] using hp
              exact hn
          obtain ⟨s4, t4⟩ := end_rel s2 hl hv cs ch st sr hx he e4
          refine q1 v H' F' (t4 H F ρ st2 (pndM_none m.fr)) s4 ?_ fun d y z => m.st.fresh (hx (d, y) z)
          cases fr with
          | false => exact hf2 rfl
          | true => obtain ⟨a, rfl, _⟩ := hf1 rfl; exact ⟨a, rfl⟩
      | ex y pl ios =>
        simp only [e3] at q1
        intro H' F' σ' ρ' d st sr he hd
        cases e4 : ioB ρ2 fd.m as ios with
        | none => simp only [e4] at q1; exact q1.elim
        | some ρ4 =>
          simp only [e4] at q1
          obtain ⟨s4, t4⟩ := end_rel s2 hl hv cs ch st sr (fun p hp => nomatch hp) he e4
          exact q1 H' F' d (t4 H F ρ st2 (pndM_none m.fr)) s4 hd
end
end Py

namespace Py
open PySem PySem.Spec PyProof.Rows L2
variable [HW]
section
variable {K : PySem.W.Frag} {A : Nat → Option Addr} {σ σ' : Sg} {ρ ρ' : Env} {H H' : Hp} {F F' : Addr → Prop} {Pn : List (Addr × W)}

/-! ### a name is stored -/
theorem setN_ok {i : Nat} {w : W} {f : Fl} (h : setN ρ i w f = some ρ') : i < ρ.length ∧ ρ' = ρ.set i (some (w, f)) ∧ ∀ u g, ρ[i]? = some (some (u, g)) → g ≠ .io ∧ g ≠ .ioL := by
  unfold setN at h
  split at h
  · cases h
  · cases h
  · rename_i x h1 h2 e
    obtain rfl := Option.some.inj h
    refine ⟨lt_of_get e, rfl, fun u g q => ?_⟩
    rw [q] at e; cases e
    constructor
    · rintro rfl; exact h1 u rfl
    · rintro rfl; exact h2 u rfl
  · cases h
theorem gets {α : Type} {l : List α} {i j : Nat} {x : α} (h : i < l.length) : (l.set i x)[j]? = if j = i then some x else l[j]? := by
  by_cases e : j = i
  · subst e; rw [List.getElem?_set_self h, if_pos rfl]
  · rw [List.getElem?_set_ne (Ne.symm e), if_neg e]
theorem SRel.setV (hs : SRel K A σ ρ H F Pn) {i : Nat} {v : V} {w : W} (r : HR K H F v w) (h : setN ρ i w .sh = some ρ') :
    SRel K A (σ.set i (some v)) ρ' H F Pn ∧ Stp σ ρ H F (σ.set i (some v)) ρ' H F := by
  obtain ⟨hi, rfl, hio⟩ := setN_ok h
  have hσ : i < σ.length := by rw [← hs.ln]; exact hi
  have back : ∀ {j : Nat} {a : Addr}, SlA (σ.set i (some v)) (ρ.set i (some (w, .sh))) j a → j ≠ i ∧ SlA σ ρ j a := fun {j a} ⟨w', f', e', n', s'⟩ => by
    rw [gets hi] at e'
    rw [gets hσ] at s'
    by_cases q : j = i
    · rw [if_pos q] at e'; cases e'; exact absurd rfl n'
    · rw [if_neg q] at e' s'; exact ⟨q, w', f', e', n', s'⟩
  refine ⟨⟨by simpa using hs.ln, fun j w' e => ?_, fun j w' f e n => ?_, fun j w' f e q => ?_, fun j k a h1 h2 => hs.dj j k a (back h1).2 (back h2).2, fun p hp => ?_, hs.pd, hs.ff⟩, ⟨fun _ _ h _ => h, fun _ h => h, fun _ _ _ h => .inl h, fun a o h q => ?_, fun a o h j q => (back q).2, fun a o h q => ?_, fun _ o h => ⟨o, h⟩⟩⟩
  · rw [gets hi] at e
    rw [gets hσ]
    by_cases q : j = i
    · rw [if_pos q] at e ⊢; cases e; exact ⟨v, rfl, r⟩
    · rw [if_neg q] at e ⊢; exact hs.sh j w' e
  · rw [gets hi] at e
    rw [gets hσ]
    by_cases q : j = i
    · rw [if_pos q] at e; cases e; exact absurd rfl n
    · rw [if_neg q] at e ⊢; exact hs.ow j w' f e n
  · rw [gets hi] at e
    rw [gets hσ]
    by_cases z : j = i
    · rw [if_pos z] at e; cases e; rcases q with q | q <;> cases q
    · rw [if_neg z] at e ⊢; exact hs.io j w' f e q
  · obtain ⟨x, y, z⟩ := hs.pn p hp
    exact ⟨x, y, fun j s => z j (back s).2⟩
  · obtain ⟨j, w', f', e', n', s'⟩ := q
    rw [gets hi] at e'
    rw [gets hσ] at s'
    by_cases z : j = i
    · rw [if_pos z] at e'; cases e'; rcases n' with n' | n' <;> cases n'
    · rw [if_neg z] at e' s'; exact ⟨j, w', f', e', n', s'⟩
  · obtain ⟨j, w', f', e', n', s'⟩ := q
    rw [gets hi] at e'
    rw [gets hσ] at s'
    by_cases z : j = i
    · rw [if_pos z] at e'; cases e'; rcases n' with n' | n' <;> cases n'
    · rw [if_neg z] at e' s'; exact ⟨j, w', f', e', n', s'⟩
/-- .. with a new object of its own -/
theorem SRel.setO {P1 : List (Addr × W)} {i : Nat} {c : Addr} {w : W} (hs : SRel K A σ ρ H F (P1 ++ (c, w) :: Pn)) (h : setN ρ i w .own = some ρ') :
    SRel K A (σ.set i (some (.ref c))) ρ' H F (P1 ++ Pn) ∧ ∀ H0 F0 ρ0 σ0, Stp σ0 ρ0 H0 F0 σ ρ H F → H0 c = none → Stp σ0 ρ0 H0 F0 (σ.set i (some (.ref c))) ρ' H F := by
  obtain ⟨hi, rfl, hio⟩ := setN_ok h
  have hσ : i < σ.length := by rw [← hs.ln]; exact hi
  have hc := hs.pn (c, w) (by simp)
  have hd : c ∉ (P1 ++ Pn).map (·.1) ∧ ((P1 ++ Pn).map (·.1)).Nodup := by
    have := hs.pd
    rw [List.map_append, List.map_cons] at this
    have q := (List.perm_middle (a := c) (l₁ := P1.map (·.1)) (l₂ := Pn.map (·.1))).nodup_iff.mp this
    rw [← List.map_append] at q
    exact List.nodup_cons.mp q
  have sub : ∀ p ∈ P1 ++ Pn, p ∈ P1 ++ (c, w) :: Pn := fun p hp => by
    rcases List.mem_append.mp hp with q | q
    · exact List.mem_append_left _ q
    · exact List.mem_append_right _ (List.mem_cons_of_mem _ q)
  have back : ∀ {j : Nat} {a : Addr}, SlA (σ.set i (some (.ref c))) (ρ.set i (some (w, .own))) j a → (j = i ∧ a = c) ∨ (j ≠ i ∧ SlA σ ρ j a) := fun {j a} ⟨w', f', e', n', s'⟩ => by
    rw [gets hi] at e'
    rw [gets hσ] at s'
    by_cases q : j = i
    · rw [if_pos q] at e' s'; cases e'; cases s'; exact .inl ⟨q, rfl⟩
    · rw [if_neg q] at e' s'; exact .inr ⟨q, w', f', e', n', s'⟩
  refine ⟨⟨by simpa using hs.ln, fun j w' e => ?_, fun j w' f e n => ?_, fun j w' f e q => ?_, fun j k a h1 h2 => ?_, fun p hp => ?_, hd.2, hs.ff⟩, fun H0 F0 ρ0 σ0 st hn => ⟨st.kp, st.fr, st.nf, fun a o h q => ?_, fun a o h j q => ?_, fun a o h q => ?_, st.al⟩⟩
  · rw [gets hi] at e
    rw [gets hσ]
    by_cases q : j = i
    · rw [if_pos q] at e; cases e
    · rw [if_neg q] at e ⊢; exact hs.sh j w' e
  · rw [gets hi] at e
    rw [gets hσ]
    by_cases q : j = i
    · rw [if_pos q] at e ⊢; cases e; exact ⟨c, rfl, hc.1, hc.2.1⟩
    · rw [if_neg q] at e ⊢; exact hs.ow j w' f e n
  · rw [gets hi] at e
    rw [gets hσ]
    by_cases z : j = i
    · rw [if_pos z] at e; cases e; rcases q with q | q <;> cases q
    · rw [if_neg z] at e ⊢; exact hs.io j w' f e q
  · rcases back h1 with ⟨rfl, rfl⟩ | ⟨n1, s1⟩
    · rcases back h2 with ⟨rfl, _⟩ | ⟨n2, s2⟩
      · rfl
      · exact absurd s2 (hc.2.2 k)
    · rcases back h2 with ⟨rfl, rfl⟩ | ⟨n2, s2⟩
      · exact absurd s1 (hc.2.2 j)
      · exact hs.dj j k a s1 s2
  · obtain ⟨x, y, z⟩ := hs.pn p (sub p hp)
    refine ⟨x, y, fun j s => ?_⟩
    rcases back s with ⟨rfl, e⟩ | ⟨_, s⟩
    · exact hd.1 (e ▸ List.mem_map_of_mem hp)
    · exact z j s
  · obtain ⟨j, w', f', e', n', s'⟩ := q
    rw [gets hi] at e'
    rw [gets hσ] at s'
    by_cases z : j = i
    · rw [if_pos z] at s'; cases s'
      rw [hn] at h; cases h
    · rw [if_neg z] at e' s'; exact st.no a o h ⟨j, w', f', e', n', s'⟩
  · rcases back q with ⟨_, z⟩ | ⟨_, s⟩
    · rw [z, hn] at h; cases h
    · exact st.ns a o h j s
  · obtain ⟨j, w', f', e', n', s'⟩ := q
    rw [gets hi] at e'
    rw [gets hσ] at s'
    by_cases z : j = i
    · rw [if_pos z] at s'; cases s'
      rw [hn] at h; cases h
    · rw [if_neg z] at e' s'; exact st.nw a o h ⟨j, w', f', e', n', s'⟩

/-! ### targets -/
/-- slots outside of some names -/
def Off (l : List Nat) (σ σ' : Sg) (ρ ρ' : Env) : Prop := σ'.length = σ.length ∧ ∀ j, j ∉ l → σ'[j]? = σ[j]? ∧ ρ'[j]? = ρ[j]?
theorem Off.refl {l : List Nat} : Off l σ σ ρ ρ := ⟨rfl, fun _ _ => ⟨rfl, rfl⟩⟩
theorem Off.trans {l l' : List Nat} {σ2 : Sg} {ρ2 : Env} (a : Off l σ σ' ρ ρ') (b : Off l' σ' σ2 ρ' ρ2) : Off (l ++ l') σ σ2 ρ ρ2 :=
  ⟨b.1.trans a.1, fun j h => ⟨(b.2 j fun z => h (List.mem_append_right _ z)).1.trans (a.2 j fun z => h (List.mem_append_left _ z)).1, (b.2 j fun z => h (List.mem_append_right _ z)).2.trans (a.2 j fun z => h (List.mem_append_left _ z)).2⟩⟩
def gP (K : PySem.W.Frag) (p : Pt) : TG := fun v σ H Q => ∃ A ρ F Pn w ρ', SRel K A σ ρ H F Pn ∧ HR K H F v w ∧ asP p w ρ = some ρ' ∧
  ∀ σ', SRel K A σ' ρ' H F Pn → Stp σ ρ H F σ' ρ' H F → Off p.ns σ σ' ρ ρ' → Q σ' H
def gPs (K : PySem.W.Frag) (p : Pt) : TGs := fun vs σ H Q => ∃ A ρ F Pn ws ρ', SRel K A σ ρ H F Pn ∧ HRs K H F vs ws ∧ asP p (.tup ws) ρ = some ρ' ∧
  ∀ σ', SRel K A σ' ρ' H F Pn → Stp σ ρ H F σ' ρ' H F → Off p.ns σ σ' ρ ρ' → Q σ' H
end
section
variable {X : Cx} {e : Expr} {es : List Expr} {pos : Pos} {x : Str}
theorem pgImp {t t' : TG} (h : PG X e t) (i : ∀ v σ H Q, t' v σ H Q → t v σ H Q) : PG X e t' := ⟨fun pins s σ H v u Q I r q => h.run pins s σ H v u Q I r (i v σ H Q q)⟩
theorem pgsImp {t t' : TGs} (h : PGs X es t) (i : ∀ v σ H Q, t' v σ H Q → t v σ H Q) : PGs X es t' := ⟨fun pins s σ H v u Q I r q => h.run pins s σ H v u Q I r (i v σ H Q q)⟩
theorem g_name {i : Nat} (hN : X.N.Nodup) (hi : X.N[i]? = some x) (hx : Loc X.env.scope x) (hf : X.fn x = true ∨ X.env.scope.names.lookup x = some .local) : PG X (.Name x pos) (gP X.K (.n i)) := by
  refine pgImp (pg_name hN hi hx hf) fun v σ H Q ⟨A, ρ, F, Pn, w, ρ', hs, r, h, q⟩ => ?_
  obtain ⟨s1, st⟩ := hs.setV r h
  refine q _ s1 st ⟨by simp, fun j hj => ?_⟩
  have hj : j ≠ i := by simpa [Pt.ns] using hj
  obtain ⟨hi', rfl, _⟩ := setN_ok h
  rw [List.getElem?_set_ne (Ne.symm hj), List.getElem?_set_ne (Ne.symm hj)]
  exact ⟨rfl, rfl⟩
theorem g_nil : PGs X [] (gPs X.K .nil) := by
  refine pgsImp pgs_nil fun vs σ H Q ⟨A, ρ, F, Pn, ws, ρ', hs, r, h, q⟩ => ?_
  cases ws with
  | nil =>
    obtain rfl := Option.some.inj h
    exact ⟨r.nl, q σ hs .refl .refl⟩
  | cons _ _ => cases h
/-- no star -/
theorem each_cons (env : PySem.Env) (h : plainE e = true) : (assignEach (e :: es) env).map (·.2) = assign e env :: (assignEach es env).map (·.2) := by
  cases e <;> first | rfl | cases h
theorem each_len (env : PySem.Env) : ∀ es : List Expr, (assignEach es env).length = es.length
  | [] => rfl
  | e :: es => by
    have : (assignEach (e :: es) env).length = (assignEach es env).length + 1 := by cases e <;> rfl
    rw [this, each_len env es]; rfl
theorem each_star (env : PySem.Env) : ∀ {es : List Expr}, es.all plainE = true → (assignEach es env).findIdx? (·.1) = none
  | [], _ => rfl
  | e :: es, h => by
    rw [List.all_cons, Bool.and_eq_true] at h
    have ih := each_star env h.2
    have : (assignEach (e :: es) env) = (false, assign e env) :: assignEach es env := by
      cases e <;> first | rfl | cases h.1
    rw [this, List.findIdx?_cons]
    simp [ih]
theorem g_cons {p q : Pt} (hp : plainE e = true) (h1 : PG X e (gP X.K p)) (h2 : PGs X es (gPs X.K q)) : PGs X (e :: es) (gPs X.K (.cons p q)) := by
  refine pgsImp (pgs_cons h1 h2 (each_cons _ hp)) fun vs σ H Q ⟨A, ρ, F, Pn, ws, ρ', hs, r, h, k⟩ => ?_
  cases ws with
  | nil => cases h
  | cons w ws =>
    obtain ⟨v, vr, rfl, r1, r2⟩ := r.split
    have h : (match asP p w ρ with | some ρ1 => asP q (.tup ws) ρ1 | none => none) = some ρ' := h
    cases e1 : asP p w ρ with
    | none => rw [e1] at h; cases h
    | some ρ1 =>
      rw [e1] at h
      exact ⟨v, vr, rfl, A, ρ, F, Pn, w, ρ1, hs, r1, e1, fun σ1 s1 t1 o1 => ⟨A, ρ1, F, Pn, ws, ρ', s1, r2, h, fun σ2 s2 t2 o2 => k σ2 s2 (t1.trans t2) (o1.trans o2)⟩⟩
/-- a tuple or a list, taken apart -/
theorem pg_or {t u : TG} (h1 : PG X e t) (h2 : PG X e u) : PG X e (fun v σ H Q => t v σ H Q ∨ u v σ H Q) := ⟨fun pins s σ H v w Q I r q => q.elim (h1.run pins s σ H v w Q I r) (h2.run pins s σ H v w Q I r)⟩
theorem g_tup {k : Nat} {l : Pt} (hc : X.calm = true) (hp : es.all plainE = true) (hl : ∀ w ρ ρ', asP l (.tup w) ρ = some ρ' → w.length = es.length) (h : PGs X es (gPs X.K l)) : PG X (.Tuple es k pos) (gP X.K (.t l)) := by
  refine pgImp (pg_or (pg_tup (n := es.length) hc h (each_len _ _) (each_star _ hp)) (pg_lst (n := es.length) hc h (each_len _ _) (each_star _ hp))) fun v σ H Q ⟨A, ρ, F, Pn, w, ρ', hs, r, h, q⟩ => ?_
  cases w with
  | tup ws =>
    obtain ⟨a, vs, rfl, sq, _, hr⟩ := r.tupI
    have h : asP l (.tup ws) ρ = some ρ' := h
    exact .inl ⟨a, vs, rfl, sq, by rw [hr.length]; exact hl _ _ _ h, A, ρ, F, Pn, ws, ρ', hs, hr, h, q⟩
  | lst ws =>
    obtain ⟨a, vs, rfl, sq, _, hr⟩ := (PkR.of r).lst
    have h : asP l (.tup ws) ρ = some ρ' := h
    exact .inr ⟨a, vs, rfl, sq, by rw [hr.length]; exact hl _ _ _ h, A, ρ, F, Pn, ws, ρ', hs, hr, h, q⟩
  | _ => cases h
end
end Py

namespace Py
open PySem PySem.Spec PyProof.Rows L2
variable [HW]
section
variable {K : PySem.W.Frag} {A : Nat → Option Addr} {σ σ' : Sg} {ρ ρ' : Env} {H H' : Hp} {F F' : Addr → Prop} {Pn : List (Addr × W)}
/-! ### a name is locked, and not -/
theorem sla_set {i : Nat} {w : W} {f g : Fl} (e : ρ[i]? = some (some (w, f))) (hf : f ≠ .sh) (hg : g ≠ .sh) (j : Nat) (a : Addr) : SlA σ (ρ.set i (some (w, g))) j a ↔ SlA σ ρ j a := by
  have hi := lt_of_get e
  constructor
  · rintro ⟨w', f', e', n', s'⟩
    rw [gets hi] at e'
    by_cases q : j = i
    · subst q; rw [if_pos rfl] at e'; cases e'; exact ⟨w, f, e, hf, s'⟩
    · rw [if_neg q] at e'; exact ⟨w', f', e', n', s'⟩
  · rintro ⟨w', f', e', n', s'⟩
    by_cases q : j = i
    · subst q; exact ⟨w, g, by rw [gets hi, if_pos rfl], hg, s'⟩
    · exact ⟨w', f', by rw [gets hi, if_neg q]; exact e', n', s'⟩
theorem SRel.flag (hs : SRel K A σ ρ H F Pn) {i : Nat} {w : W} {f g : Fl} (e : ρ[i]? = some (some (w, f))) (hf : f ≠ .sh) (hg : g ≠ .sh) (hio : (g = .io ∨ g = .ioL) → (f = .io ∨ f = .ioL)) : SRel K A σ (ρ.set i (some (w, g))) H F Pn := by
  have hi := lt_of_get e
  refine ⟨by simpa using hs.ln, fun j w' e' => ?_, fun j w' f' e' n => ?_, fun j w' f' e' q => ?_, fun j k a h1 h2 => hs.dj j k a ((sla_set e hf hg _ _).mp h1) ((sla_set e hf hg _ _).mp h2), fun p hp => ?_, hs.pd, hs.ff⟩
  · rw [gets hi] at e'
    by_cases q : j = i
    · rw [if_pos q] at e'; cases e'; exact absurd rfl hg
    · rw [if_neg q] at e'; exact hs.sh j w' e'
  · rw [gets hi] at e'
    by_cases q : j = i
    · rw [if_pos q] at e'; cases e'; subst q; exact hs.ow j w f e hf
    · rw [if_neg q] at e'; exact hs.ow j w' f' e' n
  · rw [gets hi] at e'
    by_cases z : j = i
    · rw [if_pos z] at e'; cases e'; subst z; exact hs.io j w f e (hio q)
    · rw [if_neg z] at e'; exact hs.io j w' f' e' q
  · obtain ⟨x, y, z⟩ := hs.pn p hp
    exact ⟨x, y, fun j s => z j ((sla_set e hf hg _ _).mp s)⟩
theorem ow_set {i : Nat} {w : W} {f g : Fl} {a : Addr} (e : ρ[i]? = some (some (w, f))) (h : (g = .own ∨ g = .ownL) → (f = .own ∨ f = .ownL)) (o : Ow σ (ρ.set i (some (w, g))) a) : Ow σ ρ a := by
  have hi := lt_of_get e
  obtain ⟨j, w', f', e', n', s'⟩ := o
  rw [gets hi] at e'
  by_cases q : j = i
  · rw [if_pos q] at e'; cases e'; subst q; exact ⟨j, w, f, e, h n', s'⟩
  · rw [if_neg q] at e'; exact ⟨j, w', f', e', n', s'⟩
theorem ow_lk1 {i : Nat} {a : Addr} (o : Ow σ (lkE1 ρ i) a) : Ow σ ρ a := by
  unfold lkE1 at o
  split at o
  · rename_i w e
    exact ow_set (wOf_eq.mp e) (fun _ => .inl rfl) o
  · rename_i w e
    exact ow_set (wOf_eq.mp e) (by intro h; rcases h with h | h <;> cases h) o
  · exact o
theorem ow_lk {a : Addr} : ∀ {as : List Arg} {ρ : Env}, Ow σ (lkE ρ as) a → Ow σ ρ a
  | [], _, h => h
  | .val _ _ :: as, _, h => ow_lk (as := as) h
  | .slot _ :: as, _, h => ow_lk1 (ow_lk (as := as) h)
theorem lk1_ok (hs : SRel K A σ ρ H F Pn) (i : Nat) : SRel K A σ (lkE1 ρ i) H F Pn ∧ (∀ j a, SlA σ (lkE1 ρ i) j a ↔ SlA σ ρ j a) ∧ (∀ a, Om σ (lkE1 ρ i) a → Om σ ρ a) ∧ ∀ a, SlA σ ρ i a → ¬ Om σ (lkE1 ρ i) a := by
  have main : ∀ {w : W} {f g : Fl}, ρ[i]? = some (some (w, f)) → f ≠ .sh → g ≠ .sh → ((g = .io ∨ g = .ioL) → (f = .io ∨ f = .ioL)) → (g ≠ .own ∧ g ≠ .io) →
      SRel K A σ (ρ.set i (some (w, g))) H F Pn ∧ (∀ j a, SlA σ (ρ.set i (some (w, g))) j a ↔ SlA σ ρ j a) ∧ (∀ a, Om σ (ρ.set i (some (w, g))) a → Om σ ρ a) ∧ ∀ a, SlA σ ρ i a → ¬ Om σ (ρ.set i (some (w, g))) a := fun {w f g} e hf hg hio hn => by
    have hi := lt_of_get e
    refine ⟨hs.flag e hf hg hio, sla_set e hf hg, fun a ⟨j, w', f', e', n', s'⟩ => ?_, fun a sl ⟨j, w', f', e', n', s'⟩ => ?_⟩
    · rw [gets hi] at e'
      by_cases q : j = i
      · rw [if_pos q] at e'; cases e'
        rcases n' with z | z
        · exact absurd z hn.1
        · exact absurd z hn.2
      · rw [if_neg q] at e'; exact ⟨j, w', f', e', n', s'⟩
    · rw [gets hi] at e'
      by_cases q : j = i
      · rw [if_pos q] at e'; cases e'
        rcases n' with z | z
        · exact absurd z hn.1
        · exact absurd z hn.2
      · rw [if_neg q] at e'
        exact q (hs.dj j i a ⟨w', f', e', by rcases n' with rfl | rfl <;> decide, s'⟩ sl)
  unfold lkE1
  split
  · rename_i w e
    exact main (wOf_eq.mp e) (by decide) (by decide) (by intro h; rcases h with h | h <;> cases h) ⟨by decide, by decide⟩
  · rename_i w e
    exact main (wOf_eq.mp e) (by decide) (by decide) (fun _ => .inl rfl) ⟨by decide, by decide⟩
  · rename_i h1 h2
    refine ⟨hs, fun _ _ => Iff.rfl, fun _ h => h, fun a sl ⟨j, w', f', e', n', s'⟩ => ?_⟩
    have : j = i := hs.dj j i a ⟨w', f', e', by rcases n' with rfl | rfl <;> decide, s'⟩ sl
    subst this
    rcases n' with rfl | rfl
    · exact h1 w' (wOf_eq.mpr e')
    · exact h2 w' (wOf_eq.mpr e')
theorem lk_ok : ∀ {as : List Arg} {ρ : Env}, SRel K A σ ρ H F Pn → SRel K A σ (lkE ρ as) H F Pn ∧ (∀ j a, SlA σ (lkE ρ as) j a ↔ SlA σ ρ j a) ∧ (∀ a, Om σ (lkE ρ as) a → Om σ ρ a) ∧ ∀ i a, .slot i ∈ as → SlA σ ρ i a → ¬ Om σ (lkE ρ as) a
  | [], ρ, hs => ⟨hs, fun _ _ => Iff.rfl, fun _ h => h, fun i a h => nomatch h⟩
  | .val w f :: as, ρ, hs => by
    obtain ⟨a, b, c, d⟩ := lk_ok (as := as) hs
    exact ⟨a, b, c, fun i x h s => d i x (by simpa using h) s⟩
  | .slot k :: as, ρ, hs => by
    obtain ⟨s1, b1, c1, d1⟩ := lk1_ok hs k
    obtain ⟨s2, b2, c2, d2⟩ := lk_ok (as := as) s1
    refine ⟨s2, fun j a => (b2 j a).trans (b1 j a), fun a h => c1 a (c2 a h), fun i x h s => ?_⟩
    by_cases q : i = k
    · subst q; exact fun z => d1 x s (c2 x z)
    · exact d2 i x (by simpa [q] using h) ((b1 i x).mpr s)
theorem lk_stp {as : List Arg} (hs : SRel K A σ ρ H F Pn) : Stp σ ρ H F σ (lkE ρ as) H F := by
  obtain ⟨s1, b1, c1, d1⟩ := lk_ok (as := as) hs
  exact ⟨fun _ _ h _ => h, fun _ h => h, fun _ _ _ h => .inl h, fun a o _ h => c1 a h, fun a o _ i h => (b1 i a).mp h, fun a o _ h => ow_lk h, fun _ o h => ⟨o, h⟩⟩
theorem ul_ok {ρ1 : Env} {H1 : Hp} {F1 : Addr → Prop} : ∀ {as : List Arg} {ρ3 : Env}, Stp σ ρ1 H1 F1 σ' ρ3 H F → SRel K A σ' ρ3 H F Pn → SRel K A σ' (ulE ρ1 ρ3 as) H F Pn ∧ Stp σ ρ1 H1 F1 σ' (ulE ρ1 ρ3 as) H F
  | [], ρ3, st, hs => ⟨hs, st⟩
  | .val _ _ :: as, ρ3, st, hs => ul_ok (as := as) st hs
  | .slot i :: as, ρ3, st, hs => by
    have main : ∀ {w u : W} {f g h : Fl}, ρ1[i]? = some (some (u, h)) → (h = .own ∨ h = .io) → ρ3[i]? = some (some (w, f)) → f ≠ .sh → (g = .own ∨ g = .io) → ((g = .io ∨ g = .ioL) → (f = .io ∨ f = .ioL)) → ((g = .own ∨ g = .ownL) → (f = .own ∨ f = .ownL)) →
        SRel K A σ' (ρ3.set i (some (w, g))) H F Pn ∧ Stp σ ρ1 H1 F1 σ' (ρ3.set i (some (w, g))) H F := fun {w u f g h} e1 hh e3 hf hg hio hown => by
      have hg' : g ≠ .sh := by rcases hg with rfl | rfl <;> decide
      have hi := lt_of_get e3
      refine ⟨hs.flag e3 hf hg' hio, st.kp, st.fr, st.nf, fun a o k z => ?_, fun a o k j z => st.ns a o k j ((sla_set e3 hf hg' _ _).mp z), fun a o k z => st.nw a o k (ow_set e3 hown z), st.al⟩
      obtain ⟨j, w', f', e', n', s'⟩ := z
      by_cases q : j = i
      · subst q
        have sl : SlA σ' ρ3 j a := ⟨w, f, e3, hf, s'⟩
        obtain ⟨w2, f2, e2, n2, s2⟩ := st.ns a o k j sl
        rw [e1] at e2; cases e2
        exact ⟨j, u, h, e1, hh, s2⟩
      · rw [gets hi, if_neg q] at e'
        exact st.no a o k ⟨j, w', f', e', n', s'⟩
    have one : SRel K A σ' (ulE1 ρ1 ρ3 i) H F Pn ∧ Stp σ ρ1 H1 F1 σ' (ulE1 ρ1 ρ3 i) H F := by
      unfold ulE1
      split
      · rename_i h1 h2
        exact main (wOf_eq.mp h1) (.inl rfl) (wOf_eq.mp h2) (by decide) (.inl rfl) (by intro h; rcases h with h | h <;> cases h) (fun _ => .inr rfl)
      · rename_i h1 h2
        exact main (wOf_eq.mp h1) (.inr rfl) (wOf_eq.mp h2) (by decide) (.inr rfl) (fun _ => .inr rfl) (by intro h; rcases h with h | h <;> cases h)
      · exact ⟨hs, st⟩
    exact ul_ok (as := as) one.2 one.1

/-! ### iterators -/
/-- J walks ws, from the point (σ, ρ, H, F) on -/
structure ItG (K : PySem.W.Frag) (σ : Sg) (ρ : Env) (H : Hp) (F : Addr → Prop) (J : It) (ws : List W) : Prop where
  go : ∀ i H2 F2 σ2 ρ2, Stp σ ρ H F σ2 ρ2 H2 F2 → i < ws.length → J.go i H2
  yl : ∀ (i : Nat) H2 F2 σ2 ρ2 x H', Stp σ ρ H F σ2 ρ2 H2 F2 → i < ws.length → J.yld i H2 x H' → ∃ w, ws[i]? = some w ∧ Nw K H2 F2 x H' w false
  st : ∀ i H2 F2 σ2 ρ2, Stp σ ρ H F σ2 ρ2 H2 F2 → ws.length ≤ i → J.stop i H2
theorem rd_later {a : Addr} {u : HO} {σ2 : Sg} {ρ2 : Env} {H2 : Hp} {F2 : Addr → Prop} (st : Stp σ ρ H F σ2 ρ2 H2 F2) (n : ¬ Om σ ρ a) (h : Rd H a u) : Rd H2 a u := by
  rcases h with h | ⟨o, h⟩
  · exact .inl (st.kp _ _ h n)
  · exact .inr ⟨o, st.kp _ _ h n⟩
theorem rd_inj {a : Addr} {xs ys : List V} (h : SqL K H a xs) (r : Rd H a (.lst ys)) : SqL K H a xs := h
/-- the list that is read -/
theorem itg_list (hs : SRel K A σ ρ H F Pn) {a : Addr} {us : List V} {ws : List W} (r : Rd H a (.lst us)) (n : ¬ Om σ ρ a) (hr : HRs K H F us ws) : ItG K σ ρ H F (Itl K a) ws where
  go := fun i H2 F2 σ2 ρ2 st hi => by
    have hl := hr.length
    exact ⟨us, us[i]'(by omega), .inl (rd_later st n r), by simp⟩
  yl := fun i H2 F2 σ2 ρ2 x H' st hi y => by
    obtain ⟨rfl, y⟩ := y
    obtain ⟨w, e, q⟩ := (st.hrs hs hr).getV (y us (.inl (rd_later st n r)))
    exact ⟨w, e, .old q⟩
  st := fun i H2 F2 σ2 ρ2 st hi => ⟨us, .inl (rd_later st n r), by rw [hr.length]; exact hi⟩
theorem itg_tup (hs : SRel K A σ ρ H F Pn) {a : Addr} {us : List V} {ws : List W} (r : SqT K H a us) (hr : HRs K H F us ws) : ItG K σ ρ H F (Itt K a) ws where
  go := fun i H2 F2 σ2 ρ2 st hi => by
    have hl := hr.length
    exact ⟨us, us[i]'(by omega), st.sqt hs a us r, by simp⟩
  yl := fun i H2 F2 σ2 ρ2 x H' st hi y => by
    obtain ⟨rfl, y⟩ := y
    obtain ⟨w, e, q⟩ := (st.hrs hs hr).getV (y us (st.sqt hs a us r))
    exact ⟨w, e, .old q⟩
  st := fun i H2 F2 σ2 ρ2 st hi => ⟨us, st.sqt hs a us r, by rw [hr.length]; exact hi⟩
theorem rev_get {α : Type} {l : List α} {i : Nat} (h : i < l.length) : l.reverse[i]? = l[l.length - 1 - i]? := List.getElem?_reverse h
theorem itg_revL (hs : SRel K A σ ρ H F Pn) {a : Addr} {us : List V} {ws : List W} (r : Rd H a (.lst us)) (n : ¬ Om σ ρ a) (hr : HRs K H F us ws) : ItG K σ ρ H F (Itv K a us.length) ws.reverse where
  go := fun i H2 F2 σ2 ρ2 st hi => by
    have hl := hr.length
    rw [List.length_reverse] at hi
    exact ⟨by omega, us, us[us.length - 1 - i]'(by omega), .inl (rd_later st n r), by simp⟩
  yl := fun i H2 F2 σ2 ρ2 x H' st hi y => by
    have hl := hr.length
    rw [List.length_reverse] at hi
    obtain ⟨rfl, y⟩ := y
    obtain ⟨w, e, q⟩ := (st.hrs hs hr).getV (y us (.inl (rd_later st n r)))
    exact ⟨w, by rw [rev_get hi, ← hl]; exact e, .old q⟩
  st := fun i H2 F2 σ2 ρ2 st hi => by
    show us.length ≤ i
    rw [List.length_reverse] at hi
    rw [hr.length]; exact hi
theorem itg_revT (hs : SRel K A σ ρ H F Pn) {a : Addr} {us : List V} {ws : List W} (r : SqT K H a us) (hr : HRs K H F us ws) : ItG K σ ρ H F (RT.ItvT K a us.length) ws.reverse where
  go := fun i H2 F2 σ2 ρ2 st hi => by
    have hl := hr.length
    rw [List.length_reverse] at hi
    exact ⟨by omega, us, us[us.length - 1 - i]'(by omega), st.sqt hs a us r, by simp⟩
  yl := fun i H2 F2 σ2 ρ2 x H' st hi y => by
    have hl := hr.length
    rw [List.length_reverse] at hi
    obtain ⟨rfl, y⟩ := y
    obtain ⟨w, e, q⟩ := (st.hrs hs hr).getV (y us (st.sqt hs a us r))
    exact ⟨w, by rw [rev_get hi, ← hl]; exact e, .old q⟩
  st := fun i H2 F2 σ2 ρ2 st hi => by
    show us.length ≤ i
    rw [List.length_reverse] at hi
    rw [hr.length]; exact hi
theorem rng_len : ∀ (n : Nat) (a : Int), (rngL n a).length = n
  | 0, _ => rfl
  | n + 1, a => by simp [rngL, rng_len n (a + 1)]
theorem rng_get : ∀ (n : Nat) (a : Int) (i : Nat), i < n → (rngL n a)[i]? = some (.int (a + i))
  | 0, _, _, h => by omega
  | n + 1, a, 0, _ => by simp [rngL]
  | n + 1, a, i + 1, h => by
    simp only [rngL, List.getElem?_cons_succ]
    rw [rng_get n (a + 1) i (by omega)]
    congr 2
    omega
theorem itg_rng {lo : Int} {n : Nat} : ItG K σ ρ H F (Itr lo n) (rngL n lo) where
  go := fun i H2 F2 σ2 ρ2 st hi => by rw [rng_len] at hi; exact hi
  yl := fun i H2 F2 σ2 ρ2 x H' st hi y => by
    obtain ⟨rfl, rfl⟩ := y
    rw [rng_len] at hi
    exact ⟨_, rng_get n lo i hi, .old (.int _)⟩
  st := fun i H2 F2 σ2 ρ2 st hi => by rw [rng_len] at hi; exact hi
theorem enu_len : ∀ (n : Nat) (ws : List W), (enuL n ws).length = ws.length
  | _, [] => rfl
  | n, w :: ws => by simp [enuL, enu_len (n + 1) ws]
theorem enu_get : ∀ (n : Nat) (ws : List W) (i : Nat) (w : W), ws[i]? = some w → (enuL n ws)[i]? = some (.tup [.int ((n + i : Nat) : Int), w])
  | _, [], i, w, h => by simp at h
  | n, x :: ws, 0, w, h => by simp at h; subst h; simp [enuL]
  | n, x :: ws, i + 1, w, h => by
    simp only [enuL, List.getElem?_cons_succ]
    rw [enu_get (n + 1) ws i w (by simpa using h), show n + 1 + i = n + (i + 1) by omega]
theorem two_new {T : Addr} {x y : V} {w z : W} (hT : H T = none) (a : HR K H F x w) (b : HR K H F y z) : Nw K H F (.ref T) (upd H T (.tup [x, y])) (.tup [w, z]) false :=
  .tup hT (by simp [szL]) (.cons a (.one b))
theorem itg_enu (hs : SRel K A σ ρ H F Pn) {a : Addr} {us : List V} {ws : List W} (r : Rd H a (.lst us)) (n : ¬ Om σ ρ a) (hr : HRs K H F us ws) : ItG K σ ρ H F (Ite K a) (enuL 0 ws) where
  go := fun i H2 F2 σ2 ρ2 st hi => by
    have hl := hr.length
    rw [enu_len] at hi
    exact ⟨us, us[i]'(by omega), .inl (rd_later st n r), by simp⟩
  yl := fun i H2 F2 σ2 ρ2 x H' st hi y => by
    obtain ⟨T, y, rfl, hT, rfl, q⟩ := y
    obtain ⟨w, e, k⟩ := (st.hrs hs hr).getV (q us (.inl (rd_later st n r)))
    exact ⟨_, enu_get 0 ws i w e, by simpa using two_new hT (HR.int (i : Int)) k⟩
  st := fun i H2 F2 σ2 ρ2 st hi => ⟨us, .inl (rd_later st n r), by rw [enu_len] at hi; rw [hr.length]; exact hi⟩
theorem zip2_len : ∀ (xs ys : List W), (zip2 xs ys).length = min xs.length ys.length
  | [], ys => by simp [zip2]
  | _ :: _, [] => by simp [zip2]
  | x :: xs, y :: ys => by simp [zip2, zip2_len xs ys]
theorem zip2_get : ∀ (xs ys : List W) (i : Nat) (x y : W), xs[i]? = some x → ys[i]? = some y → (zip2 xs ys)[i]? = some (.tup [x, y])
  | [], _, _, _, _, h, _ => by simp at h
  | _ :: _, [], _, _, _, _, h => by simp at h
  | x :: xs, y :: ys, 0, _, _, h, h' => by simp at h h'; subst h; subst h'; simp [zip2]
  | x :: xs, y :: ys, i + 1, _, _, h, h' => by
    simp only [zip2, List.getElem?_cons_succ]
    exact zip2_get xs ys i _ _ (by simpa using h) (by simpa using h')
theorem itg_zip (hs : SRel K A σ ρ H F Pn) {a b : Addr} {us vs : List V} {ws zs : List W} (r : Rd H a (.lst us)) (n : ¬ Om σ ρ a) (hr : HRs K H F us ws) (r' : Rd H b (.lst vs)) (n' : ¬ Om σ ρ b) (hr' : HRs K H F vs zs) : ItG K σ ρ H F (Itz K a b) (zip2 ws zs) where
  go := fun i H2 F2 σ2 ρ2 st hi => by
    have hl := hr.length
    have hl' := hr'.length
    rw [zip2_len] at hi
    exact ⟨us, vs, us[i]'(by omega), vs[i]'(by omega), .inl (rd_later st n r), .inl (rd_later st n' r'), by simp, by simp⟩
  yl := fun i H2 F2 σ2 ρ2 x H' st hi y => by
    obtain ⟨T, y, z, rfl, hT, rfl, q, q'⟩ := y
    obtain ⟨w, e, k⟩ := (st.hrs hs hr).getV (q us (.inl (rd_later st n r)))
    obtain ⟨w', e', k'⟩ := (st.hrs hs hr').getV (q' vs (.inl (rd_later st n' r')))
    exact ⟨_, zip2_get ws zs i w w' e e', two_new hT k k'⟩
  st := fun i H2 F2 σ2 ρ2 st hi => ⟨us, vs, .inl (rd_later st n r), .inl (rd_later st n' r'), by rw [zip2_len] at hi; rw [hr.length, hr'.length]; omega⟩
theorem itg_zipT (hs : SRel K A σ ρ H F Pn) {a b : Addr} {us vs : List V} {ws zs : List W} (r : SqT K H a us) (hr : HRs K H F us ws) (r' : SqT K H b vs) (hr' : HRs K H F vs zs) : ItG K σ ρ H F (RZ.ItzT K a b) (zip2 ws zs) where
  go := fun i H2 F2 σ2 ρ2 st hi => by
    have hl := hr.length
    have hl' := hr'.length
    rw [zip2_len] at hi
    exact ⟨us, vs, us[i]'(by omega), vs[i]'(by omega), st.sqt hs _ _ r, st.sqt hs _ _ r', by simp, by simp⟩
  yl := fun i H2 F2 σ2 ρ2 x H' st hi y => by
    obtain ⟨T, y, z, rfl, hT, rfl, q, q'⟩ := y
    obtain ⟨w, e, k⟩ := (st.hrs hs hr).getV (q us (st.sqt hs _ _ r))
    obtain ⟨w', e', k'⟩ := (st.hrs hs hr').getV (q' vs (st.sqt hs _ _ r'))
    exact ⟨_, zip2_get ws zs i w w' e e', two_new hT k k'⟩
  st := fun i H2 F2 σ2 ρ2 st hi => ⟨us, vs, st.sqt hs _ _ r, st.sqt hs _ _ r', by rw [zip2_len] at hi; rw [hr.length, hr'.length]; omega⟩

/-- the list of an argument that is walked: it stands still while the names are locked -/
theorem arg_list (hs : SRel K A σ ρ H F Pn) {as : List Arg} {u : Arg} {v : V} {ws : List W} (hm : u ∈ as) (hp : ∀ p ∈ pnd u v, p ∈ Pn) (ar : AR K σ H F u v) (e : res ρ u = some (.lst ws)) :
    ∃ a us, v = .ref a ∧ Rd H a (.lst us) ∧ HRs K H F us ws ∧ ¬ Om σ (lkE ρ as) a := by
  obtain ⟨l1, l2, l3, l4⟩ := lk_ok (as := as) hs
  have frz : ∀ {v : V}, HR K H F v (.lst ws) → ∃ a us, v = .ref a ∧ Rd H a (.lst us) ∧ HRs K H F us ws ∧ ¬ Om σ (lkE ρ as) a := fun {v} h => by
    cases h with
    | lst f r z q => exact ⟨_, _, rfl, r, q, fun o => (l1.omc o).1 f⟩
  cases u with
  | val w fr =>
    obtain rfl : w = .lst ws := Option.some.inj e
    cases fr with
    | false => exact frz ar
    | true =>
      obtain ⟨c, rfl⟩ := ar
      obtain ⟨x, ⟨us, y1, y2, y3⟩, z⟩ := hs.pn (c, .lst ws) (hp _ (by simp [pnd]))
      refine ⟨c, us, rfl, .inl y1, y3, fun o => ?_⟩
      obtain ⟨i, s⟩ := (l3 c o).sl
      exact z i s
  | slot i =>
    simp only [res] at e
    cases q : wOf ρ i with
    | none => rw [q] at e; cases e
    | some x =>
      rw [q] at e
      obtain ⟨w, f⟩ := x
      obtain rfl : w = .lst ws := Option.some.inj e
      have q' := wOf_eq.mp q
      have ar' : σ[i]? = some (some v) := ar
      by_cases hf : f = .sh
      · subst hf
        obtain ⟨v', a, b⟩ := hs.sh i _ q'
        rw [ar'] at a; cases a
        exact frz b
      · obtain ⟨c, ec, nF, us, y1, y2, y3⟩ := hs.ow i _ f q' hf
        rw [ar'] at ec; cases ec
        exact ⟨c, us, rfl, .inl y1, y3, l4 i c hm ⟨_, f, q', hf, ar'⟩⟩
end
end Py

namespace Py
open PySem PySem.Spec PyProof.Rows L2
/-! ### enumerate of a tuple -/
theorem en1_meets {v : Value} {ob : Obj} {Hs : Heap → Prop} (B : Begins v ob Hs) : Meets (Builtin.«enumerate.__new__» ⟨[.type "enumerate", v], []⟩) (fun _ R s => Hs s.heap ∧
      R (.ok (.ret (.ref (s.heap.push ob).objs.size))) { s with heap := (s.heap.push ob).push { cls := .type "enumerate", data := .fields #[.none, .bool false, .ref s.heap.objs.size, rawInt 0, .none, .none] } }) :=
  .of_wp fun prog w A R s h => by
    obtain ⟨hp, g, d, tk, os⟩ := s; obtain ⟨hB, h⟩ := h
    have hs := sub_enumerate
    have wk : ∀ {A' : Around} {E : Value → Shared → Prop} {Q : Value → Shared → Prop}, Q (.ref hp.objs.size) ⟨hp.push ob, g, d, tk, os⟩ → wpAny (model prog w) A' (pyIter v) Q E ⟨hp, g, d, tk, os⟩ := fun q => B.iter prog w _ _ ⟨hp, g, d, tk, os⟩ _ hB q
    wp_walk using wk
    refine wpAny_stack_any fun _ => wpAny_pure ?_
    split
    · rename_i cl _ _ _ _ _
      cases (cl == Value.type "enumerate") <;> (wp_walk using wk; exact ⟨_, rfl, h⟩)
    · (wp_walk using wk; exact ⟨_, rfl, h⟩)
section
variable {prog : Program} {w : World} {A : Around} {E : Value → Shared → Prop} {s : Shared}
theorem en1_call {v : Value} {ob : Obj} {Hs : Heap → Prop} {Q : Value → Shared → Prop} (B : Begins v ob Hs) (hB : Hs s.heap)
    (h : ∀ h', IsEnum h' (s.heap.objs.size + 1) s.heap.objs.size 0 .none → h'.get? s.heap.objs.size = some ob → h'.objs.size = s.heap.objs.size + 2 → (∀ b o, s.heap.get? b = some o → h'.get? b = some o) → Q (.ref (s.heap.objs.size + 1)) { s with heap := h' }) :
    wpAny (model prog w) A (call (.type "enumerate") [v]) Q E s := by
  refine callType_new F.called_enumerate (by decide) (F.typeCall_enumerate_1 _) (F.newCall_enumerate_1 _) (fun obj => F.args_object_init_2 obj _) F.entry_enumerate_new (en1_meets B) ⟨hB, ?_⟩
  have hz : (s.heap.push ob).objs.size = s.heap.objs.size + 1 := Heap.size_push ..
  show _ ∧ _
  rw [hz]
  have en : IsEnum ((s.heap.push ob).push { cls := .type "enumerate", data := .fields #[.none, .bool false, .ref s.heap.objs.size, rawInt 0, .none, .none] }) (s.heap.objs.size + 1) s.heap.objs.size 0 .none := by
    have z := Heap.get?_push_size (s.heap.push ob) (o := { cls := .type "enumerate", data := .fields #[.none, .bool false, .ref s.heap.objs.size, rawInt 0, .none, .none] }) rfl
    rw [hz] at z; exact z
  exact ⟨⟨_, en, rfl⟩, h _ en (Heap.get?_push_of_some _ (Heap.get?_push_size _ B.free)) (by rw [Heap.size_push, hz]) fun _ _ x => Heap.get?_push_of_some _ (Heap.get?_push_of_some _ x)⟩
end
/-- the tuple at a, each item in a new pair -/
def IteT (K : PySem.W.Frag) (a : Addr) : It :=
  ⟨fun i H => ∃ (xs : List V) (x : V), SqT K H a xs ∧ xs[i]? = some x, fun i H v H' => ∃ T x, v = .ref T ∧ H T = none ∧ H' = upd H T (.tup [.int (i : Nat), x]) ∧ ∀ xs, SqT K H a xs → xs[i]? = some x, fun i H => ∃ xs : List V, SqT K H a xs ∧ xs.length ≤ i⟩
theorem en_ne {h : Heap} {a e it : Addr} {c : Int} {old : Value} {items : Array Value} (he : IsEnum h e it c old) (ht : h.IsTuple a items) : a ≠ e := by
  rintro rfl
  obtain ⟨o, e1, e2, _⟩ := ht
  have : h.get? a = _ := he
  rw [e1] at this
  cases this
  exact absurd (Value.type.inj e2) (by decide)
theorem ti_ne {h : Heap} {a it : Addr} {i : Nat} {items : Array Value} (hi : h.IsTupleIter it a i) (ht : h.IsTuple a items) : a ≠ it := by
  rintro rfl
  obtain ⟨o, e1, e2, _⟩ := ht
  obtain ⟨o', e3, e4, _⟩ := hi
  rw [e1] at e3
  cases e3
  rw [e2] at e4
  exact absurd (Value.type.inj e4) (by decide)
theorem turn_enumT {P : Program} {w : World} {K : PySem.W.Frag} {elts : List Expr} {kk : Nat} {tpos : Pos} (a e it : Addr) :
    Turn P w K (.Tuple elts kk tpos) (IteT K a) [e, it] e (fun i h => (∃ old, IsEnum h e it ((i : Nat) : Int) old) ∧ h.IsTupleIter it a i ∧ e ≠ it) where
  mem := by simp
  obj := fun i h st b hb => by
    obtain ⟨⟨old, he⟩, ⟨o, ho, hc, hd⟩, _⟩ := st
    have e' : b = e ∨ b = it := by simpa using hb
    rcases e' with z | z
    · rw [z]; exact ⟨_, he, fun v q => nomatch q⟩
    · rw [z]; exact ⟨o, ho, fun v q => by rw [hd] at q; cases q⟩
  keep := fun i h h' st k => let ⟨⟨old, he⟩, hi, hne⟩ := st; ⟨⟨old, k e (by simp) _ he⟩, hi.at fun o q => k it (by simp) o q, hne⟩
  item := by
    intro X hP hw hK hc i pins s σ H E I hf st hg
    subst hP hw hK
    obtain ⟨⟨old, he⟩, hit, hne⟩ := st
    obtain ⟨xs, x, hq, hx⟩ := hg
    obtain ⟨its, rv, p, hz⟩ := I.tuple hq
    have pt : s.heap.IsTuple a its.toArray := p
    obtain ⟨u, hu, ru⟩ := rv.get hx
    have hel : e < s.heap.objs.size := Heap.lt_size he
    have hil : it < s.heap.objs.size := by obtain ⟨_, q, _⟩ := hit; exact Heap.lt_size q
    have ane := en_ne he pt
    have ait := ti_ne hit pt
    have hlt : i < its.toArray.size := by rw [List.size_toArray]; exact (List.getElem?_eq_some_iff.mp hu).1
    refine wpAny_pyNext_enum_itemD (Draws.tuple (A := X.A.in1) (show X.A.in1.handled = none from I.ok.hd hc) it a ait its.toArray) he ⟨hit, pt⟩ hlt hne (by simp [hne, Ne.symm ane]) fun x' h' tk hP ho hs' hT hsz hk => ?_
    have ex : x' = u := by
      have z : its[i]? = some x' := by simpa using hP
      rw [hu] at z
      exact (Option.some.inj z).symm
    subst ex
    refine ⟨_, rfl, wpAny_letOwnedTupleGo_enum (s := { s with heap := h', toks := tk + 1 }) ho fun h'' he' sb => ?_⟩
    have hT2 : h''.get? s.heap.objs.size = some { cls := .type "tuple", data := .seq #[.int i tk, x'] } := (sb.2 _ (Nat.ne_of_gt hel)).trans hT
    have new : ObjOk X.prog X.w (upd H s.heap.objs.size (.tup [.int (i : Nat), x])) h'' s.heap.objs.size (.tup [.int (i : Nat), x]) :=
      ⟨by show 2 ≤ sizeLine; decide, [.int i tk, x'], .cons ⟨_, rfl⟩ (.cons ru .nil), ⟨_, hT2, rfl, _, rfl⟩⟩
    have I1 : Inv X pins σ (upd H s.heap.objs.size (.tup [.int (i : Nat), x])) { s with heap := h'', toks := tk + 1 } :=
      I.turnedNew (ch := [e, it]) (fun b ob hb q => (sb.2 b (fun z => hb (by simp [z]))).trans (hk b ob (fun z => hb (by simp [z])) (fun z => hb (by simp [z])) q)) hf (Nat.le_refl _) new
    refine ⟨.ref s.heap.objs.size, _, I1, rfl, ⟨_, x, rfl, I.hok.fresh (Nat.le_refl _), rfl, fun ys hy => by rw [I.tuple_inj hy hq]; exact hx⟩, ⟨⟨x', ?_⟩, hs'.1.at fun o q => (sb.2 it (Ne.symm hne)).trans q, hne⟩, fun b hb => ?_⟩
    · rw [show ((i + 1 : Nat) : Int) = (i : Int) + 1 by omega]; exact he'
    · have hb' : b < s.heap.objs.size := by
        have e' : b = e ∨ b = it := by simpa using hb
        rcases e' with z | z
        · rw [z]; exact hel
        · rw [z]; exact hil
      rw [upd_ne (Nat.ne_of_lt hb')]
      exact (hf b hb).1
  done := by
    intro X hP hw hK hc i pins s σ H E I hf st hg
    subst hP hw hK
    obtain ⟨⟨old, he⟩, hit, hne⟩ := st
    obtain ⟨xs, hq, hx⟩ := hg
    obtain ⟨its, rv, p, hz⟩ := I.tuple hq
    have pt : s.heap.IsTuple a its.toArray := p
    obtain ⟨f0, f1, f2, f3, f4, f5⟩ := hf it (by simp)
    have ait := ti_ne hit pt
    have D : Draws X.prog X.w X.A.in1 it [it, a] i (fun j v => its.toArray[j]? = some v) (fun j h => (j = i → h.IsTupleIter it a i) ∧ (j < i → False) ∧ h.IsTuple a its.toArray ∧ h.IsTupleIter it a i) :=
      { live := fun j h st => let ⟨o, ho, _⟩ := st.2.2.2; ⟨o, ho⟩
        frame := fun j h h' st k => ⟨fun q => (st.1 q).at fun o e => k it (by simp) o e, st.2.1, st.2.2.1.at fun o e => k a (by simp) o e, st.2.2.2.at fun o e => k it (by simp) o e⟩
        item := fun j s Q E hj st _ => (st.2.1 hj).elim
        done := fun s Q E st hE => wpAny_nextOf_tuple_end (show X.A.in1.handled = none from I.ok.hd hc) st.2.2.2 st.2.2.1 (by have hl := rv.length; simp; omega) hE }
    exact wpAny_pyNext_enum_endD D he ⟨fun _ => hit, fun z => absurd z (Nat.lt_irrefl _), pt, hit⟩ fun h' eb => ⟨rfl, I.turned (t' := s.toks) (fun b o hb q => eb b o hb q) f0 f1 f3 f4 f5⟩
  self := fun A i s Q E st h => let ⟨⟨_, he⟩, _⟩ := st; wpAny_pyIter_enum he h
def iEnA (K : PySem.W.Frag) (ta : TA) : TI := fun σ H R => ta σ H fun vs H1 => ∃ a, vs = [.ref a] ∧ (((∃ xs, SqL K H1 a xs) ∧ R (Ite K a) H1) ∨ ((∃ xs, SqT K H1 a xs) ∧ R (IteT K a) H1))
theorem pi_enA {X : Cx} {e : Expr} {ta : TA} {p pos tpos : Pos} {elts : List Expr} {kk : Nat} (hg : Gl X "enumerate") (hm : X.mg "enumerate" = none) (ha : PA X [e] ta) (hs : starEach [e] X.env = [(false, eval e X.env)]) :
    PI X (.Tuple elts kk tpos) (.Call (.Name "enumerate" p) [e] [] pos) (iEnA X.K ta) := by
  refine ⟨fun pins s σ H R I h => ?_⟩
  refine Call_ (ld_blt I hg hm boot_enumerate (PyProof.Rows.callWith_type1 (thn (ha.run pos pins s σ H _ I h) fun us s1 ⟨vs, H1, I1, r1, q1⟩ => ?_) hs rfl))
  obtain ⟨a, ex, q⟩ := q1
  subst ex
  cases r1 with
  | cons r rr =>
    cases rr
    cases r
    have out : ∀ b ∈ [s1.heap.objs.size + 1, s1.heap.objs.size], s1.heap.objs.size ≤ b := fun b hb => by
      have e' : b = s1.heap.objs.size + 1 ∨ b = s1.heap.objs.size := by simpa using hb
      rcases e' with z | z <;> rw [z] <;> omega
    rcases q with ⟨⟨xs, hq⟩, q⟩ | ⟨⟨xs, hq⟩, q⟩
    · obtain ⟨its, rv, p', hz⟩ := I1.list hq
      refine call_enumerate_list p'.isList fun h' he hit hsz hk => wpAny_pyIter_enum he ?_
      exact ⟨s1.heap.objs.size + 1, [s1.heap.objs.size + 1, s1.heap.objs.size], _, _, H1, rfl, I1.kept (t' := s1.toks) hk, turn_enum a (s1.heap.objs.size + 1) s1.heap.objs.size, ⟨⟨.none, he⟩, hit, Nat.succ_ne_self _⟩, fun b hb => I1.fpOk (out b hb) (I1.hok.fresh (out b hb)), q⟩
    · obtain ⟨its, rv, p', hz⟩ := I1.tuple hq
      refine en1_call (begins_tuple a its.toArray) (show s1.heap.IsTuple a its.toArray from p') fun h' he hob hsz hk => wpAny_pyIter_enum he ?_
      exact ⟨s1.heap.objs.size + 1, [s1.heap.objs.size + 1, s1.heap.objs.size], _, _, H1, rfl, I1.kept (t' := s1.toks) hk, turn_enumT a (s1.heap.objs.size + 1) s1.heap.objs.size, ⟨⟨.none, he⟩, ⟨_, hob, rfl, rfl⟩, Nat.succ_ne_self _⟩, fun b hb => I1.fpOk (out b hb) (I1.hok.fresh (out b hb)), q⟩
section
variable [HW] {K : PySem.W.Frag} {A : Nat → Option Addr} {σ : Sg} {ρ : Env} {H : Hp} {F : Addr → Prop} {Pn : List (Addr × W)}
theorem itg_enuT (hs : SRel K A σ ρ H F Pn) {a : Addr} {us : List V} {ws : List W} (r : SqT K H a us) (hr : HRs K H F us ws) : ItG K σ ρ H F (IteT K a) (enuL 0 ws) where
  go := fun i H2 F2 σ2 ρ2 st hi => by
    have hl := hr.length
    rw [enu_len] at hi
    exact ⟨us, us[i]'(by omega), st.sqt hs a us r, by simp⟩
  yl := fun i H2 F2 σ2 ρ2 x H' st hi y => by
    obtain ⟨T, x', rfl, hT, rfl, y⟩ := y
    obtain ⟨w, e, q⟩ := (st.hrs hs hr).getV (y us (st.sqt hs a us r))
    exact ⟨_, by have := enu_get 0 ws i w e; simpa using this, two_new hT (.int _) q⟩
  st := fun i H2 F2 σ2 ρ2 st hi => ⟨us, st.sqt hs a us r, by rw [hr.length]; rw [enu_len] at hi; exact hi⟩
end
end Py

/-! Walks of a dict: its keys, its values, its pairs. -/
namespace Py
open PySem PySem.Spec PyProof.Rows L2
variable [HW]
/-- the dict as it stands -/
theorem dc_at {X : Cx} {pins : List (Addr × Obj)} {s : Shared} {σ : Sg} {H : Hp} (I : Inv X pins σ H s) {a : Addr} {es : DEs} {ep : Nat} (hH : H a = some (dcO a es ep)) :
    (a == sysModules) = false ∧ ∃ o l, s.heap.get? a = some o ∧ o.ExactDict ∧ o.data = .dict l ep ∧ EntR es l.toList ∧ l.size = es.length := by
  obtain ⟨⟨h1, o, l, h2, h3, h4, h5⟩, _⟩ := I.hok a _ hH
  exact ⟨h1, o, l, h2, h3, h4, h5, by rw [← h5.length, Array.length_toList]⟩
theorem EntR.at {es : DEs} {l : List DictEntry} (h : EntR es l) : ∀ {i : Nat} {k : NestedKey} {x v : V}, es[i]? = some (k, x, v) → ∃ e, l[i]? = some e ∧ RelV x e.key ∧ RelV v e.val := by
  induction h with
  | nil => intro i k x v e; simp at e
  | cons a b _ ih =>
    intro i k x v e
    cases i with
    | zero => simp at e; obtain ⟨_, rfl, rfl⟩ := e; exact ⟨_, rfl, a, b⟩
    | succ i => simpa using ih (by simpa using e)
def ItDk (d : Addr) (es : DEs) (ep : Nat) : It :=
  ⟨fun i H => H d = some (dcO d es ep) ∧ i < es.length, fun i H x H' => H' = H ∧ ∃ k v, es[i]? = some (k, x, v), fun i H => H d = some (dcO d es ep) ∧ es.length ≤ i⟩
def ItDv (d : Addr) (es : DEs) (ep : Nat) : It :=
  ⟨fun i H => H d = some (dcO d es ep) ∧ i < es.length, fun i H x H' => H' = H ∧ ∃ k y, es[i]? = some (k, y, x), fun i H => H d = some (dcO d es ep) ∧ es.length ≤ i⟩
def ItDi (d : Addr) (es : DEs) (ep : Nat) : It :=
  ⟨fun i H => H d = some (dcO d es ep) ∧ i < es.length, fun i H x H' => ∃ T k y v, es[i]? = some (k, y, v) ∧ x = .ref T ∧ H T = none ∧ H' = upd H T (.tup [y, v]), fun i H => H d = some (dcO d es ep) ∧ es.length ≤ i⟩
section
variable {P : Program} {w : World} {K : PySem.W.Frag} {tg : Expr} {d : Addr} {es : DEs} {ep : Nat}
theorem turn_dk (it : Addr) : Turn P w K tg (ItDk d es ep) [it] it (fun i h => h.IsKeyIter it d i es.length ep) where
  mem := by simp
  obj := fun i h st b hb => by
    have e : b = it := by simpa using hb
    subst e
    obtain ⟨oi, e, c, dd⟩ := st
    exact ⟨oi, e, fun v z => by rw [dd] at z; cases z⟩
  keep := fun i h h' st k => st.at fun oi e => k it (by simp) oi e
  item := by
    intro X hP hw hK hc i pins s σ H E I hf st hg
    subst hP hw hK
    obtain ⟨hd, hi⟩ := hg
    obtain ⟨f0, f1, f2, f3, f4, f5⟩ := hf it (by simp)
    obtain ⟨hs, o, l, h2, h3, h4, h5, h6⟩ := dc_at I hd
    obtain ⟨⟨k, x, v⟩, hkv⟩ : ∃ p, es[i]? = some p := ⟨es[i], List.getElem?_eq_getElem hi⟩
    obtain ⟨en, hen, hkey, _⟩ := h5.at hkv
    refine next_key_item st h2 h4 h6 (by rw [← Array.getElem?_toList]; exact hen) fun h' st' sb => ?_
    have I1 : Inv X pins σ H { s with heap := h' } := I.turned (t' := s.toks) (fun b ob hb e => (sb.2 b hb).trans e) f0 f1 f3 f4 f5
    obtain ⟨oi, e, c, dd⟩ := id st'
    exact ⟨en.key, rfl, go_of (s := { s with heap := h' }) e c dd (by decide) ⟨x, H, I1, hkey, ⟨rfl, k, v, hkv⟩, st', fun b hb => (hf b hb).1⟩⟩
  done := by
    intro X hP hw hK hc i pins s σ H E I hf st hg
    subst hP hw hK
    obtain ⟨hd, hi⟩ := hg
    obtain ⟨f0, f1, f2, f3, f4, f5⟩ := hf it (by simp)
    obtain ⟨hs, o, l, h2, h3, h4, h5, h6⟩ := dc_at I hd
    exact next_key_end (I.ok.hd hc) st h2 h4 h6 hi fun h' eb => ⟨rfl, I.turned (t' := s.toks) (fun b ob hb e => eb b ob hb e) f0 f1 f3 f4 f5⟩
  self := fun A i s Q E st h => by
    refine wpAny_pyIter_slot st.typeIs F.slot_dict_keyiterator_iter (wpAny_call_entry F.slot_dict_keyiterator_iter st.typeIs F.entry_dict_keyiterator_iter ?_ (F.args_dict_keyiterator_iter_1 _))
    show wpAny _ _ (ret (.ref it)) _ _ s
    exact wpAny_pure ⟨_, rfl, "dict_keyiterator", _, st.typeIs, F.slot_dict_keyiterator_next.lookup, h⟩
theorem turn_di {elts : List Expr} {kk : Nat} {tpos : Pos} (it : Addr) :
    Turn P w K (.Tuple elts kk tpos) (ItDi d es ep) [it] it (fun i h => ∃ ok ov, IsItemIter h it d i es.length ep ok ov) where
  mem := by simp
  obj := fun i h st b hb => by
    have e : b = it := by simpa using hb
    subst e
    obtain ⟨ok, ov, e⟩ := st
    exact ⟨_, e, fun v z => nomatch z⟩
  keep := fun i h h' st k => let ⟨ok, ov, e⟩ := st; ⟨ok, ov, k it (by simp) _ e⟩
  item := by
    intro X hP hw hK hc i pins s σ H E I hf st hg
    subst hP hw hK
    obtain ⟨hd, hi⟩ := hg
    obtain ⟨hs, o, l, h2, h3, h4, h5, h6⟩ := dc_at I hd
    obtain ⟨⟨k, x, v⟩, hkv⟩ : ∃ p, es[i]? = some p := ⟨es[i], List.getElem?_eq_getElem hi⟩
    obtain ⟨en, hen, hkey, hval⟩ := h5.at hkv
    obtain ⟨ok, ov, he⟩ := st
    rw [← h6] at he
    have hlt : it < s.heap.objs.size := Heap.lt_size he
    have hi' : i < l.size := by rw [h6]; exact hi
    have hen' : l[i] = en := by
      have : l[i]? = some en := by rw [← Array.getElem?_toList]; exact hen
      rw [Array.getElem?_eq_getElem hi'] at this
      exact Option.some.inj this
    refine wpAny_pyNext_items_item_raw he ⟨o, h2, h3, h4⟩ hi' fun h' ho hT hz hk => ?_
    refine ⟨_, rfl, wpAny_letOwnedTupleGo_items (s := { s with heap := h' }) ho fun h'' he' sb => ?_⟩
    rw [hen'] at hT he'
    have hT2 : h''.get? s.heap.objs.size = some { cls := .type "tuple", data := .seq #[en.key, en.val] } := (sb.2 _ (Nat.ne_of_gt hlt)).trans hT
    have new : ObjOk X.prog X.w (upd H s.heap.objs.size (.tup [x, v])) h'' s.heap.objs.size (.tup [x, v]) :=
      ⟨by show 2 ≤ sizeLine; decide, [en.key, en.val], .cons hkey (.cons hval .nil), ⟨_, hT2, rfl, _, rfl⟩⟩
    have I1 : Inv X pins σ (upd H s.heap.objs.size (.tup [x, v])) { s with heap := h'' } :=
      I.turnedNew (t' := s.toks) (ch := [it]) (fun b ob hb e => (sb.2 b (by simpa using hb)).trans (hk b ob (by simpa using hb) e)) hf (Nat.le_refl _) new
    refine ⟨.ref s.heap.objs.size, _, I1, rfl, ⟨_, k, x, v, hkv, rfl, I.hok.fresh (Nat.le_refl _), rfl⟩, ⟨en.key, en.val, ?_⟩, fun b hb => ?_⟩
    · rw [← h6]; exact he'
    · have e : b = it := by simpa using hb
      rw [e, upd_ne (Nat.ne_of_lt hlt)]
      exact (hf it (by simp)).1
  done := by
    intro X hP hw hK hc i pins s σ H E I hf st hg
    subst hP hw hK
    obtain ⟨hd, hi⟩ := hg
    obtain ⟨f0, f1, f2, f3, f4, f5⟩ := hf it (by simp)
    obtain ⟨hs, o, l, h2, h3, h4, h5, h6⟩ := dc_at I hd
    obtain ⟨ok, ov, he⟩ := st
    rw [← h6] at he
    exact wpAny_pyNext_items_end_raw (I.ok.hd hc) he ⟨o, h2, h3, h4⟩ (by omega) fun h' eb => ⟨rfl, I.turned (t' := s.toks) (fun b ob hb e => eb b ob hb e) f0 f1 f3 f4 f5⟩
  self := fun A i s Q E st h => let ⟨_, _, e⟩ := st; PySem.W.kcp_self e h
theorem turn_dv (it : Addr) : Turn P w K tg (ItDv d es ep) [it] it (fun i h => h.IsValIter it d i es.length ep) where
  mem := by simp
  obj := fun i h st b hb => by
    have e : b = it := by simpa using hb
    subst e
    obtain ⟨oi, e, c, dd⟩ := st
    exact ⟨oi, e, fun v z => by rw [dd] at z; cases z⟩
  keep := fun i h h' st k => st.at fun oi e => k it (by simp) oi e
  item := by
    intro X hP hw hK hc i pins s σ H E I hf st hg
    subst hP hw hK
    obtain ⟨hd, hi⟩ := hg
    obtain ⟨f0, f1, f2, f3, f4, f5⟩ := hf it (by simp)
    obtain ⟨hs, o, l, h2, h3, h4, h5, h6⟩ := dc_at I hd
    obtain ⟨⟨k, x, v⟩, hkv⟩ : ∃ p, es[i]? = some p := ⟨es[i], List.getElem?_eq_getElem hi⟩
    obtain ⟨en, hen, _, hval⟩ := h5.at hkv
    rw [← h6] at st
    have hi' : i < l.size := by rw [h6]; exact hi
    have hen' : l[i] = en := by
      have : l[i]? = some en := by rw [← Array.getElem?_toList]; exact hen
      rw [Array.getElem?_eq_getElem hi'] at this
      exact Option.some.inj this
    refine wpAny_pyNext_values_item_raw st ⟨o, h2, h3, h4⟩ hi' fun h' st' sb => ?_
    have I1 : Inv X pins σ H { s with heap := h' } := I.turned (t' := s.toks) (fun b ob hb e => (sb.2 b hb).trans e) f0 f1 f3 f4 f5
    obtain ⟨oi, e, c, dd⟩ := id st'
    rw [hen']
    refine ⟨en.val, rfl, go_of (s := { s with heap := h' }) e c dd (by decide) ⟨v, H, I1, hval, ⟨rfl, k, x, hkv⟩, ?_, fun b hb => (hf b hb).1⟩⟩
    show h'.IsValIter it d (i + 1) es.length _
    rw [← h6]
    exact st'
  done := by
    intro X hP hw hK hc i pins s σ H E I hf st hg
    subst hP hw hK
    obtain ⟨hd, hi⟩ := hg
    obtain ⟨f0, f1, f2, f3, f4, f5⟩ := hf it (by simp)
    obtain ⟨hs, o, l, h2, h3, h4, h5, h6⟩ := dc_at I hd
    rw [← h6] at st
    exact wpAny_pyNext_values_end_raw (I.ok.hd hc) st ⟨o, h2, h3, h4⟩ (by omega) fun h' eb => ⟨rfl, I.turned (t' := s.toks) (fun b ob hb e => eb b ob hb e) f0 f1 f3 f4 f5⟩
  self := fun A i s Q E st h => wpAny_pyIter_valiter st h
end
def iDk (td : TE) : TI := fun σ H R => td σ H fun x H1 => ∃ d es ep, x = .ref d ∧ H1 d = some (dcO d es ep) ∧ R (ItDk d es ep) H1
def iDi (td : TE) : TI := fun σ H R => td σ H fun x H1 => ∃ d es ep, x = .ref d ∧ H1 d = some (dcO d es ep) ∧ R (ItDi d es ep) H1
def iDv (td : TE) : TI := fun σ H R => td σ H fun x H1 => ∃ d es ep, x = .ref d ∧ H1 d = some (dcO d es ep) ∧ R (ItDv d es ep) H1
section
variable {X : Cx} {tg e : Expr} {td : TE} {apos cpos : Pos}
theorem dc_type {s : Shared} {d : Addr} {o : Obj} (h2 : s.heap.get? d = some o) (h3 : o.ExactDict) : s.TypeIs (.ref d) "dict" ∧ ∀ b, Value.ref d = .ref b → ∃ ob, s.heap.get? b = some ob ∧ ob.dict = none :=
  ⟨⟨o, h2, h3.1⟩, fun b q => by cases q; exact ⟨o, h2, h3.2.1⟩⟩
theorem pi_di {elts : List Expr} {kk : Nat} {tpos : Pos} (he : PE X e td) (hbase : attributeBase e "items" X.env (eval e X.env) = eval e X.env) (hline : (apos.endLine == cpos.line) = true) :
    PI X (.Tuple elts kk tpos) (.Call (.Attribute e "items" apos) [] [] cpos) (iDi td) := by
  refine ⟨fun pins s σ H R I h => ?_⟩
  refine wpAny_Call_method (T := "dict") (id := "dict.items") hbase rfl hline F.plainAttrs_dict F.slot_dict_items F.type_dict_items (thn (he.run pins s σ H _ I h) fun u s1 ⟨x, H1, I1, rx, d, es, ep, ex, hd, q⟩ => ?_)
  subst ex
  obtain rfl : u = Value.ref d := rx
  obtain ⟨hs, o, l, h2, h3, h4, h5, h6⟩ := dc_at I1 hd
  refine ⟨(dc_type h2 h3).1, (dc_type h2 h3).2, ?_⟩
  have I2 : Inv X pins σ H1 { s1 with heap := s1.heap.push { cls := .type "dict_items", data := .fields #[.ref d] } } := I1.kept (t' := s1.toks) fun b ob q => Heap.get?_push_of_some _ q
  have fin : wpAny (model X.prog X.w) X.A (pyIter (.ref s1.heap.objs.size)) (PIE X pins σ (.Tuple elts kk tpos) R) X.xe { s1 with heap := s1.heap.push { cls := .type "dict_items", data := .fields #[.ref d] } } := by
    refine wpAny_pyIter_items_raw (d := d) ⟨_, Heap.get?_push_size _ rfl, rfl, rfl⟩ ⟨o, Heap.get?_push_of_some _ h2, h3, h4⟩ (pi_one (tk := s1.toks) I2 _ (turn_di _) ⟨.none, .none, ?_⟩ q)
    rw [h6]
    exact Heap.get?_push_size _ rfl
  show wpAny _ _ (callWith cpos (.builtin "dict.items") [.ref d] [] []) _ X.xe s1
  exact method_meetsIn F.slot_dict_items F.entry_dict_items rfl (PySem.evalArgs_none ⟨rfl, (dc_type h2 h3).1, F.args_dict_items_1 _, _, meets_dict_items_raw d hs, ⟨l, ep, o, h2, h3, h4⟩, fin⟩)
theorem pi_dv (he : PE X e td) (hbase : attributeBase e "values" X.env (eval e X.env) = eval e X.env) (hline : (apos.endLine == cpos.line) = true) :
    PI X tg (.Call (.Attribute e "values" apos) [] [] cpos) (iDv td) := by
  refine ⟨fun pins s σ H R I h => ?_⟩
  refine wpAny_Call_method (T := "dict") (id := "dict.values") hbase rfl hline F.plainAttrs_dict F.slot_dict_values F.type_dict_values (thn (he.run pins s σ H _ I h) fun u s1 ⟨x, H1, I1, rx, d, es, ep, ex, hd, q⟩ => ?_)
  subst ex
  obtain rfl : u = Value.ref d := rx
  obtain ⟨hs, o, l, h2, h3, h4, h5, h6⟩ := dc_at I1 hd
  refine ⟨(dc_type h2 h3).1, (dc_type h2 h3).2, ?_⟩
  have I2 : Inv X pins σ H1 { s1 with heap := s1.heap.push { cls := .type "dict_values", data := .fields #[.ref d] } } := I1.kept (t' := s1.toks) fun b ob q => Heap.get?_push_of_some _ q
  have fin : wpAny (model X.prog X.w) X.A (pyIter (.ref s1.heap.objs.size)) (PIE X pins σ tg R) X.xe { s1 with heap := s1.heap.push { cls := .type "dict_values", data := .fields #[.ref d] } } := by
    refine wpAny_pyIter_values_raw (d := d) ⟨_, Heap.get?_push_size _ rfl, rfl, rfl⟩ ⟨o, Heap.get?_push_of_some _ h2, h3, h4⟩ (pi_one (tk := s1.toks) I2 _ (turn_dv _) ⟨_, Heap.get?_push_size _ rfl, rfl, ?_⟩ q)
    rw [h6] <;> rfl
  show wpAny _ _ (callWith cpos (.builtin "dict.values") [.ref d] [] []) _ X.xe s1
  exact method_meetsIn F.slot_dict_values F.entry_dict_values rfl (PySem.evalArgs_none ⟨rfl, (dc_type h2 h3).1, F.args_dict_values_1 _, _, meets_dict_values_raw d hs, ⟨l, ep, o, h2, h3, h4⟩, fin⟩)
end
section
variable {K : PySem.W.Frag} {A : Nat → Option Addr} {σ : Sg} {ρ : Env} {H : Hp} {F : Addr → Prop} {Pn : List (Addr × W)}
theorem DRel.getV {es : DEs} {kvs : List (W × W)} (h : DRel K H F es kvs) : ∀ {i : Nat} {k : NestedKey} {x v : V}, es[i]? = some (k, x, v) → ∃ a b, kvs[i]? = some (a, b) ∧ HR K H F x a ∧ HR K H F v b := by
  induction h with
  | nil => intro i k x v e; simp at e
  | cons a b c d _ ih =>
    intro i k x v e
    cases i with
    | zero => simp at e; obtain ⟨_, rfl, rfl⟩ := e; exact ⟨_, _, rfl, c, d⟩
    | succ i => simpa using ih (by simpa using e)
  | consI d _ ih =>
    intro i k x v e
    cases i with
    | zero => simp at e; obtain ⟨_, rfl, rfl⟩ := e; exact ⟨_, _, rfl, .int _, d⟩
    | succ i => simpa using ih (by simpa using e)
theorem itg_dk (hs : SRel K A σ ρ H F Pn) {a : Addr} {es : DEs} {ep : Nat} {kvs : List (W × W)} (r : H a = some (dcO a es ep)) (n : ¬ Om σ ρ a) (hr : DRel K H F es kvs) : ItG K σ ρ H F (ItDk a es ep) (kvs.map (·.1)) where
  go := fun i H2 F2 σ2 ρ2 st hi => ⟨st.kp _ _ r n, by rw [hr.length]; simpa using hi⟩
  yl := fun i H2 F2 σ2 ρ2 x H' st hi y => by
    obtain ⟨rfl, k, v, e⟩ := y
    obtain ⟨a, b, e1, e2, e3⟩ := (st.drel hs hr).getV e
    exact ⟨a, by simp [e1], .old e2⟩
  st := fun i H2 F2 σ2 ρ2 st hi => ⟨st.kp _ _ r n, by rw [hr.length]; simpa using hi⟩
theorem itg_dv (hs : SRel K A σ ρ H F Pn) {a : Addr} {es : DEs} {ep : Nat} {kvs : List (W × W)} (r : H a = some (dcO a es ep)) (n : ¬ Om σ ρ a) (hr : DRel K H F es kvs) : ItG K σ ρ H F (ItDv a es ep) (kvs.map (·.2)) where
  go := fun i H2 F2 σ2 ρ2 st hi => ⟨st.kp _ _ r n, by rw [hr.length]; simpa using hi⟩
  yl := fun i H2 F2 σ2 ρ2 x H' st hi y => by
    obtain ⟨rfl, k, v, e⟩ := y
    obtain ⟨a, b, e1, e2, e3⟩ := (st.drel hs hr).getV e
    exact ⟨b, by simp [e1], .old e3⟩
  st := fun i H2 F2 σ2 ρ2 st hi => ⟨st.kp _ _ r n, by rw [hr.length]; simpa using hi⟩
def itmL (kvs : List (W × W)) : List W := kvs.map fun p => .tup [p.1, p.2]
theorem itg_di (hs : SRel K A σ ρ H F Pn) {a : Addr} {es : DEs} {ep : Nat} {kvs : List (W × W)} (r : H a = some (dcO a es ep)) (n : ¬ Om σ ρ a) (hr : DRel K H F es kvs) : ItG K σ ρ H F (ItDi a es ep) (itmL kvs) where
  go := fun i H2 F2 σ2 ρ2 st hi => ⟨st.kp _ _ r n, by rw [hr.length]; simpa [itmL] using hi⟩
  yl := fun i H2 F2 σ2 ρ2 x H' st hi y => by
    obtain ⟨T, k, y, v, e, rfl, hT, rfl⟩ := y
    obtain ⟨a, b, e1, e2, e3⟩ := (st.drel hs hr).getV e
    exact ⟨.tup [a, b], by simp [itmL, e1], two_new hT e2 e3⟩
  st := fun i H2 F2 σ2 ρ2 st hi => ⟨st.kp _ _ r n, by rw [hr.length]; simpa [itmL] using hi⟩
/-- the dict of an argument that is walked: it stands still while the names are locked -/
theorem arg_dict (hs : SRel K A σ ρ H F Pn) {as : List Arg} {u : Arg} {v : V} {kvs : List (W × W)} (hm : u ∈ as) (hp : ∀ p ∈ pnd u v, p ∈ Pn) (ar : AR K σ H F u v) (e : res ρ u = some (.dct kvs)) :
    ∃ a es ep, v = .ref a ∧ H a = some (dcO a es ep) ∧ es.length ≤ szL ∧ (es.map (·.1)).Nodup ∧ DRel K H F es kvs ∧ ¬ Om σ (lkE ρ as) a := by
  obtain ⟨l1, l2, l3, l4⟩ := lk_ok (as := as) hs
  cases u with
  | val w fr =>
    obtain rfl : w = .dct kvs := Option.some.inj e
    cases fr with
    | false => have ar : HR K H F v (.dct kvs) := ar; cases ar
    | true =>
      obtain ⟨c, rfl⟩ := ar
      obtain ⟨x, ⟨es, ⟨ep, y1⟩, y2, y3, y4⟩, z⟩ := hs.pn (c, .dct kvs) (hp _ (by simp [pnd]))
      refine ⟨c, es, ep, rfl, y1, y2, y3, y4, fun o => ?_⟩
      obtain ⟨i, s⟩ := (l3 c o).sl
      exact z i s
  | slot i =>
    simp only [res] at e
    cases q : wOf ρ i with
    | none => rw [q] at e; cases e
    | some x =>
      rw [q] at e
      obtain ⟨w, f⟩ := x
      obtain rfl : w = .dct kvs := Option.some.inj e
      have q' := wOf_eq.mp q
      have ar' : σ[i]? = some (some v) := ar
      by_cases hf : f = .sh
      · subst hf
        obtain ⟨v', a, b⟩ := hs.sh i _ q'
        cases b
      · obtain ⟨c, ec, nF, es, ⟨ep, y1⟩, y2, y3, y4⟩ := hs.ow i _ f q' hf
        rw [ar'] at ec; cases ec
        exact ⟨c, es, ep, rfl, y1, y2, y3, y4, l4 i c hm ⟨_, f, q', hf, ar'⟩⟩
end
end Py

namespace Py
open PySem PySem.Spec PyProof.Rows L2
variable [HW]

theorem PkRs.length {K : PySem.W.Frag} {H : Hp} {F : Addr → Prop} {vs : List V} {ws : List W} (h : PkRs K H F vs ws) : vs.length = ws.length := by
  induction h with
  | nil => rfl
  | cons _ _ ih => simp [ih]
/-- what a loop walks -/
def tI (c : Cf) (k : IK) (es : E) : TI := fun σ H R => ∃ A ρ F Pn, SRel c.K A σ ρ H F Pn ∧ OkX ((ev c.C es).a ρ) (fun us ρ1 => ∃ its, (ress ρ1 us).bind (itW k) = some its ∧
  ∀ J vs H1 F1, Md c A σ ρ H F Pn us vs ρ1 H1 F1 → ItG c.K σ (lkE ρ1 us) H1 F1 J its → R J H1) (EX c A σ ρ H F Pn)
section
variable {X : Cx} {c : Cf} {tg e : Expr} {ea eas : E} {pos p : Pos}
theorem piImp {t t' : TI} (h : PI X tg e t) (i : ∀ σ H R, t' σ H R → t σ H R) : PI X tg e t' := ⟨fun pins s σ H R I q => h.run pins s σ H R I (i σ H R q)⟩

/-- a list or a tuple, as it comes -/
theorem pi_seq {te : TE} (he : PE X e te) : PI X tg e (fun σ H R => te σ H fun y G => (∃ d, y = .ref d ∧ (∃ l, SqL X.K G d l) ∧ R (Itl X.K d) G) ∨ (∃ d, y = .ref d ∧ (∃ l, SqT X.K G d l) ∧ R (Itt X.K d) G) ∨ ∃ d es ep, y = .ref d ∧ G d = some (dcO d es ep) ∧ R (ItDk d es ep) G) := by
  refine ⟨fun pins s0 σ G0 R J0 hq => ?_⟩
  refine thn (he.run pins s0 σ G0 _ J0 hq) fun u s2 ⟨y, G, J, ry, hy⟩ => ?_
  have fresh : ∀ (o : Obj), ∀ b ∈ [s2.heap.objs.size], FpOk X pins G b := fun o b hb => by
    cases List.mem_singleton.mp hb
    exact J.fpOk (Nat.le_refl _) (J.hok.fresh (Nat.le_refl _))
  rcases hy with ⟨d, rfl, ⟨l, hl⟩, hR⟩ | ⟨d, rfl, ⟨l, hl⟩, hR⟩ | ⟨d, es, ep, rfl, hd, hR⟩
  · cases ry
    obtain ⟨us, rv, pl, hz⟩ := J.list hl
    refine wpAny_pyIter_list pl.isList ?_
    exact ⟨_, [s2.heap.objs.size], _, _, G, rfl, J.kept (t' := s2.toks) fun b o q => Heap.get?_push_of_some _ q, turn_list d s2.heap.objs.size, ⟨_, Heap.get?_push_size _ rfl, rfl, rfl⟩, fresh default, hR⟩
  · cases ry
    obtain ⟨us, rv, pt, hz⟩ := J.tuple hl
    refine wpAny_pyIter_tuple (show s2.heap.IsTuple d us.toArray from pt) ?_
    exact ⟨_, [s2.heap.objs.size], _, _, G, rfl, J.kept (t' := s2.toks) fun b o q => Heap.get?_push_of_some _ q, turn_tuple d s2.heap.objs.size, ⟨_, Heap.get?_push_size _ rfl, rfl, rfl⟩, fresh default, hR⟩
  · cases ry
    obtain ⟨hs, o, l, h2, h3, h4, h5, h6⟩ := dc_at J hd
    refine iter_keys hs h2 h3 h4 (pi_one (tk := s2.toks) J _ (turn_dk _) ⟨_, Heap.get?_push_size _ rfl, rfl, ?_⟩ hR)
    rw [h6] <;> rfl

theorem one_arg {A : Nat → Option Addr} {σ : Sg} {ρ : Env} {H : Hp} {F : Addr → Prop} {Pn : List (Addr × W)} {P : List Arg → Env → Prop} (hs : SRel c.K A σ ρ H F Pn) {R : VK} (h : OkX ((ev c.C (.cons ea .nil)).a ρ) P (EX c A σ ρ H F Pn))
    (fin : ∀ u v ρ1 H1 F1, Md c A σ ρ H F Pn [u] [v] ρ1 H1 F1 → P [u] ρ1 → R v H1) : tX c ea σ H R := by
  have h : OkX (((ev c.C ea).x ρ).bind fun u ρ1 => Out.ok [u] ρ1) P (EX c A σ ρ H F Pn) := h
  exact tX_ofG (.nil hs) h fun u v ρ1 H1 F1 m q => fin u v ρ1 H1 F1 m q
theorem seq_ok {w : W} {k : IK} {its : List W} {ρ : Env} {u : Arg} (e : (ress ρ [u]).bind (itW k) = some its) : ∃ w, res ρ u = some w ∧ itW k [w] = some its := by
  obtain ⟨ws, e1, e2⟩ := Option.bind_eq_some_iff.mp e
  simp only [ress] at e1
  cases q : res ρ u with
  | none => rw [q] at e1; simp at e1
  | some w =>
    rw [q] at e1
    obtain rfl : [w] = ws := by simpa using e1
    exact ⟨w, rfl, e2⟩
theorem i_seq (hc : c.K = X.K) (he : PE X e (tX c ea)) : PI X tg e (tI c .seq (.cons ea .nil)) := by
  refine piImp (pi_seq he) fun σ H R ⟨A, ρ, F, Pn, hs, q⟩ => ?_
  refine one_arg hs q fun u v ρ1 H1 F1 m ⟨its, e1, q1⟩ => ?_
  obtain ⟨w, e2, e3⟩ := seq_ok (w := .non) e1
  obtain ⟨_, e, p1⟩ := (m.pk (ress1 e2)).one
  cases e
  obtain ⟨l1, l2, l3, l4⟩ := lk_ok (as := [u]) m.sr
  rw [← hc]
  cases w <;> first | (cases e3; done) | skip
  · cases Option.some.inj e3
    obtain ⟨a, us, rfl, r, z, hr⟩ := p1.tup
    exact .inr (.inl ⟨a, rfl, ⟨us, r⟩, q1 _ _ H1 F1 m (itg_tup l1 r hr)⟩)
  · cases Option.some.inj e3
    have ar : AR c.K σ H1 F1 u v := by cases m.ar with | cons h _ => exact h
    obtain ⟨a, us, rfl, r, hr, n⟩ := arg_list m.sr (as := [u]) (by simp) (fun p hp => by simp [pnds, hp]) ar e2
    exact .inl ⟨a, rfl, ⟨us, .inl r⟩, q1 _ _ H1 F1 m (itg_list l1 r n hr)⟩
  · cases Option.some.inj e3
    have ar : AR c.K σ H1 F1 u v := by cases m.ar with | cons h _ => exact h
    obtain ⟨a, es, ep, rfl, r, _, _, hr, n⟩ := arg_dict m.sr (as := [u]) (by simp) (fun p hp => by simp [pnds, hp]) ar e2
    exact .inr (.inr ⟨a, es, ep, rfl, r, q1 _ _ H1 F1 m (itg_dk l1 r n hr)⟩)
theorem i_items {elts : List Expr} {kk : Nat} {tpos apos : Pos} (hc : c.K = X.K) (hb : ∀ id q r, e ≠ .Call (.Name id q) [] [] r) (hl : (apos.endLine == pos.line) = true) (he : PE X e (tX c ea)) :
    PI X (.Tuple elts kk tpos) (.Call (.Attribute e "items" apos) [] [] pos) (tI c .items (.cons ea .nil)) := by
  refine piImp (pi_di he (base_plain hb) hl) fun σ H R ⟨A, ρ, F, Pn, hs, q⟩ => ?_
  refine one_arg hs q fun u v ρ1 H1 F1 m ⟨its, e1, q1⟩ => ?_
  obtain ⟨w, e2, e3⟩ := seq_ok (w := .non) e1
  obtain ⟨l1, l2, l3, l4⟩ := lk_ok (as := [u]) m.sr
  cases w <;> first | (cases e3; done) | skip
  cases Option.some.inj e3
  have ar : AR c.K σ H1 F1 u v := by cases m.ar with | cons h _ => exact h
  obtain ⟨a, es, ep, rfl, r, _, _, hr, n⟩ := arg_dict m.sr (as := [u]) (by simp) (fun p hp => by simp [pnds, hp]) ar e2
  exact ⟨a, es, ep, rfl, r, q1 _ _ H1 F1 m (itg_di l1 r n hr)⟩
theorem i_vals {apos : Pos} (hc : c.K = X.K) (hb : ∀ id q r, e ≠ .Call (.Name id q) [] [] r) (hl : (apos.endLine == pos.line) = true) (he : PE X e (tX c ea)) :
    PI X tg (.Call (.Attribute e "values" apos) [] [] pos) (tI c .vals (.cons ea .nil)) := by
  refine piImp (pi_dv he (base_plain hb) hl) fun σ H R ⟨A, ρ, F, Pn, hs, q⟩ => ?_
  refine one_arg hs q fun u v ρ1 H1 F1 m ⟨its, e1, q1⟩ => ?_
  obtain ⟨w, e2, e3⟩ := seq_ok (w := .non) e1
  obtain ⟨l1, l2, l3, l4⟩ := lk_ok (as := [u]) m.sr
  cases w <;> first | (cases e3; done) | skip
  cases Option.some.inj e3
  have ar : AR c.K σ H1 F1 u v := by cases m.ar with | cons h _ => exact h
  obtain ⟨a, es, ep, rfl, r, _, _, hr, n⟩ := arg_dict m.sr (as := [u]) (by simp) (fun p hp => by simp [pnds, hp]) ar e2
  exact ⟨a, es, ep, rfl, r, q1 _ _ H1 F1 m (itg_dv l1 r n hr)⟩

/-- the arguments as they come -/
theorem all_args {A : Nat → Option Addr} {σ : Sg} {ρ : Env} {H : Hp} {F : Addr → Prop} {Pn : List (Addr × W)} {P : List Arg → Env → Prop} (hs : SRel c.K A σ ρ H F Pn) {R : List V → Hp → Prop} (h : OkX ((ev c.C eas).a ρ) P (EX c A σ ρ H F Pn))
    (fin : ∀ us vs ρ1 H1 F1, Md c A σ ρ H F Pn us vs ρ1 H1 F1 → P us ρ1 → R vs H1) : tXL c eas σ H R :=
  ⟨A, ρ, F, Pn, hs, h.mono (fun us ρ1 q vs H1 F1 st sr ar fr => fin us vs ρ1 H1 F1 ⟨st, sr, ar, fr⟩ q) fun _ _ _ e => e⟩
theorem okR_of {i : Int} (h : okR i = true) : -(2 ^ 62) ≤ i ∧ i < 2 ^ 62 := of_decide_eq_true h
theorem rngW1 {ws : List W} {its : List W} {j : Int} (e : ws = [.int j]) (h : rngW ws = some its) : okR j = true ∧ its = rngL j.toNat 0 := by
  subst e
  obtain ⟨a, b⟩ := of_if h
  exact ⟨a.1, b.symm⟩
theorem rngW2 {ws : List W} {its : List W} {i j : Int} (e : ws = [.int i, .int j]) (h : rngW ws = some its) : okR i = true ∧ okR j = true ∧ its = rngL (j - i).toNat i := by
  subst e
  obtain ⟨a, b⟩ := of_if h
  obtain ⟨a1, a2⟩ := Bool.and_eq_true_iff.mp a.1
  exact ⟨a1, a2, b.symm⟩
theorem i_rng1 {a : Expr} (hg : Gl X "range") (hm : X.mg "range" = none) (hp : plainE a = true) (ha : PA X [a] (tXL c eas)) (h1 : ∀ ρ us ρ1, (ev c.C eas).a ρ = .ok us ρ1 → us.length = 1) : PI X tg (.Call (.Name "range" p) [a] [] pos) (tI c .rng eas) := by
  refine piImp (pi_range1 hg hm ha (star_cons _ hp _)) fun σ H R ⟨A, ρ, F, Pn, hs, q⟩ => ?_
  have hl := h1 ρ
  cases e0 : (ev c.C eas).a ρ with
  | bad => rw [e0] at q; exact q.elim
  | ex x pl ρ1 =>
    refine ⟨A, ρ, F, Pn, hs, ?_⟩
    rw [e0] at q ⊢; exact q
  | ok us ρ1 =>
    have hl := hl us ρ1 e0
    refine ⟨A, ρ, F, Pn, hs, ?_⟩
    rw [e0] at q ⊢
    intro vs H1 F1 st sr ar fr
    obtain ⟨its, e1, q1⟩ := q
    obtain ⟨ws, e2, e3⟩ := Option.bind_eq_some_iff.mp e1
    have m : Md c A σ ρ H F Pn us vs ρ1 H1 F1 := ⟨st, sr, ar, fr⟩
    have pk := m.pk e2
    match ws, pk, e3 with
    | [.int j], pk, e3 =>
      obtain ⟨v, rfl, pv⟩ := pk.one
      obtain ⟨a1, rfl⟩ := rngW1 rfl e3
      obtain ⟨b1, b2⟩ := okR_of a1
      exact ⟨j, by rw [pv.int], b1, b2, q1 _ _ H1 F1 m itg_rng⟩
    | [.int i, .int j], pk, e3 =>
      obtain ⟨v, v', rfl, _, _⟩ := pk.two
      have := m.ar.len
      simp [hl] at this
    | [.int i, .int j, .int k], pk, e3 =>
      have := m.ar.len
      have l2 := pk.length
      simp [hl] at this
      simp [← this] at l2
theorem i_rng2 {a b : Expr} (hg : Gl X "range") (hm : X.mg "range" = none) (hp : plainE a = true) (hp2 : plainE b = true) (ha : PA X [a, b] (tXL c eas)) (h1 : ∀ ρ us ρ1, (ev c.C eas).a ρ = .ok us ρ1 → us.length = 2) : PI X tg (.Call (.Name "range" p) [a, b] [] pos) (tI c .rng eas) := by
  refine piImp (pi_range2 hg hm ha ((star_cons _ hp _).trans (by rw [star_cons _ hp2]; rfl)) (star_cons _ hp2 _)) fun σ H R ⟨A, ρ, F, Pn, hs, q⟩ => ?_
  have hl := h1 ρ
  cases e0 : (ev c.C eas).a ρ with
  | bad => rw [e0] at q; exact q.elim
  | ex x pl ρ1 =>
    refine ⟨A, ρ, F, Pn, hs, ?_⟩
    rw [e0] at q ⊢; exact q
  | ok us ρ1 =>
    have hl := hl us ρ1 e0
    refine ⟨A, ρ, F, Pn, hs, ?_⟩
    rw [e0] at q ⊢
    intro vs H1 F1 st sr ar fr
    obtain ⟨its, e1, q1⟩ := q
    obtain ⟨ws, e2, e3⟩ := Option.bind_eq_some_iff.mp e1
    have m : Md c A σ ρ H F Pn us vs ρ1 H1 F1 := ⟨st, sr, ar, fr⟩
    have pk := m.pk e2
    match ws, pk, e3 with
    | [.int i, .int j], pk, e3 =>
      obtain ⟨v, v', rfl, pv, pv'⟩ := pk.two
      obtain ⟨a1, a2, rfl⟩ := rngW2 rfl e3
      obtain ⟨b1, b2⟩ := okR_of a1
      obtain ⟨b3, b4⟩ := okR_of a2
      exact ⟨i, j, by rw [pv.int, pv'.int], ⟨b1, b2, b3, b4⟩, q1 _ _ H1 F1 m itg_rng⟩
    | [.int j], pk, e3 =>
      obtain ⟨v, rfl, _⟩ := pk.one
      have := m.ar.len
      simp [hl] at this
    | [.int i, .int j, .int k], pk, e3 =>
      have := m.ar.len
      have l2 := pk.length
      simp [hl] at this
      simp [← this] at l2
theorem one_res {ρ : Env} {u : Arg} {w : W} (h : ress ρ [u] = some [w]) : res ρ u = some w := by
  simp only [ress] at h
  cases q : res ρ u with
  | none => rw [q] at h; simp at h
  | some w' => rw [q] at h; simpa using h
theorem i_enu {elts : List Expr} {kk : Nat} {tpos : Pos} (hc : c.K = X.K) (hg : Gl X "enumerate") (hm : X.mg "enumerate" = none) (hp : plainE e = true) (ha : PA X [e] (tXL c eas)) :
    PI X (.Tuple elts kk tpos) (.Call (.Name "enumerate" p) [e] [] pos) (tI c .enu eas) := by
  refine piImp (pi_enA hg hm ha (star_cons _ hp _)) fun σ H R ⟨A, ρ, F, Pn, hs, q⟩ => ?_
  refine all_args hs q fun us vs ρ1 H1 F1 m ⟨its, e1, q1⟩ => ?_
  obtain ⟨ws, e2, e3⟩ := Option.bind_eq_some_iff.mp e1
  match ws, e2, e3 with
  | [.lst xs], e2, e3 =>
    cases Option.some.inj e3
    obtain ⟨v, rfl, pv⟩ := (m.pk e2).one
    match us, e2, m, q1 with
    | [u], e2, m, q1 =>
      have ar : AR c.K σ H1 F1 u v := by cases m.ar with | cons h _ => exact h
      obtain ⟨l1, l2, l3, l4⟩ := lk_ok (as := [u]) m.sr
      obtain ⟨a, us', rfl, r, hr, n⟩ := arg_list m.sr (as := [u]) (by simp) (fun p hp => by simp [pnds, hp]) ar (one_res e2)
      rw [← hc]
      exact ⟨a, rfl, .inl ⟨⟨us', .inl r⟩, q1 _ _ H1 F1 m (itg_enu l1 r n hr)⟩⟩
    | [], e2, m, _ => simp [ress] at e2
    | _ :: _ :: _, e2, m, _ => have := m.ar.len; simp at this
  | [.tup xs], e2, e3 =>
    cases Option.some.inj e3
    obtain ⟨v, rfl, pv⟩ := (m.pk e2).one
    match us, e2, m, q1 with
    | [u], e2, m, q1 =>
      obtain ⟨l1, l2, l3, l4⟩ := lk_ok (as := [u]) m.sr
      obtain ⟨a, us', rfl, r, z, hr⟩ := pv.tup
      rw [← hc]
      exact ⟨a, rfl, .inr ⟨⟨us', r⟩, q1 _ _ H1 F1 m (itg_enuT l1 r hr)⟩⟩
    | [], e2, m, _ => simp [ress] at e2
    | _ :: _ :: _, e2, m, _ => have := m.ar.len; simp at this
theorem i_rev (hc : c.K = X.K) (hg : Gl X "reversed") (hm : X.mg "reversed" = none) (hp : plainE e = true) (he : PE X e (tX c ea)) : PI X tg (.Call (.Name "reversed" p) [e] [] pos) (tI c .rev (.cons ea .nil)) := by
  refine piImp (RT.pi_revA hg hm he (star_cons _ hp _)) fun σ H R ⟨A, ρ, F, Pn, hs, q⟩ => ?_
  refine one_arg hs q fun u v ρ1 H1 F1 m ⟨its, e1, q1⟩ => ?_
  obtain ⟨w, e2, e3⟩ := seq_ok (w := .non) e1
  obtain ⟨_, e, p1⟩ := (m.pk (ress1 e2)).one
  cases e
  obtain ⟨l1, l2, l3, l4⟩ := lk_ok (as := [u]) m.sr
  rw [← hc]
  cases w <;> first | (cases e3; done) | skip
  · cases Option.some.inj e3
    obtain ⟨a, us, rfl, r, z, hr⟩ := p1.tup
    exact ⟨a, us, rfl, .inr ⟨r, q1 _ _ H1 F1 m (itg_revT l1 r hr)⟩⟩
  · cases Option.some.inj e3
    have ar : AR c.K σ H1 F1 u v := by cases m.ar with | cons h _ => exact h
    obtain ⟨a, us, rfl, r, hr, n⟩ := arg_list m.sr (as := [u]) (by simp) (fun p hp => by simp [pnds, hp]) ar e2
    exact ⟨a, us, rfl, .inl ⟨.inl r, q1 _ _ H1 F1 m (itg_revL l1 r n hr)⟩⟩
theorem i_zip {e2 : Expr} {elts : List Expr} {kk : Nat} {tpos : Pos} (hc : c.K = X.K) (hg : Gl X "zip") (hm : X.mg "zip" = none) (hp : plainE e = true) (hp2 : plainE e2 = true) (ha : PA X [e, e2] (tXL c eas)) :
    PI X (.Tuple elts kk tpos) (.Call (.Name "zip" p) [e, e2] [] pos) (tI c .zip eas) := by
  refine piImp (RZ.pi_zipA hg hm ha (star_cons _ hp _) (by rw [star_cons _ hp2]; rfl)) fun σ H R ⟨A, ρ, F, Pn, hs, q⟩ => ?_
  refine all_args hs q fun us vs ρ1 H1 F1 m ⟨its, e1, q1⟩ => ?_
  obtain ⟨ws, e2', e3⟩ := Option.bind_eq_some_iff.mp e1
  rw [← hc]
  match ws, e2', e3 with
  | [.lst xs, .lst ys], e2', e3 =>
    cases Option.some.inj e3
    obtain ⟨v, v', rfl, pv, pv'⟩ := (m.pk e2').two
    match us, e2', m, q1 with
    | [u, u'], e2', m, q1 =>
      have e4 : res ρ1 u = some (.lst xs) ∧ res ρ1 u' = some (.lst ys) := by
        simp only [ress] at e2'
        cases q : res ρ1 u with
        | none => rw [q] at e2'; simp at e2'
        | some w => cases q' : res ρ1 u' with
          | none => rw [q, q'] at e2'; simp at e2'
          | some w' => rw [q, q'] at e2'; simpa using e2'
      obtain ⟨l1, l2, l3, l4⟩ := lk_ok (as := [u, u']) m.sr
      obtain ⟨ar, ar'⟩ : AR c.K σ H1 F1 u v ∧ AR c.K σ H1 F1 u' v' := by cases m.ar with | cons h t => cases t with | cons h' _ => exact ⟨h, h'⟩
      obtain ⟨a, us', rfl, r, hr, n⟩ := arg_list m.sr (as := [u, u']) (by simp) (fun p hp => by simp [pnds, hp]) ar e4.1
      obtain ⟨a', us'', rfl, r', hr', n'⟩ := arg_list m.sr (as := [u, u']) (by simp) (fun p hp => by simp [pnds, hp]) ar' e4.2
      exact ⟨a, a', us', us'', rfl, .inl ⟨.inl r, .inl r', q1 _ _ H1 F1 m (itg_zip l1 r n hr r' n' hr')⟩⟩
    | [], e2', m, _ => simp [ress] at e2'
    | [_], e2', m, _ => have := m.ar.len; simp at this
    | _ :: _ :: _ :: _, e2', m, _ => have := m.ar.len; simp at this
  | [.tup xs, .tup ys], e2', e3 =>
    cases Option.some.inj e3
    obtain ⟨v, v', rfl, pv, pv'⟩ := (m.pk e2').two
    obtain ⟨l1, l2, l3, l4⟩ := lk_ok (as := us) m.sr
    obtain ⟨a, us', rfl, r, z, hr⟩ := pv.tup
    obtain ⟨a', us'', rfl, r', z', hr'⟩ := pv'.tup
    exact ⟨a, a', us', us'', rfl, .inr ⟨r, r', q1 _ _ H1 F1 m (itg_zipT l1 r hr r' hr')⟩⟩
end
end Py

/-! d.get, sorted of numbers, of a dict of numbers, sorted(set(..)). -/
namespace Py
open PySem PySem.Spec PyProof.Rows L2
section
variable {P : Program} {w : World} {A : Around} {E : Value → Shared → Prop} {s : Shared}
theorem set_listI {l : Addr} {items : Array Value} (ns : List Int) {Q : Value → Shared → Prop} (hh : A.handled = none) (hl : s.heap.IsList l items) (hit : IntsAre items.toList ns) (hb : ns.length + 1 < scanBound)
    (h : ∀ (h' : Heap) (tk c : Nat), SetR w h' s.heap.objs.size (fun j => decide (j ∈ ns)) c → c ≤ ns.length → (∀ b o, s.heap.get? b = some o → h'.get? b = some o) → Q (.ref s.heap.objs.size) { s with heap := h', toks := tk }) :
    wpAny (model P w) A (call (.type "set") [.ref l]) Q E s := by
  have hisz : items.size = ns.length := by
    have q := IntsAre.length hit
    rw [Array.length_toList] at q
    exact q
  obtain ⟨c, tl, hmro⟩ := F.called_set.mro
  have hmade := F.called_set.made
  have hsub := F.called_set.sub
  refine wpAny_call (codeAny_of_tree ?_)
  show wpAny _ _ (callAny (.type "set") _) _ _ _
  refine wpAny_pure ⟨Code.quiet_builtin _ (by decide +kernel), codeAny_builtin F.entry_type_call ?_⟩
  rw [Around.under_plain (weight_type_call_type "set" [.ref l] []) rfl]
  have h1 := F.called_set.notType
  have h2 := F.called_set.canCreate
  have hct := F.typeCall_set_1 (.ref l)
  repeat (any_goals (first | assumption | wp_step))

  refine codeAny_mono (code_set_led1 (.ref l) (E := E) (Q₁ := fun obj s₁ => obj = .ref s.heap.objs.size ∧ s₁ = { s with heap := s.heap.push { cls := .type "set", dict := none, data := .set #[] 0 (.fresh 0 0 (!w.params.followText "set-order")) } }) ⟨rfl, rfl⟩) fun r s₁ hr => ?_
  cases r with
  | error e => exact hr
  | ok fl =>
    cases fl with
    | ret obj =>
      obtain ⟨rfl, rfl⟩ := hr
      have hS : (s.heap.push { cls := .type "set", dict := none, data := .set #[] 0 (.fresh 0 0 (!w.params.followText "set-order")) }).get? s.heap.objs.size = some { cls := .type "set", dict := none, data := .set #[] 0 (.fresh 0 0 (!w.params.followText "set-order")) } := Heap.get?_push_size _ rfl
      have hT : Shared.TypeIs { s with heap := s.heap.push { cls := .type "set", dict := none, data := .set #[] 0 (.fresh 0 0 (!w.params.followText "set-order")) } } (.ref s.heap.objs.size) "set" := ⟨_, hS, rfl⟩
      have hli := F.called_set.init.lookup
      have hbi := F.called_set.init.bind (.ref s.heap.objs.size)
      repeat (any_goals (first | assumption | wp_step))

      refine codeAny_mono (codeAny_call_builtin (R := wants (fun r s₂ => r = .none ∧ ∃ h' tk c, s₂ = { s with heap := h', toks := tk } ∧ SetR w h' s.heap.objs.size (fun j => decide (j ∈ ns)) c ∧ c ≤ ns.length ∧
          (∀ b o, s.heap.get? b = some o → h'.get? b = some o)) E) F.called_set.init.plain F.entry_set_init (check_set_init_1 hT ?_)) fun r₂ s₂ hr₂ => ?_
      · obtain ⟨ol, hol, hcl, nl, hdl⟩ := hl
        obtain ⟨ocls, odict, odata, oslots⟩ := ol
        simp only at hcl hdl
        subst hcl; subst hdl
        have hol' : (s.heap.push { cls := .type "set", dict := none, data := .set #[] 0 (.fresh 0 0 (!w.params.followText "set-order")) }).get? l = some { cls := .type "list", dict := odict, data := .seq items nl, slots := oslots } := Heap.get?_push_of_some _ hol
        have hsls := F.sub_list_set
        have hslf := F.sub_list_frozenset
        have hne : (Value.type "list" == Value.type "dict") = false := by decide
        have hl1 : (s.heap.push { cls := .type "set", dict := none, data := .set #[] 0 (.fresh 0 0 (!w.params.followText "set-order")) }).IsList l items := ⟨_, hol', rfl, nl, rfl⟩
        unfold Builtin.«set.__init__» noKeywords Builtin.Frozenset.updateFrom
        generalize hPI : pyIter = PI
        wp_walk
        subst hPI

        refine wpAny_pyIter_list hl1 ?_
        refine wpAny_bind (wpAny_runValue ?_)
        have hlS : l < s.heap.objs.size := Heap.lt_size hol
        have hh3 : A.in1.in1.in1.handled = none := by simp [hh]
        have hz1 : (s.heap.push { cls := .type "set", dict := none, data := .set #[] 0 (.fresh 0 0 (!w.params.followText "set-order")) }).objs.size = s.heap.objs.size + 1 := Heap.size_push ..
        have hneI : l ≠ (s.heap.push { cls := .type "set", dict := none, data := .set #[] 0 (.fresh 0 0 (!w.params.followText "set-order")) }).objs.size := by
          rw [Heap.size_push]; exact Nat.ne_of_lt (Nat.lt_succ_of_lt hlS)
        have hSf : s.heap.objs.size ∉ [(s.heap.push { cls := .type "set", dict := none, data := .set #[] 0 (.fresh 0 0 (!w.params.followText "set-order")) }).objs.size, l] := by
          rw [Heap.size_push]; simp only [List.mem_cons, List.mem_singleton, List.not_mem_nil, or_false, not_or]
          exact ⟨Nat.ne_of_lt (Nat.lt_succ_self _), Nat.ne_of_gt hlS⟩
        have hval : ∀ (i : Nat) (v : Value), items[i]? = some v → ∃ k t, ns[i]? = some k ∧ v = .int k t := fun i v hv => by
          have hi : i < ns.length := by rw [← hisz]; exact (Array.getElem?_eq_some_iff.mp hv).1
          obtain ⟨t, e⟩ := PyProof.Rows.IntsAre.int_at hit i v (by rw [Array.getElem?_toList]; exact hv)
          refine ⟨ns[i], t, List.getElem?_eq_getElem hi, ?_⟩
          rw [e, List.getD_eq_getElem?_getD, List.getElem?_eq_getElem hi] <;> rfl
        refine set_update_ints ((Walks.list hh3 _ l hneI items).toS) s.heap.objs.size
          hSf ns hisz hb hval (items.size - 0) 0 _ (by omega) (Nat.zero_le _)
          ⟨⟨_, Heap.get?_push_size _ rfl, rfl, rfl⟩, (hl1.push _)⟩ ?hS0 ?hR
        case hS0 =>
          have hget : ((s.heap.push { cls := .type "set", dict := none, data := .set #[] 0 (.fresh 0 0 (!w.params.followText "set-order")) }).push { cls := .type "list_iterator", data := .fields #[.ref l, .int 0 0] }).get? s.heap.objs.size
              = some { cls := .type "set", dict := none, data := .set #[] 0 (.fresh 0 0 (!w.params.followText "set-order")) } := Heap.get?_push_of_some _ hS
          exact ⟨0, Nat.le_refl 0, setR_new_at hget⟩
        case hR =>
          intro s' c' hm hc' hS'
          obtain ⟨h', g2, d', tk', os'⟩ := s'
          have eg : g2 = s.gens := hm.gens
          have ed : d' = s.drawn := hm.drawn
          have eo : os' = s.os := hm.os
          subst eg; subst ed; subst eo
          show wpAny _ _ _ _ _ _
          refine wpAny_pure ?_
          show wpAny _ _ (ret Value.none) _ _ _
          rw [hisz] at hc'
          refine wpAny_pure ⟨rfl, h', tk', c', rfl, hS', hc', fun b o e => ?_⟩
          have hb0 : b < s.heap.objs.size := Heap.lt_size e
          have hb1 : b ≠ s.heap.objs.size := Nat.ne_of_lt hb0
          have hb2 : b ≠ (s.heap.push { cls := .type "set", dict := none, data := .set #[] 0 (.fresh 0 0 (!w.params.followText "set-order")) }).objs.size := by
            rw [Heap.size_push]; exact Nat.ne_of_lt (Nat.lt_succ_of_lt hb0)
          exact hm.heap b o (by simp only [List.mem_cons, List.mem_singleton, List.not_mem_nil, or_false, not_or]; exact ⟨hb1, hb2⟩) (Heap.get?_push_of_some _ (Heap.get?_push_of_some _ e))

      · cases r₂ with
        | error e => exact hr₂
        | ok fl₂ =>
          cases fl₂ with
          | ret r =>
            obtain ⟨rfl, h', tk, c', rfl, hS', hc', hk'⟩ := hr₂
            repeat (any_goals (first | assumption | wp_step))
            exact h _ _ _ hS' hc' hk'
          | _ => exact hr₂.elim
    | _ => exact hr.elim

end
end Py

namespace Py
open PySem PySem.Spec PyProof.Rows L2
/-! ### numbers in order -/
theorem insI_perm (a : Int) : ∀ l : List Int, (insI a l).Perm (a :: l)
  | [] => .refl _
  | b :: r => by
    unfold insI
    split
    · exact .refl _
    · exact ((insI_perm a r).cons b).trans (.swap a b r)
theorem srtI_perm : ∀ l : List Int, (srtI l).Perm l
  | [] => .refl _
  | a :: r => (insI_perm a (srtI r)).trans ((srtI_perm r).cons a)
theorem insI_pw (a : Int) : ∀ l : List Int, l.Pairwise (· ≤ ·) → (insI a l).Pairwise (· ≤ ·)
  | [], _ => by simp [insI]
  | b :: r, h => by
    unfold insI
    have h' := List.pairwise_cons.mp h
    split
    · rename_i q
      exact List.pairwise_cons.mpr ⟨fun x hx => (List.mem_cons.mp hx).elim (fun z => z ▸ q) fun z => Int.le_trans q (h'.1 x z), h⟩
    · rename_i q
      refine List.pairwise_cons.mpr ⟨fun x hx => ?_, insI_pw a r h'.2⟩
      rcases List.mem_cons.mp ((insI_perm a r).mem_iff.mp hx) with rfl | hx
      · omega
      · exact h'.1 x hx
theorem srtI_pw : ∀ l : List Int, (srtI l).Pairwise (· ≤ ·)
  | [] => .nil
  | a :: r => insI_pw a _ (srtI_pw r)
theorem pw_uniq {xs ys : List Int} (p : xs.Perm ys) (h : xs.Pairwise (· ≤ ·)) (k : ys.Pairwise (· ≤ ·)) : xs = ys :=
  p.eq_of_pairwise (fun a b _ _ h1 h2 => Int.le_antisymm h1 h2) h k
theorem insU_mem (a x : Int) : ∀ l : List Int, x ∈ insU a l ↔ x = a ∨ x ∈ l
  | [] => by simp [insU]
  | b :: r => by
    unfold insU
    split
    · simp
    · split
      · rename_i q; subst q; simp
      · simp only [List.mem_cons, insU_mem a x r]
        constructor
        · rintro (h | h | h)
          · exact .inr (.inl h)
          · exact .inl h
          · exact .inr (.inr h)
        · rintro (h | h | h)
          · exact .inr (.inl h)
          · exact .inl h
          · exact .inr (.inr h)
theorem srtU_mem (x : Int) : ∀ l : List Int, x ∈ srtU l ↔ x ∈ l
  | [] => Iff.rfl
  | a :: r => by rw [srtU, insU_mem, srtU_mem x r, List.mem_cons]
theorem insU_pw (a : Int) : ∀ l : List Int, l.Pairwise (· < ·) → (insU a l).Pairwise (· < ·)
  | [], _ => by simp [insU]
  | b :: r, h => by
    unfold insU
    have h' := List.pairwise_cons.mp h
    split
    · rename_i q
      exact List.pairwise_cons.mpr ⟨fun x hx => (List.mem_cons.mp hx).elim (fun z => z ▸ q) fun z => Int.lt_trans q (h'.1 x z), h⟩
    · split
      · exact h
      · rename_i q1 q2
        refine List.pairwise_cons.mpr ⟨fun x hx => ?_, insU_pw a r h'.2⟩
        rcases (insU_mem a x r).mp hx with rfl | hx
        · omega
        · exact h'.1 x hx
theorem srtU_pw : ∀ l : List Int, (srtU l).Pairwise (· < ·)
  | [] => .nil
  | a :: r => insU_pw a _ (srtU_pw r)
theorem lt_uniq {xs ys : List Int} (m : ∀ k, k ∈ xs ↔ k ∈ ys) (h : xs.Pairwise (· < ·)) (k : ys.Pairwise (· < ·)) : xs = ys := by
  have n1 : xs.Nodup := h.imp fun q => Int.ne_of_lt q
  have n2 : ys.Nodup := k.imp fun q => Int.ne_of_lt q
  exact pw_uniq ((List.perm_ext_iff_of_nodup n1 n2).mpr m) (h.imp fun q => Int.le_of_lt q) (k.imp fun q => Int.le_of_lt q)
theorem srtI_len (l : List Int) : (srtI l).length = l.length := (srtI_perm l).length_eq
variable [HW]
section
variable {X : Cx} {c : Cf} {o e : Expr} {eo eas : E} {pos p p2 pos2 apos : Pos}
/-! ### d.get -/
theorem get_run (hw : HW.P = X.prog ∧ HW.w = X.w) (hu : X.A.units + 200 < cLine) {Q : VK} {pins : List (Addr × Obj)} {s : Shared} {σ : Sg} {H : Hp} {F : Addr → Prop} (I : Inv X pins σ H s) {x y : V} {us : List Value} {w : W} {kvs : List (W × W)} {xs : List V} {ws : List W} {r : W × Bool} {a : Addr}
    (b : PkR X.K H F (.ref a) (.dct kvs)) (rs : Vals xs us) (ar : PkRs X.K H F xs ws) (h : mthW .get (.dct kvs) ws = some r) (q : Rs X.K H F Q r) : wpAny (model X.prog X.w) X.A (call (.builtin "dict.get") (.ref a :: us)) (EP X pins σ Q) X.xe s := by
  obtain ⟨p, es, e0, ⟨ep, hH⟩, hz, nd, hr⟩ := b.dct
  cases e0
  -- one look
  have main : ∀ {kv : V} {ku : Value} {kw : W}, PkR X.K H F kv kw → RelV kv ku → kOk kw kvs = true → ∀ (d : V) (dv : Value) (dw : W), RelV d dv → HR X.K H F d dw → (∀ v', HR X.K H F v' ((lkW kw kvs).getD dw) → Q v' H) →
      wpAny (model X.prog X.w) X.A (call (.builtin "dict.get") [.ref a, ku, dv]) (EP X pins σ Q) X.xe s ∧ (dv = .none → wpAny (model X.prog X.w) X.A (call (.builtin "dict.get") [.ref a, ku]) (EP X pins σ Q) X.xe s) := fun {kv ku kw} k1 k2 hk d dv dw rd hd q => by
    rcases kOk_of hk with ⟨hk, ht⟩ | ⟨i, rfl, ht⟩
    · obtain ⟨ws', k, cc, rfl, e, dd, rfl, rfl, is, _⟩ := key_at I k1 hk k2
      obtain ⟨hs, xs, hx, dd⟩ := dict_of hw I hH hr nd ht
      obtain ⟨g1, g2⟩ := at_dct e hx
      have fin : EP X pins σ Q (((atKey xs k).map (·.2)).getD dv) { s with toks := s.toks + (nestedKind X.prog X.w).draws k } := by
        cases h : lkW (.tup ws') kvs with
        | some w' =>
          obtain ⟨b', v', u', e2, e3, e4⟩ := g1 _ h
          rw [h] at q
          rw [e2]
          exact ⟨v', _, I.tok _, e3, q _ e4⟩
        | none =>
          rw [h] at q
          rw [g2 h]
          exact ⟨d, _, I.tok _, rd, q _ hd⟩
      refine ⟨call_meetsIn PySem.F.slot_dict_get dd.typeIs PySem.F.entry_dict_get (PySem.F.args_dict_get_3 _ _ _) (meetsH_dict_get_default (nestedKind X.prog X.w) a cc hs dv) ⟨room_d hu, k, xs, is, dd, fin⟩, fun en => ?_⟩
      subst en
      exact call_meetsIn PySem.F.slot_dict_get dd.typeIs PySem.F.entry_dict_get (PySem.F.args_dict_get_2 _ _) (meetsH_dict_get (nestedKind X.prog X.w) a cc hs) ⟨room_d hu, k, xs, is, dd, fin⟩
    · cases k1.int
      obtain ⟨hs, xs, hx, dd⟩ := dict_ofI I hH hr nd ht
      obtain ⟨g1, g2⟩ := at_int (k := i) hx
      have fin : EP X pins σ Q ((valueAt xs i).getD dv) { s with toks := s.toks + 1 } := by
        cases h : lkW (.int i) kvs with
        | some w' =>
          obtain ⟨v', u', e2, e3, e4⟩ := g1 _ h
          rw [h] at q
          rw [e2]
          exact ⟨v', _, I.tok _, e3, q _ e4⟩
        | none =>
          rw [h] at q
          rw [g2 h]
          exact ⟨d, _, I.tok _, rd, q _ hd⟩
      refine ⟨call_meetsIn PySem.F.slot_dict_get dd.typeIs PySem.F.entry_dict_get (PySem.F.args_dict_get_3 _ _ _) (meets_dict_get_default (intKind X.prog X.w) a (int_is k2) hs dv) ⟨_, dd.mapOf, fin⟩, fun en => ?_⟩
      subst en
      exact call_meetsIn PySem.F.slot_dict_get dd.typeIs PySem.F.entry_dict_get (PySem.F.args_dict_get_2 _ _) (meets_dict_get (intKind X.prog X.w) a (int_is k2) hs) ⟨_, dd.mapOf, fin⟩
  match ws, ar, h with
  | [kw], ar, h =>
    have h : (if kOk kw kvs = true then some ((lkW kw kvs).getD .non, false) else none) = some r := h
    obtain ⟨hk, rfl⟩ := of_if h
    obtain ⟨kv, rfl, k1⟩ := ar.one
    cases rs with
    | cons r1 rr =>
      cases rr
      exact (main k1 r1 hk .non .none .non rfl .non fun v' hv => q _ _ (.old hv)).2 rfl
  | [kw, dw], ar, h =>
    have h : (if kOk kw kvs = true ∧ isC dw = false then some ((lkW kw kvs).getD dw, false) else none) = some r := h
    obtain ⟨⟨hk, hd⟩, rfl⟩ := of_if h
    obtain ⟨kv, dv, rfl, k1, k2⟩ := ar.two
    cases rs with
    | cons r1 rr =>
      cases rr with
      | cons r2 rr =>
        cases rr
        have hdr : HR X.K H F dv dw := by
          rcases k2 with k2 | ⟨cc, _, k2⟩
          · exact k2
          · cases dw <;> first | exact k2.elim | (cases hd; done)
        exact (main k1 r1 hk dv _ dw r2 hdr fun v' hv => q _ _ (.old hv)).1
theorem x_get {es : List Expr} (hc : c.K = X.K) (hw : HW.P = X.prog ∧ HW.w = X.w) (hu : X.A.units + 200 < cLine) (hb : ∀ id q r, o ≠ .Call (.Name id q) [] [] r) (hl : (apos.endLine == pos.line) = true)
    (hp : (e :: es).all plainE = true) (hfew : (e :: es).length < 30) (ho : PE X o (tX c eo)) (ha : PA X (e :: es) (tXL c eas)) : PE X (.Call (.Attribute o "get" apos) (e :: es) [] pos) (tX c (.mth .get eo eas)) := by
  have hpe : plainE e = true := by rw [List.all_cons, Bool.and_eq_true] at hp; exact hp.1
  have hps : es.all plainE = true := by rw [List.all_cons, Bool.and_eq_true] at hp; exact hp.2
  refine ⟨fun pins s σ H Q I ⟨A, ρ, F, Pn, hs, q⟩ => ?_⟩
  have ho' : tX c eo σ H fun x H1 => ∃ kvs a es ep, x = .ref a ∧ H1 a = some (dcO a es ep) ∧ DRel c.K H1 (fun _ => True) es kvs ∧ tXL c eas σ H1 fun xs H2 => ∃ F2 ws r kvs', PkR c.K H2 F2 (.ref a) (.dct kvs') ∧ PkRs c.K H2 F2 xs ws ∧ mthW .get (.dct kvs') ws = some r ∧ Rs c.K H2 F2 Q r := by
    refine tX_of (.nil hs) q fun u v ρ1 H1 F1 m1 q1 => ?_
    cases e1 : (res ρ1 u).bind (mTy .get) with
    | none => simp only [e1] at q1; exact q1.elim
    | some k =>
      simp only [e1] at q1
      obtain ⟨w, e2, e3⟩ := res_bind e1
      obtain ⟨_, e, p1⟩ := (m1.pk (ress1 e2)).one
      cases e
      cases w <;> first | (cases e3; done) | skip
      rename_i kvs
      obtain ⟨a, es', rfl, ⟨ep, hH⟩, _, _, hr⟩ := p1.dct
      refine ⟨kvs, a, es', ep, rfl, hH, hr.more fun _ _ => trivial, A, ρ1, F1, pnds [u] [.ref a] ++ Pn, m1.sr, q1.bind.mono (fun as ρ2 h2 vs' H2 F2 st s ar fr => ?_) fun _ _ _ e => e.step m1.st⟩
      have m2 : Md c A σ ρ H F Pn (u :: as) (.ref a :: vs') ρ2 H2 F2 := by
        refine ⟨m1.st.trans st, by simpa [pnds] using s, ?_, fun d x z => ?_⟩
        · cases m1.ar with | cons h _ => exact .cons (h.stp m1.sr st) ar
        · simp only [pnds] at z
          rcases List.mem_append.mp z with z | z
          · exact m1.st.fresh (fr d x z)
          · exact m1.fr d x (by simpa [pnds] using z)
      cases e4 : res ρ2 u with
      | none => simp only [e4] at h2; exact h2.elim
      | some w =>
        simp only [e4] at h2
        obtain ⟨ws, r, e5, e6, q3⟩ := lL_ok h2
        have pk := m2.pk (ws := w :: ws) (by simp [ress, e4, e5])
        cases pk with | cons k1 k2 =>
        cases w <;> first | (cases e6; done) | skip
        exact ⟨F2, ws, r, _, k1, k2, e6, m2.fin q3⟩
  refine wpAny_Call_method_late (base_plain hb) ?_ hl rfl (thn (ho.run pins s σ H _ I ho') fun u s1 ⟨x, H1, I1, rx, kvs, a, es', ep, ex, hH, hr, q1⟩ => ?_)
  · rw [(star_all _ _ hp).2]
    simp [backToKw, keywordEach] at hfew ⊢
    omega
  subst ex
  obtain rfl : u = Value.ref a := rx
  obtain ⟨_, ob, l, h2, h3, h4, _, _⟩ := dc_at I1 hH
  refine ⟨"dict", "dict.get", PySem.F.plainAttrs_dict, PySem.F.slot_dict_get, PySem.F.type_dict_get, (dc_type h2 h3).1, (dc_type h2 h3).2, ?_⟩
  have hA := ha.run pos pins s1 σ H1 _ I1 q1
  rw [star_cons _ hpe _] at hA ⊢
  refine Calls.callWith_builtin (by show (false || (backTo pos (starEach es X.env)).any (·.1)) = false; rw [(star_all _ _ hps).1] <;> rfl) (Calls.evalArgs_plain ?_)
  refine thn hA fun us s2 ⟨vs, H2, I2, r2, F2, ws, r, kvs', k1, k2, e6, q3⟩ => ?_
  rw [hc] at k1 k2 q3
  exact get_run hw hu I2 (x := .non) (y := .non) (w := .non) k1 r2 k2 e6 q3

/-! ### sorted -/
theorem ints_vals {K : PySem.W.Frag} {H : Hp} {F : Addr → Prop} (i : List Int) : HRs K H F (i.map V.int) (i.map W.int) := by
  induction i with
  | nil => exact .nil
  | cons a r ih => exact .cons (.int a) ih
theorem asInts_len : ∀ {ws : List W} {i : List Int}, asInts ws = some i → i.length = ws.length
  | [], i, e => by cases Option.some.inj e; rfl
  | w :: ws, i, e => by
    cases w <;> first | (cases e; done) | skip
    simp only [asInts, Option.map_eq_some_iff] at e
    obtain ⟨j, e, rfl⟩ := e
    simp [asInts_len e]
theorem dkeys {kvs : List (W × W)} {K : PySem.W.Frag} {H : Hp} {F : Addr → Prop} : ∀ {xs : List (Int × Value)}, IR K H F xs kvs → ∀ {i : List Int}, asInts (kvs.map (·.1)) = some i → xs.map (·.1) = i := by
  intro xs h
  induction h with
  | nil => intro i e; cases Option.some.inj e; rfl
  | cons _ _ _ ih =>
    intro i e
    simp only [List.map_cons, asInts, Option.map_eq_some_iff] at e
    obtain ⟨j, e, rfl⟩ := e
    simp [ih e]
theorem allI_of : ∀ {kvs : List (W × W)} {i : List Int}, asInts (kvs.map (·.1)) = some i → allI kvs = true
  | [], _, _ => rfl
  | (k, v) :: r, i, e => by
    cases k <;> first | (cases e; done) | skip
    simp only [List.map_cons, asInts, Option.map_eq_some_iff] at e
    obtain ⟨j, e, rfl⟩ := e
    simp [allI, isI, allI_of e]
theorem call_sortedW (hc : X.calm = true) : CallR X (.builtin "sorted") (rL X.K (biW .sorted)) := by
  intro pins s σ H xs us Q I rx ⟨F, ws, r, a, e, q⟩
  match ws, e, a with
  | [.lst ys], e, a =>
    obtain ⟨v, rfl, b⟩ := a.one
    obtain ⟨i, e1, rfl⟩ := Option.map_eq_some_iff.mp e
    obtain ⟨p, vs, rfl, h1, hz, hr⟩ := b.lst
    obtain rfl := ints_rel hr e1
    refine cr_sortedI pins s σ H _ us Q I rx ⟨p, i, rfl, h1, fun ns' p' g1 g2 g3 => ?_⟩
    obtain rfl : ns' = srtI i := pw_uniq (g1.trans (srtI_perm i).symm) g2 (srtI_pw i)
    exact q _ _ (.lst g3 (by rw [List.length_map, srtI_len, ← List.length_map (f := V.int)]; exact hz) (ints_vals _))
  | [.dct kvs], e, a =>
    obtain ⟨v, rfl, b⟩ := a.one
    have e : (if kvs.length < 64 then (asInts (kvs.map (·.1))).map fun i => (W.lst ((srtI i).map .int), true) else none) = some r := e
    by_cases h64 : kvs.length < 64
    · rw [if_pos h64] at e
      obtain ⟨i, e1, rfl⟩ := Option.map_eq_some_iff.mp e
      obtain ⟨p, es, rfl, ⟨ep, hH⟩, hz, nd, hr⟩ := b.dct
      obtain ⟨hs, xs, hx, dd⟩ := dict_ofI I hH hr nd (allI_of e1)
      obtain ⟨ep', hat⟩ := dd.dictAt
      have hk : xs.map (·.1) = i := dkeys hx e1
      have hl : xs.length = i.length := by rw [← hk, List.length_map]
      have h64' : i.length < 64 := by rw [← hl, hx.length]; exact h64
      obtain ⟨u, eu, ru⟩ := vals1 rx
      subst eu
      cases ru
      refine Calls.call_function_entry PyProof.Rows.kind_sorted PyProof.Rows.plain_sorted PyProof.Rows.entry_sorted (PyProof.Rows.args_sorted1 _) ?_
      unfold Builtin.«sorted»
      refine wpAny_bind (m := checkCount "sorted" 1 1 _) (wpAny_pure ?_)
      refine wpAny_bind (PySem.W.kdu_collect (A := X.A.in1) (PySem.W.kdl_dict (knd := intKind X.prog X.w) (kvs := xs) (ep := ep') hs) (I.ok.hd hc) hat (by rw [hl, sizeLine_eq]; omega) fun h' tk acc kp hacc => ?_)
      have hal : acc.toList.length = i.length := by rw [Array.length_toList, hacc.1, hl]
      have hS : IntsAre acc.toList i := ints_each hal fun j v e => by
        obtain ⟨k, x, k1, k2⟩ := hacc.2 j v (by rw [← Array.getElem?_toList]; exact e)
        obtain ⟨t, rfl⟩ := Value.isInt_shape (show Value.isInt k v = true from k2)
        exact ⟨k, t, by rw [← hk, List.getElem?_map, k1]; rfl, rfl⟩
      have J : Inv X pins σ H { s with heap := h', toks := tk } := I.kept kp
      refine wpAny_bind (wpAny_newList ?_ (by rw [hal, sizeLine_eq]; omega))
      have ho : (h'.push (seqObj "list" acc.toList.toArray 0)).get? h'.objs.size = some (seqObj "list" acc.toList.toArray 0) := Heap.get?_push_size _ rfl
      show wpAny _ _ _ _ _ { s with heap := h'.push (seqObj "list" acc.toList.toArray 0), toks := tk }
      refine wpAny_bind (wpAny_holding (wpAny_call_entry PyProof.Rows.slot_list_sort ⟨_, ho, rfl⟩ PyProof.Rows.entry_list_sort
        (PyProof.Rows.list_sort_tree (s := { s with heap := h'.push (seqObj "list" acc.toList.toArray 0), toks := tk }) ho hS (by rw [hal]; exact h64') fun out ys g1 g2 g3 => ⟨_, rfl, ?_⟩) (PyProof.Rows.args_list_sort _)))
      obtain rfl : ys = srtI i := pw_uniq (g2.trans (srtI_perm i).symm) g3 (srtI_pw i)
      obtain ⟨e', he'⟩ := PyProof.Rows.sortedHeap_at (vs := acc.toList) (out := out) ho
      have hn : ((srtI i).map V.int).length ≤ szL := by rw [List.length_map, srtI_len]; exact Nat.le_trans (Nat.le_of_lt h64') (by decide)
      refine wpAny_pure ⟨_, rfl, .ref h'.objs.size, upd H h'.objs.size (.lst ((srtI i).map V.int)), J.laid (t' := tk) (fun b u k => ?_) (Nat.le_refl _)
        (show ObjOk X.prog X.w _ _ _ (.lst ((srtI i).map V.int)) from ⟨by rw [← szL_eq]; exact hn, out.toList, e', vals_of_ints g1, by rw [Array.toArray_toList]; exact he'⟩), rfl, q _ _ (.lst (J.hok.fresh (Nat.le_refl _)) hn (ints_vals _))⟩
      have hb : b < h'.objs.size := Heap.lt_size k
      rw [PyProof.Rows.sortedHeap_old (Nat.ne_of_lt hb) (by rw [size_push']; exact Nat.lt_succ_of_lt hb)]
      exact Heap.get?_push_of_some _ k
    · rw [if_neg h64] at e; cases e
theorem sorted_setR (hc : X.calm = true) {Q : VK} {pins : List (Addr × Obj)} {s : Shared} {σ : Sg} {H : Hp} {F : Addr → Prop} (I : Inv X pins σ H s) {i : List Int} {a : Addr} {n : Nat} (sr : SetR X.w s.heap a (fun j => decide (j ∈ i)) n) (hn : n ≤ i.length) (h60 : i.length < 60)
    (q : Rs X.K H F Q (.lst ((srtU i).map .int), true)) : wpAny (model X.prog X.w) X.A (call (.builtin "sorted") [.ref a]) (EP X pins σ Q) X.xe s := by
  refine sorted_set sr (I.ok.hd hc) (by omega) fun s' p out c' ns k g o hp hg hi hs hm hl => ?_
  obtain rfl : ns = srtU i := lt_uniq (fun k => by rw [hm k, srtU_mem]; simp) hs (srtU_pw i)
  have hlen : ((srtU i).map V.int).length ≤ szL := by rw [List.length_map, hl]; exact Nat.le_trans hn (Nat.le_trans (Nat.le_of_lt h60) (by decide))
  have hn0 : H p = none := I.hok.fresh hp
  have J : Inv X pins σ (upd H p (.lst ((srtU i).map V.int))) { s with heap := s'.heap, gens := s'.gens, drawn := s'.drawn, toks := s'.toks } :=
    I.call (ch := []) (Un.laid k hp hn0) (I.hok.laid k hp ⟨by rw [← szL_eq]; exact hlen, out.toList, c', vals_of_ints hi, hg⟩) (by rw [g]; exact I.bare) (fun _ z => nomatch z)
  have e : s' = { s with heap := s'.heap, gens := s'.gens, drawn := s'.drawn, toks := s'.toks } := by
    cases s'
    cases s
    cases o
    rfl
  rw [e]
  exact ⟨.ref p, _, J, rfl, q _ _ (.lst hn0 hlen (ints_vals _))⟩
/-- sorted(set(..)) of numbers -/
theorem sset_run (hc : X.calm = true) {Q : VK} {pins : List (Addr × Obj)} {s : Shared} {σ : Sg} {H : Hp} {F : Addr → Prop} (I : Inv X pins σ H s) {us : List Value} {xs : List V} {ws : List W} {r : W × Bool}
    (rs : Vals xs us) (ar : PkRs X.K H F xs ws) (h : biW .set ws = some r) (q : Rs X.K H F Q r) :
    wpAny (model X.prog X.w) X.A (call (.type "set") us) (fun v s' => wpAny (model X.prog X.w) X.A (call (.builtin "sorted") [v]) (EP X pins σ Q) X.xe s') X.xe s := by
  have fin : ∀ {i : List Int}, i.length < 60 → r = (.lst ((srtU i).map .int), true) → ∀ (h' : Heap) (tk c : Nat), SetR X.w h' s.heap.objs.size (fun j => decide (j ∈ i)) c → c ≤ i.length → (∀ b o, s.heap.get? b = some o → h'.get? b = some o) →
      wpAny (model X.prog X.w) X.A (call (.builtin "sorted") [.ref s.heap.objs.size]) (EP X pins σ Q) X.xe { s with heap := h', toks := tk } := fun {i} h60 er h' tk c sr hcl kp => by
    subst er
    exact sorted_setR hc (I.kept (t' := tk) kp) sr hcl h60 q
  match ws, h, ar with
  | [.lst ys], h, ar =>
    obtain ⟨v, rfl, b⟩ := ar.one
    have h : (if ys.length < 60 then (asInts ys).map fun i => (W.lst ((srtU i).map .int), true) else none) = some r := h
    by_cases h60 : ys.length < 60
    · rw [if_pos h60] at h
      obtain ⟨i, e1, rfl⟩ := Option.map_eq_some_iff.mp h
      obtain ⟨p, vs, rfl, h1, hz, hr⟩ := b.lst
      obtain rfl := ints_rel hr e1
      have hl := asInts_len e1
      obtain ⟨its, rv, hl', hz'⟩ := I.list h1
      rw [Vals.ref1 rs]
      refine set_listI i (I.ok.hd hc) hl'.isList (by simpa using rv.ints) (by show i.length + 1 < scanBound; unfold scanBound; omega) fun h' tk c sr hcl kp => fin (by omega) rfl h' tk c sr hcl kp
    · rw [if_neg h60] at h; cases h
  | [.tup ys], h, ar =>
    obtain ⟨v, rfl, b⟩ := ar.one
    have h : (if ys.length < 60 then (asInts ys).map fun i => (W.lst ((srtU i).map .int), true) else none) = some r := h
    by_cases h60 : ys.length < 60
    · rw [if_pos h60] at h
      obtain ⟨i, e1, rfl⟩ := Option.map_eq_some_iff.mp h
      obtain ⟨p, vs, rfl, h1, hz, hr⟩ := b.tup
      obtain rfl := ints_rel hr e1
      have hl := asInts_len e1
      obtain ⟨its, rv, hl', hz'⟩ := I.tuple h1
      rw [Vals.ref1 rs]
      refine call_set_tupI i (I.ok.hd hc) (show s.heap.IsTuple p its.toArray from hl') (by simpa using rv.ints) (by show i.length + 1 < scanBound; unfold scanBound; omega) fun h' tk c sr hcl kp => fin (by omega) rfl h' tk c sr hcl kp
    · rw [if_neg h60] at h; cases h
/-- sorted(set(a)) -/
theorem x_sset {a : Expr} (hc : c.K = X.K) (calm : X.calm = true) (hg : Gl X "sorted") (hm : X.mg "sorted" = none) (hg2 : Gl X "set") (hm2 : X.mg "set" = none) (hp : plainE a = true) (ha : PA X [a] (tXL c eas)) :
    PE X (.Call (.Name "sorted" p) [.Call (.Name "set" p2) [a] [] pos2] [] pos) (tX c (.bi .set eas)) := by
  refine ⟨fun pins s σ H Q I ⟨A, ρ, F, Pn, hs, q⟩ => ?_⟩
  have hA : tXL c eas σ H fun xs H1 => ∃ F1 ws r, PkRs c.K H1 F1 xs ws ∧ biW .set ws = some r ∧ Rs c.K H1 F1 Q r := by
    refine tXL_of hs q fun as vs ρ1 H1 F1 m q1 => ?_
    obtain ⟨w, r, e1, e2, q2⟩ := lL_ok q1
    exact ⟨F1, w, r, m.pk e1, e2, m.fin q2⟩
  have inner : wpAny (model X.prog X.w) X.A (eval (.Call (.Name "set" p2) [a] [] pos2) X.env) (fun v s' => wpAny (model X.prog X.w) X.A (call (.builtin "sorted") [v]) (EP X pins σ Q) X.xe s') X.xe s := by
    refine Call_ (ld_blt I hg2 hm2 boot_set (PyProof.Rows.callWith_type1 (thn (ha.run pos2 pins s σ H _ I hA) fun us s1 ⟨vs, H1, I1, r1, F1, ws, r, k1, k2, k3⟩ => ?_) (star_cons _ hp _) rfl))
    rw [hc] at k1 k3
    exact sset_run calm I1 r1 k1 k2 k3
  refine wpAny_Call_Name_kw (ld_blt I hg hm boot_sorted ?_ (by decide +kernel) (by decide +kernel))
  exact PyProof.Rows.callWith_builtin1 (args_cons (thn inner fun v s1 q1 => args_nil q1) (star_cons _ rfl _)) (star_cons _ rfl _) rfl
theorem x_srt (hc : c.K = X.K) (calm : X.calm = true) (hg : Gl X "sorted") (hm : X.mg "sorted" = none) (hp : plainE e = true) (ha : PA X [e] (tXL c eas)) : PE X (.Call (.Name "sorted" p) [e] [] pos) (tX c (.bi .sorted eas)) := by
  refine peImp (pe_callB (call_sortedW calm) hg hm boot_sorted ha (by decide +kernel) (by decide +kernel) (star_cons _ hp _) rfl) fun σ H Q ⟨A, ρ, F, Pn, hs, q⟩ => ?_
  refine tXL_of hs q fun as vs ρ1 H1 F1 m q1 => ?_
  obtain ⟨w, r, e1, e2, q2⟩ := lL_ok q1
  rw [← hc]
  exact ⟨F1, w, r, m.pk e1, e2, m.fin q2⟩
end
end Py

/-! list(d.items()) -/
namespace Py
open PySem PySem.Spec PyProof.Rows L2
variable [HW]
/-- new pairs, one by one -/
def grw : Hp → List Addr → DEs → Hp
  | H, a :: as, p :: es => grw (upd H a (.tup [p.2.1, p.2.2])) as es
  | H, _, _ => H
theorem grw_off {b : Addr} : ∀ (as : List Addr) (es : DEs) (H : Hp), b ∉ as → grw H as es b = H b
  | [], _, _, _ => rfl
  | _ :: _, [], _, _ => rfl
  | a :: as, p :: es, H, h => by
    show grw (upd H a (.tup [p.2.1, p.2.2])) as es b = H b
    rw [grw_off as es _ (fun z => h (List.mem_cons_of_mem _ z)), upd_ne (fun z => h (by rw [z]; exact List.mem_cons_self))]
theorem grw_at : ∀ (as : List Addr) (es : DEs) (H : Hp), as.length = es.length → as.Nodup → Paired (fun (t : Addr) (p : NestedKey × V × V) => grw H as es t = some (.tup [p.2.1, p.2.2])) as es
  | [], [], _, _, _ => .nil
  | [], _ :: _, _, h, _ => by cases h
  | _ :: _, [], _, h, _ => by cases h
  | a :: as, p :: es, H, h, hn => by
    have hn' := List.nodup_cons.mp hn
    have ih := grw_at as es (upd H a (.tup [p.2.1, p.2.2])) (Nat.succ.inj h) hn'.2
    refine .cons ?_ ih
    show grw (upd H a (.tup [p.2.1, p.2.2])) as es a = some (.tup [p.2.1, p.2.2])
    rw [grw_off as es _ hn'.1, upd_same]
section
variable {X : Cx} {c : Cf} {A : Nat → Option Addr} {σ : Sg} {ρ ρ' : Env} {H H' : Hp} {F F' : Addr → Prop} {Pn : List (Addr × W)}
theorem Md.grow : ∀ (as : List Addr) (es : DEs) {H' : Hp}, Md c A σ ρ H F Pn [] [] ρ' H' F' → as.Nodup → (∀ a ∈ as, H' a = none) → Md c A σ ρ H F Pn [] [] ρ' (grw H' as es) F'
  | [], _, _, m, _, _ => m
  | _ :: _, [], _, m, _, _ => m
  | a :: as, p :: es, H', m, hn, hf => by
    have hn' := List.nodup_cons.mp hn
    have hp := hf a List.mem_cons_self
    refine Md.grow as es (H' := upd H' a (.tup [p.2.1, p.2.2])) ⟨m.st.trans (.alloc hp), m.sr.alloc hp, .nil, fun _ _ h => nomatch h⟩ hn'.2 fun b hb => ?_
    have hne : b ≠ a := fun z => hn'.1 (z ▸ hb)
    exact (upd_ne hne).trans (hf b (List.mem_cons_of_mem _ hb))
theorem DRel.upd {K : PySem.W.Frag} {p : Addr} {o : HO} {es : DEs} {kvs : List (W × W)} (hp : H p = none) (h : DRel K H F es kvs) : DRel K (upd H p o) F es kvs := h.mono (fun _ _ q => SqT.upd hp q) (fun _ q => q) fun _ _ _ q => Rd.upd hp q
theorem DRel.grow {K : PySem.W.Frag} {kvs : List (W × W)} {es : DEs} : ∀ (as : List Addr) (gs : DEs) {H : Hp}, DRel K H F es kvs → as.Nodup → (∀ a ∈ as, H a = none) → DRel K (grw H as gs) F es kvs
  | [], _, _, m, _, _ => m
  | _ :: _, [], _, m, _, _ => m
  | a :: as, p :: gs, H, m, hn, hf => by
    have hn' := List.nodup_cons.mp hn
    have hp := hf a List.mem_cons_self
    refine DRel.grow as gs (H := L2.upd H a (.tup [p.2.1, p.2.2])) (m.upd hp) hn'.2 fun b hb => ?_
    have hne : b ≠ a := fun z => hn'.1 (z ▸ hb)
    exact (upd_ne hne).trans (hf b (List.mem_cons_of_mem _ hb))
/-- the pairs as values -/
theorem pairs_rel {K : PySem.W.Frag} {G : Hp} : ∀ {es : DEs} {kvs : List (W × W)} {as : List Addr}, DRel K G F es kvs → Paired (fun (t : Addr) (p : NestedKey × V × V) => G t = some (.tup [p.2.1, p.2.2])) as es → HRs K G F (as.map V.ref) (kvs.map fun p => .tup [p.1, p.2])
  | _, _, _, .nil, .nil => .nil
  | _, _, _, .cons _ _ h1 h2 t, .cons e r => .cons (.tup (.inl (.inl e)) (by show 2 ≤ szL; unfold szL; omega) (.cons h1 (.cons h2 .nil))) (pairs_rel t r)
  | _, _, _, .consI h2 t, .cons e r => .cons (.tup (.inl (.inl e)) (by show 2 ≤ szL; unfold szL; omega) (.cons (.int _) (.cons h2 .nil))) (pairs_rel t r)
theorem EntR.at' {es : DEs} {l : List DictEntry} (h : EntR es l) : ∀ {i : Nat} {p : NestedKey × V × V}, es[i]? = some p → ∃ e, l[i]? = some e ∧ RelV p.2.1 e.key ∧ RelV p.2.2 e.val := fun {i p} e => by
  obtain ⟨k, x, v⟩ := p
  exact h.at e
theorem lit_laid {pins : List (Addr × Obj)} {s : Shared} {h' : Heap} {tk : Nat} {es : DEs} {l : Array DictEntry} {acc : Array Value} {cc : Nat} {as : List Addr} (I : Inv X pins σ H s) (hz : es.length ≤ sizeLine) (er : EntR es l.toList)
    (hk : ∀ b o, s.heap.get? b = some o → h'.get? b = some o) (hS : h'.get? s.heap.objs.size = some { cls := .type "list", dict := none, data := .seq acc cc, slots := #[] }) (hl : as.length = es.length) (hG : PySem.W.DilG l s.heap.objs.size h' as) (hacc : acc.toList = as.map Value.ref) :
    as.Nodup ∧ (∀ t ∈ as, H t = none) ∧ grw H as es s.heap.objs.size = none ∧ Inv X pins σ (upd (grw H as es) s.heap.objs.size (.lst (as.map V.ref))) { s with heap := h', toks := tk } := by
  have hSn : s.heap.objs.size ∉ as := fun z => Nat.lt_irrefl _ (hG.above _ z)
  have nd : as.Nodup := List.Pairwise.imp (fun {a b} (h : a < b) => Nat.ne_of_lt h) hG.rise
  have new : ∀ t ∈ as, H t = none := fun t ht => I.hok.fresh (Nat.le_of_lt (hG.above t ht))
  have newS : H s.heap.objs.size = none := I.hok.fresh (Nat.le_refl _)
  have gS : grw H as es s.heap.objs.size = none := by rw [grw_off as es H hSn]; exact newS
  have atP := grw_at as es H hl nd
  have low : ∀ b o, s.heap.get? b = some o → b ∉ as ∧ b ≠ s.heap.objs.size := fun b o e => ⟨fun z => absurd (Heap.lt_size e) (Nat.not_lt.mpr (Nat.le_of_lt (hG.above b z))), Nat.ne_of_lt (Heap.lt_size e)⟩
  have off : ∀ b, b ∉ as → b ≠ s.heap.objs.size → upd (grw H as es) s.heap.objs.size (.lst (as.map V.ref)) b = H b := fun b h1 h2 => by rw [upd_ne h2, grw_off as es H h1]
  have kp : ∀ b u, H b = some u → (upd (grw H as es) s.heap.objs.size (.lst (as.map V.ref))) b = some u := fun b u e => by
    rw [off b (fun z => by rw [new b z] at e; cases e) (fun z => by rw [z, newS] at e; cases e)]
    exact e
  refine ⟨nd, new, gS, ?_⟩
  refine I.call' (ch := []) rfl ⟨fun b o q _ _ _ => hk b o q, fun b o q _ _ _ => ⟨o.slots, hk b o q⟩, fun b o q n _ => ?_, fun b o q _ => ⟨o, hk b o q⟩, fun b xs q => kp b _ q, fun b o u q => kp b _ q, fun b ps q => ⟨#[], by rw [kp b _ q]; simp⟩⟩ (fun b u q => ?_) I.bare fun b z => by simp at z
  · obtain ⟨z1, z2⟩ := low b o q
    rw [off b z1 z2]
    exact n
  · by_cases hb : b ∈ as
    · obtain ⟨j, pk, e1, e2, e3⟩ := LiI.paired_ix atP hb
      have hne : b ≠ s.heap.objs.size := fun z => hSn (by rw [← z]; exact hb)
      rw [upd_ne hne, e3] at q
      cases q
      obtain ⟨hj, f3⟩ := hG.pairs j b e1
      obtain ⟨en, g1, g2, g3⟩ := er.at' e2
      have ge : l[j] = en := by
        rw [Array.getElem?_toList, Array.getElem?_eq_getElem hj] at g1
        exact Option.some.inj g1
      rw [ge] at f3
      exact ⟨by show 2 ≤ sizeLine; decide, [en.key, en.val], .cons g2 (.cons g3 .nil), ⟨_, f3, rfl, _, rfl⟩⟩
    · by_cases hb2 : b = s.heap.objs.size
      · rw [hb2] at q ⊢
        rw [upd_same] at q
        cases q
        refine ⟨by rw [List.length_map]; omega, acc.toList, cc, by rw [hacc]; exact LiI.vals_refs as, ?_⟩
        rw [Array.toArray_toList]
        exact hS
      · rw [off b hb hb2] at q
        exact (I.hok b u q).stay (fun d v _ y => hk d v y) (fun d y => kp d _ y) fun d xs y => kp d _ y
/-- list(o.items()) -/
theorem x_lits {o : Expr} {eo : E} {p apos cpos pos : Pos} (hc : c.K = X.K) (calm : X.calm = true) (hg : Gl X "list") (hm : X.mg "list" = none) (hb : ∀ id q r, o ≠ .Call (.Name id q) [] [] r) (hl : (apos.endLine == cpos.line) = true)
    (ho : PE X o (tX c eo)) : PE X (.Call (.Name "list" p) [.Call (.Attribute o "items" apos) [] [] cpos] [] pos) (tX c (.mth .litems eo .nil)) := by
  have hs : starEach [.Call (.Attribute o "items" apos) [] [] cpos] X.env = (false, eval (.Call (.Attribute o "items" apos) [] [] cpos) X.env) :: starEach [] X.env := star_cons _ rfl _
  refine ⟨fun pins s σ H Q I ⟨A, ρ, F, Pn, hsr, q⟩ => ?_⟩
  have ho' : tX c eo σ H fun x H1 => ∃ a es ep, x = .ref a ∧ H1 a = some (dcO a es ep) ∧ es.length ≤ szL ∧ ∀ (S : Addr) (as : List Addr), as.length = es.length → as.Nodup → (∀ t ∈ as, H1 t = none) → grw H1 as es S = none → Q (.ref S) (upd (grw H1 as es) S (.lst (as.map V.ref))) := by
    refine tX_of (.nil hsr) q fun u v ρ1 H1 F1 m1 q1 => ?_
    cases e1 : (res ρ1 u).bind (mTy .litems) with
    | none => simp only [e1] at q1; exact q1.elim
    | some k =>
      simp only [e1] at q1
      obtain ⟨w, e2, e3⟩ := res_bind e1
      obtain ⟨_, e, p1⟩ := (m1.pk (ress1 e2)).one
      cases e
      cases w <;> first | (cases e3; done) | skip
      rename_i kvs
      obtain ⟨a, es, rfl, ⟨ep, hH⟩, hz, _, hr⟩ := p1.dct
      refine ⟨a, es, ep, rfl, hH, hz, fun S as h1 h2 h3 h4 => ?_⟩
      have q2 : OkX (match res ρ1 u with
        | some w => lL (mthW .litems w) [] ρ1
        | none => .bad) (PX c A σ ρ H F Pn Q) (EX c A σ ρ H F Pn) := q1
      rw [e2] at q2
      have q3 : PX c A σ ρ H F Pn Q (.val (.lst (kvs.map fun p => .tup [p.1, p.2])) true) ρ1 := q2
      have m0 : Md c A σ ρ H F Pn [] [] ρ1 H1 F1 := ⟨m1.st, by have := m1.sr.drop; simpa [pnds] using this, .nil, fun _ _ h => nomatch h⟩
      have mg := m0.grow as es h2 h3
      have rel := pairs_rel (hr.grow as es h2 h3) (grw_at as es H1 h1 h2)
      exact mg.fin (r := (.lst (kvs.map fun p => .tup [p.1, p.2]), true)) q3 _ _ (.lst h4 (by rw [List.length_map, h1]; exact hz) rel)
  refine wpAny_Call_Name_kw (ld_blt I hg hm boot_list ?_)
  refine PyProof.Rows.callWith_type1 ?_ hs rfl
  rw [hs]
  show wpAny _ _ (spliced ((false, eval (.Call (.Attribute o "items" apos) [] [] cpos) X.env) :: backTo pos (starEach [] X.env))) _ _ s
  refine Calls.spliced_cons ?_
  refine wpAny_Call_method (T := "dict") (id := "dict.items") (base_plain hb) rfl hl PySem.F.plainAttrs_dict PySem.F.slot_dict_items PySem.F.type_dict_items (thn (ho.run pins s σ H _ I ho') fun u s1 ⟨x, H1, I1, rx, d, es, ep, ex, hd, hz, q⟩ => ?_)
  subst ex
  obtain rfl : u = Value.ref d := rx
  obtain ⟨hs0, ob, l, h2, h3, h4, h5, h6⟩ := dc_at I1 hd
  have I2 : Inv X pins σ H1 { s1 with heap := s1.heap.push { cls := .type "dict_items", data := .fields #[.ref d] } } := I1.kept (t' := s1.toks) fun b ob q => Heap.get?_push_of_some _ q
  refine ⟨(dc_type h2 h3).1, (dc_type h2 h3).2, ?_⟩
  show wpAny _ _ (callWith cpos (.builtin "dict.items") [.ref d] [] []) _ X.xe s1
  refine method_meetsIn PySem.F.slot_dict_items PySem.F.entry_dict_items rfl (PySem.evalArgs_none ⟨rfl, (dc_type h2 h3).1, PySem.F.args_dict_items_1 _, _, meets_dict_items_raw d hs0, ⟨l, ep, ob, h2, h3, h4⟩, ?_⟩)
  refine Calls.spliced_nil ?_
  refine PySem.W.dil_call (es := l) (ep := ep) (I1.ok.hd calm) ⟨_, Heap.get?_push_size _ rfl, rfl, rfl⟩ ⟨ob, Heap.get?_push_of_some _ h2, h3, h4⟩ (by rw [h6]; exact hz) fun h' tk acc c as hk hS hl' hG hacc => ?_
  obtain ⟨k1, k2, k3, J⟩ := lit_laid (tk := tk) I2 hz h5 hk hS (by rw [hl', h6]) hG hacc
  exact ⟨.ref _, _, J, rfl, q _ as (by rw [hl', h6]) k1 k2 k3⟩
end
end Py

namespace Py
open PySem PySem.Spec PyProof.Rows L2
variable [HW]
section
variable {K : PySem.W.Frag} {A : Nat → Option Addr} {σ σ' : Sg} {ρ ρ' : Env} {H H' : Hp} {F F' : Addr → Prop} {Pn : List (Addr × W)}
/-! ### names forgotten and given back -/
theorem wpE_len (ρ : Env) : ∀ l : List Nat, (wpE ρ l).length = ρ.length
  | [] => rfl
  | i :: l => by simp [wpE, wpE_len ρ l]
theorem wpE_in (ρ : Env) : ∀ (l : List Nat) (j : Nat), j ∈ l → (wpE ρ l)[j]? = none ∨ (wpE ρ l)[j]? = some none
  | [], j, h => nomatch h
  | i :: l, j, h => by
    unfold wpE
    by_cases q : j = i
    · subst q
      by_cases hl : j < (wpE ρ l).length
      · right; rw [List.getElem?_set_self hl]
      · left; exact List.getElem?_eq_none_iff.mpr (by simpa using hl)
    · rw [List.getElem?_set_ne (Ne.symm q)]
      exact wpE_in ρ l j (by simpa [q] using h)
theorem wpE_out (ρ : Env) : ∀ (l : List Nat) (j : Nat), j ∉ l → (wpE ρ l)[j]? = ρ[j]?
  | [], j, h => rfl
  | i :: l, j, h => by
    simp only [List.mem_cons, not_or] at h
    unfold wpE
    rw [List.getElem?_set_ne (Ne.symm h.1)]
    exact wpE_out ρ l j h.2
theorem wipe_out' (σ : Sg) : ∀ (l : List Nat) (j : Nat), j ∉ l → (wipe σ l)[j]? = σ[j]?
  | [], j, h => rfl
  | i :: l, j, h => by
    simp only [List.mem_cons, not_or] at h
    unfold wipe
    rw [List.getElem?_set_ne (Ne.symm h.1)]
    exact wipe_out' σ l j h.2
theorem wipe_in' (σ : Sg) : ∀ (l : List Nat) (j : Nat), j ∈ l → (wipe σ l)[j]? = if j < σ.length then some none else none
  | [], j, h => nomatch h
  | i :: l, j, h => by
    unfold wipe
    by_cases q : j = i
    · subst q
      by_cases hl : j < σ.length
      · rw [if_pos hl, List.getElem?_set_self (by rw [wipe_length]; exact hl)]
      · rw [if_neg hl]; exact List.getElem?_eq_none_iff.mpr (by rw [List.length_set, wipe_length]; omega)
    · rw [List.getElem?_set_ne (Ne.symm q)]
      exact wipe_in' σ l j (by simpa [q] using h)
theorem wipe_eq {l : List Nat} (hl : σ'.length = σ.length) (h : ∀ j, j ∉ l → σ'[j]? = σ[j]?) : wipe σ' l = wipe σ l := by
  apply List.ext_getElem?
  intro j
  by_cases q : j ∈ l
  · rw [wipe_in' σ' l j q, wipe_in' σ l j q, hl]
  · rw [wipe_out' σ' l j q, wipe_out' σ l j q]; exact h j q
theorem rsE_len (ρ0 ρ : Env) : ∀ l : List Nat, (rsE ρ0 ρ l).length = ρ.length
  | [] => rfl
  | i :: l => by
    unfold rsE
    split
    · simp [rsE_len ρ0 ρ l]
    · exact rsE_len ρ0 ρ l
theorem rsE_out (ρ0 ρ : Env) : ∀ (l : List Nat) (j : Nat), j ∉ l → (rsE ρ0 ρ l)[j]? = ρ[j]?
  | [], j, h => rfl
  | i :: l, j, h => by
    simp only [List.mem_cons, not_or] at h
    unfold rsE
    split
    · rw [List.getElem?_set_ne (Ne.symm h.1)]; exact rsE_out ρ0 ρ l j h.2
    · exact rsE_out ρ0 ρ l j h.2
theorem rsE_in {ρ0 ρ : Env} (hl : ρ0.length = ρ.length) : ∀ (l : List Nat) (j : Nat), j ∈ l → (rsE ρ0 ρ l)[j]? = ρ0[j]?
  | [], j, h => nomatch h
  | i :: l, j, h => by
    unfold rsE
    by_cases q : j = i
    · subst q
      cases e : ρ0[j]? with
      | some x =>
        have hj := lt_of_get e
        dsimp only
        rw [List.getElem?_set_self (by rw [rsE_len]; omega)]
      | none =>
        dsimp only
        have : ρ0.length ≤ j := List.getElem?_eq_none_iff.mp e
        exact List.getElem?_eq_none_iff.mpr (by rw [rsE_len]; omega)
    · have ih := rsE_in hl l j (by simpa [q] using h)
      cases e : ρ0[i]? with
      | some x => dsimp only; rw [List.getElem?_set_ne (Ne.symm q)]; exact ih
      | none => exact ih

/-- the objects of forgotten names -/
def pw1 (σ : Sg) (ρ : Env) (i : Nat) : List (Addr × W) := match ρ[i]?, σ[i]? with
  | some (some (w, f)), some (some (.ref a)) => if f = .sh then [] else [(a, w)]
  | _, _ => []
def pw (σ : Sg) (ρ : Env) : List Nat → List (Addr × W)
  | [] => []
  | i :: r => pw1 σ ρ i ++ pw σ ρ r
theorem pw1_mem {i : Nat} {p : Addr × W} : p ∈ pw1 σ ρ i ↔ ∃ f, ρ[i]? = some (some (p.2, f)) ∧ f ≠ Fl.sh ∧ σ[i]? = some (some (.ref p.1)) := by
  unfold pw1
  constructor
  · intro h
    split at h
    · rename_i w f a e1 e2
      by_cases q : f = .sh
      · rw [if_pos q] at h; cases h
      · rw [if_neg q] at h
        obtain rfl := List.mem_singleton.mp h
        exact ⟨f, e1, q, e2⟩
    · cases h
  · rintro ⟨f, e1, q, e2⟩
    rw [e1, e2]
    simp [q]
theorem pw_mem {p : Addr × W} : ∀ {l : List Nat}, p ∈ pw σ ρ l ↔ ∃ i ∈ l, ∃ f, ρ[i]? = some (some (p.2, f)) ∧ f ≠ Fl.sh ∧ σ[i]? = some (some (.ref p.1))
  | [] => by simp [pw]
  | i :: l => by
    unfold pw
    rw [List.mem_append, pw1_mem, pw_mem (l := l)]
    simp
theorem pw_sla {p : Addr × W} {l : List Nat} (h : p ∈ pw σ ρ l) : ∃ i ∈ l, SlA σ ρ i p.1 := by
  obtain ⟨i, hi, f, e1, e2, e3⟩ := pw_mem.mp h
  exact ⟨i, hi, p.2, f, e1, e2, e3⟩
theorem pw_nodup (hs : SRel K A σ ρ H F Pn) : ∀ {l : List Nat}, l.Nodup → ((pw σ ρ l).map (·.1)).Nodup
  | [], _ => List.nodup_nil
  | i :: l, h => by
    obtain ⟨h1, h2⟩ := List.nodup_cons.mp h
    unfold pw
    rw [List.map_append]
    refine List.nodup_append.mpr ⟨?_, pw_nodup hs h2, fun a ha b hb e => ?_⟩
    · unfold pw1
      split
      · split <;> simp
      · simp
    · obtain ⟨p, hp, rfl⟩ := List.mem_map.mp ha
      obtain ⟨q, hq, rfl⟩ := List.mem_map.mp hb
      obtain ⟨f, e1, e2, e3⟩ := pw1_mem.mp hp
      obtain ⟨j, hj, s⟩ := pw_sla hq
      have : i = j := hs.dj i j p.1 ⟨p.2, f, e1, e2, e3⟩ (e ▸ s)
      exact h1 (this ▸ hj)
theorem sla_wp {l : List Nat} {j : Nat} {a : Addr} (h : SlA (wipe σ l) (wpE ρ l) j a) : j ∉ l ∧ SlA σ ρ j a := by
  obtain ⟨w, f, e, n, s⟩ := h
  by_cases q : j ∈ l
  · rcases wpE_in ρ l j q with z | z <;> (rw [z] at e; cases e)
  · rw [wpE_out ρ l j q] at e
    rw [wipe_out' σ l j q] at s
    exact ⟨q, w, f, e, n, s⟩
theorem om_wp {l : List Nat} {a : Addr} (h : Om (wipe σ l) (wpE ρ l) a) : Om σ ρ a := by
  obtain ⟨j, w, f, e, n, s⟩ := h
  by_cases q : j ∈ l
  · rcases wpE_in ρ l j q with z | z <;> (rw [z] at e; cases e)
  · rw [wpE_out ρ l j q] at e
    rw [wipe_out' σ l j q] at s
    exact ⟨j, w, f, e, n, s⟩
theorem ow_wp {l : List Nat} {a : Addr} (h : Ow (wipe σ l) (wpE ρ l) a) : Ow σ ρ a := by
  obtain ⟨j, w, f, e, n, s⟩ := h
  by_cases q : j ∈ l
  · rcases wpE_in ρ l j q with z | z <;> (rw [z] at e; cases e)
  · rw [wpE_out ρ l j q] at e
    rw [wipe_out' σ l j q] at s
    exact ⟨j, w, f, e, n, s⟩
theorem SRel.wipe (hs : SRel K A σ ρ H F Pn) {l : List Nat} (nd : l.Nodup) : SRel K A (wipe σ l) (wpE ρ l) H F (pw σ ρ l ++ Pn) := by
  refine ⟨by rw [wpE_len, wipe_length]; exact hs.ln, fun j w e => ?_, fun j w f e n => ?_, fun j w f e q => ?_, fun i j a h1 h2 => hs.dj i j a (sla_wp h1).2 (sla_wp h2).2, fun p hp => ?_, ?_, hs.ff⟩
  · by_cases q : j ∈ l
    · rcases wpE_in ρ l j q with z | z <;> (rw [z] at e; cases e)
    · rw [wpE_out ρ l j q] at e
      rw [wipe_out' σ l j q]
      exact hs.sh j w e
  · by_cases q : j ∈ l
    · rcases wpE_in ρ l j q with z | z <;> (rw [z] at e; cases e)
    · rw [wpE_out ρ l j q] at e
      rw [wipe_out' σ l j q]
      exact hs.ow j w f e n
  · by_cases z : j ∈ l
    · rcases wpE_in ρ l j z with z | z <;> (rw [z] at e; cases e)
    · rw [wpE_out ρ l j z] at e
      rw [wipe_out' σ l j z]
      exact hs.io j w f e q
  · rcases List.mem_append.mp hp with hp | hp
    · obtain ⟨i, hi, f, e1, e2, e3⟩ := pw_mem.mp hp
      obtain ⟨a, x, y, z⟩ := hs.ow i p.2 f e1 e2
      rw [e3] at x; cases x
      refine ⟨y, z, fun j s => ?_⟩
      obtain ⟨nj, s⟩ := sla_wp s
      exact nj (hs.dj i j p.1 ⟨p.2, f, e1, e2, e3⟩ s ▸ hi)
    · obtain ⟨x, y, z⟩ := hs.pn p hp
      exact ⟨x, y, fun j s => z j (sla_wp s).2⟩
  · rw [List.map_append]
    refine List.nodup_append.mpr ⟨pw_nodup hs nd, hs.pd, fun a ha b hb e => ?_⟩
    obtain ⟨p, hp, rfl⟩ := List.mem_map.mp ha
    obtain ⟨q, hq, rfl⟩ := List.mem_map.mp hb
    obtain ⟨i, _, s⟩ := pw_sla hp
    exact (hs.pn q hq).2.2 i (e ▸ s)
theorem Stp.wipe {l : List Nat} : Stp σ ρ H F (wipe σ l) (wpE ρ l) H F :=
  ⟨fun _ _ h _ => h, fun _ h => h, fun _ _ _ h => .inl h, fun _ _ _ h => om_wp h, fun _ _ _ _ h => (sla_wp h).2, fun _ _ _ h => ow_wp h, fun _ o h => ⟨o, h⟩⟩
/-- given back, behind the loop -/
theorem SRel.back {l : List Nat} {ρL : Env} {H1 : Hp} {F1 : Addr → Prop} {P0 P1 : List (Addr × W)} (hL : SRel K A σ ρL H1 F1 P0) (hs : SRel K A (L2.wipe σ l) (wpE ρ l) H F (Pn ++ (pw σ ρL l ++ P1))) (st : Stp σ ρL H1 F1 (L2.wipe σ l) (wpE ρ l) H F) :
    SRel K A σ (rsE ρL ρ l) H F (Pn ++ P1) ∧ Stp σ ρL H1 F1 σ (rsE ρL ρ l) H F := by
  have hlen : ρL.length = ρ.length := by have := hs.ln; rw [wpE_len, wipe_length] at this; rw [hL.ln, this]
  have get : ∀ (j : Nat) (x : Option (W × Fl)), (rsE ρL ρ l)[j]? = some x → (j ∈ l ∧ ρL[j]? = some x) ∨ (j ∉ l ∧ (wpE ρ l)[j]? = some x ∧ (L2.wipe σ l)[j]? = σ[j]?) := fun j x e => by
    by_cases q : j ∈ l
    · rw [rsE_in hlen l j q] at e; exact .inl ⟨q, e⟩
    · rw [rsE_out ρL ρ l j q] at e
      exact .inr ⟨q, by rw [wpE_out ρ l j q]; exact e, wipe_out' σ l j q⟩
  have sl : ∀ j a, SlA σ (rsE ρL ρ l) j a → (j ∈ l ∧ SlA σ ρL j a) ∨ (j ∉ l ∧ SlA (L2.wipe σ l) (wpE ρ l) j a) := fun j a ⟨w, f, e, n, s⟩ => by
    rcases get j _ e with ⟨q, e⟩ | ⟨q, e, z⟩
    · exact .inl ⟨q, w, f, e, n, s⟩
    · exact .inr ⟨q, w, f, e, n, by rw [z]; exact s⟩
  have inp : ∀ j a, j ∈ l → SlA σ ρL j a → ∃ w, (a, w) ∈ pw σ ρL l := fun j a hj ⟨w, f, e, n, s⟩ => ⟨w, pw_mem.mpr ⟨j, hj, f, e, n, s⟩⟩
  refine ⟨⟨by rw [rsE_len, ← hlen]; exact hL.ln, fun j w e => ?_, fun j w f e n => ?_, fun j w f e q => ?_, fun i j a h1 h2 => ?_, fun p hp => ?_, ?_, hs.ff⟩, ⟨st.kp, st.fr, st.nf, fun a o h z => ?_, fun a o h j z => ?_, fun a o h z => ?_, st.al⟩⟩
  · rcases get j _ e with ⟨q, e⟩ | ⟨q, e, z⟩
    · obtain ⟨v, a, b⟩ := hL.sh j w e
      exact ⟨v, a, st.hr hL b⟩
    · rw [← z]; exact hs.sh j w e
  · rcases get j _ e with ⟨q, e⟩ | ⟨q, e, z⟩
    · obtain ⟨a, x, y, z⟩ := hL.ow j w f e n
      obtain ⟨x1, x2, _⟩ := hs.pn (a, w) (List.mem_append_right _ (List.mem_append_left _ (pw_mem.mpr ⟨j, q, f, e, n, x⟩)))
      exact ⟨a, x, x1, x2⟩
    · rw [← z]; exact hs.ow j w f e n
  · rcases get j _ e with ⟨z, e⟩ | ⟨z, e, z'⟩
    · exact hL.io j w f e q
    · rw [← z']; exact hs.io j w f e q
  · rcases sl i a h1 with ⟨q1, s1⟩ | ⟨q1, s1⟩
    · rcases sl j a h2 with ⟨q2, s2⟩ | ⟨q2, s2⟩
      · exact hL.dj i j a s1 s2
      · obtain ⟨w, hw⟩ := inp i a q1 s1
        exact absurd s2 ((hs.pn (a, w) (List.mem_append_right _ (List.mem_append_left _ hw))).2.2 j)
    · rcases sl j a h2 with ⟨q2, s2⟩ | ⟨q2, s2⟩
      · obtain ⟨w, hw⟩ := inp j a q2 s2
        exact absurd s1 ((hs.pn (a, w) (List.mem_append_right _ (List.mem_append_left _ hw))).2.2 i)
      · exact hs.dj i j a s1 s2
  · have hm : p ∈ Pn ++ (pw σ ρL l ++ P1) := by
      rcases List.mem_append.mp hp with z | z
      · exact List.mem_append_left _ z
      · exact List.mem_append_right _ (List.mem_append_right _ z)
    obtain ⟨x, y, z⟩ := hs.pn p hm
    refine ⟨x, y, fun j s => ?_⟩
    rcases sl j _ s with ⟨q1, s1⟩ | ⟨q1, s1⟩
    · obtain ⟨w, hw⟩ := inp j _ q1 s1
      have nd := hs.pd
      rw [List.map_append, List.map_append] at nd
      have hw' : p.1 ∈ (pw σ ρL l).map (·.1) := List.mem_map_of_mem (f := (·.1)) hw
      obtain ⟨n1, n2, n3⟩ := List.nodup_append.mp nd
      rcases List.mem_append.mp hp with k | k
      · exact n3 _ (List.mem_map_of_mem k) _ (List.mem_append_left _ hw') rfl
      · exact (List.nodup_append.mp n2).2.2 _ hw' _ (List.mem_map_of_mem k) rfl
    · exact z j s1
  · have nd := hs.pd
    rw [List.map_append, List.map_append] at nd
    obtain ⟨n1, n2, n3⟩ := List.nodup_append.mp nd
    rw [List.map_append]
    exact List.nodup_append.mpr ⟨n1, (List.nodup_append.mp n2).2.1, fun a ha b hb => n3 a ha b (List.mem_append_right _ hb)⟩
  · obtain ⟨j, w, f, e, n, s⟩ := z
    rcases get j _ e with ⟨q, e⟩ | ⟨q, e, z'⟩
    · exact ⟨j, w, f, e, n, s⟩
    · exact st.no a o h ⟨j, w, f, e, n, by rw [z']; exact s⟩
  · rcases sl j a z with ⟨_, s⟩ | ⟨_, s⟩
    · exact s
    · exact st.ns a o h j s
  · obtain ⟨j, w, f, e, n, s⟩ := z
    rcases get j _ e with ⟨q, e⟩ | ⟨q, e, z'⟩
    · exact ⟨j, w, f, e, n, s⟩
    · exact st.nw a o h ⟨j, w, f, e, n, by rw [z']; exact s⟩
/-- the new list grows -/
theorem SRel.grow {D : Addr} {w : W} {us : List V} {ws : List W} (hs : SRel K A σ ρ H F ((D, w) :: Pn)) (hz : us.length ≤ szL) (hr : HRs K H F us ws) :
    SRel K A σ ρ (upd H D (.lst us)) F ((D, .lst ws) :: Pn) := by
  obtain ⟨nF, hc, nS⟩ := hs.pn (D, w) (by simp)
  obtain ⟨l0, e0, m0⟩ := hc.obj
  have nd := hs.pd
  simp only [List.map_cons, List.nodup_cons] at nd
  have rd : ∀ a u, a ≠ D → Rd H a u → Rd (upd H D (.lst us)) a u := fun a u n h => by
    rcases h with h | ⟨o, h⟩
    · exact .inl (by rw [upd_ne n]; exact h)
    · exact .inr ⟨o, by rw [upd_ne n]; exact h⟩
  have sq : ∀ a xs, SqT K H a xs → SqT K (upd H D (.lst us)) a xs := fun a xs h => by
    rcases h with h | h
    · refine .inl (rd a _ ?_ h)
      rintro rfl
      exact no_tup e0 m0 h
    · exact .inr h
  have hrm : ∀ {v : V} {x : W}, HR K H F v x → HR K (upd H D (.lst us)) F v x := fun h => h.mono sq (fun _ q => q) fun a xs f r => rd a _ (fun z => nF (z ▸ f)) r
  have hrs : ∀ {v : List V} {x : List W}, HRs K H F v x → HRs K (upd H D (.lst us)) F v x := fun h => h.mono sq (fun _ q => q) fun a xs f r => rd a _ (fun z => nF (z ▸ f)) r
  have hds : ∀ {es : DEs} {x : List (W × W)}, DRel K H F es x → DRel K (upd H D (.lst us)) F es x := fun h => h.mono sq (fun _ q => q) fun a xs f r => rd a _ (fun z => nF (z ▸ f)) r
  have cell : ∀ {a : Addr} {x : W}, a ≠ D → Cell K H F a x → Cell K (upd H D (.lst us)) F a x := fun {a x} n h => by
    cases x <;> first | exact h.elim | skip
    · obtain ⟨l, e, z, r⟩ := h
      exact ⟨l, by rw [upd_ne n]; exact e, z, hrs r⟩
    · obtain ⟨l, e, z, k, r⟩ := h
      exact ⟨l, by rw [upd_ne n]; exact e, z, k, hds r⟩
  refine ⟨hs.ln, fun j x e => ?_, fun j x f e n => ?_, hs.io, hs.dj, fun p hp => ?_, by simpa using hs.pd, fun a f => ?_⟩
  · obtain ⟨v, a, b⟩ := hs.sh j x e
    exact ⟨v, a, hrm b⟩
  · obtain ⟨a, y, z, k⟩ := hs.ow j x f e n
    exact ⟨a, y, z, cell (fun q => nS j ⟨x, f, e, n, q ▸ y⟩) k⟩
  · rcases List.mem_cons.mp hp with rfl | hp
    · exact ⟨nF, ⟨us, upd_same, hz, hrs hr⟩, nS⟩
    · obtain ⟨x, y, z⟩ := hs.pn p (List.mem_cons_of_mem _ hp)
      exact ⟨x, cell (fun q => nd.1 (q ▸ List.mem_map_of_mem hp)) y, z⟩
  · obtain ⟨o, e⟩ := hs.ff a f
    have n : a ≠ D := fun z => nF (by show F D; rw [← z]; exact f)
    exact ⟨o, by rw [upd_ne n]; exact e⟩
end

/-! ### a list comprehension -/
/-- in a comprehension's block nothing is raised -/
def Cf.nox (c : Cf) : Cf := { c with wx := fun _ _ _ _ => False }
section
variable {X : Cx} {c : Cf} {elt tg iter : Expr} {ee et eas : E} {pos : Pos}
theorem lcL_inv {step : W → Env → Out (Option W)} {w : W} {r acc accF : List W} {ρ ρ3 : Env} (h : lcL step (w :: r) acc ρ = .ok accF ρ3) :
    (∃ y ρ1, step w ρ = .ok (some y) ρ1 ∧ lcL step r (acc ++ [y]) ρ1 = .ok accF ρ3) ∨ ∃ ρ1, step w ρ = .ok none ρ1 ∧ lcL step r acc ρ1 = .ok accF ρ3 := by
  simp only [lcL] at h
  split at h
  · rename_i y ρ1 e
    exact .inl ⟨y, ρ1, e, h⟩
  · rename_i ρ1 e
    exact .inr ⟨ρ1, e, h⟩
  · cases h
/-- what stands between two turns -/
structure LcI (c : Cf) (A : Nat → Option Addr) (σ : Sg) (ρL : Env) (H1 : Hp) (F1 : Addr → Prop) (own : List Nat) (P1 : List (Addr × W)) (D : Addr) (step : W → Env → Out (Option W)) (its accF : List W) (ρ3 : Env) (i : Nat) (H : Hp) : Prop where
  ex : ∃ ρ F acc, i ≤ its.length ∧ acc.length ≤ i ∧ lcL step (its.drop i) acc ρ = .ok accF ρ3 ∧
    SRel c.K A (L2.wipe σ own) (wpE ρ own) H F ([(D, .lst acc)] ++ (pw σ ρL own ++ P1)) ∧ Stp σ ρL H1 F1 (L2.wipe σ own) (wpE ρ own) H F
theorem lc_read {A : Nat → Option Addr} {σ : Sg} {ρL : Env} {H1 : Hp} {F1 : Addr → Prop} {P1 : List (Addr × W)} {p : Pt} {own : List Nat} {its accF : List W} {ρ3 : Env} {J : It} {Q : Hp → Prop} (nd : own.Nodup) (hsub : ∀ j ∈ p.ns, j ∈ own) (hL : SRel c.K A σ ρL H1 F1 P1) (G : ItG c.K σ ρL H1 F1 J its) {D : Addr} (hD : H1 D = none) (hz : its.length ≤ szL)
    (hl : lcL (stepE own p (ev c.C et).t (ev c.C ee).x) its [] ρL = .ok accF ρ3)
    (fin : ∀ H F, SRel c.K A σ (rsE ρL ρ3 own) H F ([(D, .lst accF)] ++ P1) → Stp σ ρL H1 F1 σ (rsE ρL ρ3 own) H F → Q H) :
    ∃ W : Nat → Nat → Hp → Prop, (∃ m, W 0 m (upd H1 D (.lst []))) ∧ ∀ i m H, W i m H → (J.stop i H ∧ Q H) ∨ (J.go i H ∧ ∃ Nx : Hp → Prop, (∀ H', Nx H' → ∃ m', m' < m ∧ W (i + 1) m' H') ∧ ∀ x H', J.yld i H x H' →
      gP c.K p x (L2.wipe σ own) H' fun σ2 H2 => L2.wipe σ2 own = L2.wipe σ own ∧ tXB c.nox et σ2 H2 fun b H3 => if b = true then tX c.nox ee σ2 H3 fun y H4 => ∃ acc, H4 D = some (.lst acc) ∧ acc.length < sizeLine ∧ Nx (upd H4 D (.lst (acc ++ [y]))) else Nx H3) := by
  generalize hst : stepE own p (ev c.C et).t (ev c.C ee).x = step at hl
  refine ⟨fun i m H => m = its.length - i ∧ LcI c A σ ρL H1 F1 own P1 D step its accF ρ3 i H, ⟨_, rfl, ⟨ρL, F1, [], Nat.zero_le _, Nat.le_refl _, hl, ?_, ?_⟩⟩, ?_⟩
  · exact (hL.wipe nd).pend (w := .lst []) hD ⟨[], upd_same, Nat.zero_le _, .nil⟩
  · exact Stp.wipe.trans (.alloc hD)
  rintro i m H ⟨rfl, ⟨ρ, F, acc, hi, ha, hl, hs, st⟩⟩
  by_cases hlt : i < its.length
  · refine .inr ⟨G.go i H F _ _ st hlt, LcI c A σ ρL H1 F1 own P1 D step its accF ρ3 (i + 1), fun H' n => ⟨its.length - (i + 1), by omega, rfl, n⟩, fun x H' y => ?_⟩
    obtain ⟨w, ew, nw⟩ := G.yl i H F _ _ x H' st hlt y
    have ed : its.drop i = w :: its.drop (i + 1) := by
      rw [List.drop_eq_getElem_cons hlt]
      congr 1
      rw [List.getElem?_eq_getElem hlt] at ew
      exact Option.some.inj ew
    rw [ed] at hl
    -- the item's heap
    obtain ⟨s1, hr, t1⟩ : SRel c.K A (L2.wipe σ own) (wpE ρ own) H' F ([(D, .lst acc)] ++ (pw σ ρL own ++ P1)) ∧ HR c.K H' F x w ∧ Stp (L2.wipe σ own) (wpE ρ own) H F (L2.wipe σ own) (wpE ρ own) H' F := by
      cases nw with
      | old r => exact ⟨hs, r, .refl⟩
      | tup hp z r => exact ⟨hs.alloc hp, .tup (.inl (.inl upd_same)) z (r.upd hp), .alloc hp⟩
    have sw : ∃ o ρd, step w ρ = .ok o ρd ∧ lcL step (its.drop (i + 1)) (match o with | some y => acc ++ [y] | none => acc) ρd = .ok accF ρ3 := by
      rcases lcL_inv hl with ⟨y, ρd, e, h⟩ | ⟨ρd, e, h⟩
      · exact ⟨some y, ρd, e, h⟩
      · exact ⟨none, ρd, e, h⟩
    obtain ⟨o, ρd, es, hl'⟩ := sw
    rw [← hst] at es
    unfold stepE at es
    cases ea : asP p w (wpE ρ own) with
    | none => rw [ea] at es; cases es
    | some ρa =>
      rw [ea] at es
      obtain ⟨k, ρb, et', es⟩ := bind_ok es
      refine ⟨A, wpE ρ own, F, _, w, ρa, s1, hr, ea, fun σ2 s2 t2 off => ?_⟩
      have hw : L2.wipe σ2 own = L2.wipe σ own := by
        rw [wipe_eq (σ := L2.wipe σ own) off.1 fun j hj => (off.2 j fun z => hj (hsub j z)).1]
        exact wipe_eq (by rw [wipe_length]) fun j hj => wipe_out' σ own j hj
      refine ⟨hw, A, ρa, F, _, s2, ?_⟩
      rw [show (ev c.nox.C et).t ρa = _ from et']
      intro H3 F3 t3 s3
      -- the turn's end
      have next : ∀ {H5 : Hp} {F5 : Addr → Prop} {acc' : List W}, acc'.length ≤ i + 1 → lcL step (its.drop (i + 1)) acc' ρd = .ok accF ρ3 → SRel c.K A σ2 ρd H5 F5 ([(D, .lst acc')] ++ (pw σ ρL own ++ P1)) → Stp σ ρL H1 F1 σ2 ρd H5 F5 → LcI c A σ ρL H1 F1 own P1 D step its accF ρ3 (i + 1) H5 := fun {H5 F5 acc'} hz' hl5 s5 t5 => by
        refine ⟨ρd, F5, acc', hlt, hz', hl5, ?_, ?_⟩
        · rw [← hw]; exact (s5.wipe nd).drop
        · rw [← hw]; exact t5.trans .wipe
      have t13 : Stp σ ρL H1 F1 σ2 ρb H3 F3 := ((st.trans t1).trans t2).trans t3
      cases k with
      | false =>
        refine iteF ?_
        obtain ⟨rfl, rfl⟩ : none = o ∧ ρb = ρd := by simpa using es
        exact next (acc' := acc) (by omega) hl' s3 t13
      | true =>
        refine iteT ?_
        have es : stepV (ev c.C ee).x ρb = .ok o ρd := es
        unfold stepV at es
        obtain ⟨a, ρc, ex', es⟩ := bind_ok es
        cases eh : shr ρc a with
        | none => rw [eh] at es; cases es
        | some q =>
          obtain ⟨w', ρe⟩ := q
          rw [eh] at es
          obtain ⟨rfl, rfl⟩ : some w' = o ∧ ρe = ρd := by simpa using es
          refine ⟨A, ρb, F3, _, s3, ?_⟩
          rw [show (ev c.nox.C ee).x ρb = _ from ex']
          intro v H4 F4 t4 s4 ar fr
          have s4' : SRel c.K A σ2 ρc H4 F4 ([] ++ pnd a v ++ ([(D, .lst acc)] ++ (pw σ ρL own ++ P1))) := s4
          obtain ⟨F5, s5, r5, m5, k5⟩ := AR.share s4' ar eh
          have s5 : SRel c.K A σ2 ρe H4 F5 ([(D, .lst acc)] ++ (pw σ ρL own ++ P1)) := by simpa using s5
          obtain ⟨_, ⟨us, e1, e2, e3⟩, _⟩ := s5.pn (D, .lst acc) (by simp)
          have e3l := e3.length
          have hzz : (us ++ [v]).length ≤ szL := by rw [List.length_append]; simp; omega
          refine ⟨us, e1, by rw [← szL_eq]; omega, next (acc' := acc ++ [w']) (by simp; omega) hl' (SRel.grow s5 hzz (e3.append (.one r5))) ?_⟩
          have t5 := k5 H3 F3 ρb t4 fr
          have t6 : Stp σ ρL H1 F1 σ2 ρe H4 F5 := t13.trans t5
          have hD1 : ∀ a o, H1 a = some o → a ≠ D := fun a o h z => by rw [z, hD] at h; cases h
          exact ⟨fun a o h n => by rw [upd_ne (hD1 a o h)]; exact t6.kp a o h n, t6.fr, t6.nf, t6.no, t6.ns, t6.nw, fun a o h => by rw [upd_ne (hD1 a o h)]; exact t6.al a o h⟩
  · have e : i = its.length := by omega
    subst e
    rw [List.drop_length] at hl
    obtain ⟨rfl, rfl⟩ : acc = accF ∧ ρ = ρ3 := by simpa [lcL] using hl
    obtain ⟨s1, t1⟩ := SRel.back (Pn := [(D, .lst acc)]) hL hs st
    exact .inl ⟨G.st _ H F _ _ st (Nat.le_refl _), fin H F s1 t1⟩
theorem lc_imp {k : IK} {p : Pt} {own : List Nat} {σ : Sg} {H : Hp} {Q : VK} (nd : own.Nodup) (hsub : ∀ j ∈ p.ns, j ∈ own) (h : tX c (.lc ee p et k eas own) σ H Q) : tLc (tI c k eas) (gP c.K p) (tXB c.nox et) (tX c.nox ee) own σ H Q := by
  obtain ⟨A, ρ, F, Pn, hs, q⟩ := h
  refine ⟨A, ρ, F, Pn, hs, q.bind.mono (fun us ρ1 q1 => ?_) fun _ _ _ e => e⟩
  cases e1 : (ress ρ1 us).bind (itW k) with
  | none => simp only [e1] at q1; exact q1.elim
  | some its =>
    simp only [e1] at q1
    refine ⟨its, rfl, fun J vs H1 F1 m G D hD => ?_⟩
    obtain ⟨sL, _⟩ := lk_ok (as := us) m.sr
    cases e2 : lcL (stepE own p (ev c.C et).t (ev c.C ee).x) its [] (lkE ρ1 us) with
    | bad => simp only [e2] at q1; exact q1.elim
    | ex x pl ρ3 => simp only [e2] at q1; exact q1.elim
    | ok acc ρ3 =>
      simp only [e2] at q1
      by_cases hz : its.length ≤ szL
      · rw [if_pos hz] at q1
        refine lc_read nd hsub sL G hD hz e2 fun H' F' s' t' => ?_
        have t1 := (lk_stp (as := us) m.sr).trans t'
        obtain ⟨s2, t2⟩ := ul_ok (as := us) t1 s'
        have hDn : H D = none := m.st.fresh hD
        refine q1 (.ref D) H' F' (m.st.trans t2) ?_ ⟨D, rfl⟩ fun d x z => ?_
        · have : SRel c.K A σ (ulE ρ1 (rsE (lkE ρ1 us) ρ3 own) us) H' F' (pnds us vs ++ ((D, .lst acc) :: Pn)) := s2.perm (by simpa using List.perm_middle.symm)
          exact this.drop
        · obtain ⟨rfl, rfl⟩ : d = D ∧ x = .lst acc := by simpa [pnd] using z
          exact hDn
      · rw [if_neg hz] at q1; exact q1.elim
theorem x_lc {scope : Scope} {ownN : List (Str × Nat)} {k : IK} {p : Pt} {ifs : List Expr} (hc : c.K = X.K) (calm : X.calm = true) (hN : X.N.Nodup) (hi : PI X tg iter (tI c k eas)) (ok : BlkOk X.N X.env.scope scope ownN) (nd : (ownN.map (·.2)).Nodup) (hsub : ∀ j ∈ p.ns, j ∈ ownN.map (·.2))
    (hg : ∀ (s : Shared) (H : Hp) (C : Addr) (cl : List (Str × Addr)) (fp : List Addr), PG (X.blk s H scope (compEnvC scope cl C X.env) fp) tg (gP X.K p))
    (ht : ∀ (s : Shared) (H : Hp) (C : Addr) (cl : List (Str × Addr)) (fp : List Addr), PTs (X.blk s H scope (compEnvC scope cl C X.env) fp) ifs (tXB c.nox et))
    (he : ∀ (s : Shared) (H : Hp) (C : Addr) (cl : List (Str × Addr)) (fp : List Addr), PE (X.blk s H scope (compEnvC scope cl C X.env) fp) elt (tX c.nox ee)) (hf : ∀ x, foldedSetIterable iter X.env x = pure x) :
    PE X (.ListComp elt [⟨tg, iter, ifs, 0⟩] scope pos) (tX c (.lc ee p et k eas (ownN.map (·.2)))) :=
  peImp (pe_lc calm hN hi ok hg ht he hf) fun σ H Q h => by rw [← hc]; exact lc_imp nd hsub h
end
end Py

namespace Py
open PySem PySem.Spec PyProof.Rows L2
variable [HW]
section
variable {K : PySem.W.Frag} {A : Nat → Option Addr} {σ σ' : Sg} {ρ ρ' : Env} {H H' : Hp} {F F' : Addr → Prop} {Pn : List (Addr × W)}
/-! ### what is frozen stays -/
structure MnH (K : PySem.W.Frag) (H1 : Hp) (F1 : Addr → Prop) (H : Hp) (F : Addr → Prop) : Prop where
  fr : ∀ a, F1 a → F a
  rd : ∀ a xs, F1 a → Rd H1 a (.lst xs) → Rd H a (.lst xs)
  tu : ∀ a xs, SqT K H1 a xs → SqT K H a xs
theorem MnH.refl : MnH K H F H F := ⟨fun _ h => h, fun _ _ _ h => h, fun _ _ h => h⟩
theorem MnH.trans {H1 H2 : Hp} {F1 F2 : Addr → Prop} (a : MnH K H F H1 F1) (b : MnH K H1 F1 H2 F2) : MnH K H F H2 F2 :=
  ⟨fun x h => b.fr x (a.fr x h), fun x xs h r => b.rd x xs (a.fr x h) (a.rd x xs h r), fun x xs h => b.tu x xs (a.tu x xs h)⟩
theorem Stp.mn (hs : SRel K A σ ρ H F Pn) (st : Stp σ ρ H F σ' ρ' H' F') : MnH K H F H' F' :=
  ⟨st.fr, fun a xs f r => st.rd hs r fun ⟨i, s⟩ => (hs.slc s).1 f, st.sqt hs⟩
theorem MnH.alloc {p : Addr} {o : HO} (hp : H p = none) : MnH K H F (L2.upd H p o) F :=
  ⟨fun _ h => h, fun _ _ _ r => Rd.upd hp r, fun _ _ r => SqT.upd hp r⟩
theorem MnH.grow {D : Addr} {w : W} {us : List V} (hs : SRel K A σ ρ H F ((D, w) :: Pn)) : MnH K H F (upd H D (.lst us)) F := by
  obtain ⟨nF, hc, nS⟩ := hs.pn (D, w) (by simp)
  obtain ⟨l0, e0, m0⟩ := hc.obj
  have rd : ∀ a u, a ≠ D → Rd H a u → Rd (upd H D (.lst us)) a u := fun a u n h => by
    rcases h with h | ⟨o, h⟩
    · exact .inl (by rw [upd_ne n]; exact h)
    · exact .inr ⟨o, by rw [upd_ne n]; exact h⟩
  refine ⟨fun _ h => h, fun a xs f r => rd a _ (fun z => nF (by show F D; rw [← z]; exact f)) r, fun a xs h => ?_⟩
  rcases h with h | h
  · refine .inl (rd a _ ?_ h)
    rintro rfl
    exact no_tup e0 m0 h
  · exact .inr h
theorem MnH.hrs {H1 : Hp} {F1 : Addr → Prop} (m : MnH K H1 F1 H F) {vs : List V} {ws : List W} (h : HRs K H1 F1 vs ws) : HRs K H F vs ws := h.mono m.tu m.fr m.rd
/-- J walks ws while what is frozen stays -/
structure ItF (K : PySem.W.Frag) (H1 : Hp) (F1 : Addr → Prop) (J : It) (ws : List W) : Prop where
  go : ∀ i H F, MnH K H1 F1 H F → i < ws.length → J.go i H
  yl : ∀ (i : Nat) H F x H', MnH K H1 F1 H F → i < ws.length → J.yld i H x H' → ∃ w, ws[i]? = some w ∧ Nw K H F x H' w false
  st : ∀ i H F, MnH K H1 F1 H F → ws.length ≤ i → J.stop i H
theorem itf_list {a : Addr} {us : List V} {ws : List W} (f : F a) (r : Rd H a (.lst us)) (hr : HRs K H F us ws) : ItF K H F (Itl K a) ws where
  go := fun i H2 F2 m hi => by
    have hl := hr.length
    exact ⟨us, us[i]'(by omega), .inl (m.rd _ _ f r), by simp⟩
  yl := fun i H2 F2 x H' m hi y => by
    obtain ⟨rfl, y⟩ := y
    obtain ⟨w, e, q⟩ := (m.hrs hr).getV (y us (.inl (m.rd _ _ f r)))
    exact ⟨w, e, .old q⟩
  st := fun i H2 F2 m hi => ⟨us, .inl (m.rd _ _ f r), by rw [hr.length]; exact hi⟩
theorem itf_tup {a : Addr} {us : List V} {ws : List W} (r : SqT K H a us) (hr : HRs K H F us ws) : ItF K H F (Itt K a) ws where
  go := fun i H2 F2 m hi => by
    have hl := hr.length
    exact ⟨us, us[i]'(by omega), m.tu a us r, by simp⟩
  yl := fun i H2 F2 x H' m hi y => by
    obtain ⟨rfl, y⟩ := y
    obtain ⟨w, e, q⟩ := (m.hrs hr).getV (y us (m.tu a us r))
    exact ⟨w, e, .old q⟩
  st := fun i H2 F2 m hi => ⟨us, m.tu a us r, by rw [hr.length]; exact hi⟩
end
/-- what a second generator walks -/
def tIF (c : Cf) (k : IK) (es : E) : TI := fun σ H R => ∃ A ρ F Pn, SRel c.K A σ ρ H F Pn ∧ OkX ((ev c.C es).a ρ) (fun us ρ1 => ∃ ws ρ2 its, shrs ρ1 us = some (ws, ρ2) ∧ itW k ws = some its ∧
  ∀ J H1 F1, SRel c.K A σ ρ2 H1 F1 Pn → Stp σ ρ H F σ ρ2 H1 F1 → ItF c.K H1 F1 J its → R J H1) (EX c A σ ρ H F Pn)
section
variable {X : Cx} {c : Cf} {tg e : Expr} {ea : E}
theorem i_seqF (hc : c.K = X.K) (he : PE X e (tX c ea)) : PI X tg e (tIF c .seq (.cons ea .nil)) := by
  refine piImp (pi_seq he) fun σ H R ⟨A, ρ, F, Pn, hs, q⟩ => ?_
  refine one_arg hs q fun u v ρ1 H1 F1 m ⟨ws, ρ2, its, e1, e2, q1⟩ => ?_
  obtain ⟨F2, m2, r2⟩ := m.share e1
  have s2 : SRel c.K A σ ρ2 H1 F2 Pn := by simpa [pnds] using m2.sr
  rw [← hc]
  match ws, r2, e2 with
  | [w], .cons h .nil, e2 =>
    cases w <;> first | (cases e2; done) | skip
    · cases Option.some.inj e2
      obtain ⟨a, us, rfl, r, z, hr⟩ := h.tupI
      exact .inr (.inl ⟨a, rfl, ⟨us, r⟩, q1 _ H1 F2 s2 m2.st (itf_tup r hr)⟩)
    · cases Option.some.inj e2
      cases h with
      | lst f r z hr => exact .inl ⟨_, rfl, ⟨_, .inl r⟩, q1 _ H1 F2 s2 m2.st (itf_list f r hr)⟩
    · cases h
end

/-! ### two generators -/
theorem wpE_get (ρ : Env) : ∀ (l : List Nat) (j : Nat), (wpE ρ l)[j]? = if j ∈ l then (if j < ρ.length then some none else none) else ρ[j]?
  | [], j => by simp [wpE]
  | i :: l, j => by
    have ih := wpE_get ρ l j
    unfold wpE
    by_cases q : j = i
    · subst q
      by_cases hl : j < ρ.length
      · rw [List.getElem?_set_self (by rw [wpE_len]; exact hl)]; simp [hl]
      · rw [List.getElem?_eq_none_iff.mpr (by rw [List.length_set, wpE_len]; omega)]; simp [hl]
    · rw [List.getElem?_set_ne (Ne.symm q), ih]; simp [q]
theorem wpE_wpE {ρ : Env} {l l1 : List Nat} (h : ∀ j ∈ l1, j ∈ l) : wpE (wpE ρ l1) l = wpE ρ l := by
  refine List.ext_getElem? fun j => ?_
  rw [wpE_get (wpE ρ l1) l j, wpE_get ρ l j, wpE_len]
  by_cases q : j ∈ l
  · rw [if_pos q, if_pos q]
  · rw [if_neg q, if_neg q, wpE_out ρ l1 j fun z => q (h j z)]
theorem wipe_wipe {σ : Sg} {l l1 : List Nat} (h : ∀ j ∈ l1, j ∈ l) : L2.wipe (L2.wipe σ l1) l = L2.wipe σ l :=
  wipe_eq (by rw [wipe_length]) fun j hj => wipe_out' σ l1 j fun z => hj (h j z)
section
variable {X : Cx} {c : Cf} {ee et et1 eas es1 : E}
theorem lcM_inv {step : W → Env → Out (Option W)} {w : W} {r acc accF : List W} {ρ ρ3 : Env} (h : lcM step (w :: r) acc ρ = .ok accF ρ3) :
    (∃ y ρ1, step w ρ = .ok (some y) ρ1 ∧ acc.length < szL ∧ lcM step r (acc ++ [y]) ρ1 = .ok accF ρ3) ∨ ∃ ρ1, step w ρ = .ok none ρ1 ∧ lcM step r acc ρ1 = .ok accF ρ3 := by
  simp only [lcM] at h
  split at h
  · rename_i y ρ1 e
    split at h
    · rename_i z; exact .inl ⟨y, ρ1, e, z, h⟩
    · cases h
  · rename_i ρ1 e
    exact .inr ⟨ρ1, e, h⟩
  · cases h
theorem lcO_inv {step : W → List W → Env → Out (List W)} {w : W} {r acc accF : List W} {ρ ρ3 : Env} (h : lcO step (w :: r) acc ρ = .ok accF ρ3) : ∃ acc' ρ1, step w acc ρ = .ok acc' ρ1 ∧ lcO step r acc' ρ1 = .ok accF ρ3 := by
  simp only [lcO] at h
  split at h
  · rename_i acc' ρ1 e; exact ⟨acc', ρ1, e, h⟩
  · cases h
theorem drop_at {its : List W} {i : Nat} {w : W} (hlt : i < its.length) (ew : its[i]? = some w) : its.drop i = w :: its.drop (i + 1) := by
  rw [List.drop_eq_getElem_cons hlt]
  congr 1
  rw [List.getElem?_eq_getElem hlt] at ew
  exact Option.some.inj ew
/-- between two turns of the first -/
structure LcO (c : Cf) (A : Nat → Option Addr) (σ : Sg) (ρL : Env) (H1 : Hp) (F1 : Addr → Prop) (own : List Nat) (P1 : List (Addr × W)) (D : Addr) (step : W → List W → Env → Out (List W)) (its accF : List W) (ρ3 : Env) (i : Nat) (H : Hp) : Prop where
  ex : ∃ ρ F acc, i ≤ its.length ∧ acc.length ≤ szL ∧ lcO step (its.drop i) acc ρ = .ok accF ρ3 ∧
    SRel c.K A (L2.wipe σ own) (wpE ρ own) H F ([(D, .lst acc)] ++ (pw σ ρL own ++ P1)) ∧ Stp σ ρL H1 F1 (L2.wipe σ own) (wpE ρ own) H F
/-- between two turns of the second -/
structure LcJ (c : Cf) (A : Nat → Option Addr) (σ : Sg) (ρL : Env) (H1 : Hp) (F1 : Addr → Prop) (σ2 : Sg) (vs1 : List Nat) (R : List (Addr × W)) (H9 : Hp) (F9 : Addr → Prop) (D : Addr) (step : W → Env → Out (Option W)) (its accI : List W) (ρI : Env) (j : Nat) (H : Hp) : Prop where
  ex : ∃ ρ F acc, j ≤ its.length ∧ acc.length ≤ szL ∧ lcM step (its.drop j) acc ρ = .ok accI ρI ∧
    SRel c.K A (L2.wipe σ2 vs1) (wpE ρ vs1) H F ([(D, .lst acc)] ++ R) ∧ Stp σ ρL H1 F1 (L2.wipe σ2 vs1) (wpE ρ vs1) H F ∧ MnH c.K H9 F9 H F
theorem stp_upd {σ σ2 : Sg} {ρL ρ : Env} {H1 H : Hp} {F1 F : Addr → Prop} {D : Addr} {o : HO} (hD : H1 D = none) (t : Stp σ ρL H1 F1 σ2 ρ H F) : Stp σ ρL H1 F1 σ2 ρ (upd H D o) F := by
  have hD1 : ∀ a o, H1 a = some o → a ≠ D := fun a o h z => by rw [z, hD] at h; cases h
  exact ⟨fun a o h n => by rw [upd_ne (hD1 a o h)]; exact t.kp a o h n, t.fr, t.nf, t.no, t.ns, t.nw, fun a o h => by rw [upd_ne (hD1 a o h)]; exact t.al a o h⟩
theorem lcj_read {A : Nat → Option Addr} {σ : Sg} {ρL : Env} {H1 : Hp} {F1 : Addr → Prop} {σ2 : Sg} {p1 : Pt} {R : List (Addr × W)} {H9 : Hp} {F9 : Addr → Prop} {D : Addr} {its acc0 accI : List W} {ρ0 ρI : Env} {J : It} {Nx : Hp → Prop} (nd : p1.ns.Nodup) (hD : H1 D = none) (hz0 : acc0.length ≤ szL)
    (hs : SRel c.K A σ2 ρ0 H9 F9 ([(D, .lst acc0)] ++ R)) (t0 : Stp σ ρL H1 F1 σ2 ρ0 H9 F9) (G : ItF c.K H9 F9 J its) (hl : lcM (stepE p1.ns p1 (ev c.C et1).t (ev c.C ee).x) its acc0 ρ0 = .ok accI ρI)
    (fin : ∀ H F, accI.length ≤ szL → SRel c.K A (L2.wipe σ2 p1.ns) (wpE ρI p1.ns) H F ([(D, .lst accI)] ++ R) → Stp σ ρL H1 F1 (L2.wipe σ2 p1.ns) (wpE ρI p1.ns) H F → Nx H) :
    ∃ W : Nat → Nat → Hp → Prop, (∃ m, W 0 m H9) ∧ ∀ j k H, W j k H → (J.stop j H ∧ Nx H) ∨ (J.go j H ∧ ∃ Nx1 : Hp → Prop, (∀ H', Nx1 H' → ∃ k', k' < k ∧ W (j + 1) k' H') ∧ ∀ x H', J.yld j H x H' →
      gP c.K p1 x (L2.wipe σ2 p1.ns) H' fun σ3 H5 => L2.wipe σ3 p1.ns = L2.wipe σ2 p1.ns ∧ tXB c.nox et1 σ3 H5 fun b H6 => if b = true then tX c.nox ee σ3 H6 fun y H7 => ∃ acc, H7 D = some (.lst acc) ∧ acc.length < sizeLine ∧ Nx1 (upd H7 D (.lst (acc ++ [y]))) else Nx1 H6) := by
  generalize hst : stepE p1.ns p1 (ev c.C et1).t (ev c.C ee).x = step at hl
  refine ⟨fun j k H => k = its.length - j ∧ LcJ c A σ ρL H1 F1 σ2 p1.ns R H9 F9 D step its accI ρI j H, ⟨_, rfl, ⟨ρ0, F9, acc0, Nat.zero_le _, hz0, hl, ?_, t0.trans .wipe, .refl⟩⟩, ?_⟩
  · exact (hs.wipe nd).drop
  rintro j k H ⟨rfl, ⟨ρ, F, acc, hj, ha, hl, hs, st, mn⟩⟩
  by_cases hlt : j < its.length
  · refine .inr ⟨G.go j H F mn hlt, LcJ c A σ ρL H1 F1 σ2 p1.ns R H9 F9 D step its accI ρI (j + 1), fun H' n => ⟨its.length - (j + 1), by omega, rfl, n⟩, fun x H' y => ?_⟩
    obtain ⟨w, ew, nw⟩ := G.yl j H F x H' mn hlt y
    rw [drop_at hlt ew] at hl
    obtain ⟨s1, hr, t1, mn1⟩ : SRel c.K A (L2.wipe σ2 p1.ns) (wpE ρ p1.ns) H' F ([(D, .lst acc)] ++ R) ∧ HR c.K H' F x w ∧ Stp (L2.wipe σ2 p1.ns) (wpE ρ p1.ns) H F (L2.wipe σ2 p1.ns) (wpE ρ p1.ns) H' F ∧ MnH c.K H F H' F := by
      cases nw with
      | old r => exact ⟨hs, r, .refl, .refl⟩
      | tup hp z r => exact ⟨hs.alloc hp, .tup (.inl (.inl upd_same)) z (r.upd hp), .alloc hp, .alloc hp⟩
    have sw : ∃ o ρd, step w ρ = .ok o ρd ∧ (∀ y, o = some y → acc.length < szL) ∧ lcM step (its.drop (j + 1)) (match o with | some y => acc ++ [y] | none => acc) ρd = .ok accI ρI := by
      rcases lcM_inv hl with ⟨y, ρd, e, z, h⟩ | ⟨ρd, e, h⟩
      · exact ⟨some y, ρd, e, fun _ _ => z, h⟩
      · exact ⟨none, ρd, e, fun _ h => (nomatch h), h⟩
    obtain ⟨o, ρd, es, hzo, hl'⟩ := sw
    rw [← hst] at es
    unfold stepE at es
    cases ea : asP p1 w (wpE ρ p1.ns) with
    | none => rw [ea] at es; cases es
    | some ρa =>
      rw [ea] at es
      obtain ⟨k, ρb, et', es⟩ := bind_ok es
      refine ⟨A, wpE ρ p1.ns, F, _, w, ρa, s1, hr, ea, fun σ3 s2 t2 off => ?_⟩
      have hw : L2.wipe σ3 p1.ns = L2.wipe σ2 p1.ns := by
        rw [wipe_eq (σ := L2.wipe σ2 p1.ns) off.1 fun j hj => (off.2 j hj).1]
        exact wipe_eq (by rw [wipe_length]) fun j hj => wipe_out' σ2 p1.ns j hj
      refine ⟨hw, A, ρa, F, _, s2, ?_⟩
      rw [show (ev c.nox.C et1).t ρa = _ from et']
      intro H3 F3 t3 s3
      have next : ∀ {H5 : Hp} {F5 : Addr → Prop} {acc' : List W}, acc'.length ≤ szL → lcM step (its.drop (j + 1)) acc' ρd = .ok accI ρI → SRel c.K A σ3 ρd H5 F5 ([(D, .lst acc')] ++ R) → Stp σ ρL H1 F1 σ3 ρd H5 F5 → MnH c.K H9 F9 H5 F5 → LcJ c A σ ρL H1 F1 σ2 p1.ns R H9 F9 D step its accI ρI (j + 1) H5 := fun {H5 F5 acc'} hz' hl5 s5 t5 m5 => by
        refine ⟨ρd, F5, acc', hlt, hz', hl5, ?_, ?_, m5⟩
        · rw [← hw]; exact (s5.wipe nd).drop
        · rw [← hw]; exact t5.trans .wipe
      have t13 : Stp σ ρL H1 F1 σ3 ρb H3 F3 := ((st.trans t1).trans t2).trans t3
      have m13 : MnH c.K H9 F9 H3 F3 := ((mn.trans mn1).trans (t2.mn s1)).trans (t3.mn s2)
      cases k with
      | false =>
        refine iteF ?_
        obtain ⟨rfl, rfl⟩ : none = o ∧ ρb = ρd := by simpa using es
        exact next (acc' := acc) ha hl' s3 t13 m13
      | true =>
        refine iteT ?_
        have es : stepV (ev c.C ee).x ρb = .ok o ρd := es
        unfold stepV at es
        obtain ⟨a, ρc, ex', es⟩ := bind_ok es
        cases eh : shr ρc a with
        | none => rw [eh] at es; cases es
        | some q =>
          obtain ⟨w', ρe⟩ := q
          rw [eh] at es
          obtain ⟨rfl, rfl⟩ : some w' = o ∧ ρe = ρd := by simpa using es
          have hzz0 := hzo _ rfl
          refine ⟨A, ρb, F3, _, s3, ?_⟩
          rw [show (ev c.nox.C ee).x ρb = _ from ex']
          intro v H4 F4 t4 s4 ar fr
          have s4' : SRel c.K A σ3 ρc H4 F4 ([] ++ pnd a v ++ ([(D, .lst acc)] ++ R)) := s4
          obtain ⟨F5, s5, r5, m5, k5⟩ := AR.share s4' ar eh
          have s5 : SRel c.K A σ3 ρe H4 F5 ([(D, .lst acc)] ++ R) := by simpa using s5
          obtain ⟨_, ⟨us, e1, e2, e3⟩, _⟩ := s5.pn (D, .lst acc) (by simp)
          have e3l := e3.length
          have hzz : (us ++ [v]).length ≤ szL := by rw [List.length_append]; simp; omega
          have t5 := k5 H3 F3 ρb t4 fr
          have t6 : Stp σ ρL H1 F1 σ3 ρe H4 F5 := t13.trans t5
          exact ⟨us, e1, by rw [← szL_eq]; omega, next (acc' := acc ++ [w']) (by simp; omega) hl' (SRel.grow s5 hzz (e3.append (.one r5))) (stp_upd hD t6) ((m13.trans (t5.mn s3)).trans (.grow s5))⟩
  · have e : j = its.length := by omega
    subst e
    rw [List.drop_length] at hl
    obtain ⟨rfl, rfl⟩ : acc = accI ∧ ρ = ρI := by simpa [lcM] using hl
    exact .inl ⟨G.st _ H F mn (Nat.le_refl _), fin H F ha hs st⟩
theorem lc2_read {A : Nat → Option Addr} {σ : Sg} {ρL : Env} {H1 : Hp} {F1 : Addr → Prop} {P1 : List (Addr × W)} {p p1 : Pt} {k1 : IK} {own : List Nat} {its accF : List W} {ρ3 : Env} {J : It} {Q : Hp → Prop} (nd : own.Nodup) (nd1 : p1.ns.Nodup) (hsub : ∀ j ∈ p.ns, j ∈ own) (hsub1 : ∀ j ∈ p1.ns, j ∈ own)
    (hL : SRel c.K A σ ρL H1 F1 P1) (G : ItG c.K σ ρL H1 F1 J its) {D : Addr} (hD : H1 D = none) (hl : lcO (lc2S own p p1 k1 (ev c.C et).t (ev c.C et1).t (ev c.C es1).a (ev c.C ee).x) its [] ρL = .ok accF ρ3)
    (fin : ∀ H F, SRel c.K A σ (rsE ρL ρ3 own) H F ([(D, .lst accF)] ++ P1) → Stp σ ρL H1 F1 σ (rsE ρL ρ3 own) H F → Q H) :
    ∃ W : Nat → Nat → Hp → Prop, (∃ m, W 0 m (upd H1 D (.lst []))) ∧ ∀ i m H, W i m H → (J.stop i H ∧ Q H) ∨ (J.go i H ∧ ∃ Nx : Hp → Prop, (∀ H', Nx H' → ∃ m', m' < m ∧ W (i + 1) m' H') ∧ ∀ x H', J.yld i H x H' →
      gP c.K p x (L2.wipe σ own) H' fun σ2 H2 => L2.wipe σ2 own = L2.wipe σ own ∧ tXB c.nox et σ2 H2 fun b H3 => if b = true then tIF c.nox k1 es1 σ2 H3 fun J1 H4 => ∃ W1 : Nat → Nat → Hp → Prop, (∃ m, W1 0 m H4) ∧ ∀ j k H, W1 j k H →
        (J1.stop j H ∧ Nx H) ∨ (J1.go j H ∧ ∃ Nx1 : Hp → Prop, (∀ H', Nx1 H' → ∃ k', k' < k ∧ W1 (j + 1) k' H') ∧ ∀ x H', J1.yld j H x H' → gP c.K p1 x (L2.wipe σ2 p1.ns) H' fun σ3 H5 => L2.wipe σ3 p1.ns = L2.wipe σ2 p1.ns ∧ tXB c.nox et1 σ3 H5 fun b H6 =>
          if b = true then tX c.nox ee σ3 H6 fun y H7 => ∃ acc, H7 D = some (.lst acc) ∧ acc.length < sizeLine ∧ Nx1 (upd H7 D (.lst (acc ++ [y]))) else Nx1 H6)
      else Nx H3) := by
  generalize hst : lc2S own p p1 k1 (ev c.C et).t (ev c.C et1).t (ev c.C es1).a (ev c.C ee).x = step at hl
  refine ⟨fun i m H => m = its.length - i ∧ LcO c A σ ρL H1 F1 own P1 D step its accF ρ3 i H, ⟨_, rfl, ⟨ρL, F1, [], Nat.zero_le _, Nat.zero_le _, hl, ?_, ?_⟩⟩, ?_⟩
  · exact (hL.wipe nd).pend (w := .lst []) hD ⟨[], upd_same, Nat.zero_le _, .nil⟩
  · exact Stp.wipe.trans (.alloc hD)
  rintro i m H ⟨rfl, ⟨ρ, F, acc, hi, ha, hl, hs, st⟩⟩
  by_cases hlt : i < its.length
  · refine .inr ⟨G.go i H F _ _ st hlt, LcO c A σ ρL H1 F1 own P1 D step its accF ρ3 (i + 1), fun H' n => ⟨its.length - (i + 1), by omega, rfl, n⟩, fun x H' y => ?_⟩
    obtain ⟨w, ew, nw⟩ := G.yl i H F _ _ x H' st hlt y
    rw [drop_at hlt ew] at hl
    obtain ⟨s1, hr, t1⟩ : SRel c.K A (L2.wipe σ own) (wpE ρ own) H' F ([(D, .lst acc)] ++ (pw σ ρL own ++ P1)) ∧ HR c.K H' F x w ∧ Stp (L2.wipe σ own) (wpE ρ own) H F (L2.wipe σ own) (wpE ρ own) H' F := by
      cases nw with
      | old r => exact ⟨hs, r, .refl⟩
      | tup hp z r => exact ⟨hs.alloc hp, .tup (.inl (.inl upd_same)) z (r.upd hp), .alloc hp⟩
    obtain ⟨acc', ρd, es, hl'⟩ := lcO_inv hl
    rw [← hst] at es
    unfold lc2S at es
    cases ea : asP p w (wpE ρ own) with
    | none => rw [ea] at es; cases es
    | some ρa =>
      rw [ea] at es
      obtain ⟨k, ρb, et', es⟩ := bind_ok es
      refine ⟨A, wpE ρ own, F, _, w, ρa, s1, hr, ea, fun σ2 s2 t2 off => ?_⟩
      have hw : L2.wipe σ2 own = L2.wipe σ own := by
        rw [wipe_eq (σ := L2.wipe σ own) off.1 fun j hj => (off.2 j fun z => hj (hsub j z)).1]
        exact wipe_eq (by rw [wipe_length]) fun j hj => wipe_out' σ own j hj
      refine ⟨hw, A, ρa, F, _, s2, ?_⟩
      rw [show (ev c.nox.C et).t ρa = _ from et']
      intro H3 F3 t3 s3
      have t13 : Stp σ ρL H1 F1 σ2 ρb H3 F3 := ((st.trans t1).trans t2).trans t3
      cases k with
      | false =>
        refine iteF ?_
        obtain ⟨rfl, rfl⟩ : acc = acc' ∧ ρb = ρd := by simpa using es
        refine ⟨ρb, F3, acc, hlt, ha, hl', ?_, ?_⟩
        · rw [← hw]; exact (s3.wipe nd).drop
        · rw [← hw]; exact t13.trans .wipe
      | true =>
        refine iteT ?_
        have es : ((ev c.C es1).a ρb).bind (fun us ρ3 => match shrs ρ3 us with
          | none => .bad
          | some (ws, ρ4) => match itW k1 ws with
            | none => .bad
            | some its => lcM (stepE p1.ns p1 (ev c.C et1).t (ev c.C ee).x) its acc ρ4) = .ok acc' ρd := es
        obtain ⟨us, ρc, ex', es⟩ := bind_ok es
        refine ⟨A, ρb, F3, _, s3, ?_⟩
        rw [show (ev c.nox.C es1).a ρb = _ from ex']
        cases e5 : shrs ρc us with
        | none => rw [e5] at es; cases es
        | some y =>
          obtain ⟨ws, ρe⟩ := y
          rw [e5] at es
          cases e6 : itW k1 ws with
          | none => simp only [e6] at es; cases es
          | some its1 =>
            simp only [e6] at es
            refine ⟨ws, ρe, its1, e5, e6, fun J1 H9 F9 s9 t9 G1 => ?_⟩
            refine lcj_read (c := c) nd1 hD ha s9 (t13.trans t9) G1 es fun H' F' hz' s' t' => ?_
            refine ⟨ρd, F', acc', hlt, hz', hl', ?_, ?_⟩
            · have := (s'.wipe nd).drop
              rw [wipe_wipe hsub1, wpE_wpE hsub1, hw] at this
              exact this
            · have := t'.trans (Stp.wipe (l := own))
              rw [wipe_wipe hsub1, wpE_wpE hsub1, hw] at this
              exact this
  · have e : i = its.length := by omega
    subst e
    rw [List.drop_length] at hl
    obtain ⟨rfl, rfl⟩ : acc = accF ∧ ρ = ρ3 := by simpa [lcO] using hl
    obtain ⟨s1, t1⟩ := SRel.back (Pn := [(D, .lst acc)]) hL hs st
    exact .inl ⟨G.st _ H F _ _ st (Nat.le_refl _), fin H F s1 t1⟩
theorem lc2_imp {k k1 : IK} {p p1 : Pt} {own : List Nat} {σ : Sg} {H : Hp} {Q : VK} (nd : own.Nodup) (nd1 : p1.ns.Nodup) (hsub : ∀ j ∈ p.ns, j ∈ own) (hsub1 : ∀ j ∈ p1.ns, j ∈ own) (h : tX c (.lc2 ee p et k eas p1 et1 k1 es1 own) σ H Q) :
    tLc2 (tI c k eas) (gP c.K p) (tXB c.nox et) (tIF c.nox k1 es1) (gP c.K p1) (tXB c.nox et1) (tX c.nox ee) own p1.ns σ H Q := by
  obtain ⟨A, ρ, F, Pn, hs, q⟩ := h
  refine ⟨A, ρ, F, Pn, hs, q.bind.mono (fun us ρ1 q1 => ?_) fun _ _ _ e => e⟩
  cases e1 : (ress ρ1 us).bind (itW k) with
  | none => simp only [e1] at q1; exact q1.elim
  | some its =>
    simp only [e1] at q1
    refine ⟨its, rfl, fun J vs H1 F1 m G D hD => ?_⟩
    obtain ⟨sL, _⟩ := lk_ok (as := us) m.sr
    cases e2 : lcO (lc2S own p p1 k1 (ev c.C et).t (ev c.C et1).t (ev c.C es1).a (ev c.C ee).x) its [] (lkE ρ1 us) with
    | bad => simp only [e2] at q1; exact q1.elim
    | ex x pl ρ3 => simp only [e2] at q1; exact q1.elim
    | ok acc ρ3 =>
      simp only [e2] at q1
      refine lc2_read nd nd1 hsub hsub1 sL G hD e2 fun H' F' s' t' => ?_
      have t1 := (lk_stp (as := us) m.sr).trans t'
      obtain ⟨s2, t2⟩ := ul_ok (as := us) t1 s'
      have hDn : H D = none := m.st.fresh hD
      refine q1 (.ref D) H' F' (m.st.trans t2) ?_ ⟨D, rfl⟩ fun d x z => ?_
      · have : SRel c.K A σ (ulE ρ1 (rsE (lkE ρ1 us) ρ3 own) us) H' F' (pnds us vs ++ ((D, .lst acc) :: Pn)) := s2.perm (by simpa using List.perm_middle.symm)
        exact this.drop
      · obtain ⟨rfl, rfl⟩ : d = D ∧ x = .lst acc := by simpa [pnd] using z
        exact hDn
end
section
variable {X : Cx} {c : Cf} {elt tg iter tg1 iter1 : Expr} {ee et et1 eas es1 : E} {pos : Pos}
theorem x_lc2 {scope : Scope} {ownN : List (Str × Nat)} {k k1 : IK} {p p1 : Pt} {ifs ifs1 : List Expr} (hc : c.K = X.K) (calm : X.calm = true) (hN : X.N.Nodup) (hi : PI X tg iter (tI c k eas)) (ok : BlkOk X.N X.env.scope scope ownN) (nd : (ownN.map (·.2)).Nodup) (nd1 : p1.ns.Nodup) (hsub : ∀ j ∈ p.ns, j ∈ ownN.map (·.2)) (hsub1 : ∀ j ∈ p1.ns, j ∈ ownN.map (·.2))
    (hg : ∀ (s : Shared) (H : Hp) (C : Addr) (cl : List (Str × Addr)) (fp : List Addr), PG (X.blk s H scope (compEnvC scope cl C X.env) fp) tg (gP X.K p))
    (ht : ∀ (s : Shared) (H : Hp) (C : Addr) (cl : List (Str × Addr)) (fp : List Addr), PTs (X.blk s H scope (compEnvC scope cl C X.env) fp) ifs (tXB c.nox et))
    (hi1 : ∀ (s : Shared) (H : Hp) (C : Addr) (cl : List (Str × Addr)) (fp : List Addr), PI (X.blk s H scope (compEnvC scope cl C X.env) fp) tg1 iter1 (tIF c.nox k1 es1))
    (hg1 : ∀ (s : Shared) (H : Hp) (C : Addr) (cl : List (Str × Addr)) (fp : List Addr), PG (X.blk s H scope (compEnvC scope cl C X.env) fp) tg1 (gP X.K p1))
    (ht1 : ∀ (s : Shared) (H : Hp) (C : Addr) (cl : List (Str × Addr)) (fp : List Addr), PTs (X.blk s H scope (compEnvC scope cl C X.env) fp) ifs1 (tXB c.nox et1))
    (he : ∀ (s : Shared) (H : Hp) (C : Addr) (cl : List (Str × Addr)) (fp : List Addr), PE (X.blk s H scope (compEnvC scope cl C X.env) fp) elt (tX c.nox ee)) (hf : ∀ x, foldedSetIterable iter X.env x = pure x) (hf1 : ∀ env x, foldedSetIterable iter1 env x = pure x) :
    PE X (.ListComp elt [⟨tg, iter, ifs, 0⟩, ⟨tg1, iter1, ifs1, 0⟩] scope pos) (tX c (.lc2 ee p et k eas p1 et1 k1 es1 (ownN.map (·.2)))) :=
  peImp (pe_lc2 calm hN hi ok hsub1 hg ht hi1 hg1 ht1 he hf hf1) fun σ H Q h => by rw [← hc]; exact lc2_imp nd nd1 hsub hsub1 h
end
end Py

namespace Py
open PySem PySem.Spec PyProof.Rows L2
variable [HW]

section
variable (c : Cf) (A : Nat → Option Addr) (σ : Sg) (ρ : Env) (H : Hp) (F : Addr → Prop) (Pn : List (Addr × W))
def NX (Q : Sg → Hp → Prop) (ρ' : Env) : Prop := ∀ σ' H' F', Stp σ ρ H F σ' ρ' H' F' → SRel c.K A σ' ρ' H' F' Pn → Q σ' H'
def RT' (Q : VK) (w : W) (fr : Bool) (ρ' : Env) : Prop := ∀ v σ' H' F', Stp σ ρ H F σ' ρ' H' F' → SRel c.K A σ' ρ' H' F' (pnd (.val w fr) v ++ Pn) → (fr = true → ∃ a, v = .ref a ∧ (H a = none ∨ Ow σ ρ a)) → (fr = false → HR c.K H' F' v w) → Q v H'
def ES (x : Nat) (p : W) (ρ' : Env) : Prop := ∀ σ' H' F' d, Stp σ ρ H F σ' ρ' H' F' → SRel c.K A σ' ρ' H' F' Pn → ExD p d H' → c.wx (c.cls x) d σ' H'
def RS (D : Ends) (o : SO) : Prop := match o with
  | .nx ρ' => NX c A σ ρ H F Pn D.nx ρ'
  | .bk ρ' => NX c A σ ρ H F Pn D.bk ρ'
  | .ct ρ' => NX c A σ ρ H F Pn D.ct ρ'
  | .rt w fr ρ' => RT' c A σ ρ H F Pn D.rt w fr ρ'
  | .ex x p ρ' => ES c A σ ρ H F Pn x p ρ'
  | .bad => False
end
def tS (c : Cf) (tk : Tk) (g : Nat) (s : S) : TS := fun D σ H => ∃ A ρ F Pn, SRel c.K A σ ρ H F Pn ∧ RS c A σ ρ H F Pn D (xs c.C tk g s ρ)

section
variable {c : Cf} {A : Nat → Option Addr} {σ σ1 : Sg} {ρ ρ1 ρ' : Env} {H H1 : Hp} {F F1 : Addr → Prop} {Pn : List (Addr × W)} {D D' : Ends}
theorem NX.step {Q : Sg → Hp → Prop} (h : NX c A σ ρ H F Pn Q ρ') (st : Stp σ ρ H F σ1 ρ1 H1 F1) : NX c A σ1 ρ1 H1 F1 Pn Q ρ' := fun σ' H' F' st' s => h σ' H' F' (st.trans st') s
theorem Stp.fo {a : Addr} (st : Stp σ ρ H F σ1 ρ1 H1 F1) (h : H1 a = none ∨ Ow σ1 ρ1 a) : H a = none ∨ Ow σ ρ a := by
  cases e : H a with
  | none => exact .inl rfl
  | some o =>
    rcases h with h | h
    · obtain ⟨o', e'⟩ := st.al a o e
      rw [h] at e'; cases e'
    · exact .inr (st.nw a o e h)
theorem RT'.step {Q : VK} {w : W} {fr : Bool} (h : RT' c A σ ρ H F Pn Q w fr ρ') (st : Stp σ ρ H F σ1 ρ1 H1 F1) : RT' c A σ1 ρ1 H1 F1 Pn Q w fr ρ' := fun v σ' H' F' st' s a b => h v σ' H' F' (st.trans st') s (fun e => let ⟨x, y, z⟩ := a e; ⟨x, y, st.fo z⟩) b
theorem ES.step {x : Nat} {p : W} (h : ES c A σ ρ H F Pn x p ρ') (st : Stp σ ρ H F σ1 ρ1 H1 F1) : ES c A σ1 ρ1 H1 F1 Pn x p ρ' := fun σ' H' F' d st' s a => h σ' H' F' d (st.trans st') s a
theorem RS.step {o : SO} (h : RS c A σ ρ H F Pn D o) (st : Stp σ ρ H F σ1 ρ1 H1 F1) : RS c A σ1 ρ1 H1 F1 Pn D o := by
  cases o with
  | nx ρ' => exact NX.step h st
  | bk ρ' => exact NX.step h st
  | ct ρ' => exact NX.step h st
  | rt w fr ρ' => exact RT'.step h st
  | ex x p ρ' => exact ES.step h st
  | bad => exact h
/-- what an expression's raising is for the statement -/
theorem ES.ex {x : Nat} {p : W} (h : ES c A σ ρ H F Pn x p ρ') : EX c A σ ρ H F Pn x p ρ' := fun H' F' d st s e => h σ H' F' d st s e
def SOk {α : Type} (o : Out α) (P : α → Env → Prop) (E : Nat → W → Env → Prop) : Prop := OkX o P E
theorem bnd_ok {α : Type} {o : Out α} {f : α → Env → SO} (h : RS c A σ ρ H F Pn D (SO.bnd o f)) : OkX o (fun a ρ1 => RS c A σ ρ H F Pn D (f a ρ1)) (EX c A σ ρ H F Pn) := by
  cases o with
  | ok a ρ1 => exact h
  | ex x p ρ1 => exact ES.ex h
  | bad => exact h
theorem tX_S {e : E} {R : VK} {f : Arg → Env → SO} (hs : SRel c.K A σ ρ H F Pn) (h : RS c A σ ρ H F Pn D (SO.bnd ((ev c.C e).x ρ) f))
    (fin : ∀ u v ρ1 H1 F1, Md c A σ ρ H F Pn [u] [v] ρ1 H1 F1 → RS c A σ ρ H F Pn D (f u ρ1) → R v H1) : tX c e σ H R :=
  ⟨A, ρ, F, Pn, hs, (bnd_ok h).mono (fun u ρ1 q v H1 F1 st sr ar fr => fin u v ρ1 H1 F1 ⟨st, by simpa [pnds] using sr, .cons ar .nil, fun d x z => fr d x (by simpa [pnds] using z)⟩ q) fun _ _ _ e => e⟩
theorem tXL_S {e : E} {R : List V → Hp → Prop} {f : List Arg → Env → SO} (hs : SRel c.K A σ ρ H F Pn) (h : RS c A σ ρ H F Pn D (SO.bnd ((ev c.C e).a ρ) f))
    (fin : ∀ us vs ρ1 H1 F1, Md c A σ ρ H F Pn us vs ρ1 H1 F1 → RS c A σ ρ H F Pn D (f us ρ1) → R vs H1) : tXL c e σ H R :=
  ⟨A, ρ, F, Pn, hs, (bnd_ok h).mono (fun us ρ1 q vs H1 F1 st sr ar fr => fin us vs ρ1 H1 F1 ⟨st, sr, ar, fr⟩ q) fun _ _ _ e => e⟩
theorem tXB_S {e : E} {R : Bool → Hp → Prop} {f : Bool → Env → SO} (hs : SRel c.K A σ ρ H F Pn) (h : RS c A σ ρ H F Pn D (SO.bnd ((ev c.C e).t ρ) f))
    (fin : ∀ k ρ1 H1 F1, Md c A σ ρ H F Pn [] [] ρ1 H1 F1 → RS c A σ ρ H F Pn D (f k ρ1) → R k H1) : tXB c e σ H R :=
  ⟨A, ρ, F, Pn, hs, (bnd_ok h).mono (fun k ρ1 q H1 F1 st sr => fin k ρ1 H1 F1 ⟨st, sr, .nil, fun _ _ h => nomatch h⟩ q) fun _ _ _ e => e⟩
theorem tS_at {tk : Tk} {g : Nat} {s : S} (hs : SRel c.K A σ1 ρ1 H1 F1 Pn) (st : Stp σ ρ H F σ1 ρ1 H1 F1) (h : RS c A σ ρ H F Pn D (xs c.C tk g s ρ1)) : tS c tk g s D σ1 H1 := ⟨A, ρ1, F1, Pn, hs, h.step st⟩
end

/-! ### the rules -/
section
variable {X : Cx} {c : Cf} {tk : Tk} {g : Nat} {st : Stmt} {sts : List Stmt} {e a b : Expr} {ea eb eas : E} {s r : S} {pos : Pos}
theorem s_nil : PSs X [] (tS c tk g .nil) := by
  refine pssImp pss_nil fun D σ H ⟨A, ρ, F, Pn, hs, q⟩ => ?_
  exact q σ H F .refl hs
theorem s_cons (h1 : PS X st (tS c tk g s)) (h2 : PSs X sts (tS c tk g r)) : PSs X (st :: sts) (tS c tk g (.seq s r)) := by
  refine pssImp (pss_cons h1 h2) fun D σ H ⟨A, ρ, F, Pn, hs, q⟩ => ?_
  refine ⟨A, ρ, F, Pn, hs, ?_⟩
  have q : RS c A σ ρ H F Pn D ((xs c.C tk g s ρ).thn fun ρ1 => xs c.C tk g r ρ1) := q
  cases e : xs c.C tk g s ρ with
  | nx ρ1 =>
    rw [e] at q
    exact fun σ' H' F' st' s' => tS_at s' st' q
  | bk ρ1 => rw [e] at q; exact q
  | ct ρ1 => rw [e] at q; exact q
  | rt w fr ρ1 => rw [e] at q; exact q
  | ex x p ρ1 => rw [e] at q; exact q
  | bad => rw [e] at q; exact q
theorem s_pass : PS X (.Pass pos) (tS c tk g .pass) := psImp ps_pass fun D σ H ⟨A, ρ, F, Pn, hs, q⟩ => q σ H F .refl hs
theorem s_brk : PS X (.Break pos) (tS c tk g .brk) := psImp ps_break fun D σ H ⟨A, ρ, F, Pn, hs, q⟩ => q σ H F .refl hs
theorem s_cnt : PS X (.Continue pos) (tS c tk g .cnt) := psImp ps_continue fun D σ H ⟨A, ρ, F, Pn, hs, q⟩ => q σ H F .refl hs
theorem s_bad : PS X st (tS c tk g .bad) := psImp ps_never fun D σ H ⟨A, ρ, F, Pn, hs, q⟩ => q
theorem s_retN : PS X (.Return none pos) (tS c tk g .retN) := psImp ps_retN fun D σ H ⟨A, ρ, F, Pn, hs, q⟩ =>
  q .non σ H F .refl (by simpa [pnd] using hs) (fun h => nomatch h) fun _ => .non
theorem s_exp (he : PE X e (tX c ea)) (hs : swapsWith e none pos.line X.env = pure false) : PS X (.Expr e pos) (tS c tk g (.exp ea)) := by
  refine psImp (ps_expr he hs) fun D σ H ⟨A, ρ, F, Pn, hs, q⟩ => ?_
  exact tX_S hs q fun u v ρ1 H1 F1 m q1 => q1 σ H1 F1 m.st m.sr.drop
/-- a name's own object is given away, the name forgotten -/
theorem SRel.take {K : PySem.W.Frag} {A : Nat → Option Addr} {σ : Sg} {ρ : Env} {H : Hp} {F : Addr → Prop} {Pn : List (Addr × W)} (hs : SRel K A σ ρ H F Pn) {i : Nat} {w : W} {a : Addr} (e : ρ[i]? = some (some (w, .own))) (ea : σ[i]? = some (some (.ref a))) :
    SRel K A σ (ρ.set i none) H F ((a, w) :: Pn) ∧ Stp σ ρ H F σ (ρ.set i none) H F := by
  have hi := lt_of_get e
  obtain ⟨a', x, y, z⟩ := hs.ow i w .own e (by decide)
  rw [ea] at x; cases x
  have sl : SlA σ ρ i a := ⟨w, .own, e, by decide, ea⟩
  have back : ∀ {j : Nat} {b : Addr}, SlA σ (ρ.set i none) j b → j ≠ i ∧ SlA σ ρ j b := fun {j b} ⟨w', f', e', n', s'⟩ => by
    rw [gets hi] at e'
    by_cases q : j = i
    · rw [if_pos q] at e'; cases e'
    · rw [if_neg q] at e'; exact ⟨q, w', f', e', n', s'⟩
  refine ⟨⟨by simpa using hs.ln, fun j w' e' => ?_, fun j w' f' e' n => ?_, fun j w' f' e' q => ?_, fun j k b h1 h2 => hs.dj j k b (back h1).2 (back h2).2, fun p hp => ?_, ?_, hs.ff⟩, ⟨fun _ _ h _ => h, fun _ h => h, fun _ _ _ h => .inl h, fun b o h q => ?_, fun b o h j q => (back q).2, fun b o h q => ?_, fun _ o h => ⟨o, h⟩⟩⟩
  · rw [gets hi] at e'
    by_cases q : j = i
    · rw [if_pos q] at e'; cases e'
    · rw [if_neg q] at e'; exact hs.sh j w' e'
  · rw [gets hi] at e'
    by_cases q : j = i
    · rw [if_pos q] at e'; cases e'
    · rw [if_neg q] at e'; exact hs.ow j w' f' e' n
  · rw [gets hi] at e'
    by_cases z : j = i
    · rw [if_pos z] at e'; cases e'
    · rw [if_neg z] at e'; exact hs.io j w' f' e' q
  · rcases List.mem_cons.mp hp with rfl | hp
    · exact ⟨y, z, fun j s => (back s).1 (hs.dj j i a (back s).2 sl)⟩
    · obtain ⟨x, y, z⟩ := hs.pn p hp
      exact ⟨x, y, fun j s => z j (back s).2⟩
  · refine List.nodup_cons.mpr ⟨fun hm => ?_, hs.pd⟩
    obtain ⟨p, hp, e1⟩ := List.mem_map.mp hm
    exact (hs.pn p hp).2.2 i (by rw [e1]; exact sl)
  · obtain ⟨j, w', f', e', n', s'⟩ := q
    rw [gets hi] at e'
    by_cases z : j = i
    · rw [if_pos z] at e'; cases e'
    · rw [if_neg z] at e'; exact ⟨j, w', f', e', n', s'⟩
  · obtain ⟨j, w', f', e', n', s'⟩ := q
    rw [gets hi] at e'
    by_cases z : j = i
    · rw [if_pos z] at e'; cases e'
    · rw [if_neg z] at e'; exact ⟨j, w', f', e', n', s'⟩
end
end Py

namespace Py
open PySem PySem.Spec PyProof.Rows L2
variable [HW]
section
variable {X : Cx} {c : Cf} {tk : Tk} {g : Nat} {st : Stmt} {sts : List Stmt} {e a b tg iter : Expr} {ea eb eas : E} {s r : S} {pos p : Pos} {x : Str}
theorem Md.one {A : Nat → Option Addr} {σ : Sg} {ρ ρ1 : Env} {H H1 : Hp} {F F1 : Addr → Prop} {Pn : List (Addr × W)} {u : Arg} {v : V} (m : Md c A σ ρ H F Pn [u] [v] ρ1 H1 F1) : SRel c.K A σ ρ1 H1 F1 (pnd u v ++ Pn) ∧ AR c.K σ H1 F1 u v ∧ ∀ d y, (d, y) ∈ pnd u v → H d = none := by
  refine ⟨by simpa [pnds] using m.sr, by cases m.ar with | cons h _ => exact h, fun d y z => m.fr d y (by simpa [pnds] using z)⟩
/-- an argument is shared, the step from the statement's start -/
theorem Md.sh1 {A : Nat → Option Addr} {σ : Sg} {ρ ρ1 ρ2 : Env} {H H1 : Hp} {F F1 : Addr → Prop} {Pn : List (Addr × W)} {u : Arg} {v : V} {w : W} (m : Md c A σ ρ H F Pn [u] [v] ρ1 H1 F1) (h : shr ρ1 u = some (w, ρ2)) :
    ∃ F2, SRel c.K A σ ρ2 H1 F2 Pn ∧ HR c.K H1 F2 v w ∧ Stp σ ρ H F σ ρ2 H1 F2 := by
  obtain ⟨s1, ar, fr⟩ := m.one
  obtain ⟨F2, s2, r2, _, t2⟩ := AR.share (P1 := []) (Pn := Pn) (by simpa using s1) ar h
  exact ⟨F2, by simpa using s2, r2, t2 H F ρ m.st fr⟩
/-- return e -/
theorem s_ret (he : PE X e (tX c ea)) : PS X (.Return (some e) pos) (tS c tk g (.ret ea)) := by
  refine psImp (ps_ret he) fun D σ H ⟨A, ρ, F, Pn, hs, q⟩ => ?_
  refine tX_S hs q fun u v ρ1 H1 F1 m q1 => ?_
  obtain ⟨s1, ar, fr⟩ := m.one
  cases u with
  | val w f =>
    refine q1 v σ H1 F1 m.st s1 (fun hf => ?_) fun hf => ?_
    · subst hf
      obtain ⟨c', rfl⟩ := ar
      exact ⟨c', rfl, .inl (fr c' w (by simp [pnd]))⟩
    · subst hf; exact ar
  | slot i =>
    have s1 : SRel c.K A σ ρ1 H1 F1 Pn := by simpa [pnd] using s1
    have ar : σ[i]? = some (some v) := ar
    have q1 : RS c A σ ρ H F Pn D (match wOf ρ1 i with
      | some (w, .sh) => .rt w false ρ1
      | some (w, .own) => .rt w true (ρ1.set i none)
      | some (w, .ownL) => if isD w then .bad else .rt w false (ρ1.set i (some (w, .sh)))
      | _ => .bad) := q1
    cases e1 : wOf ρ1 i with
    | none => rw [e1] at q1; exact q1.elim
    | some y =>
      obtain ⟨w, f⟩ := y
      rw [e1] at q1
      have e2 := wOf_eq.mp e1
      cases f with
      | sh =>
        obtain ⟨v', a1, a2⟩ := s1.sh i w e2
        rw [ar] at a1; cases a1
        exact q1 v σ H1 F1 m.st (by simpa [pnd] using s1) (fun h => nomatch h) fun _ => a2
      | own =>
        obtain ⟨d, a1, a2, a3⟩ := s1.ow i w .own e2 (by decide)
        rw [ar] at a1; cases a1
        obtain ⟨s2, t2⟩ := s1.take e2 ar
        exact q1 _ σ H1 F1 (m.st.trans t2) (by simpa [pnd] using s2) (fun _ => ⟨d, rfl, m.st.fo (.inr ⟨i, w, .own, e2, .inl rfl, ar⟩)⟩) fun h => nomatch h
      | ownL =>
        by_cases nd : isD w = true
        · simp only [nd, if_true] at q1; exact q1.elim
        have nd' : isD w = false := by simpa using nd
        simp only [nd', Bool.false_eq_true, if_false] at q1
        obtain ⟨F2, s2, r2, t2⟩ := s1.give nd' e2 (.inr rfl) ar
        exact q1 v σ H1 F2 (m.st.trans t2) (by simpa [pnd] using s2) (fun h => nomatch h) fun _ => r2
      | io => exact q1.elim
      | ioL => exact q1.elim

/-! ### x = e -/
theorem asV_ok {A : Nat → Option Addr} {σ : Sg} {ρ1 ρ2 : Env} {H1 : Hp} {F1 : Addr → Prop} {Pn P1 : List (Addr × W)} {i : Nat} {w : W} {f : Bool} {v : V} (s1 : SRel c.K A σ ρ1 H1 F1 (P1 ++ (pnd (.val w f) v ++ Pn))) (ar : AR c.K σ H1 F1 (.val w f) v) (h : asA i (.val w f) ρ1 = some ρ2) :
    SRel c.K A (σ.set i (some v)) ρ2 H1 F1 (P1 ++ Pn) ∧ ∀ H0 F0 ρ0 σ0, Stp σ0 ρ0 H0 F0 σ ρ1 H1 F1 → (∀ d y, (d, y) ∈ pnd (.val w f) v → H0 d = none) → Stp σ0 ρ0 H0 F0 (σ.set i (some v)) ρ2 H1 F1 := by
  cases f with
  | false =>
    have h : setN ρ1 i w .sh = some ρ2 := h
    obtain ⟨s2, t2⟩ := s1.setV (v := v) ar h
    exact ⟨by simpa [pnd] using s2, fun _ _ _ _ st _ => st.trans t2⟩
  | true =>
    have h : setN ρ1 i w .own = some ρ2 := h
    obtain ⟨d, rfl⟩ := ar
    obtain ⟨s2, t2⟩ := SRel.setO (P1 := P1) (Pn := Pn) (c := d) (w := w) (by simpa [pnd] using s1) h
    exact ⟨s2, fun H0 F0 ρ0 σ0 st hn => t2 H0 F0 ρ0 σ0 st (hn d w (by simp [pnd]))⟩
theorem asA_ok {A : Nat → Option Addr} {σ : Sg} {ρ1 ρ2 : Env} {H1 : Hp} {F1 : Addr → Prop} {Pn : List (Addr × W)} {i : Nat} {u : Arg} {v : V} (s1 : SRel c.K A σ ρ1 H1 F1 (pnd u v ++ Pn)) (ar : AR c.K σ H1 F1 u v) (h : asA i u ρ1 = some ρ2) :
    ∃ F2, SRel c.K A (σ.set i (some v)) ρ2 H1 F2 Pn ∧ ∀ H0 F0 ρ0, Stp σ ρ0 H0 F0 σ ρ1 H1 F1 → (∀ d y, (d, y) ∈ pnd u v → H0 d = none) → Stp σ ρ0 H0 F0 (σ.set i (some v)) ρ2 H1 F2 := by
  cases u with
  | val w f =>
    obtain ⟨s2, t2⟩ := asV_ok (P1 := []) (by simpa using s1) ar h
    exact ⟨F1, by simpa using s2, fun H0 F0 ρ0 st hn => t2 H0 F0 ρ0 σ st hn⟩
  | slot j =>
    unfold asA at h
    cases e1 : shr ρ1 (.slot j) with
    | none => simp only [e1] at h; cases h
    | some y =>
      obtain ⟨w, ρ3⟩ := y
      simp only [e1] at h
      obtain ⟨F3, s3, r3, m3, t3⟩ := AR.share (P1 := []) (Pn := Pn) (a := .slot j) (v := v) (by simpa using s1) ar e1
      obtain ⟨s4, t4⟩ := s3.setV (v := v) r3 h
      exact ⟨F3, by simpa using s4, fun H0 F0 ρ0 st hn => (t3 H0 F0 ρ0 st hn).trans t4⟩
theorem asn_read {i : Nat} {D : Ends} {σ : Sg} {H : Hp} (h : tS c tk g (.asn i ea) D σ H) : tAsg (tX c ea) (gName i) D σ H := by
  obtain ⟨A, ρ, F, Pn, hs, q⟩ := h
  refine tX_S hs q fun u v ρ1 H1 F1 m q1 => ?_
  obtain ⟨s1, ar, fr⟩ := m.one
  cases e1 : asA i u ρ1 with
  | none => simp only [e1] at q1; exact q1.elim
  | some ρ2 =>
    simp only [e1] at q1
    obtain ⟨F2, s2, t2⟩ := asA_ok s1 ar e1
    exact q1 _ H1 F2 (t2 H F ρ m.st fr) s2
theorem s_asn {i : Nat} {p' : Pos} (hN : X.N.Nodup) (hi : X.N[i]? = some x) (hx : Loc X.env.scope x) (hf : X.fn x = true ∨ X.env.scope.names.lookup x = some .local) (he : PE X e (tX c ea)) (hs : swapsWith e (some (.Name x p')) pos.line X.env = pure false) :
    PS X (.Assign [.Name x p'] e pos) (tS c tk g (.asn i ea)) := psImp (ps_set hN hi hx he hs hf) fun D σ H h => asn_read h
/-- .. a comprehension's list -/
theorem s_asnLc {i : Nat} {py : Pos} {elt : Expr} {ee et : E} {scope : Scope} {ownN : List (Str × Nat)} {k : IK} {q : Pt} {ifs : List Expr} (hc : c.K = X.K) (calm : X.calm = true) (hN : X.N.Nodup) (hy : X.N[i]? = some x) (hyl : X.env.scope.names.lookup x = some .local)
    (hsw : swapsWith (.ListComp elt [⟨tg, iter, ifs, 0⟩] scope p) (some (.Name x py)) pos.line X.env = pure true)
    (hi : PI X tg iter (tI c k eas)) (ok : BlkOk X.N X.env.scope scope ownN) (nd : (ownN.map (·.2)).Nodup) (hsub : ∀ j ∈ q.ns, j ∈ ownN.map (·.2))
    (hg : ∀ (s : Shared) (H : Hp) (C : Addr) (cl : List (Str × Addr)) (fp : List Addr), PG (X.blk s H scope (compEnvC scope cl C X.env) fp) tg (gP X.K q))
    (ht : ∀ (s : Shared) (H : Hp) (C : Addr) (cl : List (Str × Addr)) (fp : List Addr), PTs (X.blk s H scope (compEnvC scope cl C X.env) fp) ifs (tXB c.nox et))
    (he : ∀ (s : Shared) (H : Hp) (C : Addr) (cl : List (Str × Addr)) (fp : List Addr), PE (X.blk s H scope (compEnvC scope cl C X.env) fp) elt (tX c.nox ee)) (hf : ∀ x, foldedSetIterable iter X.env x = pure x) :
    PS X (.Assign [.Name x py] (.ListComp elt [⟨tg, iter, ifs, 0⟩] scope p) pos) (tS c tk g (.asn i (.lc ee q et k eas (ownN.map (·.2))))) := by
  refine psImp (ps_setLc calm hN hy hyl hsw hi ok hg ht he hf) fun D σ H h => ?_
  have h1 := asn_read h
  have h2 : tX c (.lc ee q et k eas (ownN.map (·.2))) σ H fun v H1 => gName i v σ H1 D.nx := h1
  show tLc _ _ _ _ _ σ H fun v H1 => gName i v σ H1 D.nx
  rw [← hc]
  exact lc_imp nd hsub h2
theorem s_asnLc2 {i : Nat} {py : Pos} {elt tg1 iter1 : Expr} {ee et et1 es1 : E} {scope : Scope} {ownN : List (Str × Nat)} {k k1 : IK} {q p1 : Pt} {ifs ifs1 : List Expr} (hc : c.K = X.K) (calm : X.calm = true) (hN : X.N.Nodup) (hy : X.N[i]? = some x) (hyl : X.env.scope.names.lookup x = some .local)
    (hsw : swapsWith (.ListComp elt [⟨tg, iter, ifs, 0⟩, ⟨tg1, iter1, ifs1, 0⟩] scope p) (some (.Name x py)) pos.line X.env = pure true)
    (hi : PI X tg iter (tI c k eas)) (ok : BlkOk X.N X.env.scope scope ownN) (nd : (ownN.map (·.2)).Nodup) (nd1 : p1.ns.Nodup) (hsub : ∀ j ∈ q.ns, j ∈ ownN.map (·.2)) (hsub1 : ∀ j ∈ p1.ns, j ∈ ownN.map (·.2))
    (hg : ∀ (s : Shared) (H : Hp) (C : Addr) (cl : List (Str × Addr)) (fp : List Addr), PG (X.blk s H scope (compEnvC scope cl C X.env) fp) tg (gP X.K q))
    (ht : ∀ (s : Shared) (H : Hp) (C : Addr) (cl : List (Str × Addr)) (fp : List Addr), PTs (X.blk s H scope (compEnvC scope cl C X.env) fp) ifs (tXB c.nox et))
    (hi1 : ∀ (s : Shared) (H : Hp) (C : Addr) (cl : List (Str × Addr)) (fp : List Addr), PI (X.blk s H scope (compEnvC scope cl C X.env) fp) tg1 iter1 (tIF c.nox k1 es1))
    (hg1 : ∀ (s : Shared) (H : Hp) (C : Addr) (cl : List (Str × Addr)) (fp : List Addr), PG (X.blk s H scope (compEnvC scope cl C X.env) fp) tg1 (gP X.K p1))
    (ht1 : ∀ (s : Shared) (H : Hp) (C : Addr) (cl : List (Str × Addr)) (fp : List Addr), PTs (X.blk s H scope (compEnvC scope cl C X.env) fp) ifs1 (tXB c.nox et1))
    (he : ∀ (s : Shared) (H : Hp) (C : Addr) (cl : List (Str × Addr)) (fp : List Addr), PE (X.blk s H scope (compEnvC scope cl C X.env) fp) elt (tX c.nox ee)) (hf : ∀ x, foldedSetIterable iter X.env x = pure x) (hf1 : ∀ env x, foldedSetIterable iter1 env x = pure x) :
    PS X (.Assign [.Name x py] (.ListComp elt [⟨tg, iter, ifs, 0⟩, ⟨tg1, iter1, ifs1, 0⟩] scope p) pos) (tS c tk g (.asn i (.lc2 ee q et k eas p1 et1 k1 es1 (ownN.map (·.2))))) := by
  refine psImp (ps_setLc2 calm hN hy hyl hsw hi ok hsub1 hg ht hi1 hg1 ht1 he hf hf1) fun D σ H h => ?_
  have h1 := asn_read h
  have h2 : tX c (.lc2 ee q et k eas p1 et1 k1 es1 (ownN.map (·.2))) σ H fun v H1 => gName i v σ H1 D.nx := h1
  show tLc2 _ _ _ _ _ _ _ _ _ σ H fun v H1 => gName i v σ H1 D.nx
  rw [← hc]
  exact lc2_imp nd nd1 hsub hsub1 h2
/-- a, b = e -/
theorem s_asp {q : Pt} (hg : PG X tg (gP X.K q)) (hc : c.K = X.K) (he : PE X e (tX c ea)) (hs : swapsWithSole [tg] e pos.line X.env = pure false) (hw : swappedStores [tg] e X.env = pure none) (h1 : (assignEach [tg] X.env).map (·.2) = [assign tg X.env]) :
    PS X (.Assign [tg] e pos) (tS c tk g (.asp q ea)) := by
  refine psImp (ps_asg he hg hs hw h1) fun D σ H ⟨A, ρ, F, Pn, hs, h⟩ => ?_
  refine tX_S hs h fun u v ρ1 H1 F1 m q1 => ?_
  cases e1 : shr ρ1 u with
  | none => simp only [e1] at q1; exact q1.elim
  | some y =>
    obtain ⟨w, ρ2⟩ := y
    simp only [e1] at q1
    obtain ⟨F2, s2, r2, t2⟩ := m.sh1 e1
    cases e2 : asP q w ρ2 with
    | none => simp only [e2] at q1; exact q1.elim
    | some ρ3 =>
      simp only [e2] at q1
      rw [← hc]
      exact ⟨A, ρ2, F2, Pn, w, ρ3, s2, r2, e2, fun σ' s3 t3 _ => q1 σ' H1 F2 (t2.trans t3) s3⟩

/-! ### a, b = e1, e2 -/
def setAll (σ : Sg) : List Nat → List V → Sg
  | i :: is, v :: vs => setAll (σ.set i (some v)) is vs
  | _, _ => σ
theorem fixA_ok {A : Nat → Option Addr} {σ : Sg} {H : Hp} : ∀ {as as' : List Arg} {vs : List V} {Pn : List (Addr × W)} {ρ ρ' : Env} {F : Addr → Prop}, SRel c.K A σ ρ H F (pnds as vs ++ Pn) → ARs c.K σ H F as vs → fixA ρ as = some (as', ρ') →
    ∃ F', SRel c.K A σ ρ' H F' (pnds as' vs ++ Pn) ∧ ARs c.K σ H F' as' vs ∧ (∀ a, F a → F' a) ∧ pnds as' vs = pnds as vs ∧ (∀ u ∈ as', ∃ w f, u = .val w f) ∧ ∀ H0 F0 ρ0, Stp σ ρ0 H0 F0 σ ρ H F → Stp σ ρ0 H0 F0 σ ρ' H F'
  | [], as', _, Pn, ρ, ρ', F, hs, .nil, e => by
    obtain ⟨rfl, rfl⟩ : [] = as' ∧ ρ = ρ' := by simpa [fixA] using e
    exact ⟨F, hs, .nil, fun _ q => q, rfl, (fun _ h => nomatch h), fun _ _ _ st => st⟩
  | .val w f :: as, as', v :: vs, Pn, ρ, ρ', F, hs, .cons h t, e => by
    simp only [fixA] at e
    cases q : fixA ρ as with
    | none => rw [q] at e; cases e
    | some y =>
      obtain ⟨bs, ρ1⟩ := y
      rw [q] at e
      obtain ⟨rfl, rfl⟩ : .val w f :: bs = as' ∧ ρ1 = ρ' := by simpa using e
      obtain ⟨F1, s1, a1, m1, p1, v1, t1⟩ := fixA_ok (Pn := pnd (.val w f) v ++ Pn) (by simpa [pnds] using hs) t q
      refine ⟨F1, by simpa [pnds] using s1, .cons (h.more m1) a1, m1, by simp [pnds, p1], fun u hu => ?_, t1⟩
      rcases List.mem_cons.mp hu with rfl | hu
      · exact ⟨w, f, rfl⟩
      · exact v1 u hu
  | .slot i :: as, as', v :: vs, Pn, ρ, ρ', F, hs, .cons h t, e => by
    simp only [fixA] at e
    cases q1 : shr ρ (.slot i) with
    | none => rw [q1] at e; cases e
    | some y =>
      obtain ⟨w, ρ1⟩ := y
      rw [q1] at e
      dsimp only at e
      cases q : fixA ρ1 as with
      | none => rw [q] at e; cases e
      | some z =>
        obtain ⟨bs, ρ2⟩ := z
        rw [q] at e
        obtain ⟨rfl, rfl⟩ : .val w false :: bs = as' ∧ ρ2 = ρ' := by simpa using e
        obtain ⟨F1, s1, r1, m1, t1⟩ := AR.share (P1 := pnds as vs) (Pn := Pn) (by simpa [pnds, pnd] using hs) h q1
        obtain ⟨F2, s2, a2, m2, p2, v2, t2⟩ := fixA_ok (Pn := Pn) s1 (t.more m1) q
        refine ⟨F2, by simpa [pnds, pnd] using s2, .cons (r1.more m2) a2, fun a z => m2 a (m1 a z), by simp [pnds, pnd, p2], fun u hu => ?_, fun H0 F0 ρ0 st => t2 H0 F0 ρ0 (t1 H0 F0 ρ0 st fun d y z => by simp [pnd] at z)⟩
        rcases List.mem_cons.mp hu with rfl | hu
        · exact ⟨w, false, rfl⟩
        · exact v2 u hu
theorem ARs.any {K : PySem.W.Frag} {σ σ' : Sg} {H : Hp} {F F' : Addr → Prop} (hm : ∀ a, F a → F' a) {as : List Arg} {vs : List V} (h : ARs K σ H F as vs) (hv : ∀ u ∈ as, ∃ w f, u = Arg.val w f) : ARs K σ' H F' as vs := by
  induction h with
  | nil => exact .nil
  | cons a _ ih =>
    refine .cons ?_ (ih fun u hu => hv u (List.mem_cons_of_mem _ hu))
    obtain ⟨w, f, rfl⟩ := hv _ List.mem_cons_self
    cases f with
    | true => exact a
    | false => exact HR.more hm a
theorem asAs_ok {A : Nat → Option Addr} {H : Hp} : ∀ {is : List Nat} {as : List Arg} {vs : List V} {Pn : List (Addr × W)} {σ : Sg} {ρ ρ' : Env} {F : Addr → Prop}, SRel c.K A σ ρ H F (pnds as vs ++ Pn) → ARs c.K σ H F as vs → (∀ u ∈ as, ∃ w f, u = .val w f) → asAs is as ρ = some ρ' →
    is.length = vs.length ∧ is.Nodup ∧ ∃ F', SRel c.K A (setAll σ is vs) ρ' H F' Pn ∧ ∀ H0 F0 ρ0 σ0, Stp σ0 ρ0 H0 F0 σ ρ H F → (∀ d y, (d, y) ∈ pnds as vs → H0 d = none) → Stp σ0 ρ0 H0 F0 (setAll σ is vs) ρ' H F'
  | [], [], [], Pn, σ, ρ, ρ', F, hs, .nil, hv, e => by
    obtain rfl : ρ = ρ' := by simpa [asAs] using e
    exact ⟨rfl, List.nodup_nil, F, hs, fun _ _ _ _ st _ => st⟩
  | i :: is, a :: as, v :: vs, Pn, σ, ρ, ρ', F, hs, .cons h t, hv, e => by
    simp only [asAs] at e
    cases hi : is.contains i with
    | true => rw [hi] at e; simp at e
    | false =>
      rw [hi] at e
      simp only [Bool.false_eq_true, if_false] at e
      obtain ⟨w, f, rfl⟩ := hv a List.mem_cons_self
      cases q : asA i (.val w f) ρ with
      | none => rw [q] at e; cases e
      | some ρ1 =>
        rw [q] at e
        have s0 : SRel c.K A σ ρ H F (pnds as vs ++ (pnd (.val w f) v ++ Pn)) := by simpa [pnds] using hs
        obtain ⟨s1, t1⟩ := asV_ok s0 h q
        have hv' : ∀ u ∈ as, ∃ w f, u = Arg.val w f := fun u hu => hv u (List.mem_cons_of_mem _ hu)
        obtain ⟨l2, n2, F2, s2, t2⟩ := asAs_ok (σ := σ.set i (some v)) s1 (t.any (fun _ z => z) hv') hv' e
        exact ⟨by simp [l2], List.nodup_cons.mpr ⟨fun z => (by rw [List.contains_iff_mem.mpr z] at hi; cases hi), n2⟩, F2, s2, fun H0 F0 ρ0 σ0 st hn => t2 H0 F0 ρ0 σ0 (t1 H0 F0 ρ0 σ0 st fun d y z => hn d y (by simp [pnds, z])) fun d y z => hn d y (by simp [pnds, z])⟩
  | [], _ :: _, _, _, _, _, _, _, _, _, _, e => by simp [asAs] at e
  | _ :: _, [], _, _, _, _, _, _, _, _, _, e => by simp [asAs] at e
end
end Py

namespace Py
open PySem PySem.Spec PyProof.Rows L2
variable [HW]
section
variable {X : Cx} {c : Cf} {tk : Tk} {g : Nat} {st : Stmt} {sts : List Stmt} {e a b tg iter : Expr} {ea eb eas ec : E} {s r : S} {pos p : Pos} {x : Str}
/-! ### a, b = e1, e2 -/
theorem par_read {is : List Nat} {D : Ends} {σ : Sg} {H : Hp} {R : List V → Hp → Prop} (h : tS c tk g (.par is eas) D σ H)
    (fin : ∀ vs H1, is.length = vs.length → is.Nodup → (∀ p o, H1 p = none → D.nx (setAll σ is vs) (upd H1 p o)) → D.nx (setAll σ is vs) H1 → vs.length ≤ szL → R vs H1) (hz : is.length ≤ 1000) : tXL c eas σ H R := by
  obtain ⟨A, ρ, F, Pn, hs, q⟩ := h
  refine tXL_S hs q fun us vs ρ1 H1 F1 m q1 => ?_
  cases e1 : fixA ρ1 us with
  | none => simp only [e1] at q1; exact q1.elim
  | some y =>
    obtain ⟨as, ρ2⟩ := y
    simp only [e1] at q1
    obtain ⟨F2, s2, a2, m2, p2, v2, t2⟩ := fixA_ok m.sr m.ar e1
    cases e2 : asAs is as ρ2 with
    | none => simp only [e2] at q1; exact q1.elim
    | some ρ3 =>
      simp only [e2] at q1
      obtain ⟨l3, n3, F3, s3, t3⟩ := asAs_ok s2 a2 v2 e2
      have t := t3 H F ρ σ (t2 H F ρ m.st) (by rw [p2]; exact m.fr)
      exact fin vs H1 l3 n3 (fun p o hp => q1 _ _ F3 (t.trans (.alloc hp)) (s3.alloc hp)) (q1 _ _ F3 t s3) (by rw [← l3]; exact Nat.le_trans hz (by decide))
theorem s_par2 {i j : Nat} {x y : Str} {px py pt : Pos} {kt k2 pt2} (hc : X.calm = true) (hN : X.N.Nodup) (hi : X.N[i]? = some x) (hj : X.N[j]? = some y)
    (hx : X.env.scope.names.lookup x = some .local) (hy : X.env.scope.names.lookup y = some .local) (ha : PA X [a, b] (tXL c eas))
    (hw : swappedStores [.Tuple [.Name x px, .Name y py] kt pt] (.Tuple [a, b] k2 pt2) X.env = pure (some [x, y])) (hij : i ≠ j) :
    PS X (.Assign [.Tuple [.Name x px, .Name y py] kt pt] (.Tuple [a, b] k2 pt2) pos) (tS c tk g (.par [i, j] eas)) := by
  refine psImp (ps_par hc hN hi hj hij hx hy ha hw) fun D σ H h => par_read h (fun vs H1 hl _ _ q _ => ?_) (by simp)
  match vs, hl, q with
  | [v, w], _, q => exact ⟨v, w, rfl, q⟩
theorem s_par3 {i j l : Nat} {d : Expr} {x y z : Str} {px py pz pt : Pos} {kt k2 pt2} (hc : X.calm = true) (hN : X.N.Nodup) (hi : X.N[i]? = some x) (hj : X.N[j]? = some y) (hl : X.N[l]? = some z)
    (hx : X.env.scope.names.lookup x = some .local) (hy : X.env.scope.names.lookup y = some .local) (hz : X.env.scope.names.lookup z = some .local) (ha : PA X [a, b, d] (tXL c eas))
    (hw : swappedStores [.Tuple [.Name x px, .Name y py, .Name z pz] kt pt] (.Tuple [a, b, d] k2 pt2) X.env = pure (some [x, y, z])) (hij : i ≠ j) (hil : i ≠ l) (hjl : j ≠ l) :
    PS X (.Assign [.Tuple [.Name x px, .Name y py, .Name z pz] kt pt] (.Tuple [a, b, d] k2 pt2) pos) (tS c tk g (.par [i, j, l] eas)) := by
  refine psImp (ps_par3 hc hN hi hj hl hij hil hjl hx hy hz ha hw) fun D σ H h => par_read h (fun vs H1 hl _ _ q _ => ?_) (by simp)
  match vs, hl, q with
  | [u, v, w], _, q => exact ⟨u, v, w, rfl, q⟩
/-- names one after another -/
def gAll : List Nat → TGs
  | [] => gNil
  | i :: is => gCons (gName i) (gAll is)
theorem gAll_of {D : Ends} : ∀ {is : List Nat} {vs : List V} {σ : Sg} {H : Hp}, is.length = vs.length → D.nx (setAll σ is vs) H → gAll is vs σ H D.nx
  | [], [], σ, H, _, q => ⟨rfl, q⟩
  | i :: is, v :: vs, σ, H, hl, q => ⟨v, vs, rfl, gAll_of (is := is) (by simpa using hl) q⟩
/-- names as targets, in any number -/
inductive NmS (X : Cx) : List Expr → List Nat → Prop
  | nil : NmS X [] []
  | cons {x : Str} {p : Pos} {i : Nat} {es : List Expr} {is : List Nat} : X.N[i]? = some x → Loc X.env.scope x → (X.fn x = true ∨ X.env.scope.names.lookup x = some .local) → NmS X es is → NmS X (.Name x p :: es) (i :: is)
theorem NmS.pgs {es : List Expr} {is : List Nat} (hN : X.N.Nodup) (h : NmS X es is) : PGs X es (gAll is) := by
  induction h with
  | nil => exact pgs_nil
  | cons h1 h2 h3 _ ih => exact pgs_cons (pg_name hN h1 h2 h3) ih rfl
theorem NmS.len {es : List Expr} {is : List Nat} (h : NmS X es is) : es.length = is.length := by
  induction h with
  | nil => rfl
  | cons _ _ _ _ ih => simp [ih]
theorem NmS.plain {es : List Expr} {is : List Nat} (h : NmS X es is) : es.all plainE = true := by
  induction h with
  | nil => rfl
  | cons _ _ _ _ ih => simp [ih, plainE]
theorem s_parN {ts es : List Expr} {is : List Nat} {kt k2 pt pt2} (hc : X.calm = true) (hN : X.N.Nodup) (hn : NmS X ts is) (ha : PA X es (tXL c eas)) (hz : is.length ≤ 1000)
    (hw : swappedStores [.Tuple ts kt pt] (.Tuple es k2 pt2) X.env = pure none) : PS X (.Assign [.Tuple ts kt pt] (.Tuple es k2 pt2) pos) (tS c tk g (.par is eas)) := by
  refine psImp (ps_asg (pe_tup ha) (pg_tup hc (NmS.pgs hN hn) (each_len _ _) (each_star _ hn.plain)) rfl hw rfl) fun D σ H h => ?_
  exact par_read h (fun vs H1 hl _ q _ hv => ⟨hv, fun p hp => ⟨p, vs, rfl, .inl (.inl upd_same), by rw [hn.len, hl], gAll_of hl (q p _ hp)⟩⟩) hz

/-- an argument behind others -/
theorem tX_S2 {A : Nat → Option Addr} {σ : Sg} {ρ ρ1 : Env} {H H1 : Hp} {F F1 : Addr → Prop} {Pn : List (Addr × W)} {as : List Arg} {vs : List V} {D : Ends} {e : E} {R : VK} {f : Arg → Env → SO} (m : Md c A σ ρ H F Pn as vs ρ1 H1 F1) (h : RS c A σ ρ H F Pn D (SO.bnd ((ev c.C e).x ρ1) f))
    (fin : ∀ u v ρ2 H2 F2, Md c A σ ρ H F Pn (as ++ [u]) (vs ++ [v]) ρ2 H2 F2 → RS c A σ ρ H F Pn D (f u ρ2) → R v H2) : tX c e σ H1 R :=
  ⟨A, ρ1, F1, pnds as vs ++ Pn, m.sr, (bnd_ok h).mono (fun a ρ2 h2 v H2 F2 st s ar fr => fin a v ρ2 H2 F2 (m.snoc st s ar fr) h2) fun _ _ _ e => e.step m.st⟩
/-! ### a change in place -/
theorem SRel.mutG {K : PySem.W.Frag} {A : Nat → Option Addr} {σ : Sg} {ρ : Env} {H : Hp} {F : Addr → Prop} {Pn : List (Addr × W)} {i : Nat} {w : W} {f : Fl} {d : Addr} {ob : HO} {w1 : W} (hs : SRel K A σ ρ H F Pn) (e : ρ[i]? = some (some (w, f))) (hf : f = .own ∨ f = .io) (ed : σ[i]? = some (some (.ref d)))
    (hc1 : (∀ a xs, SqT K H a xs → SqT K (upd H d ob) a xs) → (∀ a xs, F a → Rd H a (.lst xs) → Rd (upd H d ob) a (.lst xs)) → Cell K (upd H d ob) F d w1) : SRel K A σ (ρ.set i (some (w1, f))) (upd H d ob) F Pn ∧ Stp σ ρ H F σ (ρ.set i (some (w1, f))) (upd H d ob) F := by
  have nsh : f ≠ .sh := by rcases hf with rfl | rfl <;> decide
  have hi := lt_of_get e
  obtain ⟨d', x, nF, hc⟩ := hs.ow i w f e nsh
  rw [ed] at x; cases x
  obtain ⟨l0, e0, m0⟩ := hc.obj
  have sl : SlA σ ρ i d := ⟨w, f, e, nsh, ed⟩
  have rd : ∀ a u, a ≠ d → Rd H a u → Rd (upd H d ob) a u := fun a u n h => by
    rcases h with h | ⟨o, h⟩
    · exact .inl (by rw [upd_ne n]; exact h)
    · exact .inr ⟨o, by rw [upd_ne n]; exact h⟩
  have sq : ∀ a xs, SqT K H a xs → SqT K (upd H d ob) a xs := fun a xs h => by
    rcases h with h | h
    · refine .inl (rd a _ ?_ h)
      rintro rfl
      exact no_tup e0 m0 h
    · exact .inr h
  have hrm : ∀ {v : V} {x : W}, HR K H F v x → HR K (upd H d ob) F v x := fun h => h.mono sq (fun _ q => q) fun a xs f r => rd a _ (fun z => nF (z ▸ f)) r
  have hrs : ∀ {v : List V} {x : List W}, HRs K H F v x → HRs K (upd H d ob) F v x := fun h => h.mono sq (fun _ q => q) fun a xs f r => rd a _ (fun z => nF (z ▸ f)) r
  have hds : ∀ {es : DEs} {x : List (W × W)}, DRel K H F es x → DRel K (upd H d ob) F es x := fun h => h.mono sq (fun _ q => q) fun a xs f r => rd a _ (fun z => nF (z ▸ f)) r
  have cell : ∀ {a : Addr} {x : W}, a ≠ d → Cell K H F a x → Cell K (upd H d ob) F a x := fun {a x} n h => by
    cases x <;> first | exact h.elim | skip
    · obtain ⟨l, e, z, r⟩ := h
      exact ⟨l, by rw [upd_ne n]; exact e, z, hrs r⟩
    · obtain ⟨l, e, z, k, r⟩ := h
      exact ⟨l, by rw [upd_ne n]; exact e, z, k, hds r⟩
  have sla : ∀ j a, SlA σ (ρ.set i (some (w1, f))) j a → SlA σ ρ j a := fun j a ⟨w', f', e', n', s'⟩ => by
    rw [gets hi] at e'
    by_cases q : j = i
    · rw [if_pos q] at e'; cases e'; subst q; exact ⟨w, f, e, nsh, s'⟩
    · rw [if_neg q] at e'; exact ⟨w', f', e', n', s'⟩
  refine ⟨⟨by simpa using hs.ln, fun j w' e' => ?_, fun j w' f' e' n => ?_, fun j w' f' e' q => ?_, fun j k a h1 h2 => hs.dj j k a (sla _ _ h1) (sla _ _ h2), fun p hp => ?_, hs.pd, fun a z => ?_⟩, ⟨fun a o h n => ?_, fun _ h => h, fun _ _ _ h => .inl h, fun a o _ z => ?_, fun a o _ j z => sla j a z, fun a o _ z => ?_, fun a o h => ?_⟩⟩
  · rw [gets hi] at e'
    by_cases q : j = i
    · rw [if_pos q] at e'; cases e'; exact absurd rfl nsh
    · rw [if_neg q] at e'
      obtain ⟨v, a, b⟩ := hs.sh j w' e'
      exact ⟨v, a, hrm b⟩
  · rw [gets hi] at e'
    by_cases q : j = i
    · rw [if_pos q] at e'; cases e'; subst q
      exact ⟨d, ed, nF, hc1 sq fun a xs f r => rd a _ (fun z => nF (z ▸ f)) r⟩
    · rw [if_neg q] at e'
      obtain ⟨a, x, y, z⟩ := hs.ow j w' f' e' n
      exact ⟨a, x, y, cell (fun k => q (hs.dj j i d ⟨w', f', e', n, k ▸ x⟩ sl)) z⟩
  · rw [gets hi] at e'
    by_cases z : j = i
    · rw [if_pos z] at e'; cases e'; subst z; exact hs.io j w f e q
    · rw [if_neg z] at e'; exact hs.io j w' f' e' q
  · obtain ⟨x, y, z⟩ := hs.pn p hp
    exact ⟨x, cell (fun k => z i (k ▸ sl)) y, fun j s => z j (sla j _ s)⟩
  · obtain ⟨o, q⟩ := hs.ff a z
    have n : a ≠ d := fun k => nF (k ▸ z)
    exact ⟨o, by rw [upd_ne n]; exact q⟩
  · have n' : a ≠ d := fun k => n ⟨i, w, f, e, hf, k ▸ ed⟩
    rw [upd_ne n']; exact h
  · obtain ⟨j, w', f', e', n', s'⟩ := z
    rw [gets hi] at e'
    by_cases q : j = i
    · rw [if_pos q] at e'; cases e'; subst q; exact ⟨j, w, f, e, n', s'⟩
    · rw [if_neg q] at e'; exact ⟨j, w', f', e', n', s'⟩
  · obtain ⟨j, w', f', e', n', s'⟩ := z
    rw [gets hi] at e'
    by_cases q : j = i
    · rw [if_pos q] at e'; cases e'; subst q; exact ⟨j, w, f, e, n', s'⟩
    · rw [if_neg q] at e'; exact ⟨j, w', f', e', n', s'⟩
  · by_cases q : a = d
    · subst q; exact ⟨_, upd_same⟩
    · exact ⟨o, by rw [upd_ne q]; exact h⟩
theorem SRel.mut {K : PySem.W.Frag} {A : Nat → Option Addr} {σ : Sg} {ρ : Env} {H : Hp} {F : Addr → Prop} {Pn : List (Addr × W)} {i : Nat} {w : W} {f : Fl} {d : Addr} {us : List V} {ws : List W} (hs : SRel K A σ ρ H F Pn) (e : ρ[i]? = some (some (w, f))) (hf : f = .own ∨ f = .io) (ed : σ[i]? = some (some (.ref d)))
    (hz : us.length ≤ szL) (hr : HRs K H F us ws) : SRel K A σ (ρ.set i (some (.lst ws, f))) (upd H d (.lst us)) F Pn ∧ Stp σ ρ H F σ (ρ.set i (some (.lst ws, f))) (upd H d (.lst us)) F :=
  hs.mutG e hf ed fun sq rd => ⟨us, upd_same, hz, hr.mono sq (fun _ q => q) rd⟩
theorem SRel.mutD {K : PySem.W.Frag} {A : Nat → Option Addr} {σ : Sg} {ρ : Env} {H : Hp} {F : Addr → Prop} {Pn : List (Addr × W)} {i : Nat} {w : W} {f : Fl} {d : Addr} {es : DEs} {ep : Nat} {kvs : List (W × W)} (hs : SRel K A σ ρ H F Pn) (e : ρ[i]? = some (some (w, f))) (hf : f = .own ∨ f = .io) (ed : σ[i]? = some (some (.ref d)))
    (hz : es.length ≤ szL) (nd : (es.map (·.1)).Nodup) (hr : DRel K H F es kvs) : SRel K A σ (ρ.set i (some (.dct kvs, f))) (upd H d (dcO d es ep)) F Pn ∧ Stp σ ρ H F σ (ρ.set i (some (.dct kvs, f))) (upd H d (dcO d es ep)) F :=
  hs.mutG e hf ed fun sq rd => ⟨es, ⟨_, upd_same⟩, hz, nd, hr.mono sq (fun _ q => q) rd⟩
/-- the object of a name that may be changed -/
theorem mut_at {K : PySem.W.Frag} {A : Nat → Option Addr} {σ : Sg} {ρ : Env} {H : Hp} {F : Addr → Prop} {Pn : List (Addr × W)} {i : Nat} {ws : List W} {f : Fl} {v : V} (hs : SRel K A σ ρ H F Pn) (e : wOf ρ i = some (.lst ws, f)) (hf : f = .own ∨ f = .io) (ev : σ[i]? = some (some v)) :
    ∃ d us, v = .ref d ∧ H d = some (.lst us) ∧ us.length ≤ szL ∧ HRs K H F us ws ∧ ρ[i]? = some (some (.lst ws, f)) ∧ σ[i]? = some (some (.ref d)) := by
  have e' := wOf_eq.mp e
  obtain ⟨d, a1, a2, us, a3, a4, a5⟩ := hs.ow i _ f e' (by rcases hf with rfl | rfl <;> decide)
  rw [ev] at a1; cases a1
  exact ⟨d, us, rfl, a3, a4, a5, e', ev⟩
/-- x[k] = e -/
theorem s_six {i : Nat} {px : Pos} {ek : E} {k : Expr} (hc : c.K = X.K) (hw : HW.P = X.prog ∧ HW.w = X.w) (hu : X.A.units + 200 < cLine) (hx : PE X (.Name x px) (tVar i)) (hk : PE X k (tX c ek)) (he : PE X e (tX c ea)) (hs : swapsWithSole [.Subscript (.Name x px) k p] e pos.line X.env = pure false) (hw2 : swappedStores [.Subscript (.Name x px) k p] e X.env = pure none)
    (ha : ∀ v, assign (.Subscript (.Name x px) k p) X.env v = (do
      let ov ← holding [v] (eval (.Name x px) X.env)
      let iv ← holding [v, ov] (eval k X.env)
      standAt p
      holding [v, ov, iv] (setItem ov iv v)
      release [v, ov, iv] [])) : PS X (.Assign [.Subscript (.Name x px) k p] e pos) (tS c tk g (.six i ek ea)) := by
  refine psImp (ps_asg he (pg_sub hx hk (set_ld hw hu) ha) hs hw2 rfl) fun D σ H ⟨A, ρ, F, Pn, hs, h⟩ => ?_
  refine tX_S hs h fun u v ρ1 H1 F1 m q1 => ?_
  obtain ⟨s1, ar, fr⟩ := m.one
  -- the name's object ahead of the index
  have fin : ∀ u' v' ρ2 H2 F2, Md c A σ ρ H F Pn [u, u'] [v, v'] ρ2 H2 F2 → RS c A σ ρ H F Pn D (sixE i u u' ρ2) → ∃ w, σ[i]? = some (some w) ∧ rSetLD X.K w v' v H2 fun H3 => D.nx σ H3 := fun u' v' ρ2 H2 F2 m2 q2 => by
    unfold sixE at q2
    have m2r : SRel c.K A σ ρ2 H2 F2 (pnd u' v' ++ (pnd u v ++ Pn)) := by simpa [pnds] using m2.sr
    obtain ⟨ar1, ar2⟩ : AR c.K σ H2 F2 u v ∧ AR c.K σ H2 F2 u' v' := by cases m2.ar with | cons h t => cases t with | cons h' _ => exact ⟨h, h'⟩
    cases e1 : shr ρ2 u with
    | none => simp only [e1] at q2; exact q2.elim
    | some y =>
      obtain ⟨w, ρ3⟩ := y
      simp only [e1] at q2
      obtain ⟨F3, s3, r3, m3, t3⟩ := AR.share (P1 := pnd u' v') (Pn := Pn) (by simpa using m2r) ar1 e1
      cases e2 : shr ρ3 u' with
      | none => simp only [e2] at q2; exact q2.elim
      | some y =>
        obtain ⟨kw, ρ4⟩ := y
        simp only [e2] at q2
        obtain ⟨F4, s4, r4, m4, t4⟩ := AR.share (P1 := []) (Pn := Pn) (by simpa using s3) (ar2.more m3) e2
        have s4 : SRel c.K A σ ρ4 H2 F4 Pn := by simpa using s4
        have t := t4 H F ρ (t3 H F ρ m2.st fun d y z => m2.fr d y (by simp [pnds, z])) fun d y z => m2.fr d y (by simp [pnds, z])
        have go : ∀ {w0 : W} {f : Fl}, wOf ρ4 i = some (w0, f) → (f = .own ∨ f = .io) → RS c A σ ρ H F Pn D (match putW w0 kw w with | some w' => .nx (ρ4.set i (some (w', f))) | none => .bad) → ∃ z, σ[i]? = some (some z) ∧ rSetLD X.K z v' v H2 fun H3 => D.nx σ H3 := fun {w0 f} e3 hf q3 => by
          cases w0 with
          | lst ws => cases kw with
            | int n =>
              obtain ⟨vi, ev⟩ := s4.val e3
              obtain ⟨d, us, rfl, e4, hz, hr, e5, e6⟩ := mut_at s4 e3 hf ev
              cases e7 : L2.ixN ws.length n with
              | none => simp [putW, e7] at q3; exact q3.elim
              | some j =>
                have q3 : RS c A σ ρ H F Pn D (.nx (ρ4.set i (some (.lst (ws.set j w), f)))) := by simpa [putW, e7] using q3
                obtain ⟨s5, t5⟩ := s4.mut e5 hf e6 (us := us.set j v) (ws := ws.set j w) (by simpa using hz) (hr.set (r3.more m4) j)
                exact ⟨_, ev, .inl ⟨d, us, n, j, rfl, (PkR.of r4).int, e4, by rw [hr.length]; exact e7, q3 σ _ F4 (t.trans t5) s5⟩⟩
            | _ => exact q3.elim
          | dct kvs =>
            have q3 : RS c A σ ρ H F Pn D (match (if kOk kw kvs = true ∧ kvs.length < szL then some (W.dct (ptW kw w kvs)) else none) with | some w' => SO.nx (ρ4.set i (some (w', f))) | none => .bad) := by cases kw <;> exact q3
            by_cases hk : kOk kw kvs = true ∧ kvs.length < szL
            · rw [if_pos hk] at q3
              obtain ⟨vi, ev⟩ := s4.val e3
              obtain ⟨d, a1, a2, es, a3, a4, a5, a6⟩ := s4.ow i _ f (wOf_eq.mp e3) (by rcases hf with rfl | rfl <;> decide)
              rw [ev] at a1; cases a1
              refine ⟨_, ev, .inr ⟨F4, d, es, kvs, kw, w, rfl, a3, by rw [a6.length]; exact hk.2, a5, by rw [← hc]; exact a6, by rw [← hc]; exact r4, hk.1, by rw [← hc]; exact r3.more m4, fun es' ep' z1 z2 z3 => ?_⟩⟩
              rw [← hc] at z3
              obtain ⟨s5, t5⟩ := s4.mutD (wOf_eq.mp e3) hf ev z1 z2 z3
              exact q3 σ _ F4 (t.trans t5) s5
            · rw [if_neg hk] at q3; exact q3.elim
          | _ => exact q3.elim
        cases e3 : wOf ρ4 i with
        | none => simp only [e3] at q2; exact q2.elim
        | some y =>
          obtain ⟨w0, f⟩ := y
          simp only [e3] at q2
          cases f with
          | own => exact go e3 (.inl rfl) q2
          | io => exact go e3 (.inr rfl) q2
          | sh => exact q2.elim
          | ownL => exact q2.elim
          | ioL => exact q2.elim
  cases e0 : wOf ρ1 i with
  | none => simp only [e0] at q1; exact q1.elim
  | some y =>
    simp only [e0] at q1
    obtain ⟨w, f⟩ := y
    obtain ⟨vi, ev⟩ := s1.val e0
    refine ⟨vi, ev, ?_⟩
    refine tX_S2 m q1 fun u' v' ρ2 H2 F2 m2 q2 => ?_
    obtain ⟨z, e1, r⟩ := fin u' v' ρ2 H2 F2 m2 q2
    rw [ev] at e1; cases e1
    exact r
end
end Py

namespace Py
open PySem PySem.Spec PyProof.Rows L2
variable [HW]
section
variable {X : Cx} {c : Cf} {tk : Tk} {g : Nat} {st : Stmt} {sts : List Stmt} {e a b tg iter : Expr} {ea eb eas ec : E} {s r : S} {pos p : Pos} {x : Str}
theorem mutOk_ok {o : Option (W × Fl)} (h : mutOk o = true) : ∃ ws f, o = some (.lst ws, f) ∧ (f = .own ∨ f = .io) := by
  unfold mutOk at h
  split at h
  · exact ⟨_, _, rfl, .inl rfl⟩
  · exact ⟨_, _, rfl, .inr rfl⟩
  · cases h
theorem mut_read {mk : MK} {i : Nat} {D : Ends} {σ : Sg} {H : Hp} {r : V → List V → Hp → VK → Prop} (h : tS c tk g (.mut mk i eas) D σ H)
    (hr : ∀ (d : Addr) us ws vs wsA w' H1 F1 Q, H1 d = some (.lst us) → us.length ≤ szL → HRs c.K H1 F1 us ws → HRs c.K H1 F1 vs wsA → mutW mk (.lst ws) wsA = some w' → (∀ us' ws2, w' = .lst ws2 → us'.length ≤ szL → HRs c.K H1 F1 us' ws2 → ∀ v, Q v (upd H1 d (.lst us'))) → r (.ref d) vs H1 Q) :
    tDrop (tBM c.K "list" r (tVar i) (tXL c eas)) D σ H := by
  obtain ⟨A, ρ, F, Pn, hs, q⟩ := h
  have q : RS c A σ ρ H F Pn D (if mutOk (wOf ρ i) = true then SO.bnd ((ev c.C eas).a ρ) (fun us ρ1 => mutE mk i us ρ1) else .bad) := q
  cases e0 : mutOk (wOf ρ i) with
  | false => simp only [e0, Bool.false_eq_true, if_false] at q; exact q.elim
  | true =>
    simp only [e0, if_true] at q
    obtain ⟨ws0, f0, e1, hf⟩ := mutOk_ok e0
    obtain ⟨vi, ev⟩ := hs.val e1
    obtain ⟨d, us, rfl, h1, _⟩ := mut_at hs e1 hf ev
    refine ⟨.ref d, ev, .inl ⟨rfl, us, .of h1⟩, ?_⟩
    refine tXL_S hs q fun as vs ρ1 H1 F1 m q1 => ?_
    unfold mutE at q1
    cases e2 : shrs ρ1 as with
    | none => simp only [e2] at q1; exact q1.elim
    | some y =>
      obtain ⟨wsA, ρ2⟩ := y
      simp only [e2] at q1
      obtain ⟨F2, m2, r2⟩ := m.share e2
      have s2 : SRel c.K A σ ρ2 H1 F2 Pn := by simpa [pnds] using m2.sr
      have go : ∀ {w : W} {f : Fl}, wOf ρ2 i = some (w, f) → (f = .own ∨ f = .io) → RS c A σ ρ H F Pn D (match mutW mk w wsA with | some w' => .nx (ρ2.set i (some (w', f))) | none => .bad) → r (.ref d) vs H1 fun _ H1 => D.nx σ H1 := fun {w f} e3 hf q3 => by
        obtain ⟨_, _, _, z⟩ := s2.ow i _ f (wOf_eq.mp e3) (by rcases hf with rfl | rfl <;> decide)
        cases w <;> first | exact z.elim | skip
        case dct => exact absurd q3 (by cases mk <;> exact fun h => h)
        rename_i ws
        obtain ⟨d', us', e, h1', hz', hr', e5, e6⟩ := mut_at s2 e3 hf ev
        cases e
        cases e4 : mutW mk (.lst ws) wsA with
        | none => simp only [e4] at q3; exact q3.elim
        | some w' =>
          simp only [e4] at q3
          refine hr d us' ws vs wsA w' H1 F2 _ h1' hz' hr' r2 e4 fun us2 ws2 ew hz2 hr2 v => ?_
          subst ew
          obtain ⟨s5, t5⟩ := s2.mut e5 hf e6 hz2 hr2
          exact q3 σ _ F2 (m2.st.trans t5) s5
      cases e3 : wOf ρ2 i with
      | none => simp only [e3] at q1; exact q1.elim
      | some y =>
        obtain ⟨w0, f⟩ := y
        simp only [e3] at q1
        cases f with
        | own => exact go e3 (.inl rfl) q1
        | io => exact go e3 (.inr rfl) q1
        | sh => exact q1.elim
        | ownL => exact q1.elim
        | ioL => exact q1.elim
theorem name_base {x : Str} {px : Pos} {attr : Str} {env : PySem.Env} {w : Sem Value} : attributeBase (.Name x px) attr env w = w := base_plain fun _ _ _ h => nomatch h
theorem s_append {i : Nat} {px apos cpos : Pos} (hc : c.K = X.K) (hx : PE X (.Name x px) (tVar i)) (hp : plainE e = true) (ha : PA X [e] (tXL c eas)) (hl : (apos.endLine == cpos.line) = true)
    (hs : swapsWith (.Call (.Attribute (.Name x px) "append" apos) [e] [] cpos) none pos.line X.env = pure false) : PS X (.Expr (.Call (.Attribute (.Name x px) "append" apos) [e] [] cpos) pos) (tS c tk g (.mut .append i eas)) := by
  refine psImp (ps_expr (pe_bm PySem.F.plainAttrs_list PySem.F.slot_list_append PySem.F.type_list_append mt_append hx ha name_base ?_ hl (star_cons _ hp _) rfl) hs) fun D σ H h => ?_
  · rw [(star_all _ _ (es := [e]) (by simp [hp])).2]
    simp [backToKw, keywordEach]
  · rw [← hc]
    refine mut_read h fun d us ws vs wsA w' H1 F1 Q e1 hz r1 r2 e2 k => ?_
    match wsA, r2, e2 with
    | [w], .cons hv .nil, e2 =>
      have e2 : (if ws.length < szL then some (W.lst (ws ++ [w])) else none) = some w' := e2
      by_cases z : ws.length < szL
      · rw [if_pos z] at e2
        have hl := r1.length
        rw [← hl] at z
        exact ⟨d, us, _, rfl, rfl, e1, z, k _ _ (Option.some.inj e2).symm (by simp; omega) (r1.append (.one hv)) .non⟩
      · rw [if_neg z] at e2; cases e2
    | [], _, e2 => cases e2
    | _ :: _ :: _, _, e2 => cases e2
theorem rd_lst {X : Cx} {pins : List (Addr × Obj)} {s : Shared} {σ : Sg} {H : Hp} (I : Inv X pins σ H s) {b : Addr} {zs : List V} (h : Rd H b (.lst zs)) : ∃ (its : List Value) (n : Nat), Vals zs its ∧ zs.length = its.length ∧ s.heap.get? b = some { cls := .type "list", data := .seq its.toArray n } := by
  rcases h with h | ⟨o, h⟩
  · obtain ⟨_, its, n, r, hl, e⟩ := I.lstM h
    exact ⟨its, n, r, hl, e⟩
  · obtain ⟨_, _, its, n, r, e⟩ := I.hok b _ h
    exact ⟨its, n, r, r.length, e⟩
def rExtR : V → List V → Hp → VK → Prop := fun x vs H Q => ∃ l b xs zs, x = .ref l ∧ vs = [.ref b] ∧ H l = some (.lst xs) ∧ Rd H b (.lst zs) ∧ xs.length + zs.length ≤ sizeLine ∧ Q .non (upd H l (.lst (xs ++ zs)))
theorem mt_extR {X : Cx} : MtM X "list.extend" rExtR := by
  intro pins s σ H x vs v us Q I rx rv h
  obtain ⟨l, b, xs, zs, rfl, rfl, hH, hB, hz, q⟩ := h
  cases rx
  obtain ⟨u, rfl, ru⟩ := rv.one
  cases ru
  obtain ⟨z, its, n, r, hl, e⟩ := I.lstM hH
  obtain ⟨its2, n2, r2, hl2, e2⟩ := rd_lst I hB
  have hsz : its.toArray.size + its2.toArray.size ≤ sizeLine := by rw [List.size_toArray, List.size_toArray]; omega
  have hlong : ¬ (!its.toArray.isEmpty && Builtin.List.listTooLong (its.toArray.size + its2.toArray.size)) = true := by
    rw [notLongL hsz, Bool.and_false]
    exact Bool.false_ne_true
  refine call_meets PySem.F.slot_list_extend ⟨_, e, rfl⟩ PySem.F.entry_list_extend (PySem.F.args_list_extend_2 _ _)
    (AutoSeq1.list_extend_list_list_0 l its.toArray n b its2.toArray n2 hlong (by rw [List.size_toArray]; omega) (by omega)) ⟨e, e2, ?_⟩
  refine ⟨.non, _, I.lset (its' := its ++ its2) hH e (by simp) (r.append r2) ?_, rfl, q⟩
  rw [List.length_append]
  omega
theorem s_extend {i : Nat} {px apos cpos : Pos} (hc : c.K = X.K) (hx : PE X (.Name x px) (tVar i)) (hp : plainE e = true) (ha : PA X [e] (tXL c eas)) (hl : (apos.endLine == cpos.line) = true)
    (hs : swapsWith (.Call (.Attribute (.Name x px) "extend" apos) [e] [] cpos) none pos.line X.env = pure false) : PS X (.Expr (.Call (.Attribute (.Name x px) "extend" apos) [e] [] cpos) pos) (tS c tk g (.mut .extend i eas)) := by
  refine psImp (ps_expr (pe_bm PySem.F.plainAttrs_list PySem.F.slot_list_extend PySem.F.type_list_extend mt_extR hx ha name_base ?_ hl (star_cons _ hp _) rfl) hs) fun D σ H h => ?_
  · rw [(star_all _ _ (es := [e]) (by simp [hp])).2]
    simp [backToKw, keywordEach]
  · rw [← hc]
    refine mut_read h fun d us ws vs wsA w' H1 F1 Q e1 hz r1 r2 e2 k => ?_
    match wsA, r2, e2 with
    | [.lst ys], .cons hv .nil, e2 =>
      have e2 : (if ws.length + ys.length ≤ szL then some (W.lst (ws ++ ys)) else none) = some w' := e2
      by_cases z : ws.length + ys.length ≤ szL
      · rw [if_pos z] at e2
        cases hv with
        | lst f r zz hr =>
          have hl := r1.length
          have hl2 := hr.length
          rw [← hl, ← hl2] at z
          exact ⟨d, _, us, _, rfl, rfl, e1, r, by rw [← szL_eq]; exact z, k _ _ (Option.some.inj e2).symm (by rw [List.length_append]; exact z) (r1.append hr) .non⟩
      · rw [if_neg z] at e2; cases e2
    | [], _, e2 => cases e2
    | _ :: _ :: _, _, e2 => simp [mutW] at e2
    | [.non], _, e2 => cases e2
    | [.bl _], _, e2 => cases e2
    | [.int _], _, e2 => cases e2
    | [.str _], _, e2 => cases e2
    | [.tup _], _, e2 => cases e2
    | [.dct _], _, e2 => cases e2
    | [.st _], _, e2 => cases e2
theorem s_insert {i : Nat} {px apos cpos : Pos} (hc : c.K = X.K) (hx : PE X (.Name x px) (tVar i)) (hp : plainE a = true) (hp2 : plainE b = true) (ha : PA X [a, b] (tXL c eas)) (hl : (apos.endLine == cpos.line) = true)
    (hs : swapsWith (.Call (.Attribute (.Name x px) "insert" apos) [a, b] [] cpos) none pos.line X.env = pure false) : PS X (.Expr (.Call (.Attribute (.Name x px) "insert" apos) [a, b] [] cpos) pos) (tS c tk g (.mut .insert i eas)) := by
  refine psImp (ps_expr (pe_bm PySem.F.plainAttrs_list PySem.F.slot_list_insert PySem.F.type_list_insert mt_insert hx ha name_base ?_ hl (star_cons _ hp _) ?_) hs) fun D σ H h => ?_
  · rw [(star_all _ _ (es := [a, b]) (by simp [hp, hp2])).2]
    simp [backToKw, keywordEach]
  · exact (star_all _ _ (es := [b]) (by simp [hp2])).1
  · rw [← hc]
    refine mut_read h fun d us ws vs wsA w' H1 F1 Q e1 hz r1 r2 e2 k => ?_
    match wsA, r2, e2 with
    | [.int n, w], .cons hn (.cons hv .nil), e2 =>
      have e2 : (if ws.length < szL ∧ 0 ≤ n ∧ n ≤ ws.length then some (W.lst (ws.take n.toNat ++ w :: ws.drop n.toNat)) else none) = some w' := e2
      by_cases z : ws.length < szL ∧ 0 ≤ n ∧ n ≤ ws.length
      · rw [if_pos z] at e2
        have hl := r1.length
        obtain ⟨z1, z2, z3⟩ := z
        rw [← hl] at z1
        cases hn
        have z4 : n < 2 ^ 63 := by have : (szL : Int) < 2 ^ 63 := by decide
                                   omega
        refine ⟨d, us, n, _, rfl, rfl, e1, z1, z2, z4, k _ _ (Option.some.inj e2).symm ?_ ?_ .non⟩
        · simp only [List.length_append, List.length_take, List.length_drop, List.length_singleton]; omega
        · rw [List.append_assoc]
          exact (r1.take _).append (.cons hv (r1.drop _))
      · rw [if_neg z] at e2; cases e2
    | [], _, e2 => cases e2
    | [_], _, e2 => simp [mutW] at e2
    | _ :: _ :: _ :: _, _, e2 => simp [mutW] at e2
    | [.non, _], _, e2 => cases e2
    | [.bl _, _], _, e2 => cases e2
    | [.str _, _], _, e2 => cases e2
    | [.tup _, _], _, e2 => cases e2
    | [.lst _, _], _, e2 => cases e2
    | [.dct _, _], _, e2 => cases e2
    | [.st _, _], _, e2 => cases e2

/-! ### x = y.pop(k) -/
theorem setN_at {ρ ρ' : Env} {i : Nat} {w : W} {f : Fl} (h : setN ρ i w f = some ρ') : ρ' = ρ.set i (some (w, f)) := by
  unfold setN at h
  split at h
  · cases h
  · cases h
  · exact (Option.some.inj h).symm
  · cases h
def rPopK : V → List V → Hp → VK → Prop := fun x vs H Q => ∃ l us k v, x = .ref l ∧ vs = [.int k] ∧ H l = some (.lst us) ∧ (0 ≤ k ∧ k < us.length) ∧ us.length ≤ sizeLine ∧ us[k.toNat]? = some v ∧ Q v (upd H l (.lst (us.eraseIdx k.toNat)))
theorem mt_popK {X : Cx} : MtM X "list.pop" rPopK := by
  intro pins s σ H x vs v us Q I rx rv h
  obtain ⟨l, xs, k, y, rfl, rfl, hH, hk, hz, hy, q⟩ := h
  cases rx
  obtain ⟨u, rfl, ru⟩ := rv.one
  obtain ⟨t, rfl⟩ := ru
  obtain ⟨_, its, n, r, hl, e⟩ := I.lstM hH
  obtain ⟨yv, hyv, ry⟩ := r.get hy
  have h63 : (sizeLine : Int) < 2 ^ 63 := by rw [← szL_eq]; decide
  have hfit : Builtin.List.listFitsIndex k = true := fitsIndex_of hk.1 (by omega)
  have hix : seqIndex? k its.toArray.size = some k.toNat := by
    rw [List.size_toArray]
    unfold seqIndex?
    have h1 : ¬ k < 0 := by omega
    have h2 : (decide (0 ≤ k) && decide (k < (its.length : Int))) = true := by simp; omega
    simp only [h1, if_false, h2, if_true]
  refine call_meets PySem.F.slot_list_pop ⟨_, e, rfl⟩ PySem.F.entry_list_pop (PySem.F.args_list_pop_2 _ _) (PySem.MeetsSeq.list_pop_at l its.toArray n k t k.toNat yv hfit hix (by simpa using hyv) (by rw [List.size_toArray]; omega)) ⟨e, ?_⟩
  refine ⟨y, _, I.lset (its' := its.eraseIdx k.toNat) hH e ?_ (r.eraseIdx k.toNat) ?_, ry, q⟩
  · have hlt : k.toNat < its.length := by omega
    simp [Array.eraseIdxIfInBounds, hlt]
  · exact Nat.le_trans (len_erase _ _) hz
theorem HRs.erase {K : PySem.W.Frag} {H : Hp} {F : Addr → Prop} : ∀ {us : List V} {ws : List W} (i : Nat), HRs K H F us ws → HRs K H F (us.eraseIdx i) (ws.eraseIdx i)
  | _, _, _, .nil => .nil
  | _, _, 0, .cons _ t => t
  | _, _, i + 1, .cons r t => .cons r (HRs.erase i t)
theorem s_popi {i j : Nat} {y : Str} {p' py apos cpos : Pos} (hc : c.K = X.K) (hN : X.N.Nodup) (hi : X.N[i]? = some x) (hx : Loc X.env.scope x) (hf : X.fn x = true ∨ X.env.scope.names.lookup x = some .local) (hy : PE X (.Name y py) (tVar j)) (hp : plainE e = true) (ha : PA X [e] (tXL c eas)) (hl : (apos.endLine == cpos.line) = true)
    (hs : swapsWith (.Call (.Attribute (.Name y py) "pop" apos) [e] [] cpos) (some (.Name x p')) pos.line X.env = pure false) : PS X (.Assign [.Name x p'] (.Call (.Attribute (.Name y py) "pop" apos) [e] [] cpos) pos) (tS c tk g (.popi i j eas)) := by
  refine psImp (ps_set hN hi hx (pe_bm PySem.F.plainAttrs_list PySem.F.slot_list_pop PySem.F.type_list_pop mt_popK hy ha name_base ?_ hl (star_cons _ hp _) rfl) hs hf) fun D σ H h => ?_
  · rw [(star_all _ _ (es := [e]) (by simp [hp])).2]
    simp [backToKw, keywordEach]
  · rw [← hc]
    obtain ⟨A, ρ, F, Pn, hs, q⟩ := h
    have q : RS c A σ ρ H F Pn D (if mutOk (wOf ρ j) = true then SO.bnd ((ev c.C eas).a ρ) (fun us ρ1 => popE i j us ρ1) else .bad) := q
    cases e0 : mutOk (wOf ρ j) with
    | false => simp only [e0, Bool.false_eq_true, if_false] at q; exact q.elim
    | true =>
      simp only [e0, if_true] at q
      obtain ⟨ws0, f0, e1, hf⟩ := mutOk_ok e0
      obtain ⟨vi, ev⟩ := hs.val e1
      obtain ⟨d, us, rfl, h1, _⟩ := mut_at hs e1 hf ev
      refine ⟨.ref d, ev, .inl ⟨rfl, us, .of h1⟩, ?_⟩
      refine tXL_S hs q fun as vs ρ1 H1 F1 m q1 => ?_
      unfold popE at q1
      cases e2 : shrs ρ1 as with
      | none => simp only [e2] at q1; exact q1.elim
      | some z =>
        obtain ⟨wsA, ρ2⟩ := z
        simp only [e2] at q1
        obtain ⟨F2, m2, r2⟩ := m.share e2
        have s2 : SRel c.K A σ ρ2 H1 F2 Pn := by simpa [pnds] using m2.sr
        split at q1
        · rename_i xs e3
          split at q1
          · rename_i k
            split at q1
            · rename_i hk
              split at q1
              · rename_i w e4
                cases r2 with
                | cons hv hn =>
                  cases hn
                  cases hv
                  obtain ⟨d', us', e, h1', hz', hr', e5, e6⟩ := mut_at s2 e3 (.inl rfl) ev
                  cases e
                  have hlen := hr'.length
                  obtain ⟨v, e7, rv⟩ := hr'.get e4
                  cases e8 : setN ρ2 i w .sh with
                  | none => simp only [e8] at q1; exact q1.elim
                  | some ρ3 =>
                    simp only [e8] at q1
                    obtain ⟨s6, t6⟩ := s2.setV (v := v) rv e8
                    have e9 := setN_at e8
                    have e5' : ρ3[j]? = some (some (.lst xs, .own)) := by
                      rw [e9, List.getElem?_set_ne hk.2]; exact e5
                    have e6' : (σ.set i (some v))[j]? = some (some (.ref d)) := by
                      rw [List.getElem?_set_ne hk.2]; exact e6
                    obtain ⟨s5, t5⟩ := s6.mut (us := us'.eraseIdx k.toNat) (ws := xs.eraseIdx k.toNat) e5' (.inl rfl) e6' (Nat.le_trans (len_erase _ _) hz') (hr'.erase _)
                    exact ⟨d, us', k, v, rfl, rfl, h1', ⟨hk.1.1, by rw [hlen]; exact hk.1.2⟩, by rw [← szL_eq]; exact hz', e7, q1 _ _ F2 ((m2.st.trans t6).trans t5) s5⟩
              · exact q1.elim
            · exact q1.elim
          · exact q1.elim
        · exact q1.elim
/-! ### x += e -/
theorem add_int {w u : W} {z : Int} {f : Bool} (h : opW .add w u = some (.int z, f)) : ∃ i j, w = .int i ∧ u = .int j ∧ z = i + j := by
  cases w <;> cases u <;> simp [opW] at h <;> first | exact ⟨_, _, rfl, rfl, h.1.symm⟩ | skip
theorem sub_int {w u : W} {z : Int} {f : Bool} (h : opW .sub w u = some (.int z, f)) : ∃ i j, w = .int i ∧ u = .int j ∧ z = i - j := by
  cases w <;> cases u <;> simp [opW] at h <;> first | exact ⟨_, _, rfl, rfl, h.1.symm⟩ | skip
theorem s_aug {i : Nat} {o : BOp} {op : Operator} {f : Int → Int → Int} {p' : Pos} (hN : X.N.Nodup) (hi : X.N[i]? = some x) (hx : Loc X.env.scope x) (hf : X.fn x = true ∨ X.env.scope.names.lookup x = some .local) (he : PE X e (tX c ea)) (ho : PIp X op (ipI f))
    (hv : ∀ w u z k, opW o w u = some (.int z, k) → ∃ i j, w = .int i ∧ u = .int j ∧ z = f i j) : PS X (.AugAssign (.Name x p') op e pos) (tS c tk g (.aug i o ea)) := by
  refine psImp (ps_aug hN hi hx he ho hf) fun D σ H ⟨A, ρ, F, Pn, hs, q⟩ => ?_
  have q : RS c A σ ρ H F Pn D (match wOf ρ i with
    | some (w, .sh) => SO.bnd ((ev c.C ea).x ρ) fun a ρ1 => match res ρ1 a with
      | some u => match opW o w u with
        | some (.int z, _) => ofE (setN ρ1 i (.int z) .sh)
        | _ => .bad
      | none => .bad
    | _ => .bad) := q
  split at q
  · rename_i w e0
    obtain ⟨v, a1, a2⟩ := hs.sh i w (wOf_eq.mp e0)
    refine ⟨v, a1, tX_S hs q fun u v' ρ1 H1 F1 m q1 => ?_⟩
    obtain ⟨s1, ar, fr⟩ := m.one
    cases e1 : res ρ1 u with
    | none => simp only [e1] at q1; exact q1.elim
    | some y =>
      simp only [e1] at q1
      split at q1
      · rename_i z k e2
        obtain ⟨i1, j1, rfl, rfl, rfl⟩ := hv _ _ _ _ e2
        obtain ⟨_, e, p1⟩ := (m.pk (ress1 e1)).one
        cases e
        cases a2
        refine ⟨i1, j1, rfl, p1.int, ?_⟩
        cases e3 : setN ρ1 i (.int (f i1 j1)) .sh with
        | none => simp only [e3] at q1; exact q1.elim
        | some ρ2 =>
          simp only [e3] at q1
          obtain ⟨s2, t2⟩ := s1.drop.setV (v := .int (f i1 j1)) (.int _) e3
          exact q1 _ H1 F1 (m.st.trans t2) s2
      · exact q1.elim
  · exact q.elim
  
/-! ### if -/
theorem Md.z {A : Nat → Option Addr} {σ : Sg} {ρ ρ1 : Env} {H H1 : Hp} {F F1 : Addr → Prop} {Pn : List (Addr × W)} (m : Md c A σ ρ H F Pn [] [] ρ1 H1 F1) : SRel c.K A σ ρ1 H1 F1 Pn := by simpa [pnds] using m.sr
theorem s_ite {cd : Expr} {s1 s2 : List Stmt} (hc : PT X cd (tXB c ec)) (h1 : PSs X s1 (tS c tk g s)) (h2 : PSs X s2 (tS c tk g r)) : PS X (.If cd s1 s2 pos) (tS c tk g (.ite ec s r)) := by
  refine psImp (ps_if hc h1 h2) fun D σ H ⟨A, ρ, F, Pn, hs, q⟩ => ?_
  refine tXB_S hs q fun k ρ1 H1 F1 m q1 => ?_
  cases k with
  | true => exact iteT (tS_at m.z m.st q1)
  | false => exact iteF (tS_at m.z m.st q1)

/-! ### loops -/
theorem RS.drop {A : Nat → Option Addr} {σ : Sg} {ρ : Env} {H : Hp} {F : Addr → Prop} {P1 Pn : List (Addr × W)} {D : Ends} {o : SO} (h : RS c A σ ρ H F Pn D o) : RS c A σ ρ H F (P1 ++ Pn) D o := by
  cases o with
  | nx ρ' => exact fun σ' H' F' st s => h σ' H' F' st s.drop
  | bk ρ' => exact fun σ' H' F' st s => h σ' H' F' st s.drop
  | ct ρ' => exact fun σ' H' F' st s => h σ' H' F' st s.drop
  | rt w fr ρ' =>
    refine fun v σ' H' F' st s a b => h v σ' H' F' st ?_ a b
    have s2 : SRel c.K A σ' ρ' H' F' (P1 ++ (pnd (.val w fr) v ++ Pn)) := s.perm (by rw [← List.append_assoc, ← List.append_assoc]; exact List.Perm.append_right _ List.perm_append_comm)
    exact s2.drop
  | ex x p ρ' => exact fun σ' H' F' d st s a => h σ' H' F' d st s.drop a
  | bad => exact h
theorem s_for {k : IK} {q : Pt} {body : List Stmt} (hc : c.K = X.K) (hp : PassesOwn (model X.prog X.w) X.A X.env X.xe) (calm : X.calm = true) (hi : PI X tg iter (tI c k eas)) (hg : PG X tg (gP X.K q)) (hb : PSs X body (tS c tk g s))
    (hf : ∀ x, foldedSetIterable iter X.env x = pure x) : PS X (.For tg iter body [] pos) (tS c tk g (.for_ q k eas s)) := by
  refine psImp (ps_for hp calm hi hg hb hf) fun D σ H ⟨A, ρ, F, Pn, hs, h⟩ => ?_
  rw [← hc]
  refine ⟨A, ρ, F, Pn, hs, (bnd_ok h).mono (fun us ρ1 q1 => ?_) fun _ _ _ e => e⟩
  cases e1 : (ress ρ1 us).bind (itW k) with
  | none => simp only [e1] at q1; exact q1.elim
  | some its =>
    simp only [e1] at q1
    refine ⟨its, rfl, fun J vs H1 F1 m G => ?_⟩
    obtain ⟨sL, _⟩ := lk_ok (as := us) m.sr
    have tL := lk_stp (as := us) m.sr
    generalize hst : (fun (w : W) (ρ : Env) => match asP q w ρ with
      | none => SO.bad
      | some ρ1 => xs c.C tk g s ρ1) = step at q1
    refine ⟨fun i n σ' H' => n = its.length - i ∧ ∃ ρ' F', i ≤ its.length ∧ SRel c.K A σ' ρ' H' F' (pnds us vs ++ Pn) ∧ Stp σ (lkE ρ1 us) H1 F1 σ' ρ' H' F' ∧ RS c A σ ρ H F Pn D ((forL step (its.drop i) ρ').mapE fun ρ3 => ulE ρ1 ρ3 us),
      ⟨_, rfl, lkE ρ1 us, F1, Nat.zero_le _, sL, .refl, q1⟩, ?_⟩
    rintro i n σ' H' ⟨rfl, ρ', F', hi, s', st', qi⟩
    -- behind the loop
    have out : ∀ {σ3 : Sg} {ρ3 : Env} {H3 : Hp} {F3 : Addr → Prop}, SRel c.K A σ3 ρ3 H3 F3 (pnds us vs ++ Pn) → Stp σ (lkE ρ1 us) H1 F1 σ3 ρ3 H3 F3 → NX c A σ ρ H F Pn D.nx (ulE ρ1 ρ3 us) → D.nx σ3 H3 := fun {σ3 ρ3 H3 F3} s3 t3 q3 => by
      obtain ⟨s4, t4⟩ := ul_ok (as := us) (tL.trans t3) s3
      exact q3 σ3 H3 F3 (m.st.trans t4) s4.drop
    by_cases hlt : i < its.length
    · refine .inr ⟨G.go i H' F' _ _ st' hlt, fun σ3 H3 => ∃ ρ3 F3, i + 1 ≤ its.length ∧ SRel c.K A σ3 ρ3 H3 F3 (pnds us vs ++ Pn) ∧ Stp σ (lkE ρ1 us) H1 F1 σ3 ρ3 H3 F3 ∧ RS c A σ ρ H F Pn D ((forL step (its.drop (i + 1)) ρ3).mapE fun ρ3 => ulE ρ1 ρ3 us), fun σ3 H3 n3 => ⟨its.length - (i + 1), by omega, rfl, n3⟩, fun x H2 y => ?_⟩
      obtain ⟨w, ew, nw⟩ := G.yl i H' F' _ _ x H2 st' hlt y
      have ed : its.drop i = w :: its.drop (i + 1) := by
        rw [List.drop_eq_getElem_cons hlt]
        congr 1
        rw [List.getElem?_eq_getElem hlt] at ew
        exact Option.some.inj ew
      rw [ed] at qi
      obtain ⟨s2, hr, t2⟩ : SRel c.K A σ' ρ' H2 F' (pnds us vs ++ Pn) ∧ HR c.K H2 F' x w ∧ Stp σ' ρ' H' F' σ' ρ' H2 F' := by
        cases nw with
        | old r => exact ⟨s', r, .refl⟩
        | tup hp z r => exact ⟨s'.alloc hp, .tup (.inl (.inl upd_same)) z (r.upd hp), .alloc hp⟩
      have qi : RS c A σ ρ H F Pn D ((match step w ρ' with
        | .nx ρ1 => forL step (its.drop (i + 1)) ρ1
        | .ct ρ1 => forL step (its.drop (i + 1)) ρ1
        | .bk ρ1 => .nx ρ1
        | o => o).mapE fun ρ3 => ulE ρ1 ρ3 us) := qi
      cases ea : asP q w ρ' with
      | none =>
        have : step w ρ' = .bad := by rw [← hst]; simp only [ea]
        rw [this] at qi; exact qi.elim
      | some ρa =>
        have est : step w ρ' = xs c.C tk g s ρa := by rw [← hst]; simp only [ea]
        rw [est] at qi
        refine ⟨A, ρ', F', _, w, ρa, s2, hr, ea, fun σ2 s3 t3 off => ?_⟩
        have t13 : Stp σ (lkE ρ1 us) H1 F1 σ2 ρa H2 F' := (st'.trans t2).trans t3
        have t0 : Stp σ ρ H F σ2 ρa H2 F' := (m.st.trans tL).trans t13
        refine ⟨A, ρa, F', _, s3, ?_⟩
        cases eb : xs c.C tk g s ρa with
        | nx ρb =>
          rw [eb] at qi
          exact fun σ4 H4 F4 t4 s4 => ⟨ρb, F4, hlt, s4, t13.trans t4, qi⟩
        | ct ρb =>
          rw [eb] at qi
          exact fun σ4 H4 F4 t4 s4 => ⟨ρb, F4, hlt, s4, t13.trans t4, qi⟩
        | bk ρb =>
          rw [eb] at qi
          exact fun σ4 H4 F4 t4 s4 => out s4 (t13.trans t4) qi
        | rt w fr ρb =>
          rw [eb] at qi
          have qi : RS c A σ ρ H F Pn D (.rt w fr ρb) := qi
          have := (RS.drop (P1 := pnds us vs) qi).step (F1 := F') t0
          exact this
        | ex x p ρb =>
          rw [eb] at qi
          have qi : RS c A σ ρ H F Pn D (.ex x p ρb) := qi
          have := (RS.drop (P1 := pnds us vs) qi).step (F1 := F') t0
          exact this
        | bad => rw [eb] at qi; exact qi.elim
    · have e : i = its.length := by omega
      subst e
      rw [List.drop_length] at qi
      exact .inl ⟨G.st _ H' F' _ _ st' (Nat.le_refl _), out s' st' qi⟩
theorem s_whl {cd : Expr} {body : List Stmt} (hp : PassesOwn (model X.prog X.w) X.A X.env X.xe) (hc : PT X cd (tXB c ec)) (hb : PSs X body (tS c tk g s)) : PS X (.While cd body [] pos) (tS c tk g (.whl ec s)) := by
  refine psImp (ps_while hp hc hb) fun D σ H ⟨A, ρ, F, Pn, hs, q⟩ => ?_
  have q : RS c A σ ρ H F Pn D (whlL (ev c.C ec).t (xs c.C tk g s) g ρ) := q
  refine ⟨fun n σ' H' => ∃ ρ' F', SRel c.K A σ' ρ' H' F' Pn ∧ Stp σ ρ H F σ' ρ' H' F' ∧ RS c A σ ρ H F Pn D (whlL (ev c.C ec).t (xs c.C tk g s) n ρ'), ⟨g, ρ, F, hs, .refl, q⟩, ?_⟩
  rintro n σ' H' ⟨ρ', F', s', st', q'⟩
  cases n with
  | zero => exact q'.elim
  | succ n =>
    have q2 : RS c A σ' ρ' H' F' Pn D (SO.bnd ((ev c.C ec).t ρ') fun k ρ1 => if k = true then match xs c.C tk g s ρ1 with
      | .nx ρ2 => whlL (ev c.C ec).t (xs c.C tk g s) n ρ2
      | .ct ρ2 => whlL (ev c.C ec).t (xs c.C tk g s) n ρ2
      | .bk ρ2 => .nx ρ2
      | o => o
    else .nx ρ1) := RS.step (ρ1 := ρ') (F1 := F') q' st'
    have lift : ∀ {ρ2 : Env} {σ2 : Sg} {H2 : Hp} {F2 : Addr → Prop}, SRel c.K A σ2 ρ2 H2 F2 Pn → Stp σ' ρ' H' F' σ2 ρ2 H2 F2 → RS c A σ ρ H F Pn D (whlL (ev c.C ec).t (xs c.C tk g s) n ρ2) → ∃ m', m' < n + 1 ∧ ∃ ρ' F', SRel c.K A σ2 ρ' H2 F' Pn ∧ Stp σ ρ H F σ2 ρ' H2 F' ∧ RS c A σ ρ H F Pn D (whlL (ev c.C ec).t (xs c.C tk g s) m' ρ') :=
      fun {ρ2 σ2 H2 F2} s2 t2 q2 => ⟨n, Nat.lt_succ_self _, ρ2, F2, s2, st'.trans t2, q2⟩
    have q3 : RS c A σ ρ H F Pn D (SO.bnd ((ev c.C ec).t ρ') fun k ρ1 => if k = true then match xs c.C tk g s ρ1 with
      | .nx ρ2 => whlL (ev c.C ec).t (xs c.C tk g s) n ρ2
      | .ct ρ2 => whlL (ev c.C ec).t (xs c.C tk g s) n ρ2
      | .bk ρ2 => .nx ρ2
      | o => o
    else .nx ρ1) := q'
    cases ek : (ev c.C ec).t ρ' with
    | bad => rw [ek] at q2; exact q2.elim
    | ex x p ρ1 =>
      rw [ek] at q2
      refine ⟨A, ρ', F', Pn, s', ?_⟩
      rw [ek]
      exact ES.ex q2
    | ok k ρ1 =>
      rw [ek] at q3
      simp only [SO.bnd_ok] at q3
      refine ⟨A, ρ', F', Pn, s', ?_⟩
      rw [ek]
      intro H1 F1 t1 s1
      cases k with
      | false =>
        simp only [Bool.false_eq_true, if_false] at q3
        exact iteF (q3 σ' H1 F1 (st'.trans t1) s1)
      | true =>
        simp only [if_true] at q3
        refine iteT ⟨fun σ3 H3 => ∃ ρ3 F3, SRel c.K A σ3 ρ3 H3 F3 Pn ∧ Stp σ ρ H F σ3 ρ3 H3 F3 ∧ RS c A σ ρ H F Pn D (whlL (ev c.C ec).t (xs c.C tk g s) n ρ3), fun σ3 H3 n3 => ⟨n, Nat.lt_succ_self _, n3⟩, A, ρ1, F1, Pn, s1, ?_⟩
        have t0 : Stp σ ρ H F σ' ρ1 H1 F1 := st'.trans t1
        cases eb : xs c.C tk g s ρ1 with
        | nx ρb =>
          rw [eb] at q3
          exact fun σ4 H4 F4 t4 s4 => ⟨ρb, F4, s4, t0.trans t4, q3⟩
        | ct ρb =>
          rw [eb] at q3
          exact fun σ4 H4 F4 t4 s4 => ⟨ρb, F4, s4, t0.trans t4, q3⟩
        | bk ρb =>
          rw [eb] at q3
          exact fun σ4 H4 F4 t4 s4 => q3 σ4 H4 F4 (t0.trans t4) s4
        | rt w fr ρb =>
          rw [eb] at q3
          exact RS.step (D := D) (o := .rt w fr ρb) (F1 := F1) q3 t0
        | ex x p ρb =>
          rw [eb] at q3
          exact RS.step (D := D) (o := .ex x p ρb) (F1 := F1) q3 t0
        | bad => rw [eb] at q3; exact q3.elim
end
end Py

namespace Py
open PySem PySem.Spec PyProof.Rows L2
variable [HW]
section
variable {X : Cx} {c : Cf} {a b d e tg : Expr} {ea eb ed eas : E} {pos p p2 pos2 : Pos} {x : Str}
/-! ### range(a, b, -1) -/
theorem rngD_len : ∀ (n : Nat) (a : Int), (rngD n a).length = n
  | 0, _ => rfl
  | n + 1, a => by simp [rngD, rngD_len n (a - 1)]
theorem rngD_get : ∀ (n : Nat) (a : Int) (i : Nat), i < n → (rngD n a)[i]? = some (.int (a + (i : Nat) * -1))
  | 0, _, _, h => by omega
  | n + 1, a, 0, _ => by simp [rngD]
  | n + 1, a, i + 1, h => by
    simp only [rngD, List.getElem?_cons_succ]
    rw [rngD_get n (a - 1) i (by omega)]
    congr 2
    omega
theorem itg_rngD {K : PySem.W.Frag} {σ : Sg} {ρ : Env} {H : Hp} {F : Addr → Prop} {lo : Int} {n : Nat} : ItG K σ ρ H F (Itc lo (-1) n) (rngD n lo) where
  go := fun i H2 F2 σ2 ρ2 st hi => by rw [rngD_len] at hi; exact hi
  yl := fun i H2 F2 σ2 ρ2 x H' st hi y => by
    obtain ⟨rfl, rfl⟩ := y
    rw [rngD_len] at hi
    exact ⟨_, rngD_get n lo i hi, .old (.int _)⟩
  st := fun i H2 F2 σ2 ρ2 st hi => by rw [rngD_len] at hi; exact hi
theorem i_rng3 (hg : Gl X "range") (hm : X.mg "range" = none) (hp : plainE a = true) (hp2 : plainE b = true) (hp3 : plainE d = true) (ha : PA X [a, b, d] (tXL c eas)) (h1 : ∀ ρ us ρ1, (ev c.C eas).a ρ = .ok us ρ1 → us.length = 3) : PI X tg (.Call (.Name "range" p) [a, b, d] [] pos) (tI c .rng eas) := by
  refine piImp (pi_range3 hg hm ha (star_cons _ hp _) (star_all _ _ (es := [b, d]) (by simp [hp2, hp3])).1) fun σ H R ⟨A, ρ, F, Pn, hs, q⟩ => ?_
  have hl := h1 ρ
  cases e0 : (ev c.C eas).a ρ with
  | bad => rw [e0] at q; exact q.elim
  | ex x pl ρ1 =>
    refine ⟨A, ρ, F, Pn, hs, ?_⟩
    rw [e0] at q ⊢; exact q
  | ok us ρ1 =>
    have hl := hl us ρ1 e0
    refine ⟨A, ρ, F, Pn, hs, ?_⟩
    rw [e0] at q ⊢
    intro vs H1 F1 st sr ar fr
    obtain ⟨its, e1, q1⟩ := q
    obtain ⟨ws, e2, e3⟩ := Option.bind_eq_some_iff.mp e1
    have m : Md c A σ ρ H F Pn us vs ρ1 H1 F1 := ⟨st, sr, ar, fr⟩
    have pk := m.pk e2
    match ws, pk, e3 with
    | [.int i, .int j, .int k], pk, e3 =>
      have e3 : (if (k = -1 ∧ i - j ≤ szL) ∧ (okR i && okR j) = true then some (rngD (i - j).toNat i) else none) = some its := e3
      by_cases z : (k = -1 ∧ i - j ≤ szL) ∧ (okR i && okR j) = true
      · rw [if_pos z] at e3
        obtain rfl := Option.some.inj e3
        obtain ⟨⟨rfl, _⟩, z2⟩ := z
        obtain ⟨a1, a2⟩ := Bool.and_eq_true_iff.mp z2
        obtain ⟨b1, b2⟩ := okR_of a1
        obtain ⟨b3, b4⟩ := okR_of a2
        match vs, pk, m with
        | [v1, v2, v3], .cons k1 (.cons k2 (.cons k3 .nil)), m =>
          exact ⟨i, j, -1, (i - j).toNat, by rw [k1.int, k2.int, k3.int], RgC.neg b1 b2 b3 b4, q1 _ _ H1 F1 m itg_rngD⟩
      · rw [if_neg z] at e3; cases e3
    | [.int i, .int j], pk, e3 =>
      have := m.ar.len
      have l2 := pk.length
      simp [hl] at this
      simp [← this] at l2
    | [.int j], pk, e3 =>
      have := m.ar.len
      have l2 := pk.length
      simp [hl] at this
      simp [← this] at l2

/-! ### list(range(..)) -/
theorem rgV_rel {K : PySem.W.Frag} {H : Hp} {F : Addr → Prop} : ∀ (n : Nat) (a : Int), HRs K H F ((List.range n).map fun i => V.int (a + (i : Nat))) (rngL n a)
  | 0, a => .nil
  | n + 1, a => by
    rw [List.range_succ_eq_map, List.map_cons, List.map_map]
    have e : ((fun i : Nat => V.int (a + (i : Nat))) ∘ Nat.succ) = fun i : Nat => V.int (a + 1 + (i : Nat)) := by
      funext i
      simp only [Function.comp]
      congr 1
      omega
    rw [e]
    have z : V.int (a + ((0 : Nat) : Int)) = V.int a := by simp
    rw [z]
    exact .cons (.int a) (rgV_rel n (a + 1))
theorem lrng_fin {A : Nat → Option Addr} {σ : Sg} {ρ ρ1 : Env} {H H1 : Hp} {F F1 : Addr → Prop} {Pn : List (Addr × W)} {us : List Arg} {vs : List V} {Q : VK} {i j : Int} (m : Md c A σ ρ H F Pn us vs ρ1 H1 F1) (h1 : okR i = true) (h2 : okR j = true) (h3 : j - i ≤ szL)
    (q : PX c A σ ρ H F Pn Q (.val (.lst (rngL (j - i).toNat i)) true) ρ1) : RgOk i j ∧ ∀ q, H1 q = none → Q (.ref q) (upd H1 q (.lst (rgV i j))) := by
  obtain ⟨b1, b2⟩ := okR_of h1
  obtain ⟨b3, b4⟩ := okR_of h2
  have hz : (j - i).toNat ≤ szL := by omega
  refine ⟨⟨b1, b2, b3, b4, hz⟩, fun r hr => m.fin (r := (.lst (rngL (j - i).toNat i), true)) q _ _ (.lst hr ?_ (rgV_rel _ _))⟩
  rw [rgV_length]; exact hz
theorem lr1_ok {ws : List W} {r : W × Bool} {w : W} (e : ws = [w]) (h : biW .lrng ws = some r) : ∃ j, w = .int j ∧ okR j = true ∧ j ≤ szL ∧ r = (.lst (rngL j.toNat 0), true) := by
  subst e
  cases w <;> first | (cases h; done) | skip
  rename_i j
  obtain ⟨its, e1, rfl⟩ := Option.map_eq_some_iff.mp h
  obtain ⟨z, rfl⟩ := of_if (show (if okR j = true ∧ j ≤ szL then some (rngL j.toNat 0) else none) = some its from e1)
  exact ⟨j, rfl, z.1, z.2, rfl⟩
theorem lr2_ok {ws : List W} {r : W × Bool} {w w2 : W} (e : ws = [w, w2]) (h : biW .lrng ws = some r) : ∃ i j, w = .int i ∧ w2 = .int j ∧ okR i = true ∧ okR j = true ∧ j - i ≤ szL ∧ r = (.lst (rngL (j - i).toNat i), true) := by
  subst e
  cases w <;> first | (cases h; done) | skip
  cases w2 <;> first | (cases h; done) | skip
  rename_i i j
  obtain ⟨its, e1, rfl⟩ := Option.map_eq_some_iff.mp h
  obtain ⟨z, rfl⟩ := of_if (show (if (okR i && okR j) = true ∧ j - i ≤ szL then some (rngL (j - i).toNat i) else none) = some its from e1)
  obtain ⟨a1, a2⟩ := Bool.and_eq_true_iff.mp z.1
  exact ⟨i, j, rfl, rfl, a1, a2, z.2, rfl⟩
theorem x_lrng1 (calm : X.calm = true) (hg : Gl X "list") (hm : X.mg "list" = none) (hg2 : Gl X "range") (hm2 : X.mg "range" = none) (hp : plainE a = true) (ha : PE X a (tX c ea)) :
    PE X (.Call (.Name "list" p) [.Call (.Name "range" p2) [a] [] pos2] [] pos) (tX c (.bi .lrng (.cons ea .nil))) := by
  refine peImp (pe_listRg calm hg hm (prg_1 hg2 hm2 ha (star_cons _ hp _)) (star_cons _ rfl _)) fun σ H Q ⟨A, ρ, F, Pn, hs, q⟩ => ?_
  have q : OkX ((((ev c.C ea).x ρ).bind fun u ρ1 => (Out.ok [u] ρ1 : Out (List Arg))).bind fun us ρ1 => lL (biW .lrng) us ρ1) (PX c A σ ρ H F Pn Q) (EX c A σ ρ H F Pn) := q
  refine tX_ofG (.nil hs) q.bind fun u v ρ1 H1 F1 m q1 => ?_
  obtain ⟨ws, r, e1, e2, q2⟩ := lL_ok q1
  have pk := m.pk e1
  match ws, pk, e2 with
  | [w], pk, e2 =>
    obtain ⟨j, rfl, k1, k2, rfl⟩ := lr1_ok rfl e2
    obtain ⟨_, e, p1⟩ := pk.one
    cases e
    exact ⟨j, p1.int, lrng_fin (i := 0) m (by decide) k1 (by omega) (by simpa using q2)⟩
theorem x_lrng2 (calm : X.calm = true) (hg : Gl X "list") (hm : X.mg "list" = none) (hg2 : Gl X "range") (hm2 : X.mg "range" = none) (hp : plainE a = true) (hp2 : plainE b = true) (ha : PE X a (tX c ea)) (hb : PE X b (tX c eb)) :
    PE X (.Call (.Name "list" p) [.Call (.Name "range" p2) [a, b] [] pos2] [] pos) (tX c (.bi .lrng (.cons ea (.cons eb .nil)))) := by
  refine peImp (pe_listRg calm hg hm (prg_2 hg2 hm2 ha hb (star_cons _ hp _) (star_cons _ hp2 _) (star_all _ _ (es := [b]) (by simp [hp2])).1) (star_cons _ rfl _)) fun σ H Q ⟨A, ρ, F, Pn, hs, q⟩ => ?_
  have q : OkX ((((ev c.C ea).x ρ).bind fun u ρ1 => (((ev c.C eb).x ρ1).bind fun u ρ1 => (Out.ok [u] ρ1 : Out (List Arg))).bind fun us ρ2 => Out.ok (u :: us) ρ2).bind fun us ρ1 => lL (biW .lrng) us ρ1) (PX c A σ ρ H F Pn Q) (EX c A σ ρ H F Pn) := q
  have q : OkX (((ev c.C ea).x ρ).bind fun u ρ1 => ((ev c.C eb).x ρ1).bind fun v ρ2 => lL (biW .lrng) [u, v] ρ2) (PX c A σ ρ H F Pn Q) (EX c A σ ρ H F Pn) := by
    cases e1 : (ev c.C ea).x ρ with
    | ok u ρ1 =>
      rw [e1] at q
      simp only [Out.bind_ok] at q ⊢
      cases e2 : (ev c.C eb).x ρ1 with
      | ok v ρ2 => rw [e2] at q; exact q
      | ex x y ρ2 => rw [e2] at q; exact q
      | bad => rw [e2] at q; exact q
    | ex x y ρ1 => rw [e1] at q; exact q
    | bad => rw [e1] at q; exact q
  refine tX_of (.nil hs) q fun u v ρ1 H1 F1 m q1 => tX_of m q1 fun u' v' ρ2 H2 F2 m2 q2 => ?_
  obtain ⟨ws, r, e1, e2, q3⟩ := lL_ok q2
  have pk := m2.pk e1
  match ws, pk, e2 with
  | [w, w2], pk, e2 =>
    obtain ⟨i, j, rfl, rfl, k1, k2, k3, rfl⟩ := lr2_ok rfl e2
    obtain ⟨_, _, e, p1, p2⟩ := pk.two
    cases e
    exact ⟨i, j, p1.int, p2.int, lrng_fin m2 k1 k2 k3 q3⟩

/-! ### constants of the text's top -/
def vOf : Value → V
  | .int i _ => .int i
  | .str s _ => .str s
  | .bool b => .bl b
  | .ref a => .ref a
  | _ => .non
def s8Ok (s : Cs) : Bool := decide (s.length ≤ szL) && PyData.strOk (S8 s)
mutual
def conOk (K : PySem.W.Frag) (u : Value) : W → Bool
  | .non => decide (u = .none)
  | .bl b => decide (u = .bool b)
  | .int i => (match u with
    | .int j _ => decide (j = i)
    | _ => false)
  | .str s => (match u with
    | .str z _ => decide (z = S8 s) && s8Ok s
    | _ => false)
  | .tup ws => (match u with
    | .ref a => (match K.lookup a with
      | some ⟨.type "tuple", _, .seq its _, _⟩ => decide (its.size ≤ sizeLine) && consOk K its.toList ws
      | _ => false)
    | _ => false)
  | _ => false
def consOk (K : PySem.W.Frag) (us : List Value) : List W → Bool
  | [] => us.isEmpty
  | w :: ws => (match us with
    | u :: us => conOk K u w && consOk K us ws
    | [] => false)
end
mutual
theorem conOk_ok {K : PySem.W.Frag} {H : Hp} {F : Addr → Prop} : ∀ {w : W} {u : Value}, conOk K u w = true → HR K H F (vOf u) w ∧ RelV (vOf u) u
  | .non, u, h => by
    have e : u = .none := of_decide_eq_true h
    subst e; exact ⟨.non, rfl⟩
  | .bl b, u, h => by
    have e : u = .bool b := of_decide_eq_true h
    subst e; exact ⟨.bl b, rfl⟩
  | .int i, u, h => by
    cases u <;> first | (cases h; done) | skip
    rename_i j t
    have e : j = i := of_decide_eq_true h
    subst e; exact ⟨.int j, t, rfl⟩
  | .str s, u, h => by
    cases u <;> first | (cases h; done) | skip
    rename_i z t
    obtain ⟨e, h2⟩ := Bool.and_eq_true_iff.mp (show (decide (z = S8 s) && s8Ok s) = true from h)
    have e : z = S8 s := of_decide_eq_true e
    subst e
    obtain ⟨k1, k2⟩ := Bool.and_eq_true_iff.mp h2
    exact ⟨.str s (of_decide_eq_true k1) k2, t, rfl⟩
  | .tup ws, u, h => by
    cases u <;> first | (cases h; done) | skip
    rename_i a
    simp only [conOk] at h
    split at h
    · rename_i od its n sl e
      obtain ⟨k1, k2⟩ := Bool.and_eq_true_iff.mp h
      have k1 := of_decide_eq_true k1
      obtain ⟨r1, r2⟩ := consOk_ok (H := H) (F := F) k2
      refine ⟨.tup (.inr ⟨_, its, n, e, rfl, rfl, k1, r2⟩) ?_ r1, rfl⟩
      have := r2.length
      rw [this, Array.length_toList]
      exact k1
    · cases h
  | .lst _, u, h => by cases h
  | .dct _, u, h => by cases h
  | .st _, u, h => by cases h
theorem consOk_ok {K : PySem.W.Frag} {H : Hp} {F : Addr → Prop} : ∀ {ws : List W} {us : List Value}, consOk K us ws = true → HRs K H F (us.map vOf) ws ∧ Vals (us.map vOf) us
  | [], us, h => by
    cases us with
    | nil => exact ⟨.nil, .nil⟩
    | cons _ _ => cases h
  | w :: ws, us, h => by
    cases us with
    | nil => cases h
    | cons u us =>
      obtain ⟨k1, k2⟩ := Bool.and_eq_true_iff.mp (show (conOk K u w && consOk K us ws) = true from h)
      obtain ⟨a1, a2⟩ := conOk_ok (H := H) (F := F) k1
      obtain ⟨b1, b2⟩ := consOk_ok (H := H) (F := F) k2
      exact ⟨.cons a1 b1, .cons a2 b2⟩
end
def gconOk (K : PySem.W.Frag) (p : Str × W) : Bool := match PySem.W.nsIn K mainGlobals p.1 with
  | some (some u) => conOk K u p.2
  | _ => false
theorem gcon_ok {K : PySem.W.Frag} {h : Heap} {mg : Str → Option Value} {p : Str × W} (kh : K.In h) (G : h.Ns mainGlobals mg) (q : gconOk K p = true) : ∃ u, mg p.1 = some u ∧ conOk K u p.2 = true := by
  unfold gconOk at q
  split at q
  · rename_i u e
    exact ⟨u, PySem.W.mg_of kh G e, q⟩
  · cases q
theorem x_glob {w : W} {u : Value} (hc : c.K = X.K) (hg : Gl X x) (hm : X.mg x = some u) (h : conOk X.K u w = true) (hd : (x == ("__debug__" : Str)) = false) : PE X (.Name x pos) (tX c (.con w)) :=
  x_con (pe_glob hg hm (conOk_ok (H := fun _ => none) (F := fun _ => False) h).2 hd) fun H F => by rw [hc]; exact (conOk_ok h).1
end
end Py

namespace Py
open PySem PySem.Spec PyProof.Rows L2
variable [HW]
/-! ### raise, try -/
/-- an own class over ValueError -/
structure ExcC (K : PySem.W.Frag) (C : Addr) : Prop where
  q : PySem.W.excIn K C He.veBase "ValueError.__new__" = true
  k : PySem.W.keepIn K (.ref C) = true
  s : PySem.W.subIn K (.ref C) (.type "BaseException") = some true
  t : PySem.W.typeIn K (.ref C) = some (.type "type")
section
variable {X : Cx} {c : Cf} {tk : Tk} {g : Nat} {pos : Pos} {x : Str}
theorem s_raise {m : Str} {j : Option Str} {C : Addr} {i : Nat} {jj : Nat} {p p2 pos' : Pos} (calm : X.calm = true) (ht : Takes X c.wx) (ec : ExcC X.K C) (gC : X.mg x = some (.ref C)) (hg : Gl X x) (hdb : (x == ("__debug__" : Str)) = false) (hcls : c.cls i = .ref C) :
    PS X (.Raise (some (.Call (.Name x p) [.Constant (.str m) jj p2] [] pos)) none pos') (tS c tk g (.rais i .nil)) := by
  refine psImp (ps_raise calm ht (pmk_own PySem.F.excBase_ValueError ec.q gC ec.k (raises_own ec.s ec.t) hg hdb)) fun D σ H ⟨A, ρ, F, Pn, hs, h⟩ => ?_
  have h : ES c A σ ρ H F Pn i .non ρ := h
  rw [← hcls]
  exact h σ H F none .refl hs rfl
/-- try: b; except x: h -/
theorem s_try {C : Addr} {i : Nat} {b₀ : Stmt} {body suite : List Stmt} {b h : S} {np pos' : Pos} (hK : c.K = X.K) (hs : X.stack = X.env :: X.outer) (hf : X.env.frame = some X.env.locals) (gC : X.mg x = some (.ref C)) (hg : Gl X x) (hdb : (x == ("__debug__" : Str)) = false) (ht : Takes X c.wx)
    (hm : ∀ y k, tk i y = some k → PySem.W.exmOne X.K (c.cls y) (.ref C) = some k)
    (hb : ∀ (W : WX) (pn : List (Addr × Obj)) (xe : Value → Shared → Prop), Takes (X.tr pn xe) W → PassesOwn (model X.prog X.w) X.A X.env xe → PSs (X.tr pn xe) body (tS { c with wx := W } tk g b))
    (hh : ∀ (a : Addr) (oe : Obj) (pn : List (Addr × Obj)), PSs (X.suite a ((a, oe) :: pn)) (b₀ :: suite) (tS c.nox tk g h)) :
    PS X (.Try body [.ExceptHandler (some (.Name x np)) none (b₀ :: suite) pos'] [] [] pos) (tS c tk g (.try_ b i none h)) := by
  refine psImp (ps_try_only (c := .ref C) (ts := fun _ _ _ => tS c.nox tk g h) hs hf ⟨hg, hdb, .inl gC⟩ ht hb fun a oe cls d pn _ _ => hh a oe pn) fun D σ H ⟨A, ρ, F, Pn, hr, q⟩ => ?_
  refine ⟨A, ρ, F, Pn, hr, ?_⟩
  show RS { c with wx := wOnly X.K (.ref C) (fun _ _ _ => tS c.nox tk g h) c.wx D } A σ ρ H F Pn D (xs c.C tk g b ρ)
  have q : RS c A σ ρ H F Pn D (match xs c.C tk g b ρ with
    | .ex y p ρ1 => match tk i y with
      | none => .bad
      | some false => .ex y p ρ1
      | some true => (xs c.C tk g h ρ1).calm
    | o => o) := q
  cases e : xs c.C tk g b ρ with
  | nx ρ' => rw [e] at q; exact q
  | bk ρ' => rw [e] at q; exact q
  | ct ρ' => rw [e] at q; exact q
  | rt w fr ρ' => rw [e] at q; exact q
  | bad => rw [e] at q; exact q
  | ex y p ρ1 =>
    rw [e] at q
    simp only at q
    intro σ' H' F' d st sr ed
    cases k : tk i y with
    | none => rw [k] at q; exact q.elim
    | some kb =>
      rw [k] at q
      refine ⟨kb, hm y kb k, fun e1 a _ => ?_, fun e1 => ?_⟩
      · subst e1
        refine ⟨A, ρ1, F', Pn, sr, ?_⟩
        have q := RS.step q st
        show RS c.nox A σ' ρ1 H' F' Pn D (xs c.C tk g h ρ1)
        cases e2 : xs c.C tk g h ρ1 with
        | nx ρ' => rw [e2] at q; exact q
        | bk ρ' => rw [e2] at q; exact q
        | ct ρ' => rw [e2] at q; exact q
        | rt w fr ρ' => rw [e2] at q; exact q
        | bad => rw [e2] at q; exact q
        | ex _ _ _ => rw [e2] at q; exact q.elim
      · subst e1
        exact q σ' H' F' d st sr ed
end
end Py

namespace Py
open PySem PySem.Spec PyProof.Rows L2
variable [HW]
/-! ### the text's defs -/
structure Info where
  d : He.DefD
  ps : List Str
  N : List Str
  fd : FD
def Good (K : PySem.W.Frag) (I : Info) (fdat : FuncData) : Prop := FunD K I.d.name I.d.qual I.d.params I.d.body I.d.scope [] [] (He.ga K I.d.name) fdat ∧ Binds K fdat I.ps []
structure Wd where
  P : Program
  w : World
  K : PySem.W.Frag
  mg : Str → Option Value
  base : Heap
  tk : Tk
  cls : Nat → Value
  g : Nat
  xn : List Str
def Wd.fn (Z : Wd) (fs : List Info) (d : Nat) : Fn := run (fs.map Info.fd) Z.tk Z.g d
def Wd.cf (Z : Wd) (fs : List Info) (d : Nat) (E : XK) : Cf := { K := Z.K, cls := Z.cls, wx := fun cls d _ H => E cls d H, C := Z.fn fs d }
def Wd.X (Z : Wd) (I : Info) (cdv : Value) (A : Around) (outer : List PySem.Env) (s : Shared) (H : Hp) (E : XK) : Cx := cxOf (L2.CX Z.P Z.w) Z.P Z.w Z.K Z.mg Z.base I.N I.d.qual I.d.scope (He.ga Z.K I.d.name) cdv A outer s H E
structure Gs (fs : List Info) (Z : Wd) (bn : List Str) (cs : List (Str × W)) : Prop where
  f : ∀ (j : Nat) (I : Info), fs[j]? = some I → ∃ fdat, Good Z.K I fdat ∧ Z.mg I.d.name = some (.ref (He.ga Z.K I.d.name))
  b : ∀ x ∈ bn, Z.mg x = none
  h : HW.P = Z.P ∧ HW.w = Z.w
  x : ∀ (j : Nat) (n : Str), Z.xn[j]? = some n → Z.mg n = some (.ref (He.ga Z.K n)) ∧ Z.cls j = .ref (He.ga Z.K n) ∧ ExcC Z.K (He.ga Z.K n)
  xm : ∀ (i y : Nat) (k : Bool), Z.tk i y = some k → PySem.W.exmOne Z.K (Z.cls y) (Z.cls i) = some k
  c : ∀ p ∈ cs, ∃ u, Z.mg p.1 = some u ∧ conOk Z.K u p.2 = true
structure InfoOk (I : Info) : Prop where
  S : FnScope I.N I.ps I.d.scope
  n : I.N.length = I.fd.n
  m : I.fd.m.length = I.ps.length
  le : I.fd.m.length ≤ I.fd.n
def OkAt (fs : List Info) (Z : Wd) (d : Nat) : Prop := ∀ (j : Nat) (I : Info) fdat, fs[j]? = some I → Good Z.K I fdat →
  FnOk Z.P Z.w Z.K Z.mg Z.base (L2.CX Z.P Z.w) d (He.ga Z.K I.d.name) fdat I.ps (spF Z.K Z.cls (Z.fn fs d) I.fd I.N j)
structure Bd (fs : List Info) (Z : Wd) (bn : List Str) (cs : List (Str × W)) (d : Nat) (c : Cf) (X : Cx) : Prop where
  G : Gs fs Z bn cs
  O : OkAt fs Z d
  I : ∀ (j : Nat) (I : Info), fs[j]? = some I → InfoOk I
  eP : X.prog = Z.P
  ew : X.w = Z.w
  eK : X.K = Z.K
  em : X.mg = Z.mg
  eb : X.base = Z.base
  cK : c.K = Z.K
  cc : c.cls = Z.cls
  cC : c.C = Z.fn fs d
  room : Room d X.A
  tk : Takes X c.wx
  calm : X.calm = true
  nd : X.N.Nodup
  po : PassesOwn (model X.prog X.w) X.A X.env X.xe
section
variable {fs : List Info} {Z : Wd} {bn : List Str} {cs : List (Str × W)} {d : Nat} {c : Cf} {X : Cx}
theorem Bd.hc (B : Bd fs Z bn cs d c X) : c.K = X.K := B.cK.trans B.eK.symm
theorem Bd.hw (B : Bd fs Z bn cs d c X) : HW.P = X.prog ∧ HW.w = X.w := ⟨B.G.h.1.trans B.eP.symm, B.G.h.2.trans B.ew.symm⟩
theorem Bd.hu (B : Bd fs Z bn cs d c X) : X.A.units + 200 < cLine := by have := B.room.un; omega
theorem Bd.tr (B : Bd fs Z bn cs d c X) (W : WX) (pn : List (Addr × Obj)) (xe : Value → Shared → Prop) (t : Takes (X.tr pn xe) W) (p : PassesOwn (model X.prog X.w) X.A X.env xe) : Bd fs Z bn cs d { c with wx := W } (X.tr pn xe) :=
  ⟨B.G, B.O, B.I, B.eP, B.ew, B.eK, B.em, B.eb, B.cK, B.cc, B.cC, B.room, t, B.calm, B.nd, p⟩
theorem b_raise {tk : Tk} {g : Nat} {m x : Str} {i jj : Nat} {p p2 pos pos' : Pos} (B : Bd fs Z bn cs d c X) (hx : Z.xn[i]? = some x) (hg : Gl X x) (hdb : (x == ("__debug__" : Str)) = false) :
    PS X (.Raise (some (.Call (.Name x p) [.Constant (.str m) jj p2] [] pos)) none pos') (tS c tk g (.rais i .nil)) := by
  obtain ⟨h1, h2, h3⟩ := B.G.x i x hx
  exact s_raise (C := He.ga Z.K x) (j := none) B.calm B.tk (by rw [B.eK]; exact h3) (by rw [B.em]; exact h1) hg hdb (by rw [B.cc]; exact h2)
theorem b_try {g : Nat} {x : Str} {i : Nat} {b₀ : Stmt} {body suite : List Stmt} {b h : S} {np pos pos' : Pos} (B : Bd fs Z bn cs d c X) (hx : Z.xn[i]? = some x) (hg : Gl X x) (hdb : (x == ("__debug__" : Str)) = false) (hs : X.stack = X.env :: X.outer) (hf : X.env.frame = some X.env.locals)
    (hb : ∀ (W : WX) (pn : List (Addr × Obj)) (xe : Value → Shared → Prop), Bd fs Z bn cs d { c with wx := W } (X.tr pn xe) → PSs (X.tr pn xe) body (tS { c with wx := W } Z.tk g b))
    (hh : ∀ (a : Addr) (oe : Obj) (pn : List (Addr × Obj)), PSs (X.suite a ((a, oe) :: pn)) (b₀ :: suite) (tS c.nox Z.tk g h)) :
    PS X (.Try body [.ExceptHandler (some (.Name x np)) none (b₀ :: suite) pos'] [] [] pos) (tS c Z.tk g (.try_ b i none h)) := by
  obtain ⟨h1, h2, h3⟩ := B.G.x i x hx
  exact s_try (C := He.ga Z.K x) B.hc hs hf (by rw [B.em]; exact h1) hg hdb B.tk (fun y k q => by rw [B.eK, B.cc, ← h2]; exact B.G.xm i y k q) (fun W pn xe t p => hb W pn xe (B.tr W pn xe t p)) hh
theorem Bd.blk (B : Bd fs Z bn cs d c X) (s : Shared) (H : Hp) (scope : Scope) (cenv : PySem.Env) (fp : List Addr) : Bd fs Z bn cs d c.nox (X.blk s H scope cenv fp) :=
  ⟨B.G, B.O, B.I, B.eP, B.ew, B.eK, B.em, B.eb, B.cK, B.cc, B.cC, B.room, takes0, B.calm, B.nd, PassesOwn.never⟩
theorem Bd.mb (B : Bd fs Z bn cs d c X) {x : Str} (h : x ∈ bn) : X.mg x = none := by rw [B.em]; exact B.G.b x h
/-- f(..) -/
theorem b_call {e : Expr} {es : List Expr} {eas : E} {x : Str} {p pos : Pos} (B : Bd fs Z bn cs d c X) (j : Nat) {I : Info} (hI : fs[j]? = some I) (hx : I.d.name = x) (hg : Gl X x) (hdb : (x == ("__debug__" : Str)) = false)
    (hp : (e :: es).all plainE = true) (ha : PA X (e :: es) (tXL c eas)) : PE X (.Call (.Name x p) (e :: es) [] pos) (tX c (.call j I.fd.m eas)) := by
  obtain ⟨fdat, hG, hm⟩ := B.G.f j I hI
  have F := B.O j I fdat hI hG
  have ok := B.I j I hI
  have r := B.room
  have t := B.tk
  obtain ⟨P, w, K, mg, base, A⟩ := X
  obtain ⟨K', cls, wx, C⟩ := c
  obtain rfl := B.eP
  obtain rfl := B.ew
  obtain rfl := B.eK
  obtain rfl := B.em
  obtain rfl := B.eb
  have e1 := B.cK
  have e2 := B.cc
  have e3 := B.cC
  dsimp only at e1 e2 e3
  subst e1 e2 e3 hx
  exact x_call rfl t F r hg hm hG.1.kp hG.2 hdb ok.le ok.n hp ha
theorem env0_io {fd : FD} {ws : List W} {i : Nat} {w : W} {f : Fl} (e : (env0 fd ws)[i]? = some (some (w, f))) : f = .sh ∨ f = .io := by
  unfold env0 at e
  rcases Nat.lt_or_ge i ((ws.zip fd.m).map (fun p => some (p.1, if p.2 then Fl.io else Fl.sh))).length with h | h
  · rw [List.getElem?_append_left h, List.getElem?_map] at e
    obtain ⟨q, _, e⟩ := Option.map_eq_some_iff.mp e
    cases e
    split <;> simp
  · rw [List.getElem?_append_right h, List.getElem?_replicate] at e
    split at e <;> cases e
theorem body_start {I : Info} {j : Nat} {vs : List V} {H : Hp} {Q : VK} {E : XK} (hI : fs[j]? = some I) (hsp : spF Z.K Z.cls (Z.fn fs (d + 1)) I.fd I.N j vs H Q E) :
    tS (Z.cf fs d E) Z.tk Z.g I.fd.b { nx := fun _ H' => Q .non H', rt := Q } (start I.N vs) H := by
  obtain ⟨hl, A, F, ws, hw, sr, q⟩ := hsp
  have e : Z.fn fs (d + 1) j ws = ofS I.fd (xs (Z.fn fs d) Z.tk Z.g I.fd.b (env0 I.fd ws)) := by
    have e0 : (fs.map Info.fd)[j]? = some I.fd := by rw [List.getElem?_map, hI]; rfl
    show (match (fs.map Info.fd)[j]? with
      | none => CO.bad
      | some fd => if ws.length = fd.m.length then ofS fd (xs (run (fs.map Info.fd) Z.tk Z.g d) Z.tk Z.g fd.b (env0 fd ws)) else .bad) = _
    rw [e0]
    simp only [hw, if_true]
    rfl
  rw [e] at q
  refine ⟨A, env0 I.fd ws, F, [], sr, ?_⟩
  show RS (Z.cf fs d E) A (start I.N vs) (env0 I.fd ws) H F [] _ (xs (Z.fn fs d) Z.tk Z.g I.fd.b (env0 I.fd ws))
  cases e2 : xs (Z.fn fs d) Z.tk Z.g I.fd.b (env0 I.fd ws) with
  | nx ρ' =>
    rw [e2] at q
    simp only [ofS] at q
    cases e3 : ioE ρ' 0 I.fd.m with
    | none => rw [e3] at q; exact q.elim
    | some ios =>
      rw [e3] at q
      exact fun σ' H' F' st s => q .non H' F' σ' ρ' st (show SRel Z.K A σ' ρ' H' F' (pnd (.val .non false) .non) from s) e3 (fun h => nomatch h) fun _ => .non
  | rt w fr ρ' =>
    rw [e2] at q
    simp only [ofS] at q
    cases e3 : ioE ρ' 0 I.fd.m with
    | none => rw [e3] at q; exact q.elim
    | some ios =>
      rw [e3] at q
      refine fun v σ' H' F' st s a b => q v H' F' σ' ρ' st (by rw [List.append_nil] at s; exact s) e3 (fun h => ?_) b
      obtain ⟨a, ea, z⟩ := a h
      refine ⟨a, ea, z.resolve_right ?_⟩
      rintro ⟨i, w', f', e', n', _⟩
      rcases env0_io e' with rfl | rfl <;> rcases n' with n' | n' <;> cases n'
  | ex x p ρ' =>
    rw [e2] at q
    simp only [ofS] at q
    cases e3 : ioE ρ' 0 I.fd.m with
    | none => rw [e3] at q; exact q.elim
    | some ios =>
      rw [e3] at q
      exact fun σ' H' F' d st s a => q H' F' σ' ρ' d st s e3 a
  | bk ρ' => rw [e2] at q; exact q.elim
  | ct ρ' => rw [e2] at q; exact q.elim
  | bad => rw [e2] at q; exact q.elim
/-- every def keeps its promise -/
theorem okAt (G : Gs fs Z bn cs) (HI : ∀ (j : Nat) (I : Info), fs[j]? = some I → InfoOk I)
    (bodies : ∀ (j : Nat) (I : Info), fs[j]? = some I → ∀ d cdv A outer s H E, Bd fs Z bn cs d (Z.cf fs d E) (Z.X I cdv A outer s H E) → PSs (Z.X I cdv A outer s H E) I.d.body (tS (Z.cf fs d E) Z.tk Z.g I.fd.b)) : ∀ d, OkAt fs Z d
  | 0 => fun j I fdat hI hG => ⟨fun vs H Q E h => h.1.trans (HI j I hI).m, fun A outer s H args us vs Q E hr e0 hb r hsp => by
    obtain ⟨_, _, _, _, _, _, q⟩ := hsp
    exact q.elim⟩
  | d + 1 => fun j I fdat hI hG => FunD.ok hG.1 (HI j I hI).S (fun vs H Q E h => h.1.trans (HI j I hI).m) fun cdv A outer s H vs Q E hr hsp =>
    ⟨tS (Z.cf fs d E) Z.tk Z.g I.fd.b, bodies j I hI d cdv A outer s H E ⟨G, okAt G HI bodies d, HI, rfl, rfl, rfl, rfl, rfl, rfl, rfl, rfl, hr, takes_of rfl rfl rfl rfl, rfl, (HI j I hI).S.nd, passes_of (K := fun e s'' => L2.CX Z.P Z.w outer H s E e s'') rfl⟩, body_start hI hsp⟩
end
end Py

namespace Py
open PySem PySem.Spec PyProof.Rows L2
variable [HW]
/-! ### the rules in short -/
section
variable {fs : List Info} {Z : Wd} {bn : List Str} {cs : List (Str × W)} {d : Nat} {c : Cf} {X : Cx} {tk : Tk} {g : Nat}
variable {e a b tg iter elt : Expr} {ea eb eas ee et : E} {pos p p2 : Pos} {x : Str} {es : List Expr}
theorem t_var {i : Nat} (B : Bd fs Z bn cs d c X) (h : PE X (.Name x pos) (tX c (.var i))) : PT X (.Name x pos) (tXB c (.var i)) :=
  t_plain B.hc h (fun ρ => by
    show trO ((wOf ρ i).map (·.1)) ρ = (match wOf ρ i with | some _ => Out.ok (Arg.slot i) ρ | none => .bad).bind fun u ρ1 => trO (res ρ1 u) ρ1
    cases q : wOf ρ i with
    | none => rfl
    | some y => simp only [Out.bind_ok, res, q]) fun _ => rfl
theorem x_int {i : Int} {j} : PE X (.Constant (.int i) j pos) (tX c (.con (.int i))) := x_con pe_int fun _ _ => .int i
theorem x_bl {b : Bool} {j} : PE X (.Constant (.bool b) j pos) (tX c (.con (.bl b))) := x_con pe_bl fun _ _ => .bl b
theorem x_non {j} : PE X (.Constant .none j pos) (tX c (.con .non)) := x_con pe_non fun _ _ => .non
theorem x_str {z : Str} {s : Cs} {j} (h : (z == S8 s && s8Ok s) = true) : PE X (.Constant (.str z) j pos) (tX c (.con (.str s))) := by
  obtain ⟨h1, h2⟩ := Bool.and_eq_true_iff.mp h
  obtain rfl : z = S8 s := eq_of_beq h1
  obtain ⟨k1, k2⟩ := Bool.and_eq_true_iff.mp h2
  exact x_con pe_str fun _ _ => .str s (of_decide_eq_true k1) k2
theorem x_bad : PE X e (tX c .bad) := ⟨fun pins s σ H Q I ⟨A, ρ, F, Pn, hs, q⟩ => q.elim⟩
theorem t_bad : PT X e (tXB c .bad) := ⟨fun pins s σ H Q I ⟨A, ρ, F, Pn, hs, q⟩ => q.elim⟩
theorem pts_no : PTs X [] (tXB c .nil) := ⟨fun pins s σ H Q I ⟨A, ρ, F, Pn, hs, q⟩ => pts_nil.run pins s σ H Q I (q H F .refl hs)⟩
def blkB (N : List Str) (sc scope : Scope) (own : List (Str × Nat)) (p : Pt) : Bool :=
  (decide (scope.kind = .function) && (scope.names.all fun y => decide (scope.names.lookup y.1 = some y.2)) && (own.all fun q => decide (N[q.2]? = some q.1)) &&
    (scope.names.all fun y => !decide (y.2 = .free) || (decide (sc.names.lookup y.1 = some .cell) || decide (sc.names.lookup y.1 = some .free))) &&
    (scope.names.all fun y => !(decide (y.2 = .local) || decide (y.2 = .cell)) || (decide (y.1 ∈ own.map (·.1)) || decide (y.1 ∉ N)))) &&
  (decide (own.map (·.2)).Nodup && decide (∀ j ∈ p.ns, j ∈ own.map (·.2)))
theorem blkB_ok {N : List Str} {sc scope : Scope} {own : List (Str × Nat)} {p : Pt} (h : blkB N sc scope own p = true) : BlkOk N sc scope own ∧ (own.map (·.2)).Nodup ∧ ∀ j ∈ p.ns, j ∈ own.map (·.2) := by
  simp only [blkB, Bool.and_eq_true, decide_eq_true_eq, List.all_eq_true, Bool.or_eq_true, Bool.not_eq_true', decide_eq_false_iff_not] at h
  obtain ⟨⟨⟨⟨⟨h1, h2⟩, h3⟩, h4⟩, h5⟩, h6, h7⟩ := h
  exact ⟨⟨h1, h2, h3, fun y hy k => (h4 y hy).resolve_left fun z => z k, fun y hy k => (h5 y hy).resolve_left fun z => by simp at z; exact k.elim z.1 z.2⟩, h6, h7⟩
theorem b_lc {scope : Scope} {ownN : List (Str × Nat)} {k : IK} {p : Pt} {ifs : List Expr} (B : Bd fs Z bn cs d c X) (own : List Nat) (ho : ownN.map (·.2) = own) (hb : blkB X.N X.env.scope scope ownN p = true) (hi : PI X tg iter (tI c k eas))
    (hg : ∀ (s : Shared) (H : Hp) (C : Addr) (cl : List (Str × Addr)) (fp : List Addr), Bd fs Z bn cs d c.nox (X.blk s H scope (compEnvC scope cl C X.env) fp) → PG (X.blk s H scope (compEnvC scope cl C X.env) fp) tg (gP X.K p))
    (ht : ∀ (s : Shared) (H : Hp) (C : Addr) (cl : List (Str × Addr)) (fp : List Addr), Bd fs Z bn cs d c.nox (X.blk s H scope (compEnvC scope cl C X.env) fp) → PTs (X.blk s H scope (compEnvC scope cl C X.env) fp) ifs (tXB c.nox et))
    (he : ∀ (s : Shared) (H : Hp) (C : Addr) (cl : List (Str × Addr)) (fp : List Addr), Bd fs Z bn cs d c.nox (X.blk s H scope (compEnvC scope cl C X.env) fp) → PE (X.blk s H scope (compEnvC scope cl C X.env) fp) elt (tX c.nox ee)) (hf : ∀ x, foldedSetIterable iter X.env x = pure x) :
    PE X (.ListComp elt [⟨tg, iter, ifs, 0⟩] scope pos) (tX c (.lc ee p et k eas own)) := by
  subst ho
  obtain ⟨b1, b2, b3⟩ := blkB_ok hb
  exact x_lc B.hc B.calm B.nd hi b1 b2 b3 (fun s H C cl fp => hg s H C cl fp (B.blk ..)) (fun s H C cl fp => ht s H C cl fp (B.blk ..)) (fun s H C cl fp => he s H C cl fp (B.blk ..)) hf
theorem b_asnLc {i : Nat} {py : Pos} {scope : Scope} {ownN : List (Str × Nat)} {k : IK} {q : Pt} {ifs : List Expr} (B : Bd fs Z bn cs d c X) (own : List Nat) (ho : ownN.map (·.2) = own) (hb : blkB X.N X.env.scope scope ownN q = true)
    (hy : X.N[i]? = some x) (hyl : X.env.scope.names.lookup x = some .local) (hsw : swapsWith (.ListComp elt [⟨tg, iter, ifs, 0⟩] scope p) (some (.Name x py)) pos.line X.env = pure true) (hi : PI X tg iter (tI c k eas))
    (hg : ∀ (s : Shared) (H : Hp) (C : Addr) (cl : List (Str × Addr)) (fp : List Addr), Bd fs Z bn cs d c.nox (X.blk s H scope (compEnvC scope cl C X.env) fp) → PG (X.blk s H scope (compEnvC scope cl C X.env) fp) tg (gP X.K q))
    (ht : ∀ (s : Shared) (H : Hp) (C : Addr) (cl : List (Str × Addr)) (fp : List Addr), Bd fs Z bn cs d c.nox (X.blk s H scope (compEnvC scope cl C X.env) fp) → PTs (X.blk s H scope (compEnvC scope cl C X.env) fp) ifs (tXB c.nox et))
    (he : ∀ (s : Shared) (H : Hp) (C : Addr) (cl : List (Str × Addr)) (fp : List Addr), Bd fs Z bn cs d c.nox (X.blk s H scope (compEnvC scope cl C X.env) fp) → PE (X.blk s H scope (compEnvC scope cl C X.env) fp) elt (tX c.nox ee)) (hf : ∀ x, foldedSetIterable iter X.env x = pure x) :
    PS X (.Assign [.Name x py] (.ListComp elt [⟨tg, iter, ifs, 0⟩] scope p) pos) (tS c tk g (.asn i (.lc ee q et k eas own))) := by
  subst ho
  obtain ⟨b1, b2, b3⟩ := blkB_ok hb
  exact s_asnLc B.hc B.calm B.nd hy hyl hsw hi b1 b2 b3 (fun s H C cl fp => hg s H C cl fp (B.blk ..)) (fun s H C cl fp => ht s H C cl fp (B.blk ..)) (fun s H C cl fp => he s H C cl fp (B.blk ..)) hf
theorem b_lc2 {tg1 iter1 : Expr} {et1 es1 : E} {scope : Scope} {ownN : List (Str × Nat)} {k k1 : IK} {q p1 : Pt} {ifs ifs1 : List Expr} (B : Bd fs Z bn cs d c X) (own : List Nat) (ho : ownN.map (·.2) = own) (hb : (blkB X.N X.env.scope scope ownN q && (decide p1.ns.Nodup && decide (∀ j ∈ p1.ns, j ∈ ownN.map (·.2)))) = true)
    (hi : PI X tg iter (tI c k eas))
    (hg : ∀ (s : Shared) (H : Hp) (C : Addr) (cl : List (Str × Addr)) (fp : List Addr), Bd fs Z bn cs d c.nox (X.blk s H scope (compEnvC scope cl C X.env) fp) → PG (X.blk s H scope (compEnvC scope cl C X.env) fp) tg (gP X.K q))
    (ht : ∀ (s : Shared) (H : Hp) (C : Addr) (cl : List (Str × Addr)) (fp : List Addr), Bd fs Z bn cs d c.nox (X.blk s H scope (compEnvC scope cl C X.env) fp) → PTs (X.blk s H scope (compEnvC scope cl C X.env) fp) ifs (tXB c.nox et))
    (hi1 : ∀ (s : Shared) (H : Hp) (C : Addr) (cl : List (Str × Addr)) (fp : List Addr), Bd fs Z bn cs d c.nox (X.blk s H scope (compEnvC scope cl C X.env) fp) → PI (X.blk s H scope (compEnvC scope cl C X.env) fp) tg1 iter1 (tIF c.nox k1 es1))
    (hg1 : ∀ (s : Shared) (H : Hp) (C : Addr) (cl : List (Str × Addr)) (fp : List Addr), Bd fs Z bn cs d c.nox (X.blk s H scope (compEnvC scope cl C X.env) fp) → PG (X.blk s H scope (compEnvC scope cl C X.env) fp) tg1 (gP X.K p1))
    (ht1 : ∀ (s : Shared) (H : Hp) (C : Addr) (cl : List (Str × Addr)) (fp : List Addr), Bd fs Z bn cs d c.nox (X.blk s H scope (compEnvC scope cl C X.env) fp) → PTs (X.blk s H scope (compEnvC scope cl C X.env) fp) ifs1 (tXB c.nox et1))
    (he : ∀ (s : Shared) (H : Hp) (C : Addr) (cl : List (Str × Addr)) (fp : List Addr), Bd fs Z bn cs d c.nox (X.blk s H scope (compEnvC scope cl C X.env) fp) → PE (X.blk s H scope (compEnvC scope cl C X.env) fp) elt (tX c.nox ee)) (hf : ∀ x, foldedSetIterable iter X.env x = pure x) (hf1 : ∀ env x, foldedSetIterable iter1 env x = pure x) :
    PE X (.ListComp elt [⟨tg, iter, ifs, 0⟩, ⟨tg1, iter1, ifs1, 0⟩] scope pos) (tX c (.lc2 ee q et k eas p1 et1 k1 es1 own)) := by
  subst ho
  obtain ⟨hb, hb2⟩ := Bool.and_eq_true_iff.mp hb
  obtain ⟨hb2, hb3⟩ := Bool.and_eq_true_iff.mp hb2
  obtain ⟨b1, b2, b3⟩ := blkB_ok hb
  exact x_lc2 B.hc B.calm B.nd hi b1 b2 (of_decide_eq_true hb2) b3 (of_decide_eq_true hb3) (fun s H C cl fp => hg s H C cl fp (B.blk ..)) (fun s H C cl fp => ht s H C cl fp (B.blk ..)) (fun s H C cl fp => hi1 s H C cl fp (B.blk ..)) (fun s H C cl fp => hg1 s H C cl fp (B.blk ..)) (fun s H C cl fp => ht1 s H C cl fp (B.blk ..)) (fun s H C cl fp => he s H C cl fp (B.blk ..)) hf hf1
theorem b_asnLc2 {i : Nat} {py : Pos} {tg1 iter1 : Expr} {et1 es1 : E} {scope : Scope} {ownN : List (Str × Nat)} {k k1 : IK} {q p1 : Pt} {ifs ifs1 : List Expr} (B : Bd fs Z bn cs d c X) (own : List Nat) (ho : ownN.map (·.2) = own) (hb : (blkB X.N X.env.scope scope ownN q && (decide p1.ns.Nodup && decide (∀ j ∈ p1.ns, j ∈ ownN.map (·.2)))) = true)
    (hy : X.N[i]? = some x) (hyl : X.env.scope.names.lookup x = some .local) (hsw : swapsWith (.ListComp elt [⟨tg, iter, ifs, 0⟩, ⟨tg1, iter1, ifs1, 0⟩] scope p) (some (.Name x py)) pos.line X.env = pure true) (hi : PI X tg iter (tI c k eas))
    (hg : ∀ (s : Shared) (H : Hp) (C : Addr) (cl : List (Str × Addr)) (fp : List Addr), Bd fs Z bn cs d c.nox (X.blk s H scope (compEnvC scope cl C X.env) fp) → PG (X.blk s H scope (compEnvC scope cl C X.env) fp) tg (gP X.K q))
    (ht : ∀ (s : Shared) (H : Hp) (C : Addr) (cl : List (Str × Addr)) (fp : List Addr), Bd fs Z bn cs d c.nox (X.blk s H scope (compEnvC scope cl C X.env) fp) → PTs (X.blk s H scope (compEnvC scope cl C X.env) fp) ifs (tXB c.nox et))
    (hi1 : ∀ (s : Shared) (H : Hp) (C : Addr) (cl : List (Str × Addr)) (fp : List Addr), Bd fs Z bn cs d c.nox (X.blk s H scope (compEnvC scope cl C X.env) fp) → PI (X.blk s H scope (compEnvC scope cl C X.env) fp) tg1 iter1 (tIF c.nox k1 es1))
    (hg1 : ∀ (s : Shared) (H : Hp) (C : Addr) (cl : List (Str × Addr)) (fp : List Addr), Bd fs Z bn cs d c.nox (X.blk s H scope (compEnvC scope cl C X.env) fp) → PG (X.blk s H scope (compEnvC scope cl C X.env) fp) tg1 (gP X.K p1))
    (ht1 : ∀ (s : Shared) (H : Hp) (C : Addr) (cl : List (Str × Addr)) (fp : List Addr), Bd fs Z bn cs d c.nox (X.blk s H scope (compEnvC scope cl C X.env) fp) → PTs (X.blk s H scope (compEnvC scope cl C X.env) fp) ifs1 (tXB c.nox et1))
    (he : ∀ (s : Shared) (H : Hp) (C : Addr) (cl : List (Str × Addr)) (fp : List Addr), Bd fs Z bn cs d c.nox (X.blk s H scope (compEnvC scope cl C X.env) fp) → PE (X.blk s H scope (compEnvC scope cl C X.env) fp) elt (tX c.nox ee)) (hf : ∀ x, foldedSetIterable iter X.env x = pure x) (hf1 : ∀ env x, foldedSetIterable iter1 env x = pure x) :
    PS X (.Assign [.Name x py] (.ListComp elt [⟨tg, iter, ifs, 0⟩, ⟨tg1, iter1, ifs1, 0⟩] scope p) pos) (tS c tk g (.asn i (.lc2 ee q et k eas p1 et1 k1 es1 own))) := by
  subst ho
  obtain ⟨hb, hb2⟩ := Bool.and_eq_true_iff.mp hb
  obtain ⟨hb2, hb3⟩ := Bool.and_eq_true_iff.mp hb2
  obtain ⟨b1, b2, b3⟩ := blkB_ok hb
  exact s_asnLc2 B.hc B.calm B.nd hy hyl hsw hi b1 b2 (of_decide_eq_true hb2) b3 (of_decide_eq_true hb3) (fun s H C cl fp => hg s H C cl fp (B.blk ..)) (fun s H C cl fp => ht s H C cl fp (B.blk ..)) (fun s H C cl fp => hi1 s H C cl fp (B.blk ..)) (fun s H C cl fp => hg1 s H C cl fp (B.blk ..)) (fun s H C cl fp => ht1 s H C cl fp (B.blk ..)) (fun s H C cl fp => he s H C cl fp (B.blk ..)) hf hf1
theorem b_for {s : S} {k : IK} {q : Pt} {body : List Stmt} (B : Bd fs Z bn cs d c X) (hi : PI X tg iter (tI c k eas)) (hg : PG X tg (gP X.K q)) (hb : PSs X body (tS c tk g s)) (hf : ∀ x, foldedSetIterable iter X.env x = pure x) :
    PS X (.For tg iter body [] pos) (tS c tk g (.for_ q k eas s)) := s_for B.hc B.po B.calm hi hg hb hf
/-- lengths of argument lists -/
def arity : E → Nat
  | .cons _ b => arity b + 1
  | _ => 0
theorem arity_ok {C : Fn} : ∀ {e : E} {n : Nat}, arity e = n → (∀ ρ us ρ1, (ev C e).a ρ = .ok us ρ1 → us.length = n)
  | .nil, n, h => by
    intro ρ us ρ1 e
    cases e
    exact h
  | .cons a b, n, h => by
    intro ρ us ρ1 e
    have e : (((ev C a).x ρ).bind fun u ρ1 => ((ev C b).a ρ1).bind fun us ρ2 => Out.ok (u :: us) ρ2) = .ok us ρ1 := e
    obtain ⟨u, ρ2, e1, e⟩ := bind_ok e
    obtain ⟨us', ρ3, e2, e⟩ := bind_ok e
    cases e
    simp only [List.length_cons, arity_ok rfl _ _ _ e2]
    exact h
  | .bad, n, h => fun ρ us ρ1 e => by cases e
  | .var _, n, h => fun ρ us ρ1 e => by cases e
  | .con _, n, h => fun ρ us ρ1 e => by cases e
  | .op .., n, h => fun ρ us ρ1 e => by cases e
  | .neg .., n, h => fun ρ us ρ1 e => by cases e
  | .cmp .., n, h => fun ρ us ρ1 e => by cases e
  | .cmp2 .., n, h => fun ρ us ρ1 e => by cases e
  | .and .., n, h => fun ρ us ρ1 e => by cases e
  | .or .., n, h => fun ρ us ρ1 e => by cases e
  | .not .., n, h => fun ρ us ρ1 e => by cases e
  | .ite .., n, h => fun ρ us ρ1 e => by cases e
  | .tup .., n, h => fun ρ us ρ1 e => by cases e
  | .lst .., n, h => fun ρ us ρ1 e => by cases e
  | .dsp .., n, h => fun ρ us ρ1 e => by cases e
  | .ix .., n, h => fun ρ us ρ1 e => by cases e
  | .slc .., n, h => fun ρ us ρ1 e => by cases e
  | .call .., n, h => fun ρ us ρ1 e => by cases e
  | .bi .., n, h => fun ρ us ρ1 e => by cases e
  | .mth .., n, h => fun ρ us ρ1 e => by cases e
  | .isi .., n, h => fun ρ us ρ1 e => by cases e
  | .fst .., n, h => fun ρ us ρ1 e => by cases e
  | .lc .., n, h => fun ρ us ρ1 e => by cases e
  | .lc2 .., n, h => fun ρ us ρ1 e => by cases e
theorem pt_len {l : Pt} : ∀ {n : Nat}, (match l with | .nil => n = 0 | _ => True) → True := fun _ => trivial
def ptLen : Pt → Nat
  | .cons _ b => ptLen b + 1
  | _ => 0
def ptOk : Pt → Bool
  | .cons _ b => ptOk b
  | .nil => true
  | _ => false
theorem asP_len : ∀ {l : Pt} {w : List W} {ρ ρ' : Env}, ptOk l = true → asP l (.tup w) ρ = some ρ' → w.length = ptLen l
  | .nil, w, ρ, ρ', _, h => by
    cases w with
    | nil => rfl
    | cons _ _ => cases h
  | .cons a b, w, ρ, ρ', h, e => by
    cases w with
    | nil => cases e
    | cons x xs =>
      simp only [asP] at e
      cases q : asP a x ρ with
      | none => rw [q] at e; cases e
      | some ρ1 =>
        rw [q] at e
        simp only [List.length_cons, asP_len (l := b) h e]
        rfl
theorem g_tupB {k : Nat} {l : Pt} (B : Bd fs Z bn cs d c X) (hp : es.all plainE = true) (hl : (ptOk l && ptLen l == es.length) = true) (h : PGs X es (gPs X.K l)) : PG X (.Tuple es k pos) (gP X.K (.t l)) := by
  obtain ⟨h1, h2⟩ := Bool.and_eq_true_iff.mp hl
  exact g_tup B.calm hp (fun w ρ ρ' e => (asP_len h1 e).trans (eq_of_beq h2)) h
theorem b_glob {w : W} (B : Bd fs Z bn cs d c X) (hm : (x, w) ∈ cs) (hg : Gl X x) (hd : (x == ("__debug__" : Str)) = false) : PE X (.Name x pos) (tX c (.con w)) := by
  obtain ⟨u, h1, h2⟩ := B.G.c _ hm
  exact x_glob B.hc hg (by rw [B.em]; exact h1) (by rw [B.eK]; exact h2) hd
end
end Py

namespace Py
open PySem PySem.Spec PyProof.Rows L2
/-! ### the law's def, called with the script -/
/-- no list stands at the text's top -/
def noList (K : PySem.W.Frag) : Bool := K.all fun p => decide (p.2.cls ≠ .type "list")
theorem lookup_mem {K : PySem.W.Frag} {a : Addr} {o : Obj} (h : K.lookup a = some o) : (a, o) ∈ K := by
  induction K with
  | nil => cases h
  | cons p r ih =>
    rw [List.lookup_cons] at h
    split at h
    · rename_i e
      cases Option.some.inj h
      rw [eq_of_beq e]
      exact List.mem_cons_self
    · exact List.mem_cons_of_mem _ (ih h)
theorem noList_ok {K : PySem.W.Frag} (h : noList K = true) {a : Addr} {o : Obj} (e : K.lookup a = some o) : o.cls ≠ .type "list" := by
  have := List.all_eq_true.mp h _ (lookup_mem e)
  exact of_decide_eq_true this
theorem ints_hr {K : PySem.W.Frag} {H : Hp} {F : Addr → Prop} : ∀ ns : List Int, HRs K H F (ns.map V.int) (ns.map W.int)
  | [] => .nil
  | n :: ns => .cons (.int n) (ints_hr ns)
theorem spF_law [HW] {K : PySem.W.Frag} {cls : Nat → Value} {C : Fn} {fd : FD} {N : List Str} {j : Nat} {a : Addr} {H : Hp} {ns : List Int} (hm : fd.m = [false]) (hN : N.length = fd.n) (h1 : 1 ≤ fd.n) (hl : noList K = true) (hz : ns.length ≤ szL) (hS : SqL K H a (ns.map V.int)) (hC : C j [.lst (ns.map W.int)] = .ret (.bl true) false []) :
    spF K cls C fd N j [.ref a] H (fun v _ => v = .bl true) fun _ _ _ => False := by
  have hS : Rd H a (.lst (ns.map V.int)) := by
    rcases hS with h | ⟨o, its, n, h, hc, _⟩
    · exact h
    · exact absurd hc (noList_ok hl h)
  have e0 : env0 fd [.lst (ns.map W.int)] = some (.lst (ns.map W.int), .sh) :: List.replicate (fd.n - 1) none := by
    unfold env0; rw [hm]; rfl
  have get : ∀ {i : Nat} {w : W} {f : Fl}, (env0 fd [.lst (ns.map W.int)])[i]? = some (some (w, f)) → i = 0 ∧ w = .lst (ns.map W.int) ∧ f = .sh := fun {i w f} e => by
    rw [e0] at e
    cases i with
    | zero => simp at e; exact ⟨rfl, e.1.symm, e.2.symm⟩
    | succ i =>
      rw [List.getElem?_cons_succ, List.getElem?_replicate] at e
      split at e <;> cases e
  have nosl : ∀ i b, ¬ SlA (start N [.ref a]) (env0 fd [.lst (ns.map W.int)]) i b := fun i b ⟨w, f, e, n, _⟩ => n (get e).2.2
  refine ⟨by rw [hm]; rfl, fun _ => none, fun b => b = a, [.lst (ns.map W.int)], by rw [hm]; rfl, ⟨?_, fun i w e => ?_, fun i w f e n => absurd (get e).2.2 n, fun i w f e q => ?_, fun i j b h => absurd h (nosl i b), (fun p hp => nomatch hp), List.nodup_nil, fun b hb => ?_⟩, ?_⟩
  · rw [e0]
    unfold L2.start
    simp only [List.length_cons, List.length_replicate, List.map_cons, List.map_nil, List.length_append, List.length_nil]
    omega
  · obtain ⟨rfl, rfl, _⟩ := get e
    exact ⟨.ref a, rfl, .lst rfl hS (by simpa using hz) (ints_hr ns)⟩
  · obtain ⟨_, _, rfl⟩ := get e
    rcases q with q | q <;> cases q
  · rw [hb]
    rcases hS with h | ⟨o, h⟩
    · exact ⟨_, h⟩
    · exact ⟨_, h⟩
  · rw [hC]
    intro v H' F' σ' ρ' _ _ _ _ hr
    have hr := hr rfl
    cases hr
    rfl
/-- a promise with a number that is chosen at the call -/
def spE (sp : Nat → Sp) : Sp := fun vs H Q E => ∃ g, sp g vs H Q E
theorem fnOk_ex {P : Program} {w : World} {K : PySem.W.Frag} {mg : Str → Option Value} {base : Heap} {CX : CXT} {k : Nat} {f : Addr} {fd : FuncData} {ps : List Str} {sp : Nat → Sp} (h : ∀ g, FnOk P w K mg base CX k f fd ps (sp g)) : FnOk P w K mg base CX k f fd ps (spE sp) :=
  ⟨fun vs H Q E ⟨g, q⟩ => (h g).len vs H Q E q, fun A outer s H args us vs Q E hr e0 hb r ⟨g, q⟩ => (h g).run A outer s H args us vs Q E hr e0 hb r q⟩

theorem fnOk_0 {P : Program} {w : World} {K : PySem.W.Frag} {mg : Str → Option Value} {base : Heap} {k : Nat} {f : Addr} {fd : FuncData} {ps : List Str} {sp : Sp} (h : FnOk P w K mg base (L2.CX P w) k f fd ps sp) :
    FnOk P w K mg base CX0 k f fd ps fun vs H Q _ => sp vs H Q fun _ _ _ => False :=
  ⟨fun vs H Q E q => h.len _ _ _ _ q, fun A outer s H args us vs Q E hr e0 hb r q => codeAny_mono (h.run A outer s H args us vs Q _ hr e0 hb r q) fun r s' z => by
    cases r with
    | error e =>
      obtain ⟨_, _, _, _, _, _, _, _, _, _, _, _, z⟩ := z
      exact z.elim
    | ok fl => cases fl <;> exact z⟩
theorem all_get {α : Type} {P : α → Prop} {l : List α} (h : ∀ x ∈ l, P x) (j : Nat) (x : α) (e : l[j]? = some x) : P x := h x (List.mem_of_getElem? e)
theorem all_nil {α : Type} {P : α → Prop} : ∀ x ∈ ([] : List α), P x := fun x h => nomatch h
theorem all_cons {α : Type} {P : α → Prop} {a : α} {l : List α} (h : P a) (t : ∀ x ∈ l, P x) : ∀ x ∈ a :: l, P x := fun x m => by
  rcases List.mem_cons.mp m with rfl | m
  · exact h
  · exact t x m
/-! ### what the head tells -/
abbrev AlP : Type := He.AlD × Bool
def obsP (n : Nat) (fa : List He.Fa) (fn : List He.DefD) (ex : PySem.W.Frag → Bool) (g : Addr → Option Obj) : AlP := (He.obsD fa fn (He.frG g (He.asD g n)), ex (He.frG g (He.asD g n)))
def SaysP (fa : List He.Fa) (fn : List He.DefD) (ex : PySem.W.Frag → Bool) (K : PySem.W.Frag) : Prop := He.SaysD fa fn K ∧ ex K = true
theorem saysP_of {n : Nat} {fa : List He.Fa} {fn : List He.DefD} {ex : PySem.W.Frag → Bool} {g : Addr → Option Obj} (e : obsP n fa fn ex g = (He.valD fn, true)) : SaysP fa fn ex (He.frG g (He.asD g n)) :=
  ⟨congrArg (fun z : AlP => z.1) e, congrArg (fun z : AlP => z.2) e⟩
def hookP (n : Nat) (fa : List He.Fa) (fn : List He.DefD) (ex : PySem.W.Frag → Bool) : PySem.W.Hook where
  α := AlP
  obs := fun s => obsP n fa fn ex s.heap.get?
  val := fun _ => (He.valD fn, true)
  says := fun _ h => ∃ K : PySem.W.Frag, K.In h ∧ SaysP fa fn ex K
  of := fun _ _ e => ⟨_, He.frG_in, saysP_of e⟩
  keeps := fun _ _ _ ⟨K, hK, c⟩ k => ⟨K, PySem.W.Frag.In.keeps hK k, c⟩
theorem obsP_eq {n : Nat} {fa : List He.Fa} {fn : List He.DefD} {ex : PySem.W.Frag → Bool} {g : Addr → Option Obj} {s : Shared} (h : ∀ a, g a = s.heap.get? a) : obsP n fa fn ex g = (hookP n fa fn ex).obs s := by
  have e : g = s.heap.get? := funext h
  subst e
  rfl
/-! ### the exceptions of a text -/
theorem xz {Z : Wd} {l : List Str} (h : Z.xn = l) (i : Nat) {x : Str} (e : l[i]? = some x) : Z.xn[i]? = some x := h ▸ e
def clsX (l : List Str) (K : PySem.W.Frag) (j : Nat) : Value := .ref (He.ga K (l.getD j ""))
theorem clsX_at {l : List Str} {K : PySem.W.Frag} {j : Nat} {n : Str} (e : l[j]? = some n) : clsX l K j = .ref (He.ga K n) := by
  unfold clsX
  rw [List.getD_eq_getElem?_getD, e]
  rfl
def tkX (T : List (Nat × Nat × Bool)) : Tk := fun i y => (T.find? fun t => t.1 == i && t.2.1 == y).map (·.2.2)
theorem tkX_at {T : List (Nat × Nat × Bool)} {P : Nat → Nat → Bool → Prop} (h : ∀ t ∈ T, P t.1 t.2.1 t.2.2) {i y : Nat} {k : Bool} (e : tkX T i y = some k) : P i y k := by
  obtain ⟨t, e1, e2⟩ := Option.map_eq_some_iff.mp e
  have m := List.mem_of_find?_eq_some e1
  have b := List.find?_some e1
  simp only [Bool.and_eq_true, beq_iff_eq] at b
  have z := h t m
  rw [b.1, b.2, e2] at z
  exact z
theorem excC_ok {K : PySem.W.Frag} {x : Str} (c : (He.Fa.exc x).ok K = true) : ExcC K (He.ga K x) := by
  obtain ⟨a, b, d, e⟩ := He.exc_ok c
  exact ⟨a, b, d, e⟩
end Py

namespace Py
open PySem PySem.Spec PyProof.Rows L2
@[simp] theorem isD_non : isD .non = false := rfl
@[simp] theorem isD_bl (b : Bool) : isD (.bl b) = false := rfl
@[simp] theorem isD_int (i : Int) : isD (.int i) = false := rfl
@[simp] theorem isD_str (s : Cs) : isD (.str s) = false := rfl
@[simp] theorem isD_tup (l : List W) : isD (.tup l) = false := rfl
@[simp] theorem isD_lst (l : List W) : isD (.lst l) = false := rfl
@[simp] theorem isD_dct (l : List (W × W)) : isD (.dct l) = true := rfl
/-! ### some calls by their values -/
def runO (fs : List FD) (tk : Tk) (g : Nat) (o : Nat → List W → Option CO) (d0 : Nat) : Nat → Fn
  | 0 => run fs tk g d0
  | d + 1 => fun f ws => match o f ws with
    | some r => r
    | none => match fs[f]? with
      | none => .bad
      | some fd => if ws.length = fd.m.length then ofS fd (xs (runO fs tk g o d0 d) tk g fd.b (env0 fd ws)) else .bad
theorem runO_eq {fs : List FD} {tk : Tk} {g : Nat} {o : Nat → List W → Option CO} {d0 : Nat} (h : ∀ d f ws r, o f ws = some r → run fs tk g (d0 + d + 1) f ws = r) : ∀ d, runO fs tk g o d0 d = run fs tk g (d0 + d)
  | 0 => rfl
  | d + 1 => by
    funext f ws
    have ih := runO_eq h d
    show (match o f ws with
      | some r => r
      | none => match fs[f]? with
        | none => CO.bad
        | some fd => if ws.length = fd.m.length then ofS fd (xs (runO fs tk g o d0 d) tk g fd.b (env0 fd ws)) else .bad) = run fs tk g (d0 + d + 1) f ws
    cases e : o f ws with
    | some r => exact (h d f ws r e).symm
    | none => rw [ih]; rfl
theorem run_at {fs : List FD} {tk : Tk} {g d f : Nat} {ws : List W} {fd : FD} (h : fs[f]? = some fd) (hl : ws.length = fd.m.length) : run fs tk g (d + 1) f ws = ofS fd (xs (run fs tk g d) tk g fd.b (env0 fd ws)) := by
  show (match fs[f]? with
    | none => CO.bad
    | some fd => if ws.length = fd.m.length then ofS fd (xs (run fs tk g d) tk g fd.b (env0 fd ws)) else .bad) = _
  rw [h]
  simp only [hl, if_true]

/-! ### the greatest common divisor -/
def S_cm : S := (.seq (.par [0, 1] (.cons (.bi .abs (.cons (.var 0) .nil)) (.cons (.bi .abs (.cons (.var 1) .nil)) .nil))) (.seq (.whl (.var 1) (.seq (.par [0, 1] (.cons (.var 1) (.cons (.op .md (.var 0) (.var 1)) .nil))) .nil)) (.seq (.ret (.var 0)) .nil)))
def FD_cm : FD := ⟨2, [false, false], S_cm⟩
def i2 (a b : Int) : Env := [some (.int a, .sh), some (.int b, .sh)]
theorem absW (a : Int) : (if a < 0 then -a else a) = (a.natAbs : Int) := by split <;> omega
theorem cm_step (C : Fn) (tk : Tk) (g : Nat) (a b : Nat) : xs C tk g (.seq (.par [0, 1] (.cons (.var 1) (.cons (.op .md (.var 0) (.var 1)) .nil))) .nil) (i2 a ((b + 1 : Nat) : Int)) = .nx (i2 ((b + 1 : Nat) : Int) ((a % (b + 1) : Nat) : Int)) := by
  have e : Int.fmod (a : Int) ((b + 1 : Nat) : Int) = ((a % (b + 1) : Nat) : Int) := by
    rw [Int.fmod_eq_emod_of_nonneg _ (by omega)]; rfl
  rw [← e]
  rfl
theorem cm_loop (C : Fn) (tk : Tk) (g : Nat) : ∀ (n a b : Nat), b < n → whlL (ev C (.var 1)).t (xs C tk g (.seq (.par [0, 1] (.cons (.var 1) (.cons (.op .md (.var 0) (.var 1)) .nil))) .nil)) n (i2 a b) = .nx (i2 (Nat.gcd a b) 0)
  | 0, a, b, h => by omega
  | n + 1, a, 0, h => by
    rw [Nat.gcd_zero_right]; rfl
  | n + 1, a, b + 1, h => by
    have h1 : whlL (ev C (.var 1)).t (xs C tk g (.seq (.par [0, 1] (.cons (.var 1) (.cons (.op .md (.var 0) (.var 1)) .nil))) .nil)) (n + 1) (i2 a ((b + 1 : Nat) : Int)) =
      match xs C tk g (.seq (.par [0, 1] (.cons (.var 1) (.cons (.op .md (.var 0) (.var 1)) .nil))) .nil) (i2 a ((b + 1 : Nat) : Int)) with
      | .nx ρ2 => whlL (ev C (.var 1)).t (xs C tk g (.seq (.par [0, 1] (.cons (.var 1) (.cons (.op .md (.var 0) (.var 1)) .nil))) .nil)) n ρ2
      | .ct ρ2 => whlL (ev C (.var 1)).t (xs C tk g (.seq (.par [0, 1] (.cons (.var 1) (.cons (.op .md (.var 0) (.var 1)) .nil))) .nil)) n ρ2
      | .bk ρ2 => .nx ρ2
      | o => o := rfl
    rw [h1, cm_step]
    show whlL _ _ n (i2 ((b + 1 : Nat) : Int) ((a % (b + 1) : Nat) : Int)) = _
    have hb : a % (b + 1) < b + 1 := Nat.mod_lt a (by omega)
    have eg : Nat.gcd (b + 1) (a % (b + 1)) = Nat.gcd a (b + 1) := by rw [Nat.gcd_comm a, Nat.gcd_rec (b + 1) a, Nat.gcd_comm]
    rw [cm_loop C tk g n (b + 1) (a % (b + 1)) (by omega), eg]
theorem cm_ok (C : Fn) (tk : Tk) (g : Nat) (a b : Int) (h : b.natAbs < g) : ofS FD_cm (xs C tk g S_cm (i2 a b)) = .ret (.int (Nat.gcd a.natAbs b.natAbs)) false [] := by
  have e1 : xs C tk g S_cm (i2 a b) = SO.thn (xs C tk g (.whl (.var 1) (.seq (.par [0, 1] (.cons (.var 1) (.cons (.op .md (.var 0) (.var 1)) .nil))) .nil)) (i2 (if a < 0 then -a else a) (if b < 0 then -b else b))) fun ρ => xs C tk g (.seq (.ret (.var 0)) .nil) ρ := rfl
  rw [e1, absW, absW]
  show ofS FD_cm (SO.thn (whlL (ev C (.var 1)).t (xs C tk g (.seq (.par [0, 1] (.cons (.var 1) (.cons (.op .md (.var 0) (.var 1)) .nil))) .nil)) g (i2 a.natAbs b.natAbs)) fun ρ => xs C tk g (.seq (.ret (.var 0)) .nil) ρ) = _
  rw [cm_loop C tk g g _ _ h]
  rfl

/-! ### lowest -/
def S_lw (jc : Nat) : S := (.seq (.asn 2 (.call jc [false, false] (.cons (.var 0) (.cons (.var 1) .nil)))) (.seq (.asn 3 (.ite (.cmp .gt (.var 1) (.con (.int 0))) (.con (.int 1)) (.neg (.con (.int 1))))) (.seq (.ret (.tup (.cons (.op .fdv (.op .mul (.var 3) (.var 0)) (.var 2)) (.cons (.op .fdv (.op .mul (.var 3) (.var 1)) (.var 2)) .nil)))) .nil)))
def FD_lw (jc : Nat) : FD := ⟨4, [false, false], S_lw jc⟩
/-- whole, of at most so many bits -/
def sm (k : Nat) (i : Int) : Bool := i.natAbs.log2 < k
def low (a b : Int) : Int × Int := if 0 < b then (a.fdiv (Nat.gcd a.natAbs b.natAbs), b.fdiv (Nat.gcd a.natAbs b.natAbs)) else ((-a).fdiv (Nat.gcd a.natAbs b.natAbs), (-b).fdiv (Nat.gcd a.natAbs b.natAbs))
def rt (p : Int × Int) : W := .tup [.int p.1, .int p.2]
theorem sm_bits {k : Nat} {i : Int} (h : sm k i = true) : bits i ≤ k + 1 := by
  have h : i.natAbs.log2 < k := of_decide_eq_true h
  unfold bits
  split <;> omega
theorem dvI_ok {i j : Int} (h0 : j ≠ 0) (h : sm 9000 j = true) : opW .fdv (.int i) (.int j) = some (.int (i.fdiv j), false) :=
  if_pos ⟨h0, PyProof.noPylong_of_log2 (of_decide_eq_true h)⟩
theorem mul_ok {i j : Int} (h : sm 100000000 i = true) (h' : sm 10000 j = true) : opW .mul (.int i) (.int j) = some (.int (i * j), false) := by
  have h1 := sm_bits h
  have h2 := sm_bits h'
  exact if_pos (by unfold bitL; omega)
theorem gcd_sm {a b : Int} (hb : b ≠ 0) (h : sm 9000 b = true) : sm 9000 (Nat.gcd a.natAbs b.natAbs : Int) = true ∧ (Nat.gcd a.natAbs b.natAbs : Int) ≠ 0 := by
  have hp : 0 < b.natAbs := by omega
  have h1 : Nat.gcd a.natAbs b.natAbs ≤ b.natAbs := Nat.gcd_le_right _ hp
  have h2 : 0 < Nat.gcd a.natAbs b.natAbs := Nat.gcd_pos_of_pos_right _ hp
  have h : b.natAbs.log2 < 9000 := of_decide_eq_true h
  refine ⟨decide_eq_true ?_, by omega⟩
  show (Nat.gcd a.natAbs b.natAbs).log2 < 9000
  have hlt := (Nat.log2_lt (by omega)).mp h
  exact (Nat.log2_lt (by omega)).mpr (Nat.lt_of_le_of_lt h1 hlt)
theorem lw_ok (C : Fn) (tk : Tk) (g jc : Nat) (a b : Int) (hb : b ≠ 0) (ha : sm 9000 a = true) (hs : sm 9000 b = true) (hC : C jc [.int a, .int b] = .ret (.int (Nat.gcd a.natAbs b.natAbs)) false []) :
    ofS (FD_lw jc) (xs C tk g (S_lw jc) [some (.int a, .sh), some (.int b, .sh), none, none]) = .ret (rt (low a b)) false [] := by
  have w : ∀ {k m : Nat} {i : Int}, sm k i = true → k ≤ m → sm m i = true := fun {k m i} h hk => decide_eq_true (Nat.lt_of_lt_of_le (of_decide_eq_true h) hk)
  obtain ⟨h1, h2⟩ := gcd_sm (a := a) hb (w hs (by decide))
  have m1 : ∀ z : Int, sm 9000 z = true → opW .mul (.int 1) (.int z) = some (.int (1 * z), false) := fun z hz => mul_ok (by decide) (w hz (by decide))
  have m2 : ∀ z : Int, sm 9000 z = true → opW .mul (.int (-1)) (.int z) = some (.int (-1 * z), false) := fun z hz => mul_ok (by decide) (w hz (by decide))
  have d1 : ∀ z : Int, opW .fdv (.int z) (.int (Nat.gcd a.natAbs b.natAbs)) = some (.int (z.fdiv (Nat.gcd a.natAbs b.natAbs)), false) := fun z => dvI_ok h2 h1
  unfold low
  by_cases hp : 0 < b
  · have c1 : cmpW .gt (.int b) (.int 0) = some true := by show some (decide (0 < b)) = _; rw [decide_eq_true hp]
    simp [S_lw, xs, ev, SO.thn, hC, callW, shM, ioW, ioB, shr, wOf, ofE, asA, setN, l2, l1, res, ofO, bW, c1, trO, truth, m1, m2, d1, ha, hs, hp, shrs, szL, retA, ofS, FD_lw, ioE, rt]
  · have c1 : cmpW .gt (.int b) (.int 0) = some false := by show some (decide (0 < b)) = _; rw [decide_eq_false hp]
    simp [S_lw, xs, ev, SO.thn, hC, callW, shM, ioW, ioB, shr, wOf, ofE, asA, setN, l2, l1, res, ofO, bW, c1, trO, truth, m1, m2, d1, ha, hs, hp, shrs, szL, retA, ofS, FD_lw, ioE, rt]

/-! ### the law's own lowest -/
def S_lwB : S := (.seq (.par [2, 3] (.cons (.var 3) (.cons (.op .sub (.var 2) (.op .mul (.var 3) (.op .fdv (.var 2) (.var 3)))) .nil))) .nil)
def S_lwl : S := (.seq (.par [2, 3] (.cons (.bi .abs (.cons (.var 0) .nil)) (.cons (.bi .abs (.cons (.var 1) .nil)) .nil))) (.seq (.whl (.cmp .ne (.var 3) (.con (.int 0))) S_lwB) (.seq (.ret (.ite (.cmp .gt (.var 1) (.con (.int 0))) (.tup (.cons (.op .fdv (.var 0) (.var 2)) (.cons (.op .fdv (.var 1) (.var 2)) .nil))) (.tup (.cons (.op .fdv (.neg (.var 0)) (.var 2)) (.cons (.op .fdv (.neg (.var 1)) (.var 2)) .nil))))) .nil)))
def FD_lwl : FD := ⟨4, [false, false], S_lwl⟩
def i4 (a b c d : Int) : Env := [some (.int a, .sh), some (.int b, .sh), some (.int c, .sh), some (.int d, .sh)]
theorem sm_le {k : Nat} {a b : Nat} (h : sm k (a : Int) = true) (hb : b ≤ a) (hk : 0 < k) : sm k (b : Int) = true := by
  have h : a.log2 < k := of_decide_eq_true h
  refine decide_eq_true ?_
  show b.log2 < k
  by_cases h0 : b = 0
  · subst h0; simpa using hk
  · have := (Nat.log2_lt (by omega)).mp h
    exact (Nat.log2_lt h0).mpr (Nat.lt_of_le_of_lt hb this)
theorem sm_up {k m : Nat} {i : Int} (h : sm k i = true) (hk : k ≤ m) : sm m i = true := decide_eq_true (Nat.lt_of_lt_of_le (of_decide_eq_true h) hk)
theorem lwl_step (C : Fn) (tk : Tk) (g : Nat) (a b : Int) (c d : Nat) (h1 : sm 9000 c = true) (h2 : sm 9000 ((d + 1 : Nat) : Int) = true) : xs C tk g S_lwB (i4 a b c ((d + 1 : Nat) : Int)) = .nx (i4 a b ((d + 1 : Nat) : Int) ((c % (d + 1) : Nat) : Int)) := by
  have e0 : Int.fdiv (c : Int) ((d + 1 : Nat) : Int) = ((c / (d + 1) : Nat) : Int) := by
    rw [Int.fdiv_eq_ediv_of_nonneg _ (by omega)]; rfl
  have e1 : opW .fdv (.int c) (.int ((d + 1 : Nat) : Int)) = some (.int ((c / (d + 1) : Nat) : Int), false) := by
    rw [← e0]; exact dvI_ok (by omega) (sm_up h2 (by decide))
  have e2 : opW .mul (.int ((d + 1 : Nat) : Int)) (.int ((c / (d + 1) : Nat) : Int)) = some (.int (((d + 1 : Nat) : Int) * ((c / (d + 1) : Nat) : Int)), false) :=
    mul_ok (sm_up h2 (by decide)) (sm_up (sm_le h1 (Nat.div_le_self _ _) (by decide)) (by decide))
  have e3 : (c : Int) - ((d + 1 : Nat) : Int) * ((c / (d + 1) : Nat) : Int) = ((c % (d + 1) : Nat) : Int) := by
    have := Nat.div_add_mod c (d + 1)
    have h := congrArg (Nat.cast : Nat → Int) this
    rw [Int.natCast_add, Int.natCast_mul] at h
    omega
  have e4 : opW .sub (.int c) (.int (((d + 1 : Nat) : Int) * ((c / (d + 1) : Nat) : Int))) = some (.int ((c % (d + 1) : Nat) : Int), false) := by rw [← e3]; rfl
  have s : xs C tk g S_lwB (i4 a b c ((d + 1 : Nat) : Int)) = SO.thn (SO.bnd (((ofO (opW .fdv (.int c) (.int ((d + 1 : Nat) : Int))) (i4 a b c ((d + 1 : Nat) : Int))).bind fun v ρ2 => l2 (opW .mul) (.slot 3) v ρ2).bind fun v ρ2 => (l2 (opW .sub) (.slot 2) v ρ2).bind fun u ρ3 => Out.ok [.slot 3, u] ρ3) fun as ρ1 => match fixA ρ1 as with
    | some (as', ρ2) => ofE (asAs [2, 3] as' ρ2)
    | none => .bad) fun ρ1 => .nx ρ1 := by
    show SO.thn (SO.bnd _ _) _ = _
    simp [ev, Out.bind, l2, res, wOf, i4]
    cases opW .fdv (.int c) (.int ((d : Int) + 1)) with
    | none => rfl
    | some q =>
      obtain ⟨q1, q2⟩ := q
      simp [ofO]
      cases opW .mul (.int ((d : Int) + 1)) q1 with
      | none => rfl
      | some q =>
        obtain ⟨q1, q2⟩ := q
        simp
        cases opW .sub (.int c) q1 <;> rfl
  rw [s, e1]
  show SO.thn (SO.bnd ((((ofO (opW .mul (.int ((d + 1 : Nat) : Int)) (.int ((c / (d + 1) : Nat) : Int))) (i4 a b c ((d + 1 : Nat) : Int)))).bind fun v ρ2 => (l2 (opW .sub) (.slot 2) v ρ2).bind fun u ρ3 => Out.ok [.slot 3, u] ρ3)) _) _ = _
  rw [e2]
  show SO.thn (SO.bnd ((ofO (opW .sub (.int c) (.int (((d + 1 : Nat) : Int) * ((c / (d + 1) : Nat) : Int)))) (i4 a b c ((d + 1 : Nat) : Int))).bind fun u ρ3 => Out.ok [.slot 3, u] ρ3) _) _ = _
  rw [e4]
  rfl

theorem lwl_loop (C : Fn) (tk : Tk) (g : Nat) (a b : Int) : ∀ (n c d : Nat), d < n → sm 9000 c = true → sm 9000 d = true → whlL (ev C (.cmp .ne (.var 3) (.con (.int 0)))).t (xs C tk g S_lwB) n (i4 a b c d) = .nx (i4 a b (Nat.gcd c d) 0)
  | 0, c, d, h, _, _ => by omega
  | n + 1, c, 0, h, _, _ => by
    rw [Nat.gcd_zero_right]; rfl
  | n + 1, c, d + 1, h, h1, h2 => by
    have e1 : whlL (ev C (.cmp .ne (.var 3) (.con (.int 0)))).t (xs C tk g S_lwB) (n + 1) (i4 a b c ((d + 1 : Nat) : Int)) =
      match xs C tk g S_lwB (i4 a b c ((d + 1 : Nat) : Int)) with
      | .nx ρ2 => whlL (ev C (.cmp .ne (.var 3) (.con (.int 0)))).t (xs C tk g S_lwB) n ρ2
      | .ct ρ2 => whlL (ev C (.cmp .ne (.var 3) (.con (.int 0)))).t (xs C tk g S_lwB) n ρ2
      | .bk ρ2 => .nx ρ2
      | o => o := rfl
    rw [e1, lwl_step C tk g a b c d h1 h2]
    have hb : c % (d + 1) < d + 1 := Nat.mod_lt c (by omega)
    show whlL _ _ n (i4 a b ((d + 1 : Nat) : Int) ((c % (d + 1) : Nat) : Int)) = _
    have eg : Nat.gcd (d + 1) (c % (d + 1)) = Nat.gcd c (d + 1) := by rw [Nat.gcd_comm c, Nat.gcd_rec (d + 1) c, Nat.gcd_comm]
    rw [lwl_loop C tk g a b n (d + 1) (c % (d + 1)) (by omega) h2 (sm_le h2 (by omega) (by decide)), eg]
theorem sm_abs {k : Nat} {a : Int} (h : sm k a = true) : sm k (a.natAbs : Int) = true := h
theorem sm_lt {k : Nat} {a : Int} (h : sm k a = true) : a.natAbs < 2 ^ k := by
  have h : a.natAbs.log2 < k := of_decide_eq_true h
  by_cases h0 : a.natAbs = 0
  · rw [h0]; exact Nat.two_pow_pos k
  · exact (Nat.log2_lt h0).mp h
theorem lwl_ok (C : Fn) (tk : Tk) (g : Nat) (a b : Int) (hb : b ≠ 0) (ha : sm 9000 a = true) (hs : sm 9000 b = true) (hg : 2 ^ 9000 ≤ g) :
    ofS FD_lwl (xs C tk g S_lwl [some (.int a, .sh), some (.int b, .sh), none, none]) = .ret (rt (low a b)) false [] := by
  obtain ⟨h1, h2⟩ := gcd_sm (a := a) hb (sm_up hs (by decide))
  have d1 : ∀ z : Int, opW .fdv (.int z) (.int (Nat.gcd a.natAbs b.natAbs)) = some (.int (z.fdiv (Nat.gcd a.natAbs b.natAbs)), false) := fun z => dvI_ok h2 h1
  have e1 : xs C tk g S_lwl [some (.int a, .sh), some (.int b, .sh), none, none] = SO.thn (whlL (ev C (.cmp .ne (.var 3) (.con (.int 0)))).t (xs C tk g S_lwB) g (i4 a b (if a < 0 then -a else a) (if b < 0 then -b else b))) fun ρ => xs C tk g (.seq (.ret (.ite (.cmp .gt (.var 1) (.con (.int 0))) (.tup (.cons (.op .fdv (.var 0) (.var 2)) (.cons (.op .fdv (.var 1) (.var 2)) .nil))) (.tup (.cons (.op .fdv (.neg (.var 0)) (.var 2)) (.cons (.op .fdv (.neg (.var 1)) (.var 2)) .nil))))) .nil) ρ := rfl
  rw [e1, absW, absW, lwl_loop C tk g a b g _ _ (by have := sm_lt hs; omega) (sm_abs ha) (sm_abs hs)]
  unfold low
  by_cases hp : 0 < b
  · have c1 : cmpW .gt (.int b) (.int 0) = some true := by show some (decide (0 < b)) = _; rw [decide_eq_true hp]
    simp [xs, ev, SO.thn, i4, wOf, l2, l1, res, ofO, bW, c1, trO, truth, d1, hp, shrs, shr, szL, retA, ofS, FD_lwl, ioE, rt]
  · have c1 : cmpW .gt (.int b) (.int 0) = some false := by show some (decide (0 < b)) = _; rw [decide_eq_false hp]
    simp [xs, ev, SO.thn, i4, wOf, l2, l1, res, ofO, bW, c1, trO, truth, d1, hp, shrs, shr, szL, retA, ofS, FD_lwl, ioE, rt]

/-- lowest by its value -/
def oR (js : List Nat) (f : Nat) (ws : List W) : Option CO := if js.contains f then (match ws with
  | [.int a, .int b] => if b ≠ 0 ∧ (sm 9000 a && sm 9000 b) = true then some (.ret (rt (low a b)) false []) else none
  | _ => none) else none
end Py

namespace Py
open PySem PySem.Spec PyProof.Rows L2
/-! ### the law's draws -/
def dV (cs : List Int) (i v sd : Int) : W := .lst [.lst (cs.map W.int), .int i, .int v, .int sd]
/-- a row of draws as it stands -/
def DW (w : W) : Prop := ∃ cs i v sd, w = dV cs i v sd ∧ -1 ≤ i ∧ 0 ≤ sd ∧ sd < 2147483647
def S_tkT : S := (.seq (.asn 2 (.op .md (.bi .int (.cons (.ix (.var 0) (.con (.int 2))) .nil)) (.var 1))) (.seq (.six 0 (.con (.int 2)) (.op .fdv (.ix (.var 0) (.con (.int 2))) (.var 1))) (.seq (.ret (.var 2)) .nil)))
def S_tk1 : S := (.seq (.six 0 (.con (.int 3)) (.op .md (.bi .int (.cons (.op .add (.op .mul (.ix (.var 0) (.con (.int 3))) (.con (.int 48271))) (.con (.int 11))) .nil)) (.con (.int 2147483647)))) (.seq (.six 0 (.con (.int 2)) (.ix (.var 0) (.con (.int 3)))) .nil))
def S_tk2 : S := (.seq (.ite (.cmp .eq (.ix (.var 0) (.con (.int 2))) (.con (.int 0))) S_tk1 .nil) .nil)
def S_tk3 : S := (.seq (.six 0 (.con (.int 1)) (.op .add (.ix (.var 0) (.con (.int 1))) (.con (.int 1)))) (.seq (.ite (.cmp .lt (.ix (.var 0) (.con (.int 1))) (.bi .len (.cons (.ix (.var 0) (.con (.int 0))) .nil))) (.seq (.six 0 (.con (.int 2)) (.ix (.ix (.var 0) (.con (.int 0))) (.ix (.var 0) (.con (.int 1))))) .nil) .nil) S_tk2))
def S_tk : S := (.seq (.ite (.cmp .eq (.ix (.var 0) (.con (.int 2))) (.con (.int 0))) S_tk3 .nil) S_tkT)
def FD_tk : FD := ⟨3, [true, false], S_tk⟩
def tE (w : W) (m : Int) : Env := [some (w, .io), some (.int m, .sh), none]
theorem ix0 (a b c d : W) : ixW (.lst [a, b, c, d]) (.int 0) = some (a, false) := rfl
theorem ix1 (a b c d : W) : ixW (.lst [a, b, c, d]) (.int 1) = some (b, false) := rfl
theorem ix2 (a b c d : W) : ixW (.lst [a, b, c, d]) (.int 2) = some (c, false) := rfl
theorem ix3 (a b c d : W) : ixW (.lst [a, b, c, d]) (.int 3) = some (d, false) := rfl
theorem put1 (a b c d v : W) : putW (.lst [a, b, c, d]) (.int 1) v = some (.lst [a, v, c, d]) := rfl
theorem put2 (a b c d v : W) : putW (.lst [a, b, c, d]) (.int 2) v = some (.lst [a, b, v, d]) := rfl
theorem put3 (a b c d v : W) : putW (.lst [a, b, c, d]) (.int 3) v = some (.lst [a, b, c, v]) := rfl
theorem md_ok {i j : Int} (h : j ≠ 0) : opW .md (.int i) (.int j) = some (.int (i.fmod j), false) := if_neg h
theorem eqI (i j : Int) : cmpW .eq (.int i) (.int j) = some (decide (i = j)) := by
  show (if eqOk (.int i) (.int j) then some (eqW (.int i) (.int j)) else none) = _
  rw [if_pos (show eqOk (.int i) (.int j) = true from rfl)]
  show some (i == j) = _
  congr 1
theorem tkT_ok (C : Fn) (tk : Tk) (g : Nat) (cs : List Int) (i v sd m : Int) (hm : 0 < m) (hs : sm 9000 m = true) : xs C tk g S_tkT (tE (dV cs i v sd) m) = .rt (.int (v.fmod m)) false [some (dV cs i (v.fdiv m) sd, .io), some (.int m, .sh), some (.int (v.fmod m), .sh)] := by
  have h1 : opW .md (.int v) (.int m) = some (.int (v.fmod m), false) := md_ok (by omega)
  have h2 : opW .fdv (.int v) (.int m) = some (.int (v.fdiv m), false) := dvI_ok (by omega) hs
  have h3 : biW .int [.int v] = some (.int v, false) := rfl
  simp [S_tkT, xs, ev, SO.thn, tE, dV, wOf, l2, lL, ress, res, ofO, h1, h2, h3, ix2, put2, ofE, asA, setN, sixE, shr, retA]
theorem tk1_ok (C : Fn) (tk : Tk) (g : Nat) (cs : List Int) (i v sd m : Int) (h0 : 0 ≤ sd) (hsd : sd < 2147483647) : ∃ sd', 0 ≤ sd' ∧ sd' < 2147483647 ∧ xs C tk g S_tk1 (tE (dV cs i v sd) m) = .nx (tE (dV cs i sd' sd') m) := by
  have h1 : opW .mul (.int sd) (.int 48271) = some (.int (sd * 48271), false) := by
    refine mul_ok (decide_eq_true ?_) (by decide)
    by_cases h : sd.natAbs = 0
    · rw [h]; decide
    · have : sd.natAbs.log2 < 31 := (Nat.log2_lt h).mpr (by omega)
      omega
  have h2 : opW .add (.int (sd * 48271)) (.int 11) = some (.int (sd * 48271 + 11), false) := rfl
  have h3 : biW .int [.int (sd * 48271 + 11)] = some (.int (sd * 48271 + 11), false) := rfl
  have h4 : opW .md (.int (sd * 48271 + 11)) (.int 2147483647) = some (.int ((sd * 48271 + 11).fmod 2147483647), false) := md_ok (by decide)
  refine ⟨(sd * 48271 + 11).fmod 2147483647, Int.fmod_nonneg_of_pos _ (by decide), Int.fmod_lt_of_pos _ (by decide), ?_⟩
  simp [S_tk1, xs, ev, SO.thn, tE, dV, wOf, l2, lL, ress, res, ofO, h1, h2, h3, h4, ix3, put2, put3, ofE, sixE, shr]
theorem tk2_ok (C : Fn) (tk : Tk) (g : Nat) (cs : List Int) (i v sd m : Int) (h0 : 0 ≤ sd) (hsd : sd < 2147483647) : ∃ v' sd', 0 ≤ sd' ∧ sd' < 2147483647 ∧ xs C tk g S_tk2 (tE (dV cs i v sd) m) = .nx (tE (dV cs i v' sd') m) := by
  obtain ⟨sd', a, b, e⟩ := tk1_ok C tk g cs i v sd m h0 hsd
  by_cases hv : v = 0
  · refine ⟨sd', sd', a, b, ?_⟩
    have h1 : cmpW .eq (.int v) (.int 0) = some true := by rw [eqI, decide_eq_true hv]
    have h2 : (ev C (.cmp .eq (.ix (.var 0) (.con (.int 2))) (.con (.int 0)))).t (tE (dV cs i v sd) m) = .ok true (tE (dV cs i v sd) m) := by
      simp [ev, tE, dV, wOf, l2, res, ofO, bW, h1, ix2, trO, truth]
    show SO.thn (SO.bnd ((ev C (.cmp .eq (.ix (.var 0) (.con (.int 2))) (.con (.int 0)))).t (tE (dV cs i v sd) m)) fun k ρ1 => if k then xs C tk g S_tk1 ρ1 else .nx ρ1) (fun ρ => .nx ρ) = _
    rw [h2]
    simp [SO.thn, e]
  · refine ⟨v, sd, h0, hsd, ?_⟩
    have h1 : cmpW .eq (.int v) (.int 0) = some false := by rw [eqI, decide_eq_false hv]
    have h2 : (ev C (.cmp .eq (.ix (.var 0) (.con (.int 2))) (.con (.int 0)))).t (tE (dV cs i v sd) m) = .ok false (tE (dV cs i v sd) m) := by
      simp [ev, tE, dV, wOf, l2, res, ofO, bW, h1, ix2, trO, truth]
    show SO.thn (SO.bnd ((ev C (.cmp .eq (.ix (.var 0) (.con (.int 2))) (.con (.int 0)))).t (tE (dV cs i v sd) m)) fun k ρ1 => if k then xs C tk g S_tk1 ρ1 else .nx ρ1) (fun ρ => .nx ρ) = _
    rw [h2]
    simp [SO.thn]
theorem at_map {cs : List Int} {j : Int} (h0 : 0 ≤ j) (h : j < cs.length) : ∃ z, ixW (.lst (cs.map W.int)) (.int j) = some (.int z, false) := by
  have e : L2.ixN (cs.map W.int).length j = some j.toNat := by
    unfold L2.ixN
    rw [List.length_map]
    split <;> rename_i q <;> first | rfl | (split <;> first | rfl | omega) | omega
  refine ⟨cs[j.toNat]'(by omega), ?_⟩
  show (L2.atI (cs.map W.int) j).map _ = _
  unfold L2.atI
  rw [e]
  simp
theorem tk3_ok (C : Fn) (tk : Tk) (g : Nat) (cs : List Int) (i v sd m : Int) (hi : -1 ≤ i) (h0 : 0 ≤ sd) (hsd : sd < 2147483647) : ∃ i' v' sd', -1 ≤ i' ∧ 0 ≤ sd' ∧ sd' < 2147483647 ∧ xs C tk g S_tk3 (tE (dV cs i v sd) m) = .nx (tE (dV cs i' v' sd') m) := by
  have a1 : opW .add (.int i) (.int 1) = some (.int (i + 1), false) := rfl
  have l1 : biW .len [.lst (cs.map W.int)] = some (.int cs.length, false) := by
    show some (W.int ((cs.map W.int).length : Nat), false) = _
    rw [List.length_map]
  by_cases hc : i + 1 < cs.length
  · have c1 : cmpW .lt (.int (i + 1)) (.int cs.length) = some true := by
      show some (decide _) = _; rw [decide_eq_true hc]
    obtain ⟨z, hz⟩ := at_map (cs := cs) (j := i + 1) (by omega) hc
    obtain ⟨v', sd', b1, b2, e⟩ := tk2_ok C tk g cs (i + 1) z sd m h0 hsd
    refine ⟨i + 1, v', sd', by omega, b1, b2, ?_⟩
    rw [← e]
    simp [S_tk3, xs, ev, SO.thn, tE, dV, wOf, l2, l1, lL, ress, res, ofO, a1, ix0, ix1, put1, put2, hz, c1, bW, trO, truth, ofE, sixE, shr]
  · have c1 : cmpW .lt (.int (i + 1)) (.int cs.length) = some false := by
      show some (decide _) = _; rw [decide_eq_false hc]
    obtain ⟨v', sd', b1, b2, e⟩ := tk2_ok C tk g cs (i + 1) v sd m h0 hsd
    refine ⟨i + 1, v', sd', by omega, b1, b2, ?_⟩
    rw [← e]
    simp [S_tk3, xs, ev, SO.thn, tE, dV, wOf, l2, l1, lL, ress, res, ofO, a1, ix0, ix1, put1, put2, c1, bW, trO, truth, ofE, sixE, shr]
theorem tk_ok (C : Fn) (tk : Tk) (g : Nat) {w : W} (hw : DW w) {m : Int} (hm : 0 < m) (hs : sm 9000 m = true) : ∃ r w', 0 ≤ r ∧ r < m ∧ DW w' ∧ ofS FD_tk (xs C tk g S_tk (tE w m)) = .ret (.int r) false [w'] := by
  obtain ⟨cs, i, v, sd, rfl, hi, h0, hsd⟩ := hw
  have fin : ∀ i v sd, -1 ≤ i → 0 ≤ sd → sd < 2147483647 → (xs C tk g S_tk (tE (dV cs i v sd) m) = xs C tk g S_tk (tE (dV cs i v sd) m)) → ∃ r w', 0 ≤ r ∧ r < m ∧ DW w' ∧ ofS FD_tk (xs C tk g S_tkT (tE (dV cs i v sd) m)) = .ret (.int r) false [w'] := fun i v sd a b c _ => by
    refine ⟨v.fmod m, dV cs i (v.fdiv m) sd, Int.fmod_nonneg_of_pos _ hm, Int.fmod_lt_of_pos _ hm, ⟨cs, i, _, sd, rfl, a, b, c⟩, ?_⟩
    rw [tkT_ok C tk g cs i v sd m hm hs]
    rfl
  by_cases hv : v = 0
  · have h1 : cmpW .eq (.int v) (.int 0) = some true := by rw [eqI, decide_eq_true hv]
    have h2 : (ev C (.cmp .eq (.ix (.var 0) (.con (.int 2))) (.con (.int 0)))).t (tE (dV cs i v sd) m) = .ok true (tE (dV cs i v sd) m) := by
      simp [ev, tE, dV, wOf, l2, res, ofO, bW, h1, ix2, trO, truth]
    obtain ⟨i', v', sd', b1, b2, b3, e⟩ := tk3_ok C tk g cs i v sd m hi h0 hsd
    have : xs C tk g S_tk (tE (dV cs i v sd) m) = xs C tk g S_tkT (tE (dV cs i' v' sd') m) := by
      show SO.thn (SO.bnd ((ev C (.cmp .eq (.ix (.var 0) (.con (.int 2))) (.con (.int 0)))).t (tE (dV cs i v sd) m)) fun k ρ1 => if k then xs C tk g S_tk3 ρ1 else .nx ρ1) (fun ρ => xs C tk g S_tkT ρ) = _
      rw [h2]
      simp [SO.thn, e]
    rw [this]
    exact fin i' v' sd' b1 b2 b3 rfl
  · have h1 : cmpW .eq (.int v) (.int 0) = some false := by rw [eqI, decide_eq_false hv]
    have h2 : (ev C (.cmp .eq (.ix (.var 0) (.con (.int 2))) (.con (.int 0)))).t (tE (dV cs i v sd) m) = .ok false (tE (dV cs i v sd) m) := by
      simp [ev, tE, dV, wOf, l2, res, ofO, bW, h1, ix2, trO, truth]
    have : xs C tk g S_tk (tE (dV cs i v sd) m) = xs C tk g S_tkT (tE (dV cs i v sd) m) := by
      show SO.thn (SO.bnd ((ev C (.cmp .eq (.ix (.var 0) (.con (.int 2))) (.con (.int 0)))).t (tE (dV cs i v sd) m)) fun k ρ1 => if k then xs C tk g S_tk3 ρ1 else .nx ρ1) (fun ρ => xs C tk g S_tkT ρ) = _
      rw [h2]
      simp [SO.thn]
    rw [this]
    exact fin i v sd hi h0 hsd rfl

/-! ### the draws' start -/
def S_drB : S := (.seq (.asn 1 (.op .md (.bi .int (.cons (.op .add (.op .add (.op .mul (.var 1) (.con (.int 48271))) (.op .md (.bi .abs (.cons (.bi .int (.cons (.var 2) .nil)) .nil)) (.con (.int 65521)))) (.con (.int 1))) .nil)) (.con (.int 2147483647)))) .nil)
def E_drC : E := (.lc (.bi .abs (.cons (.bi .int (.cons (.var 2) .nil)) .nil)) (.n 2) .nil .seq (.cons (.var 0) .nil) [2])
def S_dr : S := (.seq (.asn 1 (.con (.int 7))) (.seq (.for_ (.n 2) .seq (.cons (.var 0) .nil) S_drB) (.seq (.ret (.lst (.cons E_drC (.cons (.neg (.con (.int 1))) (.cons (.con (.int 0)) (.cons (.var 1) .nil)))))) .nil)))
def FD_dr : FD := ⟨3, [false], S_dr⟩
def dE (w : W) (sd : Int) (x : Option (W × Fl)) : Env := [some (w, .sh), some (.int sd, .sh), x]
def plainS : Option (W × Fl) → Bool
  | none => true
  | some (_, .sh) => true
  | _ => false
theorem drB_ok (C : Fn) (tk : Tk) (g : Nat) (w : W) (sd z : Int) (x : Option (W × Fl)) (hx : plainS x = true) (h0 : 0 ≤ sd) (hsd : sd < 2147483647) : ∃ sd', 0 ≤ sd' ∧ sd' < 2147483647 ∧ (match asP (.n 2) (.int z) (dE w sd x) with
    | none => SO.bad
    | some ρ1 => xs C tk g S_drB ρ1) = .nx (dE w sd' (some (.int z, .sh))) := by
  have e0 : asP (.n 2) (.int z) (dE w sd x) = some (dE w sd (some (.int z, .sh))) := by
    cases x with
    | none => rfl
    | some y => obtain ⟨u, f⟩ := y; cases f <;> first | rfl | cases hx
  have h1 : opW .mul (.int sd) (.int 48271) = some (.int (sd * 48271), false) := by
    refine mul_ok (decide_eq_true ?_) (by decide)
    by_cases h : sd.natAbs = 0
    · rw [h]; decide
    · have : sd.natAbs.log2 < 31 := (Nat.log2_lt h).mpr (by omega)
      omega
  have h3 : ∀ n : Int, biW .int [.int n] = some (.int n, false) := fun _ => rfl
  have h5 : biW .abs [.int z] = some (.int (if z < 0 then -z else z), false) := rfl
  have h4 : ∀ n k : Int, k ≠ 0 → opW .md (.int n) (.int k) = some (.int (n.fmod k), false) := fun n k => md_ok
  have h2 : ∀ n k : Int, opW .add (.int n) (.int k) = some (.int (n + k), false) := fun _ _ => rfl
  refine ⟨(sd * 48271 + (if z < 0 then -z else z).fmod 65521 + 1).fmod 2147483647, Int.fmod_nonneg_of_pos _ (by decide), Int.fmod_lt_of_pos _ (by decide), ?_⟩
  rw [e0]
  simp [S_drB, xs, ev, SO.thn, dE, wOf, l2, lL, ress, res, ofO, h1, h2, h3, h4, h5, ofE, asA, setN]
theorem dr_loop (C : Fn) (tk : Tk) (g : Nat) (w : W) : ∀ (ns : List Int) (sd : Int) (x : Option (W × Fl)), plainS x = true → 0 ≤ sd → sd < 2147483647 → ∃ sd' x', plainS x' = true ∧ 0 ≤ sd' ∧ sd' < 2147483647 ∧ forL (fun w ρ => match asP (.n 2) w ρ with
    | none => SO.bad
    | some ρ1 => xs C tk g S_drB ρ1) (ns.map W.int) (dE w sd x) = .nx (dE w sd' x')
  | [], sd, x, hx, h0, h1 => ⟨sd, x, hx, h0, h1, rfl⟩
  | z :: ns, sd, x, hx, h0, h1 => by
    obtain ⟨sd1, a, b, e⟩ := drB_ok C tk g w sd z x hx h0 h1
    obtain ⟨sd2, x2, c1, c2, c3, e2⟩ := dr_loop C tk g w ns sd1 (some (.int z, .sh)) rfl a b
    refine ⟨sd2, x2, c1, c2, c3, ?_⟩
    rw [← e2]
    simp only [List.map_cons, forL]
    rw [e]
theorem dr_comp (C : Fn) (w : W) (sd : Int) : ∀ (ns : List Int) (acc : List W) (x : Option (W × Fl)), ∃ x', lcL (stepE [2] (.n 2) (ev C .nil).t (ev C (.bi .abs (.cons (.bi .int (.cons (.var 2) .nil)) .nil))).x) (ns.map W.int) acc (dE w sd x) = .ok (acc ++ (ns.map fun z => if z < 0 then -z else z).map W.int) (dE w sd x')
  | [], acc, x => ⟨x, by simp [lcL]⟩
  | z :: ns, acc, x => by
    have e : stepE [2] (.n 2) (ev C .nil).t (ev C (.bi .abs (.cons (.bi .int (.cons (.var 2) .nil)) .nil))).x (.int z) (dE w sd x) = .ok (some (.int (if z < 0 then -z else z))) (dE w sd (some (.int z, .sh))) := rfl
    obtain ⟨x', e2⟩ := dr_comp C w sd ns (acc ++ [.int (if z < 0 then -z else z)]) (some (.int z, .sh))
    refine ⟨x', ?_⟩
    simp only [List.map_cons, lcL, e]
    rw [e2]
    simp
theorem dr_ok (C : Fn) (tk : Tk) (g : Nat) {ns : List Int} (hz : ns.length ≤ 63) : ∃ w, DW w ∧ ofS FD_dr (xs C tk g S_dr [some (.lst (ns.map W.int), .sh), none, none]) = .ret w true [] := by
  obtain ⟨sd, x, hx, h0, h1, e⟩ := dr_loop C tk g (.lst (ns.map W.int)) ns 7 none rfl (by decide) (by decide)
  obtain ⟨x', e2⟩ := dr_comp C (.lst (ns.map W.int)) sd ns [] x
  have hl : (ns.map W.int).length ≤ szL := by rw [List.length_map]; exact Nat.le_trans hz (by decide)
  have e3 : xs C tk g S_dr [some (.lst (ns.map W.int), .sh), none, none] = SO.thn ((forL (fun w ρ => match asP (.n 2) w ρ with
    | none => SO.bad
    | some ρ1 => xs C tk g S_drB ρ1) (ns.map W.int) (dE (.lst (ns.map W.int)) 7 none)).mapE fun ρ => ρ) fun ρ => xs C tk g (.seq (.ret (.lst (.cons E_drC (.cons (.neg (.con (.int 1))) (.cons (.con (.int 0)) (.cons (.var 1) .nil)))))) .nil) ρ := rfl
  have e4 : (ev C E_drC).x (dE (.lst (ns.map W.int)) sd x) = .ok (.val (.lst ((ns.map fun z => if z < 0 then -z else z).map W.int)) true) (dE (.lst (ns.map W.int)) sd x) := by
    show (match lcL (stepE [2] (.n 2) (ev C .nil).t (ev C (.bi .abs (.cons (.bi .int (.cons (.var 2) .nil)) .nil))).x) (ns.map W.int) [] (dE (.lst (ns.map W.int)) sd x) with
        | .ok acc ρ3 => if (ns.map W.int).length ≤ szL then Out.ok (Arg.val (.lst acc) true) (ulE (dE (.lst (ns.map W.int)) sd x) (rsE (dE (.lst (ns.map W.int)) sd x) ρ3 [2]) [.slot 0]) else .bad
        | _ => .bad) = _
    rw [e2]
    simp only [if_pos hl]
    rfl
  refine ⟨dV (ns.map fun z => if z < 0 then -z else z) (-1) 0 sd, ⟨_, -1, 0, sd, rfl, by decide, h0, h1⟩, ?_⟩
  rw [e3, e]
  show ofS FD_dr (SO.thn (SO.bnd ((((ev C E_drC).x (dE (.lst (ns.map W.int)) sd x)).bind fun u ρ1 => ((ev C (.cons (.neg (.con (.int 1))) (.cons (.con (.int 0)) (.cons (.var 1) .nil)))).a ρ1).bind fun us ρ2 => Out.ok (u :: us) ρ2).bind fun us ρ1 => match shrs ρ1 us with
      | some (ws, ρ2) => if ws.length ≤ szL then .ok (.val (.lst ws) true) ρ2 else .bad
      | none => .bad) fun a ρ1 => retA a ρ1) fun ρ => .nx ρ) = _
  rw [e4]
  rfl
end Py

namespace Py
open PySem PySem.Spec PyProof.Rows L2
/-! ### sums of ratios -/
def S_pl (jl : Nat) : S := (.seq (.ret (.call jl [false, false] (.cons (.op .add (.op .mul (.ix (.var 0) (.con (.int 0))) (.ix (.var 1) (.con (.int 1)))) (.op .mul (.ix (.var 1) (.con (.int 0))) (.ix (.var 0) (.con (.int 1))))) (.cons (.op .mul (.ix (.var 0) (.con (.int 1))) (.ix (.var 1) (.con (.int 1)))) .nil)))) .nil)
def FD_pl (jl : Nat) : FD := ⟨2, [false, false], S_pl jl⟩
def rpl (p q : Int × Int) : Int × Int := low (p.1 * q.2 + q.1 * p.2) (p.2 * q.2)
def gR (p : Int × Int) : Bool := sm 4490 p.1 && (sm 4490 p.2 && !(p.2 == 0))
theorem gR_ok {p : Int × Int} (h : gR p = true) : sm 4490 p.1 = true ∧ sm 4490 p.2 = true ∧ p.2 ≠ 0 := by
  obtain ⟨a, b⟩ := Bool.and_eq_true_iff.mp h
  obtain ⟨b, c⟩ := Bool.and_eq_true_iff.mp b
  refine ⟨a, b, fun e => ?_⟩
  rw [e] at c; cases c
theorem sm_of_lt {k : Nat} {i : Int} (h : i.natAbs < 2 ^ k) (hk : 0 < k) : sm k i = true := by
  refine decide_eq_true ?_
  by_cases h0 : i.natAbs = 0
  · rw [h0]; simpa using hk
  · exact (Nat.log2_lt h0).mpr h
theorem sm_mul {k m : Nat} {i j : Int} (h : sm k i = true) (h' : sm m j = true) : (i * j).natAbs < 2 ^ (k + m) := by
  rw [Int.natAbs_mul, Nat.pow_add]
  exact Nat.mul_lt_mul'' (sm_lt h) (sm_lt h')
theorem ixT0 (a b : W) : ixW (.tup [a, b]) (.int 0) = some (a, false) := rfl
theorem ixT1 (a b : W) : ixW (.tup [a, b]) (.int 1) = some (b, false) := rfl
theorem addI (i j : Int) : opW .add (.int i) (.int j) = some (.int (i + j), false) := rfl
theorem pl_ok (C : Fn) (tk : Tk) (g jl : Nat) (p q : Int × Int) (hp : gR p = true) (hq : gR q = true) (hC : C jl [.int (p.1 * q.2 + q.1 * p.2), .int (p.2 * q.2)] = .ret (rt (rpl p q)) false []) : ofS (FD_pl jl) (xs C tk g (S_pl jl) [some (rt p, .sh), some (rt q, .sh)]) = .ret (rt (rpl p q)) false [] := by
  obtain ⟨a1, a2, a3⟩ := gR_ok hp
  obtain ⟨b1, b2, b3⟩ := gR_ok hq
  have m1 : opW .mul (.int p.1) (.int q.2) = some (.int (p.1 * q.2), false) := mul_ok (sm_up a1 (by decide)) (sm_up b2 (by decide))
  have m2 : opW .mul (.int q.1) (.int p.2) = some (.int (q.1 * p.2), false) := mul_ok (sm_up b1 (by decide)) (sm_up a2 (by decide))
  have m3 : opW .mul (.int p.2) (.int q.2) = some (.int (p.2 * q.2), false) := mul_ok (sm_up a2 (by decide)) (sm_up b2 (by decide))
  simp [S_pl, xs, ev, SO.thn, rt, wOf, l2, res, ofO, ixT0, ixT1, m1, m2, m3, addI, callW, shM, shr, ioW, ioB, retA, ofS, FD_pl, ioE]
  rw [hC]
  rfl
theorem rpl_g {p q : Int × Int} (hp : gR p = true) (hq : gR q = true) : p.2 * q.2 ≠ 0 ∧ sm 9000 (p.1 * q.2 + q.1 * p.2) = true ∧ sm 9000 (p.2 * q.2) = true := by
  obtain ⟨a1, a2, a3⟩ := gR_ok hp
  obtain ⟨b1, b2, b3⟩ := gR_ok hq
  refine ⟨Int.mul_ne_zero a3 b3, sm_of_lt ?_ (by decide), sm_of_lt ?_ (by decide)⟩
  · have h1 := sm_mul a1 b2
    have h2 := sm_mul b1 a2
    have h3 := Int.natAbs_add_le (p.1 * q.2) (q.1 * p.2)
    have h4 : (2 : Nat) ^ (4490 + 4490) + 2 ^ (4490 + 4490) ≤ 2 ^ 9000 := by decide +kernel
    omega
  · have h1 := sm_mul a2 b2
    exact Nat.lt_of_lt_of_le h1 (by decide +kernel)
/-- lowest, plus at their places -/
structure RL (fs : List FD) (g jl jp : Nat) (d : Nat) (tk : Tk) : Prop where
  lw : ∀ e a b, d ≤ e → b ≠ 0 → sm 9000 a = true → sm 9000 b = true → run fs tk g (e + 1) jl [.int a, .int b] = .ret (rt (low a b)) false []
  pl : fs[jp]? = some (FD_pl jl)
theorem RL.plus {fs : List FD} {g jl jp d : Nat} {tk : Tk} (R : RL fs g jl jp d tk) {e : Nat} (he : d + 1 ≤ e) {p q : Int × Int} (hp : gR p = true) (hq : gR q = true) : run fs tk g (e + 1) jp [rt p, rt q] = .ret (rt (rpl p q)) false [] := by
  obtain ⟨k, rfl⟩ : ∃ k, e = k + 1 := ⟨e - 1, by omega⟩
  rw [run_at R.pl rfl]
  obtain ⟨h1, h2, h3⟩ := rpl_g hp hq
  exact pl_ok _ _ _ _ p q hp hq (R.lw k _ _ (by omega) h1 h2 h3)
/-! ### a whole row's -/
def sumR : Int × Int → List (Int × Int) → Int × Int
  | a, [] => a
  | a, p :: r => sumR (rpl a p) r
def sumG : Int × Int → List (Int × Int) → Bool
  | a, [] => true
  | a, p :: r => gR a && (gR p && sumG (rpl a p) r)
def S_sb (jp : Nat) : S := (.seq (.asn 1 (.call jp [false, false] (.cons (.var 1) (.cons (.var 2) .nil)))) .nil)
def S_sr (jp : Nat) (z : E) : S := (.seq (.asn 1 z) (.seq (.for_ (.n 2) .seq (.cons (.var 0) .nil) (S_sb jp)) (.seq (.ret (.var 1)) .nil)))
def FD_sr (jp : Nat) (z : E) : FD := ⟨3, [false], S_sr jp z⟩
theorem sr_loop (C : Fn) (tk : Tk) (g jp : Nat) (w : W) (hC : ∀ p q, gR p = true → gR q = true → C jp [rt p, rt q] = .ret (rt (rpl p q)) false []) : ∀ (l : List (Int × Int)) (a : Int × Int) (x : Option (W × Fl)), plainS x = true → sumG a l = true → ∃ x', forL (fun w ρ => match asP (.n 2) w ρ with
    | none => SO.bad
    | some ρ1 => xs C tk g (S_sb jp) ρ1) (l.map rt) [some (w, .sh), some (rt a, .sh), x] = .nx [some (w, .sh), some (rt (sumR a l), .sh), x']
  | [], a, x, _, _ => ⟨x, rfl⟩
  | p :: l, a, x, hx, hg => by
    obtain ⟨g1, g2⟩ := Bool.and_eq_true_iff.mp hg
    obtain ⟨g2, g3⟩ := Bool.and_eq_true_iff.mp g2
    obtain ⟨x', e⟩ := sr_loop C tk g jp w hC l (rpl a p) (some (rt p, .sh)) rfl g3
    refine ⟨x', ?_⟩
    have e0 : asP (.n 2) (rt p) [some (w, .sh), some (rt a, .sh), x] = some [some (w, .sh), some (rt a, .sh), some (rt p, .sh)] := by
      cases x with
      | none => rfl
      | some y => obtain ⟨u, f⟩ := y; cases f <;> first | rfl | cases hx
    have e1 : xs C tk g (S_sb jp) [some (w, .sh), some (rt a, .sh), some (rt p, .sh)] = .nx [some (w, .sh), some (rt (rpl a p), .sh), some (rt p, .sh)] := by
      have h := hC a p g1 g2
      show SO.thn (SO.bnd (match C jp [rt a, rt p] with
        | .bad => Out.bad
        | .ret w' fr ios => match ioB [some (w, .sh), some (rt a, .sh), some (rt p, .sh)] [false, false] [.slot 1, .slot 2] ios with
          | some ρ2 => .ok (.val w' fr) ρ2
          | none => .bad
        | .ex x p' ios => match ioB [some (w, .sh), some (rt a, .sh), some (rt p, .sh)] [false, false] [.slot 1, .slot 2] ios with
          | some ρ2 => .ex x p' ρ2
          | none => .bad) fun a ρ1 => ofE (asA 1 a ρ1)) (fun ρ => .nx ρ) = _
      rw [h]; rfl
    simp only [List.map_cons, forL, e0, e1]
    exact e
theorem sr_ok (C : Fn) (tk : Tk) (g jp : Nat) (z : E) (l : List (Int × Int)) (hz : ∀ ρ, (ev C z).x ρ = .ok (.val (rt (0, 1)) false) ρ) (hg : sumG (0, 1) l = true) (hC : ∀ p q, gR p = true → gR q = true → C jp [rt p, rt q] = .ret (rt (rpl p q)) false []) :
    ofS (FD_sr jp z) (xs C tk g (S_sr jp z) [some (.lst (l.map rt), .sh), none, none]) = .ret (rt (sumR (0, 1) l)) false [] := by
  obtain ⟨x', e⟩ := sr_loop C tk g jp (.lst (l.map rt)) hC l (0, 1) none rfl hg
  show ofS (FD_sr jp z) (SO.thn (SO.bnd ((ev C z).x [some (.lst (l.map rt), .sh), none, none]) fun a ρ1 => ofE (asA 1 a ρ1)) fun ρ1 => xs C tk g (.seq (.for_ (.n 2) .seq (.cons (.var 0) .nil) (S_sb jp)) (.seq (.ret (.var 1)) .nil)) ρ1) = _
  rw [hz]
  show ofS (FD_sr jp z) (SO.thn ((forL (fun w ρ => match asP (.n 2) w ρ with
    | none => SO.bad
    | some ρ1 => xs C tk g (S_sb jp) ρ1) (l.map rt) [some (.lst (l.map rt), .sh), some (rt (0, 1), .sh), none]).mapE fun ρ => ρ) fun ρ => xs C tk g (.seq (.ret (.var 1)) .nil) ρ) = _
  rw [e]
  rfl
/-- a row of ratios -/
def toR : W → Option (Int × Int)
  | .tup [.int a, .int b] => some (a, b)
  | _ => none
def toRs : List W → Option (List (Int × Int))
  | [] => some []
  | w :: r => match toR w, toRs r with
    | some p, some l => some (p :: l)
    | _, _ => none
theorem toR_ok {w : W} {p : Int × Int} (h : toR w = some p) : w = rt p := by
  unfold toR at h
  split at h
  · cases h; rfl
  · cases h
theorem toRs_ok : ∀ {ws : List W} {l : List (Int × Int)}, toRs ws = some l → ws = l.map rt
  | [], l, h => by cases h; rfl
  | w :: r, l, h => by
    simp only [toRs] at h
    split at h
    · rename_i p l' e1 e2
      cases h
      rw [toR_ok e1, toRs_ok e2]; rfl
    · cases h
end Py

namespace Py
open PySem PySem.Spec PyProof.Rows L2
def sumO : Int × Int → List (Int × Int) → Option (Int × Int)
  | a, [] => some a
  | a, p :: r => if (gR a && gR p) = true then sumO (rpl a p) r else none
theorem sumO_ok : ∀ {l : List (Int × Int)} {a r : Int × Int}, sumO a l = some r → sumG a l = true ∧ sumR a l = r
  | [], a, r, h => by cases h; exact ⟨rfl, rfl⟩
  | p :: l, a, r, h => by
    simp only [sumO] at h
    split at h
    · rename_i q
      obtain ⟨q1, q2⟩ := Bool.and_eq_true_iff.mp q
      obtain ⟨h1, h2⟩ := sumO_ok h
      exact ⟨by simp only [sumG, q1, q2, h1, Bool.and_self], h2⟩
    · cases h
/-- lowest, plus, sum by their values -/
def oQ (jl jp js : List Nat) (f : Nat) (ws : List W) : Option CO :=
  if jl.contains f then oR jl f ws
  else if jp.contains f then (match ws with
    | [u, v] => match toR u, toR v with
      | some p, some q => if (gR p && gR q) = true then some (.ret (rt (rpl p q)) false []) else none
      | _, _ => none
    | _ => none)
  else if js.contains f then (match ws with
    | [.lst us] => match toRs us with
      | some l => match sumO (0, 1) l with
        | some r => some (.ret (rt r) false [])
        | none => none
      | none => none
    | _ => none)
  else none
theorem oR_inv {js : List Nat} {f : Nat} {ws : List W} {r : CO} (h : oR js f ws = some r) : ∃ a b, ws = [.int a, .int b] ∧ b ≠ 0 ∧ sm 9000 a = true ∧ sm 9000 b = true ∧ r = .ret (rt (low a b)) false [] ∧ f ∈ js := by
  unfold oR at h
  split at h
  · rename_i hf
    split at h
    · rename_i a b
      split at h
      · rename_i q
        obtain ⟨h1, h2⟩ := Bool.and_eq_true_iff.mp q.2
        exact ⟨a, b, rfl, q.1, h1, h2, (Option.some.inj h).symm, List.contains_iff_mem.mp hf⟩
      · cases h
    · cases h
  · cases h
theorem oQ_inv {jl jp js : List Nat} {f : Nat} {ws : List W} {r : CO} (h : oQ jl jp js f ws = some r) :
    (∃ a b, ws = [.int a, .int b] ∧ b ≠ 0 ∧ sm 9000 a = true ∧ sm 9000 b = true ∧ r = .ret (rt (low a b)) false [] ∧ f ∈ jl) ∨
    (∃ p q, ws = [rt p, rt q] ∧ gR p = true ∧ gR q = true ∧ r = .ret (rt (rpl p q)) false [] ∧ f ∈ jp) ∨
    ∃ l, ws = [.lst (l.map rt)] ∧ sumG (0, 1) l = true ∧ r = .ret (rt (sumR (0, 1) l)) false [] ∧ f ∈ js := by
  unfold oQ at h
  split at h
  · exact .inl (oR_inv h)
  · split at h
    · rename_i hf
      split at h
      · rename_i u v
        split at h
        · rename_i p q e1 e2
          split at h
          · rename_i k
            obtain ⟨k1, k2⟩ := Bool.and_eq_true_iff.mp k
            exact .inr (.inl ⟨p, q, by rw [toR_ok e1, toR_ok e2], k1, k2, (Option.some.inj h).symm, List.contains_iff_mem.mp hf⟩)
          · cases h
        · cases h
      · cases h
    · split at h
      · rename_i hf
        split at h
        · rename_i us
          split at h
          · rename_i l e1
            split at h
            · rename_i r' e2
              obtain ⟨k1, k2⟩ := sumO_ok e2
              exact .inr (.inr ⟨l, by rw [toRs_ok e1], k1, by rw [k2]; exact (Option.some.inj h).symm, List.contains_iff_mem.mp hf⟩)
            · cases h
          · cases h
        · cases h
      · cases h
/-- such a def, where it stands -/
inductive RD (fs : List FD) : Nat → Nat → Nat → Prop
  | lw {jc jl : Nat} : fs[jc]? = some FD_cm → fs[jl]? = some (FD_lw jc) → RD fs 0 jl 0
  | lwl {jl : Nat} : fs[jl]? = some FD_lwl → RD fs 0 jl 0
  | pl {jl jp : Nat} : RD fs 0 jl 0 → fs[jp]? = some (FD_pl jl) → RD fs 1 jp 0
  | sr {jp js : Nat} {z : E} : RD fs 1 jp 0 → (∀ C ρ, (ev C z).x ρ = .ok (.val (rt (0, 1)) false) ρ) → fs[js]? = some (FD_sr jp z) → RD fs 2 js 0
theorem RD.low {fs : List FD} {tk : Tk} {g jl : Nat} (hg : 2 ^ 9000 ≤ g) (h : RD fs 0 jl 0) {d : Nat} {a b : Int} (hb : b ≠ 0) (h1 : sm 9000 a = true) (h2 : sm 9000 b = true) : run fs tk g (d + 2) jl [.int a, .int b] = .ret (rt (low a b)) false [] := by
  cases h with
  | lw e1 e2 =>
    rw [run_at e2 rfl]
    refine lw_ok _ _ _ _ a b hb h1 h2 ?_
    rw [run_at e1 rfl]
    exact cm_ok _ _ _ a b (Nat.lt_of_lt_of_le (sm_lt h2) hg)
  | lwl e =>
    rw [run_at e rfl]
    exact lwl_ok _ _ _ a b hb h1 h2 hg
theorem RD.plus {fs : List FD} {tk : Tk} {g jp : Nat} (hg : 2 ^ 9000 ≤ g) (h : RD fs 1 jp 0) {d : Nat} {p q : Int × Int} (hp : gR p = true) (hq : gR q = true) : run fs tk g (d + 3) jp [rt p, rt q] = .ret (rt (rpl p q)) false [] := by
  cases h with
  | pl e1 e2 =>
    rw [run_at e2 rfl]
    obtain ⟨h1, h2, h3⟩ := rpl_g hp hq
    exact pl_ok _ _ _ _ p q hp hq (e1.low hg h1 h2 h3)
theorem RD.sum {fs : List FD} {tk : Tk} {g js : Nat} (hg : 2 ^ 9000 ≤ g) (h : RD fs 2 js 0) {d : Nat} {l : List (Int × Int)} (hl : sumG (0, 1) l = true) : run fs tk g (d + 4) js [.lst (l.map rt)] = .ret (rt (sumR (0, 1) l)) false [] := by
  cases h with
  | sr e1 hz e2 =>
    rw [run_at e2 rfl]
    exact sr_ok _ _ _ _ _ l (fun ρ => hz _ ρ) hl fun p q hp hq => e1.plus hg hp hq
theorem oQ_ok {fs : List FD} {tk : Tk} {g : Nat} {jl jp js : List Nat} (hg : 2 ^ 9000 ≤ g) (hl : ∀ j ∈ jl, RD fs 0 j 0) (hp : ∀ j ∈ jp, RD fs 1 j 0) (hs : ∀ j ∈ js, RD fs 2 j 0) (d f : Nat) (ws : List W) (r : CO) (h : oQ jl jp js f ws = some r) : run fs tk g (5 + d + 1) f ws = r := by
  rcases oQ_inv h with ⟨a, b, rfl, hb, h1, h2, rfl, hf⟩ | ⟨p, q, rfl, h1, h2, rfl, hf⟩ | ⟨l, rfl, h1, rfl, hf⟩
  · rw [show 5 + d + 1 = (d + 4) + 2 by omega]; exact (hl f hf).low hg hb h1 h2
  · rw [show 5 + d + 1 = (d + 3) + 3 by omega]; exact (hp f hf).plus hg h1 h2
  · rw [show 5 + d + 1 = (d + 2) + 4 by omega]; exact (hs f hf).sum hg h1
end Py

namespace Py
open PySem PySem.Spec PyProof.Rows L2
/-! ### ratios as numbers -/
def rmi (p q : Int × Int) : Int × Int := low (p.1 * q.2 - q.1 * p.2) (p.2 * q.2)
def rtm (p q : Int × Int) : Int × Int := low (p.1 * q.1) (p.2 * q.2)
def rdv (p q : Int × Int) : Int × Int := low (p.1 * q.2) (p.2 * q.1)
def rls (p q : Int × Int) : Bool := decide (p.1 * q.2 < q.1 * p.2)
/-- in lowest terms by what -/
theorem low_by (a b : Int) (hb : b ≠ 0) : ∃ g a' b' : Int, 0 < g ∧ a = g * a' ∧ b = g * b' ∧ ((0 < b ∧ 0 < b' ∧ low a b = (a', b')) ∨ (b < 0 ∧ b' < 0 ∧ low a b = (-a', -b'))) := by
  have hg : 0 < Nat.gcd a.natAbs b.natAbs := Nat.gcd_pos_of_pos_right _ (by omega)
  have h1 : ((Nat.gcd a.natAbs b.natAbs : Nat) : Int) ∣ a := Int.ofNat_dvd_left.2 (Nat.gcd_dvd_left _ _)
  have h2 : ((Nat.gcd a.natAbs b.natAbs : Nat) : Int) ∣ b := Int.ofNat_dvd_left.2 (Nat.gcd_dvd_right _ _)
  obtain ⟨a', ha'⟩ := h1
  obtain ⟨b', hb'⟩ := h2
  have hgi : (0 : Int) < ((Nat.gcd a.natAbs b.natAbs : Nat) : Int) := by omega
  have dv : ∀ x : Int, Int.fdiv (((Nat.gcd a.natAbs b.natAbs : Nat) : Int) * x) ((Nat.gcd a.natAbs b.natAbs : Nat) : Int) = x := fun x => by
    rw [Int.mul_comm, Int.mul_fdiv_cancel _ (by omega)]
  have ea : Int.fdiv a ((Nat.gcd a.natAbs b.natAbs : Nat) : Int) = a' := (congrArg (fun t => Int.fdiv t ((Nat.gcd a.natAbs b.natAbs : Nat) : Int)) ha').trans (dv a')
  have eb : Int.fdiv b ((Nat.gcd a.natAbs b.natAbs : Nat) : Int) = b' := (congrArg (fun t => Int.fdiv t ((Nat.gcd a.natAbs b.natAbs : Nat) : Int)) hb').trans (dv b')
  have na : Int.fdiv (-a) ((Nat.gcd a.natAbs b.natAbs : Nat) : Int) = -a' := (congrArg (fun t => Int.fdiv (-t) ((Nat.gcd a.natAbs b.natAbs : Nat) : Int)) ha').trans (by rw [← Int.mul_neg]; exact dv _)
  have nb : Int.fdiv (-b) ((Nat.gcd a.natAbs b.natAbs : Nat) : Int) = -b' := (congrArg (fun t => Int.fdiv (-t) ((Nat.gcd a.natAbs b.natAbs : Nat) : Int)) hb').trans (by rw [← Int.mul_neg]; exact dv _)
  refine ⟨_, a', b', hgi, ha', hb', ?_⟩
  unfold low
  by_cases hp : 0 < b
  · refine .inl ⟨hp, ?_, ?_⟩
    · refine Int.pos_of_mul_pos_right ?_ hgi
      exact hb' ▸ hp
    · rw [if_pos hp, ea, eb]
  · have hn : b < 0 := by omega
    refine .inr ⟨hn, ?_, ?_⟩
    · by_cases h0 : b' < 0
      · exact h0
      · have := Int.mul_nonneg (Int.le_of_lt hgi) (show 0 ≤ b' by omega)
        rw [← hb'] at this; omega
    · rw [if_neg hp, na, nb]

/-- at most so many bits, a positive denominator -/
def bd (k : Nat) (p : Int × Int) : Prop := p.1.natAbs < 2 ^ k ∧ 0 < p.2 ∧ p.2.natAbs < 2 ^ k
theorem natAbs_le_mul {g x : Int} (h : 0 < g) : x.natAbs ≤ (g * x).natAbs := by
  rw [Int.natAbs_mul]
  exact Nat.le_mul_of_pos_left _ (by omega)
theorem low_bd {k : Nat} {a b : Int} (hb : b ≠ 0) (h1 : a.natAbs < 2 ^ k) (h2 : b.natAbs < 2 ^ k) : bd k (low a b) := by
  obtain ⟨g, a', b', hg, rfl, rfl, ⟨_, h3, e⟩ | ⟨_, h3, e⟩⟩ := low_by a b hb
  · rw [e]
    exact ⟨Nat.lt_of_le_of_lt (natAbs_le_mul hg) h1, h3, Nat.lt_of_le_of_lt (natAbs_le_mul hg) h2⟩
  · rw [e]
    have h4 : (-a').natAbs = a'.natAbs := Int.natAbs_neg a'
    have h5 : (-b').natAbs = b'.natAbs := Int.natAbs_neg b'
    refine ⟨?_, show 0 < -b' by omega, ?_⟩
    · show (-a').natAbs < _
      rw [h4]; exact Nat.lt_of_le_of_lt (natAbs_le_mul hg) h1
    · show (-b').natAbs < _
      rw [h5]; exact Nat.lt_of_le_of_lt (natAbs_le_mul hg) h2
theorem bd.up {k m : Nat} {p : Int × Int} (h : bd k p) (hk : k ≤ m) : bd m p := by
  have := Nat.pow_le_pow_right (n := 2) (by decide) hk
  exact ⟨Nat.lt_of_lt_of_le h.1 this, h.2.1, Nat.lt_of_lt_of_le h.2.2 this⟩
theorem mul_lt2 {k m : Nat} {i j : Int} (h : i.natAbs < 2 ^ k) (h' : j.natAbs < 2 ^ m) : (i * j).natAbs < 2 ^ (k + m) := by
  rw [Int.natAbs_mul, Nat.pow_add]
  exact Nat.mul_lt_mul'' h h'
theorem rpl_bd {k m : Nat} {p q : Int × Int} (hp : bd k p) (hq : bd m q) : bd (k + m + 1) (rpl p q) := by
  have h1 := mul_lt2 hp.1 hq.2.2
  have h2 := mul_lt2 hq.1 hp.2.2
  have h3 := mul_lt2 hp.2.2 hq.2.2
  have h4 := Int.natAbs_add_le (p.1 * q.2) (q.1 * p.2)
  have h5 : 2 ^ (m + k) = 2 ^ (k + m) := by rw [Nat.add_comm]
  have h6 : 2 ^ (k + m + 1) = 2 ^ (k + m) * 2 := Nat.pow_succ ..
  have h7 := Int.mul_pos hp.2.1 hq.2.1
  exact low_bd (by omega) (by omega) (by omega)
theorem rmi_bd {k m : Nat} {p q : Int × Int} (hp : bd k p) (hq : bd m q) : bd (k + m + 1) (rmi p q) := by
  have h1 := mul_lt2 hp.1 hq.2.2
  have h2 := mul_lt2 hq.1 hp.2.2
  have h3 := mul_lt2 hp.2.2 hq.2.2
  have h4 := Int.natAbs_sub_le (p.1 * q.2) (q.1 * p.2)
  have h5 : 2 ^ (m + k) = 2 ^ (k + m) := by rw [Nat.add_comm]
  have h6 : 2 ^ (k + m + 1) = 2 ^ (k + m) * 2 := Nat.pow_succ ..
  have h7 := Int.mul_pos hp.2.1 hq.2.1
  exact low_bd (by omega) (by omega) (by omega)
theorem rtm_bd {k m : Nat} {p q : Int × Int} (hp : bd k p) (hq : bd m q) : bd (k + m) (rtm p q) := by
  have h1 := mul_lt2 hp.1 hq.1
  have h3 := mul_lt2 hp.2.2 hq.2.2
  have h7 := Int.mul_pos hp.2.1 hq.2.1
  exact low_bd (by omega) h1 h3
theorem bd.g {k : Nat} {p : Int × Int} (h : bd k p) (hk : k ≤ 4490) : gR p = true := by
  have h := h.up hk
  have h1 := sm_of_lt h.1 (by decide)
  have h2 := sm_of_lt h.2.2 (by decide)
  unfold gR
  rw [h1, h2]
  have : (p.2 == 0) = false := by
    have := h.2.1
    simp; omega
  rw [this]; rfl

/-! ### by their values -/
def qv (p : Int × Int) : Rat := (p.1 : Rat) / (p.2 : Rat)
theorem low_qv {a b : Int} (hb : b ≠ 0) : qv (low a b) = (a : Rat) / (b : Rat) := by
  obtain ⟨g, a', b', hg, rfl, rfl, ⟨_, h3, e⟩ | ⟨_, h3, e⟩⟩ := low_by a b hb
  · rw [e]
    show (a' : Rat) / (b' : Rat) = _
    have h1 : (g : Rat) ≠ 0 := by simpa using (show g ≠ 0 by omega)
    have h2 : (b' : Rat) ≠ 0 := by simpa using (show b' ≠ 0 by omega)
    rw [Rat.intCast_mul, Rat.intCast_mul]
    grind
  · rw [e]
    show ((-a' : Int) : Rat) / ((-b' : Int) : Rat) = _
    have h1 : (g : Rat) ≠ 0 := by simpa using (show g ≠ 0 by omega)
    have h2 : (b' : Rat) ≠ 0 := by simpa using (show b' ≠ 0 by omega)
    rw [Rat.intCast_mul, Rat.intCast_mul, Rat.intCast_neg, Rat.intCast_neg]
    grind
theorem rat_ne {b : Int} (h : b ≠ 0) : (b : Rat) ≠ 0 := by simpa using h
theorem rpl_qv {p q : Int × Int} (hp : p.2 ≠ 0) (hq : q.2 ≠ 0) : qv (rpl p q) = qv p + qv q := by
  unfold rpl
  rw [low_qv (Int.mul_ne_zero hp hq)]
  unfold qv
  have h1 := rat_ne hp
  have h2 := rat_ne hq
  rw [Rat.intCast_add, Rat.intCast_mul, Rat.intCast_mul, Rat.intCast_mul]
  grind
theorem rmi_qv {p q : Int × Int} (hp : p.2 ≠ 0) (hq : q.2 ≠ 0) : qv (rmi p q) = qv p - qv q := by
  unfold rmi
  rw [low_qv (Int.mul_ne_zero hp hq)]
  unfold qv
  have h1 := rat_ne hp
  have h2 := rat_ne hq
  rw [Rat.intCast_sub, Rat.intCast_mul, Rat.intCast_mul, Rat.intCast_mul]
  grind
theorem rtm_qv {p q : Int × Int} (hp : p.2 ≠ 0) (hq : q.2 ≠ 0) : qv (rtm p q) = qv p * qv q := by
  unfold rtm
  rw [low_qv (Int.mul_ne_zero hp hq)]
  unfold qv
  have h1 := rat_ne hp
  have h2 := rat_ne hq
  rw [Rat.intCast_mul, Rat.intCast_mul]
  grind
theorem rls_qv {p q : Int × Int} (hp : 0 < p.2) (hq : 0 < q.2) : rls p q = true ↔ qv p < qv q := by
  unfold rls qv
  rw [decide_eq_true_iff]
  have h1 : (0 : Rat) < (p.2 : Rat) := Rat.intCast_pos.mpr hp
  have h2 : (0 : Rat) < (q.2 : Rat) := Rat.intCast_pos.mpr hq
  rw [← Rat.intCast_lt_intCast, Rat.intCast_mul, Rat.intCast_mul]
  rw [Rat.div_lt_iff h1]
  have e : (q.1 : Rat) / (q.2 : Rat) * (p.2 : Rat) = (q.1 : Rat) * (p.2 : Rat) / (q.2 : Rat) := by grind
  rw [e, Rat.lt_div_iff h2]
end Py

namespace Py
open PySem PySem.Spec PyProof.Rows L2
/-! ### minus, times, divided, less, greatest -/
def S_mi (jl : Nat) : S := (.seq (.ret (.call jl [false, false] (.cons (.op .sub (.op .mul (.ix (.var 0) (.con (.int 0))) (.ix (.var 1) (.con (.int 1)))) (.op .mul (.ix (.var 1) (.con (.int 0))) (.ix (.var 0) (.con (.int 1))))) (.cons (.op .mul (.ix (.var 0) (.con (.int 1))) (.ix (.var 1) (.con (.int 1)))) .nil)))) .nil)
def FD_mi (jl : Nat) : FD := ⟨2, [false, false], S_mi jl⟩
def S_tm (jl : Nat) : S := (.seq (.ret (.call jl [false, false] (.cons (.op .mul (.ix (.var 0) (.con (.int 0))) (.ix (.var 1) (.con (.int 0)))) (.cons (.op .mul (.ix (.var 0) (.con (.int 1))) (.ix (.var 1) (.con (.int 1)))) .nil)))) .nil)
def FD_tm (jl : Nat) : FD := ⟨2, [false, false], S_tm jl⟩
def S_dv (jl : Nat) : S := (.seq (.ret (.call jl [false, false] (.cons (.op .mul (.ix (.var 0) (.con (.int 0))) (.ix (.var 1) (.con (.int 1)))) (.cons (.op .mul (.ix (.var 0) (.con (.int 1))) (.ix (.var 1) (.con (.int 0)))) .nil)))) .nil)
def FD_dv (jl : Nat) : FD := ⟨2, [false, false], S_dv jl⟩
def S_ls : S := (.seq (.ret (.cmp .lt (.op .mul (.ix (.var 0) (.con (.int 0))) (.ix (.var 1) (.con (.int 1)))) (.op .mul (.ix (.var 1) (.con (.int 0))) (.ix (.var 0) (.con (.int 1)))))) .nil)
def FD_ls : FD := ⟨2, [false, false], S_ls⟩
/-- the law's minus, by its plus -/
def S_ml (jp : Nat) : S := (.seq (.ret (.call jp [false, false] (.cons (.var 0) (.cons (.tup (.cons (.neg (.ix (.var 1) (.con (.int 0)))) (.cons (.ix (.var 1) (.con (.int 1))) .nil))) .nil)))) .nil)
def FD_ml (jp : Nat) : FD := ⟨2, [false, false], S_ml jp⟩
theorem subI (i j : Int) : opW .sub (.int i) (.int j) = some (.int (i - j), false) := rfl
theorem mi_ok (C : Fn) (tk : Tk) (g jl : Nat) (p q : Int × Int) (hp : gR p = true) (hq : gR q = true) (hC : C jl [.int (p.1 * q.2 - q.1 * p.2), .int (p.2 * q.2)] = .ret (rt (rmi p q)) false []) : ofS (FD_mi jl) (xs C tk g (S_mi jl) [some (rt p, .sh), some (rt q, .sh)]) = .ret (rt (rmi p q)) false [] := by
  obtain ⟨a1, a2, a3⟩ := gR_ok hp
  obtain ⟨b1, b2, b3⟩ := gR_ok hq
  have m1 : opW .mul (.int p.1) (.int q.2) = some (.int (p.1 * q.2), false) := mul_ok (sm_up a1 (by decide)) (sm_up b2 (by decide))
  have m2 : opW .mul (.int q.1) (.int p.2) = some (.int (q.1 * p.2), false) := mul_ok (sm_up b1 (by decide)) (sm_up a2 (by decide))
  have m3 : opW .mul (.int p.2) (.int q.2) = some (.int (p.2 * q.2), false) := mul_ok (sm_up a2 (by decide)) (sm_up b2 (by decide))
  simp [S_mi, xs, ev, SO.thn, rt, wOf, l2, res, ofO, ixT0, ixT1, m1, m2, m3, subI, callW, shM, shr, ioW, ioB, retA, ofS, FD_mi, ioE]
  rw [hC]
  rfl
theorem tm_ok (C : Fn) (tk : Tk) (g jl : Nat) (p q : Int × Int) (hp : gR p = true) (hq : gR q = true) (hC : C jl [.int (p.1 * q.1), .int (p.2 * q.2)] = .ret (rt (rtm p q)) false []) : ofS (FD_tm jl) (xs C tk g (S_tm jl) [some (rt p, .sh), some (rt q, .sh)]) = .ret (rt (rtm p q)) false [] := by
  obtain ⟨a1, a2, a3⟩ := gR_ok hp
  obtain ⟨b1, b2, b3⟩ := gR_ok hq
  have m1 : opW .mul (.int p.1) (.int q.1) = some (.int (p.1 * q.1), false) := mul_ok (sm_up a1 (by decide)) (sm_up b1 (by decide))
  have m3 : opW .mul (.int p.2) (.int q.2) = some (.int (p.2 * q.2), false) := mul_ok (sm_up a2 (by decide)) (sm_up b2 (by decide))
  simp [S_tm, xs, ev, SO.thn, rt, wOf, l2, res, ofO, ixT0, ixT1, m1, m3, callW, shM, shr, ioW, ioB, retA, ofS, FD_tm, ioE]
  rw [hC]
  rfl
theorem dv_ok (C : Fn) (tk : Tk) (g jl : Nat) (p q : Int × Int) (hp : gR p = true) (hq : gR q = true) (hC : C jl [.int (p.1 * q.2), .int (p.2 * q.1)] = .ret (rt (rdv p q)) false []) : ofS (FD_dv jl) (xs C tk g (S_dv jl) [some (rt p, .sh), some (rt q, .sh)]) = .ret (rt (rdv p q)) false [] := by
  obtain ⟨a1, a2, a3⟩ := gR_ok hp
  obtain ⟨b1, b2, b3⟩ := gR_ok hq
  have m1 : opW .mul (.int p.1) (.int q.2) = some (.int (p.1 * q.2), false) := mul_ok (sm_up a1 (by decide)) (sm_up b2 (by decide))
  have m3 : opW .mul (.int p.2) (.int q.1) = some (.int (p.2 * q.1), false) := mul_ok (sm_up a2 (by decide)) (sm_up b1 (by decide))
  simp [S_dv, xs, ev, SO.thn, rt, wOf, l2, res, ofO, ixT0, ixT1, m1, m3, callW, shM, shr, ioW, ioB, retA, ofS, FD_dv, ioE]
  rw [hC]
  rfl
/-- of so many bits that they may be multiplied -/
def gM (p : Int × Int) : Bool := sm 9000 p.1 && sm 9000 p.2
theorem gM_ok {p : Int × Int} (h : gM p = true) : sm 9000 p.1 = true ∧ sm 9000 p.2 = true := Bool.and_eq_true_iff.mp h
theorem bd.m {k : Nat} {p : Int × Int} (h : bd k p) (hk : k ≤ 9000) : gM p = true := by
  have h := h.up hk
  have h1 := sm_of_lt h.1 (by decide)
  have h2 := sm_of_lt h.2.2 (by decide)
  unfold gM
  rw [h1, h2]; rfl
theorem gM_of {p : Int × Int} (h : gR p = true) : gM p = true := by
  obtain ⟨a, b, _⟩ := gR_ok h
  unfold gM
  rw [sm_up a (by decide), sm_up b (by decide)]; rfl
theorem ls_ok (C : Fn) (tk : Tk) (g : Nat) (p q : Int × Int) (hp : gM p = true) (hq : gM q = true) : ofS FD_ls (xs C tk g S_ls [some (rt p, .sh), some (rt q, .sh)]) = .ret (.bl (rls p q)) false [] := by
  obtain ⟨a1, a2⟩ := gM_ok hp
  obtain ⟨b1, b2⟩ := gM_ok hq
  have m1 : opW .mul (.int p.1) (.int q.2) = some (.int (p.1 * q.2), false) := mul_ok (sm_up a1 (by decide)) (sm_up b2 (by decide))
  have m2 : opW .mul (.int q.1) (.int p.2) = some (.int (q.1 * p.2), false) := mul_ok (sm_up b1 (by decide)) (sm_up a2 (by decide))
  have c1 : cmpW .lt (.int (p.1 * q.2)) (.int (q.1 * p.2)) = some (rls p q) := rfl
  simp [S_ls, xs, ev, SO.thn, rt, wOf, l2, res, ofO, ixT0, ixT1, m1, m2, c1, bW, retA, ofS, FD_ls, ioE]
theorem ml_ok (C : Fn) (tk : Tk) (g jp : Nat) (p q : Int × Int) (hC : C jp [rt p, rt (-q.1, q.2)] = .ret (rt (rmi p q)) false []) : ofS (FD_ml jp) (xs C tk g (S_ml jp) [some (rt p, .sh), some (rt q, .sh)]) = .ret (rt (rmi p q)) false [] := by
  have hC : C jp [.tup [.int p.1, .int p.2], .tup [.int (-q.1), .int q.2]] = .ret (rt (rmi p q)) false [] := hC
  simp [S_ml, xs, ev, SO.thn, rt, wOf, l1, l2, res, ofO, ixT0, ixT1, shrs, szL, callW, shM, shr, ioW, ioB, retA, ofS, FD_ml, ioE]
  rw [hC]
  rfl
theorem rmi_rpl (p q : Int × Int) : rpl p (-q.1, q.2) = rmi p q := by
  unfold rpl rmi
  show low (p.1 * q.2 + -q.1 * p.2) (p.2 * q.2) = _
  rw [Int.neg_mul, ← Int.sub_eq_add_neg]
theorem gR_neg {q : Int × Int} (h : gR q = true) : gR (-q.1, q.2) = true := by
  unfold gR sm at h ⊢
  show (decide ((-q.1).natAbs.log2 < 4490) && (decide (q.2.natAbs.log2 < 4490) && !(q.2 == 0))) = true
  rw [Int.natAbs_neg]; exact h
section
variable {fs : List FD} {tk : Tk} {g : Nat}
theorem mi_at {jl j d : Nat} (hg : 2 ^ 9000 ≤ g) (R : RD fs 0 jl 0) (e : fs[j]? = some (FD_mi jl)) (hd : 3 ≤ d) {p q : Int × Int} (hp : gR p = true) (hq : gR q = true) : run fs tk g d j [rt p, rt q] = .ret (rt (rmi p q)) false [] := by
  obtain ⟨k, rfl⟩ : ∃ k, d = k + 3 := ⟨d - 3, by omega⟩
  rw [run_at e rfl]
  obtain ⟨a1, a2, a3⟩ := gR_ok hp
  obtain ⟨b1, b2, b3⟩ := gR_ok hq
  refine mi_ok _ _ _ _ p q hp hq (R.low hg (Int.mul_ne_zero a3 b3) (sm_of_lt ?_ (by decide)) (sm_of_lt ?_ (by decide)))
  · have h1 := sm_mul a1 b2
    have h2 := sm_mul b1 a2
    have h3 := Int.natAbs_sub_le (p.1 * q.2) (q.1 * p.2)
    have h4 : (2 : Nat) ^ (4490 + 4490) + 2 ^ (4490 + 4490) ≤ 2 ^ 9000 := by decide +kernel
    omega
  · have h1 := sm_mul a2 b2
    exact Nat.lt_of_lt_of_le h1 (by decide +kernel)
theorem tm_at {jl j d : Nat} (hg : 2 ^ 9000 ≤ g) (R : RD fs 0 jl 0) (e : fs[j]? = some (FD_tm jl)) (hd : 3 ≤ d) {p q : Int × Int} (hp : gR p = true) (hq : gR q = true) : run fs tk g d j [rt p, rt q] = .ret (rt (rtm p q)) false [] := by
  obtain ⟨k, rfl⟩ : ∃ k, d = k + 3 := ⟨d - 3, by omega⟩
  rw [run_at e rfl]
  obtain ⟨a1, a2, a3⟩ := gR_ok hp
  obtain ⟨b1, b2, b3⟩ := gR_ok hq
  exact tm_ok _ _ _ _ p q hp hq (R.low hg (Int.mul_ne_zero a3 b3) (sm_of_lt (Nat.lt_of_lt_of_le (sm_mul a1 b1) (by decide +kernel)) (by decide)) (sm_of_lt (Nat.lt_of_lt_of_le (sm_mul a2 b2) (by decide +kernel)) (by decide)))
theorem dv_at {jl j d : Nat} (hg : 2 ^ 9000 ≤ g) (R : RD fs 0 jl 0) (e : fs[j]? = some (FD_dv jl)) (hd : 3 ≤ d) {p q : Int × Int} (hp : gR p = true) (hq : gR q = true) (h0 : q.1 ≠ 0) : run fs tk g d j [rt p, rt q] = .ret (rt (rdv p q)) false [] := by
  obtain ⟨k, rfl⟩ : ∃ k, d = k + 3 := ⟨d - 3, by omega⟩
  rw [run_at e rfl]
  obtain ⟨a1, a2, a3⟩ := gR_ok hp
  obtain ⟨b1, b2, b3⟩ := gR_ok hq
  exact dv_ok _ _ _ _ p q hp hq (R.low hg (Int.mul_ne_zero a3 h0) (sm_of_lt (Nat.lt_of_lt_of_le (sm_mul a1 b2) (by decide +kernel)) (by decide)) (sm_of_lt (Nat.lt_of_lt_of_le (sm_mul a2 b1) (by decide +kernel)) (by decide)))
theorem pl_at {j d : Nat} (hg : 2 ^ 9000 ≤ g) (R : RD fs 1 j 0) (hd : 3 ≤ d) {p q : Int × Int} (hp : gR p = true) (hq : gR q = true) : run fs tk g d j [rt p, rt q] = .ret (rt (rpl p q)) false [] := by
  obtain ⟨k, rfl⟩ : ∃ k, d = k + 3 := ⟨d - 3, by omega⟩
  exact R.plus hg hp hq
theorem lw_at {j d : Nat} (hg : 2 ^ 9000 ≤ g) (R : RD fs 0 j 0) (hd : 2 ≤ d) {a b : Int} (hb : b ≠ 0) (h1 : sm 9000 a = true) (h2 : sm 9000 b = true) : run fs tk g d j [.int a, .int b] = .ret (rt (low a b)) false [] := by
  obtain ⟨k, rfl⟩ : ∃ k, d = k + 2 := ⟨d - 2, by omega⟩
  exact R.low hg hb h1 h2
theorem ml_at {jp j d : Nat} (hg : 2 ^ 9000 ≤ g) (R : RD fs 1 jp 0) (e : fs[j]? = some (FD_ml jp)) (hd : 4 ≤ d) {p q : Int × Int} (hp : gR p = true) (hq : gR q = true) : run fs tk g d j [rt p, rt q] = .ret (rt (rmi p q)) false [] := by
  obtain ⟨k, rfl⟩ : ∃ k, d = k + 4 := ⟨d - 4, by omega⟩
  rw [run_at e rfl]
  refine ml_ok _ _ _ _ p q ?_
  rw [← rmi_rpl]
  exact R.plus hg hp (gR_neg hq)
theorem ls_at {j d : Nat} (e : fs[j]? = some FD_ls) (hd : 1 ≤ d) {p q : Int × Int} (hp : gM p = true) (hq : gM q = true) : run fs tk g d j [rt p, rt q] = .ret (.bl (rls p q)) false [] := by
  obtain ⟨k, rfl⟩ : ∃ k, d = k + 1 := ⟨d - 1, by omega⟩
  rw [run_at e rfl]
  exact ls_ok _ _ _ p q hp hq
end
/-! ### the greater of two -/
def rgr (p q : Int × Int) : Int × Int := if rls p q then q else p
theorem rls_self (p : Int × Int) : rls p p = false := decide_eq_false (Int.lt_irrefl _)
def S_gr (j : Nat) : S := (.seq (.asn 1 (.ix (.var 0) (.con (.int 0)))) (.seq (.for_ (.n 2) .seq (.cons (.var 0) .nil) (.seq (.ite (.call j [false, false] (.cons (.var 1) (.cons (.var 2) .nil))) (.seq (.asn 1 (.var 2)) .nil) .nil) .nil)) (.seq (.ret (.var 1)) .nil)))
def FD_gr (j : Nat) : FD := ⟨3, [false], S_gr j⟩
theorem gr2_ok (C : Fn) (tk : Tk) (g j : Nat) (p q : W) (b : Bool) (h1 : C j [p, p] = .ret (.bl false) false []) (h2 : C j [p, q] = .ret (.bl b) false []) : ofS (FD_gr j) (xs C tk g (S_gr j) [some (.lst [p, q], .sh), none, none]) = .ret (if b then q else p) false [] := by
  have ix : ixW (.lst [p, q]) (.int 0) = some (p, false) := rfl
  cases b <;> simp [S_gr, xs, ev, SO.thn, SO.mapE, wOf, l2, lL, ress, res, ofO, ix, itW, lkE, lkE1, ulE, ulE1, forL, asP, setN, h1, h2, callW, shM, shr, ioW, ioB, trO, truth, ofE, asA, retA, ofS, FD_gr, ioE]
theorem gr2_at {fs : List FD} {tk : Tk} {g j jls d : Nat} (e : fs[j]? = some (FD_gr jls)) (el : fs[jls]? = some FD_ls) (hd : 2 ≤ d) {p q : Int × Int} (hp : gM p = true) (hq : gM q = true) : run fs tk g d j [.lst [rt p, rt q]] = .ret (rt (rgr p q)) false [] := by
  obtain ⟨k, rfl⟩ : ∃ k, d = k + 1 := ⟨d - 1, by omega⟩
  rw [run_at e rfl]
  have h := gr2_ok (run fs tk g k) tk g jls (rt p) (rt q) (rls p q) (by rw [ls_at el (by omega) hp hp, rls_self]) (ls_at el (by omega) hp hq)
  refine Eq.trans h ?_
  unfold rgr
  cases rls p q <;> rfl
/-- the law's best of two -/
def S_bs (j : Nat) : S := (.seq (.asn 2 (.ix (.var 0) (.con (.int 0)))) (.seq (.for_ (.n 3) .seq (.cons (.var 0) .nil) (.seq (.ite (.or (.and (.call j [false, false] (.cons (.var 2) (.cons (.var 3) .nil))) (.cmp .eq (.var 1) (.con (.int 1)))) (.and (.call j [false, false] (.cons (.var 3) (.cons (.var 2) .nil))) (.cmp .eq (.var 1) (.neg (.con (.int 1)))))) (.seq (.asn 2 (.var 3)) .nil) .nil) .nil)) (.seq (.ret (.var 2)) .nil)))
def FD_bs (j : Nat) : FD := ⟨4, [false, false], S_bs j⟩
theorem bs2_ok (C : Fn) (tk : Tk) (g j : Nat) (p q : W) (b b' : Bool) (h1 : C j [p, p] = .ret (.bl false) false []) (h2 : C j [p, q] = .ret (.bl b) false []) (h3 : C j [q, p] = .ret (.bl b') false []) : ofS (FD_bs j) (xs C tk g (S_bs j) [some (.lst [p, q], .sh), some (.int 1, .sh), none, none]) = .ret (if b then q else p) false [] := by
  have ix : ixW (.lst [p, q]) (.int 0) = some (p, false) := rfl
  have e1 : cmpW .eq (.int 1) (.int 1) = some true := rfl
  have e2 : cmpW .eq (.int 1) (.int (-1)) = some false := rfl
  cases b <;> cases b' <;> simp [S_bs, xs, ev, SO.thn, SO.mapE, wOf, l1, l2, lL, ress, res, ofO, ix, itW, lkE, lkE1, ulE, ulE1, forL, asP, setN, h1, h2, h3, e1, e2, bW, callW, shM, shr, ioW, ioB, trO, truth, ofE, asA, retA, ofS, FD_bs, ioE]
theorem bs2_at {fs : List FD} {tk : Tk} {g j jls d : Nat} (e : fs[j]? = some (FD_bs jls)) (el : fs[jls]? = some FD_ls) (hd : 2 ≤ d) {p q : Int × Int} (hp : gM p = true) (hq : gM q = true) : run fs tk g d j [.lst [rt p, rt q], .int 1] = .ret (rt (rgr p q)) false [] := by
  obtain ⟨k, rfl⟩ : ∃ k, d = k + 1 := ⟨d - 1, by omega⟩
  rw [run_at e rfl]
  have h := bs2_ok (run fs tk g k) tk g jls (rt p) (rt q) (rls p q) (rls q p) (by rw [ls_at el (by omega) hp hp, rls_self]) (ls_at el (by omega) hp hq) (ls_at el (by omega) hq hp)
  refine Eq.trans h ?_
  unfold rgr
  cases rls p q <;> rfl
end Py

namespace Py
open PySem PySem.Spec PyProof.Rows L2
/-! ### the first best of a row -/
def bsF (cond : Int × Int → Int × Int → Bool) : Int × Int → List (Int × Int) → Int × Int
  | a, [] => a
  | a, p :: r => bsF cond (if cond a p then p else a) r
def gMs (l : List (Int × Int)) : Bool := l.all gM
section
variable {C : Fn} {tk : Tk} {g : Nat}
def grB (j : Nat) : S := (.seq (.ite (.call j [false, false] (.cons (.var 1) (.cons (.var 2) .nil))) (.seq (.asn 1 (.var 2)) .nil) .nil) .nil)
def leB (j : Nat) : S := (.seq (.ite (.call j [false, false] (.cons (.var 2) (.cons (.var 1) .nil))) (.seq (.asn 1 (.var 2)) .nil) .nil) .nil)
def bsB (j : Nat) : S := (.seq (.ite (.or (.and (.call j [false, false] (.cons (.var 2) (.cons (.var 3) .nil))) (.cmp .eq (.var 1) (.con (.int 1)))) (.and (.call j [false, false] (.cons (.var 3) (.cons (.var 2) .nil))) (.cmp .eq (.var 1) (.neg (.con (.int 1)))))) (.seq (.asn 2 (.var 3)) .nil) .nil) .nil)
def S_le (j : Nat) : S := (.seq (.asn 1 (.ix (.var 0) (.con (.int 0)))) (.seq (.for_ (.n 2) .seq (.cons (.var 0) .nil) (leB j)) (.seq (.ret (.var 1)) .nil)))
def FD_le (j : Nat) : FD := ⟨3, [false], S_le j⟩
theorem grB_ok (j : Nat) (w p q : W) (b : Bool) (h : C j [p, q] = .ret (.bl b) false []) : xs C tk g (grB j) [some (w, .sh), some (p, .sh), some (q, .sh)] = .nx [some (w, .sh), some (if b then q else p, .sh), some (q, .sh)] := by
  cases b <;> simp [grB, xs, ev, SO.thn, wOf, res, h, callW, shM, shr, ioW, ioB, trO, truth, ofE, asA, setN]
theorem leB_ok (j : Nat) (w p q : W) (b : Bool) (h : C j [q, p] = .ret (.bl b) false []) : xs C tk g (leB j) [some (w, .sh), some (p, .sh), some (q, .sh)] = .nx [some (w, .sh), some (if b then q else p, .sh), some (q, .sh)] := by
  cases b <;> simp [leB, xs, ev, SO.thn, wOf, res, h, callW, shM, shr, ioW, ioB, trO, truth, ofE, asA, setN]
theorem bsB_ok (j : Nat) (w p q : W) (b b' : Bool) (h : C j [p, q] = .ret (.bl b) false []) (h' : C j [q, p] = .ret (.bl b') false []) : xs C tk g (bsB j) [some (w, .sh), some (.int 1, .sh), some (p, .sh), some (q, .sh)] = .nx [some (w, .sh), some (.int 1, .sh), some (if b then q else p, .sh), some (q, .sh)] := by
  have e1 : cmpW .eq (.int 1) (.int 1) = some true := rfl
  have e2 : cmpW .eq (.int 1) (.int (-1)) = some false := rfl
  cases b <;> cases b' <;> simp [bsB, xs, ev, SO.thn, wOf, l1, l2, res, ofO, h, h', e1, e2, bW, callW, shM, shr, ioW, ioB, trO, truth, ofE, asA, setN]
theorem bsB_ok' (j : Nat) (w p q : W) (b b' : Bool) (h : C j [p, q] = .ret (.bl b') false []) (h' : C j [q, p] = .ret (.bl b) false []) : xs C tk g (bsB j) [some (w, .sh), some (.int (-1), .sh), some (p, .sh), some (q, .sh)] = .nx [some (w, .sh), some (.int (-1), .sh), some (if b then q else p, .sh), some (q, .sh)] := by
  have e1 : cmpW .eq (.int (-1)) (.int 1) = some false := rfl
  have e2 : cmpW .eq (.int (-1)) (.int (-1)) = some true := rfl
  cases b <;> cases b' <;> simp [bsB, xs, ev, SO.thn, wOf, l1, l2, res, ofO, h, h', e1, e2, bW, callW, shM, shr, ioW, ioB, trO, truth, ofE, asA, setN]
theorem asP2 {w u : W} {v q : W} {x : Option (W × Fl)} (hx : plainS x = true) : asP (.n 2) q [some (w, .sh), some (v, .sh), x] = some [some (w, .sh), some (v, .sh), some (q, .sh)] := by
  cases x with
  | none => rfl
  | some y => obtain ⟨u, f⟩ := y; cases f <;> first | rfl | cases hx
theorem asP3 {w v u q : W} {x : Option (W × Fl)} (hx : plainS x = true) : asP (.n 3) q [some (w, .sh), some (v, .sh), some (u, .sh), x] = some [some (w, .sh), some (v, .sh), some (u, .sh), some (q, .sh)] := by
  cases x with
  | none => rfl
  | some y => obtain ⟨u, f⟩ := y; cases f <;> first | rfl | cases hx
theorem row_loop (cond : Int × Int → Int × Int → Bool) (B : S) (w : W) (hB : ∀ p q, gM p = true → gM q = true → xs C tk g B [some (w, .sh), some (rt p, .sh), some (rt q, .sh)] = .nx [some (w, .sh), some (if cond p q then rt q else rt p, .sh), some (rt q, .sh)]) :
    ∀ (l : List (Int × Int)) (a : Int × Int) (x : Option (W × Fl)), plainS x = true → gM a = true → gMs l = true → ∃ x', forL (fun w ρ => match asP (.n 2) w ρ with
    | none => SO.bad
    | some ρ1 => xs C tk g B ρ1) (l.map rt) [some (w, .sh), some (rt a, .sh), x] = .nx [some (w, .sh), some (rt (bsF cond a l), .sh), x']
  | [], a, x, _, _, _ => ⟨x, rfl⟩
  | p :: l, a, x, hx, ha, hl => by
    obtain ⟨g1, g2⟩ := Bool.and_eq_true_iff.mp (show (gM p && gMs l) = true from hl)
    have ha' : gM (if cond a p then p else a) = true := by split <;> assumption
    obtain ⟨x', e⟩ := row_loop cond B w hB l (if cond a p then p else a) (some (rt p, .sh)) rfl ha' g2
    refine ⟨x', ?_⟩
    have e2 : (if cond a p then rt p else rt a) = rt (if cond a p then p else a) := by split <;> rfl
    simp only [List.map_cons, forL, asP2 (u := .non) hx, hB a p ha g1, e2]
    exact e
theorem row_loop3 (cond : Int × Int → Int × Int → Bool) (B : S) (w u : W) (hB : ∀ p q, gM p = true → gM q = true → xs C tk g B [some (w, .sh), some (u, .sh), some (rt p, .sh), some (rt q, .sh)] = .nx [some (w, .sh), some (u, .sh), some (if cond p q then rt q else rt p, .sh), some (rt q, .sh)]) :
    ∀ (l : List (Int × Int)) (a : Int × Int) (x : Option (W × Fl)), plainS x = true → gM a = true → gMs l = true → ∃ x', forL (fun w ρ => match asP (.n 3) w ρ with
    | none => SO.bad
    | some ρ1 => xs C tk g B ρ1) (l.map rt) [some (w, .sh), some (u, .sh), some (rt a, .sh), x] = .nx [some (w, .sh), some (u, .sh), some (rt (bsF cond a l), .sh), x']
  | [], a, x, _, _, _ => ⟨x, rfl⟩
  | p :: l, a, x, hx, ha, hl => by
    obtain ⟨g1, g2⟩ := Bool.and_eq_true_iff.mp (show (gM p && gMs l) = true from hl)
    have ha' : gM (if cond a p then p else a) = true := by split <;> assumption
    obtain ⟨x', e⟩ := row_loop3 cond B w u hB l (if cond a p then p else a) (some (rt p, .sh)) rfl ha' g2
    refine ⟨x', ?_⟩
    have e2 : (if cond a p then rt p else rt a) = rt (if cond a p then p else a) := by split <;> rfl
    simp only [List.map_cons, forL, asP3 hx, hB a p ha g1, e2]
    exact e
end
theorem ix_hd (x : W) (r : List W) : ixW (.lst (x :: r)) (.int 0) = some (x, false) := by
  have e : L2.ixN (x :: r).length 0 = some 0 := by
    unfold L2.ixN
    rw [List.length_cons]
    split <;> rename_i q <;> first | rfl | (split <;> first | rfl | omega) | omega
  show (L2.atI (x :: r) 0).map _ = _
  unfold L2.atI
  rw [e]
  rfl
def rgt (p q : Int × Int) : Bool := rls q p
/-- the first greatest, the first least of a row -/
def grR (l : List (Int × Int)) : Int × Int := match l with
  | [] => (0, 1)
  | a :: _ => bsF rls a l
def leR (l : List (Int × Int)) : Int × Int := match l with
  | [] => (0, 1)
  | a :: _ => bsF rgt a l
section
variable {fs : List FD} {tk : Tk} {g : Nat}
theorem grR_at {j jls d : Nat} (e : fs[j]? = some (FD_gr jls)) (el : fs[jls]? = some FD_ls) (hd : 2 ≤ d) {l : List (Int × Int)} (hl : gMs l = true) (h0 : l ≠ []) : run fs tk g d j [.lst (l.map rt)] = .ret (rt (grR l)) false [] := by
  obtain ⟨k, rfl⟩ : ∃ k, d = k + 1 := ⟨d - 1, by omega⟩
  rw [run_at e rfl]
  cases l with
  | nil => exact absurd rfl h0
  | cons a r =>
    obtain ⟨g1, g2⟩ := Bool.and_eq_true_iff.mp (show (gM a && gMs r) = true from hl)
    obtain ⟨x', e2⟩ := row_loop (C := run fs tk g k) (tk := tk) (g := g) rls (grB jls) (.lst ((a :: r).map rt)) (fun p q hp hq => by rw [grB_ok jls _ (rt p) (rt q) (rls p q) (ls_at el (by omega) hp hq)]) (a :: r) a none rfl g1 hl
    show ofS (FD_gr jls) (SO.thn (SO.bnd (ofO (ixW (.lst (rt a :: r.map rt)) (.int 0)) [some (.lst ((a :: r).map rt), .sh), none, none]) fun a ρ1 => ofE (asA 1 a ρ1)) fun ρ => xs (run fs tk g k) tk g (.seq (.for_ (.n 2) .seq (.cons (.var 0) .nil) (grB jls)) (.seq (.ret (.var 1)) .nil)) ρ) = _
    rw [ix_hd]
    show ofS (FD_gr jls) (SO.thn ((forL (fun w ρ => match asP (.n 2) w ρ with
      | none => SO.bad
      | some ρ1 => xs (run fs tk g k) tk g (grB jls) ρ1) ((a :: r).map rt) [some (.lst ((a :: r).map rt), .sh), some (rt a, .sh), none]).mapE fun ρ => ρ) fun ρ => xs (run fs tk g k) tk g (.seq (.ret (.var 1)) .nil) ρ) = _
    rw [e2]
    rfl
theorem leR_at {j jls d : Nat} (e : fs[j]? = some (FD_le jls)) (el : fs[jls]? = some FD_ls) (hd : 2 ≤ d) {l : List (Int × Int)} (hl : gMs l = true) (h0 : l ≠ []) : run fs tk g d j [.lst (l.map rt)] = .ret (rt (leR l)) false [] := by
  obtain ⟨k, rfl⟩ : ∃ k, d = k + 1 := ⟨d - 1, by omega⟩
  rw [run_at e rfl]
  cases l with
  | nil => exact absurd rfl h0
  | cons a r =>
    obtain ⟨g1, g2⟩ := Bool.and_eq_true_iff.mp (show (gM a && gMs r) = true from hl)
    obtain ⟨x', e2⟩ := row_loop (C := run fs tk g k) (tk := tk) (g := g) rgt (leB jls) (.lst ((a :: r).map rt)) (fun p q hp hq => by rw [leB_ok jls _ (rt p) (rt q) (rls q p) (ls_at el (by omega) hq hp)]; rfl) (a :: r) a none rfl g1 hl
    show ofS (FD_le jls) (SO.thn (SO.bnd (ofO (ixW (.lst (rt a :: r.map rt)) (.int 0)) [some (.lst ((a :: r).map rt), .sh), none, none]) fun a ρ1 => ofE (asA 1 a ρ1)) fun ρ => xs (run fs tk g k) tk g (.seq (.for_ (.n 2) .seq (.cons (.var 0) .nil) (leB jls)) (.seq (.ret (.var 1)) .nil)) ρ) = _
    rw [ix_hd]
    show ofS (FD_le jls) (SO.thn ((forL (fun w ρ => match asP (.n 2) w ρ with
      | none => SO.bad
      | some ρ1 => xs (run fs tk g k) tk g (leB jls) ρ1) ((a :: r).map rt) [some (.lst ((a :: r).map rt), .sh), some (rt a, .sh), none]).mapE fun ρ => ρ) fun ρ => xs (run fs tk g k) tk g (.seq (.ret (.var 1)) .nil) ρ) = _
    rw [e2]
    rfl
theorem bsR_at {j jls d : Nat} (e : fs[j]? = some (FD_bs jls)) (el : fs[jls]? = some FD_ls) (hd : 2 ≤ d) {l : List (Int × Int)} (hl : gMs l = true) (h0 : l ≠ []) : run fs tk g d j [.lst (l.map rt), .int 1] = .ret (rt (grR l)) false [] := by
  obtain ⟨k, rfl⟩ : ∃ k, d = k + 1 := ⟨d - 1, by omega⟩
  rw [run_at e rfl]
  cases l with
  | nil => exact absurd rfl h0
  | cons a r =>
    obtain ⟨g1, g2⟩ := Bool.and_eq_true_iff.mp (show (gM a && gMs r) = true from hl)
    obtain ⟨x', e2⟩ := row_loop3 (C := run fs tk g k) (tk := tk) (g := g) rls (bsB jls) (.lst ((a :: r).map rt)) (.int 1) (fun p q hp hq => by rw [bsB_ok jls _ (rt p) (rt q) (rls p q) (rls q p) (ls_at el (by omega) hp hq) (ls_at el (by omega) hq hp)]) (a :: r) a none rfl g1 hl
    show ofS (FD_bs jls) (SO.thn (SO.bnd (ofO (ixW (.lst (rt a :: r.map rt)) (.int 0)) [some (.lst ((a :: r).map rt), .sh), some (.int 1, .sh), none, none]) fun a ρ1 => ofE (asA 2 a ρ1)) fun ρ => xs (run fs tk g k) tk g (.seq (.for_ (.n 3) .seq (.cons (.var 0) .nil) (bsB jls)) (.seq (.ret (.var 2)) .nil)) ρ) = _
    rw [ix_hd]
    show ofS (FD_bs jls) (SO.thn ((forL (fun w ρ => match asP (.n 3) w ρ with
      | none => SO.bad
      | some ρ1 => xs (run fs tk g k) tk g (bsB jls) ρ1) ((a :: r).map rt) [some (.lst ((a :: r).map rt), .sh), some (.int 1, .sh), some (rt a, .sh), none]).mapE fun ρ => ρ) fun ρ => xs (run fs tk g k) tk g (.seq (.ret (.var 2)) .nil) ρ) = _
    rw [e2]
    rfl
theorem bsL_at {j jls d : Nat} (e : fs[j]? = some (FD_bs jls)) (el : fs[jls]? = some FD_ls) (hd : 2 ≤ d) {l : List (Int × Int)} (hl : gMs l = true) (h0 : l ≠ []) : run fs tk g d j [.lst (l.map rt), .int (-1)] = .ret (rt (leR l)) false [] := by
  obtain ⟨k, rfl⟩ : ∃ k, d = k + 1 := ⟨d - 1, by omega⟩
  rw [run_at e rfl]
  cases l with
  | nil => exact absurd rfl h0
  | cons a r =>
    obtain ⟨g1, g2⟩ := Bool.and_eq_true_iff.mp (show (gM a && gMs r) = true from hl)
    obtain ⟨x', e2⟩ := row_loop3 (C := run fs tk g k) (tk := tk) (g := g) rgt (bsB jls) (.lst ((a :: r).map rt)) (.int (-1)) (fun p q hp hq => by rw [bsB_ok' jls _ (rt p) (rt q) (rls q p) (rls p q) (ls_at el (by omega) hp hq) (ls_at el (by omega) hq hp)]; rfl) (a :: r) a none rfl g1 hl
    show ofS (FD_bs jls) (SO.thn (SO.bnd (ofO (ixW (.lst (rt a :: r.map rt)) (.int 0)) [some (.lst ((a :: r).map rt), .sh), some (.int (-1), .sh), none, none]) fun a ρ1 => ofE (asA 2 a ρ1)) fun ρ => xs (run fs tk g k) tk g (.seq (.for_ (.n 3) .seq (.cons (.var 0) .nil) (bsB jls)) (.seq (.ret (.var 2)) .nil)) ρ) = _
    rw [ix_hd]
    show ofS (FD_bs jls) (SO.thn ((forL (fun w ρ => match asP (.n 3) w ρ with
      | none => SO.bad
      | some ρ1 => xs (run fs tk g k) tk g (bsB jls) ρ1) ((a :: r).map rt) [some (.lst ((a :: r).map rt), .sh), some (.int (-1), .sh), some (rt a, .sh), none]).mapE fun ρ => ρ) fun ρ => xs (run fs tk g k) tk g (.seq (.ret (.var 2)) .nil) ρ) = _
    rw [e2]
    rfl
end

/-! ### calls by their values, by a table -/
inductive Kd | lw | pl | mi | tm | dv | ls | sr | gr | le | bs
  deriving DecidableEq
def kv2 (o : Int × Int → Int × Int → Option (Int × Int)) : List W → Option CO
  | [u, v] => match toR u, toR v with
    | some p, some q => (o p q).map fun r => .ret (rt r) false []
    | _, _ => none
  | _ => none
def kvL (o : List (Int × Int) → Option (Int × Int)) : List W → Option CO
  | [.lst us] => match toRs us with
    | some l => (o l).map fun r => .ret (rt r) false []
    | none => none
  | _ => none
def gR2 (f : Int × Int → Int × Int → Int × Int) (p q : Int × Int) : Option (Int × Int) := if (gR p && gR q) = true then some (f p q) else none
def kvB (ws : List W) : Option CO := match ws with
  | [u, v] => match toR u, toR v with
    | some p, some q => if (gM p && gM q) = true then some (.ret (.bl (rls p q)) false []) else none
    | _, _ => none
  | _ => none
def kvS (ws : List W) : Option CO := match ws with
  | [u, .int i] => if i == 1 then kvL (fun l => if (gMs l && !l.isEmpty) = true then some (grR l) else none) [u] else if i == -1 then kvL (fun l => if (gMs l && !l.isEmpty) = true then some (leR l) else none) [u] else none
  | _ => none
def kvV (k : Kd) (ws : List W) : Option CO := match k with
  | .lw => oR [0] 0 ws
  | .pl => kv2 (gR2 rpl) ws
  | .mi => kv2 (gR2 rmi) ws
  | .tm => kv2 (gR2 rtm) ws
  | .dv => kv2 (fun p q => if (gR p && (gR q && !(q.1 == 0))) = true then some (rdv p q) else none) ws
  | .ls => kvB ws
  | .sr => kvL (sumO (0, 1)) ws
  | .gr => kvL (fun l => if (gMs l && !l.isEmpty) = true then some (grR l) else none) ws
  | .le => kvL (fun l => if (gMs l && !l.isEmpty) = true then some (leR l) else none) ws
  | .bs => kvS ws
def oK (kd : List (Option Kd)) (f : Nat) (ws : List W) : Option CO := match kd[f]? with
  | some (some k) => kvV k ws
  | _ => none
/-- where such a def stands -/
inductive RK (fs : List FD) : Kd → Nat → Prop
  | lw {j : Nat} : RD fs 0 j 0 → RK fs .lw j
  | pl {j : Nat} : RD fs 1 j 0 → RK fs .pl j
  | mi {jl j : Nat} : RD fs 0 jl 0 → fs[j]? = some (FD_mi jl) → RK fs .mi j
  | ml {jp j : Nat} : RD fs 1 jp 0 → fs[j]? = some (FD_ml jp) → RK fs .mi j
  | tm {jl j : Nat} : RD fs 0 jl 0 → fs[j]? = some (FD_tm jl) → RK fs .tm j
  | dv {jl j : Nat} : RD fs 0 jl 0 → fs[j]? = some (FD_dv jl) → RK fs .dv j
  | ls {j : Nat} : fs[j]? = some FD_ls → RK fs .ls j
  | sr {j : Nat} : RD fs 2 j 0 → RK fs .sr j
  | gr {jls j : Nat} : fs[jls]? = some FD_ls → fs[j]? = some (FD_gr jls) → RK fs .gr j
  | le {jls j : Nat} : fs[jls]? = some FD_ls → fs[j]? = some (FD_le jls) → RK fs .le j
  | bs {jls j : Nat} : fs[jls]? = some FD_ls → fs[j]? = some (FD_bs jls) → RK fs .bs j
theorem kv2_inv {o : Int × Int → Int × Int → Option (Int × Int)} {ws : List W} {r : CO} (h : kv2 o ws = some r) : ∃ p q v, ws = [rt p, rt q] ∧ o p q = some v ∧ r = .ret (rt v) false [] := by
  unfold kv2 at h
  split at h
  · rename_i u v
    split at h
    · rename_i p q e1 e2
      obtain ⟨x, e3, e4⟩ := Option.map_eq_some_iff.mp h
      exact ⟨p, q, x, by rw [toR_ok e1, toR_ok e2], e3, e4.symm⟩
    · cases h
  · cases h
theorem kvL_inv {o : List (Int × Int) → Option (Int × Int)} {ws : List W} {r : CO} (h : kvL o ws = some r) : ∃ l v, ws = [.lst (l.map rt)] ∧ o l = some v ∧ r = .ret (rt v) false [] := by
  unfold kvL at h
  split at h
  · rename_i us
    split at h
    · rename_i l e1
      obtain ⟨x, e3, e4⟩ := Option.map_eq_some_iff.mp h
      exact ⟨l, x, by rw [toRs_ok e1], e3, e4.symm⟩
    · cases h
  · cases h
theorem gR2_inv {f : Int × Int → Int × Int → Int × Int} {p q v : Int × Int} (h : gR2 f p q = some v) : gR p = true ∧ gR q = true ∧ v = f p q := by
  unfold gR2 at h
  split at h
  · rename_i k
    obtain ⟨k1, k2⟩ := Bool.and_eq_true_iff.mp k
    exact ⟨k1, k2, (Option.some.inj h).symm⟩
  · cases h
theorem row_inv {f : List (Int × Int) → Int × Int} {l : List (Int × Int)} {v : Int × Int} (h : (if (gMs l && !l.isEmpty) = true then some (f l) else none) = some v) : gMs l = true ∧ l ≠ [] ∧ v = f l := by
  split at h
  · rename_i k
    obtain ⟨k1, k2⟩ := Bool.and_eq_true_iff.mp k
    refine ⟨k1, ?_, (Option.some.inj h).symm⟩
    rintro rfl
    cases k2
  · cases h
theorem kv_ok {fs : List FD} {tk : Tk} {g : Nat} (hg : 2 ^ 9000 ≤ g) {k : Kd} {f : Nat} (R : RK fs k f) (d : Nat) (ws : List W) (r : CO) (h : kvV k ws = some r) : run fs tk g (5 + d + 1) f ws = r := by
  cases R with
  | lw R =>
    obtain ⟨a, b, rfl, hb, h1, h2, rfl, _⟩ := oR_inv h
    exact lw_at hg R (by omega) hb h1 h2
  | pl R =>
    obtain ⟨p, q, v, rfl, e, rfl⟩ := kv2_inv h
    obtain ⟨h1, h2, rfl⟩ := gR2_inv e
    exact pl_at hg R (by omega) h1 h2
  | mi R e0 =>
    obtain ⟨p, q, v, rfl, e, rfl⟩ := kv2_inv h
    obtain ⟨h1, h2, rfl⟩ := gR2_inv e
    exact mi_at hg R e0 (by omega) h1 h2
  | ml R e0 =>
    obtain ⟨p, q, v, rfl, e, rfl⟩ := kv2_inv h
    obtain ⟨h1, h2, rfl⟩ := gR2_inv e
    exact ml_at hg R e0 (by omega) h1 h2
  | tm R e0 =>
    obtain ⟨p, q, v, rfl, e, rfl⟩ := kv2_inv h
    obtain ⟨h1, h2, rfl⟩ := gR2_inv e
    exact tm_at hg R e0 (by omega) h1 h2
  | dv R e0 =>
    obtain ⟨p, q, v, rfl, e, rfl⟩ := kv2_inv h
    split at e
    · rename_i k
      obtain ⟨k1, k2⟩ := Bool.and_eq_true_iff.mp k
      obtain ⟨k2, k3⟩ := Bool.and_eq_true_iff.mp k2
      cases e
      refine dv_at hg R e0 (by omega) k1 k2 fun z => ?_
      rw [z] at k3; cases k3
    · cases e
  | ls e0 =>
    have h : kvB ws = some r := h
    unfold kvB at h
    split at h
    · rename_i u v
      split at h
      · rename_i p q e1 e2
        split at h
        · rename_i k
          obtain ⟨k1, k2⟩ := Bool.and_eq_true_iff.mp k
          cases h
          rw [toR_ok e1, toR_ok e2]
          exact ls_at e0 (by omega) k1 k2
        · cases h
      · cases h
    · cases h
  | sr R =>
    obtain ⟨l, v, rfl, e, rfl⟩ := kvL_inv h
    obtain ⟨k1, rfl⟩ := sumO_ok e
    rw [show 5 + d + 1 = (d + 2) + 4 by omega]
    exact R.sum hg k1
  | gr e1 e0 =>
    obtain ⟨l, v, rfl, e, rfl⟩ := kvL_inv h
    obtain ⟨h1, h2, rfl⟩ := row_inv e
    exact grR_at e0 e1 (by omega) h1 h2
  | le e1 e0 =>
    obtain ⟨l, v, rfl, e, rfl⟩ := kvL_inv h
    obtain ⟨h1, h2, rfl⟩ := row_inv e
    exact leR_at e0 e1 (by omega) h1 h2
  | bs e1 e0 =>
    have h : kvS ws = some r := h
    unfold kvS at h
    split at h
    · rename_i u i _
      split at h
      · rename_i k
        obtain rfl : i = 1 := eq_of_beq k
        obtain ⟨l, v, e2, e, rfl⟩ := kvL_inv h
        obtain rfl : u = .lst (l.map rt) := by simpa using e2
        obtain ⟨h1, h2, rfl⟩ := row_inv e
        exact bsR_at e0 e1 (by omega) h1 h2
      · split at h
        · rename_i k
          obtain rfl : i = -1 := eq_of_beq k
          obtain ⟨l, v, e2, e, rfl⟩ := kvL_inv h
          obtain rfl : u = .lst (l.map rt) := by simpa using e2
          obtain ⟨h1, h2, rfl⟩ := row_inv e
          exact bsL_at e0 e1 (by omega) h1 h2
        · cases h
    · cases h
theorem oK_ok {fs : List FD} {tk : Tk} {g : Nat} (hg : 2 ^ 9000 ≤ g) {kd : List (Option Kd)} (R : ∀ f k, kd[f]? = some (some k) → RK fs k f) (d f : Nat) (ws : List W) (r : CO) (h : oK kd f ws = some r) : run fs tk g (5 + d + 1) f ws = r := by
  unfold oK at h
  split at h
  · rename_i k e
    exact kv_ok hg (R f k e) d ws r h
  · cases h
end Py

namespace Py
open PySem PySem.Spec PyProof.Rows L2
/-! ### loops by what stays -/
theorem lcL_map {step : W → Env → Out (Option W)} {f : W → W} {I : Env → Prop} : ∀ {its acc : List W} {ρ : Env}, (∀ w ∈ its, ∀ ρ, I ρ → ∃ ρ', step w ρ = .ok (some (f w)) ρ' ∧ I ρ') → I ρ → ∃ ρ', lcL step its acc ρ = .ok (acc ++ its.map f) ρ' ∧ I ρ'
  | [], acc, ρ, _, hi => ⟨ρ, by simp [lcL], hi⟩
  | w :: r, acc, ρ, hs, hi => by
    obtain ⟨ρ1, e1, i1⟩ := hs w List.mem_cons_self ρ hi
    obtain ⟨ρ2, e2, i2⟩ := lcL_map (its := r) (acc := acc ++ [f w]) (fun w h => hs w (List.mem_cons_of_mem _ h)) i1
    refine ⟨ρ2, ?_, i2⟩
    simp only [lcL, e1]
    rw [e2]
    simp
theorem lcL_ex {step : W → Env → Out (Option W)} {I : Env → Prop} {P : W → Prop} : ∀ {its acc : List W} {ρ : Env}, (∀ w ∈ its, ∀ ρ, I ρ → ∃ y ρ', step w ρ = .ok (some y) ρ' ∧ I ρ' ∧ P y) → I ρ → ∃ ys ρ', lcL step its acc ρ = .ok (acc ++ ys) ρ' ∧ I ρ' ∧ ys.length = its.length ∧ ∀ y ∈ ys, P y
  | [], acc, ρ, _, hi => ⟨[], ρ, by simp [lcL], hi, rfl, fun y h => nomatch h⟩
  | w :: r, acc, ρ, hs, hi => by
    obtain ⟨y, ρ1, e1, i1, p1⟩ := hs w List.mem_cons_self ρ hi
    obtain ⟨ys, ρ2, e2, i2, l2, p2⟩ := lcL_ex (its := r) (acc := acc ++ [y]) (fun w h => hs w (List.mem_cons_of_mem _ h)) i1
    refine ⟨y :: ys, ρ2, ?_, i2, by simp [l2], fun z hz => ?_⟩
    · simp only [lcL, e1]
      rw [e2]
      simp
    · rcases List.mem_cons.mp hz with rfl | hz
      · exact p1
      · exact p2 z hz
theorem forL_all {step : W → Env → SO} {I : List W → Env → Prop} : ∀ {its done : List W} {ρ : Env}, (∀ d w r, done ++ its = d ++ w :: r → done.length ≤ d.length → ∀ ρ, I d ρ → ∃ ρ', step w ρ = .nx ρ' ∧ I (d ++ [w]) ρ') → I done ρ → ∃ ρ', forL step its ρ = .nx ρ' ∧ I (done ++ its) ρ'
  | [], done, ρ, _, hi => ⟨ρ, rfl, by simpa using hi⟩
  | w :: r, done, ρ, hs, hi => by
    obtain ⟨ρ1, e1, i1⟩ := hs done w r rfl (Nat.le_refl _) ρ hi
    obtain ⟨ρ2, e2, i2⟩ := forL_all (its := r) (done := done ++ [w]) (fun d w' r' e hd => hs d w' r' (by simpa using e) (by simp at hd; omega)) i1
    refine ⟨ρ2, ?_, by simpa using i2⟩
    simp only [forL, e1]
    exact e2
theorem forL_rng {step : W → Env → SO} {I : Int → Env → Prop} : ∀ (n : Nat) {a : Int} {ρ : Env}, (∀ i ρ, a ≤ i → i < a + n → I i ρ → ∃ ρ', step (.int i) ρ = .nx ρ' ∧ I (i + 1) ρ') → I a ρ → ∃ ρ', forL step (rngL n a) ρ = .nx ρ' ∧ I (a + n) ρ'
  | 0, a, ρ, _, hi => ⟨ρ, rfl, by simpa using hi⟩
  | n + 1, a, ρ, hs, hi => by
    obtain ⟨ρ1, e1, i1⟩ := hs a ρ (Int.le_refl _) (by omega) hi
    obtain ⟨ρ2, e2, i2⟩ := forL_rng n (a := a + 1) (fun i ρ h1 h2 => hs i ρ (by omega) (by omega)) i1
    refine ⟨ρ2, ?_, by rw [show a + ((n + 1 : Nat) : Int) = a + 1 + n by omega]; exact i2⟩
    simp only [rngL, forL, e1]
    exact e2
/-! ### small things about values -/
theorem isD_rt (p : Int × Int) : isD (rt p) = false := rfl
theorem ne_rt (p : Int × Int) : cmpW .ne (rt p) (rt p) = some false := by
  show (if eqOk (rt p) (rt p) then some (!eqW (rt p) (rt p)) else none) = _
  rw [if_pos (show eqOk (rt p) (rt p) = true from rfl)]
  simp [rt, eqW, eqWs]
theorem neI (i : Int) : cmpW .ne (.int i) (.int i) = some false := by
  show (if eqOk (.int i) (.int i) then some (!eqW (.int i) (.int i)) else none) = _
  rw [if_pos (show eqOk (.int i) (.int i) = true from rfl)]
  simp [eqW]
theorem lk_mem {k v : W} : ∀ {kvs : List (W × W)}, lkW k kvs = some v → ∃ k', (k', v) ∈ kvs ∧ eqW k' k = true
  | [], h => by cases h
  | (a, u) :: r, h => by
    simp only [lkW] at h
    by_cases e : eqW a k = true
    · rw [if_pos e] at h
      cases h
      exact ⟨a, List.mem_cons_self, e⟩
    · rw [if_neg e] at h
      obtain ⟨k', m, e'⟩ := lk_mem h
      exact ⟨k', List.mem_cons_of_mem _ m, e'⟩
theorem pt_lk {k v : W} (hk : eqW k k = true) : ∀ (kvs : List (W × W)), lkW k (ptW k v kvs) = some v
  | [] => by simp [ptW, lkW, hk]
  | (a, u) :: r => by
    by_cases e : eqW a k = true
    · simp [ptW, lkW, e]
    · simp [ptW, lkW, e, pt_lk hk r]
theorem pt_ne {k k' v : W} (h0 : eqW k k' = false) : ∀ (kvs : List (W × W)), (∀ p ∈ kvs, ¬ (eqW p.1 k = true ∧ eqW p.1 k' = true)) → lkW k' (ptW k v kvs) = lkW k' kvs
  | [], _ => by simp [ptW, lkW, h0]
  | (a, u) :: r, h => by
    have ha : ¬ (eqW a k = true ∧ eqW a k' = true) := h (a, u) List.mem_cons_self
    by_cases e : eqW a k = true
    · have e' : eqW a k' = false := by
        cases q : eqW a k' with
        | false => rfl
        | true => exact absurd ⟨e, q⟩ ha
      simp [ptW, lkW, e, e']
    · have ih := pt_ne (k := k) (k' := k') (v := v) h0 r (fun p hp => h p (List.mem_cons_of_mem _ hp))
      show lkW k' (if eqW a k = true then (a, v) :: r else (a, u) :: ptW k v r) = _
      rw [if_neg e]
      simp only [lkW, ih]
theorem ptw_len (k v : W) : ∀ (kvs : List (W × W)), (ptW k v kvs).length ≤ kvs.length + 1
  | [] => by simp [ptW]
  | (a, u) :: r => by
    by_cases e : eqW a k = true
    · simp [ptW, e]
    · have := ptw_len k v r
      simp [ptW, e]; omega
theorem pt_key {k v : W} {p : W × W} : ∀ {kvs : List (W × W)}, p ∈ ptW k v kvs → p.1 = k ∨ ∃ q ∈ kvs, q.1 = p.1
  | [], h => by
    simp only [ptW, List.mem_singleton] at h
    subst h
    exact .inl rfl
  | (a, u) :: r, h => by
    by_cases e : eqW a k = true
    · simp only [ptW, e, if_true, List.mem_cons] at h
      rcases h with h | h
      · subst h; exact .inr ⟨(a, u), List.mem_cons_self, rfl⟩
      · exact .inr ⟨p, List.mem_cons_of_mem _ h, rfl⟩
    · rw [show ptW k v ((a, u) :: r) = (a, u) :: ptW k v r from if_neg e] at h
      rcases List.mem_cons.mp h with h | h
      · subst h; exact .inr ⟨(a, u), List.mem_cons_self, rfl⟩
      · exact (pt_key h).imp id fun ⟨q, h1, h2⟩ => ⟨q, List.mem_cons_of_mem _ h1, h2⟩
/-! ### bits -/
theorem bd.z {k : Nat} {p : Int × Int} (h : bd k p) : p.2 ≠ 0 := by have := h.2.1; omega
theorem one_bd : bd 1 (1, 1) := ⟨by decide, by decide, by decide⟩
theorem bsF_P {P : Int × Int → Prop} (cond : Int × Int → Int × Int → Bool) : ∀ (l : List (Int × Int)) (a : Int × Int), P a → (∀ p ∈ l, P p) → P (bsF cond a l)
  | [], a, ha, _ => ha
  | p :: l, a, ha, hl => by
    refine bsF_P cond l _ ?_ fun q hq => hl q (List.mem_cons_of_mem _ hq)
    split
    · exact hl p List.mem_cons_self
    · exact ha
theorem gMs_of {l : List (Int × Int)} (h : ∀ p ∈ l, gM p = true) : gMs l = true := List.all_eq_true.mpr h
/-- in a row, by the place of the first -/
theorem idx_some {y : W} : ∀ {l : List W}, (∃ w ∈ l, eqW w y = true) → ∃ n, idxW y l = some n
  | [], h => by obtain ⟨w, h, _⟩ := h; cases h
  | a :: r, h => by
    by_cases e : eqW a y = true
    · exact ⟨0, by simp [idxW, e]⟩
    · obtain ⟨w, hw, q⟩ := h
      rcases List.mem_cons.mp hw with rfl | hw
      · exact absurd q e
      · obtain ⟨n, hn⟩ := idx_some ⟨w, hw, q⟩
        exact ⟨n + 1, by simp [idxW, e, hn]⟩
theorem deps_rt : ∀ (l : List (Int × Int)), deps (l.map rt) ≤ 1
  | [] => by simp [deps]
  | p :: l => by
    have := deps_rt l
    have h : dep (rt p) = 1 := rfl
    simp only [List.map_cons, deps, h]
    omega
theorem eq_rt (p : Int × Int) : eqW (rt p) (rt p) = true := by simp [rt, eqW, eqWs]
theorem sz1 : 1 ≤ szL := by have : szL = 16777216 := rfl; omega
theorem sz2 : 2 ≤ szL := by have : szL = 16777216 := rfl; omega
theorem sz3 : 3 ≤ szL := by have : szL = 16777216 := rfl; omega
theorem sz4 : 4 ≤ szL := by have : szL = 16777216 := rfl; omega
theorem if_sz1 {α : Type} (a b : α) (w : W) : (if [w].length ≤ szL then a else b) = a := if_pos sz1
/-! ### a comprehension, a loop -/
theorem lc_ok {C : Fn} {elt t es : E} {p : Pt} {k : IK} {own : List Nat} {ρ ρ1 ρ3 : Env} {us : List Arg} {its outs : List W} (ha : (ev C es).a ρ = .ok us ρ1) (hb : (ress ρ1 us).bind (itW k) = some its) (hz : its.length ≤ szL) (hl : lcL (stepE own p (ev C t).t (ev C elt).x) its [] (lkE ρ1 us) = .ok outs ρ3) :
    (ev C (.lc elt p t k es own)).x ρ = .ok (.val (.lst outs) true) (ulE ρ1 (rsE (lkE ρ1 us) ρ3 own) us) := by
  have e : (ev C (.lc elt p t k es own)).x ρ = ((ev C es).a ρ).bind fun us ρ1 => match (ress ρ1 us).bind (itW k) with
      | none => .bad
      | some its => match lcL (stepE own p (ev C t).t (ev C elt).x) its [] (lkE ρ1 us) with
        | .ok acc ρ3 => if its.length ≤ szL then .ok (.val (.lst acc) true) (ulE ρ1 (rsE (lkE ρ1 us) ρ3 own) us) else .bad
        | _ => .bad := rfl
  rw [e, ha]
  simp only [Out.bind_ok, hb, hl, if_pos hz]
def stF (C : Fn) (tk : Tk) (g : Nat) (p : Pt) (b : S) (w : W) (ρ : Env) : SO := match asP p w ρ with
  | none => .bad
  | some ρ1 => xs C tk g b ρ1
theorem stF_ok {C : Fn} {tk : Tk} {g : Nat} {p : Pt} {b : S} {w : W} {ρ ρ1 : Env} (h : asP p w ρ = some ρ1) : stF C tk g p b w ρ = xs C tk g b ρ1 := by
  unfold stF
  rw [h]
theorem for_ok {C : Fn} {tk : Tk} {g : Nat} {es : E} {p : Pt} {k : IK} {b : S} {ρ ρ1 : Env} {us : List Arg} {its : List W} (ha : (ev C es).a ρ = .ok us ρ1) (hb : (ress ρ1 us).bind (itW k) = some its) :
    xs C tk g (.for_ p k es b) ρ = (forL (stF C tk g p b) its (lkE ρ1 us)).mapE fun ρ3 => ulE ρ1 ρ3 us := by
  have e : xs C tk g (.for_ p k es b) ρ = SO.bnd ((ev C es).a ρ) fun us ρ1 => match (ress ρ1 us).bind (itW k) with
    | none => .bad
    | some its => (forL (stF C tk g p b) its (lkE ρ1 us)).mapE fun ρ3 => ulE ρ1 ρ3 us := rfl
  rw [e, ha]
  simp only [SO.bnd_ok, hb]
/-- a comprehension's turn without a test -/
theorem step_ok {C : Fn} {elt : E} {p : Pt} {own : List Nat} {w y : W} {ρ ρ1 ρ2 : Env} (h1 : asP p w (wpE ρ own) = some ρ1) (h2 : stepV (ev C elt).x ρ1 = .ok (some y) ρ2) : stepE own p (ev C .nil).t (ev C elt).x w ρ = .ok (some y) ρ2 := by
  unfold stepE
  rw [h1]
  exact h2
theorem seq_nx {C : Fn} {tk : Tk} {g : Nat} {s r : S} {ρ ρ1 : Env} (h : xs C tk g s ρ = .nx ρ1) : xs C tk g (.seq s r) ρ = xs C tk g r ρ1 := by
  show SO.thn (xs C tk g s ρ) (fun ρ => xs C tk g r ρ) = _
  rw [h]
  rfl
theorem seq_rt {C : Fn} {tk : Tk} {g : Nat} {s r : S} {ρ ρ1 : Env} {w : W} {f : Bool} (h : xs C tk g s ρ = .rt w f ρ1) : xs C tk g (.seq s r) ρ = .rt w f ρ1 := by
  show SO.thn (xs C tk g s ρ) (fun ρ => xs C tk g r ρ) = _
  rw [h]
  rfl
end Py

namespace K21
open PySem PySem.Spec PyProof.Rows L2 Py
def top (i : Nat) : Stmt := PySem.Challenge.pw_worthstopping_k21_spreads_of_gains.main.body.getD i (.Pass ⟨0, 0, 0, 0⟩)
def dd (i : Nat) (n : Str) : He.DefD := ⟨(n, none), n, n, defArgs (top i), defBody (top i), defScope (top i), [], []⟩
def S_common : S := (.seq (.par [0, 1] (.cons (.bi .abs (.cons (.var 0) .nil)) (.cons (.bi .abs (.cons (.var 1) .nil)) .nil))) (.seq (.whl (.var 1) (.seq (.par [0, 1] (.cons (.var 1) (.cons (.op .md (.var 0) (.var 1)) .nil))) .nil)) (.seq (.ret (.var 0)) .nil)))
def I_common : Info := ⟨dd 6 "common", ["a", "b"], ["a", "b"], ⟨2, [false, false], S_common⟩⟩
def S_lowest : S := (.seq (.asn 2 (.call 0 [false, false] (.cons (.var 0) (.cons (.var 1) .nil)))) (.seq (.asn 3 (.ite (.cmp .gt (.var 1) (.con (.int 0))) (.con (.int 1)) (.neg (.con (.int 1))))) (.seq (.ret (.tup (.cons (.op .fdv (.op .mul (.var 3) (.var 0)) (.var 2)) (.cons (.op .fdv (.op .mul (.var 3) (.var 1)) (.var 2)) .nil)))) .nil)))
def I_lowest : Info := ⟨dd 7 "lowest", ["a", "b"], ["a", "b", "divisor", "sign"], ⟨4, [false, false], S_lowest⟩⟩
def S_plus : S := (.seq (.ret (.call 1 [false, false] (.cons (.op .add (.op .mul (.ix (.var 0) (.con (.int 0))) (.ix (.var 1) (.con (.int 1)))) (.op .mul (.ix (.var 1) (.con (.int 0))) (.ix (.var 0) (.con (.int 1))))) (.cons (.op .mul (.ix (.var 0) (.con (.int 1))) (.ix (.var 1) (.con (.int 1)))) .nil)))) .nil)
def I_plus : Info := ⟨dd 8 "plus", ["p", "q"], ["p", "q"], ⟨2, [false, false], S_plus⟩⟩
def S_minus : S := (.seq (.ret (.call 1 [false, false] (.cons (.op .sub (.op .mul (.ix (.var 0) (.con (.int 0))) (.ix (.var 1) (.con (.int 1)))) (.op .mul (.ix (.var 1) (.con (.int 0))) (.ix (.var 0) (.con (.int 1))))) (.cons (.op .mul (.ix (.var 0) (.con (.int 1))) (.ix (.var 1) (.con (.int 1)))) .nil)))) .nil)
def I_minus : Info := ⟨dd 9 "minus", ["p", "q"], ["p", "q"], ⟨2, [false, false], S_minus⟩⟩
def S_times : S := (.seq (.ret (.call 1 [false, false] (.cons (.op .mul (.ix (.var 0) (.con (.int 0))) (.ix (.var 1) (.con (.int 0)))) (.cons (.op .mul (.ix (.var 0) (.con (.int 1))) (.ix (.var 1) (.con (.int 1)))) .nil)))) .nil)
def I_times : Info := ⟨dd 10 "times", ["p", "q"], ["p", "q"], ⟨2, [false, false], S_times⟩⟩
def S_less : S := (.seq (.ret (.cmp .lt (.op .mul (.ix (.var 0) (.con (.int 0))) (.ix (.var 1) (.con (.int 1)))) (.op .mul (.ix (.var 1) (.con (.int 0))) (.ix (.var 0) (.con (.int 1)))))) .nil)
def I_less : Info := ⟨dd 11 "less", ["p", "q"], ["p", "q"], ⟨2, [false, false], S_less⟩⟩
def S_greatest : S := (.seq (.asn 1 (.ix (.var 0) (.con (.int 0)))) (.seq (.for_ (.n 2) .seq (.cons (.var 0) .nil) (.seq (.ite (.call 5 [false, false] (.cons (.var 1) (.cons (.var 2) .nil))) (.seq (.asn 1 (.var 2)) .nil) .nil) .nil)) (.seq (.ret (.var 1)) .nil)))
def I_greatest : Info := ⟨dd 12 "greatest", ["ratios"], ["ratios", "best", "one"], ⟨3, [false], S_greatest⟩⟩
def S_sum_of : S := (.seq (.asn 1 (.con (.tup [(.int 0), (.int 1)]))) (.seq (.for_ (.n 2) .seq (.cons (.var 0) .nil) (.seq (.asn 1 (.call 2 [false, false] (.cons (.var 1) (.cons (.var 2) .nil)))) .nil)) (.seq (.ret (.var 1)) .nil)))
def I_sum_of : Info := ⟨dd 13 "sum_of", ["ratios"], ["ratios", "found", "one"], ⟨3, [false], S_sum_of⟩⟩
def S_is_ratio : S := (.seq (.ite (.or (.not (.isi (.var 0) .tuple)) (.cmp .ne (.bi .len (.cons (.var 0) .nil)) (.con (.int 2)))) (.seq (.ret (.con (.bl false))) .nil) .nil) (.seq (.ite (.not (.bi .all (.cons (.lc (.and (.isi (.var 1) .int) (.not (.isi (.var 1) .bool))) (.n 1) .nil .seq (.cons (.var 0) .nil) [1]) .nil))) (.seq (.ret (.con (.bl false))) .nil) .nil) (.seq (.ret (.and (.cmp .ge (.ix (.var 0) (.con (.int 1))) (.con (.int 1))) (.cmp .eq (.call 0 [false, false] (.cons (.ix (.var 0) (.con (.int 0))) (.cons (.ix (.var 0) (.con (.int 1))) .nil))) (.con (.int 1))))) .nil)))
def I_is_ratio : Info := ⟨dd 14 "is_ratio", ["value"], ["value", "one"], ⟨2, [false], S_is_ratio⟩⟩
def S_is_chance : S := (.seq (.ret (.and (.call 8 [false] (.cons (.var 0) .nil)) (.cmp2 .le .le (.con (.int 0)) (.ix (.var 0) (.con (.int 0))) (.ix (.var 0) (.con (.int 1)))))) .nil)
def I_is_chance : Info := ⟨dd 15 "is_chance", ["value"], ["value"], ⟨1, [false], S_is_chance⟩⟩
def S_is_gain : S := (.seq (.ret (.and (.call 8 [false] (.cons (.var 0) .nil)) (.and (.cmp .le (.bi .abs (.cons (.ix (.var 0) (.con (.int 0))) .nil)) (.con (.int 999999))) (.cmp .le (.ix (.var 0) (.con (.int 1))) (.con (.int 999999)))))) .nil)
def I_is_gain : Info := ⟨dd 18 "is_gain", ["value"], ["value"], ⟨1, [false], S_is_gain⟩⟩
def S_in_size : S := (.seq (.asn 1 (.lst .nil)) (.seq (.for_ (.n 2) .seq (.cons (.var 0) .nil) (.seq (.asn 3 (.bi .len (.cons (.lc (.var 4) (.n 4) (.call 5 [false, false] (.cons (.ix (.var 4) (.con (.int 0))) (.cons (.ix (.var 2) (.con (.int 0))) .nil))) .seq (.cons (.var 1) .nil) [4]) .nil))) (.seq (.mut .insert 1 (.cons (.var 3) (.cons (.var 2) .nil))) .nil))) (.seq (.ret (.bi .tuple (.cons (.var 1) .nil))) .nil)))
def I_in_size : Info := ⟨dd 19 "in_size", ["pairs"], ["pairs", "found", "pair", "k", "one"], ⟨5, [false], S_in_size⟩⟩
def S_is_spread : S := (.seq (.ite (.or (.not (.isi (.var 0) .tuple)) (.not (.bi .all (.cons (.lc (.and (.isi (.var 2) .tuple) (.cmp .eq (.bi .len (.cons (.var 2) .nil)) (.con (.int 2)))) (.n 2) .nil .seq (.cons (.var 0) .nil) [2]) .nil)))) (.seq (.ret (.con (.bl false))) .nil) .nil) (.seq (.ite (.not (.bi .all (.cons (.lc (.and (.call 10 [false] (.cons (.var 4) .nil)) (.and (.call 9 [false] (.cons (.var 3) .nil)) (.cmp .ne (.var 3) (.con (.tup [(.int 0), (.int 1)]))))) (.t (.cons (.n 4) (.cons (.n 3) .nil))) .nil .seq (.cons (.var 0) .nil) [4, 3]) .nil))) (.seq (.ret (.con (.bl false))) .nil) .nil) (.seq (.asn 1 (.bi .all (.cons (.lc (.call 5 [false, false] (.cons (.ix (.var 2) (.con (.int 0))) (.cons (.ix (.var 5) (.con (.int 0))) .nil))) (.t (.cons (.n 2) (.cons (.n 5) .nil))) .nil .zip (.cons (.var 0) (.cons (.slc (.var 0) true false (.con (.int 1)) .nil) .nil)) [2, 5]) .nil))) (.seq (.ret (.and (.var 1) (.cmp .eq (.call 7 [false] (.cons (.lc (.var 3) (.t (.cons (.n 6) (.cons (.n 3) .nil))) .nil .seq (.cons (.var 0) .nil) [6, 3]) .nil)) (.con (.tup [(.int 1), (.int 1)]))))) .nil))))
def I_is_spread : Info := ⟨dd 21 "is_spread", ["value"], ["value", "rising", "one", "chance", "gain", "other", "_"], ⟨7, [false], S_is_spread⟩⟩
def S_check_spread : S := (.seq (.ite (.not (.call 12 [false] (.cons (.var 0) .nil))) (.seq (.rais 0 .nil) .nil) .nil) .nil)
def I_check_spread : Info := ⟨dd 22 "check_spread", ["spread"], ["spread"], ⟨1, [false], S_check_spread⟩⟩
def S_gathered : S := (.seq (.asn 1 (.dsp .nil)) (.seq (.for_ (.t (.cons (.n 2) (.cons (.n 3) .nil))) .seq (.cons (.var 0) .nil) (.seq (.ite (.cmp .ne (.var 3) (.con (.tup [(.int 0), (.int 1)]))) (.seq (.six 1 (.var 2) (.call 2 [false, false] (.cons (.mth .get (.var 1) (.cons (.var 2) (.cons (.con (.tup [(.int 0), (.int 1)])) .nil))) (.cons (.var 3) .nil)))) .nil) .nil) .nil)) (.seq (.ret (.call 11 [false] (.cons (.mth .litems (.var 1) .nil) .nil))) .nil)))
def I_gathered : Info := ⟨dd 23 "gathered", ["pairs"], ["pairs", "found", "gain", "chance"], ⟨4, [false], S_gathered⟩⟩
def S_mean_of : S := (.seq (.ret (.call 7 [false] (.cons (.lc (.call 4 [false, false] (.cons (.var 2) (.cons (.var 1) .nil))) (.t (.cons (.n 2) (.cons (.n 1) .nil))) .nil .seq (.cons (.var 0) .nil) [2, 1]) .nil))) .nil)
def I_mean_of : Info := ⟨dd 24 "mean_of", ["spread"], ["spread", "chance", "gain"], ⟨3, [false], S_mean_of⟩⟩
def S_variance_of : S := (.seq (.asn 1 (.call 15 [false] (.cons (.var 0) .nil))) (.seq (.ret (.call 7 [false] (.cons (.lc (.call 4 [false, false] (.cons (.var 2) (.cons (.call 4 [false, false] (.cons (.call 3 [false, false] (.cons (.var 3) (.cons (.var 1) .nil))) (.cons (.call 3 [false, false] (.cons (.var 3) (.cons (.var 1) .nil))) .nil))) .nil))) (.t (.cons (.n 3) (.cons (.n 2) .nil))) .nil .seq (.cons (.var 0) .nil) [3, 2]) .nil))) .nil))
def I_variance_of : Info := ⟨dd 25 "variance_of", ["spread"], ["spread", "mean", "chance", "gain"], ⟨4, [false], S_variance_of⟩⟩
def S_chance_up_to : S := (.seq (.ret (.call 7 [false] (.cons (.lc (.var 2) (.t (.cons (.n 3) (.cons (.n 2) .nil))) (.not (.call 5 [false, false] (.cons (.var 1) (.cons (.var 3) .nil)))) .seq (.cons (.var 0) .nil) [3, 2]) .nil))) .nil)
def I_chance_up_to : Info := ⟨dd 26 "chance_up_to", ["spread", "z"], ["spread", "z", "chance", "gain"], ⟨4, [false, false], S_chance_up_to⟩⟩
def S_short_of : S := (.seq (.ret (.call 7 [false] (.cons (.lc (.call 4 [false, false] (.cons (.var 2) (.cons (.call 3 [false, false] (.cons (.var 1) (.cons (.var 3) .nil))) .nil))) (.t (.cons (.n 3) (.cons (.n 2) .nil))) (.call 5 [false, false] (.cons (.var 3) (.cons (.var 1) .nil))) .seq (.cons (.var 0) .nil) [3, 2]) .nil))) .nil)
def I_short_of : Info := ⟨dd 27 "short_of", ["spread", "z"], ["spread", "z", "chance", "gain"], ⟨4, [false, false], S_short_of⟩⟩
def S_mixed_spread : S := (.seq (.asn 2 (.lst .nil)) (.seq (.for_ (.t (.cons (.n 3) (.cons (.n 4) .nil))) .zip (.cons (.var 0) (.cons (.var 1) .nil)) (.seq (.mut .extend 2 (.cons (.lc (.tup (.cons (.var 6) (.cons (.call 4 [false, false] (.cons (.var 4) (.cons (.var 5) .nil))) .nil))) (.t (.cons (.n 6) (.cons (.n 5) .nil))) .nil .seq (.cons (.var 3) .nil) [6, 5]) .nil)) .nil)) (.seq (.ret (.call 14 [false] (.cons (.var 2) .nil))) .nil)))
def I_mixed_spread : Info := ⟨dd 28 "mixed_spread", ["spreads", "mix"], ["spreads", "mix", "pairs", "spread", "weight", "chance", "gain"], ⟨7, [false, false], S_mixed_spread⟩⟩
def S_sum_spread : S := (.seq (.ret (.call 14 [false] (.cons (.lc2 (.tup (.cons (.call 2 [false, false] (.cons (.var 2) (.cons (.var 3) .nil))) (.cons (.call 4 [false, false] (.cons (.var 4) (.cons (.var 5) .nil))) .nil))) (.t (.cons (.n 2) (.cons (.n 4) .nil))) .nil .seq (.cons (.var 0) .nil) (.t (.cons (.n 3) (.cons (.n 5) .nil))) .nil .seq (.cons (.var 1) .nil) [2, 4, 3, 5]) .nil))) .nil)
def I_sum_spread : Info := ⟨dd 29 "sum_spread", ["one", "other"], ["one", "other", "a", "b", "p", "q"], ⟨6, [false, false], S_sum_spread⟩⟩
def S_greater_spread : S := (.seq (.ret (.call 14 [false] (.cons (.lc2 (.tup (.cons (.call 6 [false] (.cons (.lst (.cons (.var 2) (.cons (.var 3) .nil))) .nil)) (.cons (.call 4 [false, false] (.cons (.var 4) (.cons (.var 5) .nil))) .nil))) (.t (.cons (.n 2) (.cons (.n 4) .nil))) .nil .seq (.cons (.var 0) .nil) (.t (.cons (.n 3) (.cons (.n 5) .nil))) .nil .seq (.cons (.var 1) .nil) [2, 4, 3, 5]) .nil))) .nil)
def I_greater_spread : Info := ⟨dd 30 "greater_spread", ["one", "other"], ["one", "other", "a", "b", "p", "q"], ⟨6, [false, false], S_greater_spread⟩⟩
def S_level_of : S := (.seq (.for_ (.t (.cons (.n 2) (.cons (.n 3) .nil))) .seq (.cons (.var 0) .nil) (.seq (.ite (.not (.call 5 [false, false] (.cons (.call 17 [false, false] (.cons (.var 0) (.cons (.var 2) .nil))) (.cons (.var 1) .nil)))) (.seq (.ret (.var 2)) .nil) .nil) .nil)) (.seq (.ret (.ix (.ix (.var 0) (.neg (.con (.int 1)))) (.con (.int 0)))) .nil))
def I_level_of : Info := ⟨dd 31 "level_of", ["spread", "chance"], ["spread", "chance", "gain", "_"], ⟨4, [false, false], S_level_of⟩⟩
def S__law_draw : S := (.seq (.asn 1 (.con (.int 7))) (.seq (.for_ (.n 2) .seq (.cons (.var 0) .nil) (.seq (.asn 1 (.op .md (.bi .int (.cons (.op .add (.op .add (.op .mul (.var 1) (.con (.int 48271))) (.op .md (.bi .abs (.cons (.bi .int (.cons (.var 2) .nil)) .nil)) (.con (.int 65521)))) (.con (.int 1))) .nil)) (.con (.int 2147483647)))) .nil)) (.seq (.ret (.lst (.cons (.lc (.bi .abs (.cons (.bi .int (.cons (.var 2) .nil)) .nil)) (.n 2) .nil .seq (.cons (.var 0) .nil) [2]) (.cons (.neg (.con (.int 1))) (.cons (.con (.int 0)) (.cons (.var 1) .nil)))))) .nil)))
def I__law_draw : Info := ⟨dd 33 "_law_draw", ["script"], ["script", "seed", "cell"], ⟨3, [false], S__law_draw⟩⟩
def S__law_take : S := (.seq (.ite (.cmp .eq (.ix (.var 0) (.con (.int 2))) (.con (.int 0))) (.seq (.six 0 (.con (.int 1)) (.op .add (.ix (.var 0) (.con (.int 1))) (.con (.int 1)))) (.seq (.ite (.cmp .lt (.ix (.var 0) (.con (.int 1))) (.bi .len (.cons (.ix (.var 0) (.con (.int 0))) .nil))) (.seq (.six 0 (.con (.int 2)) (.ix (.ix (.var 0) (.con (.int 0))) (.ix (.var 0) (.con (.int 1))))) .nil) .nil) (.seq (.ite (.cmp .eq (.ix (.var 0) (.con (.int 2))) (.con (.int 0))) (.seq (.six 0 (.con (.int 3)) (.op .md (.bi .int (.cons (.op .add (.op .mul (.ix (.var 0) (.con (.int 3))) (.con (.int 48271))) (.con (.int 11))) .nil)) (.con (.int 2147483647)))) (.seq (.six 0 (.con (.int 2)) (.ix (.var 0) (.con (.int 3)))) .nil)) .nil) .nil))) .nil) (.seq (.asn 2 (.op .md (.bi .int (.cons (.ix (.var 0) (.con (.int 2))) .nil)) (.var 1))) (.seq (.six 0 (.con (.int 2)) (.op .fdv (.ix (.var 0) (.con (.int 2))) (.var 1))) (.seq (.ret (.var 2)) .nil))))
def I__law_take : Info := ⟨dd 34 "_law_take", ["draw", "many"], ["draw", "many", "found"], ⟨3, [true, false], S__law_take⟩⟩
def S__law_lowest : S := (.seq (.par [2, 3] (.cons (.bi .abs (.cons (.var 0) .nil)) (.cons (.bi .abs (.cons (.var 1) .nil)) .nil))) (.seq (.whl (.cmp .ne (.var 3) (.con (.int 0))) (.seq (.par [2, 3] (.cons (.var 3) (.cons (.op .sub (.var 2) (.op .mul (.var 3) (.op .fdv (.var 2) (.var 3)))) .nil))) .nil)) (.seq (.ret (.ite (.cmp .gt (.var 1) (.con (.int 0))) (.tup (.cons (.op .fdv (.var 0) (.var 2)) (.cons (.op .fdv (.var 1) (.var 2)) .nil))) (.tup (.cons (.op .fdv (.neg (.var 0)) (.var 2)) (.cons (.op .fdv (.neg (.var 1)) (.var 2)) .nil))))) .nil)))
def I__law_lowest : Info := ⟨dd 35 "_law_lowest", ["a", "b"], ["a", "b", "c", "d"], ⟨4, [false, false], S__law_lowest⟩⟩
def S__law_plus : S := (.seq (.ret (.call 25 [false, false] (.cons (.op .add (.op .mul (.ix (.var 0) (.con (.int 0))) (.ix (.var 1) (.con (.int 1)))) (.op .mul (.ix (.var 1) (.con (.int 0))) (.ix (.var 0) (.con (.int 1))))) (.cons (.op .mul (.ix (.var 0) (.con (.int 1))) (.ix (.var 1) (.con (.int 1)))) .nil)))) .nil)
def I__law_plus : Info := ⟨dd 36 "_law_plus", ["p", "q"], ["p", "q"], ⟨2, [false, false], S__law_plus⟩⟩
def S__law_times : S := (.seq (.ret (.call 25 [false, false] (.cons (.op .mul (.ix (.var 0) (.con (.int 0))) (.ix (.var 1) (.con (.int 0)))) (.cons (.op .mul (.ix (.var 0) (.con (.int 1))) (.ix (.var 1) (.con (.int 1)))) .nil)))) .nil)
def I__law_times : Info := ⟨dd 37 "_law_times", ["p", "q"], ["p", "q"], ⟨2, [false, false], S__law_times⟩⟩
def S__law_minus : S := (.seq (.ret (.call 26 [false, false] (.cons (.var 0) (.cons (.tup (.cons (.neg (.ix (.var 1) (.con (.int 0)))) (.cons (.ix (.var 1) (.con (.int 1))) .nil))) .nil)))) .nil)
def I__law_minus : Info := ⟨dd 38 "_law_minus", ["p", "q"], ["p", "q"], ⟨2, [false, false], S__law_minus⟩⟩
def S__law_less : S := (.seq (.ret (.cmp .lt (.op .mul (.ix (.var 0) (.con (.int 0))) (.ix (.var 1) (.con (.int 1)))) (.op .mul (.ix (.var 1) (.con (.int 0))) (.ix (.var 0) (.con (.int 1)))))) .nil)
def I__law_less : Info := ⟨dd 40 "_law_less", ["p", "q"], ["p", "q"], ⟨2, [false, false], S__law_less⟩⟩
def S__law_sum : S := (.seq (.asn 1 (.tup (.cons (.con (.int 0)) (.cons (.con (.int 1)) .nil)))) (.seq (.for_ (.n 2) .seq (.cons (.var 0) .nil) (.seq (.asn 1 (.call 26 [false, false] (.cons (.var 1) (.cons (.var 2) .nil)))) .nil)) (.seq (.ret (.var 1)) .nil)))
def I__law_sum : Info := ⟨dd 41 "_law_sum", ["row"], ["row", "found", "one"], ⟨3, [false], S__law_sum⟩⟩
def S__law_best : S := (.seq (.asn 2 (.ix (.var 0) (.con (.int 0)))) (.seq (.for_ (.n 3) .seq (.cons (.var 0) .nil) (.seq (.ite (.or (.and (.call 29 [false, false] (.cons (.var 2) (.cons (.var 3) .nil))) (.cmp .eq (.var 1) (.con (.int 1)))) (.and (.call 29 [false, false] (.cons (.var 3) (.cons (.var 2) .nil))) (.cmp .eq (.var 1) (.neg (.con (.int 1)))))) (.seq (.asn 2 (.var 3)) .nil) .nil) .nil)) (.seq (.ret (.var 2)) .nil)))
def I__law_best : Info := ⟨dd 42 "_law_best", ["row", "sign"], ["row", "sign", "found", "one"], ⟨4, [false, false], S__law_best⟩⟩
def S__law_gain : S := (.seq (.ret (.call 25 [false, false] (.cons (.op .sub (.call 24 [true, false] (.cons (.var 0) (.cons (.con (.int 13)) .nil))) (.con (.int 6))) (.cons (.op .add (.con (.int 1)) (.call 24 [true, false] (.cons (.var 0) (.cons (.con (.int 3)) .nil)))) .nil)))) .nil)
def I__law_gain : Info := ⟨dd 43 "_law_gain", ["draw"], ["draw"], ⟨1, [true], S__law_gain⟩⟩
def S__law_spread : S := (.seq (.asn 2 (.lst .nil)) (.seq (.for_ (.n 3) .rng (.cons (.op .add (.con (.int 1)) (.call 24 [true, false] (.cons (.var 0) (.cons (.var 1) .nil)))) .nil) (.seq (.asn 4 (.call 32 [true] (.cons (.var 0) .nil))) (.seq (.asn 2 (.op .add (.var 2) (.ite (.cmp .nin (.var 4) (.var 2)) (.lst (.cons (.var 4) .nil)) (.lst .nil)))) .nil))) (.seq (.asn 5 (.lst .nil)) (.seq (.whl (.cmp .ne (.var 2) (.lst .nil)) (.seq (.asn 6 (.call 31 [false, false] (.cons (.var 2) (.cons (.neg (.con (.int 1))) .nil)))) (.seq (.mut .append 5 (.cons (.var 6) .nil)) (.seq (.asn 2 (.lc (.var 4) (.n 4) (.cmp .ne (.var 4) (.var 6)) .seq (.cons (.var 2) .nil) [4])) .nil)))) (.seq (.asn 7 (.lc (.op .add (.con (.int 1)) (.call 24 [true, false] (.cons (.var 0) (.cons (.con (.int 4)) .nil)))) (.n 4) .nil .seq (.cons (.var 5) .nil) [4])) (.seq (.ret (.bi .tuple (.cons (.lc (.tup (.cons (.var 4) (.cons (.call 25 [false, false] (.cons (.var 8) (.cons (.bi .sum (.cons (.var 7) .nil)) .nil))) .nil))) (.t (.cons (.n 4) (.cons (.n 8) .nil))) .nil .zip (.cons (.var 5) (.cons (.var 7) .nil)) [4, 8]) .nil))) .nil))))))
def I__law_spread : Info := ⟨dd 44 "_law_spread", ["draw", "most"], ["draw", "most", "gains", "k", "gain", "order", "low", "weights", "weight"], ⟨9, [true, false], S__law_spread⟩⟩
def S__law_refused : S := (.seq (.try_ (.seq (.exp (.call 13 [false] (.cons (.var 0) .nil))) .nil) 0 none (.seq (.ret (.con (.bl true))) .nil)) (.seq (.ret (.con (.bl false))) .nil))
def I__law_refused : Info := ⟨dd 45 "_law_refused", ["value"], ["value"], ⟨1, [false], S__law_refused⟩⟩
def S__law_gathered : S := (.seq (.par [1, 2] (.cons (.lst .nil) (.cons (.lst .nil) .nil))) (.seq (.for_ (.t (.cons (.n 3) (.cons (.n 4) .nil))) .seq (.cons (.var 0) .nil) (.seq (.asn 1 (.op .add (.var 1) (.ite (.and (.cmp .nin (.var 3) (.var 1)) (.cmp .ne (.var 4) (.tup (.cons (.con (.int 0)) (.cons (.con (.int 1)) .nil))))) (.lst (.cons (.var 3) .nil)) (.lst .nil)))) .nil)) (.seq (.whl (.cmp .ne (.var 1) (.lst .nil)) (.seq (.asn 5 (.call 31 [false, false] (.cons (.var 1) (.cons (.neg (.con (.int 1))) .nil)))) (.seq (.mut .append 2 (.cons (.var 5) .nil)) (.seq (.asn 1 (.lc (.var 3) (.n 3) (.cmp .ne (.var 3) (.var 5)) .seq (.cons (.var 1) .nil) [3])) .nil)))) (.seq (.ret (.bi .tuple (.cons (.lc (.tup (.cons (.var 3) (.cons (.call 30 [false] (.cons (.lc (.var 4) (.t (.cons (.n 6) (.cons (.n 4) .nil))) (.cmp .eq (.var 6) (.var 3)) .seq (.cons (.var 0) .nil) [6, 4]) .nil)) .nil))) (.n 3) .nil .seq (.cons (.var 2) .nil) [3]) .nil))) .nil))))
def I__law_gathered : Info := ⟨dd 46 "_law_gathered", ["pairs"], ["pairs", "gains", "order", "gain", "chance", "low", "one"], ⟨7, [false], S__law_gathered⟩⟩
def S_law : S := (.seq (.asn 1 (.call 23 [false] (.cons (.var 0) .nil))) (.seq (.for_ (.n 2) .rng (.cons (.con (.int 2)) .nil) (.seq (.par [3, 4] (.cons (.call 33 [true, false] (.cons (.var 1) (.cons (.con (.int 4)) .nil))) (.cons (.call 33 [true, false] (.cons (.var 1) (.cons (.con (.int 3)) .nil))) .nil))) (.seq (.asn 5 (.call 30 [false] (.cons (.lc (.call 27 [false, false] (.cons (.var 20) (.cons (.var 19) .nil))) (.t (.cons (.n 20) (.cons (.n 19) .nil))) .nil .seq (.cons (.var 3) .nil) [20, 19]) .nil))) (.seq (.asn 6 (.call 30 [false] (.cons (.lc (.call 27 [false, false] (.cons (.var 19) (.cons (.call 27 [false, false] (.cons (.var 20) (.cons (.var 20) .nil))) .nil))) (.t (.cons (.n 20) (.cons (.n 19) .nil))) .nil .seq (.cons (.var 3) .nil) [20, 19]) .nil))) (.seq (.ite (.or (.cmp .isnt (.call 13 [false] (.cons (.var 3) .nil)) (.con .non)) (.or (.cmp .ne (.call 15 [false] (.cons (.var 3) .nil)) (.var 5)) (.cmp .ne (.call 16 [false] (.cons (.var 3) .nil)) (.call 28 [false, false] (.cons (.var 6) (.cons (.call 27 [false, false] (.cons (.var 5) (.cons (.var 5) .nil))) .nil)))))) (.seq (.ret (.con (.bl false))) .nil) .nil) (.seq (.asn 7 (.ix (.lst (.cons (.call 32 [true] (.cons (.var 1) .nil)) (.cons (.ix (.ix (.var 3) (.call 24 [true, false] (.cons (.var 1) (.cons (.bi .len (.cons (.var 3) .nil)) .nil)))) (.con (.int 0))) .nil))) (.call 24 [true, false] (.cons (.var 1) (.cons (.con (.int 2)) .nil))))) (.seq (.ite (.cmp .ne (.call 17 [false, false] (.cons (.var 3) (.cons (.var 7) .nil))) (.call 30 [false] (.cons (.lc (.var 19) (.t (.cons (.n 20) (.cons (.n 19) .nil))) (.not (.call 29 [false, false] (.cons (.var 7) (.cons (.var 20) .nil)))) .seq (.cons (.var 3) .nil) [20, 19]) .nil))) (.seq (.ret (.con (.bl false))) .nil) .nil) (.seq (.ite (.cmp .ne (.call 18 [false, false] (.cons (.var 3) (.cons (.var 7) .nil))) (.call 30 [false] (.cons (.lc (.call 27 [false, false] (.cons (.var 19) (.cons (.call 28 [false, false] (.cons (.var 7) (.cons (.var 20) .nil))) .nil))) (.t (.cons (.n 20) (.cons (.n 19) .nil))) (.call 29 [false, false] (.cons (.var 20) (.cons (.var 7) .nil))) .seq (.cons (.var 3) .nil) [20, 19]) .nil))) (.seq (.ret (.con (.bl false))) .nil) .nil) (.seq (.asn 8 (.ix (.lst (.cons (.tup (.cons (.con (.int 0)) (.cons (.con (.int 1)) .nil))) (.cons (.tup (.cons (.con (.int 1)) (.cons (.con (.int 2)) .nil))) (.cons (.tup (.cons (.con (.int 1)) (.cons (.con (.int 3)) .nil))) (.cons (.tup (.cons (.con (.int 1)) (.cons (.con (.int 1)) .nil))) .nil))))) (.call 24 [true, false] (.cons (.var 1) (.cons (.con (.int 4)) .nil))))) (.seq (.asn 9 (.tup (.cons (.var 8) (.cons (.call 28 [false, false] (.cons (.tup (.cons (.con (.int 1)) (.cons (.con (.int 1)) .nil))) (.cons (.var 8) .nil))) .nil)))) (.seq (.asn 10 (.op .add (.lc (.tup (.cons (.var 20) (.cons (.call 27 [false, false] (.cons (.ix (.var 9) (.con (.int 0))) (.cons (.var 19) .nil))) .nil))) (.t (.cons (.n 20) (.cons (.n 19) .nil))) .nil .seq (.cons (.var 3) .nil) [20, 19]) (.lc (.tup (.cons (.var 20) (.cons (.call 27 [false, false] (.cons (.ix (.var 9) (.con (.int 1))) (.cons (.var 19) .nil))) .nil))) (.t (.cons (.n 20) (.cons (.n 19) .nil))) .nil .seq (.cons (.var 4) .nil) [20, 19]))) (.seq (.ite (.cmp .ne (.call 19 [false, false] (.cons (.tup (.cons (.var 3) (.cons (.var 4) .nil))) (.cons (.var 9) .nil))) (.call 35 [false] (.cons (.var 10) .nil))) (.seq (.ret (.con (.bl false))) .nil) .nil) (.seq (.par [11, 12] (.cons (.lst .nil) (.cons (.lst .nil) .nil))) (.seq (.for_ (.t (.cons (.n 13) (.cons (.n 14) .nil))) .seq (.cons (.var 3) .nil) (.seq (.asn 11 (.op .add (.var 11) (.lc (.tup (.cons (.call 26 [false, false] (.cons (.var 13) (.cons (.var 21) .nil))) (.cons (.call 27 [false, false] (.cons (.var 14) (.cons (.var 22) .nil))) .nil))) (.t (.cons (.n 21) (.cons (.n 22) .nil))) .nil .seq (.cons (.var 4) .nil) [21, 22]))) (.seq (.asn 12 (.op .add (.var 12) (.lc (.tup (.cons (.call 31 [false, false] (.cons (.lst (.cons (.var 13) (.cons (.var 21) .nil))) (.cons (.con (.int 1)) .nil))) (.cons (.call 27 [false, false] (.cons (.var 14) (.cons (.var 22) .nil))) .nil))) (.t (.cons (.n 21) (.cons (.n 22) .nil))) .nil .seq (.cons (.var 4) .nil) [21, 22]))) .nil))) (.seq (.ite (.or (.cmp .ne (.call 20 [false, false] (.cons (.var 3) (.cons (.var 4) .nil))) (.call 35 [false] (.cons (.var 11) .nil))) (.or (.cmp .ne (.call 21 [false, false] (.cons (.var 3) (.cons (.var 4) .nil))) (.call 35 [false] (.cons (.var 12) .nil))) (.not (.isi (.call 20 [false, false] (.cons (.var 3) (.cons (.var 4) .nil))) .tuple)))) (.seq (.ret (.con (.bl false))) .nil) .nil) (.seq (.asn 15 (.ix (.lst (.cons (.tup (.cons (.con (.int 1)) (.cons (.con (.int 4)) .nil))) (.cons (.tup (.cons (.con (.int 1)) (.cons (.con (.int 2)) .nil))) (.cons (.tup (.cons (.con (.int 2)) (.cons (.con (.int 3)) .nil))) (.cons (.tup (.cons (.con (.int 1)) (.cons (.con (.int 1)) .nil))) .nil))))) (.call 24 [true, false] (.cons (.var 1) (.cons (.con (.int 4)) .nil))))) (.seq (.asn 16 (.lc (.var 20) (.t (.cons (.n 20) (.cons (.n 19) .nil))) (.not (.call 29 [false, false] (.cons (.call 30 [false] (.cons (.lc (.var 24) (.t (.cons (.n 23) (.cons (.n 24) .nil))) (.not (.call 29 [false, false] (.cons (.var 20) (.cons (.var 23) .nil)))) .seq (.cons (.var 3) .nil) [23, 24]) .nil)) (.cons (.var 15) .nil)))) .seq (.cons (.var 3) .nil) [20, 19])) (.seq (.ite (.cmp .ne (.call 22 [false, false] (.cons (.var 3) (.cons (.var 15) .nil))) (.ix (.var 16) (.con (.int 0)))) (.seq (.ret (.con (.bl false))) .nil) .nil) .nil)))))))))))))))))) (.seq (.asn 17 (.tup (.cons (.con (.int 1)) (.cons (.con (.int 2)) .nil)))) (.seq (.asn 18 (.lst (.cons (.con .non) (.cons (.tup .nil) (.cons (.tup (.cons (.tup (.cons (.tup (.cons (.con (.int 0)) (.cons (.con (.int 1)) .nil))) (.cons (.var 17) .nil))) .nil)) (.cons (.tup (.cons (.tup (.cons (.tup (.cons (.con (.int 0)) (.cons (.con (.int 1)) .nil))) (.cons (.var 17) .nil))) (.cons (.tup (.cons (.tup (.cons (.con (.int 0)) (.cons (.con (.int 1)) .nil))) (.cons (.var 17) .nil))) .nil))) (.cons (.tup (.cons (.tup (.cons (.tup (.cons (.con (.int 1)) (.cons (.con (.int 1)) .nil))) (.cons (.var 17) .nil))) (.cons (.tup (.cons (.tup (.cons (.con (.int 0)) (.cons (.con (.int 1)) .nil))) (.cons (.var 17) .nil))) .nil))) (.cons (.tup (.cons (.tup (.cons (.tup (.cons (.con (.int 0)) (.cons (.con (.int 1)) .nil))) (.cons (.tup (.cons (.con (.int 0)) (.cons (.con (.int 1)) .nil))) .nil))) (.cons (.tup (.cons (.tup (.cons (.con (.int 1)) (.cons (.con (.int 1)) .nil))) (.cons (.tup (.cons (.con (.int 1)) (.cons (.con (.int 1)) .nil))) .nil))) .nil))) (.cons (.tup (.cons (.tup (.cons (.tup (.cons (.con (.int 0)) (.cons (.con (.int 2)) .nil))) (.cons (.tup (.cons (.con (.int 1)) (.cons (.con (.int 1)) .nil))) .nil))) .nil)) (.cons (.lst (.cons (.tup (.cons (.tup (.cons (.con (.int 0)) (.cons (.con (.int 1)) .nil))) (.cons (.tup (.cons (.con (.int 1)) (.cons (.con (.int 1)) .nil))) .nil))) .nil)) (.cons (.tup (.cons (.tup (.cons (.tup (.cons (.con (.int 0)) (.cons (.con (.int 1)) .nil))) (.cons (.tup (.cons (.con (.int 2)) (.cons (.con (.int 1)) .nil))) .nil))) (.cons (.tup (.cons (.tup (.cons (.con (.int 1)) (.cons (.con (.int 1)) .nil))) (.cons (.tup (.cons (.neg (.con (.int 1))) (.cons (.con (.int 1)) .nil))) .nil))) .nil))) (.cons (.tup (.cons (.tup (.cons (.tup (.cons (.con (.int 1000000)) (.cons (.con (.int 1)) .nil))) (.cons (.tup (.cons (.con (.int 1)) (.cons (.con (.int 1)) .nil))) .nil))) .nil)) (.cons (.tup (.cons (.tup (.cons (.con (.int 0)) (.cons (.tup (.cons (.con (.int 1)) (.cons (.con (.int 1)) .nil))) .nil))) .nil)) (.cons (.tup (.cons (.tup (.cons (.tup (.cons (.con (.int 0)) (.cons (.con (.int 1)) .nil))) (.cons (.tup (.cons (.con (.int 1)) (.cons (.con (.int 1)) .nil))) (.cons (.con (.int 0)) .nil)))) .nil)) .nil)))))))))))))) (.seq (.ret (.and (.cmp .eq (.lc (.var 25) (.n 25) (.not (.call 34 [false] (.cons (.var 25) .nil))) .seq (.cons (.var 18) .nil) [25]) (.lst .nil)) (.not (.call 34 [false] (.cons (.tup (.cons (.tup (.cons (.tup (.cons (.con (.int 0)) (.cons (.con (.int 1)) .nil))) (.cons (.tup (.cons (.con (.int 1)) (.cons (.con (.int 1)) .nil))) .nil))) .nil)) .nil))))) .nil)))))
def I_law : Info := ⟨dd 47 "law", ["script"], ["script", "draw", "turn", "one", "other", "mean", "square", "z", "weight", "mix", "pairs", "sums", "tops", "a", "p", "level", "fits", "half", "wrong", "chance", "gain", "b", "q", "less_gain", "more", "bad"], ⟨26, [false], S_law⟩⟩
abbrev fsL : List Info := [I_common, I_lowest, I_plus, I_minus, I_times, I_less, I_greatest, I_sum_of, I_is_ratio, I_is_chance, I_is_gain, I_in_size, I_is_spread, I_check_spread, I_gathered, I_mean_of, I_variance_of, I_chance_up_to, I_short_of, I_mixed_spread, I_sum_spread, I_greater_spread, I_level_of, I__law_draw, I__law_take, I__law_lowest, I__law_plus, I__law_times, I__law_minus, I__law_less, I__law_sum, I__law_best, I__law_gain, I__law_spread, I__law_refused, I__law_gathered, I_law]
abbrev xnL : List Str := ["NotAllowed"]
abbrev bnL : List Str := ["abs", "all", "bool", "int", "isinstance", "len", "list", "range", "sum", "tuple", "zip"]
abbrev csL : List (Str × W) := [("ZERO", (.tup [(.int 0), (.int 1)])), ("MAX_GAIN", (.int 999999)), ("ONE", (.tup [(.int 1), (.int 1)]))]
theorem m_abs : ("abs" : Str) ∈ bnL := .head _
theorem m_all : ("all" : Str) ∈ bnL := .tail _ (.head _)
theorem m_bool : ("bool" : Str) ∈ bnL := .tail _ (.tail _ (.head _))
theorem m_int : ("int" : Str) ∈ bnL := .tail _ (.tail _ (.tail _ (.head _)))
theorem m_isinstance : ("isinstance" : Str) ∈ bnL := .tail _ (.tail _ (.tail _ (.tail _ (.head _))))
theorem m_len : ("len" : Str) ∈ bnL := .tail _ (.tail _ (.tail _ (.tail _ (.tail _ (.head _)))))
theorem m_list : ("list" : Str) ∈ bnL := .tail _ (.tail _ (.tail _ (.tail _ (.tail _ (.tail _ (.head _))))))
theorem m_range : ("range" : Str) ∈ bnL := .tail _ (.tail _ (.tail _ (.tail _ (.tail _ (.tail _ (.tail _ (.head _)))))))
theorem m_sum : ("sum" : Str) ∈ bnL := .tail _ (.tail _ (.tail _ (.tail _ (.tail _ (.tail _ (.tail _ (.tail _ (.head _))))))))
theorem m_tuple : ("tuple" : Str) ∈ bnL := .tail _ (.tail _ (.tail _ (.tail _ (.tail _ (.tail _ (.tail _ (.tail _ (.tail _ (.head _)))))))))
theorem m_zip : ("zip" : Str) ∈ bnL := .tail _ (.tail _ (.tail _ (.tail _ (.tail _ (.tail _ (.tail _ (.tail _ (.tail _ (.tail _ (.head _))))))))))
theorem mc_ZERO : (("ZERO" : Str), (((.tup [(.int 0), (.int 1)])) : W)) ∈ csL := .head _
theorem mc_MAX_GAIN : (("MAX_GAIN" : Str), (((.int 999999)) : W)) ∈ csL := .tail _ (.head _)
theorem mc_ONE : (("ONE" : Str), (((.tup [(.int 1), (.int 1)])) : W)) ∈ csL := .tail _ (.tail _ (.head _))
section
variable [HW]
theorem B_common {Z : Wd} (zx : Z.xn = xnL) (d : Nat) (cdv : Value) (A : Around) (outer : List PySem.Env) (s : Shared) (H : Hp) (E : XK) (B : Bd fsL Z bnL csL d (Z.cf fsL d E) (Z.X I_common cdv A outer s H E)) : PSs (Z.X I_common cdv A outer s H E) I_common.d.body (tS (Z.cf fsL d E) Z.tk Z.g I_common.fd.b) :=
  (s_cons (s_par2 B.calm B.nd rfl rfl rfl rfl (a_cons rfl (x_bi B.hc B.calm rfl rfl (B.mb m_abs) rfl (a_cons rfl (x_var (pv 0)) a_nil)) (a_cons rfl (x_bi B.hc B.calm rfl rfl (B.mb m_abs) rfl (a_cons rfl (x_var (pv 1)) a_nil)) a_nil)) rfl (by decide)) (s_cons (s_whl B.po (t_var B (x_var (pv 1))) (s_cons (s_par2 B.calm B.nd rfl rfl rfl rfl (a_cons rfl (x_var (pv 1)) (a_cons rfl (x_op B.hc rfl (x_var (pv 0)) (x_var (pv 1))) a_nil)) rfl (by decide)) s_nil)) (s_cons (s_ret (x_var (pv 0))) s_nil)))
theorem B_lowest {Z : Wd} (zx : Z.xn = xnL) (d : Nat) (cdv : Value) (A : Around) (outer : List PySem.Env) (s : Shared) (H : Hp) (E : XK) (B : Bd fsL Z bnL csL d (Z.cf fsL d E) (Z.X I_lowest cdv A outer s H E)) : PSs (Z.X I_lowest cdv A outer s H E) I_lowest.d.body (tS (Z.cf fsL d E) Z.tk Z.g I_lowest.fd.b) :=
  (s_cons (s_asn B.nd rfl (by first | exact Or.inl rfl | exact Or.inr rfl) (Or.inl rfl) (b_call B 0 rfl rfl rfl rfl rfl (a_cons rfl (x_var (pv 0)) (a_cons rfl (x_var (pv 1)) a_nil))) rfl) (s_cons (s_asn B.nd rfl (by first | exact Or.inl rfl | exact Or.inr rfl) (Or.inl rfl) (x_ite (t_cmp B.hc B.hw B.hu rfl rfl (x_var (pv 1)) x_int) x_int (x_neg B.hc x_int)) rfl) (s_cons (s_ret (x_tup (a_cons rfl (x_op B.hc rfl (x_op B.hc rfl (x_var (pv 3)) (x_var (pv 0))) (x_var (pv 2))) (a_cons rfl (x_op B.hc rfl (x_op B.hc rfl (x_var (pv 3)) (x_var (pv 1))) (x_var (pv 2))) a_nil)))) s_nil)))
theorem B_plus {Z : Wd} (zx : Z.xn = xnL) (d : Nat) (cdv : Value) (A : Around) (outer : List PySem.Env) (s : Shared) (H : Hp) (E : XK) (B : Bd fsL Z bnL csL d (Z.cf fsL d E) (Z.X I_plus cdv A outer s H E)) : PSs (Z.X I_plus cdv A outer s H E) I_plus.d.body (tS (Z.cf fsL d E) Z.tk Z.g I_plus.fd.b) :=
  (s_cons (s_ret (b_call B 1 rfl rfl rfl rfl rfl (a_cons rfl (x_op B.hc rfl (x_op B.hc rfl (x_ix B.hc B.hw B.hu (fun _ _ => rfl) (x_var (pv 0)) x_int) (x_ix B.hc B.hw B.hu (fun _ _ => rfl) (x_var (pv 1)) x_int)) (x_op B.hc rfl (x_ix B.hc B.hw B.hu (fun _ _ => rfl) (x_var (pv 1)) x_int) (x_ix B.hc B.hw B.hu (fun _ _ => rfl) (x_var (pv 0)) x_int))) (a_cons rfl (x_op B.hc rfl (x_ix B.hc B.hw B.hu (fun _ _ => rfl) (x_var (pv 0)) x_int) (x_ix B.hc B.hw B.hu (fun _ _ => rfl) (x_var (pv 1)) x_int)) a_nil)))) s_nil)
theorem B_minus {Z : Wd} (zx : Z.xn = xnL) (d : Nat) (cdv : Value) (A : Around) (outer : List PySem.Env) (s : Shared) (H : Hp) (E : XK) (B : Bd fsL Z bnL csL d (Z.cf fsL d E) (Z.X I_minus cdv A outer s H E)) : PSs (Z.X I_minus cdv A outer s H E) I_minus.d.body (tS (Z.cf fsL d E) Z.tk Z.g I_minus.fd.b) :=
  (s_cons (s_ret (b_call B 1 rfl rfl rfl rfl rfl (a_cons rfl (x_op B.hc rfl (x_op B.hc rfl (x_ix B.hc B.hw B.hu (fun _ _ => rfl) (x_var (pv 0)) x_int) (x_ix B.hc B.hw B.hu (fun _ _ => rfl) (x_var (pv 1)) x_int)) (x_op B.hc rfl (x_ix B.hc B.hw B.hu (fun _ _ => rfl) (x_var (pv 1)) x_int) (x_ix B.hc B.hw B.hu (fun _ _ => rfl) (x_var (pv 0)) x_int))) (a_cons rfl (x_op B.hc rfl (x_ix B.hc B.hw B.hu (fun _ _ => rfl) (x_var (pv 0)) x_int) (x_ix B.hc B.hw B.hu (fun _ _ => rfl) (x_var (pv 1)) x_int)) a_nil)))) s_nil)
theorem B_times {Z : Wd} (zx : Z.xn = xnL) (d : Nat) (cdv : Value) (A : Around) (outer : List PySem.Env) (s : Shared) (H : Hp) (E : XK) (B : Bd fsL Z bnL csL d (Z.cf fsL d E) (Z.X I_times cdv A outer s H E)) : PSs (Z.X I_times cdv A outer s H E) I_times.d.body (tS (Z.cf fsL d E) Z.tk Z.g I_times.fd.b) :=
  (s_cons (s_ret (b_call B 1 rfl rfl rfl rfl rfl (a_cons rfl (x_op B.hc rfl (x_ix B.hc B.hw B.hu (fun _ _ => rfl) (x_var (pv 0)) x_int) (x_ix B.hc B.hw B.hu (fun _ _ => rfl) (x_var (pv 1)) x_int)) (a_cons rfl (x_op B.hc rfl (x_ix B.hc B.hw B.hu (fun _ _ => rfl) (x_var (pv 0)) x_int) (x_ix B.hc B.hw B.hu (fun _ _ => rfl) (x_var (pv 1)) x_int)) a_nil)))) s_nil)
theorem B_less {Z : Wd} (zx : Z.xn = xnL) (d : Nat) (cdv : Value) (A : Around) (outer : List PySem.Env) (s : Shared) (H : Hp) (E : XK) (B : Bd fsL Z bnL csL d (Z.cf fsL d E) (Z.X I_less cdv A outer s H E)) : PSs (Z.X I_less cdv A outer s H E) I_less.d.body (tS (Z.cf fsL d E) Z.tk Z.g I_less.fd.b) :=
  (s_cons (s_ret (x_cmp B.hc B.hw B.hu rfl rfl (x_op B.hc rfl (x_ix B.hc B.hw B.hu (fun _ _ => rfl) (x_var (pv 0)) x_int) (x_ix B.hc B.hw B.hu (fun _ _ => rfl) (x_var (pv 1)) x_int)) (x_op B.hc rfl (x_ix B.hc B.hw B.hu (fun _ _ => rfl) (x_var (pv 1)) x_int) (x_ix B.hc B.hw B.hu (fun _ _ => rfl) (x_var (pv 0)) x_int)))) s_nil)
theorem B_greatest {Z : Wd} (zx : Z.xn = xnL) (d : Nat) (cdv : Value) (A : Around) (outer : List PySem.Env) (s : Shared) (H : Hp) (E : XK) (B : Bd fsL Z bnL csL d (Z.cf fsL d E) (Z.X I_greatest cdv A outer s H E)) : PSs (Z.X I_greatest cdv A outer s H E) I_greatest.d.body (tS (Z.cf fsL d E) Z.tk Z.g I_greatest.fd.b) :=
  (s_cons (s_asn B.nd rfl (by first | exact Or.inl rfl | exact Or.inr rfl) (Or.inl rfl) (x_ix B.hc B.hw B.hu (fun _ _ => rfl) (x_var (pv 0)) x_int) rfl) (s_cons (b_for B (i_seq B.hc (x_var (pv 0))) (g_name B.nd rfl (by first | exact Or.inl rfl | exact Or.inr rfl) (by first | exact Or.inl rfl | exact Or.inr rfl)) (s_cons (s_ite (t_plain B.hc (b_call B 5 rfl rfl rfl rfl rfl (a_cons rfl (x_var (pv 1)) (a_cons rfl (x_var (pv 2)) a_nil))) (fun _ => rfl) (fun _ => rfl)) (s_cons (s_asn B.nd rfl (by first | exact Or.inl rfl | exact Or.inr rfl) (Or.inl rfl) (x_var (pv 2)) rfl) s_nil) s_nil) s_nil) (fun _ => rfl)) (s_cons (s_ret (x_var (pv 1))) s_nil)))
theorem B_sum_of {Z : Wd} (zx : Z.xn = xnL) (d : Nat) (cdv : Value) (A : Around) (outer : List PySem.Env) (s : Shared) (H : Hp) (E : XK) (B : Bd fsL Z bnL csL d (Z.cf fsL d E) (Z.X I_sum_of cdv A outer s H E)) : PSs (Z.X I_sum_of cdv A outer s H E) I_sum_of.d.body (tS (Z.cf fsL d E) Z.tk Z.g I_sum_of.fd.b) :=
  (s_cons (s_asn B.nd rfl (by first | exact Or.inl rfl | exact Or.inr rfl) (Or.inl rfl) (b_glob B mc_ZERO rfl rfl) rfl) (s_cons (b_for B (i_seq B.hc (x_var (pv 0))) (g_name B.nd rfl (by first | exact Or.inl rfl | exact Or.inr rfl) (by first | exact Or.inl rfl | exact Or.inr rfl)) (s_cons (s_asn B.nd rfl (by first | exact Or.inl rfl | exact Or.inr rfl) (Or.inl rfl) (b_call B 2 rfl rfl rfl rfl rfl (a_cons rfl (x_var (pv 1)) (a_cons rfl (x_var (pv 2)) a_nil))) rfl) s_nil) (fun _ => rfl)) (s_cons (s_ret (x_var (pv 1))) s_nil)))
theorem B_is_ratio {Z : Wd} (zx : Z.xn = xnL) (d : Nat) (cdv : Value) (A : Around) (outer : List PySem.Env) (s : Shared) (H : Hp) (E : XK) (B : Bd fsL Z bnL csL d (Z.cf fsL d E) (Z.X I_is_ratio cdv A outer s H E)) : PSs (Z.X I_is_ratio cdv A outer s H E) I_is_ratio.d.body (tS (Z.cf fsL d E) Z.tk Z.g I_is_ratio.fd.b) :=
  (s_cons (s_ite (PW.pt (t_or (t_not (t_plain B.hc (x_isi (t := .tuple) B.hc rfl (B.mb m_isinstance) rfl (B.mb m_tuple) rfl (x_var (pv 0))) (fun _ => rfl) (fun _ => rfl))) (t_or1 (t_cmp B.hc B.hw B.hu rfl rfl (x_bi B.hc B.calm rfl rfl (B.mb m_len) rfl (a_cons rfl (x_var (pv 0)) a_nil)) x_int)))) (s_cons (s_ret x_bl) s_nil) s_nil) (s_cons (s_ite (t_not (t_plain B.hc (x_bi B.hc B.calm rfl rfl (B.mb m_all) rfl (a_cons rfl (b_lc (ownN := [("one", 1)]) B [1] rfl (by kernel_rfl) (i_seq B.hc (x_var (pv 0))) (fun s H C cl fp B => (g_name B.nd rfl (by first | exact Or.inl rfl | exact Or.inr rfl) (by first | exact Or.inl rfl | exact Or.inr rfl))) (fun s H C cl fp B => pts_no) (fun s H C cl fp B => (x_and B.hc (x_isi (t := .int) B.hc rfl (B.mb m_isinstance) rfl (B.mb m_int) rfl (x_var (pv 1))) (x_and1 (x_not B.hc (x_isi (t := .bool) B.hc rfl (B.mb m_isinstance) rfl (B.mb m_bool) rfl (x_var (pv 1))))))) (fun _ => rfl)) a_nil)) (fun _ => rfl) (fun _ => rfl))) (s_cons (s_ret x_bl) s_nil) s_nil) (s_cons (s_ret (x_and B.hc (x_cmp B.hc B.hw B.hu rfl rfl (x_ix B.hc B.hw B.hu (fun _ _ => rfl) (x_var (pv 0)) x_int) x_int) (x_and1 (x_cmp B.hc B.hw B.hu rfl rfl (b_call B 0 rfl rfl rfl rfl rfl (a_cons rfl (x_ix B.hc B.hw B.hu (fun _ _ => rfl) (x_var (pv 0)) x_int) (a_cons rfl (x_ix B.hc B.hw B.hu (fun _ _ => rfl) (x_var (pv 0)) x_int) a_nil))) x_int)))) s_nil)))
theorem B_is_chance {Z : Wd} (zx : Z.xn = xnL) (d : Nat) (cdv : Value) (A : Around) (outer : List PySem.Env) (s : Shared) (H : Hp) (E : XK) (B : Bd fsL Z bnL csL d (Z.cf fsL d E) (Z.X I_is_chance cdv A outer s H E)) : PSs (Z.X I_is_chance cdv A outer s H E) I_is_chance.d.body (tS (Z.cf fsL d E) Z.tk Z.g I_is_chance.fd.b) :=
  (s_cons (s_ret (x_and B.hc (b_call B 8 rfl rfl rfl rfl rfl (a_cons rfl (x_var (pv 0)) a_nil)) (x_and1 (x_cmp2 B.hc B.hw B.hu rfl rfl rfl x_int (x_ix B.hc B.hw B.hu (fun _ _ => rfl) (x_var (pv 0)) x_int) (x_ix B.hc B.hw B.hu (fun _ _ => rfl) (x_var (pv 0)) x_int))))) s_nil)
theorem B_is_gain {Z : Wd} (zx : Z.xn = xnL) (d : Nat) (cdv : Value) (A : Around) (outer : List PySem.Env) (s : Shared) (H : Hp) (E : XK) (B : Bd fsL Z bnL csL d (Z.cf fsL d E) (Z.X I_is_gain cdv A outer s H E)) : PSs (Z.X I_is_gain cdv A outer s H E) I_is_gain.d.body (tS (Z.cf fsL d E) Z.tk Z.g I_is_gain.fd.b) :=
  (s_cons (s_ret (x_and B.hc (b_call B 8 rfl rfl rfl rfl rfl (a_cons rfl (x_var (pv 0)) a_nil)) (x_and B.hc (x_cmp B.hc B.hw B.hu rfl rfl (x_bi B.hc B.calm rfl rfl (B.mb m_abs) rfl (a_cons rfl (x_ix B.hc B.hw B.hu (fun _ _ => rfl) (x_var (pv 0)) x_int) a_nil)) (b_glob B mc_MAX_GAIN rfl rfl)) (x_and1 (x_cmp B.hc B.hw B.hu rfl rfl (x_ix B.hc B.hw B.hu (fun _ _ => rfl) (x_var (pv 0)) x_int) (b_glob B mc_MAX_GAIN rfl rfl)))))) s_nil)
theorem B_in_size {Z : Wd} (zx : Z.xn = xnL) (d : Nat) (cdv : Value) (A : Around) (outer : List PySem.Env) (s : Shared) (H : Hp) (E : XK) (B : Bd fsL Z bnL csL d (Z.cf fsL d E) (Z.X I_in_size cdv A outer s H E)) : PSs (Z.X I_in_size cdv A outer s H E) I_in_size.d.body (tS (Z.cf fsL d E) Z.tk Z.g I_in_size.fd.b) :=
  (s_cons (s_asn B.nd rfl (by first | exact Or.inl rfl | exact Or.inr rfl) (Or.inl rfl) (x_lst a_nil) rfl) (s_cons (b_for B (i_seq B.hc (x_var (pv 0))) (g_name B.nd rfl (by first | exact Or.inl rfl | exact Or.inr rfl) (by first | exact Or.inl rfl | exact Or.inr rfl)) (s_cons (s_asn B.nd rfl (by first | exact Or.inl rfl | exact Or.inr rfl) (Or.inl rfl) (x_bi B.hc B.calm rfl rfl (B.mb m_len) rfl (a_cons rfl (b_lc (ownN := [("one", 4)]) B [4] rfl (by kernel_rfl) (i_seq B.hc (x_var (pv 1))) (fun s H C cl fp B => (g_name B.nd rfl (by first | exact Or.inl rfl | exact Or.inr rfl) (by first | exact Or.inl rfl | exact Or.inr rfl))) (fun s H C cl fp B => L2.pts_one (t_plain B.hc (b_call B 5 rfl rfl rfl rfl rfl (a_cons rfl (x_ix B.hc B.hw B.hu (fun _ _ => rfl) (x_var (pv 4)) x_int) (a_cons rfl (x_ix B.hc B.hw B.hu (fun _ _ => rfl) (x_var (pv 2)) x_int) a_nil))) (fun _ => rfl) (fun _ => rfl))) (fun s H C cl fp B => (x_var (pv 4))) (fun _ => rfl)) a_nil)) rfl) (s_cons (s_insert B.hc (pv 1) rfl rfl (a_cons rfl (x_var (pv 3)) (a_cons rfl (x_var (pv 2)) a_nil)) rfl rfl) s_nil)) (fun _ => rfl)) (s_cons (s_ret (x_bi B.hc B.calm rfl rfl (B.mb m_tuple) rfl (a_cons rfl (x_var (pv 1)) a_nil))) s_nil)))
theorem B_is_spread {Z : Wd} (zx : Z.xn = xnL) (d : Nat) (cdv : Value) (A : Around) (outer : List PySem.Env) (s : Shared) (H : Hp) (E : XK) (B : Bd fsL Z bnL csL d (Z.cf fsL d E) (Z.X I_is_spread cdv A outer s H E)) : PSs (Z.X I_is_spread cdv A outer s H E) I_is_spread.d.body (tS (Z.cf fsL d E) Z.tk Z.g I_is_spread.fd.b) :=
  (s_cons (s_ite (PW.pt (t_or (t_not (t_plain B.hc (x_isi (t := .tuple) B.hc rfl (B.mb m_isinstance) rfl (B.mb m_tuple) rfl (x_var (pv 0))) (fun _ => rfl) (fun _ => rfl))) (t_or1 (t_not (t_plain B.hc (x_bi B.hc B.calm rfl rfl (B.mb m_all) rfl (a_cons rfl (b_lc (ownN := [("one", 2)]) B [2] rfl (by kernel_rfl) (i_seq B.hc (x_var (pv 0))) (fun s H C cl fp B => (g_name B.nd rfl (by first | exact Or.inl rfl | exact Or.inr rfl) (by first | exact Or.inl rfl | exact Or.inr rfl))) (fun s H C cl fp B => pts_no) (fun s H C cl fp B => (x_and B.hc (x_isi (t := .tuple) B.hc rfl (B.mb m_isinstance) rfl (B.mb m_tuple) rfl (x_var (pv 2))) (x_and1 (x_cmp B.hc B.hw B.hu rfl rfl (x_bi B.hc B.calm rfl rfl (B.mb m_len) rfl (a_cons rfl (x_var (pv 2)) a_nil)) x_int)))) (fun _ => rfl)) a_nil)) (fun _ => rfl) (fun _ => rfl)))))) (s_cons (s_ret x_bl) s_nil) s_nil) (s_cons (s_ite (t_not (t_plain B.hc (x_bi B.hc B.calm rfl rfl (B.mb m_all) rfl (a_cons rfl (b_lc (ownN := [("gain", 4), ("chance", 3)]) B [4, 3] rfl (by kernel_rfl) (i_seq B.hc (x_var (pv 0))) (fun s H C cl fp B => (g_tupB B rfl rfl (g_cons rfl (g_name B.nd rfl (by first | exact Or.inl rfl | exact Or.inr rfl) (by first | exact Or.inl rfl | exact Or.inr rfl)) (g_cons rfl (g_name B.nd rfl (by first | exact Or.inl rfl | exact Or.inr rfl) (by first | exact Or.inl rfl | exact Or.inr rfl)) g_nil)))) (fun s H C cl fp B => pts_no) (fun s H C cl fp B => (x_and B.hc (b_call B 10 rfl rfl rfl rfl rfl (a_cons rfl (x_var (pv 4)) a_nil)) (x_and B.hc (b_call B 9 rfl rfl rfl rfl rfl (a_cons rfl (x_var (pv 3)) a_nil)) (x_and1 (x_cmp B.hc B.hw B.hu rfl rfl (x_var (pv 3)) (b_glob B mc_ZERO rfl rfl)))))) (fun _ => rfl)) a_nil)) (fun _ => rfl) (fun _ => rfl))) (s_cons (s_ret x_bl) s_nil) s_nil) (s_cons (s_asn B.nd rfl (by first | exact Or.inl rfl | exact Or.inr rfl) (Or.inl rfl) (x_bi B.hc B.calm rfl rfl (B.mb m_all) rfl (a_cons rfl (b_lc (ownN := [("one", 2), ("other", 5)]) B [2, 5] rfl (by kernel_rfl) (i_zip B.hc rfl (B.mb m_zip) rfl rfl (a_cons rfl (x_var (pv 0)) (a_cons rfl (x_slc B.hc (x_var (pv 0)) (.some x_int) .none) a_nil))) (fun s H C cl fp B => (g_tupB B rfl rfl (g_cons rfl (g_name B.nd rfl (by first | exact Or.inl rfl | exact Or.inr rfl) (by first | exact Or.inl rfl | exact Or.inr rfl)) (g_cons rfl (g_name B.nd rfl (by first | exact Or.inl rfl | exact Or.inr rfl) (by first | exact Or.inl rfl | exact Or.inr rfl)) g_nil)))) (fun s H C cl fp B => pts_no) (fun s H C cl fp B => (b_call B 5 rfl rfl rfl rfl rfl (a_cons rfl (x_ix B.hc B.hw B.hu (fun _ _ => rfl) (x_var (pv 2)) x_int) (a_cons rfl (x_ix B.hc B.hw B.hu (fun _ _ => rfl) (x_var (pv 5)) x_int) a_nil)))) (fun _ => rfl)) a_nil)) rfl) (s_cons (s_ret (x_and B.hc (x_var (pv 1)) (x_and1 (x_cmp B.hc B.hw B.hu rfl rfl (b_call B 7 rfl rfl rfl rfl rfl (a_cons rfl (b_lc (ownN := [("_", 6), ("chance", 3)]) B [6, 3] rfl (by kernel_rfl) (i_seq B.hc (x_var (pv 0))) (fun s H C cl fp B => (g_tupB B rfl rfl (g_cons rfl (g_name B.nd rfl (by first | exact Or.inl rfl | exact Or.inr rfl) (by first | exact Or.inl rfl | exact Or.inr rfl)) (g_cons rfl (g_name B.nd rfl (by first | exact Or.inl rfl | exact Or.inr rfl) (by first | exact Or.inl rfl | exact Or.inr rfl)) g_nil)))) (fun s H C cl fp B => pts_no) (fun s H C cl fp B => (x_var (pv 3))) (fun _ => rfl)) a_nil)) (b_glob B mc_ONE rfl rfl))))) s_nil))))
theorem B_check_spread {Z : Wd} (zx : Z.xn = xnL) (d : Nat) (cdv : Value) (A : Around) (outer : List PySem.Env) (s : Shared) (H : Hp) (E : XK) (B : Bd fsL Z bnL csL d (Z.cf fsL d E) (Z.X I_check_spread cdv A outer s H E)) : PSs (Z.X I_check_spread cdv A outer s H E) I_check_spread.d.body (tS (Z.cf fsL d E) Z.tk Z.g I_check_spread.fd.b) :=
  (s_cons (s_ite (t_not (t_plain B.hc (b_call B 12 rfl rfl rfl rfl rfl (a_cons rfl (x_var (pv 0)) a_nil)) (fun _ => rfl) (fun _ => rfl))) (s_cons (b_raise B (xz zx 0 rfl) rfl rfl) s_nil) s_nil) s_nil)
theorem B_gathered {Z : Wd} (zx : Z.xn = xnL) (d : Nat) (cdv : Value) (A : Around) (outer : List PySem.Env) (s : Shared) (H : Hp) (E : XK) (B : Bd fsL Z bnL csL d (Z.cf fsL d E) (Z.X I_gathered cdv A outer s H E)) : PSs (Z.X I_gathered cdv A outer s H E) I_gathered.d.body (tS (Z.cf fsL d E) Z.tk Z.g I_gathered.fd.b) :=
  (s_cons (s_asn B.nd rfl (by first | exact Or.inl rfl | exact Or.inr rfl) (Or.inl rfl) x_dnw rfl) (s_cons (b_for B (i_seq B.hc (x_var (pv 0))) (g_tupB B rfl rfl (g_cons rfl (g_name B.nd rfl (by first | exact Or.inl rfl | exact Or.inr rfl) (by first | exact Or.inl rfl | exact Or.inr rfl)) (g_cons rfl (g_name B.nd rfl (by first | exact Or.inl rfl | exact Or.inr rfl) (by first | exact Or.inl rfl | exact Or.inr rfl)) g_nil))) (s_cons (s_ite (t_cmp B.hc B.hw B.hu rfl rfl (x_var (pv 3)) (b_glob B mc_ZERO rfl rfl)) (s_cons (s_six B.hc B.hw B.hu (pv 1) (x_var (pv 2)) (b_call B 2 rfl rfl rfl rfl rfl (a_cons rfl (x_get B.hc B.hw B.hu (fun _ _ _ h => nomatch h) rfl rfl (by decide) (x_var (pv 1)) (a_cons rfl (x_var (pv 2)) (a_cons rfl (b_glob B mc_ZERO rfl rfl) a_nil))) (a_cons rfl (x_var (pv 3)) a_nil))) rfl rfl (fun _ => rfl)) s_nil) s_nil) s_nil) (fun _ => rfl)) (s_cons (s_ret (b_call B 11 rfl rfl rfl rfl rfl (a_cons rfl (x_lits B.hc B.calm rfl (B.mb m_list) (fun _ _ _ h => nomatch h) rfl (x_var (pv 1))) a_nil))) s_nil)))
theorem B_mean_of {Z : Wd} (zx : Z.xn = xnL) (d : Nat) (cdv : Value) (A : Around) (outer : List PySem.Env) (s : Shared) (H : Hp) (E : XK) (B : Bd fsL Z bnL csL d (Z.cf fsL d E) (Z.X I_mean_of cdv A outer s H E)) : PSs (Z.X I_mean_of cdv A outer s H E) I_mean_of.d.body (tS (Z.cf fsL d E) Z.tk Z.g I_mean_of.fd.b) :=
  (s_cons (s_ret (b_call B 7 rfl rfl rfl rfl rfl (a_cons rfl (b_lc (ownN := [("gain", 2), ("chance", 1)]) B [2, 1] rfl (by kernel_rfl) (i_seq B.hc (x_var (pv 0))) (fun s H C cl fp B => (g_tupB B rfl rfl (g_cons rfl (g_name B.nd rfl (by first | exact Or.inl rfl | exact Or.inr rfl) (by first | exact Or.inl rfl | exact Or.inr rfl)) (g_cons rfl (g_name B.nd rfl (by first | exact Or.inl rfl | exact Or.inr rfl) (by first | exact Or.inl rfl | exact Or.inr rfl)) g_nil)))) (fun s H C cl fp B => pts_no) (fun s H C cl fp B => (b_call B 4 rfl rfl rfl rfl rfl (a_cons rfl (x_var (pv 2)) (a_cons rfl (x_var (pv 1)) a_nil)))) (fun _ => rfl)) a_nil))) s_nil)
theorem B_variance_of {Z : Wd} (zx : Z.xn = xnL) (d : Nat) (cdv : Value) (A : Around) (outer : List PySem.Env) (s : Shared) (H : Hp) (E : XK) (B : Bd fsL Z bnL csL d (Z.cf fsL d E) (Z.X I_variance_of cdv A outer s H E)) : PSs (Z.X I_variance_of cdv A outer s H E) I_variance_of.d.body (tS (Z.cf fsL d E) Z.tk Z.g I_variance_of.fd.b) :=
  (s_cons (s_asn B.nd rfl (by first | exact Or.inl rfl | exact Or.inr rfl) (Or.inl rfl) (b_call B 15 rfl rfl rfl rfl rfl (a_cons rfl (x_var (pv 0)) a_nil)) rfl) (s_cons (s_ret (b_call B 7 rfl rfl rfl rfl rfl (a_cons rfl (b_lc (ownN := [("gain", 3), ("chance", 2)]) B [3, 2] rfl (by kernel_rfl) (i_seq B.hc (x_var (pv 0))) (fun s H C cl fp B => (g_tupB B rfl rfl (g_cons rfl (g_name B.nd rfl (by first | exact Or.inl rfl | exact Or.inr rfl) (by first | exact Or.inl rfl | exact Or.inr rfl)) (g_cons rfl (g_name B.nd rfl (by first | exact Or.inl rfl | exact Or.inr rfl) (by first | exact Or.inl rfl | exact Or.inr rfl)) g_nil)))) (fun s H C cl fp B => pts_no) (fun s H C cl fp B => (b_call B 4 rfl rfl rfl rfl rfl (a_cons rfl (x_var (pv 2)) (a_cons rfl (b_call B 4 rfl rfl rfl rfl rfl (a_cons rfl (b_call B 3 rfl rfl rfl rfl rfl (a_cons rfl (x_var (pv 3)) (a_cons rfl (x_var (pv 1)) a_nil))) (a_cons rfl (b_call B 3 rfl rfl rfl rfl rfl (a_cons rfl (x_var (pv 3)) (a_cons rfl (x_var (pv 1)) a_nil))) a_nil))) a_nil)))) (fun _ => rfl)) a_nil))) s_nil))
theorem B_chance_up_to {Z : Wd} (zx : Z.xn = xnL) (d : Nat) (cdv : Value) (A : Around) (outer : List PySem.Env) (s : Shared) (H : Hp) (E : XK) (B : Bd fsL Z bnL csL d (Z.cf fsL d E) (Z.X I_chance_up_to cdv A outer s H E)) : PSs (Z.X I_chance_up_to cdv A outer s H E) I_chance_up_to.d.body (tS (Z.cf fsL d E) Z.tk Z.g I_chance_up_to.fd.b) :=
  (s_cons (s_ret (b_call B 7 rfl rfl rfl rfl rfl (a_cons rfl (b_lc (ownN := [("gain", 3), ("chance", 2)]) B [3, 2] rfl (by kernel_rfl) (i_seq B.hc (x_var (pv 0))) (fun s H C cl fp B => (g_tupB B rfl rfl (g_cons rfl (g_name B.nd rfl (by first | exact Or.inl rfl | exact Or.inr rfl) (by first | exact Or.inl rfl | exact Or.inr rfl)) (g_cons rfl (g_name B.nd rfl (by first | exact Or.inl rfl | exact Or.inr rfl) (by first | exact Or.inl rfl | exact Or.inr rfl)) g_nil)))) (fun s H C cl fp B => L2.pts_one (t_not (t_plain B.hc (b_call B 5 rfl rfl rfl rfl rfl (a_cons rfl (x_var (pv 1)) (a_cons rfl (x_var (pv 3)) a_nil))) (fun _ => rfl) (fun _ => rfl)))) (fun s H C cl fp B => (x_var (pv 2))) (fun _ => rfl)) a_nil))) s_nil)
theorem B_short_of {Z : Wd} (zx : Z.xn = xnL) (d : Nat) (cdv : Value) (A : Around) (outer : List PySem.Env) (s : Shared) (H : Hp) (E : XK) (B : Bd fsL Z bnL csL d (Z.cf fsL d E) (Z.X I_short_of cdv A outer s H E)) : PSs (Z.X I_short_of cdv A outer s H E) I_short_of.d.body (tS (Z.cf fsL d E) Z.tk Z.g I_short_of.fd.b) :=
  (s_cons (s_ret (b_call B 7 rfl rfl rfl rfl rfl (a_cons rfl (b_lc (ownN := [("gain", 3), ("chance", 2)]) B [3, 2] rfl (by kernel_rfl) (i_seq B.hc (x_var (pv 0))) (fun s H C cl fp B => (g_tupB B rfl rfl (g_cons rfl (g_name B.nd rfl (by first | exact Or.inl rfl | exact Or.inr rfl) (by first | exact Or.inl rfl | exact Or.inr rfl)) (g_cons rfl (g_name B.nd rfl (by first | exact Or.inl rfl | exact Or.inr rfl) (by first | exact Or.inl rfl | exact Or.inr rfl)) g_nil)))) (fun s H C cl fp B => L2.pts_one (t_plain B.hc (b_call B 5 rfl rfl rfl rfl rfl (a_cons rfl (x_var (pv 3)) (a_cons rfl (x_var (pv 1)) a_nil))) (fun _ => rfl) (fun _ => rfl))) (fun s H C cl fp B => (b_call B 4 rfl rfl rfl rfl rfl (a_cons rfl (x_var (pv 2)) (a_cons rfl (b_call B 3 rfl rfl rfl rfl rfl (a_cons rfl (x_var (pv 1)) (a_cons rfl (x_var (pv 3)) a_nil))) a_nil)))) (fun _ => rfl)) a_nil))) s_nil)
theorem B_mixed_spread {Z : Wd} (zx : Z.xn = xnL) (d : Nat) (cdv : Value) (A : Around) (outer : List PySem.Env) (s : Shared) (H : Hp) (E : XK) (B : Bd fsL Z bnL csL d (Z.cf fsL d E) (Z.X I_mixed_spread cdv A outer s H E)) : PSs (Z.X I_mixed_spread cdv A outer s H E) I_mixed_spread.d.body (tS (Z.cf fsL d E) Z.tk Z.g I_mixed_spread.fd.b) :=
  (s_cons (s_asn B.nd rfl (by first | exact Or.inl rfl | exact Or.inr rfl) (Or.inl rfl) (x_lst a_nil) rfl) (s_cons (b_for B (i_zip B.hc rfl (B.mb m_zip) rfl rfl (a_cons rfl (x_var (pv 0)) (a_cons rfl (x_var (pv 1)) a_nil))) (g_tupB B rfl rfl (g_cons rfl (g_name B.nd rfl (by first | exact Or.inl rfl | exact Or.inr rfl) (by first | exact Or.inl rfl | exact Or.inr rfl)) (g_cons rfl (g_name B.nd rfl (by first | exact Or.inl rfl | exact Or.inr rfl) (by first | exact Or.inl rfl | exact Or.inr rfl)) g_nil))) (s_cons (s_extend B.hc (pv 2) rfl (a_cons rfl (b_lc (ownN := [("gain", 6), ("chance", 5)]) B [6, 5] rfl (by kernel_rfl) (i_seq B.hc (x_var (pv 3))) (fun s H C cl fp B => (g_tupB B rfl rfl (g_cons rfl (g_name B.nd rfl (by first | exact Or.inl rfl | exact Or.inr rfl) (by first | exact Or.inl rfl | exact Or.inr rfl)) (g_cons rfl (g_name B.nd rfl (by first | exact Or.inl rfl | exact Or.inr rfl) (by first | exact Or.inl rfl | exact Or.inr rfl)) g_nil)))) (fun s H C cl fp B => pts_no) (fun s H C cl fp B => (x_tup (a_cons rfl (x_var (pv 6)) (a_cons rfl (b_call B 4 rfl rfl rfl rfl rfl (a_cons rfl (x_var (pv 4)) (a_cons rfl (x_var (pv 5)) a_nil))) a_nil)))) (fun _ => rfl)) a_nil) rfl rfl) s_nil) (fun _ => rfl)) (s_cons (s_ret (b_call B 14 rfl rfl rfl rfl rfl (a_cons rfl (x_var (pv 2)) a_nil))) s_nil)))
theorem B_sum_spread {Z : Wd} (zx : Z.xn = xnL) (d : Nat) (cdv : Value) (A : Around) (outer : List PySem.Env) (s : Shared) (H : Hp) (E : XK) (B : Bd fsL Z bnL csL d (Z.cf fsL d E) (Z.X I_sum_spread cdv A outer s H E)) : PSs (Z.X I_sum_spread cdv A outer s H E) I_sum_spread.d.body (tS (Z.cf fsL d E) Z.tk Z.g I_sum_spread.fd.b) :=
  (s_cons (s_ret (b_call B 14 rfl rfl rfl rfl rfl (a_cons rfl (b_lc2 (ownN := [("a", 2), ("p", 4), ("b", 3), ("q", 5)]) B [2, 4, 3, 5] rfl (by kernel_rfl) (i_seq B.hc (x_var (pv 0))) (fun s H C cl fp B => (g_tupB B rfl rfl (g_cons rfl (g_name B.nd rfl (by first | exact Or.inl rfl | exact Or.inr rfl) (by first | exact Or.inl rfl | exact Or.inr rfl)) (g_cons rfl (g_name B.nd rfl (by first | exact Or.inl rfl | exact Or.inr rfl) (by first | exact Or.inl rfl | exact Or.inr rfl)) g_nil)))) (fun s H C cl fp B => pts_no) (fun s H C cl fp B => i_seqF B.hc (x_var (pv 1))) (fun s H C cl fp B => (g_tupB B rfl rfl (g_cons rfl (g_name B.nd rfl (by first | exact Or.inl rfl | exact Or.inr rfl) (by first | exact Or.inl rfl | exact Or.inr rfl)) (g_cons rfl (g_name B.nd rfl (by first | exact Or.inl rfl | exact Or.inr rfl) (by first | exact Or.inl rfl | exact Or.inr rfl)) g_nil)))) (fun s H C cl fp B => pts_no) (fun s H C cl fp B => (x_tup (a_cons rfl (b_call B 2 rfl rfl rfl rfl rfl (a_cons rfl (x_var (pv 2)) (a_cons rfl (x_var (pv 3)) a_nil))) (a_cons rfl (b_call B 4 rfl rfl rfl rfl rfl (a_cons rfl (x_var (pv 4)) (a_cons rfl (x_var (pv 5)) a_nil))) a_nil)))) (fun _ => rfl) (fun _ _ => rfl)) a_nil))) s_nil)
theorem B_greater_spread {Z : Wd} (zx : Z.xn = xnL) (d : Nat) (cdv : Value) (A : Around) (outer : List PySem.Env) (s : Shared) (H : Hp) (E : XK) (B : Bd fsL Z bnL csL d (Z.cf fsL d E) (Z.X I_greater_spread cdv A outer s H E)) : PSs (Z.X I_greater_spread cdv A outer s H E) I_greater_spread.d.body (tS (Z.cf fsL d E) Z.tk Z.g I_greater_spread.fd.b) :=
  (s_cons (s_ret (b_call B 14 rfl rfl rfl rfl rfl (a_cons rfl (b_lc2 (ownN := [("a", 2), ("p", 4), ("b", 3), ("q", 5)]) B [2, 4, 3, 5] rfl (by kernel_rfl) (i_seq B.hc (x_var (pv 0))) (fun s H C cl fp B => (g_tupB B rfl rfl (g_cons rfl (g_name B.nd rfl (by first | exact Or.inl rfl | exact Or.inr rfl) (by first | exact Or.inl rfl | exact Or.inr rfl)) (g_cons rfl (g_name B.nd rfl (by first | exact Or.inl rfl | exact Or.inr rfl) (by first | exact Or.inl rfl | exact Or.inr rfl)) g_nil)))) (fun s H C cl fp B => pts_no) (fun s H C cl fp B => i_seqF B.hc (x_var (pv 1))) (fun s H C cl fp B => (g_tupB B rfl rfl (g_cons rfl (g_name B.nd rfl (by first | exact Or.inl rfl | exact Or.inr rfl) (by first | exact Or.inl rfl | exact Or.inr rfl)) (g_cons rfl (g_name B.nd rfl (by first | exact Or.inl rfl | exact Or.inr rfl) (by first | exact Or.inl rfl | exact Or.inr rfl)) g_nil)))) (fun s H C cl fp B => pts_no) (fun s H C cl fp B => (x_tup (a_cons rfl (b_call B 6 rfl rfl rfl rfl rfl (a_cons rfl (x_lst (a_cons rfl (x_var (pv 2)) (a_cons rfl (x_var (pv 3)) a_nil))) a_nil)) (a_cons rfl (b_call B 4 rfl rfl rfl rfl rfl (a_cons rfl (x_var (pv 4)) (a_cons rfl (x_var (pv 5)) a_nil))) a_nil)))) (fun _ => rfl) (fun _ _ => rfl)) a_nil))) s_nil)
theorem B_level_of {Z : Wd} (zx : Z.xn = xnL) (d : Nat) (cdv : Value) (A : Around) (outer : List PySem.Env) (s : Shared) (H : Hp) (E : XK) (B : Bd fsL Z bnL csL d (Z.cf fsL d E) (Z.X I_level_of cdv A outer s H E)) : PSs (Z.X I_level_of cdv A outer s H E) I_level_of.d.body (tS (Z.cf fsL d E) Z.tk Z.g I_level_of.fd.b) :=
  (s_cons (b_for B (i_seq B.hc (x_var (pv 0))) (g_tupB B rfl rfl (g_cons rfl (g_name B.nd rfl (by first | exact Or.inl rfl | exact Or.inr rfl) (by first | exact Or.inl rfl | exact Or.inr rfl)) (g_cons rfl (g_name B.nd rfl (by first | exact Or.inl rfl | exact Or.inr rfl) (by first | exact Or.inl rfl | exact Or.inr rfl)) g_nil))) (s_cons (s_ite (t_not (t_plain B.hc (b_call B 5 rfl rfl rfl rfl rfl (a_cons rfl (b_call B 17 rfl rfl rfl rfl rfl (a_cons rfl (x_var (pv 0)) (a_cons rfl (x_var (pv 2)) a_nil))) (a_cons rfl (x_var (pv 1)) a_nil))) (fun _ => rfl) (fun _ => rfl))) (s_cons (s_ret (x_var (pv 2))) s_nil) s_nil) s_nil) (fun _ => rfl)) (s_cons (s_ret (x_ix B.hc B.hw B.hu (fun _ _ => rfl) (x_ix B.hc B.hw B.hu (fun _ _ => rfl) (x_var (pv 0)) (x_neg B.hc x_int)) x_int)) s_nil))
theorem B__law_draw {Z : Wd} (zx : Z.xn = xnL) (d : Nat) (cdv : Value) (A : Around) (outer : List PySem.Env) (s : Shared) (H : Hp) (E : XK) (B : Bd fsL Z bnL csL d (Z.cf fsL d E) (Z.X I__law_draw cdv A outer s H E)) : PSs (Z.X I__law_draw cdv A outer s H E) I__law_draw.d.body (tS (Z.cf fsL d E) Z.tk Z.g I__law_draw.fd.b) :=
  (s_cons (s_asn B.nd rfl (by first | exact Or.inl rfl | exact Or.inr rfl) (Or.inl rfl) x_int rfl) (s_cons (b_for B (i_seq B.hc (x_var (pv 0))) (g_name B.nd rfl (by first | exact Or.inl rfl | exact Or.inr rfl) (by first | exact Or.inl rfl | exact Or.inr rfl)) (s_cons (s_asn B.nd rfl (by first | exact Or.inl rfl | exact Or.inr rfl) (Or.inl rfl) (x_op B.hc rfl (x_bi B.hc B.calm rfl rfl (B.mb m_int) rfl (a_cons rfl (x_op B.hc rfl (x_op B.hc rfl (x_op B.hc rfl (x_var (pv 1)) x_int) (x_op B.hc rfl (x_bi B.hc B.calm rfl rfl (B.mb m_abs) rfl (a_cons rfl (x_bi B.hc B.calm rfl rfl (B.mb m_int) rfl (a_cons rfl (x_var (pv 2)) a_nil)) a_nil)) x_int)) x_int) a_nil)) x_int) rfl) s_nil) (fun _ => rfl)) (s_cons (s_ret (x_lst (a_cons rfl (b_lc (ownN := [("cell", 2)]) B [2] rfl (by kernel_rfl) (i_seq B.hc (x_var (pv 0))) (fun s H C cl fp B => (g_name B.nd rfl (by first | exact Or.inl rfl | exact Or.inr rfl) (by first | exact Or.inl rfl | exact Or.inr rfl))) (fun s H C cl fp B => pts_no) (fun s H C cl fp B => (x_bi B.hc B.calm rfl rfl (B.mb m_abs) rfl (a_cons rfl (x_bi B.hc B.calm rfl rfl (B.mb m_int) rfl (a_cons rfl (x_var (pv 2)) a_nil)) a_nil))) (fun _ => rfl)) (a_cons rfl (x_neg B.hc x_int) (a_cons rfl x_int (a_cons rfl (x_var (pv 1)) a_nil)))))) s_nil)))
theorem B__law_take {Z : Wd} (zx : Z.xn = xnL) (d : Nat) (cdv : Value) (A : Around) (outer : List PySem.Env) (s : Shared) (H : Hp) (E : XK) (B : Bd fsL Z bnL csL d (Z.cf fsL d E) (Z.X I__law_take cdv A outer s H E)) : PSs (Z.X I__law_take cdv A outer s H E) I__law_take.d.body (tS (Z.cf fsL d E) Z.tk Z.g I__law_take.fd.b) :=
  (s_cons (s_ite (t_cmp B.hc B.hw B.hu rfl rfl (x_ix B.hc B.hw B.hu (fun _ _ => rfl) (x_var (pv 0)) x_int) x_int) (s_cons (s_six B.hc B.hw B.hu (pv 0) x_int (x_op B.hc rfl (x_ix B.hc B.hw B.hu (fun _ _ => rfl) (x_var (pv 0)) x_int) x_int) rfl rfl (fun _ => rfl)) (s_cons (s_ite (t_cmp B.hc B.hw B.hu rfl rfl (x_ix B.hc B.hw B.hu (fun _ _ => rfl) (x_var (pv 0)) x_int) (x_bi B.hc B.calm rfl rfl (B.mb m_len) rfl (a_cons rfl (x_ix B.hc B.hw B.hu (fun _ _ => rfl) (x_var (pv 0)) x_int) a_nil))) (s_cons (s_six B.hc B.hw B.hu (pv 0) x_int (x_ix B.hc B.hw B.hu (fun _ _ => rfl) (x_ix B.hc B.hw B.hu (fun _ _ => rfl) (x_var (pv 0)) x_int) (x_ix B.hc B.hw B.hu (fun _ _ => rfl) (x_var (pv 0)) x_int)) rfl rfl (fun _ => rfl)) s_nil) s_nil) (s_cons (s_ite (t_cmp B.hc B.hw B.hu rfl rfl (x_ix B.hc B.hw B.hu (fun _ _ => rfl) (x_var (pv 0)) x_int) x_int) (s_cons (s_six B.hc B.hw B.hu (pv 0) x_int (x_op B.hc rfl (x_bi B.hc B.calm rfl rfl (B.mb m_int) rfl (a_cons rfl (x_op B.hc rfl (x_op B.hc rfl (x_ix B.hc B.hw B.hu (fun _ _ => rfl) (x_var (pv 0)) x_int) x_int) x_int) a_nil)) x_int) rfl rfl (fun _ => rfl)) (s_cons (s_six B.hc B.hw B.hu (pv 0) x_int (x_ix B.hc B.hw B.hu (fun _ _ => rfl) (x_var (pv 0)) x_int) rfl rfl (fun _ => rfl)) s_nil)) s_nil) s_nil))) s_nil) (s_cons (s_asn B.nd rfl (by first | exact Or.inl rfl | exact Or.inr rfl) (Or.inl rfl) (x_op B.hc rfl (x_bi B.hc B.calm rfl rfl (B.mb m_int) rfl (a_cons rfl (x_ix B.hc B.hw B.hu (fun _ _ => rfl) (x_var (pv 0)) x_int) a_nil)) (x_var (pv 1))) rfl) (s_cons (s_six B.hc B.hw B.hu (pv 0) x_int (x_op B.hc rfl (x_ix B.hc B.hw B.hu (fun _ _ => rfl) (x_var (pv 0)) x_int) (x_var (pv 1))) rfl rfl (fun _ => rfl)) (s_cons (s_ret (x_var (pv 2))) s_nil))))
theorem B__law_lowest {Z : Wd} (zx : Z.xn = xnL) (d : Nat) (cdv : Value) (A : Around) (outer : List PySem.Env) (s : Shared) (H : Hp) (E : XK) (B : Bd fsL Z bnL csL d (Z.cf fsL d E) (Z.X I__law_lowest cdv A outer s H E)) : PSs (Z.X I__law_lowest cdv A outer s H E) I__law_lowest.d.body (tS (Z.cf fsL d E) Z.tk Z.g I__law_lowest.fd.b) :=
  (s_cons (s_par2 B.calm B.nd rfl rfl rfl rfl (a_cons rfl (x_bi B.hc B.calm rfl rfl (B.mb m_abs) rfl (a_cons rfl (x_var (pv 0)) a_nil)) (a_cons rfl (x_bi B.hc B.calm rfl rfl (B.mb m_abs) rfl (a_cons rfl (x_var (pv 1)) a_nil)) a_nil)) rfl (by decide)) (s_cons (s_whl B.po (t_cmp B.hc B.hw B.hu rfl rfl (x_var (pv 3)) x_int) (s_cons (s_par2 B.calm B.nd rfl rfl rfl rfl (a_cons rfl (x_var (pv 3)) (a_cons rfl (x_op B.hc rfl (x_var (pv 2)) (x_op B.hc rfl (x_var (pv 3)) (x_op B.hc rfl (x_var (pv 2)) (x_var (pv 3))))) a_nil)) rfl (by decide)) s_nil)) (s_cons (s_ret (x_ite (t_cmp B.hc B.hw B.hu rfl rfl (x_var (pv 1)) x_int) (x_tup (a_cons rfl (x_op B.hc rfl (x_var (pv 0)) (x_var (pv 2))) (a_cons rfl (x_op B.hc rfl (x_var (pv 1)) (x_var (pv 2))) a_nil))) (x_tup (a_cons rfl (x_op B.hc rfl (x_neg B.hc (x_var (pv 0))) (x_var (pv 2))) (a_cons rfl (x_op B.hc rfl (x_neg B.hc (x_var (pv 1))) (x_var (pv 2))) a_nil))))) s_nil)))
theorem B__law_plus {Z : Wd} (zx : Z.xn = xnL) (d : Nat) (cdv : Value) (A : Around) (outer : List PySem.Env) (s : Shared) (H : Hp) (E : XK) (B : Bd fsL Z bnL csL d (Z.cf fsL d E) (Z.X I__law_plus cdv A outer s H E)) : PSs (Z.X I__law_plus cdv A outer s H E) I__law_plus.d.body (tS (Z.cf fsL d E) Z.tk Z.g I__law_plus.fd.b) :=
  (s_cons (s_ret (b_call B 25 rfl rfl rfl rfl rfl (a_cons rfl (x_op B.hc rfl (x_op B.hc rfl (x_ix B.hc B.hw B.hu (fun _ _ => rfl) (x_var (pv 0)) x_int) (x_ix B.hc B.hw B.hu (fun _ _ => rfl) (x_var (pv 1)) x_int)) (x_op B.hc rfl (x_ix B.hc B.hw B.hu (fun _ _ => rfl) (x_var (pv 1)) x_int) (x_ix B.hc B.hw B.hu (fun _ _ => rfl) (x_var (pv 0)) x_int))) (a_cons rfl (x_op B.hc rfl (x_ix B.hc B.hw B.hu (fun _ _ => rfl) (x_var (pv 0)) x_int) (x_ix B.hc B.hw B.hu (fun _ _ => rfl) (x_var (pv 1)) x_int)) a_nil)))) s_nil)
theorem B__law_times {Z : Wd} (zx : Z.xn = xnL) (d : Nat) (cdv : Value) (A : Around) (outer : List PySem.Env) (s : Shared) (H : Hp) (E : XK) (B : Bd fsL Z bnL csL d (Z.cf fsL d E) (Z.X I__law_times cdv A outer s H E)) : PSs (Z.X I__law_times cdv A outer s H E) I__law_times.d.body (tS (Z.cf fsL d E) Z.tk Z.g I__law_times.fd.b) :=
  (s_cons (s_ret (b_call B 25 rfl rfl rfl rfl rfl (a_cons rfl (x_op B.hc rfl (x_ix B.hc B.hw B.hu (fun _ _ => rfl) (x_var (pv 0)) x_int) (x_ix B.hc B.hw B.hu (fun _ _ => rfl) (x_var (pv 1)) x_int)) (a_cons rfl (x_op B.hc rfl (x_ix B.hc B.hw B.hu (fun _ _ => rfl) (x_var (pv 0)) x_int) (x_ix B.hc B.hw B.hu (fun _ _ => rfl) (x_var (pv 1)) x_int)) a_nil)))) s_nil)
theorem B__law_minus {Z : Wd} (zx : Z.xn = xnL) (d : Nat) (cdv : Value) (A : Around) (outer : List PySem.Env) (s : Shared) (H : Hp) (E : XK) (B : Bd fsL Z bnL csL d (Z.cf fsL d E) (Z.X I__law_minus cdv A outer s H E)) : PSs (Z.X I__law_minus cdv A outer s H E) I__law_minus.d.body (tS (Z.cf fsL d E) Z.tk Z.g I__law_minus.fd.b) :=
  (s_cons (s_ret (b_call B 26 rfl rfl rfl rfl rfl (a_cons rfl (x_var (pv 0)) (a_cons rfl (x_tup (a_cons rfl (x_neg B.hc (x_ix B.hc B.hw B.hu (fun _ _ => rfl) (x_var (pv 1)) x_int)) (a_cons rfl (x_ix B.hc B.hw B.hu (fun _ _ => rfl) (x_var (pv 1)) x_int) a_nil))) a_nil)))) s_nil)
theorem B__law_less {Z : Wd} (zx : Z.xn = xnL) (d : Nat) (cdv : Value) (A : Around) (outer : List PySem.Env) (s : Shared) (H : Hp) (E : XK) (B : Bd fsL Z bnL csL d (Z.cf fsL d E) (Z.X I__law_less cdv A outer s H E)) : PSs (Z.X I__law_less cdv A outer s H E) I__law_less.d.body (tS (Z.cf fsL d E) Z.tk Z.g I__law_less.fd.b) :=
  (s_cons (s_ret (x_cmp B.hc B.hw B.hu rfl rfl (x_op B.hc rfl (x_ix B.hc B.hw B.hu (fun _ _ => rfl) (x_var (pv 0)) x_int) (x_ix B.hc B.hw B.hu (fun _ _ => rfl) (x_var (pv 1)) x_int)) (x_op B.hc rfl (x_ix B.hc B.hw B.hu (fun _ _ => rfl) (x_var (pv 1)) x_int) (x_ix B.hc B.hw B.hu (fun _ _ => rfl) (x_var (pv 0)) x_int)))) s_nil)
theorem B__law_sum {Z : Wd} (zx : Z.xn = xnL) (d : Nat) (cdv : Value) (A : Around) (outer : List PySem.Env) (s : Shared) (H : Hp) (E : XK) (B : Bd fsL Z bnL csL d (Z.cf fsL d E) (Z.X I__law_sum cdv A outer s H E)) : PSs (Z.X I__law_sum cdv A outer s H E) I__law_sum.d.body (tS (Z.cf fsL d E) Z.tk Z.g I__law_sum.fd.b) :=
  (s_cons (s_asn B.nd rfl (by first | exact Or.inl rfl | exact Or.inr rfl) (Or.inl rfl) (x_tup (a_cons rfl x_int (a_cons rfl x_int a_nil))) rfl) (s_cons (b_for B (i_seq B.hc (x_var (pv 0))) (g_name B.nd rfl (by first | exact Or.inl rfl | exact Or.inr rfl) (by first | exact Or.inl rfl | exact Or.inr rfl)) (s_cons (s_asn B.nd rfl (by first | exact Or.inl rfl | exact Or.inr rfl) (Or.inl rfl) (b_call B 26 rfl rfl rfl rfl rfl (a_cons rfl (x_var (pv 1)) (a_cons rfl (x_var (pv 2)) a_nil))) rfl) s_nil) (fun _ => rfl)) (s_cons (s_ret (x_var (pv 1))) s_nil)))
theorem B__law_best {Z : Wd} (zx : Z.xn = xnL) (d : Nat) (cdv : Value) (A : Around) (outer : List PySem.Env) (s : Shared) (H : Hp) (E : XK) (B : Bd fsL Z bnL csL d (Z.cf fsL d E) (Z.X I__law_best cdv A outer s H E)) : PSs (Z.X I__law_best cdv A outer s H E) I__law_best.d.body (tS (Z.cf fsL d E) Z.tk Z.g I__law_best.fd.b) :=
  (s_cons (s_asn B.nd rfl (by first | exact Or.inl rfl | exact Or.inr rfl) (Or.inl rfl) (x_ix B.hc B.hw B.hu (fun _ _ => rfl) (x_var (pv 0)) x_int) rfl) (s_cons (b_for B (i_seq B.hc (x_var (pv 0))) (g_name B.nd rfl (by first | exact Or.inl rfl | exact Or.inr rfl) (by first | exact Or.inl rfl | exact Or.inr rfl)) (s_cons (s_ite (PW.pt (t_or (PW.pt (t_and (t_plain B.hc (b_call B 29 rfl rfl rfl rfl rfl (a_cons rfl (x_var (pv 2)) (a_cons rfl (x_var (pv 3)) a_nil))) (fun _ => rfl) (fun _ => rfl)) (t_and1 (t_cmp B.hc B.hw B.hu rfl rfl (x_var (pv 1)) x_int)))) (t_or1 (PW.pt (t_and (t_plain B.hc (b_call B 29 rfl rfl rfl rfl rfl (a_cons rfl (x_var (pv 3)) (a_cons rfl (x_var (pv 2)) a_nil))) (fun _ => rfl) (fun _ => rfl)) (t_and1 (t_cmp B.hc B.hw B.hu rfl rfl (x_var (pv 1)) (x_neg B.hc x_int)))))))) (s_cons (s_asn B.nd rfl (by first | exact Or.inl rfl | exact Or.inr rfl) (Or.inl rfl) (x_var (pv 3)) rfl) s_nil) s_nil) s_nil) (fun _ => rfl)) (s_cons (s_ret (x_var (pv 2))) s_nil)))
theorem B__law_gain {Z : Wd} (zx : Z.xn = xnL) (d : Nat) (cdv : Value) (A : Around) (outer : List PySem.Env) (s : Shared) (H : Hp) (E : XK) (B : Bd fsL Z bnL csL d (Z.cf fsL d E) (Z.X I__law_gain cdv A outer s H E)) : PSs (Z.X I__law_gain cdv A outer s H E) I__law_gain.d.body (tS (Z.cf fsL d E) Z.tk Z.g I__law_gain.fd.b) :=
  (s_cons (s_ret (b_call B 25 rfl rfl rfl rfl rfl (a_cons rfl (x_op B.hc rfl (b_call B 24 rfl rfl rfl rfl rfl (a_cons rfl (x_var (pv 0)) (a_cons rfl x_int a_nil))) x_int) (a_cons rfl (x_op B.hc rfl x_int (b_call B 24 rfl rfl rfl rfl rfl (a_cons rfl (x_var (pv 0)) (a_cons rfl x_int a_nil)))) a_nil)))) s_nil)
theorem B__law_spread {Z : Wd} (zx : Z.xn = xnL) (d : Nat) (cdv : Value) (A : Around) (outer : List PySem.Env) (s : Shared) (H : Hp) (E : XK) (B : Bd fsL Z bnL csL d (Z.cf fsL d E) (Z.X I__law_spread cdv A outer s H E)) : PSs (Z.X I__law_spread cdv A outer s H E) I__law_spread.d.body (tS (Z.cf fsL d E) Z.tk Z.g I__law_spread.fd.b) :=
  (s_cons (s_asn B.nd rfl (by first | exact Or.inl rfl | exact Or.inr rfl) (Or.inl rfl) (x_lst a_nil) rfl) (s_cons (b_for B (i_rng1 rfl (B.mb m_range) rfl (a_cons rfl (x_op B.hc rfl x_int (b_call B 24 rfl rfl rfl rfl rfl (a_cons rfl (x_var (pv 0)) (a_cons rfl (x_var (pv 1)) a_nil)))) a_nil) (arity_ok rfl)) (g_name B.nd rfl (by first | exact Or.inl rfl | exact Or.inr rfl) (by first | exact Or.inl rfl | exact Or.inr rfl)) (s_cons (s_asn B.nd rfl (by first | exact Or.inl rfl | exact Or.inr rfl) (Or.inl rfl) (b_call B 32 rfl rfl rfl rfl rfl (a_cons rfl (x_var (pv 0)) a_nil)) rfl) (s_cons (s_asn B.nd rfl (by first | exact Or.inl rfl | exact Or.inr rfl) (Or.inl rfl) (x_op B.hc rfl (x_var (pv 2)) (x_ite (t_cmp B.hc B.hw B.hu rfl rfl (x_var (pv 4)) (x_var (pv 2))) (x_lst (a_cons rfl (x_var (pv 4)) a_nil)) (x_lst a_nil))) rfl) s_nil)) (fun _ => rfl)) (s_cons (s_asn B.nd rfl (by first | exact Or.inl rfl | exact Or.inr rfl) (Or.inl rfl) (x_lst a_nil) rfl) (s_cons (s_whl B.po (t_cmp B.hc B.hw B.hu rfl rfl (x_var (pv 2)) (x_lst a_nil)) (s_cons (s_asn B.nd rfl (by first | exact Or.inl rfl | exact Or.inr rfl) (Or.inl rfl) (b_call B 31 rfl rfl rfl rfl rfl (a_cons rfl (x_var (pv 2)) (a_cons rfl (x_neg B.hc x_int) a_nil))) rfl) (s_cons (s_append B.hc (pv 5) rfl (a_cons rfl (x_var (pv 6)) a_nil) rfl rfl) (s_cons (b_asnLc (ownN := [("gain", 4)]) B [4] rfl (by kernel_rfl) rfl rfl rfl (i_seq B.hc (x_var (pv 2))) (fun s H C cl fp B => (g_name B.nd rfl (by first | exact Or.inl rfl | exact Or.inr rfl) (by first | exact Or.inl rfl | exact Or.inr rfl))) (fun s H C cl fp B => L2.pts_one (t_cmp B.hc B.hw B.hu rfl rfl (x_var (pv 4)) (x_var (pv 6)))) (fun s H C cl fp B => (x_var (pv 4))) (fun _ => rfl)) s_nil)))) (s_cons (s_asn B.nd rfl (by first | exact Or.inl rfl | exact Or.inr rfl) (Or.inl rfl) (b_lc (ownN := [("gain", 4)]) B [4] rfl (by kernel_rfl) (i_seq B.hc (x_var (pv 5))) (fun s H C cl fp B => (g_name B.nd rfl (by first | exact Or.inl rfl | exact Or.inr rfl) (by first | exact Or.inl rfl | exact Or.inr rfl))) (fun s H C cl fp B => pts_no) (fun s H C cl fp B => (x_op B.hc rfl x_int (b_call B 24 rfl rfl rfl rfl rfl (a_cons rfl (x_var (pv 0)) (a_cons rfl x_int a_nil))))) (fun _ => rfl)) rfl) (s_cons (s_ret (x_bi B.hc B.calm rfl rfl (B.mb m_tuple) rfl (a_cons rfl (b_lc (ownN := [("gain", 4), ("weight", 8)]) B [4, 8] rfl (by kernel_rfl) (i_zip B.hc rfl (B.mb m_zip) rfl rfl (a_cons rfl (x_var (pv 5)) (a_cons rfl (x_var (pv 7)) a_nil))) (fun s H C cl fp B => (g_tupB B rfl rfl (g_cons rfl (g_name B.nd rfl (by first | exact Or.inl rfl | exact Or.inr rfl) (by first | exact Or.inl rfl | exact Or.inr rfl)) (g_cons rfl (g_name B.nd rfl (by first | exact Or.inl rfl | exact Or.inr rfl) (by first | exact Or.inl rfl | exact Or.inr rfl)) g_nil)))) (fun s H C cl fp B => pts_no) (fun s H C cl fp B => (x_tup (a_cons rfl (x_var (pv 4)) (a_cons rfl (b_call B 25 rfl rfl rfl rfl rfl (a_cons rfl (x_var (pv 8)) (a_cons rfl (x_bi B.hc B.calm rfl rfl (B.mb m_sum) rfl (a_cons rfl (x_var (pv 7)) a_nil)) a_nil))) a_nil)))) (fun _ => rfl)) a_nil))) s_nil))))))
theorem B__law_refused {Z : Wd} (zx : Z.xn = xnL) (d : Nat) (cdv : Value) (A : Around) (outer : List PySem.Env) (s : Shared) (H : Hp) (E : XK) (B : Bd fsL Z bnL csL d (Z.cf fsL d E) (Z.X I__law_refused cdv A outer s H E)) : PSs (Z.X I__law_refused cdv A outer s H E) I__law_refused.d.body (tS (Z.cf fsL d E) Z.tk Z.g I__law_refused.fd.b) :=
  (s_cons (b_try B (xz zx 0 rfl) rfl rfl rfl rfl (fun W pn xe B => (s_cons (s_exp (b_call B 13 rfl rfl rfl rfl rfl (a_cons rfl (x_var (pv 0)) a_nil)) rfl) s_nil)) (fun a oe pn => (s_cons (s_ret x_bl) s_nil))) (s_cons (s_ret x_bl) s_nil))
theorem B__law_gathered {Z : Wd} (zx : Z.xn = xnL) (d : Nat) (cdv : Value) (A : Around) (outer : List PySem.Env) (s : Shared) (H : Hp) (E : XK) (B : Bd fsL Z bnL csL d (Z.cf fsL d E) (Z.X I__law_gathered cdv A outer s H E)) : PSs (Z.X I__law_gathered cdv A outer s H E) I__law_gathered.d.body (tS (Z.cf fsL d E) Z.tk Z.g I__law_gathered.fd.b) :=
  (s_cons (s_par2 B.calm B.nd rfl rfl rfl rfl (a_cons rfl (x_lst a_nil) (a_cons rfl (x_lst a_nil) a_nil)) rfl (by decide)) (s_cons (b_for B (i_seq B.hc (x_var (pv 0))) (g_tupB B rfl rfl (g_cons rfl (g_name B.nd rfl (by first | exact Or.inl rfl | exact Or.inr rfl) (by first | exact Or.inl rfl | exact Or.inr rfl)) (g_cons rfl (g_name B.nd rfl (by first | exact Or.inl rfl | exact Or.inr rfl) (by first | exact Or.inl rfl | exact Or.inr rfl)) g_nil))) (s_cons (s_asn B.nd rfl (by first | exact Or.inl rfl | exact Or.inr rfl) (Or.inl rfl) (x_op B.hc rfl (x_var (pv 1)) (x_ite (PW.pt (t_and (t_cmp B.hc B.hw B.hu rfl rfl (x_var (pv 3)) (x_var (pv 1))) (t_and1 (t_cmp B.hc B.hw B.hu rfl rfl (x_var (pv 4)) (x_tup (a_cons rfl x_int (a_cons rfl x_int a_nil))))))) (x_lst (a_cons rfl (x_var (pv 3)) a_nil)) (x_lst a_nil))) rfl) s_nil) (fun _ => rfl)) (s_cons (s_whl B.po (t_cmp B.hc B.hw B.hu rfl rfl (x_var (pv 1)) (x_lst a_nil)) (s_cons (s_asn B.nd rfl (by first | exact Or.inl rfl | exact Or.inr rfl) (Or.inl rfl) (b_call B 31 rfl rfl rfl rfl rfl (a_cons rfl (x_var (pv 1)) (a_cons rfl (x_neg B.hc x_int) a_nil))) rfl) (s_cons (s_append B.hc (pv 2) rfl (a_cons rfl (x_var (pv 5)) a_nil) rfl rfl) (s_cons (b_asnLc (ownN := [("gain", 3)]) B [3] rfl (by kernel_rfl) rfl rfl rfl (i_seq B.hc (x_var (pv 1))) (fun s H C cl fp B => (g_name B.nd rfl (by first | exact Or.inl rfl | exact Or.inr rfl) (by first | exact Or.inl rfl | exact Or.inr rfl))) (fun s H C cl fp B => L2.pts_one (t_cmp B.hc B.hw B.hu rfl rfl (x_var (pv 3)) (x_var (pv 5)))) (fun s H C cl fp B => (x_var (pv 3))) (fun _ => rfl)) s_nil)))) (s_cons (s_ret (x_bi B.hc B.calm rfl rfl (B.mb m_tuple) rfl (a_cons rfl (b_lc (ownN := [("gain", 3)]) B [3] rfl (by kernel_rfl) (i_seq B.hc (x_var (pv 2))) (fun s H C cl fp B => (g_name B.nd rfl (by first | exact Or.inl rfl | exact Or.inr rfl) (by first | exact Or.inl rfl | exact Or.inr rfl))) (fun s H C cl fp B => pts_no) (fun s H C cl fp B => (x_tup (a_cons rfl (x_var (pv 3)) (a_cons rfl (b_call B 30 rfl rfl rfl rfl rfl (a_cons rfl (b_lc (ownN := [("one", 6), ("chance", 4)]) B [6, 4] rfl (by kernel_rfl) (i_seq B.hc (x_var (pv 0))) (fun s H C cl fp B => (g_tupB B rfl rfl (g_cons rfl (g_name B.nd rfl (by first | exact Or.inl rfl | exact Or.inr rfl) (by first | exact Or.inl rfl | exact Or.inr rfl)) (g_cons rfl (g_name B.nd rfl (by first | exact Or.inl rfl | exact Or.inr rfl) (by first | exact Or.inl rfl | exact Or.inr rfl)) g_nil)))) (fun s H C cl fp B => L2.pts_one (t_cmp B.hc B.hw B.hu rfl rfl (x_var (pv 6)) (x_var (pv 3)))) (fun s H C cl fp B => (x_var (pv 4))) (fun _ => rfl)) a_nil)) a_nil)))) (fun _ => rfl)) a_nil))) s_nil))))
theorem B_law {Z : Wd} (zx : Z.xn = xnL) (d : Nat) (cdv : Value) (A : Around) (outer : List PySem.Env) (s : Shared) (H : Hp) (E : XK) (B : Bd fsL Z bnL csL d (Z.cf fsL d E) (Z.X I_law cdv A outer s H E)) : PSs (Z.X I_law cdv A outer s H E) I_law.d.body (tS (Z.cf fsL d E) Z.tk Z.g I_law.fd.b) :=
  (s_cons (s_asn B.nd rfl (by first | exact Or.inl rfl | exact Or.inr rfl) (Or.inl rfl) (b_call B 23 rfl rfl rfl rfl rfl (a_cons rfl (x_var (pv 0)) a_nil)) rfl) (s_cons (b_for B (i_rng1 rfl (B.mb m_range) rfl (a_cons rfl x_int a_nil) (arity_ok rfl)) (g_name B.nd rfl (by first | exact Or.inl rfl | exact Or.inr rfl) (by first | exact Or.inl rfl | exact Or.inr rfl)) (s_cons (s_parN B.calm B.nd (.cons rfl (by first | exact Or.inl rfl | exact Or.inr rfl) (Or.inl rfl) (.cons rfl (by first | exact Or.inl rfl | exact Or.inr rfl) (Or.inl rfl) .nil)) (a_cons rfl (b_call B 33 rfl rfl rfl rfl rfl (a_cons rfl (x_var (pv 1)) (a_cons rfl x_int a_nil))) (a_cons rfl (b_call B 33 rfl rfl rfl rfl rfl (a_cons rfl (x_var (pv 1)) (a_cons rfl x_int a_nil))) a_nil)) (by decide) rfl) (s_cons (s_asn B.nd rfl (by first | exact Or.inl rfl | exact Or.inr rfl) (Or.inl rfl) (b_call B 30 rfl rfl rfl rfl rfl (a_cons rfl (b_lc (ownN := [("gain", 20), ("chance", 19)]) B [20, 19] rfl (by kernel_rfl) (i_seq B.hc (x_var (pv 3))) (fun s H C cl fp B => (g_tupB B rfl rfl (g_cons rfl (g_name B.nd rfl (by first | exact Or.inl rfl | exact Or.inr rfl) (by first | exact Or.inl rfl | exact Or.inr rfl)) (g_cons rfl (g_name B.nd rfl (by first | exact Or.inl rfl | exact Or.inr rfl) (by first | exact Or.inl rfl | exact Or.inr rfl)) g_nil)))) (fun s H C cl fp B => pts_no) (fun s H C cl fp B => (b_call B 27 rfl rfl rfl rfl rfl (a_cons rfl (x_var (pv 20)) (a_cons rfl (x_var (pv 19)) a_nil)))) (fun _ => rfl)) a_nil)) rfl) (s_cons (s_asn B.nd rfl (by first | exact Or.inl rfl | exact Or.inr rfl) (Or.inl rfl) (b_call B 30 rfl rfl rfl rfl rfl (a_cons rfl (b_lc (ownN := [("gain", 20), ("chance", 19)]) B [20, 19] rfl (by kernel_rfl) (i_seq B.hc (x_var (pv 3))) (fun s H C cl fp B => (g_tupB B rfl rfl (g_cons rfl (g_name B.nd rfl (by first | exact Or.inl rfl | exact Or.inr rfl) (by first | exact Or.inl rfl | exact Or.inr rfl)) (g_cons rfl (g_name B.nd rfl (by first | exact Or.inl rfl | exact Or.inr rfl) (by first | exact Or.inl rfl | exact Or.inr rfl)) g_nil)))) (fun s H C cl fp B => pts_no) (fun s H C cl fp B => (b_call B 27 rfl rfl rfl rfl rfl (a_cons rfl (x_var (pv 19)) (a_cons rfl (b_call B 27 rfl rfl rfl rfl rfl (a_cons rfl (x_var (pv 20)) (a_cons rfl (x_var (pv 20)) a_nil))) a_nil)))) (fun _ => rfl)) a_nil)) rfl) (s_cons (s_ite (PW.pt (t_or (t_cmp B.hc B.hw B.hu rfl rfl (b_call B 13 rfl rfl rfl rfl rfl (a_cons rfl (x_var (pv 3)) a_nil)) x_non) (t_or (t_cmp B.hc B.hw B.hu rfl rfl (b_call B 15 rfl rfl rfl rfl rfl (a_cons rfl (x_var (pv 3)) a_nil)) (x_var (pv 5))) (t_or1 (t_cmp B.hc B.hw B.hu rfl rfl (b_call B 16 rfl rfl rfl rfl rfl (a_cons rfl (x_var (pv 3)) a_nil)) (b_call B 28 rfl rfl rfl rfl rfl (a_cons rfl (x_var (pv 6)) (a_cons rfl (b_call B 27 rfl rfl rfl rfl rfl (a_cons rfl (x_var (pv 5)) (a_cons rfl (x_var (pv 5)) a_nil))) a_nil)))))))) (s_cons (s_ret x_bl) s_nil) s_nil) (s_cons (s_asn B.nd rfl (by first | exact Or.inl rfl | exact Or.inr rfl) (Or.inl rfl) (x_ix B.hc B.hw B.hu (fun _ _ => rfl) (x_lst (a_cons rfl (b_call B 32 rfl rfl rfl rfl rfl (a_cons rfl (x_var (pv 1)) a_nil)) (a_cons rfl (x_ix B.hc B.hw B.hu (fun _ _ => rfl) (x_ix B.hc B.hw B.hu (fun _ _ => rfl) (x_var (pv 3)) (b_call B 24 rfl rfl rfl rfl rfl (a_cons rfl (x_var (pv 1)) (a_cons rfl (x_bi B.hc B.calm rfl rfl (B.mb m_len) rfl (a_cons rfl (x_var (pv 3)) a_nil)) a_nil)))) x_int) a_nil))) (b_call B 24 rfl rfl rfl rfl rfl (a_cons rfl (x_var (pv 1)) (a_cons rfl x_int a_nil)))) rfl) (s_cons (s_ite (t_cmp B.hc B.hw B.hu rfl rfl (b_call B 17 rfl rfl rfl rfl rfl (a_cons rfl (x_var (pv 3)) (a_cons rfl (x_var (pv 7)) a_nil))) (b_call B 30 rfl rfl rfl rfl rfl (a_cons rfl (b_lc (ownN := [("gain", 20), ("chance", 19)]) B [20, 19] rfl (by kernel_rfl) (i_seq B.hc (x_var (pv 3))) (fun s H C cl fp B => (g_tupB B rfl rfl (g_cons rfl (g_name B.nd rfl (by first | exact Or.inl rfl | exact Or.inr rfl) (by first | exact Or.inl rfl | exact Or.inr rfl)) (g_cons rfl (g_name B.nd rfl (by first | exact Or.inl rfl | exact Or.inr rfl) (by first | exact Or.inl rfl | exact Or.inr rfl)) g_nil)))) (fun s H C cl fp B => L2.pts_one (t_not (t_plain B.hc (b_call B 29 rfl rfl rfl rfl rfl (a_cons rfl (x_var (pv 7)) (a_cons rfl (x_var (pv 20)) a_nil))) (fun _ => rfl) (fun _ => rfl)))) (fun s H C cl fp B => (x_var (pv 19))) (fun _ => rfl)) a_nil))) (s_cons (s_ret x_bl) s_nil) s_nil) (s_cons (s_ite (t_cmp B.hc B.hw B.hu rfl rfl (b_call B 18 rfl rfl rfl rfl rfl (a_cons rfl (x_var (pv 3)) (a_cons rfl (x_var (pv 7)) a_nil))) (b_call B 30 rfl rfl rfl rfl rfl (a_cons rfl (b_lc (ownN := [("gain", 20), ("chance", 19)]) B [20, 19] rfl (by kernel_rfl) (i_seq B.hc (x_var (pv 3))) (fun s H C cl fp B => (g_tupB B rfl rfl (g_cons rfl (g_name B.nd rfl (by first | exact Or.inl rfl | exact Or.inr rfl) (by first | exact Or.inl rfl | exact Or.inr rfl)) (g_cons rfl (g_name B.nd rfl (by first | exact Or.inl rfl | exact Or.inr rfl) (by first | exact Or.inl rfl | exact Or.inr rfl)) g_nil)))) (fun s H C cl fp B => L2.pts_one (t_plain B.hc (b_call B 29 rfl rfl rfl rfl rfl (a_cons rfl (x_var (pv 20)) (a_cons rfl (x_var (pv 7)) a_nil))) (fun _ => rfl) (fun _ => rfl))) (fun s H C cl fp B => (b_call B 27 rfl rfl rfl rfl rfl (a_cons rfl (x_var (pv 19)) (a_cons rfl (b_call B 28 rfl rfl rfl rfl rfl (a_cons rfl (x_var (pv 7)) (a_cons rfl (x_var (pv 20)) a_nil))) a_nil)))) (fun _ => rfl)) a_nil))) (s_cons (s_ret x_bl) s_nil) s_nil) (s_cons (s_asn B.nd rfl (by first | exact Or.inl rfl | exact Or.inr rfl) (Or.inl rfl) (x_ix B.hc B.hw B.hu (fun _ _ => rfl) (x_lst (a_cons rfl (x_tup (a_cons rfl x_int (a_cons rfl x_int a_nil))) (a_cons rfl (x_tup (a_cons rfl x_int (a_cons rfl x_int a_nil))) (a_cons rfl (x_tup (a_cons rfl x_int (a_cons rfl x_int a_nil))) (a_cons rfl (x_tup (a_cons rfl x_int (a_cons rfl x_int a_nil))) a_nil))))) (b_call B 24 rfl rfl rfl rfl rfl (a_cons rfl (x_var (pv 1)) (a_cons rfl x_int a_nil)))) rfl) (s_cons (s_asn B.nd rfl (by first | exact Or.inl rfl | exact Or.inr rfl) (Or.inl rfl) (x_tup (a_cons rfl (x_var (pv 8)) (a_cons rfl (b_call B 28 rfl rfl rfl rfl rfl (a_cons rfl (x_tup (a_cons rfl x_int (a_cons rfl x_int a_nil))) (a_cons rfl (x_var (pv 8)) a_nil))) a_nil))) rfl) (s_cons (s_asn B.nd rfl (by first | exact Or.inl rfl | exact Or.inr rfl) (Or.inl rfl) (x_op B.hc rfl (b_lc (ownN := [("gain", 20), ("chance", 19)]) B [20, 19] rfl (by kernel_rfl) (i_seq B.hc (x_var (pv 3))) (fun s H C cl fp B => (g_tupB B rfl rfl (g_cons rfl (g_name B.nd rfl (by first | exact Or.inl rfl | exact Or.inr rfl) (by first | exact Or.inl rfl | exact Or.inr rfl)) (g_cons rfl (g_name B.nd rfl (by first | exact Or.inl rfl | exact Or.inr rfl) (by first | exact Or.inl rfl | exact Or.inr rfl)) g_nil)))) (fun s H C cl fp B => pts_no) (fun s H C cl fp B => (x_tup (a_cons rfl (x_var (pv 20)) (a_cons rfl (b_call B 27 rfl rfl rfl rfl rfl (a_cons rfl (x_ix B.hc B.hw B.hu (fun _ _ => rfl) (x_var (pv 9)) x_int) (a_cons rfl (x_var (pv 19)) a_nil))) a_nil)))) (fun _ => rfl)) (b_lc (ownN := [("gain", 20), ("chance", 19)]) B [20, 19] rfl (by kernel_rfl) (i_seq B.hc (x_var (pv 4))) (fun s H C cl fp B => (g_tupB B rfl rfl (g_cons rfl (g_name B.nd rfl (by first | exact Or.inl rfl | exact Or.inr rfl) (by first | exact Or.inl rfl | exact Or.inr rfl)) (g_cons rfl (g_name B.nd rfl (by first | exact Or.inl rfl | exact Or.inr rfl) (by first | exact Or.inl rfl | exact Or.inr rfl)) g_nil)))) (fun s H C cl fp B => pts_no) (fun s H C cl fp B => (x_tup (a_cons rfl (x_var (pv 20)) (a_cons rfl (b_call B 27 rfl rfl rfl rfl rfl (a_cons rfl (x_ix B.hc B.hw B.hu (fun _ _ => rfl) (x_var (pv 9)) x_int) (a_cons rfl (x_var (pv 19)) a_nil))) a_nil)))) (fun _ => rfl))) rfl) (s_cons (s_ite (t_cmp B.hc B.hw B.hu rfl rfl (b_call B 19 rfl rfl rfl rfl rfl (a_cons rfl (x_tup (a_cons rfl (x_var (pv 3)) (a_cons rfl (x_var (pv 4)) a_nil))) (a_cons rfl (x_var (pv 9)) a_nil))) (b_call B 35 rfl rfl rfl rfl rfl (a_cons rfl (x_var (pv 10)) a_nil))) (s_cons (s_ret x_bl) s_nil) s_nil) (s_cons (s_par2 B.calm B.nd rfl rfl rfl rfl (a_cons rfl (x_lst a_nil) (a_cons rfl (x_lst a_nil) a_nil)) rfl (by decide)) (s_cons (b_for B (i_seq B.hc (x_var (pv 3))) (g_tupB B rfl rfl (g_cons rfl (g_name B.nd rfl (by first | exact Or.inl rfl | exact Or.inr rfl) (by first | exact Or.inl rfl | exact Or.inr rfl)) (g_cons rfl (g_name B.nd rfl (by first | exact Or.inl rfl | exact Or.inr rfl) (by first | exact Or.inl rfl | exact Or.inr rfl)) g_nil))) (s_cons (s_asn B.nd rfl (by first | exact Or.inl rfl | exact Or.inr rfl) (Or.inl rfl) (x_op B.hc rfl (x_var (pv 11)) (b_lc (ownN := [("b", 21), ("q", 22)]) B [21, 22] rfl (by kernel_rfl) (i_seq B.hc (x_var (pv 4))) (fun s H C cl fp B => (g_tupB B rfl rfl (g_cons rfl (g_name B.nd rfl (by first | exact Or.inl rfl | exact Or.inr rfl) (by first | exact Or.inl rfl | exact Or.inr rfl)) (g_cons rfl (g_name B.nd rfl (by first | exact Or.inl rfl | exact Or.inr rfl) (by first | exact Or.inl rfl | exact Or.inr rfl)) g_nil)))) (fun s H C cl fp B => pts_no) (fun s H C cl fp B => (x_tup (a_cons rfl (b_call B 26 rfl rfl rfl rfl rfl (a_cons rfl (x_var (pv 13)) (a_cons rfl (x_var (pv 21)) a_nil))) (a_cons rfl (b_call B 27 rfl rfl rfl rfl rfl (a_cons rfl (x_var (pv 14)) (a_cons rfl (x_var (pv 22)) a_nil))) a_nil)))) (fun _ => rfl))) rfl) (s_cons (s_asn B.nd rfl (by first | exact Or.inl rfl | exact Or.inr rfl) (Or.inl rfl) (x_op B.hc rfl (x_var (pv 12)) (b_lc (ownN := [("b", 21), ("q", 22)]) B [21, 22] rfl (by kernel_rfl) (i_seq B.hc (x_var (pv 4))) (fun s H C cl fp B => (g_tupB B rfl rfl (g_cons rfl (g_name B.nd rfl (by first | exact Or.inl rfl | exact Or.inr rfl) (by first | exact Or.inl rfl | exact Or.inr rfl)) (g_cons rfl (g_name B.nd rfl (by first | exact Or.inl rfl | exact Or.inr rfl) (by first | exact Or.inl rfl | exact Or.inr rfl)) g_nil)))) (fun s H C cl fp B => pts_no) (fun s H C cl fp B => (x_tup (a_cons rfl (b_call B 31 rfl rfl rfl rfl rfl (a_cons rfl (x_lst (a_cons rfl (x_var (pv 13)) (a_cons rfl (x_var (pv 21)) a_nil))) (a_cons rfl x_int a_nil))) (a_cons rfl (b_call B 27 rfl rfl rfl rfl rfl (a_cons rfl (x_var (pv 14)) (a_cons rfl (x_var (pv 22)) a_nil))) a_nil)))) (fun _ => rfl))) rfl) s_nil)) (fun _ => rfl)) (s_cons (s_ite (PW.pt (t_or (t_cmp B.hc B.hw B.hu rfl rfl (b_call B 20 rfl rfl rfl rfl rfl (a_cons rfl (x_var (pv 3)) (a_cons rfl (x_var (pv 4)) a_nil))) (b_call B 35 rfl rfl rfl rfl rfl (a_cons rfl (x_var (pv 11)) a_nil))) (t_or (t_cmp B.hc B.hw B.hu rfl rfl (b_call B 21 rfl rfl rfl rfl rfl (a_cons rfl (x_var (pv 3)) (a_cons rfl (x_var (pv 4)) a_nil))) (b_call B 35 rfl rfl rfl rfl rfl (a_cons rfl (x_var (pv 12)) a_nil))) (t_or1 (t_not (t_plain B.hc (x_isi (t := .tuple) B.hc rfl (B.mb m_isinstance) rfl (B.mb m_tuple) rfl (b_call B 20 rfl rfl rfl rfl rfl (a_cons rfl (x_var (pv 3)) (a_cons rfl (x_var (pv 4)) a_nil)))) (fun _ => rfl) (fun _ => rfl))))))) (s_cons (s_ret x_bl) s_nil) s_nil) (s_cons (s_asn B.nd rfl (by first | exact Or.inl rfl | exact Or.inr rfl) (Or.inl rfl) (x_ix B.hc B.hw B.hu (fun _ _ => rfl) (x_lst (a_cons rfl (x_tup (a_cons rfl x_int (a_cons rfl x_int a_nil))) (a_cons rfl (x_tup (a_cons rfl x_int (a_cons rfl x_int a_nil))) (a_cons rfl (x_tup (a_cons rfl x_int (a_cons rfl x_int a_nil))) (a_cons rfl (x_tup (a_cons rfl x_int (a_cons rfl x_int a_nil))) a_nil))))) (b_call B 24 rfl rfl rfl rfl rfl (a_cons rfl (x_var (pv 1)) (a_cons rfl x_int a_nil)))) rfl) (s_cons (b_asnLc (ownN := [("gain", 20), ("chance", 19)]) B [20, 19] rfl (by kernel_rfl) rfl rfl rfl (i_seq B.hc (x_var (pv 3))) (fun s H C cl fp B => (g_tupB B rfl rfl (g_cons rfl (g_name B.nd rfl (by first | exact Or.inl rfl | exact Or.inr rfl) (by first | exact Or.inl rfl | exact Or.inr rfl)) (g_cons rfl (g_name B.nd rfl (by first | exact Or.inl rfl | exact Or.inr rfl) (by first | exact Or.inl rfl | exact Or.inr rfl)) g_nil)))) (fun s H C cl fp B => L2.pts_one (t_not (t_plain B.hc (b_call B 29 rfl rfl rfl rfl rfl (a_cons rfl (b_call B 30 rfl rfl rfl rfl rfl (a_cons rfl (b_lc (ownN := [("less_gain", 23), ("more", 24)]) B [23, 24] rfl (by kernel_rfl) (i_seq B.hc (x_var (pv 3))) (fun s H C cl fp B => (g_tupB B rfl rfl (g_cons rfl (g_name B.nd rfl (by first | exact Or.inl rfl | exact Or.inr rfl) (by first | exact Or.inl rfl | exact Or.inr rfl)) (g_cons rfl (g_name B.nd rfl (by first | exact Or.inl rfl | exact Or.inr rfl) (by first | exact Or.inl rfl | exact Or.inr rfl)) g_nil)))) (fun s H C cl fp B => L2.pts_one (t_not (t_plain B.hc (b_call B 29 rfl rfl rfl rfl rfl (a_cons rfl (x_var (pv 20)) (a_cons rfl (x_var (pv 23)) a_nil))) (fun _ => rfl) (fun _ => rfl)))) (fun s H C cl fp B => (x_var (pv 24))) (fun _ => rfl)) a_nil)) (a_cons rfl (x_var (pv 15)) a_nil))) (fun _ => rfl) (fun _ => rfl)))) (fun s H C cl fp B => (x_var (pv 20))) (fun _ => rfl)) (s_cons (s_ite (t_cmp B.hc B.hw B.hu rfl rfl (b_call B 22 rfl rfl rfl rfl rfl (a_cons rfl (x_var (pv 3)) (a_cons rfl (x_var (pv 15)) a_nil))) (x_ix B.hc B.hw B.hu (fun _ _ => rfl) (x_var (pv 16)) x_int)) (s_cons (s_ret x_bl) s_nil) s_nil) s_nil))))))))))))))))) (fun _ => rfl)) (s_cons (s_asn B.nd rfl (by first | exact Or.inl rfl | exact Or.inr rfl) (Or.inl rfl) (x_tup (a_cons rfl x_int (a_cons rfl x_int a_nil))) rfl) (s_cons (s_asn B.nd rfl (by first | exact Or.inl rfl | exact Or.inr rfl) (Or.inl rfl) (x_lst (a_cons rfl x_non (a_cons rfl (x_tup a_nil) (a_cons rfl (x_tup (a_cons rfl (x_tup (a_cons rfl (x_tup (a_cons rfl x_int (a_cons rfl x_int a_nil))) (a_cons rfl (x_var (pv 17)) a_nil))) a_nil)) (a_cons rfl (x_tup (a_cons rfl (x_tup (a_cons rfl (x_tup (a_cons rfl x_int (a_cons rfl x_int a_nil))) (a_cons rfl (x_var (pv 17)) a_nil))) (a_cons rfl (x_tup (a_cons rfl (x_tup (a_cons rfl x_int (a_cons rfl x_int a_nil))) (a_cons rfl (x_var (pv 17)) a_nil))) a_nil))) (a_cons rfl (x_tup (a_cons rfl (x_tup (a_cons rfl (x_tup (a_cons rfl x_int (a_cons rfl x_int a_nil))) (a_cons rfl (x_var (pv 17)) a_nil))) (a_cons rfl (x_tup (a_cons rfl (x_tup (a_cons rfl x_int (a_cons rfl x_int a_nil))) (a_cons rfl (x_var (pv 17)) a_nil))) a_nil))) (a_cons rfl (x_tup (a_cons rfl (x_tup (a_cons rfl (x_tup (a_cons rfl x_int (a_cons rfl x_int a_nil))) (a_cons rfl (x_tup (a_cons rfl x_int (a_cons rfl x_int a_nil))) a_nil))) (a_cons rfl (x_tup (a_cons rfl (x_tup (a_cons rfl x_int (a_cons rfl x_int a_nil))) (a_cons rfl (x_tup (a_cons rfl x_int (a_cons rfl x_int a_nil))) a_nil))) a_nil))) (a_cons rfl (x_tup (a_cons rfl (x_tup (a_cons rfl (x_tup (a_cons rfl x_int (a_cons rfl x_int a_nil))) (a_cons rfl (x_tup (a_cons rfl x_int (a_cons rfl x_int a_nil))) a_nil))) a_nil)) (a_cons rfl (x_lst (a_cons rfl (x_tup (a_cons rfl (x_tup (a_cons rfl x_int (a_cons rfl x_int a_nil))) (a_cons rfl (x_tup (a_cons rfl x_int (a_cons rfl x_int a_nil))) a_nil))) a_nil)) (a_cons rfl (x_tup (a_cons rfl (x_tup (a_cons rfl (x_tup (a_cons rfl x_int (a_cons rfl x_int a_nil))) (a_cons rfl (x_tup (a_cons rfl x_int (a_cons rfl x_int a_nil))) a_nil))) (a_cons rfl (x_tup (a_cons rfl (x_tup (a_cons rfl x_int (a_cons rfl x_int a_nil))) (a_cons rfl (x_tup (a_cons rfl (x_neg B.hc x_int) (a_cons rfl x_int a_nil))) a_nil))) a_nil))) (a_cons rfl (x_tup (a_cons rfl (x_tup (a_cons rfl (x_tup (a_cons rfl x_int (a_cons rfl x_int a_nil))) (a_cons rfl (x_tup (a_cons rfl x_int (a_cons rfl x_int a_nil))) a_nil))) a_nil)) (a_cons rfl (x_tup (a_cons rfl (x_tup (a_cons rfl x_int (a_cons rfl (x_tup (a_cons rfl x_int (a_cons rfl x_int a_nil))) a_nil))) a_nil)) (a_cons rfl (x_tup (a_cons rfl (x_tup (a_cons rfl (x_tup (a_cons rfl x_int (a_cons rfl x_int a_nil))) (a_cons rfl (x_tup (a_cons rfl x_int (a_cons rfl x_int a_nil))) (a_cons rfl x_int a_nil)))) a_nil)) a_nil))))))))))))) rfl) (s_cons (s_ret (x_and B.hc (x_cmp B.hc B.hw B.hu rfl rfl (b_lc (ownN := [("bad", 25)]) B [25] rfl (by kernel_rfl) (i_seq B.hc (x_var (pv 18))) (fun s H C cl fp B => (g_name B.nd rfl (by first | exact Or.inl rfl | exact Or.inr rfl) (by first | exact Or.inl rfl | exact Or.inr rfl))) (fun s H C cl fp B => L2.pts_one (t_not (t_plain B.hc (b_call B 34 rfl rfl rfl rfl rfl (a_cons rfl (x_var (pv 25)) a_nil)) (fun _ => rfl) (fun _ => rfl)))) (fun s H C cl fp B => (x_var (pv 25))) (fun _ => rfl)) (x_lst a_nil)) (x_and1 (x_not B.hc (b_call B 34 rfl rfl rfl rfl rfl (a_cons rfl (x_tup (a_cons rfl (x_tup (a_cons rfl (x_tup (a_cons rfl x_int (a_cons rfl x_int a_nil))) (a_cons rfl (x_tup (a_cons rfl x_int (a_cons rfl x_int a_nil))) a_nil))) a_nil)) a_nil)))))) s_nil)))))
end
theorem K_common : InfoOk I_common := ⟨⟨rfl, rfl, rfl, by decide +kernel, rfl, by decide +kernel, by decide +kernel⟩, rfl, rfl, by decide⟩
theorem N_common {K : PySem.W.Frag} {f : Addr} {fd : FuncData} (F : FunD K I_common.d.name I_common.d.qual I_common.d.params I_common.d.body I_common.d.scope [] [] f fd) : Binds K fd I_common.ps [] := F.bindsN fun _ _ _ _ _ _ us hl => match us, hl with | [_, _], _ => rfl
theorem K_lowest : InfoOk I_lowest := ⟨⟨rfl, rfl, rfl, by decide +kernel, rfl, by decide +kernel, by decide +kernel⟩, rfl, rfl, by decide⟩
theorem N_lowest {K : PySem.W.Frag} {f : Addr} {fd : FuncData} (F : FunD K I_lowest.d.name I_lowest.d.qual I_lowest.d.params I_lowest.d.body I_lowest.d.scope [] [] f fd) : Binds K fd I_lowest.ps [] := F.bindsN fun _ _ _ _ _ _ us hl => match us, hl with | [_, _], _ => rfl
theorem K_plus : InfoOk I_plus := ⟨⟨rfl, rfl, rfl, by decide +kernel, rfl, by decide +kernel, by decide +kernel⟩, rfl, rfl, by decide⟩
theorem N_plus {K : PySem.W.Frag} {f : Addr} {fd : FuncData} (F : FunD K I_plus.d.name I_plus.d.qual I_plus.d.params I_plus.d.body I_plus.d.scope [] [] f fd) : Binds K fd I_plus.ps [] := F.bindsN fun _ _ _ _ _ _ us hl => match us, hl with | [_, _], _ => rfl
theorem K_minus : InfoOk I_minus := ⟨⟨rfl, rfl, rfl, by decide +kernel, rfl, by decide +kernel, by decide +kernel⟩, rfl, rfl, by decide⟩
theorem N_minus {K : PySem.W.Frag} {f : Addr} {fd : FuncData} (F : FunD K I_minus.d.name I_minus.d.qual I_minus.d.params I_minus.d.body I_minus.d.scope [] [] f fd) : Binds K fd I_minus.ps [] := F.bindsN fun _ _ _ _ _ _ us hl => match us, hl with | [_, _], _ => rfl
theorem K_times : InfoOk I_times := ⟨⟨rfl, rfl, rfl, by decide +kernel, rfl, by decide +kernel, by decide +kernel⟩, rfl, rfl, by decide⟩
theorem N_times {K : PySem.W.Frag} {f : Addr} {fd : FuncData} (F : FunD K I_times.d.name I_times.d.qual I_times.d.params I_times.d.body I_times.d.scope [] [] f fd) : Binds K fd I_times.ps [] := F.bindsN fun _ _ _ _ _ _ us hl => match us, hl with | [_, _], _ => rfl
theorem K_less : InfoOk I_less := ⟨⟨rfl, rfl, rfl, by decide +kernel, rfl, by decide +kernel, by decide +kernel⟩, rfl, rfl, by decide⟩
theorem N_less {K : PySem.W.Frag} {f : Addr} {fd : FuncData} (F : FunD K I_less.d.name I_less.d.qual I_less.d.params I_less.d.body I_less.d.scope [] [] f fd) : Binds K fd I_less.ps [] := F.bindsN fun _ _ _ _ _ _ us hl => match us, hl with | [_, _], _ => rfl
theorem K_greatest : InfoOk I_greatest := ⟨⟨rfl, rfl, rfl, by decide +kernel, rfl, by decide +kernel, by decide +kernel⟩, rfl, rfl, by decide⟩
theorem N_greatest {K : PySem.W.Frag} {f : Addr} {fd : FuncData} (F : FunD K I_greatest.d.name I_greatest.d.qual I_greatest.d.params I_greatest.d.body I_greatest.d.scope [] [] f fd) : Binds K fd I_greatest.ps [] := F.bindsN fun _ _ _ _ _ _ us hl => match us, hl with | [_], _ => rfl
theorem K_sum_of : InfoOk I_sum_of := ⟨⟨rfl, rfl, rfl, by decide +kernel, rfl, by decide +kernel, by decide +kernel⟩, rfl, rfl, by decide⟩
theorem N_sum_of {K : PySem.W.Frag} {f : Addr} {fd : FuncData} (F : FunD K I_sum_of.d.name I_sum_of.d.qual I_sum_of.d.params I_sum_of.d.body I_sum_of.d.scope [] [] f fd) : Binds K fd I_sum_of.ps [] := F.bindsN fun _ _ _ _ _ _ us hl => match us, hl with | [_], _ => rfl
theorem K_is_ratio : InfoOk I_is_ratio := ⟨⟨rfl, rfl, rfl, by decide +kernel, rfl, by decide +kernel, by decide +kernel⟩, rfl, rfl, by decide⟩
theorem N_is_ratio {K : PySem.W.Frag} {f : Addr} {fd : FuncData} (F : FunD K I_is_ratio.d.name I_is_ratio.d.qual I_is_ratio.d.params I_is_ratio.d.body I_is_ratio.d.scope [] [] f fd) : Binds K fd I_is_ratio.ps [] := F.bindsN fun _ _ _ _ _ _ us hl => match us, hl with | [_], _ => rfl
theorem K_is_chance : InfoOk I_is_chance := ⟨⟨rfl, rfl, rfl, by decide +kernel, rfl, by decide +kernel, by decide +kernel⟩, rfl, rfl, by decide⟩
theorem N_is_chance {K : PySem.W.Frag} {f : Addr} {fd : FuncData} (F : FunD K I_is_chance.d.name I_is_chance.d.qual I_is_chance.d.params I_is_chance.d.body I_is_chance.d.scope [] [] f fd) : Binds K fd I_is_chance.ps [] := F.bindsN fun _ _ _ _ _ _ us hl => match us, hl with | [_], _ => rfl
theorem K_is_gain : InfoOk I_is_gain := ⟨⟨rfl, rfl, rfl, by decide +kernel, rfl, by decide +kernel, by decide +kernel⟩, rfl, rfl, by decide⟩
theorem N_is_gain {K : PySem.W.Frag} {f : Addr} {fd : FuncData} (F : FunD K I_is_gain.d.name I_is_gain.d.qual I_is_gain.d.params I_is_gain.d.body I_is_gain.d.scope [] [] f fd) : Binds K fd I_is_gain.ps [] := F.bindsN fun _ _ _ _ _ _ us hl => match us, hl with | [_], _ => rfl
theorem K_in_size : InfoOk I_in_size := ⟨⟨rfl, rfl, rfl, by decide +kernel, rfl, by decide +kernel, by decide +kernel⟩, rfl, rfl, by decide⟩
theorem N_in_size {K : PySem.W.Frag} {f : Addr} {fd : FuncData} (F : FunD K I_in_size.d.name I_in_size.d.qual I_in_size.d.params I_in_size.d.body I_in_size.d.scope [] [] f fd) : Binds K fd I_in_size.ps [] := F.bindsN fun _ _ _ _ _ _ us hl => match us, hl with | [_], _ => rfl
theorem K_is_spread : InfoOk I_is_spread := ⟨⟨rfl, rfl, rfl, by decide +kernel, rfl, by decide +kernel, by decide +kernel⟩, rfl, rfl, by decide⟩
theorem N_is_spread {K : PySem.W.Frag} {f : Addr} {fd : FuncData} (F : FunD K I_is_spread.d.name I_is_spread.d.qual I_is_spread.d.params I_is_spread.d.body I_is_spread.d.scope [] [] f fd) : Binds K fd I_is_spread.ps [] := F.bindsN fun _ _ _ _ _ _ us hl => match us, hl with | [_], _ => rfl
theorem K_check_spread : InfoOk I_check_spread := ⟨⟨rfl, rfl, rfl, by decide +kernel, rfl, by decide +kernel, by decide +kernel⟩, rfl, rfl, by decide⟩
theorem N_check_spread {K : PySem.W.Frag} {f : Addr} {fd : FuncData} (F : FunD K I_check_spread.d.name I_check_spread.d.qual I_check_spread.d.params I_check_spread.d.body I_check_spread.d.scope [] [] f fd) : Binds K fd I_check_spread.ps [] := F.bindsN fun _ _ _ _ _ _ us hl => match us, hl with | [_], _ => rfl
theorem K_gathered : InfoOk I_gathered := ⟨⟨rfl, rfl, rfl, by decide +kernel, rfl, by decide +kernel, by decide +kernel⟩, rfl, rfl, by decide⟩
theorem N_gathered {K : PySem.W.Frag} {f : Addr} {fd : FuncData} (F : FunD K I_gathered.d.name I_gathered.d.qual I_gathered.d.params I_gathered.d.body I_gathered.d.scope [] [] f fd) : Binds K fd I_gathered.ps [] := F.bindsN fun _ _ _ _ _ _ us hl => match us, hl with | [_], _ => rfl
theorem K_mean_of : InfoOk I_mean_of := ⟨⟨rfl, rfl, rfl, by decide +kernel, rfl, by decide +kernel, by decide +kernel⟩, rfl, rfl, by decide⟩
theorem N_mean_of {K : PySem.W.Frag} {f : Addr} {fd : FuncData} (F : FunD K I_mean_of.d.name I_mean_of.d.qual I_mean_of.d.params I_mean_of.d.body I_mean_of.d.scope [] [] f fd) : Binds K fd I_mean_of.ps [] := F.bindsN fun _ _ _ _ _ _ us hl => match us, hl with | [_], _ => rfl
theorem K_variance_of : InfoOk I_variance_of := ⟨⟨rfl, rfl, rfl, by decide +kernel, rfl, by decide +kernel, by decide +kernel⟩, rfl, rfl, by decide⟩
theorem N_variance_of {K : PySem.W.Frag} {f : Addr} {fd : FuncData} (F : FunD K I_variance_of.d.name I_variance_of.d.qual I_variance_of.d.params I_variance_of.d.body I_variance_of.d.scope [] [] f fd) : Binds K fd I_variance_of.ps [] := F.bindsN fun _ _ _ _ _ _ us hl => match us, hl with | [_], _ => rfl
theorem K_chance_up_to : InfoOk I_chance_up_to := ⟨⟨rfl, rfl, rfl, by decide +kernel, rfl, by decide +kernel, by decide +kernel⟩, rfl, rfl, by decide⟩
theorem N_chance_up_to {K : PySem.W.Frag} {f : Addr} {fd : FuncData} (F : FunD K I_chance_up_to.d.name I_chance_up_to.d.qual I_chance_up_to.d.params I_chance_up_to.d.body I_chance_up_to.d.scope [] [] f fd) : Binds K fd I_chance_up_to.ps [] := F.bindsN fun _ _ _ _ _ _ us hl => match us, hl with | [_, _], _ => rfl
theorem K_short_of : InfoOk I_short_of := ⟨⟨rfl, rfl, rfl, by decide +kernel, rfl, by decide +kernel, by decide +kernel⟩, rfl, rfl, by decide⟩
theorem N_short_of {K : PySem.W.Frag} {f : Addr} {fd : FuncData} (F : FunD K I_short_of.d.name I_short_of.d.qual I_short_of.d.params I_short_of.d.body I_short_of.d.scope [] [] f fd) : Binds K fd I_short_of.ps [] := F.bindsN fun _ _ _ _ _ _ us hl => match us, hl with | [_, _], _ => rfl
theorem K_mixed_spread : InfoOk I_mixed_spread := ⟨⟨rfl, rfl, rfl, by decide +kernel, rfl, by decide +kernel, by decide +kernel⟩, rfl, rfl, by decide⟩
theorem N_mixed_spread {K : PySem.W.Frag} {f : Addr} {fd : FuncData} (F : FunD K I_mixed_spread.d.name I_mixed_spread.d.qual I_mixed_spread.d.params I_mixed_spread.d.body I_mixed_spread.d.scope [] [] f fd) : Binds K fd I_mixed_spread.ps [] := F.bindsN fun _ _ _ _ _ _ us hl => match us, hl with | [_, _], _ => rfl
theorem K_sum_spread : InfoOk I_sum_spread := ⟨⟨rfl, rfl, rfl, by decide +kernel, rfl, by decide +kernel, by decide +kernel⟩, rfl, rfl, by decide⟩
theorem N_sum_spread {K : PySem.W.Frag} {f : Addr} {fd : FuncData} (F : FunD K I_sum_spread.d.name I_sum_spread.d.qual I_sum_spread.d.params I_sum_spread.d.body I_sum_spread.d.scope [] [] f fd) : Binds K fd I_sum_spread.ps [] := F.bindsN fun _ _ _ _ _ _ us hl => match us, hl with | [_, _], _ => rfl
theorem K_greater_spread : InfoOk I_greater_spread := ⟨⟨rfl, rfl, rfl, by decide +kernel, rfl, by decide +kernel, by decide +kernel⟩, rfl, rfl, by decide⟩
theorem N_greater_spread {K : PySem.W.Frag} {f : Addr} {fd : FuncData} (F : FunD K I_greater_spread.d.name I_greater_spread.d.qual I_greater_spread.d.params I_greater_spread.d.body I_greater_spread.d.scope [] [] f fd) : Binds K fd I_greater_spread.ps [] := F.bindsN fun _ _ _ _ _ _ us hl => match us, hl with | [_, _], _ => rfl
theorem K_level_of : InfoOk I_level_of := ⟨⟨rfl, rfl, rfl, by decide +kernel, rfl, by decide +kernel, by decide +kernel⟩, rfl, rfl, by decide⟩
theorem N_level_of {K : PySem.W.Frag} {f : Addr} {fd : FuncData} (F : FunD K I_level_of.d.name I_level_of.d.qual I_level_of.d.params I_level_of.d.body I_level_of.d.scope [] [] f fd) : Binds K fd I_level_of.ps [] := F.bindsN fun _ _ _ _ _ _ us hl => match us, hl with | [_, _], _ => rfl
theorem K__law_draw : InfoOk I__law_draw := ⟨⟨rfl, rfl, rfl, by decide +kernel, rfl, by decide +kernel, by decide +kernel⟩, rfl, rfl, by decide⟩
theorem N__law_draw {K : PySem.W.Frag} {f : Addr} {fd : FuncData} (F : FunD K I__law_draw.d.name I__law_draw.d.qual I__law_draw.d.params I__law_draw.d.body I__law_draw.d.scope [] [] f fd) : Binds K fd I__law_draw.ps [] := F.bindsN fun _ _ _ _ _ _ us hl => match us, hl with | [_], _ => rfl
theorem K__law_take : InfoOk I__law_take := ⟨⟨rfl, rfl, rfl, by decide +kernel, rfl, by decide +kernel, by decide +kernel⟩, rfl, rfl, by decide⟩
theorem N__law_take {K : PySem.W.Frag} {f : Addr} {fd : FuncData} (F : FunD K I__law_take.d.name I__law_take.d.qual I__law_take.d.params I__law_take.d.body I__law_take.d.scope [] [] f fd) : Binds K fd I__law_take.ps [] := F.bindsN fun _ _ _ _ _ _ us hl => match us, hl with | [_, _], _ => rfl
theorem K__law_lowest : InfoOk I__law_lowest := ⟨⟨rfl, rfl, rfl, by decide +kernel, rfl, by decide +kernel, by decide +kernel⟩, rfl, rfl, by decide⟩
theorem N__law_lowest {K : PySem.W.Frag} {f : Addr} {fd : FuncData} (F : FunD K I__law_lowest.d.name I__law_lowest.d.qual I__law_lowest.d.params I__law_lowest.d.body I__law_lowest.d.scope [] [] f fd) : Binds K fd I__law_lowest.ps [] := F.bindsN fun _ _ _ _ _ _ us hl => match us, hl with | [_, _], _ => rfl
theorem K__law_plus : InfoOk I__law_plus := ⟨⟨rfl, rfl, rfl, by decide +kernel, rfl, by decide +kernel, by decide +kernel⟩, rfl, rfl, by decide⟩
theorem N__law_plus {K : PySem.W.Frag} {f : Addr} {fd : FuncData} (F : FunD K I__law_plus.d.name I__law_plus.d.qual I__law_plus.d.params I__law_plus.d.body I__law_plus.d.scope [] [] f fd) : Binds K fd I__law_plus.ps [] := F.bindsN fun _ _ _ _ _ _ us hl => match us, hl with | [_, _], _ => rfl
theorem K__law_times : InfoOk I__law_times := ⟨⟨rfl, rfl, rfl, by decide +kernel, rfl, by decide +kernel, by decide +kernel⟩, rfl, rfl, by decide⟩
theorem N__law_times {K : PySem.W.Frag} {f : Addr} {fd : FuncData} (F : FunD K I__law_times.d.name I__law_times.d.qual I__law_times.d.params I__law_times.d.body I__law_times.d.scope [] [] f fd) : Binds K fd I__law_times.ps [] := F.bindsN fun _ _ _ _ _ _ us hl => match us, hl with | [_, _], _ => rfl
theorem K__law_minus : InfoOk I__law_minus := ⟨⟨rfl, rfl, rfl, by decide +kernel, rfl, by decide +kernel, by decide +kernel⟩, rfl, rfl, by decide⟩
theorem N__law_minus {K : PySem.W.Frag} {f : Addr} {fd : FuncData} (F : FunD K I__law_minus.d.name I__law_minus.d.qual I__law_minus.d.params I__law_minus.d.body I__law_minus.d.scope [] [] f fd) : Binds K fd I__law_minus.ps [] := F.bindsN fun _ _ _ _ _ _ us hl => match us, hl with | [_, _], _ => rfl
theorem K__law_less : InfoOk I__law_less := ⟨⟨rfl, rfl, rfl, by decide +kernel, rfl, by decide +kernel, by decide +kernel⟩, rfl, rfl, by decide⟩
theorem N__law_less {K : PySem.W.Frag} {f : Addr} {fd : FuncData} (F : FunD K I__law_less.d.name I__law_less.d.qual I__law_less.d.params I__law_less.d.body I__law_less.d.scope [] [] f fd) : Binds K fd I__law_less.ps [] := F.bindsN fun _ _ _ _ _ _ us hl => match us, hl with | [_, _], _ => rfl
theorem K__law_sum : InfoOk I__law_sum := ⟨⟨rfl, rfl, rfl, by decide +kernel, rfl, by decide +kernel, by decide +kernel⟩, rfl, rfl, by decide⟩
theorem N__law_sum {K : PySem.W.Frag} {f : Addr} {fd : FuncData} (F : FunD K I__law_sum.d.name I__law_sum.d.qual I__law_sum.d.params I__law_sum.d.body I__law_sum.d.scope [] [] f fd) : Binds K fd I__law_sum.ps [] := F.bindsN fun _ _ _ _ _ _ us hl => match us, hl with | [_], _ => rfl
theorem K__law_best : InfoOk I__law_best := ⟨⟨rfl, rfl, rfl, by decide +kernel, rfl, by decide +kernel, by decide +kernel⟩, rfl, rfl, by decide⟩
theorem N__law_best {K : PySem.W.Frag} {f : Addr} {fd : FuncData} (F : FunD K I__law_best.d.name I__law_best.d.qual I__law_best.d.params I__law_best.d.body I__law_best.d.scope [] [] f fd) : Binds K fd I__law_best.ps [] := F.bindsN fun _ _ _ _ _ _ us hl => match us, hl with | [_, _], _ => rfl
theorem K__law_gain : InfoOk I__law_gain := ⟨⟨rfl, rfl, rfl, by decide +kernel, rfl, by decide +kernel, by decide +kernel⟩, rfl, rfl, by decide⟩
theorem N__law_gain {K : PySem.W.Frag} {f : Addr} {fd : FuncData} (F : FunD K I__law_gain.d.name I__law_gain.d.qual I__law_gain.d.params I__law_gain.d.body I__law_gain.d.scope [] [] f fd) : Binds K fd I__law_gain.ps [] := F.bindsN fun _ _ _ _ _ _ us hl => match us, hl with | [_], _ => rfl
theorem K__law_spread : InfoOk I__law_spread := ⟨⟨rfl, rfl, rfl, by decide +kernel, rfl, by decide +kernel, by decide +kernel⟩, rfl, rfl, by decide⟩
theorem N__law_spread {K : PySem.W.Frag} {f : Addr} {fd : FuncData} (F : FunD K I__law_spread.d.name I__law_spread.d.qual I__law_spread.d.params I__law_spread.d.body I__law_spread.d.scope [] [] f fd) : Binds K fd I__law_spread.ps [] := F.bindsN fun _ _ _ _ _ _ us hl => match us, hl with | [_, _], _ => rfl
theorem K__law_refused : InfoOk I__law_refused := ⟨⟨rfl, rfl, rfl, by decide +kernel, rfl, by decide +kernel, by decide +kernel⟩, rfl, rfl, by decide⟩
theorem N__law_refused {K : PySem.W.Frag} {f : Addr} {fd : FuncData} (F : FunD K I__law_refused.d.name I__law_refused.d.qual I__law_refused.d.params I__law_refused.d.body I__law_refused.d.scope [] [] f fd) : Binds K fd I__law_refused.ps [] := F.bindsN fun _ _ _ _ _ _ us hl => match us, hl with | [_], _ => rfl
theorem K__law_gathered : InfoOk I__law_gathered := ⟨⟨rfl, rfl, rfl, by decide +kernel, rfl, by decide +kernel, by decide +kernel⟩, rfl, rfl, by decide⟩
theorem N__law_gathered {K : PySem.W.Frag} {f : Addr} {fd : FuncData} (F : FunD K I__law_gathered.d.name I__law_gathered.d.qual I__law_gathered.d.params I__law_gathered.d.body I__law_gathered.d.scope [] [] f fd) : Binds K fd I__law_gathered.ps [] := F.bindsN fun _ _ _ _ _ _ us hl => match us, hl with | [_], _ => rfl
theorem K_law : InfoOk I_law := ⟨⟨rfl, rfl, rfl, by decide +kernel, rfl, by decide +kernel, by decide +kernel⟩, rfl, rfl, by decide⟩
theorem N_law {K : PySem.W.Frag} {f : Addr} {fd : FuncData} (F : FunD K I_law.d.name I_law.d.qual I_law.d.params I_law.d.body I_law.d.scope [] [] f fd) : Binds K fd I_law.ps [] := F.bindsN fun _ _ _ _ _ _ us hl => match us, hl with | [_], _ => rfl
end K21

namespace K21
open PySem PySem.Spec PyProof.Rows L2 Py
abbrev R : PySem.W.OpenRow := PySem.W.OpenLaw.row PySem.Challenge.rw_worthstopping_k21_spreads_of_gains
def faL : List He.Fa := [.glo "common", .glo "lowest", .glo "plus", .glo "minus", .glo "times", .glo "less", .glo "greatest", .glo "sum_of", .glo "is_ratio", .glo "is_chance", .glo "is_gain", .glo "in_size", .glo "is_spread", .glo "check_spread", .glo "gathered", .glo "mean_of", .glo "variance_of", .glo "chance_up_to", .glo "short_of", .glo "mixed_spread", .glo "sum_spread", .glo "greater_spread", .glo "level_of", .glo "_law_draw", .glo "_law_take", .glo "_law_lowest", .glo "_law_plus", .glo "_law_times", .glo "_law_minus", .glo "_law_less", .glo "_law_sum", .glo "_law_best", .glo "_law_gain", .glo "_law_spread", .glo "_law_refused", .glo "_law_gathered", .glo "law"] ++ [.free "abs", .free "all", .free "bool", .free "int", .free "isinstance", .free "len", .free "list", .free "range", .free "sum", .free "tuple", .free "zip"] ++ [.glo "NotAllowed", .exc "NotAllowed"] ++ [.exm "NotAllowed" "NotAllowed" true]
def tkT : List (Nat × Nat × Bool) := [(0, 0, true)]
abbrev tkL : Tk := tkX tkT
def fnL : List He.DefD := [I_common.d, I_lowest.d, I_plus.d, I_minus.d, I_times.d, I_less.d, I_greatest.d, I_sum_of.d, I_is_ratio.d, I_is_chance.d, I_is_gain.d, I_in_size.d, I_is_spread.d, I_check_spread.d, I_gathered.d, I_mean_of.d, I_variance_of.d, I_chance_up_to.d, I_short_of.d, I_mixed_spread.d, I_sum_spread.d, I_greater_spread.d, I_level_of.d, I__law_draw.d, I__law_take.d, I__law_lowest.d, I__law_plus.d, I__law_times.d, I__law_minus.d, I__law_less.d, I__law_sum.d, I__law_best.d, I__law_gain.d, I__law_spread.d, I__law_refused.d, I__law_gathered.d, I_law.d]
def exK (K : PySem.W.Frag) : Bool := noList K && csL.all (gconOk K)
abbrev hk : PySem.W.Hook := hookP 4 faL fnL exK
def ob (s : PySem.W.SharedT) : AlP := obsP 4 faL fnL exK (HandSHeadRun.getT s)
theorem ob_eq (s : PySem.W.SharedT) : ob s = hk.obs s.abs := obsP_eq (HandSHeadRun.getT_eq s)
def loose0 : List Str := ["WorthError", "NotAllowed", "ZERO", "ONE", "common", "lowest", "plus", "minus", "times", "less", "greatest", "sum_of", "is_ratio", "is_chance", "MAX_GAIN", "is_gain", "in_size", "is_spread", "check_spread", "gathered", "mean_of", "variance_of", "chance_up_to", "short_of", "mixed_spread", "sum_spread", "greater_spread", "level_of", "_law_draw", "_law_take"]
def loose1 : List Str := ["_law_lowest", "_law_plus", "_law_times", "_law_minus", "_law_over", "_law_less", "_law_sum", "_law_best", "_law_gain", "_law_spread", "_law_refused", "_law_gathered"]
def looseL : List Str := loose0 ++ loose1
theorem runs (w : World) : HandSHeadRun.RunEq R (PySem.W.view R.prog [47]) hk ob 3000 looseL w := by
  intro os
  kernel_rfl
abbrev ZZ (P : Program) (w : World) (K : PySem.W.Frag) (mg : Str → Option Value) (base : Heap) (g : Nat) : Wd := ⟨P, w, K, mg, base, tkL, clsX xnL K, g, xnL⟩
theorem G_common {K : PySem.W.Frag} {mg : Str → Option Value} {h : Heap} (X : K.In h) (G : h.Ns mainGlobals mg) (c : SaysP faL fnL exK K) : ∃ fdat, Good K I_common fdat ∧ mg I_common.d.name = some (.ref (He.ga K I_common.d.name)) := by
  obtain ⟨fd, F⟩ := c.1.def_ 0 (d := I_common.d) rfl
  exact ⟨fd, ⟨F, N_common F⟩, He.glo_ok X G (c.1.fact 0 (f := .glo "common") rfl)⟩
theorem G_lowest {K : PySem.W.Frag} {mg : Str → Option Value} {h : Heap} (X : K.In h) (G : h.Ns mainGlobals mg) (c : SaysP faL fnL exK K) : ∃ fdat, Good K I_lowest fdat ∧ mg I_lowest.d.name = some (.ref (He.ga K I_lowest.d.name)) := by
  obtain ⟨fd, F⟩ := c.1.def_ 1 (d := I_lowest.d) rfl
  exact ⟨fd, ⟨F, N_lowest F⟩, He.glo_ok X G (c.1.fact 1 (f := .glo "lowest") rfl)⟩
theorem G_plus {K : PySem.W.Frag} {mg : Str → Option Value} {h : Heap} (X : K.In h) (G : h.Ns mainGlobals mg) (c : SaysP faL fnL exK K) : ∃ fdat, Good K I_plus fdat ∧ mg I_plus.d.name = some (.ref (He.ga K I_plus.d.name)) := by
  obtain ⟨fd, F⟩ := c.1.def_ 2 (d := I_plus.d) rfl
  exact ⟨fd, ⟨F, N_plus F⟩, He.glo_ok X G (c.1.fact 2 (f := .glo "plus") rfl)⟩
theorem G_minus {K : PySem.W.Frag} {mg : Str → Option Value} {h : Heap} (X : K.In h) (G : h.Ns mainGlobals mg) (c : SaysP faL fnL exK K) : ∃ fdat, Good K I_minus fdat ∧ mg I_minus.d.name = some (.ref (He.ga K I_minus.d.name)) := by
  obtain ⟨fd, F⟩ := c.1.def_ 3 (d := I_minus.d) rfl
  exact ⟨fd, ⟨F, N_minus F⟩, He.glo_ok X G (c.1.fact 3 (f := .glo "minus") rfl)⟩
theorem G_times {K : PySem.W.Frag} {mg : Str → Option Value} {h : Heap} (X : K.In h) (G : h.Ns mainGlobals mg) (c : SaysP faL fnL exK K) : ∃ fdat, Good K I_times fdat ∧ mg I_times.d.name = some (.ref (He.ga K I_times.d.name)) := by
  obtain ⟨fd, F⟩ := c.1.def_ 4 (d := I_times.d) rfl
  exact ⟨fd, ⟨F, N_times F⟩, He.glo_ok X G (c.1.fact 4 (f := .glo "times") rfl)⟩
theorem G_less {K : PySem.W.Frag} {mg : Str → Option Value} {h : Heap} (X : K.In h) (G : h.Ns mainGlobals mg) (c : SaysP faL fnL exK K) : ∃ fdat, Good K I_less fdat ∧ mg I_less.d.name = some (.ref (He.ga K I_less.d.name)) := by
  obtain ⟨fd, F⟩ := c.1.def_ 5 (d := I_less.d) rfl
  exact ⟨fd, ⟨F, N_less F⟩, He.glo_ok X G (c.1.fact 5 (f := .glo "less") rfl)⟩
theorem G_greatest {K : PySem.W.Frag} {mg : Str → Option Value} {h : Heap} (X : K.In h) (G : h.Ns mainGlobals mg) (c : SaysP faL fnL exK K) : ∃ fdat, Good K I_greatest fdat ∧ mg I_greatest.d.name = some (.ref (He.ga K I_greatest.d.name)) := by
  obtain ⟨fd, F⟩ := c.1.def_ 6 (d := I_greatest.d) rfl
  exact ⟨fd, ⟨F, N_greatest F⟩, He.glo_ok X G (c.1.fact 6 (f := .glo "greatest") rfl)⟩
theorem G_sum_of {K : PySem.W.Frag} {mg : Str → Option Value} {h : Heap} (X : K.In h) (G : h.Ns mainGlobals mg) (c : SaysP faL fnL exK K) : ∃ fdat, Good K I_sum_of fdat ∧ mg I_sum_of.d.name = some (.ref (He.ga K I_sum_of.d.name)) := by
  obtain ⟨fd, F⟩ := c.1.def_ 7 (d := I_sum_of.d) rfl
  exact ⟨fd, ⟨F, N_sum_of F⟩, He.glo_ok X G (c.1.fact 7 (f := .glo "sum_of") rfl)⟩
theorem G_is_ratio {K : PySem.W.Frag} {mg : Str → Option Value} {h : Heap} (X : K.In h) (G : h.Ns mainGlobals mg) (c : SaysP faL fnL exK K) : ∃ fdat, Good K I_is_ratio fdat ∧ mg I_is_ratio.d.name = some (.ref (He.ga K I_is_ratio.d.name)) := by
  obtain ⟨fd, F⟩ := c.1.def_ 8 (d := I_is_ratio.d) rfl
  exact ⟨fd, ⟨F, N_is_ratio F⟩, He.glo_ok X G (c.1.fact 8 (f := .glo "is_ratio") rfl)⟩
theorem G_is_chance {K : PySem.W.Frag} {mg : Str → Option Value} {h : Heap} (X : K.In h) (G : h.Ns mainGlobals mg) (c : SaysP faL fnL exK K) : ∃ fdat, Good K I_is_chance fdat ∧ mg I_is_chance.d.name = some (.ref (He.ga K I_is_chance.d.name)) := by
  obtain ⟨fd, F⟩ := c.1.def_ 9 (d := I_is_chance.d) rfl
  exact ⟨fd, ⟨F, N_is_chance F⟩, He.glo_ok X G (c.1.fact 9 (f := .glo "is_chance") rfl)⟩
theorem G_is_gain {K : PySem.W.Frag} {mg : Str → Option Value} {h : Heap} (X : K.In h) (G : h.Ns mainGlobals mg) (c : SaysP faL fnL exK K) : ∃ fdat, Good K I_is_gain fdat ∧ mg I_is_gain.d.name = some (.ref (He.ga K I_is_gain.d.name)) := by
  obtain ⟨fd, F⟩ := c.1.def_ 10 (d := I_is_gain.d) rfl
  exact ⟨fd, ⟨F, N_is_gain F⟩, He.glo_ok X G (c.1.fact 10 (f := .glo "is_gain") rfl)⟩
theorem G_in_size {K : PySem.W.Frag} {mg : Str → Option Value} {h : Heap} (X : K.In h) (G : h.Ns mainGlobals mg) (c : SaysP faL fnL exK K) : ∃ fdat, Good K I_in_size fdat ∧ mg I_in_size.d.name = some (.ref (He.ga K I_in_size.d.name)) := by
  obtain ⟨fd, F⟩ := c.1.def_ 11 (d := I_in_size.d) rfl
  exact ⟨fd, ⟨F, N_in_size F⟩, He.glo_ok X G (c.1.fact 11 (f := .glo "in_size") rfl)⟩
theorem G_is_spread {K : PySem.W.Frag} {mg : Str → Option Value} {h : Heap} (X : K.In h) (G : h.Ns mainGlobals mg) (c : SaysP faL fnL exK K) : ∃ fdat, Good K I_is_spread fdat ∧ mg I_is_spread.d.name = some (.ref (He.ga K I_is_spread.d.name)) := by
  obtain ⟨fd, F⟩ := c.1.def_ 12 (d := I_is_spread.d) rfl
  exact ⟨fd, ⟨F, N_is_spread F⟩, He.glo_ok X G (c.1.fact 12 (f := .glo "is_spread") rfl)⟩
theorem G_check_spread {K : PySem.W.Frag} {mg : Str → Option Value} {h : Heap} (X : K.In h) (G : h.Ns mainGlobals mg) (c : SaysP faL fnL exK K) : ∃ fdat, Good K I_check_spread fdat ∧ mg I_check_spread.d.name = some (.ref (He.ga K I_check_spread.d.name)) := by
  obtain ⟨fd, F⟩ := c.1.def_ 13 (d := I_check_spread.d) rfl
  exact ⟨fd, ⟨F, N_check_spread F⟩, He.glo_ok X G (c.1.fact 13 (f := .glo "check_spread") rfl)⟩
theorem G_gathered {K : PySem.W.Frag} {mg : Str → Option Value} {h : Heap} (X : K.In h) (G : h.Ns mainGlobals mg) (c : SaysP faL fnL exK K) : ∃ fdat, Good K I_gathered fdat ∧ mg I_gathered.d.name = some (.ref (He.ga K I_gathered.d.name)) := by
  obtain ⟨fd, F⟩ := c.1.def_ 14 (d := I_gathered.d) rfl
  exact ⟨fd, ⟨F, N_gathered F⟩, He.glo_ok X G (c.1.fact 14 (f := .glo "gathered") rfl)⟩
theorem G_mean_of {K : PySem.W.Frag} {mg : Str → Option Value} {h : Heap} (X : K.In h) (G : h.Ns mainGlobals mg) (c : SaysP faL fnL exK K) : ∃ fdat, Good K I_mean_of fdat ∧ mg I_mean_of.d.name = some (.ref (He.ga K I_mean_of.d.name)) := by
  obtain ⟨fd, F⟩ := c.1.def_ 15 (d := I_mean_of.d) rfl
  exact ⟨fd, ⟨F, N_mean_of F⟩, He.glo_ok X G (c.1.fact 15 (f := .glo "mean_of") rfl)⟩
theorem G_variance_of {K : PySem.W.Frag} {mg : Str → Option Value} {h : Heap} (X : K.In h) (G : h.Ns mainGlobals mg) (c : SaysP faL fnL exK K) : ∃ fdat, Good K I_variance_of fdat ∧ mg I_variance_of.d.name = some (.ref (He.ga K I_variance_of.d.name)) := by
  obtain ⟨fd, F⟩ := c.1.def_ 16 (d := I_variance_of.d) rfl
  exact ⟨fd, ⟨F, N_variance_of F⟩, He.glo_ok X G (c.1.fact 16 (f := .glo "variance_of") rfl)⟩
theorem G_chance_up_to {K : PySem.W.Frag} {mg : Str → Option Value} {h : Heap} (X : K.In h) (G : h.Ns mainGlobals mg) (c : SaysP faL fnL exK K) : ∃ fdat, Good K I_chance_up_to fdat ∧ mg I_chance_up_to.d.name = some (.ref (He.ga K I_chance_up_to.d.name)) := by
  obtain ⟨fd, F⟩ := c.1.def_ 17 (d := I_chance_up_to.d) rfl
  exact ⟨fd, ⟨F, N_chance_up_to F⟩, He.glo_ok X G (c.1.fact 17 (f := .glo "chance_up_to") rfl)⟩
theorem G_short_of {K : PySem.W.Frag} {mg : Str → Option Value} {h : Heap} (X : K.In h) (G : h.Ns mainGlobals mg) (c : SaysP faL fnL exK K) : ∃ fdat, Good K I_short_of fdat ∧ mg I_short_of.d.name = some (.ref (He.ga K I_short_of.d.name)) := by
  obtain ⟨fd, F⟩ := c.1.def_ 18 (d := I_short_of.d) rfl
  exact ⟨fd, ⟨F, N_short_of F⟩, He.glo_ok X G (c.1.fact 18 (f := .glo "short_of") rfl)⟩
theorem G_mixed_spread {K : PySem.W.Frag} {mg : Str → Option Value} {h : Heap} (X : K.In h) (G : h.Ns mainGlobals mg) (c : SaysP faL fnL exK K) : ∃ fdat, Good K I_mixed_spread fdat ∧ mg I_mixed_spread.d.name = some (.ref (He.ga K I_mixed_spread.d.name)) := by
  obtain ⟨fd, F⟩ := c.1.def_ 19 (d := I_mixed_spread.d) rfl
  exact ⟨fd, ⟨F, N_mixed_spread F⟩, He.glo_ok X G (c.1.fact 19 (f := .glo "mixed_spread") rfl)⟩
theorem G_sum_spread {K : PySem.W.Frag} {mg : Str → Option Value} {h : Heap} (X : K.In h) (G : h.Ns mainGlobals mg) (c : SaysP faL fnL exK K) : ∃ fdat, Good K I_sum_spread fdat ∧ mg I_sum_spread.d.name = some (.ref (He.ga K I_sum_spread.d.name)) := by
  obtain ⟨fd, F⟩ := c.1.def_ 20 (d := I_sum_spread.d) rfl
  exact ⟨fd, ⟨F, N_sum_spread F⟩, He.glo_ok X G (c.1.fact 20 (f := .glo "sum_spread") rfl)⟩
theorem G_greater_spread {K : PySem.W.Frag} {mg : Str → Option Value} {h : Heap} (X : K.In h) (G : h.Ns mainGlobals mg) (c : SaysP faL fnL exK K) : ∃ fdat, Good K I_greater_spread fdat ∧ mg I_greater_spread.d.name = some (.ref (He.ga K I_greater_spread.d.name)) := by
  obtain ⟨fd, F⟩ := c.1.def_ 21 (d := I_greater_spread.d) rfl
  exact ⟨fd, ⟨F, N_greater_spread F⟩, He.glo_ok X G (c.1.fact 21 (f := .glo "greater_spread") rfl)⟩
theorem G_level_of {K : PySem.W.Frag} {mg : Str → Option Value} {h : Heap} (X : K.In h) (G : h.Ns mainGlobals mg) (c : SaysP faL fnL exK K) : ∃ fdat, Good K I_level_of fdat ∧ mg I_level_of.d.name = some (.ref (He.ga K I_level_of.d.name)) := by
  obtain ⟨fd, F⟩ := c.1.def_ 22 (d := I_level_of.d) rfl
  exact ⟨fd, ⟨F, N_level_of F⟩, He.glo_ok X G (c.1.fact 22 (f := .glo "level_of") rfl)⟩
theorem G__law_draw {K : PySem.W.Frag} {mg : Str → Option Value} {h : Heap} (X : K.In h) (G : h.Ns mainGlobals mg) (c : SaysP faL fnL exK K) : ∃ fdat, Good K I__law_draw fdat ∧ mg I__law_draw.d.name = some (.ref (He.ga K I__law_draw.d.name)) := by
  obtain ⟨fd, F⟩ := c.1.def_ 23 (d := I__law_draw.d) rfl
  exact ⟨fd, ⟨F, N__law_draw F⟩, He.glo_ok X G (c.1.fact 23 (f := .glo "_law_draw") rfl)⟩
theorem G__law_take {K : PySem.W.Frag} {mg : Str → Option Value} {h : Heap} (X : K.In h) (G : h.Ns mainGlobals mg) (c : SaysP faL fnL exK K) : ∃ fdat, Good K I__law_take fdat ∧ mg I__law_take.d.name = some (.ref (He.ga K I__law_take.d.name)) := by
  obtain ⟨fd, F⟩ := c.1.def_ 24 (d := I__law_take.d) rfl
  exact ⟨fd, ⟨F, N__law_take F⟩, He.glo_ok X G (c.1.fact 24 (f := .glo "_law_take") rfl)⟩
theorem G__law_lowest {K : PySem.W.Frag} {mg : Str → Option Value} {h : Heap} (X : K.In h) (G : h.Ns mainGlobals mg) (c : SaysP faL fnL exK K) : ∃ fdat, Good K I__law_lowest fdat ∧ mg I__law_lowest.d.name = some (.ref (He.ga K I__law_lowest.d.name)) := by
  obtain ⟨fd, F⟩ := c.1.def_ 25 (d := I__law_lowest.d) rfl
  exact ⟨fd, ⟨F, N__law_lowest F⟩, He.glo_ok X G (c.1.fact 25 (f := .glo "_law_lowest") rfl)⟩
theorem G__law_plus {K : PySem.W.Frag} {mg : Str → Option Value} {h : Heap} (X : K.In h) (G : h.Ns mainGlobals mg) (c : SaysP faL fnL exK K) : ∃ fdat, Good K I__law_plus fdat ∧ mg I__law_plus.d.name = some (.ref (He.ga K I__law_plus.d.name)) := by
  obtain ⟨fd, F⟩ := c.1.def_ 26 (d := I__law_plus.d) rfl
  exact ⟨fd, ⟨F, N__law_plus F⟩, He.glo_ok X G (c.1.fact 26 (f := .glo "_law_plus") rfl)⟩
theorem G__law_times {K : PySem.W.Frag} {mg : Str → Option Value} {h : Heap} (X : K.In h) (G : h.Ns mainGlobals mg) (c : SaysP faL fnL exK K) : ∃ fdat, Good K I__law_times fdat ∧ mg I__law_times.d.name = some (.ref (He.ga K I__law_times.d.name)) := by
  obtain ⟨fd, F⟩ := c.1.def_ 27 (d := I__law_times.d) rfl
  exact ⟨fd, ⟨F, N__law_times F⟩, He.glo_ok X G (c.1.fact 27 (f := .glo "_law_times") rfl)⟩
theorem G__law_minus {K : PySem.W.Frag} {mg : Str → Option Value} {h : Heap} (X : K.In h) (G : h.Ns mainGlobals mg) (c : SaysP faL fnL exK K) : ∃ fdat, Good K I__law_minus fdat ∧ mg I__law_minus.d.name = some (.ref (He.ga K I__law_minus.d.name)) := by
  obtain ⟨fd, F⟩ := c.1.def_ 28 (d := I__law_minus.d) rfl
  exact ⟨fd, ⟨F, N__law_minus F⟩, He.glo_ok X G (c.1.fact 28 (f := .glo "_law_minus") rfl)⟩
theorem G__law_less {K : PySem.W.Frag} {mg : Str → Option Value} {h : Heap} (X : K.In h) (G : h.Ns mainGlobals mg) (c : SaysP faL fnL exK K) : ∃ fdat, Good K I__law_less fdat ∧ mg I__law_less.d.name = some (.ref (He.ga K I__law_less.d.name)) := by
  obtain ⟨fd, F⟩ := c.1.def_ 29 (d := I__law_less.d) rfl
  exact ⟨fd, ⟨F, N__law_less F⟩, He.glo_ok X G (c.1.fact 29 (f := .glo "_law_less") rfl)⟩
theorem G__law_sum {K : PySem.W.Frag} {mg : Str → Option Value} {h : Heap} (X : K.In h) (G : h.Ns mainGlobals mg) (c : SaysP faL fnL exK K) : ∃ fdat, Good K I__law_sum fdat ∧ mg I__law_sum.d.name = some (.ref (He.ga K I__law_sum.d.name)) := by
  obtain ⟨fd, F⟩ := c.1.def_ 30 (d := I__law_sum.d) rfl
  exact ⟨fd, ⟨F, N__law_sum F⟩, He.glo_ok X G (c.1.fact 30 (f := .glo "_law_sum") rfl)⟩
theorem G__law_best {K : PySem.W.Frag} {mg : Str → Option Value} {h : Heap} (X : K.In h) (G : h.Ns mainGlobals mg) (c : SaysP faL fnL exK K) : ∃ fdat, Good K I__law_best fdat ∧ mg I__law_best.d.name = some (.ref (He.ga K I__law_best.d.name)) := by
  obtain ⟨fd, F⟩ := c.1.def_ 31 (d := I__law_best.d) rfl
  exact ⟨fd, ⟨F, N__law_best F⟩, He.glo_ok X G (c.1.fact 31 (f := .glo "_law_best") rfl)⟩
theorem G__law_gain {K : PySem.W.Frag} {mg : Str → Option Value} {h : Heap} (X : K.In h) (G : h.Ns mainGlobals mg) (c : SaysP faL fnL exK K) : ∃ fdat, Good K I__law_gain fdat ∧ mg I__law_gain.d.name = some (.ref (He.ga K I__law_gain.d.name)) := by
  obtain ⟨fd, F⟩ := c.1.def_ 32 (d := I__law_gain.d) rfl
  exact ⟨fd, ⟨F, N__law_gain F⟩, He.glo_ok X G (c.1.fact 32 (f := .glo "_law_gain") rfl)⟩
theorem G__law_spread {K : PySem.W.Frag} {mg : Str → Option Value} {h : Heap} (X : K.In h) (G : h.Ns mainGlobals mg) (c : SaysP faL fnL exK K) : ∃ fdat, Good K I__law_spread fdat ∧ mg I__law_spread.d.name = some (.ref (He.ga K I__law_spread.d.name)) := by
  obtain ⟨fd, F⟩ := c.1.def_ 33 (d := I__law_spread.d) rfl
  exact ⟨fd, ⟨F, N__law_spread F⟩, He.glo_ok X G (c.1.fact 33 (f := .glo "_law_spread") rfl)⟩
theorem G__law_refused {K : PySem.W.Frag} {mg : Str → Option Value} {h : Heap} (X : K.In h) (G : h.Ns mainGlobals mg) (c : SaysP faL fnL exK K) : ∃ fdat, Good K I__law_refused fdat ∧ mg I__law_refused.d.name = some (.ref (He.ga K I__law_refused.d.name)) := by
  obtain ⟨fd, F⟩ := c.1.def_ 34 (d := I__law_refused.d) rfl
  exact ⟨fd, ⟨F, N__law_refused F⟩, He.glo_ok X G (c.1.fact 34 (f := .glo "_law_refused") rfl)⟩
theorem G__law_gathered {K : PySem.W.Frag} {mg : Str → Option Value} {h : Heap} (X : K.In h) (G : h.Ns mainGlobals mg) (c : SaysP faL fnL exK K) : ∃ fdat, Good K I__law_gathered fdat ∧ mg I__law_gathered.d.name = some (.ref (He.ga K I__law_gathered.d.name)) := by
  obtain ⟨fd, F⟩ := c.1.def_ 35 (d := I__law_gathered.d) rfl
  exact ⟨fd, ⟨F, N__law_gathered F⟩, He.glo_ok X G (c.1.fact 35 (f := .glo "_law_gathered") rfl)⟩
theorem G_law {K : PySem.W.Frag} {mg : Str → Option Value} {h : Heap} (X : K.In h) (G : h.Ns mainGlobals mg) (c : SaysP faL fnL exK K) : ∃ fdat, Good K I_law fdat ∧ mg I_law.d.name = some (.ref (He.ga K I_law.d.name)) := by
  obtain ⟨fd, F⟩ := c.1.def_ 36 (d := I_law.d) rfl
  exact ⟨fd, ⟨F, N_law F⟩, He.glo_ok X G (c.1.fact 36 (f := .glo "law") rfl)⟩
theorem gxL {K : PySem.W.Frag} {h : Heap} {mg : Str → Option Value} (X : K.In h) (G : h.Ns mainGlobals mg) (c : SaysP faL fnL exK K) : ∀ n ∈ xnL, mg n = some (.ref (He.ga K n)) ∧ ExcC K (He.ga K n) := all_cons ⟨He.glo_ok X G (c.1.fact 48 (f := .glo "NotAllowed") rfl), excC_ok (c.1.fact 49 (f := .exc "NotAllowed") rfl)⟩ (all_nil)
theorem gmL {K : PySem.W.Frag} (c : SaysP faL fnL exK K) : ∀ t ∈ tkT, PySem.W.exmOne K (clsX xnL K t.2.1) (clsX xnL K t.1) = some t.2.2 := all_cons (He.exm_ok (c.1.fact 50 (f := .exm "NotAllowed" "NotAllowed" true) rfl)) (all_nil)
theorem gsL [HW] {P : Program} {w : World} {K : PySem.W.Frag} {mg : Str → Option Value} {base h : Heap} {g : Nat} (hw : HW.P = P ∧ HW.w = w) (X : K.In h) (G : h.Ns mainGlobals mg) (c : SaysP faL fnL exK K) : Gs fsL (ZZ P w K mg base g) bnL csL :=
  have c2 := Bool.and_eq_true_iff.mp (show (noList K && csL.all (gconOk K)) = true from c.2)
  ⟨all_get (P := fun I => ∃ fdat, Good K I fdat ∧ mg I.d.name = some (.ref (He.ga K I.d.name))) (all_cons (G_common X G c) (all_cons (G_lowest X G c) (all_cons (G_plus X G c) (all_cons (G_minus X G c) (all_cons (G_times X G c) (all_cons (G_less X G c) (all_cons (G_greatest X G c) (all_cons (G_sum_of X G c) (all_cons (G_is_ratio X G c) (all_cons (G_is_chance X G c) (all_cons (G_is_gain X G c) (all_cons (G_in_size X G c) (all_cons (G_is_spread X G c) (all_cons (G_check_spread X G c) (all_cons (G_gathered X G c) (all_cons (G_mean_of X G c) (all_cons (G_variance_of X G c) (all_cons (G_chance_up_to X G c) (all_cons (G_short_of X G c) (all_cons (G_mixed_spread X G c) (all_cons (G_sum_spread X G c) (all_cons (G_greater_spread X G c) (all_cons (G_level_of X G c) (all_cons (G__law_draw X G c) (all_cons (G__law_take X G c) (all_cons (G__law_lowest X G c) (all_cons (G__law_plus X G c) (all_cons (G__law_times X G c) (all_cons (G__law_minus X G c) (all_cons (G__law_less X G c) (all_cons (G__law_sum X G c) (all_cons (G__law_best X G c) (all_cons (G__law_gain X G c) (all_cons (G__law_spread X G c) (all_cons (G__law_refused X G c) (all_cons (G__law_gathered X G c) (all_cons (G_law X G c) (all_nil)))))))))))))))))))))))))))))))))))))), all_cons (He.free_ok X G (c.1.fact 37 (f := .free "abs") rfl)) (all_cons (He.free_ok X G (c.1.fact 38 (f := .free "all") rfl)) (all_cons (He.free_ok X G (c.1.fact 39 (f := .free "bool") rfl)) (all_cons (He.free_ok X G (c.1.fact 40 (f := .free "int") rfl)) (all_cons (He.free_ok X G (c.1.fact 41 (f := .free "isinstance") rfl)) (all_cons (He.free_ok X G (c.1.fact 42 (f := .free "len") rfl)) (all_cons (He.free_ok X G (c.1.fact 43 (f := .free "list") rfl)) (all_cons (He.free_ok X G (c.1.fact 44 (f := .free "range") rfl)) (all_cons (He.free_ok X G (c.1.fact 45 (f := .free "sum") rfl)) (all_cons (He.free_ok X G (c.1.fact 46 (f := .free "tuple") rfl)) (all_cons (He.free_ok X G (c.1.fact 47 (f := .free "zip") rfl)) (all_nil))))))))))), hw, fun j n e => ⟨(all_get (gxL X G c) j n e).1, clsX_at e, (all_get (gxL X G c) j n e).2⟩, fun i y k e => tkX_at (P := fun i y k => PySem.W.exmOne K (clsX xnL K y) (clsX xnL K i) = some k) (gmL c) e, fun p hp => gcon_ok X G (List.all_eq_true.mp c2.2 p hp)⟩
theorem okL : ∀ (j : Nat) (I : Info), fsL[j]? = some I → InfoOk I := all_get (all_cons K_common (all_cons K_lowest (all_cons K_plus (all_cons K_minus (all_cons K_times (all_cons K_less (all_cons K_greatest (all_cons K_sum_of (all_cons K_is_ratio (all_cons K_is_chance (all_cons K_is_gain (all_cons K_in_size (all_cons K_is_spread (all_cons K_check_spread (all_cons K_gathered (all_cons K_mean_of (all_cons K_variance_of (all_cons K_chance_up_to (all_cons K_short_of (all_cons K_mixed_spread (all_cons K_sum_spread (all_cons K_greater_spread (all_cons K_level_of (all_cons K__law_draw (all_cons K__law_take (all_cons K__law_lowest (all_cons K__law_plus (all_cons K__law_times (all_cons K__law_minus (all_cons K__law_less (all_cons K__law_sum (all_cons K__law_best (all_cons K__law_gain (all_cons K__law_spread (all_cons K__law_refused (all_cons K__law_gathered (all_cons K_law (all_nil))))))))))))))))))))))))))))))))))))))
theorem bodL [HW] {Z : Wd} (zx : Z.xn = xnL) : ∀ (j : Nat) (I : Info), fsL[j]? = some I → ∀ d cdv A outer s H E, Bd fsL Z bnL csL d (Z.cf fsL d E) (Z.X I cdv A outer s H E) → PSs (Z.X I cdv A outer s H E) I.d.body (tS (Z.cf fsL d E) Z.tk Z.g I.fd.b) :=
  all_get (P := fun I => ∀ d cdv A outer s H E, Bd fsL Z bnL csL d (Z.cf fsL d E) (Z.X I cdv A outer s H E) → PSs (Z.X I cdv A outer s H E) I.d.body (tS (Z.cf fsL d E) Z.tk Z.g I.fd.b)) (all_cons (fun d cdv A outer s H E B => B_common zx d cdv A outer s H E B) (all_cons (fun d cdv A outer s H E B => B_lowest zx d cdv A outer s H E B) (all_cons (fun d cdv A outer s H E B => B_plus zx d cdv A outer s H E B) (all_cons (fun d cdv A outer s H E B => B_minus zx d cdv A outer s H E B) (all_cons (fun d cdv A outer s H E B => B_times zx d cdv A outer s H E B) (all_cons (fun d cdv A outer s H E B => B_less zx d cdv A outer s H E B) (all_cons (fun d cdv A outer s H E B => B_greatest zx d cdv A outer s H E B) (all_cons (fun d cdv A outer s H E B => B_sum_of zx d cdv A outer s H E B) (all_cons (fun d cdv A outer s H E B => B_is_ratio zx d cdv A outer s H E B) (all_cons (fun d cdv A outer s H E B => B_is_chance zx d cdv A outer s H E B) (all_cons (fun d cdv A outer s H E B => B_is_gain zx d cdv A outer s H E B) (all_cons (fun d cdv A outer s H E B => B_in_size zx d cdv A outer s H E B) (all_cons (fun d cdv A outer s H E B => B_is_spread zx d cdv A outer s H E B) (all_cons (fun d cdv A outer s H E B => B_check_spread zx d cdv A outer s H E B) (all_cons (fun d cdv A outer s H E B => B_gathered zx d cdv A outer s H E B) (all_cons (fun d cdv A outer s H E B => B_mean_of zx d cdv A outer s H E B) (all_cons (fun d cdv A outer s H E B => B_variance_of zx d cdv A outer s H E B) (all_cons (fun d cdv A outer s H E B => B_chance_up_to zx d cdv A outer s H E B) (all_cons (fun d cdv A outer s H E B => B_short_of zx d cdv A outer s H E B) (all_cons (fun d cdv A outer s H E B => B_mixed_spread zx d cdv A outer s H E B) (all_cons (fun d cdv A outer s H E B => B_sum_spread zx d cdv A outer s H E B) (all_cons (fun d cdv A outer s H E B => B_greater_spread zx d cdv A outer s H E B) (all_cons (fun d cdv A outer s H E B => B_level_of zx d cdv A outer s H E B) (all_cons (fun d cdv A outer s H E B => B__law_draw zx d cdv A outer s H E B) (all_cons (fun d cdv A outer s H E B => B__law_take zx d cdv A outer s H E B) (all_cons (fun d cdv A outer s H E B => B__law_lowest zx d cdv A outer s H E B) (all_cons (fun d cdv A outer s H E B => B__law_plus zx d cdv A outer s H E B) (all_cons (fun d cdv A outer s H E B => B__law_times zx d cdv A outer s H E B) (all_cons (fun d cdv A outer s H E B => B__law_minus zx d cdv A outer s H E B) (all_cons (fun d cdv A outer s H E B => B__law_less zx d cdv A outer s H E B) (all_cons (fun d cdv A outer s H E B => B__law_sum zx d cdv A outer s H E B) (all_cons (fun d cdv A outer s H E B => B__law_best zx d cdv A outer s H E B) (all_cons (fun d cdv A outer s H E B => B__law_gain zx d cdv A outer s H E B) (all_cons (fun d cdv A outer s H E B => B__law_spread zx d cdv A outer s H E B) (all_cons (fun d cdv A outer s H E B => B__law_refused zx d cdv A outer s H E B) (all_cons (fun d cdv A outer s H E B => B__law_gathered zx d cdv A outer s H E B) (all_cons (fun d cdv A outer s H E B => B_law zx d cdv A outer s H E B) (all_nil))))))))))))))))))))))))))))))))))))))
abbrev lawFn (g : Nat) : Fn := run (fsL.map Info.fd) tkL g 40
abbrev spLaw [HW] (K : PySem.W.Frag) : Sp := fun vs H Q _ => spE (fun g => spF K (clsX xnL K) (lawFn g) I_law.fd I_law.N 36) vs H Q fun _ _ _ => False
theorem facts [HW] {P : Program} {w : World} {K : PySem.W.Frag} {h : Heap} {mg : Str → Option Value} {f : Addr} (hw : HW.P = P ∧ HW.w = w) (X : K.In h) (G : h.Ns mainGlobals mg) (hfa : mg ("law" : Str) = some (.ref f)) (c : SaysP faL fnL exK K) :
    noList K = true ∧ ∃ fd : FuncData, (∀ (s : Shared) (v : Value), BindsTo s fd ⟨[v], []⟩ [("script", v)]) ∧ ∀ base : Heap, K.In base → base.Ns mainGlobals mg → FnOk P w K mg base CX0 40 f fd ["script"] (spLaw K) := by
  have c2 := Bool.and_eq_true_iff.mp (show (noList K && csL.all (gconOk K)) = true from c.2)
  obtain ⟨fd, F⟩ := c.1.def_ 36 (d := I_law.d) rfl
  have e := hfa.symm.trans (He.glo_ok X G (c.1.fact 36 (f := .glo "law") rfl))
  cases e
  have b := FunD.bindsA (ps := ["script"]) F fun _ _ _ _ _ _ us hl => match us, hl with | [_], _ => rfl
  exact ⟨c2.1, fd, fun s v => b s [v] rfl, fun base _ _ => fnOk_0 (fnOk_ex fun g => okAt (Z := ZZ P w K mg base g) (gsL hw X G c) okL (bodL rfl) 40 36 I_law fd rfl ⟨F, N_law F⟩)⟩
end K21

set_option exponentiation.threshold 10000
namespace K21
open PySem PySem.Spec PyProof.Rows L2 Py
abbrev fsd : List FD := fsL.map Info.fd
def gg : Nat := 2 ^ 9000
theorem lgg : 2 ^ 9000 ≤ gg := Nat.le_refl _
abbrev rn (d : Nat) : Fn := run fsd tkL gg d
abbrev Y := Option (W × Fl)
abbrev Q2 := Int × Int
abbrev Pr := Q2 × Q2
theorem rd1 : RD fsd 0 1 0 := .lw (jc := 0) rfl rfl
theorem rd2 : RD fsd 1 2 0 := .pl rd1 rfl
theorem rd7 : RD fsd 2 7 0 := .sr (z := .con (.tup [.int 0, .int 1])) rd2 (fun _ _ => rfl) rfl
theorem rd25 : RD fsd 0 25 0 := .lwl rfl
theorem rd26 : RD fsd 1 26 0 := .pl rd25 rfl
theorem rd30 : RD fsd 2 30 0 := .sr (z := .tup (.cons (.con (.int 0)) (.cons (.con (.int 1)) .nil))) rd26 (fun _ _ => rfl) rfl
section
variable {d : Nat} (hd : 6 ≤ d) {p q : Q2}
include hd
theorem f2 (hp : gR p = true) (hq : gR q = true) : rn d 2 [rt p, rt q] = .ret (rt (rpl p q)) false [] := pl_at lgg rd2 (by omega) hp hq
theorem f26 (hp : gR p = true) (hq : gR q = true) : rn d 26 [rt p, rt q] = .ret (rt (rpl p q)) false [] := pl_at lgg rd26 (by omega) hp hq
theorem f3 (hp : gR p = true) (hq : gR q = true) : rn d 3 [rt p, rt q] = .ret (rt (rmi p q)) false [] := mi_at lgg rd1 rfl (by omega) hp hq
theorem f28 (hp : gR p = true) (hq : gR q = true) : rn d 28 [rt p, rt q] = .ret (rt (rmi p q)) false [] := ml_at lgg rd26 rfl (by omega) hp hq
theorem f4 (hp : gR p = true) (hq : gR q = true) : rn d 4 [rt p, rt q] = .ret (rt (rtm p q)) false [] := tm_at lgg rd1 rfl (by omega) hp hq
theorem f27 (hp : gR p = true) (hq : gR q = true) : rn d 27 [rt p, rt q] = .ret (rt (rtm p q)) false [] := tm_at lgg rd25 rfl (by omega) hp hq
theorem f5 (hp : gR p = true) (hq : gR q = true) : rn d 5 [rt p, rt q] = .ret (.bl (rls p q)) false [] := ls_at rfl (by omega) (gM_of hp) (gM_of hq)
theorem f29 (hp : gR p = true) (hq : gR q = true) : rn d 29 [rt p, rt q] = .ret (.bl (rls p q)) false [] := ls_at rfl (by omega) (gM_of hp) (gM_of hq)
theorem f7 {l : List Q2} (hl : sumG (0, 1) l = true) : rn d 7 [.lst (l.map rt)] = .ret (rt (sumR (0, 1) l)) false [] := by
  obtain ⟨e, rfl⟩ : ∃ e, d = e + 4 := ⟨d - 4, by omega⟩
  exact rd7.sum lgg hl
theorem f30 {l : List Q2} (hl : sumG (0, 1) l = true) : rn d 30 [.lst (l.map rt)] = .ret (rt (sumR (0, 1) l)) false [] := by
  obtain ⟨e, rfl⟩ : ∃ e, d = e + 4 := ⟨d - 4, by omega⟩
  exact rd30.sum lgg hl
theorem f6 (hp : gR p = true) (hq : gR q = true) : rn d 6 [.lst [rt p, rt q]] = .ret (rt (rgr p q)) false [] := gr2_at rfl rfl (by omega) (gM_of hp) (gM_of hq)
theorem f31 (hp : gR p = true) (hq : gR q = true) : rn d 31 [.lst [rt p, rt q], .int 1] = .ret (rt (rgr p q)) false [] := bs2_at rfl rfl (by omega) (gM_of hp) (gM_of hq)
theorem f31l {l : List Q2} (hl : ∀ p ∈ l, gR p = true) (h0 : l ≠ []) : rn d 31 [.lst (l.map rt), .int (-1)] = .ret (rt (leR l)) false [] := bsL_at rfl rfl (by omega) (gMs_of fun p hp => gM_of (hl p hp)) h0
end
/-! ### sizes of sums -/
theorem zero_bd : bd 1 (0, 1) := ⟨by decide, by decide, by decide⟩
theorem one_bd' : bd 1 (1, 1) := ⟨by decide, by decide, by decide⟩
theorem sum_bd {k : Nat} : ∀ {l : List Q2} {a : Q2} {m : Nat}, bd m a → (∀ p ∈ l, bd k p) → m + l.length * (k + 1) ≤ 4490 → k ≤ 4490 → sumG a l = true ∧ bd (m + l.length * (k + 1)) (sumR a l)
  | [], a, m, ha, _, _, _ => ⟨rfl, by simpa [sumR] using ha⟩
  | p :: l, a, m, ha, hl, hz, hk => by
    have hp := hl p List.mem_cons_self
    simp only [List.length_cons, Nat.add_mul, Nat.one_mul] at hz ⊢
    obtain ⟨h1, h2⟩ := sum_bd (l := l) (rpl_bd ha hp) (fun q hq => hl q (List.mem_cons_of_mem _ hq)) (by omega) hk
    refine ⟨?_, ?_⟩
    · simp only [sumG, ha.g (by omega), hp.g hk, h1, Bool.and_self]
    · show bd _ (sumR (rpl a p) l)
      exact h2.up (by omega)
/-! ### pairs of a gain and a chance -/
def prr (p : Pr) : W := .tup [rt p.1, rt p.2]
def spW (s : List Pr) : W := .tup (s.map prr)
theorem isD_prr (p : Pr) : isD (prr p) = false := rfl
theorem set_eq {ρ : Py.Env} {i : Nat} {y : Y} (h : ρ[i]? = some y) : ρ.set i y = ρ := by
  apply List.ext_getElem?
  intro j
  rw [List.getElem?_set]
  split
  · rename_i e
    subst e
    split
    · exact h.symm
    · rename_i hlt
      rw [List.getElem?_eq_none (by omega)] at h
      cases h
  · rfl
def S2 (ρ : Py.Env) (a b : Nat) (u v : W) : Py.Env := (ρ.set a (some (u, .sh))).set b (some (v, .sh))
theorem asP2' {ρ : Py.Env} {a b : Nat} (hab : a ≠ b) (la : a < ρ.length) (lb : b < ρ.length) (x y : Y) (u v : W) : asP (.t (.cons (.n a) (.cons (.n b) .nil))) (.tup [u, v]) (wpE ((ρ.set a x).set b y) [a, b]) = some (S2 ρ a b u v) := by
  have e1 : wpE ((ρ.set a x).set b y) [a, b] = (ρ.set a none).set b none := by
    show (((ρ.set a x).set b y).set b none).set a none = _
    rw [List.set_set, List.set_comm _ _ (Ne.symm hab), List.set_set]
  rw [e1]
  have g1 : setN ((ρ.set a none).set b none) a u .sh = some ((ρ.set a (some (u, .sh))).set b none) := by
    have : ((ρ.set a none).set b none)[a]? = some none := by
      rw [List.getElem?_set_ne (Ne.symm hab), List.getElem?_set_self la]
    unfold setN
    rw [this]
    show some (((ρ.set a none).set b none).set a (some (u, .sh))) = _
    rw [List.set_comm _ _ (Ne.symm hab), List.set_set]
  have g2 : setN ((ρ.set a (some (u, .sh))).set b none) b v .sh = some (S2 ρ a b u v) := by
    have : ((ρ.set a (some (u, Fl.sh))).set b none)[b]? = some none := by
      rw [List.getElem?_set_self (by simpa using lb)]
    unfold setN
    rw [this]
    show some (((ρ.set a (some (u, .sh))).set b none).set b (some (v, .sh))) = _
    rw [List.set_set]
    rfl
  simp only [asP, g1, g2]
theorem rs2 {ρ : Py.Env} {a b : Nat} (hab : a ≠ b) (la : a < ρ.length) (lb : b < ρ.length) (x y : Y) : rsE ρ ((ρ.set a x).set b y) [a, b] = ρ := by
  have ha : ρ[a]? = some ρ[a] := by simp [la]
  have hb : ρ[b]? = some ρ[b] := by simp [lb]
  have e : rsE ρ ((ρ.set a x).set b y) [a, b] = (((ρ.set a x).set b y).set b ρ[b]).set a ρ[a] := by
    simp only [rsE, ha, hb]
  rw [e, List.set_set, List.set_comm _ _ (Ne.symm hab), List.set_set, List.set_comm _ _ hab, set_eq hb, set_eq ha]
theorem lcL_fm {step : W → Py.Env → Out (Option W)} {I : Py.Env → Prop} {α : Type} {e : α → W} {k : α → Bool} {f : α → W} : ∀ {l : List α} {acc : List W} {ρ : Py.Env}, (∀ p ∈ l, ∀ ρ, I ρ → ∃ ρ', step (e p) ρ = .ok (if k p then some (f p) else none) ρ' ∧ I ρ') → I ρ → ∃ ρ', lcL step (l.map e) acc ρ = .ok (acc ++ (l.filter k).map f) ρ' ∧ I ρ'
  | [], acc, ρ, _, hi => ⟨ρ, by simp [lcL], hi⟩
  | p :: r, acc, ρ, hs, hi => by
    obtain ⟨ρ1, e1, i1⟩ := hs p List.mem_cons_self ρ hi
    have hs' : ∀ q ∈ r, ∀ ρ, I ρ → ∃ ρ', step (e q) ρ = .ok (if k q then some (f q) else none) ρ' ∧ I ρ' := fun q hq => hs q (List.mem_cons_of_mem _ hq)
    cases hk : k p with
    | true =>
      rw [hk] at e1
      obtain ⟨ρ2, e2, i2⟩ := lcL_fm (l := r) (acc := acc ++ [f p]) hs' i1
      refine ⟨ρ2, ?_, i2⟩
      simp only [List.map_cons, lcL, e1, if_true]
      rw [e2]
      simp [List.filter_cons, hk]
    | false =>
      rw [hk] at e1
      obtain ⟨ρ2, e2, i2⟩ := lcL_fm (l := r) (acc := acc) hs' i1
      refine ⟨ρ2, ?_, i2⟩
      simp only [List.map_cons, lcL, e1, Bool.false_eq_true, if_false]
      rw [e2]
      simp [List.filter_cons, hk]
/-- a comprehension over pairs -/
theorem lc_p {C : Fn} {elt t : E} {ρ : Py.Env} {i a b : Nat} {l : List Pr} {k : Pr → Bool} {f : Pr → W} (hab : a ≠ b) (la : a < ρ.length) (lb : b < ρ.length) {w : W} (hi : wOf ρ i = some (w, .sh)) (hw : w = .tup (l.map prr) ∨ w = .lst (l.map prr)) (hz : l.length ≤ 1000)
    (hx : ∀ p ∈ l, ((ev C t).t (S2 ρ a b (rt p.1) (rt p.2))).bind (fun kk ρ2 => if kk then stepV (ev C elt).x ρ2 else .ok none ρ2) = .ok (if k p then some (f p) else none) (S2 ρ a b (rt p.1) (rt p.2))) :
    (ev C (.lc elt (.t (.cons (.n a) (.cons (.n b) .nil))) t .seq (.cons (.var i) .nil) [a, b])).x ρ = .ok (.val (.lst ((l.filter k).map f)) true) ρ := by
  have ea : ρ[a]? = some ρ[a] := by simp [la]
  have eb : ρ[b]? = some ρ[b] := by simp [lb]
  obtain ⟨ρ', e1, x, y, e2⟩ := lcL_fm (step := stepE [a, b] (.t (.cons (.n a) (.cons (.n b) .nil))) (ev C t).t (ev C elt).x) (e := prr) (k := k) (f := f) (I := fun ρ' => ∃ x y, ρ' = (ρ.set a x).set b y) (l := l) (acc := []) (ρ := ρ)
    (fun p hp ρ' ⟨x, y, hρ⟩ => by
      subst hρ
      refine ⟨S2 ρ a b (rt p.1) (rt p.2), ?_, _, _, rfl⟩
      unfold stepE prr
      rw [asP2' hab la lb]
      exact hx p hp) ⟨ρ[a], ρ[b], by rw [set_eq ea, set_eq eb]⟩
  subst e2
  have hlk : lkE ρ [.slot i] = ρ := by simp [lkE, lkE1, hi]
  have har : (ev C (.cons (.var i) .nil)).a ρ = .ok [.slot i] ρ := by simp [ev, hi]
  have hres : (ress ρ [.slot i]).bind (itW .seq) = some (l.map prr) := by
    rcases hw with rfl | rfl <;> simp [ress, res, hi, itW]
  rw [lc_ok (us := [.slot i]) har hres (by rw [List.length_map]; unfold szL; omega) (by rw [hlk]; exact e1), hlk, rs2 hab la lb]
  simp [ulE, ulE1, hi]
end K21

set_option exponentiation.threshold 10000
namespace K21
open PySem PySem.Spec PyProof.Rows L2 Py
/-! ### comprehensions in general -/
theorem lc_g2 {C : Fn} {elt t es : E} {ρ : Py.Env} {us : List Py.Arg} {K : IK} {a b : Nat} {α : Type} {l : List α} {u v : α → W} {k : α → Bool} {f : α → W} (hab : a ≠ b) (la : a < ρ.length) (lb : b < ρ.length) (har : (ev C es).a ρ = .ok us ρ) (hres : (ress ρ us).bind (itW K) = some (l.map fun p => .tup [u p, v p])) (hlk : lkE ρ us = ρ) (hul : ∀ ρ', ulE ρ ρ' us = ρ') (hz : l.length ≤ 1000)
    (hx : ∀ p ∈ l, ((ev C t).t (S2 ρ a b (u p) (v p))).bind (fun kk ρ2 => if kk then stepV (ev C elt).x ρ2 else .ok none ρ2) = .ok (if k p then some (f p) else none) (S2 ρ a b (u p) (v p))) :
    (ev C (.lc elt (.t (.cons (.n a) (.cons (.n b) .nil))) t K es [a, b])).x ρ = .ok (.val (.lst ((l.filter k).map f)) true) ρ := by
  have ea : ρ[a]? = some ρ[a] := by simp [la]
  have eb : ρ[b]? = some ρ[b] := by simp [lb]
  obtain ⟨ρ', e1, x, y, e2⟩ := lcL_fm (step := stepE [a, b] (.t (.cons (.n a) (.cons (.n b) .nil))) (ev C t).t (ev C elt).x) (e := fun p => .tup [u p, v p]) (k := k) (f := f) (I := fun ρ' => ∃ x y, ρ' = (ρ.set a x).set b y) (l := l) (acc := []) (ρ := ρ)
    (fun p hp ρ' ⟨x, y, hρ⟩ => by
      subst hρ
      refine ⟨S2 ρ a b (u p) (v p), ?_, _, _, rfl⟩
      unfold stepE
      rw [asP2' hab la lb]
      exact hx p hp) ⟨ρ[a], ρ[b], by rw [set_eq ea, set_eq eb]⟩
  subst e2
  rw [lc_ok (us := us) har hres (by rw [List.length_map]; unfold szL; omega) (by rw [hlk]; exact e1), hlk, rs2 hab la lb, hul]
  simp
def S1 (ρ : Py.Env) (a : Nat) (u : W) : Py.Env := ρ.set a (some (u, .sh))
theorem asP1' {ρ : Py.Env} {a : Nat} (la : a < ρ.length) (x : Y) (u : W) : asP (.n a) u (wpE (ρ.set a x) [a]) = some (S1 ρ a u) := by
  have e1 : wpE (ρ.set a x) [a] = ρ.set a none := by
    show (ρ.set a x).set a none = _
    rw [List.set_set]
  rw [e1]
  show setN (ρ.set a none) a u .sh = _
  unfold setN
  rw [List.getElem?_set_self la]
  show some ((ρ.set a none).set a (some (u, .sh))) = _
  rw [List.set_set]
  rfl
theorem rs1 {ρ : Py.Env} {a : Nat} (la : a < ρ.length) (x : Y) : rsE ρ (ρ.set a x) [a] = ρ := by
  have ha : ρ[a]? = some ρ[a] := by simp [la]
  have e : rsE ρ (ρ.set a x) [a] = (ρ.set a x).set a ρ[a] := by simp only [rsE, ha]
  rw [e, List.set_set, set_eq ha]
theorem lc_g1 {C : Fn} {elt t es : E} {ρ ρL : Py.Env} {us : List Py.Arg} {K : IK} {a : Nat} {α : Type} {l : List α} {u : α → W} {k : α → Bool} {f : α → W} (la : a < ρL.length) (har : (ev C es).a ρ = .ok us ρ) (hres : (ress ρ us).bind (itW K) = some (l.map u)) (hlk : lkE ρ us = ρL) (hul : ulE ρ ρL us = ρ) (hz : l.length ≤ 1000)
    (hx : ∀ p ∈ l, ((ev C t).t (S1 ρL a (u p))).bind (fun kk ρ2 => if kk then stepV (ev C elt).x ρ2 else .ok none ρ2) = .ok (if k p then some (f p) else none) (S1 ρL a (u p))) :
    (ev C (.lc elt (.n a) t K es [a])).x ρ = .ok (.val (.lst ((l.filter k).map f)) true) ρ := by
  have ea : ρL[a]? = some ρL[a] := by simp [la]
  obtain ⟨ρ', e1, x, e2⟩ := lcL_fm (step := stepE [a] (.n a) (ev C t).t (ev C elt).x) (e := u) (k := k) (f := f) (I := fun ρ' => ∃ x, ρ' = ρL.set a x) (l := l) (acc := []) (ρ := ρL)
    (fun p hp ρ' ⟨x, hρ⟩ => by
      subst hρ
      refine ⟨S1 ρL a (u p), ?_, _, rfl⟩
      unfold stepE
      rw [asP1' la]
      exact hx p hp) ⟨ρL[a], by rw [set_eq ea]⟩
  subst e2
  rw [lc_ok (us := us) har hres (by rw [List.length_map]; unfold szL; omega) (by rw [hlk]; exact e1), hlk, rs1 la, hul]
  simp
theorem fil_t {α : Type} (l : List α) : l.filter (fun _ => true) = l := by simp
section
variable (C : Fn) (tk : Tk) (g : Nat)
def Lis_ratio_0 : E := (.lc (.and (.isi (.var 1) .int) (.not (.isi (.var 1) .bool))) (.n 1) .nil .seq (.cons (.var 0) .nil) [1])
def T_is_ratio (e0 : E) : S := (.seq (.ite (.or (.not (.isi (.var 0) .tuple)) (.cmp .ne (.bi .len (.cons (.var 0) .nil)) (.con (.int 2)))) (.seq (.ret (.con (.bl false))) .nil) .nil) (.seq (.ite (.not (.bi .all (.cons e0 .nil))) (.seq (.ret (.con (.bl false))) .nil) .nil) (.seq (.ret (.and (.cmp .ge (.ix (.var 0) (.con (.int 1))) (.con (.int 1))) (.cmp .eq (.call 0 [false, false] (.cons (.ix (.var 0) (.con (.int 0))) (.cons (.ix (.var 0) (.con (.int 1))) .nil))) (.con (.int 1))))) .nil)))
theorem T_is_ratio_is : S_is_ratio = T_is_ratio Lis_ratio_0 := rfl
/-- in lowest terms, small -/
def rtB (p : Int × Int) : Bool := decide (1 ≤ p.2) && (decide (Nat.gcd p.1.natAbs p.2.natAbs = 1) && (decide (p.1.natAbs < 1000) && decide (p.2 < 1000)))
theorem rtB_ok {p : Int × Int} (h : rtB p = true) : 1 ≤ p.2 ∧ Nat.gcd p.1.natAbs p.2.natAbs = 1 ∧ p.1.natAbs < 1000 ∧ p.2 < 1000 := by
  simpa [rtB] using h
theorem len2 (a b : W) : biW .len [.tup [a, b]] = some (.int 2, false) := rfl
theorem cmpeq2 : cmpW .eq (.int 2) (.int 2) = some true := rfl
theorem cmpne2 : cmpW .ne (.int 2) (.int 2) = some false := rfl
theorem all2 : biW .all [.lst [.bl true, .bl true]] = some (.bl true, false) := rfl
theorem cmpeq1 : cmpW .eq (.int 1) (.int 1) = some true := rfl
theorem ir_T (e0 : E) (p : Int × Int) (h : rtB p = true) (hC : C 0 [.int p.1, .int p.2] = .ret (.int (Nat.gcd p.1.natAbs p.2.natAbs)) false []) (he : (ev C e0).x [some (rt p, .sh), none] = .ok (.val (.lst [.bl true, .bl true]) true) [some (rt p, .sh), none]) :
    ofS I_is_ratio.fd (xs C tk g (T_is_ratio e0) [some (rt p, .sh), none]) = .ret (.bl true) false [] := by
  obtain ⟨h1, h2, _, _⟩ := rtB_ok h
  rw [h2] at hC
  have e2 : cmpW .ge (.int p.2) (.int 1) = some true := by show some (decide _) = _; rw [decide_eq_true h1]
  have hC : C 0 [.int p.1, .int p.2] = .ret (.int 1) false [] := hC
  simp only [rt] at he
  simp [Py.xs, Py.ev, Py.SO.thn, Py.wOf, Py.l1, Py.l2, Py.lL, Py.ress, Py.res, Py.ofO, Py.bW, Py.trO, Py.truth, Py.isTy, Py.callW, Py.shM, Py.shr, Py.shrs, Py.ioW, Py.ioB, Py.ofE, Py.asA, Py.setN, Py.fixA, Py.asAs, Py.retA, Py.ofS, Py.ioE, Py.stepV, Py.stepE, Py.asP, Py.wpE, Py.rsE, Py.lkE, Py.lkE1, Py.ulE, Py.ulE1, T_is_ratio, rt, he, e2, len2, cmpne2, all2, ixT0, ixT1, hC, cmpeq1, I_is_ratio]
theorem ir_ok (p : Int × Int) (h : rtB p = true) (hC : C 0 [.int p.1, .int p.2] = .ret (.int (Nat.gcd p.1.natAbs p.2.natAbs)) false []) : ofS I_is_ratio.fd (xs C tk g S_is_ratio [some (rt p, .sh), none]) = .ret (.bl true) false [] := by
  rw [T_is_ratio_is]
  exact ir_T C tk g _ p h hC rfl
theorem ic_ok (p : Int × Int) (h1 : 0 ≤ p.1) (h2 : p.1 ≤ p.2) (hC : C 8 [rt p] = .ret (.bl true) false []) : ofS I_is_chance.fd (xs C tk g S_is_chance [some (rt p, .sh)]) = .ret (.bl true) false [] := by
  have e1 : cmpW .le (.int 0) (.int p.1) = some true := by show some (decide _) = _; rw [decide_eq_true h1]
  have e2 : cmpW .le (.int p.1) (.int p.2) = some true := by show some (decide _) = _; rw [decide_eq_true h2]
  simp only [rt] at hC
  simp [Py.xs, Py.ev, Py.SO.thn, Py.wOf, Py.l1, Py.l2, Py.lL, Py.ress, Py.res, Py.ofO, Py.bW, Py.trO, Py.truth, Py.isTy, Py.callW, Py.shM, Py.shr, Py.shrs, Py.ioW, Py.ioB, Py.ofE, Py.asA, Py.setN, Py.fixA, Py.asAs, Py.retA, Py.ofS, Py.ioE, Py.stepV, Py.stepE, Py.asP, Py.wpE, Py.rsE, Py.lkE, Py.lkE1, Py.ulE, Py.ulE1, S_is_chance, rt, hC, e1, e2, ixT0, ixT1, I_is_chance]
theorem ig_ok (p : Int × Int) (h : rtB p = true) (hC : C 8 [rt p] = .ret (.bl true) false []) : ofS I_is_gain.fd (xs C tk g S_is_gain [some (rt p, .sh)]) = .ret (.bl true) false [] := by
  obtain ⟨h1, h2, h3, h4⟩ := rtB_ok h
  have e0 : biW .abs [.int p.1] = some (.int (if p.1 < 0 then -p.1 else p.1), false) := rfl
  rw [absW] at e0
  have e1 : cmpW .le (.int (p.1.natAbs : Int)) (.int 999999) = some true := by show some (decide _) = _; rw [decide_eq_true (by omega)]
  have e2 : cmpW .le (.int p.2) (.int 999999) = some true := by show some (decide _) = _; rw [decide_eq_true (by omega)]
  simp only [rt] at hC
  simp [Py.xs, Py.ev, Py.SO.thn, Py.wOf, Py.l1, Py.l2, Py.lL, Py.ress, Py.res, Py.ofO, Py.bW, Py.trO, Py.truth, Py.isTy, Py.callW, Py.shM, Py.shr, Py.shrs, Py.ioW, Py.ioB, Py.ofE, Py.asA, Py.setN, Py.fixA, Py.asAs, Py.retA, Py.ofS, Py.ioE, Py.stepV, Py.stepE, Py.asP, Py.wpE, Py.rsE, Py.lkE, Py.lkE1, Py.ulE, Py.ulE1, S_is_gain, rt, hC, e0, e1, e2, ixT0, ixT1, I_is_gain]
end
theorem q0 (d : Nat) (a b : Int) (hb : b.natAbs < 1000) : rn (d + 1) 0 [.int a, .int b] = .ret (.int (Nat.gcd a.natAbs b.natAbs)) false [] := by
  show run fsd tkL gg (d + 1) 0 _ = _
  rw [run_at (fd := FD_cm) rfl rfl]
  exact cm_ok _ _ _ a b (Nat.lt_of_lt_of_le hb (Nat.le_trans (by decide +kernel : (1000 : Nat) ≤ 2 ^ 9000) lgg))
theorem q8 (d : Nat) (p : Q2) (h : rtB p = true) : rn (d + 2) 8 [rt p] = .ret (.bl true) false [] := by
  show run fsd tkL gg (d + 1 + 1) 8 _ = _
  rw [run_at (fd := I_is_ratio.fd) rfl rfl]
  exact ir_ok _ _ _ p h (q0 d p.1 p.2 (by have := rtB_ok h; omega))
theorem q9 (d : Nat) (p : Q2) (h : rtB p = true) (h1 : 0 ≤ p.1) (h2 : p.1 ≤ p.2) : rn (d + 3) 9 [rt p] = .ret (.bl true) false [] := by
  show run fsd tkL gg (d + 2 + 1) 9 _ = _
  rw [run_at (fd := I_is_chance.fd) rfl rfl]
  exact ic_ok _ _ _ p h1 h2 (q8 d p h)
theorem q10 (d : Nat) (p : Q2) (h : rtB p = true) : rn (d + 3) 10 [rt p] = .ret (.bl true) false [] := by
  show run fsd tkL gg (d + 2 + 1) 10 _ = _
  rw [run_at (fd := I_is_gain.fd) rfl rfl]
  exact ig_ok _ _ _ p h (q8 d p h)
/-! ### spreads -/
structure Sp (s : List Pr) : Prop where
  z1 : 1 ≤ s.length
  z4 : s.length ≤ 4
  g : ∀ p ∈ s, rtB p.1 = true
  c : ∀ p ∈ s, rtB p.2 = true ∧ 1 ≤ p.2.1 ∧ p.2.1 ≤ p.2.2
  r : s.Pairwise fun p q => rls p.1 q.1 = true
  t : sumR (0, 1) (s.map (·.2)) = (1, 1)
theorem rtB_bd {p : Q2} (h : rtB p = true) : bd 10 p := by
  obtain ⟨h1, h2, h3, h4⟩ := rtB_ok h
  exact ⟨by show p.1.natAbs < 1024; omega, by omega, by show p.2.natAbs < 1024; omega⟩
theorem Sp.gb {s : List Pr} (h : Sp s) {p : Pr} (hp : p ∈ s) : bd 10 p.1 := rtB_bd (h.g p hp)
theorem Sp.cb {s : List Pr} (h : Sp s) {p : Pr} (hp : p ∈ s) : bd 10 p.2 := rtB_bd (h.c p hp).1
theorem Sp.sg {s : List Pr} (h : Sp s) : sumG (0, 1) (s.map (·.2)) = true := by
  have hz := h.z4
  exact (sum_bd (k := 10) zero_bd (fun p hp => by
    obtain ⟨q, hq, rfl⟩ := List.mem_map.mp hp
    exact h.cb hq) (by rw [List.length_map]; omega) (by decide)).1
theorem asBools_all : ∀ (n : Nat), asBools (List.replicate n (.bl true)) = some (List.replicate n true)
  | 0 => rfl
  | n + 1 => by simp [List.replicate_succ, asBools, asBools_all n]
theorem all_rep (n : Nat) : biW .all [.lst (List.replicate n (.bl true))] = some (.bl true, false) := by
  show (asBools (List.replicate n (.bl true))).map _ = _
  rw [asBools_all]
  simp
theorem map_rep {α : Type} (l : List α) : l.map (fun _ => W.bl true) = List.replicate l.length (.bl true) := by
  induction l with
  | nil => rfl
  | cons a r ih => simp [ih, List.replicate_succ]
def Lsp0 : E := (.lc (.and (.isi (.var 2) .tuple) (.cmp .eq (.bi .len (.cons (.var 2) .nil)) (.con (.int 2)))) (.n 2) .nil .seq (.cons (.var 0) .nil) [2])
def Lsp1 : E := (.lc (.and (.call 10 [false] (.cons (.var 4) .nil)) (.and (.call 9 [false] (.cons (.var 3) .nil)) (.cmp .ne (.var 3) (.con (.tup [(.int 0), (.int 1)]))))) (.t (.cons (.n 4) (.cons (.n 3) .nil))) .nil .seq (.cons (.var 0) .nil) [4, 3])
def Lsp2 : E := (.lc (.call 5 [false, false] (.cons (.ix (.var 2) (.con (.int 0))) (.cons (.ix (.var 5) (.con (.int 0))) .nil))) (.t (.cons (.n 2) (.cons (.n 5) .nil))) .nil .zip (.cons (.var 0) (.cons (.slc (.var 0) true false (.con (.int 1)) .nil) .nil)) [2, 5])
def Lsp3 : E := (.lc (.var 3) (.t (.cons (.n 6) (.cons (.n 3) .nil))) .nil .seq (.cons (.var 0) .nil) [6, 3])
def T_sp (e0 e1 e2 e3 : E) : S := (.seq (.ite (.or (.not (.isi (.var 0) .tuple)) (.not (.bi .all (.cons e0 .nil)))) (.seq (.ret (.con (.bl false))) .nil) .nil) (.seq (.ite (.not (.bi .all (.cons e1 .nil))) (.seq (.ret (.con (.bl false))) .nil) .nil) (.seq (.asn 1 (.bi .all (.cons e2 .nil))) (.seq (.ret (.and (.var 1) (.cmp .eq (.call 7 [false] (.cons e3 .nil)) (.con (.tup [(.int 1), (.int 1)]))))) .nil))))
theorem T_sp_is : S_is_spread = T_sp Lsp0 Lsp1 Lsp2 Lsp3 := rfl
theorem cut_tl (l : List W) (a : Nat) : cut l (some (a : Int)) none = l.drop a := by
  unfold cut
  rw [HT.sIx_none, HT.sIx_nat]
  by_cases h : a ≤ l.length
  · rw [Nat.min_eq_left h, List.take_of_length_le (by simp)]
  · rw [Nat.min_eq_right (by omega), List.drop_eq_nil_of_le (Nat.le_refl _), List.drop_eq_nil_of_le (by omega), List.take_nil]
theorem zip2_map {α : Type} (u : α → W) : ∀ (l m : List α), zip2 (l.map u) (m.map u) = (l.zip m).map fun p => .tup [u p.1, u p.2]
  | [], _ => by simp [zip2]
  | _ :: _, [] => by simp [zip2]
  | a :: l, b :: m => by simp [zip2, zip2_map u l m]
theorem zip_pw {α : Type} {R : α → α → Prop} : ∀ {l : List α}, l.Pairwise R → ∀ p ∈ l.zip (l.drop 1), R p.1 p.2
  | [], _, p, hp => by simp at hp
  | [a], _, p, hp => by simp at hp
  | a :: b :: l, h, p, hp => by
    simp only [List.drop_succ_cons, List.drop_zero, List.zip_cons_cons, List.mem_cons] at hp
    have h' := List.pairwise_cons.mp h
    rcases hp with rfl | hp
    · exact h'.1 b List.mem_cons_self
    · exact zip_pw (l := b :: l) h'.2 p (by simpa using hp)
def e7 (w : W) (x1 : Y) : Py.Env := [some (w, .sh), x1, none, none, none, none, none]
section
variable {s : List Pr} (h : Sp s)
include h
theorem sp0 (C : Fn) : (ev C Lsp0).x (e7 (spW s) none) = .ok (.val (.lst (List.replicate s.length (.bl true))) true) (e7 (spW s) none) := by
  have e := lc_g1 (C := C) (elt := (.and (.isi (.var 2) .tuple) (.cmp .eq (.bi .len (.cons (.var 2) .nil)) (.con (.int 2))))) (t := .nil) (es := .cons (.var 0) .nil) (ρ := e7 (spW s) none) (ρL := e7 (spW s) none) (us := [.slot 0]) (K := .seq) (a := 2) (l := s) (u := prr) (k := fun _ => true) (f := fun _ => .bl true) (by show 2 < 7; decide) rfl rfl rfl rfl (by have := h.z4; omega) (fun p hp => by
    have h1 : biW .len [prr p] = some (.int 2, false) := rfl
    have h2 : isTy .tuple (prr p) = true := rfl
    unfold prr at h1 h2 ⊢
    generalize spW s = w
    simp [Py.xs, Py.ev, Py.SO.thn, Py.wOf, Py.l1, Py.l2, Py.lL, Py.ress, Py.res, Py.ofO, Py.bW, Py.trO, Py.truth, Py.isTy, Py.callW, Py.shM, Py.shr, Py.shrs, Py.ioW, Py.ioB, Py.ofE, Py.asA, Py.setN, Py.fixA, Py.asAs, Py.retA, Py.ofS, Py.ioE, Py.stepV, Py.stepE, Py.asP, Py.wpE, Py.rsE, Py.lkE, Py.lkE1, Py.ulE, Py.ulE1, e7, S1, h1, cmpeq2])
  rw [fil_t, map_rep] at e
  exact e
theorem sp1 (d : Nat) : (ev (rn (d + 6)) Lsp1).x (e7 (spW s) none) = .ok (.val (.lst (List.replicate s.length (.bl true))) true) (e7 (spW s) none) := by
  have e := lc_g2 (C := rn (d + 6)) (elt := (.and (.call 10 [false] (.cons (.var 4) .nil)) (.and (.call 9 [false] (.cons (.var 3) .nil)) (.cmp .ne (.var 3) (.con (.tup [(.int 0), (.int 1)])))))) (t := .nil) (es := .cons (.var 0) .nil) (ρ := e7 (spW s) none) (us := [.slot 0]) (K := .seq) (a := 4) (b := 3) (l := s) (u := fun p => rt p.1) (v := fun p => rt p.2) (k := fun _ => true) (f := fun _ => .bl true) (by decide) (by show 4 < 7; decide) (by show 3 < 7; decide) rfl rfl rfl (fun _ => rfl) (by have := h.z4; omega) (fun p hp => by
    have c1 := q10 (d + 3) p.1 (h.g p hp)
    obtain ⟨hc, hc1, hc2⟩ := h.c p hp
    have c2 := q9 (d + 3) p.2 hc (by omega) hc2
    have c3 : cmpW .ne (rt p.2) (.tup [.int 0, .int 1]) = some true := by
      show (if eqOk (rt p.2) (.tup [.int 0, .int 1]) then some (!eqW (rt p.2) (.tup [.int 0, .int 1])) else none) = _
      rw [if_pos (show eqOk (rt p.2) (.tup [.int 0, .int 1]) = true from rfl)]
      simp [rt, eqW, eqWs]
      omega
    have g1 := isD_rt p.1
    have g2 := isD_rt p.2
    generalize rt p.1 = w1 at *
    generalize rt p.2 = w2 at *
    generalize spW s = w
    generalize rn (d + 6) = C at *
    simp [Py.xs, Py.ev, Py.SO.thn, Py.wOf, Py.l1, Py.l2, Py.lL, Py.ress, Py.res, Py.ofO, Py.bW, Py.trO, Py.truth, Py.isTy, Py.callW, Py.shM, Py.shr, Py.shrs, Py.ioW, Py.ioB, Py.ofE, Py.asA, Py.setN, Py.fixA, Py.asAs, Py.retA, Py.ofS, Py.ioE, Py.stepV, Py.stepE, Py.asP, Py.wpE, Py.rsE, Py.lkE, Py.lkE1, Py.ulE, Py.ulE1, e7, S2, c1, c2, c3, g1, g2])
  rw [fil_t, map_rep] at e
  exact e
theorem sp2 {d : Nat} (hd : 6 ≤ d) : (ev (rn d) Lsp2).x (e7 (spW s) none) = .ok (.val (.lst (List.replicate (s.zip (s.drop 1)).length (.bl true))) true) (e7 (spW s) none) := by
  have hz := h.z4
  have har : (ev (rn d) (.cons (.var 0) (.cons (.slc (.var 0) true false (.con (.int 1)) .nil) .nil))).a (e7 (spW s) none) = .ok [.slot 0, .val (.tup ((s.drop 1).map prr)) false] (e7 (spW s) none) := by
    have c1 : slc1 (some 1) none (spW s) = some (.tup ((s.drop 1).map prr), false) := by
      show some (W.tup (cut (s.map prr) (some ((1 : Nat) : Int)) none), false) = _
      rw [cut_tl, List.map_drop]
    generalize rn d = C
    generalize spW s = w at *
    generalize (s.drop 1).map prr = z at *
    simp [Py.xs, Py.ev, Py.SO.thn, Py.wOf, Py.l1, Py.l2, Py.lL, Py.ress, Py.res, Py.ofO, Py.bW, Py.trO, Py.truth, Py.isTy, Py.callW, Py.shM, Py.shr, Py.shrs, Py.ioW, Py.ioB, Py.ofE, Py.asA, Py.setN, Py.fixA, Py.asAs, Py.retA, Py.ofS, Py.ioE, Py.stepV, Py.stepE, Py.asP, Py.wpE, Py.rsE, Py.lkE, Py.lkE1, Py.ulE, Py.ulE1, e7, c1, Py.part]
  have e := lc_g2 (C := rn d) (elt := (.call 5 [false, false] (.cons (.ix (.var 2) (.con (.int 0))) (.cons (.ix (.var 5) (.con (.int 0))) .nil)))) (t := .nil) (es := (.cons (.var 0) (.cons (.slc (.var 0) true false (.con (.int 1)) .nil) .nil))) (ρ := e7 (spW s) none) (us := [.slot 0, .val (.tup ((s.drop 1).map prr)) false]) (K := .zip) (a := 2) (b := 5) (l := s.zip (s.drop 1)) (u := fun p => prr p.1) (v := fun p => prr p.2) (k := fun _ => true) (f := fun _ => .bl true) (by decide) (by show 2 < 7; decide) (by show 5 < 7; decide) har
    (by show some (zip2 (s.map prr) ((s.drop 1).map prr)) = _; rw [zip2_map]) rfl (fun _ => rfl) (by rw [List.length_zip]; omega) (fun p hp => by
    have m1 := (List.of_mem_zip hp).1
    have m2 := List.mem_of_mem_drop (List.of_mem_zip hp).2
    have c1 := f5 hd ((h.gb m1).g (by decide)) ((h.gb m2).g (by decide))
    rw [zip_pw h.r p hp] at c1
    have g1 := isD_rt p.1.1
    have g2 := isD_rt p.2.1
    unfold prr
    generalize rt p.1.1 = w1 at *
    generalize rt p.1.2 = w2 at *
    generalize rt p.2.1 = w3 at *
    generalize rt p.2.2 = w4 at *
    generalize spW s = w
    generalize rn d = C at *
    simp [Py.xs, Py.ev, Py.SO.thn, Py.wOf, Py.l1, Py.l2, Py.lL, Py.ress, Py.res, Py.ofO, Py.bW, Py.trO, Py.truth, Py.isTy, Py.callW, Py.shM, Py.shr, Py.shrs, Py.ioW, Py.ioB, Py.ofE, Py.asA, Py.setN, Py.fixA, Py.asAs, Py.retA, Py.ofS, Py.ioE, Py.stepV, Py.stepE, Py.asP, Py.wpE, Py.rsE, Py.lkE, Py.lkE1, Py.ulE, Py.ulE1, e7, S2, c1, g1, g2, ixT0])
  rw [fil_t, map_rep] at e
  exact e
theorem sp3 (C : Fn) (x1 : Y) : (ev C Lsp3).x (e7 (spW s) x1) = .ok (.val (.lst ((s.map (·.2)).map rt)) true) (e7 (spW s) x1) := by
  have e := lc_g2 (C := C) (elt := .var 3) (t := .nil) (es := .cons (.var 0) .nil) (ρ := e7 (spW s) x1) (us := [.slot 0]) (K := .seq) (a := 6) (b := 3) (l := s) (u := fun p => rt p.1) (v := fun p => rt p.2) (k := fun _ => true) (f := fun p => rt p.2) (by decide) (by show 6 < 7; decide) (by show 3 < 7; decide) rfl rfl rfl (fun _ => rfl) (by have := h.z4; omega) (fun p hp => by
    generalize rt p.1 = w1
    have g2 := isD_rt p.2
    generalize rt p.2 = w2 at *
    generalize spW s = w
    simp [Py.xs, Py.ev, Py.SO.thn, Py.wOf, Py.l1, Py.l2, Py.lL, Py.ress, Py.res, Py.ofO, Py.bW, Py.trO, Py.truth, Py.isTy, Py.callW, Py.shM, Py.shr, Py.shrs, Py.ioW, Py.ioB, Py.ofE, Py.asA, Py.setN, Py.fixA, Py.asAs, Py.retA, Py.ofS, Py.ioE, Py.stepV, Py.stepE, Py.asP, Py.wpE, Py.rsE, Py.lkE, Py.lkE1, Py.ulE, Py.ulE1, e7, S2, g2])
  rw [fil_t] at e
  rw [List.map_map]
  exact e
theorem q12 (d : Nat) : rn (d + 7) 12 [spW s] = .ret (.bl true) false [] := by
  show run fsd tkL gg (d + 6 + 1) 12 _ = _
  rw [run_at (fd := I_is_spread.fd) rfl rfl]
  show ofS I_is_spread.fd (xs (rn (d + 6)) tkL gg S_is_spread (e7 (spW s) none)) = _
  rw [T_sp_is]
  have h0 := sp0 h (rn (d + 6))
  have h1 := sp1 h d
  have h2 := sp2 h (d := d + 6) (by omega)
  have h3 := sp3 h (rn (d + 6)) (some (.bl true, .sh))
  have h7 := f7 (d := d + 6) (by omega) h.sg
  rw [h.t] at h7
  have a1 := all_rep s.length
  have a2 := all_rep (s.zip (s.drop 1)).length
  have ho : cmpW .eq (rt (1, 1)) (.tup [.int 1, .int 1]) = some true := rfl
  have ht : isTy .tuple (spW s) = true := rfl
  unfold spW at *
  generalize rn (d + 6) = C at *
  generalize s.map prr = w at *
  generalize List.replicate s.length (W.bl true) = z1 at *
  generalize List.replicate (s.zip (s.drop 1)).length (W.bl true) = z2 at *
  generalize (s.map (·.2)).map rt = z3 at *
  unfold e7 at *
  simp [Py.xs, Py.ev, Py.SO.thn, Py.wOf, Py.l1, Py.l2, Py.lL, Py.ress, Py.res, Py.ofO, Py.bW, Py.trO, Py.truth, Py.isTy, Py.callW, Py.shM, Py.shr, Py.shrs, Py.ioW, Py.ioB, Py.ofE, Py.asA, Py.setN, Py.fixA, Py.asAs, Py.retA, Py.ofS, Py.ioE, Py.stepV, Py.stepE, Py.asP, Py.wpE, Py.rsE, Py.lkE, Py.lkE1, Py.ulE, Py.ulE1, T_sp, h0, h1, h2, h3, h7, a1, a2, ho, I_is_spread]
theorem q13 (d : Nat) : rn (d + 8) 13 [spW s] = .ret .non false [] := by
  have h1 := q12 h d
  show run fsd tkL gg (d + 7 + 1) 13 _ = _
  rw [run_at (fd := I_check_spread.fd) rfl rfl]
  show ofS I_check_spread.fd (xs (rn (d + 7)) tkL gg S_check_spread [some (spW s, .sh)]) = _
  have hd : isD (spW s) = false := rfl
  generalize rn (d + 7) = C at *
  generalize spW s = w at *
  simp [Py.xs, Py.ev, Py.SO.thn, Py.wOf, Py.l1, Py.l2, Py.lL, Py.ress, Py.res, Py.ofO, Py.bW, Py.trO, Py.truth, Py.isTy, Py.callW, Py.shM, Py.shr, Py.shrs, Py.ioW, Py.ioB, Py.ofE, Py.asA, Py.setN, Py.fixA, Py.asAs, Py.retA, Py.ofS, Py.ioE, Py.stepV, Py.stepE, Py.asP, Py.wpE, Py.rsE, Py.lkE, Py.lkE1, Py.ulE, Py.ulE1, S_check_spread, h1, hd, I_check_spread]
end
end K21

set_option exponentiation.threshold 10000
namespace K21
open PySem PySem.Spec PyProof.Rows L2 Py
/-! ### mean, variance, chance up to, short of -/
def meanL (s : List Pr) : List Q2 := s.map fun p => rtm p.1 p.2
def meanQ (s : List Pr) : Q2 := sumR (0, 1) (meanL s)
def varL (s : List Pr) (m : Q2) : List Q2 := s.map fun p => rtm p.2 (rtm (rmi p.1 m) (rmi p.1 m))
def upL (s : List Pr) (z : Q2) : List Q2 := (s.filter fun p => !rls z p.1).map (·.2)
def upQ (s : List Pr) (z : Q2) : Q2 := sumR (0, 1) (upL s z)
def shL (s : List Pr) (z : Q2) : List Q2 := (s.filter fun p => rls p.1 z).map fun p => rtm p.2 (rmi z p.1)
theorem call1 {C : Fn} {L : E} {ρ : Py.Env} {w r : W} {fr fr2 : Bool} {j : Nat} (e : (ev C L).x ρ = .ok (.val w fr) ρ) (hw : isD w = false) (hs : C j [w] = .ret r fr2 []) : (ev C (.call j [false] (.cons L .nil))).x ρ = .ok (.val r fr2) ρ := by
  simp [ev, e, callW, shM, shr, hw, ioW, ioB, hs]
theorem ret_v {C : Fn} {tk : Tk} {g : Nat} {L : E} {ρ : Py.Env} {w : W} {fr : Bool} (e : (ev C L).x ρ = .ok (.val w fr) ρ) : xs C tk g (.seq (.ret L) .nil) ρ = .rt w fr ρ := by
  simp [xs, e, SO.thn, retA]
section
variable {s : List Pr} (h : Sp s)
include h
theorem mean_sz : sumG (0, 1) (meanL s) = true ∧ bd 100 (meanQ s) := by
  have hz := h.z4
  obtain ⟨h1, h2⟩ := sum_bd (k := 20) (l := meanL s) zero_bd (fun p hp => by
    obtain ⟨q, hq, rfl⟩ := List.mem_map.mp hp
    exact rtm_bd (h.gb hq) (h.cb hq)) (by unfold meanL; rw [List.length_map]; omega) (by decide)
  exact ⟨h1, h2.up (by unfold meanL; rw [List.length_map]; omega)⟩
theorem dif_bd {p : Pr} (hp : p ∈ s) : bd 111 (rmi p.1 (meanQ s)) := rmi_bd (h.gb hp) (mean_sz h).2
theorem var_sz : sumG (0, 1) (varL s (meanQ s)) = true ∧ bd 1000 (sumR (0, 1) (varL s (meanQ s))) := by
  have hz := h.z4
  obtain ⟨h1, h2⟩ := sum_bd (k := 232) (l := varL s (meanQ s)) zero_bd (fun p hp => by
    obtain ⟨q, hq, rfl⟩ := List.mem_map.mp hp
    exact rtm_bd (h.cb hq) (rtm_bd (dif_bd h hq) (dif_bd h hq))) (by unfold varL; rw [List.length_map]; omega) (by decide)
  exact ⟨h1, h2.up (by unfold varL; rw [List.length_map]; omega)⟩
theorem up_sz (z : Q2) : sumG (0, 1) (upL s z) = true ∧ bd 60 (upQ s z) := by
  have hz := h.z4
  have hl : (upL s z).length ≤ s.length := by unfold upL; rw [List.length_map]; exact List.length_filter_le _ _
  have hm : (upL s z).length * 11 ≤ 4 * 11 := Nat.mul_le_mul_right _ (by omega)
  obtain ⟨h1, h2⟩ := sum_bd (k := 10) (l := upL s z) zero_bd (fun p hp => by
    obtain ⟨q, hq, rfl⟩ := List.mem_map.mp hp
    exact h.cb ((List.mem_filter.mp hq).1)) (by omega) (by decide)
  exact ⟨h1, h2.up (by omega)⟩
theorem sh_sz {z : Q2} (bz : bd 10 z) : sumG (0, 1) (shL s z) = true := by
  have hz := h.z4
  have hl : (shL s z).length ≤ s.length := by unfold shL; rw [List.length_map]; exact List.length_filter_le _ _
  have hm : (shL s z).length * 32 ≤ 4 * 32 := Nat.mul_le_mul_right _ (by omega)
  exact (sum_bd (k := 31) (l := shL s z) zero_bd (fun p hp => by
    obtain ⟨q, hq, rfl⟩ := List.mem_map.mp hp
    exact rtm_bd (h.cb ((List.mem_filter.mp hq).1)) (rmi_bd bz (h.gb ((List.mem_filter.mp hq).1)))) (by omega) (by decide)).1
def cMean (i j a b : Nat) : E := (.lc (.call j [false, false] (.cons (.var a) (.cons (.var b) .nil))) (.t (.cons (.n a) (.cons (.n b) .nil))) .nil .seq (.cons (.var i) .nil) [a, b])
theorem rtB_g {p : Q2} (h : rtB p = true) : gR p = true := (rtB_bd h).g (by decide)
theorem q15 {d : Nat} (hd : 8 ≤ d) : rn d 15 [spW s] = .ret (rt (meanQ s)) false [] := by
  obtain ⟨d, rfl⟩ : ∃ e, d = e + 1 := ⟨d - 1, by omega⟩
  have hd6 : 6 ≤ d := by omega
  have hs := f7 (d := d) hd6 (mean_sz h).1
  have e := lc_g2 (C := rn d) (elt := (.call 4 [false, false] (.cons (.var 2) (.cons (.var 1) .nil)))) (t := .nil) (es := .cons (.var 0) .nil) (ρ := [some (spW s, .sh), none, none]) (us := [.slot 0]) (K := .seq) (a := 2) (b := 1) (l := s) (u := fun p => rt p.1) (v := fun p => rt p.2) (k := fun _ => true) (f := fun p => rt (rtm p.1 p.2)) (by decide) (by simp) (by simp) rfl rfl rfl (fun _ => rfl) (by have := h.z4; omega) (fun p hp => by
    have c1 := f4 hd6 ((h.gb hp).g (by decide)) ((h.cb hp).g (by decide))
    have g1 := isD_rt p.1
    have g2 := isD_rt p.2
    have g3 := isD_rt (rtm p.1 p.2)
    generalize rt (rtm p.1 p.2) = w3 at *
    generalize rt p.1 = w1 at *
    generalize rt p.2 = w2 at *
    generalize spW s = w
    generalize rn d = C at *
    simp [Py.xs, Py.ev, Py.SO.thn, Py.wOf, Py.l1, Py.l2, Py.lL, Py.ress, Py.res, Py.ofO, Py.bW, Py.trO, Py.truth, Py.isTy, Py.callW, Py.shM, Py.shr, Py.shrs, Py.ioW, Py.ioB, Py.ofE, Py.asA, Py.setN, Py.fixA, Py.asAs, Py.retA, Py.ofS, Py.ioE, Py.stepV, Py.stepE, Py.asP, Py.wpE, Py.rsE, Py.lkE, Py.lkE1, Py.ulE, Py.ulE1, S2, c1, g1, g2, g3])
  rw [fil_t] at e
  have el : s.map (fun p => rt (rtm p.1 p.2)) = (meanL s).map rt := by simp [meanL, Function.comp_def]
  rw [el] at e
  show run fsd tkL gg (d + 1) 15 _ = _
  rw [run_at (fd := I_mean_of.fd) rfl rfl]
  show ofS I_mean_of.fd (xs (rn d) tkL gg (.seq (.ret (.call 7 [false] (.cons _ .nil))) .nil) [some (spW s, .sh), none, none]) = _
  rw [ret_v (call1 e rfl hs)]
  rfl
theorem q16 {d : Nat} (hd : 9 ≤ d) : rn d 16 [spW s] = .ret (rt (sumR (0, 1) (varL s (meanQ s)))) false [] := by
  obtain ⟨d, rfl⟩ : ∃ e, d = e + 1 := ⟨d - 1, by omega⟩
  have hd6 : 6 ≤ d := by omega
  have hs := f7 (d := d) hd6 (var_sz h).1
  have h15 := q15 h (d := d) (by omega)
  have mb := (mean_sz h).2
  have e := lc_g2 (C := rn d) (elt := (.call 4 [false, false] (.cons (.var 2) (.cons (.call 4 [false, false] (.cons (.call 3 [false, false] (.cons (.var 3) (.cons (.var 1) .nil))) (.cons (.call 3 [false, false] (.cons (.var 3) (.cons (.var 1) .nil))) .nil))) .nil)))) (t := .nil) (es := .cons (.var 0) .nil) (ρ := [some (spW s, .sh), some (rt (meanQ s), .sh), none, none]) (us := [.slot 0]) (K := .seq) (a := 3) (b := 2) (l := s) (u := fun p => rt p.1) (v := fun p => rt p.2) (k := fun _ => true) (f := fun p => rt (rtm p.2 (rtm (rmi p.1 (meanQ s)) (rmi p.1 (meanQ s))))) (by decide) (by simp) (by simp) rfl rfl rfl (fun _ => rfl) (by have := h.z4; omega) (fun p hp => by
    have db := dif_bd h hp
    have c1 := f3 hd6 ((h.gb hp).g (by decide)) (mb.g (by decide))
    have c2 := f4 hd6 (db.g (by decide)) (db.g (by decide))
    have c3 := f4 hd6 ((h.cb hp).g (by decide)) ((rtm_bd db db).g (by decide))
    have g1 := isD_rt p.1
    have g2 := isD_rt p.2
    have g3 := isD_rt (meanQ s)
    have g4 := isD_rt (rmi p.1 (meanQ s))
    have g5 := isD_rt (rtm (rmi p.1 (meanQ s)) (rmi p.1 (meanQ s)))
    have g6 := isD_rt (rtm p.2 (rtm (rmi p.1 (meanQ s)) (rmi p.1 (meanQ s))))
    generalize rt (rtm p.2 (rtm (rmi p.1 (meanQ s)) (rmi p.1 (meanQ s)))) = w6 at *
    generalize rt (rtm (rmi p.1 (meanQ s)) (rmi p.1 (meanQ s))) = w5 at *
    generalize rt (rmi p.1 (meanQ s)) = w4 at *
    generalize rt (meanQ s) = w3 at *
    generalize rt p.1 = w1 at *
    generalize rt p.2 = w2 at *
    generalize spW s = w
    generalize rn d = C at *
    simp [Py.xs, Py.ev, Py.SO.thn, Py.wOf, Py.l1, Py.l2, Py.lL, Py.ress, Py.res, Py.ofO, Py.bW, Py.trO, Py.truth, Py.isTy, Py.callW, Py.shM, Py.shr, Py.shrs, Py.ioW, Py.ioB, Py.ofE, Py.asA, Py.setN, Py.fixA, Py.asAs, Py.retA, Py.ofS, Py.ioE, Py.stepV, Py.stepE, Py.asP, Py.wpE, Py.rsE, Py.lkE, Py.lkE1, Py.ulE, Py.ulE1, S2, c1, c2, c3, g1, g2, g3, g4, g5, g6])
  rw [fil_t] at e
  have el : s.map (fun p => rt (rtm p.2 (rtm (rmi p.1 (meanQ s)) (rmi p.1 (meanQ s))))) = (varL s (meanQ s)).map rt := by simp [varL, Function.comp_def]
  rw [el] at e
  have h1 : xs (rn d) tkL gg (.asn 1 (.call 15 [false] (.cons (.var 0) .nil))) [some (spW s, .sh), none, none, none] = .nx [some (spW s, .sh), some (rt (meanQ s), .sh), none, none] := by
    have g0 : isD (spW s) = false := rfl
    generalize rt (meanQ s) = mw at *
    generalize rn d = C at *
    generalize spW s = w at *
    simp [Py.xs, Py.ev, Py.SO.thn, Py.wOf, Py.l1, Py.l2, Py.lL, Py.ress, Py.res, Py.ofO, Py.bW, Py.trO, Py.truth, Py.isTy, Py.callW, Py.shM, Py.shr, Py.shrs, Py.ioW, Py.ioB, Py.ofE, Py.asA, Py.setN, Py.fixA, Py.asAs, Py.retA, Py.ofS, Py.ioE, Py.stepV, Py.stepE, Py.asP, Py.wpE, Py.rsE, Py.lkE, Py.lkE1, Py.ulE, Py.ulE1, h15, g0]
  show run fsd tkL gg (d + 1) 16 _ = _
  rw [run_at (fd := I_variance_of.fd) rfl rfl]
  show ofS I_variance_of.fd (xs (rn d) tkL gg (.seq (.asn 1 (.call 15 [false] (.cons (.var 0) .nil))) (.seq (.ret (.call 7 [false] (.cons _ .nil))) .nil)) [some (spW s, .sh), none, none, none]) = _
  rw [seq_nx h1, ret_v (call1 e rfl hs)]
  rfl
theorem q17 {d : Nat} (hd : 8 ≤ d) {z : Q2} (bz : bd 10 z) : rn d 17 [spW s, rt z] = .ret (rt (upQ s z)) false [] := by
  obtain ⟨d, rfl⟩ : ∃ e, d = e + 1 := ⟨d - 1, by omega⟩
  have hd6 : 6 ≤ d := by omega
  have hs := f7 (d := d) hd6 (up_sz h z).1
  have e := lc_g2 (C := rn d) (elt := .var 2) (t := (.not (.call 5 [false, false] (.cons (.var 1) (.cons (.var 3) .nil))))) (es := .cons (.var 0) .nil) (ρ := [some (spW s, .sh), some (rt z, .sh), none, none]) (us := [.slot 0]) (K := .seq) (a := 3) (b := 2) (l := s) (u := fun p => rt p.1) (v := fun p => rt p.2) (k := fun p => !rls z p.1) (f := fun p => rt p.2) (by decide) (by simp) (by simp) rfl rfl rfl (fun _ => rfl) (by have := h.z4; omega) (fun p hp => by
    have c1 := f5 hd6 (bz.g (by decide)) ((h.gb hp).g (by decide))
    have g1 := isD_rt p.1
    have g2 := isD_rt p.2
    have g3 := isD_rt z
    generalize rls z p.1 = b at *
    generalize rt z = w3 at *
    generalize rt p.1 = w1 at *
    generalize rt p.2 = w2 at *
    generalize spW s = w
    generalize rn d = C at *
    cases b <;> simp [Py.xs, Py.ev, Py.SO.thn, Py.wOf, Py.l1, Py.l2, Py.lL, Py.ress, Py.res, Py.ofO, Py.bW, Py.trO, Py.truth, Py.isTy, Py.callW, Py.shM, Py.shr, Py.shrs, Py.ioW, Py.ioB, Py.ofE, Py.asA, Py.setN, Py.fixA, Py.asAs, Py.retA, Py.ofS, Py.ioE, Py.stepV, Py.stepE, Py.asP, Py.wpE, Py.rsE, Py.lkE, Py.lkE1, Py.ulE, Py.ulE1, S2, c1, g1, g2, g3])
  have el : (s.filter fun p => !rls z p.1).map (fun p => rt p.2) = (upL s z).map rt := by simp [upL, Function.comp_def]
  rw [el] at e
  show run fsd tkL gg (d + 1) 17 _ = _
  rw [run_at (fd := I_chance_up_to.fd) rfl rfl]
  show ofS I_chance_up_to.fd (xs (rn d) tkL gg (.seq (.ret (.call 7 [false] (.cons _ .nil))) .nil) [some (spW s, .sh), some (rt z, .sh), none, none]) = _
  rw [ret_v (call1 e rfl hs)]
  rfl
theorem q18 {d : Nat} (hd : 8 ≤ d) {z : Q2} (bz : bd 10 z) : rn d 18 [spW s, rt z] = .ret (rt (sumR (0, 1) (shL s z))) false [] := by
  obtain ⟨d, rfl⟩ : ∃ e, d = e + 1 := ⟨d - 1, by omega⟩
  have hd6 : 6 ≤ d := by omega
  have hs := f7 (d := d) hd6 (sh_sz h bz)
  have e := lc_g2 (C := rn d) (elt := (.call 4 [false, false] (.cons (.var 2) (.cons (.call 3 [false, false] (.cons (.var 1) (.cons (.var 3) .nil))) .nil)))) (t := (.call 5 [false, false] (.cons (.var 3) (.cons (.var 1) .nil)))) (es := .cons (.var 0) .nil) (ρ := [some (spW s, .sh), some (rt z, .sh), none, none]) (us := [.slot 0]) (K := .seq) (a := 3) (b := 2) (l := s) (u := fun p => rt p.1) (v := fun p => rt p.2) (k := fun p => rls p.1 z) (f := fun p => rt (rtm p.2 (rmi z p.1))) (by decide) (by simp) (by simp) rfl rfl rfl (fun _ => rfl) (by have := h.z4; omega) (fun p hp => by
    have c1 := f5 hd6 ((h.gb hp).g (by decide)) (bz.g (by decide))
    have c2 := f3 hd6 (bz.g (by decide)) ((h.gb hp).g (by decide))
    have c3 := f4 hd6 ((h.cb hp).g (by decide)) ((rmi_bd bz (h.gb hp)).g (by decide))
    have g1 := isD_rt p.1
    have g2 := isD_rt p.2
    have g3 := isD_rt z
    have g4 := isD_rt (rmi z p.1)
    have g5 := isD_rt (rtm p.2 (rmi z p.1))
    generalize rls p.1 z = b at *
    generalize rt (rtm p.2 (rmi z p.1)) = w5 at *
    generalize rt (rmi z p.1) = w4 at *
    generalize rt z = w3 at *
    generalize rt p.1 = w1 at *
    generalize rt p.2 = w2 at *
    generalize spW s = w
    generalize rn d = C at *
    cases b <;> simp [Py.xs, Py.ev, Py.SO.thn, Py.wOf, Py.l1, Py.l2, Py.lL, Py.ress, Py.res, Py.ofO, Py.bW, Py.trO, Py.truth, Py.isTy, Py.callW, Py.shM, Py.shr, Py.shrs, Py.ioW, Py.ioB, Py.ofE, Py.asA, Py.setN, Py.fixA, Py.asAs, Py.retA, Py.ofS, Py.ioE, Py.stepV, Py.stepE, Py.asP, Py.wpE, Py.rsE, Py.lkE, Py.lkE1, Py.ulE, Py.ulE1, S2, c1, c2, c3, g1, g2, g3, g4, g5])
  have el : (s.filter fun p => rls p.1 z).map (fun p => rt (rtm p.2 (rmi z p.1))) = (shL s z).map rt := by simp [shL, Function.comp_def]
  rw [el] at e
  show run fsd tkL gg (d + 1) 18 _ = _
  rw [run_at (fd := I_short_of.fd) rfl rfl]
  show ofS I_short_of.fd (xs (rn d) tkL gg (.seq (.ret (.call 7 [false] (.cons _ .nil))) .nil) [some (spW s, .sh), some (rt z, .sh), none, none]) = _
  rw [ret_v (call1 e rfl hs)]
  rfl
end
end K21

set_option exponentiation.threshold 10000
namespace K21
open PySem PySem.Spec PyProof.Rows L2 Py
/-! ### level_of -/
def lvB : S := (.seq (.ite (.not (.call 5 [false, false] (.cons (.call 17 [false, false] (.cons (.var 0) (.cons (.var 2) .nil))) (.cons (.var 1) .nil)))) (.seq (.ret (.var 2)) .nil) .nil) .nil)
theorem lv_body (C : Fn) (tk : Tk) (g : Nat) (sw lw gw cw uw : W) (b : Bool) (d1 : isD sw = false) (d2 : isD gw = false) (d3 : isD lw = false) (d4 : isD uw = false) (h1 : C 17 [sw, gw] = .ret uw false []) (h2 : C 5 [uw, lw] = .ret (.bl b) false []) :
    xs C tk g lvB [some (sw, .sh), some (lw, .sh), some (gw, .sh), some (cw, .sh)] = if b then .nx [some (sw, .sh), some (lw, .sh), some (gw, .sh), some (cw, .sh)] else .rt gw false [some (sw, .sh), some (lw, .sh), some (gw, .sh), some (cw, .sh)] := by
  cases b <;> simp [Py.xs, Py.ev, Py.SO.thn, Py.wOf, Py.l1, Py.l2, Py.lL, Py.ress, Py.res, Py.ofO, Py.bW, Py.trO, Py.truth, Py.isTy, Py.callW, Py.shM, Py.shr, Py.shrs, Py.ioW, Py.ioB, Py.ofE, Py.asA, Py.setN, Py.fixA, Py.asAs, Py.retA, Py.ofS, Py.ioE, Py.stepV, Py.stepE, Py.asP, Py.wpE, Py.rsE, Py.lkE, Py.lkE1, Py.ulE, Py.ulE1, lvB, h1, h2, d1, d2, d3, d4]
section
variable {s : List Pr} (h : Sp s)
include h
theorem lv_loop {d : Nat} (hd : 8 ≤ d) {lv : Q2} (bl : bd 10 lv) : ∀ (l : List Pr) (x y : Y), (∀ p ∈ l, p ∈ s) → (plainS x && plainS y) = true → ∀ p0 r, (l.filter fun p => !rls (upQ s p.1) lv) = p0 :: r →
    ∃ ρ', forL (stF (rn d) tkL gg (.t (.cons (.n 2) (.cons (.n 3) .nil))) lvB) (l.map prr) [some (spW s, .sh), some (rt lv, .sh), x, y] = .rt (rt p0.1) false ρ'
  | [], x, y, _, _, p0, r, e => by simp at e
  | p :: l, x, y, hs, hp, p0, r, e => by
    obtain ⟨p1, p2⟩ := Bool.and_eq_true_iff.mp hp
    have hm := hs p List.mem_cons_self
    have ea : asP (.t (.cons (.n 2) (.cons (.n 3) .nil))) (prr p) [some (spW s, .sh), some (rt lv, .sh), x, y] = some [some (spW s, .sh), some (rt lv, .sh), some (rt p.1, .sh), some (rt p.2, .sh)] := by
      match x, y, p1, p2 with
      | none, none, _, _ => rfl
      | some (_, .sh), none, _, _ => rfl
      | none, some (_, .sh), _, _ => rfl
      | some (_, .sh), some (_, .sh), _, _ => rfl
    have hb := lv_body (rn d) tkL gg (spW s) (rt lv) (rt p.1) (rt p.2) _ _ rfl rfl rfl rfl (q17 h hd (h.gb hm)) (f5 (by omega) ((up_sz h p.1).2.g (by decide)) (bl.g (by decide)))
    cases hk : rls (upQ s p.1) lv with
    | true =>
      rw [hk] at hb
      rw [List.filter_cons, hk] at e
      obtain ⟨ρ', h2⟩ := lv_loop hd bl l (some (rt p.1, .sh)) (some (rt p.2, .sh)) (fun q hq => hs q (List.mem_cons_of_mem _ hq)) rfl p0 r (by simpa using e)
      refine ⟨ρ', ?_⟩
      simp only [List.map_cons, forL, stF_ok ea, hb, if_true]
      exact h2
    | false =>
      rw [hk] at hb
      rw [List.filter_cons, hk] at e
      have e0 : p = p0 := by simp at e; exact e.1
      subst e0
      exact ⟨_, by simp only [List.map_cons, forL, stF_ok ea, hb, Bool.false_eq_true, if_false]; rfl⟩
theorem q22 {d : Nat} (hd : 9 ≤ d) {lv : Q2} (bl : bd 10 lv) {p0 : Pr} {r : List Pr} (e : (s.filter fun p => !rls (upQ s p.1) lv) = p0 :: r) : rn d 22 [spW s, rt lv] = .ret (rt p0.1) false [] := by
  obtain ⟨d, rfl⟩ : ∃ e, d = e + 1 := ⟨d - 1, by omega⟩
  obtain ⟨ρ', h2⟩ := lv_loop h (d := d) (by omega) bl s none none (fun _ h => h) rfl p0 r e
  have hf : xs (rn d) tkL gg (.for_ (.t (.cons (.n 2) (.cons (.n 3) .nil))) .seq (.cons (.var 0) .nil) lvB) [some (spW s, .sh), some (rt lv, .sh), none, none] = .rt (rt p0.1) false ρ' := by
    rw [for_ok (ρ1 := [some (spW s, .sh), some (rt lv, .sh), none, none]) (us := [.slot 0]) (its := s.map prr) rfl rfl]
    refine (congrArg (SO.mapE _) h2).trans rfl
  show run fsd tkL gg (d + 1) 22 _ = _
  rw [run_at (fd := I_level_of.fd) rfl rfl]
  show ofS I_level_of.fd (xs (rn d) tkL gg (.seq (.for_ (.t (.cons (.n 2) (.cons (.n 3) .nil))) .seq (.cons (.var 0) .nil) lvB) _) [some (spW s, .sh), some (rt lv, .sh), none, none]) = _
  rw [seq_rt hf]
  rfl
end
/-! ### in_size -/
def insK (p : Pr) (l : List Pr) : Nat := (l.filter fun q => rls q.1 p.1).length
def insS (l : List Pr) (p : Pr) : List Pr := l.take (insK p l) ++ p :: l.drop (insK p l)
theorem insK_le (p : Pr) (l : List Pr) : insK p l ≤ l.length := List.length_filter_le _ _
theorem insS_len (l : List Pr) (p : Pr) : (insS l p).length = l.length + 1 := by
  have := insK_le p l
  unfold insS
  simp
  omega
def Lsz : E := (.lc (.var 4) (.n 4) (.call 5 [false, false] (.cons (.ix (.var 4) (.con (.int 0))) (.cons (.ix (.var 2) (.con (.int 0))) .nil))) .seq (.cons (.var 1) .nil) [4])
def szB (e0 : E) : S := (.seq (.asn 3 (.bi .len (.cons e0 .nil))) (.seq (.mut .insert 1 (.cons (.var 3) (.cons (.var 2) .nil))) .nil))
theorem S_in_size_is : S_in_size = .seq (.asn 1 (.lst .nil)) (.seq (.for_ (.n 2) .seq (.cons (.var 0) .nil) (szB Lsz)) (.seq (.ret (.bi .tuple (.cons (.var 1) .nil))) .nil)) := rfl
/-- the gains are small -/
def Gs (l : List Pr) : Prop := ∀ p ∈ l, gR p.1 = true
theorem sz_body {d : Nat} (hd : 6 ≤ d) (l : List Pr) (hl : Gs l) (hz : l.length ≤ 100) (p : Pr) (hp : gR p.1 = true) (pw : W) (x : Y) (hx : plainS x = true) :
    xs (rn d) tkL gg (szB Lsz) [some (pw, .sh), some (.lst (l.map prr), .own), some (prr p, .sh), x, none] = .nx [some (pw, .sh), some (.lst ((insS l p).map prr), .own), some (prr p, .sh), some (.int (insK p l), .sh), none] := by
  have e := lc_g1 (C := rn d) (elt := .var 4) (t := (.call 5 [false, false] (.cons (.ix (.var 4) (.con (.int 0))) (.cons (.ix (.var 2) (.con (.int 0))) .nil)))) (es := .cons (.var 1) .nil) (ρ := [some (pw, .sh), some (.lst (l.map prr), .own), some (prr p, .sh), x, none]) (ρL := [some (pw, .sh), some (.lst (l.map prr), .ownL), some (prr p, .sh), x, none]) (us := [.slot 1]) (K := .seq) (a := 4) (l := l) (u := prr) (k := fun q => rls q.1 p.1) (f := prr) (by simp) rfl rfl rfl rfl (by omega) (fun q hq => by
    have c1 := f5 hd (hl q hq) hp
    have g1 := isD_rt p.1
    have g2 := isD_rt q.1
    have g3 := isD_rt q.2
    unfold prr
    generalize rls q.1 p.1 = b at *
    generalize rt p.1 = w1 at *
    generalize rt q.1 = w2 at *
    generalize rt q.2 = w3 at *
    generalize rt p.2 = w4
    generalize rn d = C at *
    generalize (l.map fun p => W.tup [rt p.1, rt p.2]) = z
    cases b <;> simp [Py.xs, Py.ev, Py.SO.thn, Py.wOf, Py.l1, Py.l2, Py.lL, Py.ress, Py.res, Py.ofO, Py.bW, Py.trO, Py.truth, Py.isTy, Py.callW, Py.shM, Py.shr, Py.shrs, Py.ioW, Py.ioB, Py.ofE, Py.asA, Py.setN, Py.fixA, Py.asAs, Py.retA, Py.ofS, Py.ioE, Py.stepV, Py.stepE, Py.asP, Py.wpE, Py.rsE, Py.lkE, Py.lkE1, Py.ulE, Py.ulE1, S1, c1, g1, g2, g3, ixT0])
  have hn : biW .len [.lst ((l.filter fun q => rls q.1 p.1).map prr)] = some (.int (insK p l), false) := by
    show some (W.int (((l.filter fun q => rls q.1 p.1).map prr).length : Nat), false) = _
    rw [List.length_map]
    rfl
  have hi : mutW .insert (.lst (l.map prr)) [.int (insK p l), prr p] = some (.lst ((insS l p).map prr)) := by
    have := insK_le p l
    show (if (l.map prr).length < szL ∧ (0 : Int) ≤ (insK p l : Int) ∧ (insK p l : Int) ≤ (l.map prr).length then some (W.lst ((l.map prr).take (insK p l : Int).toNat ++ prr p :: (l.map prr).drop (insK p l : Int).toNat)) else none) = _
    rw [if_pos ⟨by rw [List.length_map]; unfold szL; omega, by omega, by rw [List.length_map]; omega⟩]
    unfold insS
    rw [List.map_append, List.map_cons, List.map_take, List.map_drop]
    rfl
  have hk : mutOk (some (.lst (l.map prr), .own)) = true := rfl
  have g1 := isD_prr p
  unfold szB
  have h1 : xs (rn d) tkL gg (.asn 3 (.bi .len (.cons Lsz .nil))) [some (pw, .sh), some (.lst (l.map prr), .own), some (prr p, .sh), x, none] = .nx [some (pw, .sh), some (.lst (l.map prr), .own), some (prr p, .sh), some (.int (insK p l), .sh), none] := by
    have e : (ev (rn d) Lsz).x [some (pw, .sh), some (.lst (l.map prr), .own), some (prr p, .sh), x, none] = _ := e
    generalize Lsz = L at *
    generalize (l.filter fun q => rls q.1 p.1).map prr = z at *
    generalize (insK p l : Int) = n at *
    match x, hx with
    | none, _ => simp [Py.xs, Py.ev, Py.SO.thn, Py.wOf, Py.l1, Py.l2, Py.lL, Py.ress, Py.res, Py.ofO, Py.bW, Py.trO, Py.truth, Py.isTy, Py.callW, Py.shM, Py.shr, Py.shrs, Py.ioW, Py.ioB, Py.ofE, Py.asA, Py.setN, Py.fixA, Py.asAs, Py.retA, Py.ofS, Py.ioE, Py.stepV, Py.stepE, Py.asP, Py.wpE, Py.rsE, Py.lkE, Py.lkE1, Py.ulE, Py.ulE1, e, hn]
    | some (u, .sh), _ => simp [Py.xs, Py.ev, Py.SO.thn, Py.wOf, Py.l1, Py.l2, Py.lL, Py.ress, Py.res, Py.ofO, Py.bW, Py.trO, Py.truth, Py.isTy, Py.callW, Py.shM, Py.shr, Py.shrs, Py.ioW, Py.ioB, Py.ofE, Py.asA, Py.setN, Py.fixA, Py.asAs, Py.retA, Py.ofS, Py.ioE, Py.stepV, Py.stepE, Py.asP, Py.wpE, Py.rsE, Py.lkE, Py.lkE1, Py.ulE, Py.ulE1, e, hn]
  rw [seq_nx h1]
  generalize (insS l p).map prr = z2 at *
  generalize (l.map prr) = z1 at *
  generalize (insK p l : Int) = n at *
  generalize prr p = pp at *
  simp [Py.xs, Py.ev, Py.SO.thn, Py.wOf, Py.l1, Py.l2, Py.lL, Py.ress, Py.res, Py.ofO, Py.bW, Py.trO, Py.truth, Py.isTy, Py.callW, Py.shM, Py.shr, Py.shrs, Py.ioW, Py.ioB, Py.ofE, Py.asA, Py.setN, Py.fixA, Py.asAs, Py.retA, Py.ofS, Py.ioE, Py.stepV, Py.stepE, Py.asP, Py.wpE, Py.rsE, Py.lkE, Py.lkE1, Py.ulE, Py.ulE1, hk, mutE, hi, g1]
theorem sz_loop {d : Nat} (hd : 6 ≤ d) (pw : W) : ∀ (ps l : List Pr) (x y : Y), Gs ps → Gs l → l.length + ps.length ≤ 100 → (plainS x && plainS y) = true →
    ∃ x' y', forL (stF (rn d) tkL gg (.n 2) (szB Lsz)) (ps.map prr) [some (pw, .sh), some (.lst (l.map prr), .own), x, y, none] = .nx [some (pw, .sh), some (.lst ((ps.foldl insS l).map prr), .own), x', y', none]
  | [], l, x, y, _, _, _, _ => ⟨x, y, rfl⟩
  | p :: ps, l, x, y, hp, hl, hz, hxy => by
    obtain ⟨p1, p2⟩ := Bool.and_eq_true_iff.mp hxy
    simp only [List.length_cons] at hz
    have ea : asP (.n 2) (prr p) [some (pw, .sh), some (.lst (l.map prr), .own), x, y, none] = some [some (pw, .sh), some (.lst (l.map prr), .own), some (prr p, .sh), y, none] := by
      match x, p1 with
      | none, _ => rfl
      | some (_, .sh), _ => rfl
    have hb := sz_body hd l hl (by omega) p (hp p List.mem_cons_self) pw y p2
    have hl2 : Gs (insS l p) := fun q hq => by
      unfold insS at hq
      rcases List.mem_append.mp hq with hq | hq
      · exact hl q (List.mem_of_mem_take hq)
      · rcases List.mem_cons.mp hq with rfl | hq
        · exact hp _ List.mem_cons_self
        · exact hl q (List.mem_of_mem_drop hq)
    obtain ⟨x', y', e⟩ := sz_loop hd pw ps (insS l p) (some (prr p, .sh)) (some (.int (insK p l), .sh)) (fun q hq => hp q (List.mem_cons_of_mem _ hq)) hl2 (by rw [insS_len]; omega) rfl
    refine ⟨x', y', ?_⟩
    simp only [List.map_cons, forL, stF_ok ea, hb]
    exact e
theorem q11 {d : Nat} (hd : 7 ≤ d) (ps : List Pr) (hp : Gs ps) (hz : ps.length ≤ 100) : rn d 11 [.lst (ps.map prr)] = .ret (.tup ((ps.foldl insS []).map prr)) false [] := by
  obtain ⟨d, rfl⟩ : ∃ e, d = e + 1 := ⟨d - 1, by omega⟩
  obtain ⟨x, y, e⟩ := sz_loop (d := d) (by omega) (.lst (ps.map prr)) ps [] none none hp (fun _ h => nomatch h) (by simpa using hz) rfl
  have h1 : xs (rn d) tkL gg (.asn 1 (.lst .nil)) [some (.lst (ps.map prr), .sh), none, none, none, none] = .nx [some (.lst (ps.map prr), .sh), some (.lst [], .own), none, none, none] := by
    generalize ps.map prr = z
    simp [Py.xs, Py.ev, Py.SO.thn, Py.wOf, Py.l1, Py.l2, Py.lL, Py.ress, Py.res, Py.ofO, Py.bW, Py.trO, Py.truth, Py.isTy, Py.callW, Py.shM, Py.shr, Py.shrs, Py.ioW, Py.ioB, Py.ofE, Py.asA, Py.setN, Py.fixA, Py.asAs, Py.retA, Py.ofS, Py.ioE, Py.stepV, Py.stepE, Py.asP, Py.wpE, Py.rsE, Py.lkE, Py.lkE1, Py.ulE, Py.ulE1]
  have hf : xs (rn d) tkL gg (.for_ (.n 2) .seq (.cons (.var 0) .nil) (szB Lsz)) [some (.lst (ps.map prr), .sh), some (.lst [], .own), none, none, none] = .nx [some (.lst (ps.map prr), .sh), some (.lst ((ps.foldl insS []).map prr), .own), x, y, none] := by
    rw [for_ok (ρ1 := [some (.lst (ps.map prr), .sh), some (.lst [], .own), none, none, none]) (us := [.slot 0]) (its := ps.map prr) rfl rfl]
    refine (congrArg (SO.mapE _) e).trans rfl
  show run fsd tkL gg (d + 1) 11 _ = _
  rw [run_at (fd := I_in_size.fd) rfl rfl]
  show ofS I_in_size.fd (xs (rn d) tkL gg S_in_size [some (.lst (ps.map prr), .sh), none, none, none, none]) = _
  rw [S_in_size_is, seq_nx h1, seq_nx hf]
  rfl
end K21

set_option exponentiation.threshold 10000
namespace K21
open PySem PySem.Spec PyProof.Rows L2 Py
/-! ### the dict of gains -/
def dW (l : List Pr) : List (W × W) := l.map fun p => (rt p.1, rt p.2)
def getD : List Pr → Q2 → Q2
  | [], _ => (0, 1)
  | p :: r, k => if p.1 = k then p.2 else getD r k
def putD : List Pr → Q2 → Q2 → List Pr
  | [], k, v => [(k, v)]
  | p :: r, k, v => if p.1 = k then (p.1, v) :: r else p :: putD r k v
theorem eqR (a b : Q2) : eqW (rt a) (rt b) = decide (a = b) := by
  obtain ⟨a1, a2⟩ := a
  obtain ⟨b1, b2⟩ := b
  by_cases h : a1 = b1 <;> by_cases h2 : a2 = b2 <;> simp [rt, eqW, eqWs, h, h2]
theorem dW_T : ∀ l : List Pr, allT (dW l) = true
  | [] => rfl
  | p :: r => by simp only [dW, List.map_cons, allT]; exact dW_T r
theorem kOk_R (k : Q2) (l : List Pr) : kOk (rt k) (dW l) = true := by
  unfold kOk
  rw [dW_T l]
  rfl
theorem lk_get : ∀ (l : List Pr) (k : Q2), (lkW (rt k) (dW l)).getD (.tup [.int 0, .int 1]) = rt (getD l k)
  | [], k => rfl
  | p :: r, k => by
    have ih := lk_get r k
    by_cases h : p.1 = k
    · simp [dW, lkW, eqR, h, getD]
    · simp only [dW] at ih
      simp [dW, lkW, eqR, h, getD, ih]
theorem pt_put : ∀ (l : List Pr) (k v : Q2), ptW (rt k) (rt v) (dW l) = dW (putD l k v)
  | [], k, v => rfl
  | p :: r, k, v => by
    have ih := pt_put r k v
    by_cases h : p.1 = k
    · simp [dW, ptW, eqR, h, putD]
    · simp only [dW] at ih
      simp [dW, ptW, eqR, h, putD, ih]
theorem put_len : ∀ (l : List Pr) (k v : Q2), (putD l k v).length ≤ l.length + 1
  | [], k, v => by simp [putD]
  | p :: r, k, v => by
    unfold putD
    split
    · simp
    · simpa using put_len r k v
theorem put_mem {k v : Q2} {p : Pr} : ∀ {l : List Pr}, p ∈ putD l k v → p = (k, v) ∨ p ∈ l
  | [], h => by simp [putD] at h; exact .inl h
  | q :: r, h => by
    unfold putD at h
    split at h
    · rename_i e
      rcases List.mem_cons.mp h with rfl | h
      · exact .inl (by rw [e])
      · exact .inr (List.mem_cons_of_mem _ h)
    · rcases List.mem_cons.mp h with rfl | h
      · exact .inr List.mem_cons_self
      · exact (put_mem h).imp id (List.mem_cons_of_mem _)
theorem put_keys {k v : Q2} : ∀ {l : List Pr}, (putD l k v).map (·.1) = if k ∈ l.map (·.1) then l.map (·.1) else l.map (·.1) ++ [k]
  | [] => by simp [putD]
  | q :: r => by
    have ih := put_keys (k := k) (v := v) (l := r)
    unfold putD
    by_cases h : q.1 = k
    · rw [if_pos h]; simp [h]
    · rw [if_neg h]
      simp only [List.map_cons, ih]
      have : (k ∈ q.1 :: r.map (·.1)) ↔ k ∈ r.map (·.1) := by
        constructor
        · intro z; rcases List.mem_cons.mp z with z | z
          · exact absurd z.symm h
          · exact z
        · exact List.mem_cons_of_mem _
      by_cases z : k ∈ r.map (·.1)
      · rw [if_pos z, if_pos (this.mpr z)]
      · rw [if_neg z, if_neg (fun q => z (this.mp q))]
        simp
theorem get_put {k v k' : Q2} : ∀ {l : List Pr}, getD (putD l k v) k' = if k = k' then v else getD l k'
  | [] => by simp [putD, getD]
  | q :: r => by
    have ih := get_put (k := k) (v := v) (k' := k') (l := r)
    unfold putD
    by_cases h : q.1 = k
    · rw [if_pos h]
      by_cases h2 : k = k'
      · simp [getD, h, h2]
      · simp [getD, h, h2]
    · rw [if_neg h]
      by_cases h2 : q.1 = k'
      · have : k ≠ k' := fun z => h (by rw [h2, z])
        simp [getD, h2, this]
      · simp [getD, h2, ih]
theorem get_mem : ∀ {l : List Pr}, (l.map (·.1)).Nodup → ∀ p ∈ l, getD l p.1 = p.2
  | [], _, p, hp => by cases hp
  | q :: r, h, p, hp => by
    rw [List.map_cons, List.nodup_cons] at h
    rcases List.mem_cons.mp hp with rfl | hp
    · simp [getD]
    · have : q.1 ≠ p.1 := fun e => h.1 (by rw [e]; exact List.mem_map_of_mem hp)
      simp [getD, this, get_mem h.2 p hp]
/-! ### one pair more -/
def gst (D : List Pr) (p : Pr) : List Pr := if p.2 = (0, 1) then D else putD D p.1 (rpl (getD D p.1) p.2)
def gS (k : Q2) (ps : List Pr) : Q2 := sumR (0, 1) ((ps.filter fun p => decide (p.1 = k ∧ p.2 ≠ (0, 1))).map (·.2))
theorem sumR_app : ∀ (l : List Q2) (a c : Q2), sumR a (l ++ [c]) = rpl (sumR a l) c
  | [], a, c => rfl
  | p :: l, a, c => sumR_app l (rpl a p) c
structure GI (D ps : List Pr) : Prop where
  n : (D.map (·.1)).Nodup
  g : ∀ k, getD D k = gS k ps
  k : ∀ k, k ∈ D.map (·.1) ↔ ∃ p ∈ ps, p.1 = k ∧ p.2 ≠ (0, 1)
  z : D.length ≤ ps.length
theorem GI.nil : GI [] [] := ⟨by simp, fun _ => rfl, by simp, by simp⟩
theorem GI.step {D ps : List Pr} (h : GI D ps) (p : Pr) : GI (gst D p) (ps ++ [p]) := by
  unfold gst
  by_cases hz : p.2 = (0, 1)
  · rw [if_pos hz]
    refine ⟨h.n, fun k => ?_, fun k => ?_, by have := h.z; simp; omega⟩
    · rw [h.g k]
      unfold gS
      rw [List.filter_append]
      simp [hz]
    · rw [h.k k]
      constructor
      · rintro ⟨q, hq, e⟩; exact ⟨q, List.mem_append_left _ hq, e⟩
      · rintro ⟨q, hq, e1, e2⟩
        rcases List.mem_append.mp hq with hq | hq
        · exact ⟨q, hq, e1, e2⟩
        · rw [List.mem_singleton.mp hq] at e2; exact absurd hz e2
  · rw [if_neg hz]
    refine ⟨?_, fun k => ?_, fun k => ?_, by have := h.z; have := put_len D p.1 (rpl (getD D p.1) p.2); simp; omega⟩
    · rw [put_keys]
      split
      · exact h.n
      · rename_i q
        rw [List.nodup_append]
        exact ⟨h.n, by simp, fun a ha b hb e => q (by simp at hb; rw [← hb, ← e]; exact ha)⟩
    · rw [get_put]
      by_cases hk : p.1 = k
      · rw [if_pos hk, hk, h.g k]
        unfold gS
        rw [List.filter_append]
        simp only [List.filter_cons, List.filter_nil, hk]
        rw [if_pos (decide_eq_true ⟨trivial, hz⟩), List.map_append]
        exact (sumR_app _ _ _).symm
      · rw [if_neg hk, h.g k]
        unfold gS
        rw [List.filter_append]
        simp [hk]
    · rw [put_keys]
      constructor
      · intro hm
        split at hm
        · obtain ⟨q, hq, e⟩ := (h.k k).mp hm
          exact ⟨q, List.mem_append_left _ hq, e⟩
        · rcases List.mem_append.mp hm with hm | hm
          · obtain ⟨q, hq, e⟩ := (h.k k).mp hm
            exact ⟨q, List.mem_append_left _ hq, e⟩
          · exact ⟨p, List.mem_append_right _ (List.mem_singleton_self p), (List.mem_singleton.mp hm).symm, hz⟩
      · rintro ⟨q, hq, e1, e2⟩
        rcases List.mem_append.mp hq with hq | hq
        · have := (h.k k).mpr ⟨q, hq, e1, e2⟩
          split
          · exact this
          · exact List.mem_append_left _ this
        · rw [List.mem_singleton.mp hq] at e1
          split
          · rename_i hm; rw [← e1]; exact hm
          · rw [← e1]; simp
theorem GI.fold : ∀ (rest : List Pr) {D ps : List Pr}, GI D ps → GI (rest.foldl gst D) (ps ++ rest)
  | [], D, ps, h => by simpa using h
  | p :: rest, D, ps, h => by
    have := GI.fold rest (h.step p)
    rw [List.append_assoc] at this
    exact this
/-- small pairs -/
structure Pq (ps : List Pr) : Prop where
  z : ps.length ≤ 20
  g : ∀ p ∈ ps, bd 30 p.1
  c : ∀ p ∈ ps, bd 30 p.2
theorem gS_bd {ps : List Pr} (h : Pq ps) (k : Q2) : bd 700 (gS k ps) := by
  unfold gS
  have hl : ((ps.filter fun p => decide (p.1 = k ∧ p.2 ≠ (0, 1))).map (·.2)).length ≤ 20 := by
    rw [List.length_map]; exact Nat.le_trans (List.length_filter_le _ _) h.z
  have hm : ((ps.filter fun p => decide (p.1 = k ∧ p.2 ≠ (0, 1))).map (·.2)).length * 31 ≤ 20 * 31 := Nat.mul_le_mul_right _ hl
  have hb : ∀ p ∈ (ps.filter fun p => decide (p.1 = k ∧ p.2 ≠ (0, 1))).map (·.2), bd 30 p := fun p hp => by
    obtain ⟨q, hq, rfl⟩ := List.mem_map.mp hp
    exact h.c q (List.mem_filter.mp hq).1
  generalize (ps.filter fun p => decide (p.1 = k ∧ p.2 ≠ (0, 1))).map (·.2) = l at *
  exact (sum_bd (k := 30) zero_bd hb (by omega) (by decide)).2.up (by omega)
def gtB : S := (.seq (.ite (.cmp .ne (.var 3) (.con (.tup [(.int 0), (.int 1)]))) (.seq (.six 1 (.var 2) (.call 2 [false, false] (.cons (.mth .get (.var 1) (.cons (.var 2) (.cons (.con (.tup [(.int 0), (.int 1)])) .nil))) (.cons (.var 3) .nil)))) .nil) .nil) .nil)
theorem S_gathered_is : S_gathered = .seq (.asn 1 (.dsp .nil)) (.seq (.for_ (.t (.cons (.n 2) (.cons (.n 3) .nil))) .seq (.cons (.var 0) .nil) gtB) (.seq (.ret (.call 11 [false] (.cons (.mth .litems (.var 1) .nil) .nil))) .nil)) := rfl
theorem gt_body {d : Nat} (hd : 6 ≤ d) (D : List Pr) (hz : D.length ≤ 50) (p : Pr) (b1 : gR (getD D p.1) = true) (b2 : gR p.2 = true) (pw : W) :
    xs (rn d) tkL gg gtB [some (pw, .sh), some (.dct (dW D), .own), some (rt p.1, .sh), some (rt p.2, .sh)] = .nx [some (pw, .sh), some (.dct (dW (gst D p)), .own), some (rt p.1, .sh), some (rt p.2, .sh)] := by
  have c0 : cmpW .ne (rt p.2) (.tup [.int 0, .int 1]) = some (!decide (p.2 = (0, 1))) := by
    show (if eqOk (rt p.2) (.tup [.int 0, .int 1]) then some (!eqW (rt p.2) (rt (0, 1))) else none) = _
    rw [if_pos (show eqOk (rt p.2) (.tup [.int 0, .int 1]) = true from rfl), eqR]
  have hm : mTy .get (.dct (dW D)) = some () := rfl
  have hg : mthW .get (.dct (dW D)) [rt p.1, .tup [.int 0, .int 1]] = some (rt (getD D p.1), false) := by
    show (if kOk (rt p.1) (dW D) = true ∧ isC (.tup [.int 0, .int 1]) = false then some ((lkW (rt p.1) (dW D)).getD (.tup [.int 0, .int 1]), false) else none) = _
    rw [if_pos ⟨kOk_R _ _, rfl⟩, lk_get]
  have hc := f2 hd b1 b2
  have hp : putW (.dct (dW D)) (rt p.1) (rt (rpl (getD D p.1) p.2)) = some (.dct (dW (putD D p.1 (rpl (getD D p.1) p.2)))) := by
    show (if kOk (rt p.1) (dW D) = true ∧ (dW D).length < szL then some (W.dct (ptW (rt p.1) (rt (rpl (getD D p.1) p.2)) (dW D))) else none) = _
    rw [if_pos ⟨kOk_R _ _, by unfold dW; rw [List.length_map]; unfold szL; omega⟩, pt_put]
  have g1 := isD_rt p.1
  have g2 := isD_rt p.2
  have g3 := isD_rt (getD D p.1)
  have g4 := isD_rt (rpl (getD D p.1) p.2)
  unfold gst
  by_cases h0 : p.2 = (0, 1)
  · rw [decide_eq_true h0] at c0
    rw [if_pos h0]
    generalize rt p.2 = w2 at *
    generalize rt p.1 = w1 at *
    generalize dW D = dd at *
    simp [Py.xs, Py.ev, Py.SO.thn, Py.wOf, Py.l1, Py.l2, Py.lL, Py.ress, Py.res, Py.ofO, Py.bW, Py.trO, Py.truth, Py.isTy, Py.callW, Py.shM, Py.shr, Py.shrs, Py.ioW, Py.ioB, Py.ofE, Py.asA, Py.setN, Py.fixA, Py.asAs, Py.retA, Py.ofS, Py.ioE, Py.stepV, Py.stepE, Py.asP, Py.wpE, Py.rsE, Py.lkE, Py.lkE1, Py.ulE, Py.ulE1, gtB, c0]
  · rw [decide_eq_false h0] at c0
    rw [if_neg h0]
    generalize dW (putD D p.1 (rpl (getD D p.1) p.2)) = dd2 at *
    generalize rt (rpl (getD D p.1) p.2) = w4 at *
    generalize rt (getD D p.1) = w3 at *
    generalize rt p.2 = w2 at *
    generalize rt p.1 = w1 at *
    generalize dW D = dd at *
    generalize rn d = C at *
    simp [Py.xs, Py.ev, Py.SO.thn, Py.wOf, Py.l1, Py.l2, Py.lL, Py.ress, Py.res, Py.ofO, Py.bW, Py.trO, Py.truth, Py.isTy, Py.callW, Py.shM, Py.shr, Py.shrs, Py.ioW, Py.ioB, Py.ofE, Py.asA, Py.setN, Py.fixA, Py.asAs, Py.retA, Py.ofS, Py.ioE, Py.stepV, Py.stepE, Py.asP, Py.wpE, Py.rsE, Py.lkE, Py.lkE1, Py.ulE, Py.ulE1, gtB, c0, hm, hg, hc, hp, g1, g2, g3, g4, sixE]
theorem gt_loop {d : Nat} (hd : 6 ≤ d) (pw : W) (all : List Pr) (ha : Pq all) : ∀ (rest done D : List Pr) (x y : Y), done ++ rest = all → GI D done → (plainS x && plainS y) = true →
    ∃ x' y', forL (stF (rn d) tkL gg (.t (.cons (.n 2) (.cons (.n 3) .nil))) gtB) (rest.map prr) [some (pw, .sh), some (.dct (dW D), .own), x, y] = .nx [some (pw, .sh), some (.dct (dW (rest.foldl gst D)), .own), x', y']
  | [], done, D, x, y, _, _, _ => ⟨x, y, rfl⟩
  | p :: rest, done, D, x, y, he, hD, hxy => by
    obtain ⟨p1, p2⟩ := Bool.and_eq_true_iff.mp hxy
    have hz := ha.z
    have hm : p ∈ all := by rw [← he]; simp
    have hd' : Pq done := ⟨by rw [← he] at hz; simp at hz; omega, fun q hq => ha.g q (by rw [← he]; exact List.mem_append_left _ hq), fun q hq => ha.c q (by rw [← he]; exact List.mem_append_left _ hq)⟩
    have ea : asP (.t (.cons (.n 2) (.cons (.n 3) .nil))) (prr p) [some (pw, .sh), some (.dct (dW D), .own), x, y] = some [some (pw, .sh), some (.dct (dW D), .own), some (rt p.1, .sh), some (rt p.2, .sh)] := by
      match x, y, p1, p2 with
      | none, none, _, _ => rfl
      | some (_, .sh), none, _, _ => rfl
      | none, some (_, .sh), _, _ => rfl
      | some (_, .sh), some (_, .sh), _, _ => rfl
    have hb := gt_body hd D (by have := hD.z; have := hd'.z; omega) p (by rw [hD.g]; exact (gS_bd hd' p.1).g (by decide)) ((ha.c p hm).g (by decide)) pw
    obtain ⟨x', y', e⟩ := gt_loop hd pw all ha rest (done ++ [p]) (gst D p) (some (rt p.1, .sh)) (some (rt p.2, .sh)) (by simpa using he) (hD.step p) rfl
    refine ⟨x', y', ?_⟩
    simp only [List.map_cons, forL, stF_ok ea, hb]
    exact e
def gD (ps : List Pr) : List Pr := ps.foldl gst []
theorem gD_I (ps : List Pr) : GI (gD ps) ps := by
  have := GI.fold ps GI.nil
  rwa [List.nil_append] at this
theorem gD_G {ps : List Pr} (h : Pq ps) : Gs (gD ps) := fun p hp => by
  have : p.1 ∈ (gD ps).map (·.1) := List.mem_map_of_mem hp
  obtain ⟨q, hq, e, _⟩ := ((gD_I ps).k p.1).mp this
  rw [← e]
  exact (h.g q hq).g (by decide)
theorem q14 {d : Nat} (hd : 8 ≤ d) (ps : List Pr) (h : Pq ps) : rn d 14 [.lst (ps.map prr)] = .ret (.tup (((gD ps).foldl insS []).map prr)) false [] := by
  obtain ⟨d, rfl⟩ : ∃ e, d = e + 1 := ⟨d - 1, by omega⟩
  have hI := gD_I ps
  have hz : (gD ps).length ≤ 20 := Nat.le_trans hI.z h.z
  obtain ⟨x, y, e⟩ := gt_loop (d := d) (by omega) (.lst (ps.map prr)) ps h ps [] [] none none rfl GI.nil rfl
  have h11 := q11 (d := d) (by omega) (gD ps) (gD_G h) (by omega)
  have h1 : xs (rn d) tkL gg (.asn 1 (.dsp .nil)) [some (.lst (ps.map prr), .sh), none, none, none] = .nx [some (.lst (ps.map prr), .sh), some (.dct (dW []), .own), none, none] := by
    generalize ps.map prr = z
    simp [Py.xs, Py.ev, Py.SO.thn, Py.wOf, Py.l1, Py.l2, Py.lL, Py.ress, Py.res, Py.ofO, Py.bW, Py.trO, Py.truth, Py.isTy, Py.callW, Py.shM, Py.shr, Py.shrs, Py.ioW, Py.ioB, Py.ofE, Py.asA, Py.setN, Py.fixA, Py.asAs, Py.retA, Py.ofS, Py.ioE, Py.stepV, Py.stepE, Py.asP, Py.wpE, Py.rsE, Py.lkE, Py.lkE1, Py.ulE, Py.ulE1, pairs, mergeW, dW]
  have hf : xs (rn d) tkL gg (.for_ (.t (.cons (.n 2) (.cons (.n 3) .nil))) .seq (.cons (.var 0) .nil) gtB) [some (.lst (ps.map prr), .sh), some (.dct (dW []), .own), none, none] = .nx [some (.lst (ps.map prr), .sh), some (.dct (dW (gD ps)), .own), x, y] := by
    rw [for_ok (ρ1 := [some (.lst (ps.map prr), .sh), some (.dct (dW []), .own), none, none]) (us := [.slot 0]) (its := ps.map prr) rfl rfl]
    refine (congrArg (SO.mapE _) e).trans rfl
  have hm : mthW .litems (.dct (dW (gD ps))) [] = some (.lst ((gD ps).map prr), true) := by
    show some (W.lst ((dW (gD ps)).map fun p => .tup [p.1, p.2]), true) = _
    unfold dW
    rw [List.map_map]
    rfl
  have ht : mTy .litems (.dct (dW (gD ps))) = some () := rfl
  show run fsd tkL gg (d + 1) 14 _ = _
  rw [run_at (fd := I_gathered.fd) rfl rfl]
  show ofS I_gathered.fd (xs (rn d) tkL gg S_gathered [some (.lst (ps.map prr), .sh), none, none, none]) = _
  rw [S_gathered_is, seq_nx h1, seq_nx hf]
  generalize ((gD ps).foldl insS []).map prr = z1 at *
  generalize (gD ps).map prr = z2 at *
  generalize dW (gD ps) = dd at *
  generalize W.lst (ps.map prr) = z3
  generalize rn d = C at *
  simp [Py.xs, Py.ev, Py.SO.thn, Py.wOf, Py.l1, Py.l2, Py.lL, Py.ress, Py.res, Py.ofO, Py.bW, Py.trO, Py.truth, Py.isTy, Py.callW, Py.shM, Py.shr, Py.shrs, Py.ioW, Py.ioB, Py.ofE, Py.asA, Py.setN, Py.fixA, Py.asAs, Py.retA, Py.ofS, Py.ioE, Py.stepV, Py.stepE, Py.asP, Py.wpE, Py.rsE, Py.lkE, Py.lkE1, Py.ulE, Py.ulE1, hm, ht, h11, I_gathered]
end K21

set_option exponentiation.threshold 10000
namespace K21
open PySem PySem.Spec PyProof.Rows L2 Py
/-! ### two generators -/
theorem lcM_I {α : Type} {step : W → Py.Env → Out (Option W)} {e f : α → W} {I : Py.Env → Prop} : ∀ {l : List α} {acc : List W} {ρ : Py.Env}, (∀ m ∈ l, ∀ ρ, I ρ → ∃ ρ', step (e m) ρ = .ok (some (f m)) ρ' ∧ I ρ') → I ρ → acc.length + l.length ≤ szL → ∃ ρ', lcM step (l.map e) acc ρ = .ok (acc ++ l.map f) ρ' ∧ I ρ'
  | [], acc, ρ, _, hi, _ => ⟨ρ, by simp [lcM], hi⟩
  | w :: r, acc, ρ, hs, hi, hz => by
    obtain ⟨ρ1, e1, i1⟩ := hs w List.mem_cons_self ρ hi
    have hz' : acc.length < szL := by simp only [List.length_cons] at hz; omega
    obtain ⟨ρ2, e2, i2⟩ := lcM_I (l := r) (acc := acc ++ [f w]) (fun w h => hs w (List.mem_cons_of_mem _ h)) i1 (by simp only [List.length_cons, List.length_append, List.length_nil] at hz ⊢; omega)
    refine ⟨ρ2, ?_, i2⟩
    simp only [List.map_cons, lcM, e1]
    rw [if_pos hz', e2]
    simp
theorem lcO_I {α : Type} {step : W → List W → Py.Env → Out (List W)} {e : α → W} {f : α → List W} {I : Py.Env → Prop} {N : Nat} : ∀ {l : List α} {acc : List W} {ρ : Py.Env}, (∀ m ∈ l, ∀ acc ρ, acc.length ≤ N → I ρ → ∃ ρ', step (e m) acc ρ = .ok (acc ++ f m) ρ' ∧ I ρ') → I ρ → (∀ m ∈ l, (f m).length ≤ 4) → acc.length + 4 * l.length ≤ N → ∃ ρ', lcO step (l.map e) acc ρ = .ok (acc ++ l.flatMap f) ρ' ∧ I ρ'
  | [], acc, ρ, _, hi, _, _ => ⟨ρ, by simp [lcO], hi⟩
  | w :: r, acc, ρ, hs, hi, h3, hz => by
    simp only [List.length_cons] at hz
    obtain ⟨ρ1, e1, i1⟩ := hs w List.mem_cons_self acc ρ (by omega) hi
    have h4 := h3 w List.mem_cons_self
    obtain ⟨ρ2, e2, i2⟩ := lcO_I (l := r) (acc := acc ++ f w) (fun w h => hs w (List.mem_cons_of_mem _ h)) i1 (fun w h => h3 w (List.mem_cons_of_mem _ h)) (by simp only [List.length_append]; omega)
    refine ⟨ρ2, ?_, i2⟩
    simp only [List.map_cons, lcO, e1]
    rw [e2]
    simp [List.flatMap_cons]
def e6 (a b : W) (x2 x3 x4 x5 : Y) : Py.Env := [some (a, .sh), some (b, .sh), x2, x3, x4, x5]
theorem lc2_ok {C : Fn} {elt : E} {s1 s2 : List Pr} {f : Pr → Pr → W} (z1 : s1.length ≤ 4) (z2 : s2.length ≤ 4)
    (hx : ∀ p ∈ s1, ∀ q ∈ s2, stepV (ev C elt).x (e6 (spW s1) (spW s2) (some (rt p.1, .sh)) (some (rt q.1, .sh)) (some (rt p.2, .sh)) (some (rt q.2, .sh))) = .ok (some (f p q)) (e6 (spW s1) (spW s2) (some (rt p.1, .sh)) (some (rt q.1, .sh)) (some (rt p.2, .sh)) (some (rt q.2, .sh)))) :
    (ev C (.lc2 elt (.t (.cons (.n 2) (.cons (.n 4) .nil))) .nil .seq (.cons (.var 0) .nil) (.t (.cons (.n 3) (.cons (.n 5) .nil))) .nil .seq (.cons (.var 1) .nil) [2, 4, 3, 5])).x (e6 (spW s1) (spW s2) none none none none) = .ok (.val (.lst (s1.flatMap fun p => s2.map fun q => f p q)) true) (e6 (spW s1) (spW s2) none none none none) := by
  have key : ∀ p ∈ s1, ∀ (acc : List W) (ρ : Py.Env), acc.length ≤ 100 → (∃ x2 x3 x4 x5, ρ = e6 (spW s1) (spW s2) x2 x3 x4 x5) →
      ∃ ρ', lc2S [2, 4, 3, 5] (.t (.cons (.n 2) (.cons (.n 4) .nil))) (.t (.cons (.n 3) (.cons (.n 5) .nil))) .seq (ev C .nil).t (ev C .nil).t (ev C (.cons (.var 1) .nil)).a (ev C elt).x (prr p) acc ρ = .ok (acc ++ s2.map fun q => f p q) ρ' ∧ (∃ x2 x3 x4 x5, ρ' = e6 (spW s1) (spW s2) x2 x3 x4 x5) := fun p hp acc ρ ha ⟨x2, x3, x4, x5, hρ⟩ => by
    subst hρ
    obtain ⟨ρ', e1, y3, y5, e2⟩ := lcM_I (step := stepE [3, 5] (.t (.cons (.n 3) (.cons (.n 5) .nil))) (ev C .nil).t (ev C elt).x) (e := prr) (f := fun q => f p q) (I := fun ρ => ∃ y3 y5, ρ = e6 (spW s1) (spW s2) (some (rt p.1, .sh)) y3 (some (rt p.2, .sh)) y5) (l := s2) (acc := acc) (ρ := e6 (spW s1) (spW s2) (some (rt p.1, .sh)) none (some (rt p.2, .sh)) none)
      (fun q hq ρ ⟨y3, y5, hρ⟩ => by
        subst hρ
        refine ⟨e6 (spW s1) (spW s2) (some (rt p.1, .sh)) (some (rt q.1, .sh)) (some (rt p.2, .sh)) (some (rt q.2, .sh)), ?_, _, _, rfl⟩
        exact step_ok rfl (hx p hp q hq)) ⟨none, none, rfl⟩ (by unfold szL; omega)
    subst e2
    exact ⟨e6 (spW s1) (spW s2) (some (rt p.1, .sh)) y3 (some (rt p.2, .sh)) y5, e1, _, _, _, _, rfl⟩
  obtain ⟨ρ', e1, x2, x3, x4, x5, h2⟩ := lcO_I (e := prr) (f := fun p => s2.map fun q => f p q) (N := 100) (l := s1) (acc := []) (ρ := e6 (spW s1) (spW s2) none none none none) key ⟨none, none, none, none, rfl⟩ (fun p _ => by rw [List.length_map]; exact z2) (by simp only [List.length_nil]; omega)
  subst h2
  have e : (ev C (.lc2 elt (.t (.cons (.n 2) (.cons (.n 4) .nil))) .nil .seq (.cons (.var 0) .nil) (.t (.cons (.n 3) (.cons (.n 5) .nil))) .nil .seq (.cons (.var 1) .nil) [2, 4, 3, 5])).x (e6 (spW s1) (spW s2) none none none none) = (match lcO (lc2S [2, 4, 3, 5] (.t (.cons (.n 2) (.cons (.n 4) .nil))) (.t (.cons (.n 3) (.cons (.n 5) .nil))) .seq (ev C .nil).t (ev C .nil).t (ev C (.cons (.var 1) .nil)).a (ev C elt).x) (s1.map prr) [] (e6 (spW s1) (spW s2) none none none none) with
        | .ok acc ρ3 => .ok (.val (.lst acc) true) (ulE (e6 (spW s1) (spW s2) none none none none) (rsE (e6 (spW s1) (spW s2) none none none none) ρ3 [2, 4, 3, 5]) [.slot 0])
        | _ => .bad) := rfl
  rw [e, e1]
  rfl
/-! ### the pairs -/
def smL (s1 s2 : List Pr) : List Pr := s1.flatMap fun p => s2.map fun q => (rpl p.1 q.1, rtm p.2 q.2)
def grL (s1 s2 : List Pr) : List Pr := s1.flatMap fun p => s2.map fun q => (rgr p.1 q.1, rtm p.2 q.2)
def mxL (s1 s2 : List Pr) (m n : Q2) : List Pr := (s1.map fun p => (p.1, rtm m p.2)) ++ s2.map fun p => (p.1, rtm n p.2)
theorem fm_len {α β γ : Type} (f : α → β → γ) (s1 : List α) (s2 : List β) : (s1.flatMap fun p => s2.map fun q => f p q).length = s1.length * s2.length := by
  induction s1 with
  | nil => simp
  | cons a r ih => rw [List.flatMap_cons, List.length_append, List.length_map, ih, List.length_cons, Nat.add_mul, Nat.one_mul, Nat.add_comm]
theorem rgr_bd {k : Nat} {p q : Q2} (hp : bd k p) (hq : bd k q) : bd k (rgr p q) := by unfold rgr; split <;> assumption
section
variable {s1 s2 : List Pr} (h1 : Sp s1) (h2 : Sp s2)
include h1 h2
theorem sm_q : Pq (smL s1 s2) := by
  have z1 := h1.z4
  have z2 := h2.z4
  refine ⟨?_, fun p hp => ?_, fun p hp => ?_⟩
  · unfold smL
    rw [fm_len]
    have := Nat.mul_le_mul z1 z2
    omega
  · obtain ⟨a, ha, hp⟩ := List.mem_flatMap.mp hp
    obtain ⟨b, hb, rfl⟩ := List.mem_map.mp hp
    exact (rpl_bd (h1.gb ha) (h2.gb hb)).up (by decide)
  · obtain ⟨a, ha, hp⟩ := List.mem_flatMap.mp hp
    obtain ⟨b, hb, rfl⟩ := List.mem_map.mp hp
    exact (rtm_bd (h1.cb ha) (h2.cb hb)).up (by decide)
theorem gr_q : Pq (grL s1 s2) := by
  have z1 := h1.z4
  have z2 := h2.z4
  refine ⟨?_, fun p hp => ?_, fun p hp => ?_⟩
  · unfold grL
    rw [fm_len]
    have := Nat.mul_le_mul z1 z2
    omega
  · obtain ⟨a, ha, hp⟩ := List.mem_flatMap.mp hp
    obtain ⟨b, hb, rfl⟩ := List.mem_map.mp hp
    exact (rgr_bd (h1.gb ha) (h2.gb hb)).up (by decide)
  · obtain ⟨a, ha, hp⟩ := List.mem_flatMap.mp hp
    obtain ⟨b, hb, rfl⟩ := List.mem_map.mp hp
    exact (rtm_bd (h1.cb ha) (h2.cb hb)).up (by decide)
theorem mx_q {m n : Q2} (bm : bd 10 m) (bn : bd 10 n) : Pq (mxL s1 s2 m n) := by
  have z1 := h1.z4
  have z2 := h2.z4
  refine ⟨by unfold mxL; simp; omega, fun p hp => ?_, fun p hp => ?_⟩
  · rcases List.mem_append.mp hp with hp | hp
    · obtain ⟨a, ha, rfl⟩ := List.mem_map.mp hp
      exact (h1.gb ha).up (by decide)
    · obtain ⟨a, ha, rfl⟩ := List.mem_map.mp hp
      exact (h2.gb ha).up (by decide)
  · rcases List.mem_append.mp hp with hp | hp
    · obtain ⟨a, ha, rfl⟩ := List.mem_map.mp hp
      exact (rtm_bd bm (h1.cb ha)).up (by decide)
    · obtain ⟨a, ha, rfl⟩ := List.mem_map.mp hp
      exact (rtm_bd bn (h2.cb ha)).up (by decide)
theorem q20 {d : Nat} (hd : 9 ≤ d) : rn d 20 [spW s1, spW s2] = .ret (.tup (((gD (smL s1 s2)).foldl insS []).map prr)) false [] := by
  obtain ⟨d, rfl⟩ : ∃ e, d = e + 1 := ⟨d - 1, by omega⟩
  have hd6 : 6 ≤ d := by omega
  have hg := q14 (d := d) (by omega) _ (sm_q h1 h2)
  have e := lc2_ok (C := rn d) (elt := (.tup (.cons (.call 2 [false, false] (.cons (.var 2) (.cons (.var 3) .nil))) (.cons (.call 4 [false, false] (.cons (.var 4) (.cons (.var 5) .nil))) .nil)))) (s1 := s1) (s2 := s2) (f := fun p q => prr (rpl p.1 q.1, rtm p.2 q.2)) h1.z4 h2.z4 (fun p hp q hq => by
    have c1 := f2 hd6 ((h1.gb hp).g (by decide)) ((h2.gb hq).g (by decide))
    have c2 := f4 hd6 ((h1.cb hp).g (by decide)) ((h2.cb hq).g (by decide))
    have g1 := isD_rt p.1
    have g2 := isD_rt p.2
    have g3 := isD_rt q.1
    have g4 := isD_rt q.2
    have g5 := isD_rt (rpl p.1 q.1)
    have g6 := isD_rt (rtm p.2 q.2)
    have z2 := Py.sz2
    unfold prr
    generalize rt (rpl p.1 q.1) = w5 at *
    generalize rt (rtm p.2 q.2) = w6 at *
    generalize rt p.1 = w1 at *
    generalize rt p.2 = w2 at *
    generalize rt q.1 = w3 at *
    generalize rt q.2 = w4 at *
    generalize spW s1 = a at *
    generalize spW s2 = b at *
    generalize rn d = C at *
    simp [Py.xs, Py.ev, Py.SO.thn, Py.wOf, Py.l1, Py.l2, Py.lL, Py.ress, Py.res, Py.ofO, Py.bW, Py.trO, Py.truth, Py.isTy, Py.callW, Py.shM, Py.shr, Py.shrs, Py.ioW, Py.ioB, Py.ofE, Py.asA, Py.setN, Py.fixA, Py.asAs, Py.retA, Py.ofS, Py.ioE, Py.stepV, Py.stepE, Py.asP, Py.wpE, Py.rsE, Py.lkE, Py.lkE1, Py.ulE, Py.ulE1, e6, c1, c2, g1, g2, g3, g4, g5, g6, z2])
  have el : (s1.flatMap fun p => s2.map fun q => prr (rpl p.1 q.1, rtm p.2 q.2)) = (smL s1 s2).map prr := by simp [smL, List.map_flatMap, Function.comp_def]
  rw [el] at e
  show run fsd tkL gg (d + 1) 20 _ = _
  rw [run_at (fd := I_sum_spread.fd) rfl rfl]
  show ofS I_sum_spread.fd (xs (rn d) tkL gg (.seq (.ret (.call 14 [false] (.cons _ .nil))) .nil) (e6 (spW s1) (spW s2) none none none none)) = _
  rw [ret_v (call1 e rfl hg)]
  rfl
theorem q21 {d : Nat} (hd : 9 ≤ d) : rn d 21 [spW s1, spW s2] = .ret (.tup (((gD (grL s1 s2)).foldl insS []).map prr)) false [] := by
  obtain ⟨d, rfl⟩ : ∃ e, d = e + 1 := ⟨d - 1, by omega⟩
  have hd6 : 6 ≤ d := by omega
  have hg := q14 (d := d) (by omega) _ (gr_q h1 h2)
  have e := lc2_ok (C := rn d) (elt := (.tup (.cons (.call 6 [false] (.cons (.lst (.cons (.var 2) (.cons (.var 3) .nil))) .nil)) (.cons (.call 4 [false, false] (.cons (.var 4) (.cons (.var 5) .nil))) .nil)))) (s1 := s1) (s2 := s2) (f := fun p q => prr (rgr p.1 q.1, rtm p.2 q.2)) h1.z4 h2.z4 (fun p hp q hq => by
    have c1 := f6 hd6 ((h1.gb hp).g (by decide)) ((h2.gb hq).g (by decide))
    have c2 := f4 hd6 ((h1.cb hp).g (by decide)) ((h2.cb hq).g (by decide))
    have g1 := isD_rt p.1
    have g2 := isD_rt p.2
    have g3 := isD_rt q.1
    have g4 := isD_rt q.2
    have g5 := isD_rt (rgr p.1 q.1)
    have g6 := isD_rt (rtm p.2 q.2)
    have z2 := Py.sz2
    unfold prr
    generalize rt (rgr p.1 q.1) = w5 at *
    generalize rt (rtm p.2 q.2) = w6 at *
    generalize rt p.1 = w1 at *
    generalize rt p.2 = w2 at *
    generalize rt q.1 = w3 at *
    generalize rt q.2 = w4 at *
    generalize spW s1 = a at *
    generalize spW s2 = b at *
    generalize rn d = C at *
    simp [Py.xs, Py.ev, Py.SO.thn, Py.wOf, Py.l1, Py.l2, Py.lL, Py.ress, Py.res, Py.ofO, Py.bW, Py.trO, Py.truth, Py.isTy, Py.callW, Py.shM, Py.shr, Py.shrs, Py.ioW, Py.ioB, Py.ofE, Py.asA, Py.setN, Py.fixA, Py.asAs, Py.retA, Py.ofS, Py.ioE, Py.stepV, Py.stepE, Py.asP, Py.wpE, Py.rsE, Py.lkE, Py.lkE1, Py.ulE, Py.ulE1, e6, c1, c2, g1, g2, g3, g4, g5, g6, z2])
  have el : (s1.flatMap fun p => s2.map fun q => prr (rgr p.1 q.1, rtm p.2 q.2)) = (grL s1 s2).map prr := by simp [grL, List.map_flatMap, Function.comp_def]
  rw [el] at e
  show run fsd tkL gg (d + 1) 21 _ = _
  rw [run_at (fd := I_greater_spread.fd) rfl rfl]
  show ofS I_greater_spread.fd (xs (rn d) tkL gg (.seq (.ret (.call 14 [false] (.cons _ .nil))) .nil) (e6 (spW s1) (spW s2) none none none none)) = _
  rw [ret_v (call1 e rfl hg)]
  rfl
end
/-! ### mixed_spread -/
def Lmx : E := (.lc (.tup (.cons (.var 6) (.cons (.call 4 [false, false] (.cons (.var 4) (.cons (.var 5) .nil))) .nil))) (.t (.cons (.n 6) (.cons (.n 5) .nil))) .nil .seq (.cons (.var 3) .nil) [6, 5])
def mxB (e0 : E) : S := (.seq (.mut .extend 2 (.cons e0 .nil)) .nil)
theorem S_mixed_is : S_mixed_spread = .seq (.asn 2 (.lst .nil)) (.seq (.for_ (.t (.cons (.n 3) (.cons (.n 4) .nil))) .zip (.cons (.var 0) (.cons (.var 1) .nil)) (mxB Lmx)) (.seq (.ret (.call 14 [false] (.cons (.var 2) .nil))) .nil)) := rfl
theorem mx_body {d : Nat} (hd : 6 ≤ d) (a b : W) (l : List Pr) (hz : l.length ≤ 50) {s : List Pr} (h : Sp s) {m : Q2} (bm : bd 10 m) :
    xs (rn d) tkL gg (mxB Lmx) [some (a, .sh), some (b, .sh), some (.lst (l.map prr), .own), some (spW s, .sh), some (rt m, .sh), none, none] = .nx [some (a, .sh), some (b, .sh), some (.lst ((l ++ s.map fun p => (p.1, rtm m p.2)).map prr), .own), some (spW s, .sh), some (rt m, .sh), none, none] := by
  have z4 := h.z4
  have e := lc_g2 (C := rn d) (elt := (.tup (.cons (.var 6) (.cons (.call 4 [false, false] (.cons (.var 4) (.cons (.var 5) .nil))) .nil)))) (t := .nil) (es := .cons (.var 3) .nil) (ρ := [some (a, .sh), some (b, .sh), some (.lst (l.map prr), .own), some (spW s, .sh), some (rt m, .sh), none, none]) (us := [.slot 3]) (K := .seq) (a := 6) (b := 5) (l := s) (u := fun p => rt p.1) (v := fun p => rt p.2) (k := fun _ => true) (f := fun p => prr (p.1, rtm m p.2)) (by decide) (by simp) (by simp) rfl rfl rfl (fun _ => rfl) (by omega) (fun p hp => by
    have c1 := f4 hd (bm.g (by decide)) ((h.cb hp).g (by decide))
    have g1 := isD_rt p.1
    have g2 := isD_rt p.2
    have g3 := isD_rt m
    have g4 := isD_rt (rtm m p.2)
    have z2 := Py.sz2
    unfold prr
    generalize (l.map fun p => W.tup [rt p.1, rt p.2]) = z
    generalize rt (rtm m p.2) = w4 at *
    generalize rt m = w3 at *
    generalize rt p.1 = w1 at *
    generalize rt p.2 = w2 at *
    generalize spW s = w at *
    generalize rn d = C at *
    simp [Py.xs, Py.ev, Py.SO.thn, Py.wOf, Py.l1, Py.l2, Py.lL, Py.ress, Py.res, Py.ofO, Py.bW, Py.trO, Py.truth, Py.isTy, Py.callW, Py.shM, Py.shr, Py.shrs, Py.ioW, Py.ioB, Py.ofE, Py.asA, Py.setN, Py.fixA, Py.asAs, Py.retA, Py.ofS, Py.ioE, Py.stepV, Py.stepE, Py.asP, Py.wpE, Py.rsE, Py.lkE, Py.lkE1, Py.ulE, Py.ulE1, S2, c1, g1, g2, g3, g4, z2])
  rw [fil_t] at e
  have hm : mutW .extend (.lst (l.map prr)) [.lst (s.map fun p => prr (p.1, rtm m p.2))] = some (.lst ((l ++ s.map fun p => (p.1, rtm m p.2)).map prr)) := by
    show (if (l.map prr).length + (s.map fun p => prr (p.1, rtm m p.2)).length ≤ szL then some (W.lst (l.map prr ++ s.map fun p => prr (p.1, rtm m p.2))) else none) = _
    rw [if_pos (by rw [List.length_map, List.length_map]; unfold szL; omega), List.map_append, List.map_map]
    rfl
  have hk : mutOk (some (.lst (l.map prr), .own)) = true := rfl
  have e : (ev (rn d) Lmx).x [some (a, .sh), some (b, .sh), some (.lst (l.map prr), .own), some (spW s, .sh), some (rt m, .sh), none, none] = _ := e
  unfold mxB
  generalize Lmx = L at *
  generalize (l ++ s.map fun p => (p.1, rtm m p.2)).map prr = z1 at *
  generalize (s.map fun p => prr (p.1, rtm m p.2)) = z2 at *
  generalize l.map prr = z3 at *
  generalize spW s = w at *
  generalize rt m = mw at *
  simp [Py.xs, Py.ev, Py.SO.thn, Py.wOf, Py.l1, Py.l2, Py.lL, Py.ress, Py.res, Py.ofO, Py.bW, Py.trO, Py.truth, Py.isTy, Py.callW, Py.shM, Py.shr, Py.shrs, Py.ioW, Py.ioB, Py.ofE, Py.asA, Py.setN, Py.fixA, Py.asAs, Py.retA, Py.ofS, Py.ioE, Py.stepV, Py.stepE, Py.asP, Py.wpE, Py.rsE, Py.lkE, Py.lkE1, Py.ulE, Py.ulE1, e, hk, hm, mutE]
theorem q19 {d : Nat} (hd : 9 ≤ d) {s1 s2 : List Pr} (h1 : Sp s1) (h2 : Sp s2) {m n : Q2} (bm : bd 10 m) (bn : bd 10 n) : rn d 19 [.tup [spW s1, spW s2], .tup [rt m, rt n]] = .ret (.tup (((gD (mxL s1 s2 m n)).foldl insS []).map prr)) false [] := by
  obtain ⟨d, rfl⟩ : ∃ e, d = e + 1 := ⟨d - 1, by omega⟩
  have hg := q14 (d := d) (by omega) _ (mx_q h1 h2 bm bn)
  have z1 := h1.z4
  have x0 : xs (rn d) tkL gg (.asn 2 (.lst .nil)) [some (.tup [spW s1, spW s2], .sh), some (.tup [rt m, rt n], .sh), none, none, none, none, none] = .nx [some (.tup [spW s1, spW s2], .sh), some (.tup [rt m, rt n], .sh), some (.lst (([] : List Pr).map prr), .own), none, none, none, none] := by
    generalize rt m = mw
    generalize rt n = nw
    generalize spW s1 = a
    generalize spW s2 = b
    simp [Py.xs, Py.ev, Py.SO.thn, Py.wOf, Py.l1, Py.l2, Py.lL, Py.ress, Py.res, Py.ofO, Py.bW, Py.trO, Py.truth, Py.isTy, Py.callW, Py.shM, Py.shr, Py.shrs, Py.ioW, Py.ioB, Py.ofE, Py.asA, Py.setN, Py.fixA, Py.asAs, Py.retA, Py.ofS, Py.ioE, Py.stepV, Py.stepE, Py.asP, Py.wpE, Py.rsE, Py.lkE, Py.lkE1, Py.ulE, Py.ulE1]
  have b1 := mx_body (d := d) (by omega) (.tup [spW s1, spW s2]) (.tup [rt m, rt n]) [] (by simp) h1 bm
  have b2 := mx_body (d := d) (by omega) (.tup [spW s1, spW s2]) (.tup [rt m, rt n]) ([] ++ s1.map fun p : Pr => ((p.1, rtm m p.2) : Pr)) (by simp; omega) h2 bn
  have e : forL (stF (rn d) tkL gg (.t (.cons (.n 3) (.cons (.n 4) .nil))) (mxB Lmx)) [.tup [spW s1, rt m], .tup [spW s2, rt n]] [some (.tup [spW s1, spW s2], .sh), some (.tup [rt m, rt n], .sh), some (.lst (([] : List Pr).map prr), .own), none, none, none, none] = .nx [some (.tup [spW s1, spW s2], .sh), some (.tup [rt m, rt n], .sh), some (.lst ((mxL s1 s2 m n).map prr), .own), some (spW s2, .sh), some (rt n, .sh), none, none] := by
    have a1 : stF (rn d) tkL gg (.t (.cons (.n 3) (.cons (.n 4) .nil))) (mxB Lmx) (.tup [spW s1, rt m]) [some (.tup [spW s1, spW s2], .sh), some (.tup [rt m, rt n], .sh), some (.lst (([] : List Pr).map prr), .own), none, none, none, none] = _ := (stF_ok rfl).trans b1
    have a2 : stF (rn d) tkL gg (.t (.cons (.n 3) (.cons (.n 4) .nil))) (mxB Lmx) (.tup [spW s2, rt n]) [some (.tup [spW s1, spW s2], .sh), some (.tup [rt m, rt n], .sh), some (.lst (([] ++ s1.map fun p : Pr => ((p.1, rtm m p.2) : Pr)).map prr), .own), some (spW s1, .sh), some (rt m, .sh), none, none] = _ := (stF_ok rfl).trans b2
    simp only [forL, a1, a2]
    rfl
  have hf : xs (rn d) tkL gg (.for_ (.t (.cons (.n 3) (.cons (.n 4) .nil))) .zip (.cons (.var 0) (.cons (.var 1) .nil)) (mxB Lmx)) [some (.tup [spW s1, spW s2], .sh), some (.tup [rt m, rt n], .sh), some (.lst (([] : List Pr).map prr), .own), none, none, none, none] = .nx [some (.tup [spW s1, spW s2], .sh), some (.tup [rt m, rt n], .sh), some (.lst ((mxL s1 s2 m n).map prr), .own), some (spW s2, .sh), some (rt n, .sh), none, none] := by
    rw [for_ok (ρ1 := [some (.tup [spW s1, spW s2], .sh), some (.tup [rt m, rt n], .sh), some (.lst (([] : List Pr).map prr), .own), none, none, none, none]) (us := [.slot 0, .slot 1]) (its := [.tup [spW s1, rt m], .tup [spW s2, rt n]]) rfl rfl]
    refine (congrArg (SO.mapE _) e).trans rfl
  show run fsd tkL gg (d + 1) 19 _ = _
  rw [run_at (fd := I_mixed_spread.fd) rfl rfl]
  show ofS I_mixed_spread.fd (xs (rn d) tkL gg S_mixed_spread [some (.tup [spW s1, spW s2], .sh), some (.tup [rt m, rt n], .sh), none, none, none, none, none]) = _
  rw [S_mixed_is, seq_nx x0, seq_nx hf]
  generalize ((gD (mxL s1 s2 m n)).foldl insS []).map prr = z1 at *
  generalize (mxL s1 s2 m n).map prr = z2 at *
  generalize rt m = mw
  generalize rt n = nw
  generalize spW s1 = a
  generalize spW s2 = b
  generalize rn d = C at *
  simp [Py.xs, Py.ev, Py.SO.thn, Py.wOf, Py.l1, Py.l2, Py.lL, Py.ress, Py.res, Py.ofO, Py.bW, Py.trO, Py.truth, Py.isTy, Py.callW, Py.shM, Py.shr, Py.shrs, Py.ioW, Py.ioB, Py.ofE, Py.asA, Py.setN, Py.fixA, Py.asAs, Py.retA, Py.ofS, Py.ioE, Py.stepV, Py.stepE, Py.asP, Py.wpE, Py.rsE, Py.lkE, Py.lkE1, Py.ulE, Py.ulE1, hg, I_mixed_spread]
end K21

set_option exponentiation.threshold 10000
namespace K21
open PySem PySem.Spec PyProof.Rows L2 Py
/-! ### ratios by whole numbers -/
theorem low_neg {a b : Int} (hb : b ≠ 0) : low (-a) (-b) = low a b := by
  unfold low
  rw [Int.natAbs_neg, Int.natAbs_neg, Int.neg_neg, Int.neg_neg]
  by_cases h : 0 < b
  · rw [if_pos h, if_neg (by omega)]
  · rw [if_neg h, if_pos (by omega)]
theorem low_mulP {k a b : Int} (hk : 0 < k) : low (k * a) (k * b) = low a b := by
  have hg : ((Nat.gcd (k * a).natAbs (k * b).natAbs : Nat) : Int) = k * ((Nat.gcd a.natAbs b.natAbs : Nat) : Int) := by
    rw [Int.natAbs_mul, Int.natAbs_mul, Nat.gcd_mul_left, Int.natCast_mul]
    congr 1
    omega
  have hf : ∀ x : Int, (k * x).fdiv (k * ((Nat.gcd a.natAbs b.natAbs : Nat) : Int)) = x.fdiv ((Nat.gcd a.natAbs b.natAbs : Nat) : Int) := fun x => Int.mul_fdiv_mul_of_pos _ _ hk
  have hs : (0 < k * b) ↔ 0 < b := by
    constructor
    · intro h; exact Int.pos_of_mul_pos_right h (by omega)
    · intro h; exact Int.mul_pos hk h
  unfold low
  rw [hg]
  by_cases h : 0 < b
  · rw [if_pos h, if_pos (hs.mpr h), hf, hf]
  · rw [if_neg h, if_neg (fun z => h (hs.mp z)), ← Int.mul_neg, ← Int.mul_neg, hf, hf]
theorem low_x {a b c d : Int} (hb : 0 < b) (hd : 0 < d) (h : a * d = c * b) : low a b = low c d := by
  rw [← low_mulP (a := a) (b := b) hd, ← low_mulP (a := c) (b := d) hb, Int.mul_comm d a, h, Int.mul_comm c b, Int.mul_comm d b]
theorem low_sp {a b : Int} (hb : 0 < b) : ∃ g, 0 < g ∧ a = g * (low a b).1 ∧ b = g * (low a b).2 ∧ 0 < (low a b).2 := by
  obtain ⟨g, a', b', hg, rfl, rfl, ⟨_, h3, e⟩ | ⟨h2, _, _⟩⟩ := low_by a b (by omega)
  · exact ⟨g, hg, by rw [e], by rw [e], by rw [e]; exact h3⟩
  · omega
/-! ### canonical ratios, in order -/
def Cn (p : Q2) : Prop := low p.1 p.2 = p
theorem cn_low {a b : Int} (hb : 0 < b) : Cn (low a b) := by
  obtain ⟨g, hg, e1, e2, e3⟩ := low_sp (a := a) hb
  show low (low a b).1 (low a b).2 = low a b
  refine low_x e3 hb ?_
  generalize low a b = p at *
  rw [e1, e2]
  grind
theorem cn_lowN {a b : Int} (hb : b ≠ 0) : Cn (low a b) := by
  by_cases h : 0 < b
  · exact cn_low h
  · rw [← low_neg hb]
    exact cn_low (by omega)
theorem cn_eq {p q : Q2} (hp : Cn p) (hq : Cn q) (h1 : 0 < p.2) (h2 : 0 < q.2) (h : p.1 * q.2 = q.1 * p.2) : p = q := by
  have := low_x h1 h2 h
  rwa [show low p.1 p.2 = p from hp, show low q.1 q.2 = q from hq] at this
theorem cn_qv {p q : Q2} (hp : Cn p) (hq : Cn q) (h1 : 0 < p.2) (h2 : 0 < q.2) (h : qv p = qv q) : p = q := by
  refine cn_eq hp hq h1 h2 ?_
  have e1 : ((p.2 : Int) : Rat) ≠ 0 := rat_ne (by omega)
  have e2 : ((q.2 : Int) : Rat) ≠ 0 := rat_ne (by omega)
  unfold qv at h
  have : (p.1 : Rat) * (q.2 : Rat) = (q.1 : Rat) * (p.2 : Rat) := by grind
  rw [← Rat.intCast_mul, ← Rat.intCast_mul] at this
  exact Rat.intCast_inj.mp this
/-- good ratios -/
def Gk (p : Q2) : Prop := Cn p ∧ bd 60 p
theorem Gk.p {p : Q2} (h : Gk p) : 0 < p.2 := h.2.2.1
theorem Gk.g {p : Q2} (h : Gk p) : gR p = true := h.2.g (by decide)
theorem rls_tri {p q : Q2} (hp : Gk p) (hq : Gk q) (h : rls q p = false) (hn : p ≠ q) : rls p q = true := by
  have h1 : ¬ qv q < qv p := fun z => by rw [(rls_qv hq.p hp.p).mpr z] at h; cases h
  have h2 : qv p ≠ qv q := fun z => hn (cn_qv hp.1 hq.1 hp.p hq.p z)
  refine (rls_qv hp.p hq.p).mpr ?_
  grind
theorem rls_asym {p q : Q2} (hp : 0 < p.2) (hq : 0 < q.2) (h : rls p q = true) : rls q p = false := by
  cases e : rls q p with
  | false => rfl
  | true =>
    have h1 := (rls_qv hp hq).mp h
    have h2 := (rls_qv hq hp).mp e
    grind
theorem bsF_min : ∀ (l : List Q2) (a : Q2), Gk a → (∀ p ∈ l, Gk p) → (bsF rgt a l = a ∨ bsF rgt a l ∈ l) ∧ qv (bsF rgt a l) ≤ qv a ∧ ∀ q ∈ l, qv (bsF rgt a l) ≤ qv q
  | [], a, _, _ => ⟨.inl rfl, by show qv a ≤ qv a; grind, fun q h => nomatch h⟩
  | p :: l, a, ha, hl => by
    have hp := hl p List.mem_cons_self
    have hc : Gk (if rgt a p then p else a) := by split <;> assumption
    obtain ⟨h1, h2, h3⟩ := bsF_min l (if rgt a p then p else a) hc fun q hq => hl q (List.mem_cons_of_mem _ hq)
    show (bsF rgt (if rgt a p then p else a) l = a ∨ bsF rgt (if rgt a p then p else a) l ∈ p :: l) ∧ qv (bsF rgt (if rgt a p then p else a) l) ≤ qv a ∧ ∀ q ∈ p :: l, qv (bsF rgt (if rgt a p then p else a) l) ≤ qv q
    have hv : qv (if rgt a p then p else a) ≤ qv a ∧ qv (if rgt a p then p else a) ≤ qv p := by
      cases e : rgt a p with
      | true =>
        have := (rls_qv hp.p ha.p).mp (show rls p a = true from e)
        simp only [if_true]
        constructor <;> grind
      | false =>
        have : ¬ qv p < qv a := fun z => by rw [show rgt a p = true from (rls_qv hp.p ha.p).mpr z] at e; cases e
        simp only [Bool.false_eq_true, if_false]
        constructor <;> grind
    refine ⟨?_, by grind, fun q hq => ?_⟩
    · rcases h1 with h1 | h1
      · rw [h1]
        by_cases e : rgt a p = true
        · rw [if_pos e]; exact .inr List.mem_cons_self
        · rw [if_neg e]; exact .inl rfl
      · exact .inr (List.mem_cons_of_mem _ h1)
    · rcases List.mem_cons.mp hq with rfl | hq
      · grind
      · exact h3 q hq
theorem leR_min {l : List Q2} (h0 : l ≠ []) (hl : ∀ p ∈ l, Gk p) : leR l ∈ l ∧ ∀ q ∈ l, rls q (leR l) = false := by
  cases l with
  | nil => exact absurd rfl h0
  | cons a r =>
    obtain ⟨h1, _, h3⟩ := bsF_min (a :: r) a (hl a List.mem_cons_self) hl
    have hm : leR (a :: r) ∈ a :: r := by
      rcases h1 with h1 | h1
      · show bsF rgt a (a :: r) ∈ _
        rw [h1]; exact List.mem_cons_self
      · exact h1
    refine ⟨hm, fun q hq => ?_⟩
    cases e : rls q (leR (a :: r)) with
    | false => rfl
    | true =>
      have h4 := (rls_qv (hl q hq).p (hl _ hm).p).mp e
      have h5 : qv (leR (a :: r)) ≤ qv q := h3 q hq
      grind
/-- rising -/
def Asc (l : List Q2) : Prop := l.Pairwise fun p q => rls p q = true
theorem rls_irr (p : Q2) : rls p p = false := rls_self p
theorem asc_uniq : ∀ {xs ys : List Q2}, (∀ p ∈ xs, 0 < p.2) → Asc xs → Asc ys → (∀ a, a ∈ xs ↔ a ∈ ys) → xs = ys
  | [], [], _, _, _, _ => rfl
  | [], y :: ys, _, _, _, h => absurd ((h y).mpr List.mem_cons_self) (by simp)
  | x :: xs, [], _, _, _, h => absurd ((h x).mp List.mem_cons_self) (by simp)
  | x :: xs, y :: ys, hp, h1, h2, h => by
    obtain ⟨a1, a2⟩ := List.pairwise_cons.mp h1
    obtain ⟨b1, b2⟩ := List.pairwise_cons.mp h2
    have px := hp x List.mem_cons_self
    have py : 0 < y.2 := hp y ((h y).mpr List.mem_cons_self)
    have e : x = y := by
      rcases List.mem_cons.mp ((h x).mp List.mem_cons_self) with e | m1
      · exact e
      · rcases List.mem_cons.mp ((h y).mpr List.mem_cons_self) with e | m2
        · exact e.symm
        · have k1 := b1 x m1
          have k2 := a1 y m2
          rw [rls_asym py px k1] at k2
          cases k2
    subst e
    have : xs = ys := asc_uniq (fun p hp' => hp p (List.mem_cons_of_mem _ hp')) a2 b2 fun a => by
      constructor
      · intro m
        rcases List.mem_cons.mp ((h a).mp (List.mem_cons_of_mem _ m)) with e | m'
        · have := a1 a m
          rw [e, rls_irr] at this
          cases this
        · exact m'
      · intro m
        rcases List.mem_cons.mp ((h a).mpr (List.mem_cons_of_mem _ m)) with e | m'
        · have := b1 a m
          rw [e, rls_irr] at this
          cases this
        · exact m'
    rw [this]
/-! ### in size -/
theorem rls_trans {p q r : Q2} (h1 : 0 < p.2) (h2 : 0 < q.2) (h3 : 0 < r.2) (a : rls p q = true) (b : rls q r = true) : rls p r = true := by
  have a := (rls_qv h1 h2).mp a
  have b := (rls_qv h2 h3).mp b
  exact (rls_qv h1 h3).mpr (by grind)
theorem ins_ok : ∀ (l : List Pr) (p : Pr), (∀ q ∈ l, Gk q.1) → Gk p.1 → (∀ q ∈ l, q.1 ≠ p.1) → Asc (l.map (·.1)) → Asc ((insS l p).map (·.1)) ∧ ∀ a, a ∈ insS l p ↔ a = p ∨ a ∈ l
  | [], p, _, _, _, _ => ⟨by simp [insS, insK, Asc], fun a => by simp [insS, insK]⟩
  | q :: l, p, hl, hp, hn, ha => by
    obtain ⟨a1, a2⟩ := List.pairwise_cons.mp (show (q.1 :: l.map (·.1)).Pairwise (fun p q => rls p q = true) from ha)
    have hq := hl q List.mem_cons_self
    cases e : rls q.1 p.1 with
    | true =>
      have ek : insK p (q :: l) = insK p l + 1 := by simp [insK, List.filter_cons, e]
      have ei : insS (q :: l) p = q :: insS l p := by simp [insS, ek]
      obtain ⟨h1, h2⟩ := ins_ok l p (fun r hr => hl r (List.mem_cons_of_mem _ hr)) hp (fun r hr => hn r (List.mem_cons_of_mem _ hr)) a2
      rw [ei]
      refine ⟨List.pairwise_cons.mpr ⟨fun r hr => ?_, h1⟩, fun a => ?_⟩
      · obtain ⟨z, hz, rfl⟩ := List.mem_map.mp hr
        rcases (h2 z).mp hz with rfl | hz
        · exact e
        · exact a1 z.1 (List.mem_map_of_mem hz)
      · rw [List.mem_cons, h2 a, List.mem_cons]
        constructor
        · rintro (h | h | h)
          · exact .inr (.inl h)
          · exact .inl h
          · exact .inr (.inr h)
        · rintro (h | h | h)
          · exact .inr (.inl h)
          · exact .inl h
          · exact .inr (.inr h)
    | false =>
      have hpq : rls p.1 q.1 = true := rls_tri hp hq e (fun z => hn q List.mem_cons_self z.symm)
      have hf : (l.filter fun r => rls r.1 p.1) = [] := by
        refine List.filter_eq_nil_iff.mpr fun r hr z => ?_
        have hr' := hl r (List.mem_cons_of_mem _ hr)
        have := rls_trans hq.p hr'.p hp.p (a1 r.1 (List.mem_map_of_mem hr)) z
        rw [this] at e; cases e
      have ek : insK p (q :: l) = 0 := by simp [insK, List.filter_cons, e, hf]
      have ei : insS (q :: l) p = p :: q :: l := by simp [insS, ek]
      rw [ei]
      refine ⟨List.pairwise_cons.mpr ⟨fun r hr => ?_, ha⟩, fun a => by rw [List.mem_cons]⟩
      rcases List.mem_cons.mp hr with rfl | hr
      · exact hpq
      · obtain ⟨z, hz, rfl⟩ := List.mem_map.mp hr
        exact rls_trans hp.p hq.p (hl z (List.mem_cons_of_mem _ hz)).p hpq (a1 z.1 (List.mem_map_of_mem hz))
theorem inS_ok : ∀ (D l : List Pr), (∀ q ∈ D, Gk q.1) → (∀ q ∈ l, Gk q.1) → (D.map (·.1)).Nodup → (∀ q ∈ l, ∀ r ∈ D, q.1 ≠ r.1) → Asc (l.map (·.1)) → Asc ((D.foldl insS l).map (·.1)) ∧ ∀ a, a ∈ D.foldl insS l ↔ a ∈ D ∨ a ∈ l
  | [], l, _, _, _, _, ha => ⟨ha, fun a => by simp⟩
  | p :: D, l, hD, hl, hn, hd, ha => by
    rw [List.map_cons, List.nodup_cons] at hn
    obtain ⟨h1, h2⟩ := ins_ok l p hl (hD p List.mem_cons_self) (fun q hq => hd q hq p List.mem_cons_self) ha
    obtain ⟨h3, h4⟩ := inS_ok D (insS l p) (fun q hq => hD q (List.mem_cons_of_mem _ hq)) (fun q hq => by
      rcases (h2 q).mp hq with rfl | hq
      · exact hD _ List.mem_cons_self
      · exact hl q hq) hn.2 (fun q hq r hr => by
      rcases (h2 q).mp hq with rfl | hq
      · exact fun e => hn.1 (by rw [e]; exact List.mem_map_of_mem hr)
      · exact hd q hq r (List.mem_cons_of_mem _ hr)) h1
    refine ⟨h3, fun a => ?_⟩
    show a ∈ D.foldl insS (insS l p) ↔ _
    rw [h4 a, h2 a, List.mem_cons]
    constructor
    · rintro (h | h | h)
      · exact .inl (.inr h)
      · exact .inl (.inl h)
      · exact .inr h
    · rintro ((h | h) | h)
      · exact .inr (.inl h)
      · exact .inl h
      · exact .inr (.inr h)
end K21

set_option exponentiation.threshold 10000
namespace K21
open PySem PySem.Spec PyProof.Rows L2 Py
/-! ### draws -/
theorem tk_at {d : Nat} (hd' : 1 ≤ d) (w : W) (m : Int) (hw : DW w) (h0 : 0 < m) (h1 : m ≤ 100) : ∃ r w', 0 ≤ r ∧ r < m ∧ DW w' ∧ rn d 24 [w, .int m] = .ret (.int r) false [w'] := by
  obtain ⟨d, rfl⟩ : ∃ e, d = e + 1 := ⟨d - 1, by omega⟩
  show ∃ r w', 0 ≤ r ∧ r < m ∧ DW w' ∧ run fsd tkL gg (d + 1) 24 _ = _
  rw [run_at (fd := FD_tk) rfl rfl]
  exact tk_ok _ _ _ hw h0 (sm_of_lt (Nat.lt_of_lt_of_le (show m.natAbs < 2 ^ 7 by omega) (by decide +kernel)) (by decide))
theorem lw_at' {d : Nat} (hd' : 1 ≤ d) {a b : Int} (hb : b ≠ 0) (h1 : a.natAbs < 1000) (h2 : b.natAbs < 1000) : rn d 25 [.int a, .int b] = .ret (rt (low a b)) false [] := by
  obtain ⟨d, rfl⟩ : ∃ e, d = e + 1 := ⟨d - 1, by omega⟩
  show run fsd tkL gg (d + 1) 25 _ = _
  rw [run_at (fd := FD_lwl) rfl rfl]
  exact lwl_ok _ _ _ a b hb (sm_of_lt (Nat.lt_of_lt_of_le (show a.natAbs < 2 ^ 10 by omega) (by decide +kernel)) (by decide)) (sm_of_lt (Nat.lt_of_lt_of_le (show b.natAbs < 2 ^ 10 by omega) (by decide +kernel)) (by decide)) lgg
theorem gn_all : ∀ (r : Fin 13) (q : Fin 3), rtB (low ((r.val : Int) - 6) (1 + (q.val : Int))) = true := by decide +kernel
theorem gn_ok {r q : Int} (h1 : 0 ≤ r) (h2 : r < 13) (h3 : 0 ≤ q) (h4 : q < 3) : rtB (low (r - 6) (1 + q)) = true := by
  have := gn_all ⟨r.toNat, by omega⟩ ⟨q.toNat, by omega⟩
  rwa [show ((r.toNat : Nat) : Int) = r by omega, show ((q.toNat : Nat) : Int) = q by omega] at this
theorem q32 {d : Nat} (hd : 2 ≤ d) (w : W) (hw : DW w) : ∃ p w', rtB p = true ∧ DW w' ∧ rn d 32 [w] = .ret (rt p) false [w'] := by
  obtain ⟨d, rfl⟩ : ∃ e, d = e + 1 := ⟨d - 1, by omega⟩
  obtain ⟨r, w1, r0, r1, hw1, e1⟩ := tk_at (d := d) (by omega) w 13 hw (by decide) (by decide)
  obtain ⟨q, w2, q0, q1, hw2, e2⟩ := tk_at (d := d) (by omega) w1 3 hw1 (by decide) (by decide)
  refine ⟨low (r - 6) (1 + q), w2, gn_ok r0 r1 q0 q1, hw2, ?_⟩
  have e3 := lw_at' (d := d) (by omega) (a := r - 6) (b := 1 + q) (by omega) (by omega) (by omega)
  have s1 : opW .sub (.int r) (.int 6) = some (.int (r - 6), false) := rfl
  have s2 : opW .add (.int 1) (.int q) = some (.int (1 + q), false) := rfl
  show run fsd tkL gg (d + 1) 32 _ = _
  rw [run_at (fd := I__law_gain.fd) rfl rfl]
  show ofS I__law_gain.fd (xs (rn d) tkL gg S__law_gain [some (w, .io)]) = _
  generalize rt (low (r - 6) (1 + q)) = z at e3 ⊢
  generalize rn d = C at *
  simp [Py.xs, Py.ev, Py.SO.thn, Py.wOf, Py.l1, Py.l2, Py.lL, Py.ress, Py.res, Py.ofO, Py.bW, Py.trO, Py.truth, Py.isTy, Py.callW, Py.shM, Py.shr, Py.shrs, Py.ioW, Py.ioB, Py.ofE, Py.asA, Py.setN, Py.fixA, Py.asAs, Py.retA, Py.ofS, Py.ioE, Py.stepV, Py.stepE, Py.asP, Py.wpE, Py.rsE, Py.lkE, Py.lkE1, Py.ulE, Py.ulE1, S__law_gain, e1, e2, e3, s1, s2, I__law_gain]
theorem rtB_cn {p : Q2} (h : rtB p = true) : Cn p := by
  obtain ⟨h1, h2, _, _⟩ := rtB_ok h
  unfold Cn low
  rw [if_pos (by omega), h2]
  simp
theorem rtB_k {p : Q2} (h : rtB p = true) : Gk p := ⟨rtB_cn h, (rtB_bd h).up (by decide)⟩
/-! ### the least first, again and again -/
theorem ne_R (a b : Q2) : cmpW .ne (rt a) (rt b) = some (!decide (a = b)) := by
  show (if eqOk (rt a) (rt b) then some (!eqW (rt a) (rt b)) else none) = _
  rw [if_pos (show eqOk (rt a) (rt b) = true from rfl), eqR]
theorem eq_R (a b : Q2) : cmpW .eq (rt a) (rt b) = some (decide (a = b)) := by
  show (if eqOk (rt a) (rt b) then some (eqW (rt a) (rt b)) else none) = _
  rw [if_pos (show eqOk (rt a) (rt b) = true from rfl), eqR]
theorem mem_R (a : Q2) : ∀ l : List Q2, memW (rt a) (l.map rt) = decide (a ∈ l)
  | [] => rfl
  | b :: l => by
    have ih := mem_R a l
    unfold memW at ih ⊢
    rw [List.map_cons, List.any_cons, ih, eqR]
    by_cases h : b = a
    · subst h; simp
    · have h' : ¬ a = b := fun z => h z.symm
      simp [h, h']
theorem nin_R (a : Q2) (l : List Q2) : cmpW .nin (rt a) (.lst (l.map rt)) = some (!decide (a ∈ l)) := by
  show (if dep (rt a) ≤ 60 ∧ deps (l.map rt) ≤ 60 then some (!memW (rt a) (l.map rt)) else none) = _
  rw [if_pos ⟨by show 1 ≤ 60; decide, Nat.le_trans (deps_rt l) (by decide)⟩, mem_R]
theorem ne_nil (l : List Q2) : cmpW .ne (.lst (l.map rt)) (.lst []) = some (!l.isEmpty) := by
  have hd := deps_rt l
  show (if eqOk (.lst (l.map rt)) (.lst []) then some (!eqW (.lst (l.map rt)) (.lst [])) else none) = _
  rw [if_pos (by simp [eqOk, dep, deps]; omega)]
  cases l <;> simp [eqW, eqWs]
def selF (G : List Q2) : List Q2 := G.filter fun g => !decide (g = leR G)
theorem selF_mem {G : List Q2} {x : Q2} : x ∈ selF G ↔ x ∈ G ∧ x ≠ leR G := by
  unfold selF
  rw [List.mem_filter]
  simp
theorem sel_loop {t : Py.Env → Out Bool} {b : Py.Env → SO} {env : List Q2 → List Q2 → Y → Py.Env}
    (ht0 : ∀ O y, t (env [] O y) = .ok false (env [] O y)) (ht1 : ∀ G O y, G ≠ [] → t (env G O y) = .ok true (env G O y))
    (hb : ∀ G O y, G ≠ [] → (∀ p ∈ G, Gk p) → G.length ≤ 50 → O.length ≤ 50 → plainS y = true → b (env G O y) = .nx (env (selF G) (O ++ [leR G]) (some (rt (leR G), .sh)))) :
    ∀ (n : Nat) (G O : List Q2) (y : Y), G.length < n → (∀ p ∈ G, Gk p) → G.length + O.length ≤ 50 → plainS y = true →
      ∃ o y', plainS y' = true ∧ whlL t b n (env G O y) = .nx (env [] (O ++ o) y') ∧ Asc o ∧ (∀ x, x ∈ o ↔ x ∈ G) ∧ o.length ≤ G.length
  | 0, G, O, y, h, _, _, _ => by omega
  | n + 1, [], O, y, _, _, _, hy => by
    refine ⟨[], y, hy, ?_, List.Pairwise.nil, fun x => Iff.rfl, Nat.le_refl _⟩
    show SO.bnd (t (env [] O y)) _ = _
    rw [ht0, List.append_nil]
    rfl
  | n + 1, a :: r, O, y, h, hG, hz, hy => by
    have h0 : a :: r ≠ [] := by simp
    obtain ⟨m1, m2⟩ := leR_min h0 hG
    have hstep := hb (a :: r) O y h0 hG (by omega) (by omega) hy
    have ht := ht1 (a :: r) O y h0
    generalize a :: r = G at *
    have hlt : (selF G).length < G.length := by
      rcases Nat.lt_or_ge (selF G).length G.length with q | q
      · exact q
      · have e := List.length_filter_eq_length_iff.mp (Nat.le_antisymm (List.length_filter_le (fun g => !decide (g = leR G)) G) q) (leR G) m1
        simp at e
    have hG' : ∀ p ∈ selF G, Gk p := fun p hp => hG p (selF_mem.mp hp).1
    obtain ⟨o, y', h1, h2, h3, h4, h5⟩ := sel_loop ht0 ht1 hb n (selF G) (O ++ [leR G]) (some (rt (leR G), .sh)) (by omega) hG' (by rw [List.length_append, List.length_singleton]; omega) rfl
    refine ⟨leR G :: o, y', h1, ?_, List.pairwise_cons.mpr ⟨fun x hx => ?_, h3⟩, fun x => ?_, by rw [List.length_cons]; omega⟩
    · show SO.bnd (t (env G O y)) _ = _
      rw [ht]
      show (match b (env G O y) with
        | .nx ρ2 => whlL t b n ρ2
        | .ct ρ2 => whlL t b n ρ2
        | .bk ρ2 => .nx ρ2
        | o => o) = _
      rw [hstep]
      show whlL t b n _ = _
      rw [h2, List.append_assoc]
      rfl
    · obtain ⟨x1, x3⟩ := selF_mem.mp ((h4 x).mp hx)
      exact rls_tri (hG _ m1) (hG x x1) (m2 x x1) (fun z => x3 z.symm)
    · rw [List.mem_cons, h4 x, selF_mem]
      constructor
      · rintro (rfl | ⟨h, _⟩)
        · exact m1
        · exact h
      · intro h
        by_cases e : x = leR G
        · exact .inl e
        · exact .inr ⟨h, e⟩
theorem ggt : 1000 < gg := by
  have : (1001 : Nat) ≤ 2 ^ 9000 := by decide +kernel
  exact Nat.lt_of_lt_of_le (by decide : 1000 < 1001) (Nat.le_trans this lgg)
/-! ### the spread that the law draws -/
def e9 (w : W) (m : Int) (G : List Q2) (k gn : Y) (o6 : Y) (y7 y8 : Y) (o : Y) : Py.Env := [some (w, .io), some (.int m, .sh), some (.lst (G.map rt), .own), k, gn, o, o6, y7, y8]
def sdB : S := (.seq (.asn 4 (.call 32 [true] (.cons (.var 0) .nil))) (.seq (.asn 2 (.op .add (.var 2) (.ite (.cmp .nin (.var 4) (.var 2)) (.lst (.cons (.var 4) .nil)) (.lst .nil)))) .nil))
def Lw : E := (.lc (.var 4) (.n 4) (.cmp .ne (.var 4) (.var 6)) .seq (.cons (.var 2) .nil) [4])
def wlB (e0 : E) : S := (.seq (.asn 6 (.call 31 [false, false] (.cons (.var 2) (.cons (.neg (.con (.int 1))) .nil)))) (.seq (.mut .append 5 (.cons (.var 6) .nil)) (.seq (.asn 2 e0) .nil)))
def wlT : E := (.cmp .ne (.var 2) (.lst .nil))
def Lwt : E := (.lc (.op .add (.con (.int 1)) (.call 24 [true, false] (.cons (.var 0) (.cons (.con (.int 4)) .nil)))) (.n 4) .nil .seq (.cons (.var 5) .nil) [4])
def Lfin : E := (.lc (.tup (.cons (.var 4) (.cons (.call 25 [false, false] (.cons (.var 8) (.cons (.bi .sum (.cons (.var 7) .nil)) .nil))) .nil))) (.t (.cons (.n 4) (.cons (.n 8) .nil))) .nil .zip (.cons (.var 5) (.cons (.var 7) .nil)) [4, 8])
theorem S_law_spread_is : S__law_spread = .seq (.asn 2 (.lst .nil)) (.seq (.for_ (.n 3) .rng (.cons (.op .add (.con (.int 1)) (.call 24 [true, false] (.cons (.var 0) (.cons (.var 1) .nil)))) .nil) sdB) (.seq (.asn 5 (.lst .nil)) (.seq (.whl wlT (wlB Lw)) (.seq (.asn 7 Lwt) (.seq (.ret (.bi .tuple (.cons Lfin .nil))) .nil))))) := rfl
theorem sd_body {d : Nat} (hd : 6 ≤ d) (w : W) (hw : DW w) (m : Int) (G : List Q2) (hz : G.length ≤ 20) (i gn : Y) (hg : plainS gn = true) :
    ∃ p w', rtB p = true ∧ DW w' ∧ xs (rn d) tkL gg sdB (e9 w m G i gn none none none none) = .nx (e9 w' m (if p ∈ G then G else G ++ [p]) i (some (rt p, .sh)) none none none none) := by
  obtain ⟨p, w', hp, hw', e1⟩ := q32 (d := d) (by omega) w hw
  refine ⟨p, w', hp, hw', ?_⟩
  have hn := nin_R p G
  have g1 := isD_rt p
  have o1 : opW .add (.lst (G.map rt)) (.lst [rt p]) = some (.lst ((G ++ [p]).map rt), true) := by
    show (if (G.map rt).length + [rt p].length ≤ szL then some (W.lst (G.map rt ++ [rt p]), true) else none) = _
    rw [if_pos (by rw [List.length_map]; simp only [List.length_cons, List.length_nil]; unfold szL; omega), List.map_append]
    rfl
  have o2 : opW .add (.lst (G.map rt)) (.lst []) = some (.lst (G.map rt), true) := by
    show (if (G.map rt).length + ([] : List W).length ≤ szL then some (W.lst (G.map rt ++ []), true) else none) = _
    rw [if_pos (by rw [List.length_map]; simp only [List.length_nil]; unfold szL; omega), List.append_nil]
  have h1 : xs (rn d) tkL gg (.asn 4 (.call 32 [true] (.cons (.var 0) .nil))) (e9 w m G i gn none none none none) = .nx (e9 w' m G i (some (rt p, .sh)) none none none none) := by
    unfold e9
    generalize rt p = pw at *
    generalize G.map rt = z at *
    generalize rn d = C at *
    match gn, hg with
    | none, _ => simp [Py.xs, Py.ev, Py.SO.thn, Py.wOf, Py.l1, Py.l2, Py.lL, Py.ress, Py.res, Py.ofO, Py.bW, Py.trO, Py.truth, Py.isTy, Py.callW, Py.shM, Py.shr, Py.shrs, Py.ioW, Py.ioB, Py.ofE, Py.asA, Py.setN, Py.fixA, Py.asAs, Py.retA, Py.ofS, Py.ioE, Py.stepV, Py.stepE, Py.asP, Py.wpE, Py.rsE, Py.lkE, Py.lkE1, Py.ulE, Py.ulE1, e1]
    | some (_, .sh), _ => simp [Py.xs, Py.ev, Py.SO.thn, Py.wOf, Py.l1, Py.l2, Py.lL, Py.ress, Py.res, Py.ofO, Py.bW, Py.trO, Py.truth, Py.isTy, Py.callW, Py.shM, Py.shr, Py.shrs, Py.ioW, Py.ioB, Py.ofE, Py.asA, Py.setN, Py.fixA, Py.asAs, Py.retA, Py.ofS, Py.ioE, Py.stepV, Py.stepE, Py.asP, Py.wpE, Py.rsE, Py.lkE, Py.lkE1, Py.ulE, Py.ulE1, e1]
  unfold sdB
  rw [seq_nx h1]
  unfold e9
  by_cases h : p ∈ G
  · rw [decide_eq_true h] at hn
    rw [if_pos h]
    generalize rt p = pw at *
    generalize G.map rt = z at *
    generalize rn d = C at *
    simp [Py.xs, Py.ev, Py.SO.thn, Py.wOf, Py.l1, Py.l2, Py.lL, Py.ress, Py.res, Py.ofO, Py.bW, Py.trO, Py.truth, Py.isTy, Py.callW, Py.shM, Py.shr, Py.shrs, Py.ioW, Py.ioB, Py.ofE, Py.asA, Py.setN, Py.fixA, Py.asAs, Py.retA, Py.ofS, Py.ioE, Py.stepV, Py.stepE, Py.asP, Py.wpE, Py.rsE, Py.lkE, Py.lkE1, Py.ulE, Py.ulE1, hn, o2]
  · rw [decide_eq_false h] at hn
    rw [if_neg h]
    generalize (G ++ [p]).map rt = z2 at *
    generalize rt p = pw at *
    generalize G.map rt = z at *
    generalize rn d = C at *
    simp [Py.xs, Py.ev, Py.SO.thn, Py.wOf, Py.l1, Py.l2, Py.lL, Py.ress, Py.res, Py.ofO, Py.bW, Py.trO, Py.truth, Py.isTy, Py.callW, Py.shM, Py.shr, Py.shrs, Py.ioW, Py.ioB, Py.ofE, Py.asA, Py.setN, Py.fixA, Py.asAs, Py.retA, Py.ofS, Py.ioE, Py.stepV, Py.stepE, Py.asP, Py.wpE, Py.rsE, Py.lkE, Py.lkE1, Py.ulE, Py.ulE1, hn, o1, g1, ↓if_sz1]
theorem wl_t (C : Fn) (w : W) (m : Int) (G : List Q2) (i gn o6 y7 y8 o : Y) : (ev C wlT).t (e9 w m G i gn o6 y7 y8 o) = .ok (!G.isEmpty) (e9 w m G i gn o6 y7 y8 o) := by
  have hn := ne_nil G
  unfold e9 wlT
  generalize (!G.isEmpty) = b at *
  generalize G.map rt = z at *
  simp [Py.xs, Py.ev, Py.SO.thn, Py.wOf, Py.l1, Py.l2, Py.lL, Py.ress, Py.res, Py.ofO, Py.bW, Py.trO, Py.truth, Py.isTy, Py.callW, Py.shM, Py.shr, Py.shrs, Py.ioW, Py.ioB, Py.ofE, Py.asA, Py.setN, Py.fixA, Py.asAs, Py.retA, Py.ofS, Py.ioE, Py.stepV, Py.stepE, Py.asP, Py.wpE, Py.rsE, Py.lkE, Py.lkE1, Py.ulE, Py.ulE1, hn]
theorem wl_body {d : Nat} (hd : 6 ≤ d) (w : W) (m : Int) (G O : List Q2) (h0 : G ≠ []) (hG : ∀ p ∈ G, Gk p) (hz : G.length ≤ 50) (hzO : O.length ≤ 50) (i gn y6 : Y) (hy : plainS y6 = true) :
    xs (rn d) tkL gg (wlB Lw) (e9 w m G i gn y6 none none (some (.lst (O.map rt), .own))) = .nx (e9 w m (selF G) i gn (some (rt (leR G), .sh)) none none (some (.lst ((O ++ [leR G]).map rt), .own))) := by
  have c1 := f31l hd (fun p hp => (hG p hp).g) h0
  have g1 := isD_rt (leR G)
  have hk : mutOk (some (.lst (O.map rt), .own)) = true := rfl
  have hm : mutW .append (.lst (O.map rt)) [rt (leR G)] = some (.lst ((O ++ [leR G]).map rt)) := by
    show (if (O.map rt).length < szL then some (W.lst (O.map rt ++ [rt (leR G)])) else none) = _
    rw [if_pos (by rw [List.length_map]; unfold szL; omega), List.map_append]
    rfl
  have x1 : xs (rn d) tkL gg (.asn 6 (.call 31 [false, false] (.cons (.var 2) (.cons (.neg (.con (.int 1))) .nil)))) (e9 w m G i gn y6 none none (some (.lst (O.map rt), .own))) = .nx [some (w, .io), some (.int m, .sh), some (.lst (G.map rt), .sh), i, gn, some (.lst (O.map rt), .own), some (rt (leR G), .sh), none, none] := by
    unfold e9
    generalize rt (leR G) = lw at *
    generalize G.map rt = z at *
    generalize rn d = C at *
    match y6, hy with
    | none, _ => simp [Py.xs, Py.ev, Py.SO.thn, Py.wOf, Py.l1, Py.l2, Py.lL, Py.ress, Py.res, Py.ofO, Py.bW, Py.trO, Py.truth, Py.isTy, Py.callW, Py.shM, Py.shr, Py.shrs, Py.ioW, Py.ioB, Py.ofE, Py.asA, Py.setN, Py.fixA, Py.asAs, Py.retA, Py.ofS, Py.ioE, Py.stepV, Py.stepE, Py.asP, Py.wpE, Py.rsE, Py.lkE, Py.lkE1, Py.ulE, Py.ulE1, c1]
    | some (_, .sh), _ => simp [Py.xs, Py.ev, Py.SO.thn, Py.wOf, Py.l1, Py.l2, Py.lL, Py.ress, Py.res, Py.ofO, Py.bW, Py.trO, Py.truth, Py.isTy, Py.callW, Py.shM, Py.shr, Py.shrs, Py.ioW, Py.ioB, Py.ofE, Py.asA, Py.setN, Py.fixA, Py.asAs, Py.retA, Py.ofS, Py.ioE, Py.stepV, Py.stepE, Py.asP, Py.wpE, Py.rsE, Py.lkE, Py.lkE1, Py.ulE, Py.ulE1, c1]
  have x2 : xs (rn d) tkL gg (.mut .append 5 (.cons (.var 6) .nil)) [some (w, .io), some (.int m, .sh), some (.lst (G.map rt), .sh), i, gn, some (.lst (O.map rt), .own), some (rt (leR G), .sh), none, none] = .nx [some (w, .io), some (.int m, .sh), some (.lst (G.map rt), .sh), i, gn, some (.lst ((O ++ [leR G]).map rt), .own), some (rt (leR G), .sh), none, none] := by
    generalize (O ++ [leR G]).map rt = z2 at *
    generalize rt (leR G) = lw at *
    generalize G.map rt = z at *
    generalize O.map rt = z3 at *
    generalize rn d = C at *
    simp [Py.xs, Py.ev, Py.SO.thn, Py.wOf, Py.l1, Py.l2, Py.lL, Py.ress, Py.res, Py.ofO, Py.bW, Py.trO, Py.truth, Py.isTy, Py.callW, Py.shM, Py.shr, Py.shrs, Py.ioW, Py.ioB, Py.ofE, Py.asA, Py.setN, Py.fixA, Py.asAs, Py.retA, Py.ofS, Py.ioE, Py.stepV, Py.stepE, Py.asP, Py.wpE, Py.rsE, Py.lkE, Py.lkE1, Py.ulE, Py.ulE1, hk, hm, mutE, g1]
  have e := lc_g1 (C := rn d) (elt := .var 4) (t := (.cmp .ne (.var 4) (.var 6))) (es := .cons (.var 2) .nil) (ρ := [some (w, .io), some (.int m, .sh), some (.lst (G.map rt), .sh), i, gn, some (.lst ((O ++ [leR G]).map rt), .own), some (rt (leR G), .sh), none, none]) (ρL := [some (w, .io), some (.int m, .sh), some (.lst (G.map rt), .sh), i, gn, some (.lst ((O ++ [leR G]).map rt), .own), some (rt (leR G), .sh), none, none]) (us := [.slot 2]) (K := .seq) (a := 4) (l := G) (u := rt) (k := fun q => !decide (q = leR G)) (f := rt) (by simp) rfl rfl rfl rfl (by omega) (fun q hq => by
    have c1 := ne_R q (leR G)
    have g2 := isD_rt q
    generalize decide (q = leR G) = b at *
    generalize (O ++ [leR G]).map rt = z2 at *
    generalize rt (leR G) = lw at *
    generalize rt q = qw at *
    generalize G.map rt = z at *
    generalize rn d = C at *
    cases b <;> simp [Py.xs, Py.ev, Py.SO.thn, Py.wOf, Py.l1, Py.l2, Py.lL, Py.ress, Py.res, Py.ofO, Py.bW, Py.trO, Py.truth, Py.isTy, Py.callW, Py.shM, Py.shr, Py.shrs, Py.ioW, Py.ioB, Py.ofE, Py.asA, Py.setN, Py.fixA, Py.asAs, Py.retA, Py.ofS, Py.ioE, Py.stepV, Py.stepE, Py.asP, Py.wpE, Py.rsE, Py.lkE, Py.lkE1, Py.ulE, Py.ulE1, S1, c1, g2])
  have x3 : xs (rn d) tkL gg (.asn 2 Lw) [some (w, .io), some (.int m, .sh), some (.lst (G.map rt), .sh), i, gn, some (.lst ((O ++ [leR G]).map rt), .own), some (rt (leR G), .sh), none, none] = .nx (e9 w m (selF G) i gn (some (rt (leR G), .sh)) none none (some (.lst ((O ++ [leR G]).map rt), .own))) := by
    have e1 : xs (rn d) tkL gg (.asn 2 Lw) [some (w, .io), some (.int m, .sh), some (.lst (G.map rt), .sh), i, gn, some (.lst ((O ++ [leR G]).map rt), .own), some (rt (leR G), .sh), none, none] = SO.bnd ((ev (rn d) Lw).x [some (w, .io), some (.int m, .sh), some (.lst (G.map rt), .sh), i, gn, some (.lst ((O ++ [leR G]).map rt), .own), some (rt (leR G), .sh), none, none]) fun a ρ1 => ofE (asA 2 a ρ1) := rfl
    rw [e1, show (ev (rn d) Lw).x [some (w, .io), some (.int m, .sh), some (.lst (G.map rt), .sh), i, gn, some (.lst ((O ++ [leR G]).map rt), .own), some (rt (leR G), .sh), none, none] = _ from e]
    rfl
  unfold wlB
  rw [seq_nx x1, seq_nx x2]
  exact (seq_nx x3).trans rfl
end K21

set_option exponentiation.threshold 10000
namespace K21
open PySem PySem.Spec PyProof.Rows L2 Py
theorem rng_nat {k : Nat} (h : k ≤ 1000) : itW .rng [.int (k : Int)] = some (rngL k 0) := by
  show (if okR (k : Int) = true ∧ (k : Int) ≤ szL then some (rngL (k : Int).toNat 0) else none) = _
  rw [if_pos ⟨decide_eq_true ⟨by omega, by omega⟩, by unfold szL; omega⟩]
  rfl
theorem rng_b {ρ : Py.Env} {k : Nat} {fr : Bool} (h : k ≤ 1000) : (ress ρ [.val (.int (k : Int)) fr]).bind (itW .rng) = some (rngL k 0) := by
  have e : ress ρ [.val (.int (k : Int)) fr] = some [.int (k : Int)] := rfl
  rw [e, Option.bind_some]
  exact rng_nat h
theorem foldl_add : ∀ (xs : List Int) (a : Int), xs.foldl (· + ·) a = a + xs.foldl (· + ·) 0
  | [], a => by simp
  | x :: r, a => by
    simp only [List.foldl_cons]
    rw [foldl_add r (a + x), foldl_add r (0 + x)]
    omega
theorem sumI_ints : ∀ xs : List Int, sumI (xs.map W.int) = some (xs.foldl (· + ·) 0)
  | [] => rfl
  | x :: r => by
    simp only [List.map_cons, sumI, sumI_ints r, Option.map_some, List.foldl_cons]
    rw [foldl_add r (0 + x)]
    simp
theorem ex_map {α : Type} {e : α → W} {P : α → Prop} : ∀ {ys : List W}, (∀ y ∈ ys, ∃ d, y = e d ∧ P d) → ∃ s : List α, ys = s.map e ∧ ∀ d ∈ s, P d
  | [], _ => ⟨[], rfl, by simp⟩
  | y :: r, h => by
    obtain ⟨d, rfl, h1⟩ := h y List.mem_cons_self
    obtain ⟨s, rfl, h2⟩ := ex_map fun z hz => h z (List.mem_cons_of_mem _ hz)
    exact ⟨d :: s, rfl, fun z hz => by
      rcases List.mem_cons.mp hz with rfl | hz
      · exact h1
      · exact h2 z hz⟩
theorem lc_g2L {C : Fn} {elt t es : E} {ρ ρL : Py.Env} {us : List Py.Arg} {K : IK} {a b : Nat} {α : Type} {l : List α} {u v : α → W} {k : α → Bool} {f : α → W} (hab : a ≠ b) (la : a < ρL.length) (lb : b < ρL.length) (har : (ev C es).a ρ = .ok us ρ) (hres : (ress ρ us).bind (itW K) = some (l.map fun p => .tup [u p, v p])) (hlk : lkE ρ us = ρL) (hul : ulE ρ ρL us = ρ) (hz : l.length ≤ 1000)
    (hx : ∀ p ∈ l, ((ev C t).t (S2 ρL a b (u p) (v p))).bind (fun kk ρ2 => if kk then stepV (ev C elt).x ρ2 else .ok none ρ2) = .ok (if k p then some (f p) else none) (S2 ρL a b (u p) (v p))) :
    (ev C (.lc elt (.t (.cons (.n a) (.cons (.n b) .nil))) t K es [a, b])).x ρ = .ok (.val (.lst ((l.filter k).map f)) true) ρ := by
  have ea : ρL[a]? = some ρL[a] := by simp [la]
  have eb : ρL[b]? = some ρL[b] := by simp [lb]
  obtain ⟨ρ', e1, x, y, e2⟩ := lcL_fm (step := stepE [a, b] (.t (.cons (.n a) (.cons (.n b) .nil))) (ev C t).t (ev C elt).x) (e := fun p => .tup [u p, v p]) (k := k) (f := f) (I := fun ρ' => ∃ x y, ρ' = (ρL.set a x).set b y) (l := l) (acc := []) (ρ := ρL)
    (fun p hp ρ' ⟨x, y, hρ⟩ => by
      subst hρ
      refine ⟨S2 ρL a b (u p) (v p), ?_, _, _, rfl⟩
      unfold stepE
      rw [asP2' hab la lb]
      exact hx p hp) ⟨ρL[a], ρL[b], by rw [set_eq ea, set_eq eb]⟩
  subst e2
  rw [lc_ok (us := us) har hres (by rw [List.length_map]; unfold szL; omega) (by rw [hlk]; exact e1), hlk, rs2 hab la lb, hul]
  simp
/-! ### weights -/
def tot (vs : List Int) : Int := vs.foldl (· + ·) 0
def chk (vs : List Int) : Bool :=
  decide (tot vs ≠ 0) && decide ((tot vs).natAbs < 1000) && vs.all (fun v => rtB (low v (tot vs)) && decide (1 ≤ (low v (tot vs)).1) && decide ((low v (tot vs)).1 ≤ (low v (tot vs)).2)) && decide (sumR (0, 1) (vs.map fun v => low v (tot vs)) = (1, 1))
theorem chk1 : ∀ a : Fin 4, chk [(a.val : Int) + 1] = true := by decide +kernel
theorem chk2 : ∀ a b : Fin 4, chk [(a.val : Int) + 1, (b.val : Int) + 1] = true := by decide +kernel
theorem chk3 : ∀ a b c : Fin 4, chk [(a.val : Int) + 1, (b.val : Int) + 1, (c.val : Int) + 1] = true := by decide +kernel
theorem chk4 : ∀ a b c d : Fin 4, chk [(a.val : Int) + 1, (b.val : Int) + 1, (c.val : Int) + 1, (d.val : Int) + 1] = true := by decide +kernel
theorem fin_of {v : Int} (h : 1 ≤ v ∧ v ≤ 4) : ∃ a : Fin 4, v = (a.val : Int) + 1 := ⟨⟨(v - 1).toNat, by omega⟩, by simp; omega⟩
theorem chk_ok {vs : List Int} (h0 : 1 ≤ vs.length) (h4 : vs.length ≤ 4) (h : ∀ v ∈ vs, 1 ≤ v ∧ v ≤ 4) : chk vs = true := by
  match vs, h0, h4, h with
  | [x], _, _, h =>
    obtain ⟨a, ha⟩ := fin_of (h x (by simp))
    rw [ha]; exact chk1 a
  | [x, y], _, _, h =>
    obtain ⟨a, ha⟩ := fin_of (h x (by simp))
    obtain ⟨b, hb⟩ := fin_of (h y (by simp))
    rw [ha, hb]; exact chk2 a b
  | [x, y, z], _, _, h =>
    obtain ⟨a, ha⟩ := fin_of (h x (by simp))
    obtain ⟨b, hb⟩ := fin_of (h y (by simp))
    obtain ⟨c, hc⟩ := fin_of (h z (by simp))
    rw [ha, hb, hc]; exact chk3 a b c
  | [x, y, z, u], _, _, h =>
    obtain ⟨a, ha⟩ := fin_of (h x (by simp))
    obtain ⟨b, hb⟩ := fin_of (h y (by simp))
    obtain ⟨c, hc⟩ := fin_of (h z (by simp))
    obtain ⟨d, hd⟩ := fin_of (h u (by simp))
    rw [ha, hb, hc, hd]; exact chk4 a b c d
  | _ :: _ :: _ :: _ :: _ :: _, _, h4, _ => simp only [List.length_cons] at h4; omega
def spO (o : List Q2) (vs : List Int) : List Pr := (o.zip vs).map fun p => (p.1, low p.2 (tot vs))
theorem spO_1 : ∀ (o : List Q2) (vs : List Int) (T : Int), o.length = vs.length → ((o.zip vs).map fun p => (p.1, low p.2 T)).map (·.1) = o
  | [], _, _, _ => by simp
  | a :: o, [], _, h => by simp at h
  | a :: o, v :: vs, T, h => by
    have := spO_1 o vs T (by simpa using h)
    simp only [List.zip_cons_cons, List.map_cons, List.cons.injEq, true_and]
    exact this
theorem spO_2 : ∀ (o : List Q2) (vs : List Int) (T : Int), o.length = vs.length → ((o.zip vs).map fun p => (p.1, low p.2 T)).map (·.2) = vs.map fun v => low v T
  | [], [], _, _ => by simp
  | [], v :: vs, _, h => by simp at h
  | a :: o, [], _, h => by simp at h
  | a :: o, v :: vs, T, h => by
    have := spO_2 o vs T (by simpa using h)
    simp only [List.zip_cons_cons, List.map_cons, List.cons.injEq, true_and]
    exact this
theorem spO_ok {o : List Q2} {vs : List Int} (hl : o.length = vs.length) (h1 : 1 ≤ o.length) (h4 : o.length ≤ 4) (ho : Asc o) (hg : ∀ p ∈ o, rtB p = true) (hv : ∀ v ∈ vs, 1 ≤ v ∧ v ≤ 4) : Sp (spO o vs) := by
  have hc := chk_ok (vs := vs) (by omega) (by omega) hv
  unfold chk at hc
  simp only [Bool.and_eq_true, decide_eq_true_eq, List.all_eq_true] at hc
  obtain ⟨⟨⟨c1, c2⟩, c3⟩, c4⟩ := hc
  have lz : (spO o vs).length = o.length := by unfold spO; rw [List.length_map, List.length_zip, ← hl, Nat.min_self]
  have m1 := spO_1 o vs (tot vs) hl
  have m2 := spO_2 o vs (tot vs) hl
  refine ⟨by omega, by omega, fun p hp => hg _ ?_, fun p hp => ?_, ?_, ?_⟩
  · rw [← m1]; exact List.mem_map_of_mem hp
  · have : p.2 ∈ vs.map fun v => low v (tot vs) := by rw [← m2]; exact List.mem_map_of_mem hp
    obtain ⟨v, hv, e⟩ := List.mem_map.mp this
    have := c3 v hv
    rw [← e]
    exact ⟨this.1.1, this.1.2, this.2⟩
  · have : ((spO o vs).map (·.1)).Pairwise fun p q => rls p q = true := by rw [show (spO o vs).map (·.1) = o from m1]; exact ho
    exact List.pairwise_map.mp this
  · rw [show (spO o vs).map (·.2) = _ from m2]; exact c4
/-! ### weights, drawn -/
def eL (w : W) (m : Int) (i gn y6 : Y) (O : List W) (x4 : Y) (y7 y8 : Y) (f : Fl) : Py.Env := [some (w, .io), some (.int m, .sh), some (.lst [], .own), i, x4, some (.lst O, f), y6, y7, y8]
theorem wt_ok {d : Nat} (hd : 1 ≤ d) (w : W) (hw : DW w) (m : Int) (i gn y6 : Y) (O : List W) (hO : O.length ≤ 10) :
    ∃ (vs : List Int) (w' : W), vs.length = O.length ∧ (∀ v ∈ vs, 1 ≤ v ∧ v ≤ 4) ∧ DW w' ∧ (ev (rn d) Lwt).x (eL w m i gn y6 O gn none none .own) = .ok (.val (.lst (vs.map W.int)) true) (eL w' m i gn y6 O gn none none .own) := by
  obtain ⟨ys, ρ', e1, ⟨w', x', k1, rfl⟩, e3, e4⟩ := lcL_ex (step := stepE [4] (.n 4) (ev (rn d) .nil).t (ev (rn d) (.op .add (.con (.int 1)) (.call 24 [true, false] (.cons (.var 0) (.cons (.con (.int 4)) .nil))))).x) (I := fun ρ => ∃ w' x', DW w' ∧ ρ = eL w' m i gn y6 O x' none none .ownL) (P := fun y => ∃ v, y = W.int v ∧ (1 ≤ v ∧ v ≤ 4)) (its := O) (acc := []) (ρ := eL w m i gn y6 O gn none none .ownL)
    (fun k hk ρ ⟨w', x', k1, k2⟩ => by
      subst k2
      obtain ⟨r, w1, r0, r1, hw1, e1⟩ := tk_at hd w' 4 k1 (by decide) (by decide)
      refine ⟨.int (1 + r), eL w1 m i gn y6 O (some (k, .sh)) none none .ownL, ?_, ⟨w1, _, hw1, rfl⟩, 1 + r, rfl, by omega⟩
      have s1 : opW .add (.int 1) (.int r) = some (.int (1 + r), false) := rfl
      refine step_ok (ρ1 := eL w' m i gn y6 O (some (k, .sh)) none none .ownL) rfl ?_
      generalize rn d = C at *
      generalize (1 + r) = r' at *
      unfold eL
      simp [Py.xs, Py.ev, Py.SO.thn, Py.wOf, Py.l1, Py.l2, Py.lL, Py.ress, Py.res, Py.ofO, Py.bW, Py.trO, Py.truth, Py.isTy, Py.callW, Py.shM, Py.shr, Py.shrs, Py.ioW, Py.ioB, Py.ofE, Py.asA, Py.setN, Py.fixA, Py.asAs, Py.retA, Py.ofS, Py.ioE, Py.stepV, Py.stepE, Py.asP, Py.wpE, Py.rsE, Py.lkE, Py.lkE1, Py.ulE, Py.ulE1, e1, s1]) ⟨w, gn, hw, rfl⟩
  obtain ⟨vs, rfl, hs⟩ := ex_map e4
  refine ⟨vs, w', by rw [List.length_map] at e3; exact e3, hs, k1, ?_⟩
  unfold Lwt
  rw [lc_ok (its := O) (us := [.slot 5]) rfl rfl (by unfold szL; omega) e1]
  rfl
/-! ### the spread -/
theorem fin_ok {d : Nat} (hd : 1 ≤ d) (w : W) (m : Int) (i gn y6 : Y) (o : List Q2) (vs : List Int) (hl : o.length = vs.length) (h4 : o.length ≤ 4) (t0 : tot vs ≠ 0) (t1 : (tot vs).natAbs < 1000) (hv : ∀ v ∈ vs, 1 ≤ v ∧ v ≤ 4) :
    (ev (rn d) Lfin).x (eL w m i gn y6 (o.map rt) gn (some (.lst (vs.map W.int), .own)) none .own) = .ok (.val (.lst ((spO o vs).map prr)) true) (eL w m i gn y6 (o.map rt) gn (some (.lst (vs.map W.int), .own)) none .own) := by
  have hs : biW .sum [.lst (vs.map W.int)] = some (.int (tot vs), false) := by
    show (sumI (vs.map W.int)).map _ = _
    rw [sumI_ints]
    rfl
  have zz : ∀ (o : List Q2) (vs : List Int), zip2 (o.map rt) (vs.map W.int) = (o.zip vs).map fun p => .tup [rt p.1, .int p.2] := by
    intro o
    induction o with
    | nil => intro vs; rfl
    | cons a o ih =>
      intro vs
      cases vs with
      | nil => rfl
      | cons v vs => simp only [List.map_cons, List.zip_cons_cons, zip2, ih vs]
  have e := lc_g2L (C := rn d) (elt := (.tup (.cons (.var 4) (.cons (.call 25 [false, false] (.cons (.var 8) (.cons (.bi .sum (.cons (.var 7) .nil)) .nil))) .nil)))) (t := .nil) (es := (.cons (.var 5) (.cons (.var 7) .nil))) (ρ := eL w m i gn y6 (o.map rt) gn (some (.lst (vs.map W.int), .own)) none .own) (ρL := eL w m i gn y6 (o.map rt) gn (some (.lst (vs.map W.int), .ownL)) none .ownL) (us := [.slot 5, .slot 7]) (K := .zip) (a := 4) (b := 8) (l := o.zip vs) (u := fun p => rt p.1) (v := fun p => .int p.2) (k := fun _ => true) (f := fun p => prr (p.1, low p.2 (tot vs))) (by decide) (by show 4 < 9; decide) (by show 8 < 9; decide) rfl
    (by show some (zip2 (o.map rt) (vs.map W.int)) = _; rw [zz]) rfl rfl (by rw [List.length_zip]; omega) (fun p hp => by
      have hm := (List.of_mem_zip hp).2
      have c1 := lw_at' hd (a := p.2) t0 (by have := hv _ hm; omega) t1
      have g1 := isD_rt p.1
      have g2 := isD_rt (low p.2 (tot vs))
      unfold prr
      generalize rt (low p.2 (tot vs)) = w2 at *
      generalize rt p.1 = w1 at *
      generalize vs.map W.int = z at *
      generalize o.map rt = z2 at *
      generalize rn d = C at *
      generalize p.2 = p2 at *
      simp [Py.xs, Py.ev, Py.SO.thn, Py.wOf, Py.l1, Py.l2, Py.lL, Py.ress, Py.res, Py.ofO, Py.bW, Py.trO, Py.truth, Py.isTy, Py.callW, Py.shM, Py.shr, Py.shrs, Py.ioW, Py.ioB, Py.ofE, Py.asA, Py.setN, Py.fixA, Py.asAs, Py.retA, Py.ofS, Py.ioE, Py.stepV, Py.stepE, Py.asP, Py.wpE, Py.rsE, Py.lkE, Py.lkE1, Py.ulE, Py.ulE1, eL, S2, c1, hs, g1, g2, sz2])
  rw [fil_t] at e
  have em : (spO o vs).map prr = (o.zip vs).map fun p => prr (p.1, low p.2 (tot vs)) := by unfold spO; rw [List.map_map]; rfl
  rw [em]
  exact e
theorem q33 {d : Nat} (hd : 8 ≤ d) (w : W) (hw : DW w) (m : Int) (m0 : 0 < m) (m1 : m ≤ 4) : ∃ s w', Sp s ∧ DW w' ∧ rn d 33 [w, .int m] = .ret (spW s) false [w'] := by
  obtain ⟨d, rfl⟩ : ∃ e, d = e + 1 := ⟨d - 1, by omega⟩
  have h1 : xs (rn d) tkL gg (.asn 2 (.lst .nil)) [some (w, .io), some (.int m, .sh), none, none, none, none, none, none, none] = .nx (e9 w m [] none none none none none none) := by
    generalize rn d = C
    unfold e9
    simp [Py.xs, Py.ev, Py.SO.thn, Py.wOf, Py.l1, Py.l2, Py.lL, Py.ress, Py.res, Py.ofO, Py.bW, Py.trO, Py.truth, Py.isTy, Py.callW, Py.shM, Py.shr, Py.shrs, Py.ioW, Py.ioB, Py.ofE, Py.asA, Py.setN, Py.fixA, Py.asAs, Py.retA, Py.ofS, Py.ioE, Py.stepV, Py.stepE, Py.asP, Py.wpE, Py.rsE, Py.lkE, Py.lkE1, Py.ulE, Py.ulE1]
  obtain ⟨r, w1, r0, r1, hw1, e1⟩ := tk_at (d := d) (by omega) w m hw m0 (by omega)
  obtain ⟨n, rfl⟩ : ∃ n : Nat, r = n := ⟨r.toNat, by omega⟩
  have ha : (ev (rn d) (.cons (.op .add (.con (.int 1)) (.call 24 [true, false] (.cons (.var 0) (.cons (.var 1) .nil)))) .nil)).a (e9 w m [] none none none none none none) = .ok [.val (.int ((n + 1 : Nat) : Int)) false] (e9 w1 m [] none none none none none none) := by
    have e2 : opW .add (.int 1) (.int (n : Int)) = some (.int ((n + 1 : Nat) : Int), false) := by show some (W.int (1 + n), false) = _; congr 3; omega
    generalize ((n + 1 : Nat) : Int) = n1 at e2 ⊢
    generalize rn d = C at *
    unfold e9
    simp [Py.xs, Py.ev, Py.SO.thn, Py.wOf, Py.l1, Py.l2, Py.lL, Py.ress, Py.res, Py.ofO, Py.bW, Py.trO, Py.truth, Py.isTy, Py.callW, Py.shM, Py.shr, Py.shrs, Py.ioW, Py.ioB, Py.ofE, Py.asA, Py.setN, Py.fixA, Py.asAs, Py.retA, Py.ofS, Py.ioE, Py.stepV, Py.stepE, Py.asP, Py.wpE, Py.rsE, Py.lkE, Py.lkE1, Py.ulE, Py.ulE1, e1, e2]
  have hf : ∃ G w' i gn, plainS gn = true ∧ DW w' ∧ (∀ p ∈ G, rtB p = true) ∧ 1 ≤ G.length ∧ G.length ≤ 4 ∧ xs (rn d) tkL gg (.for_ (.n 3) .rng (.cons (.op .add (.con (.int 1)) (.call 24 [true, false] (.cons (.var 0) (.cons (.var 1) .nil)))) .nil) sdB) (e9 w m [] none none none none none none) = .nx (e9 w' m G i gn none none none none) := by
    have hb : (ress (e9 w1 m [] none none none none none none) [.val (.int ((n + 1 : Nat) : Int)) false]).bind (itW .rng) = some (rngL (n + 1) 0) := rng_b (k := n + 1) (by omega)
    rw [for_ok ha hb]
    obtain ⟨ρ', e2, G, w', x3, x4, k1, k2, k3, k4, k5, k6, k7⟩ := forL_rng (step := stF (rn d) tkL gg (.n 3) sdB) (I := fun i ρ => ∃ G w' x3 x4, plainS x3 = true ∧ plainS x4 = true ∧ DW w' ∧ (∀ p ∈ G, rtB p = true) ∧ (0 < i → 1 ≤ G.length) ∧ (G.length : Int) ≤ i ∧ ρ = e9 w' m G x3 x4 none none none none) (n + 1) (a := 0) (ρ := e9 w1 m [] none none none none none none)
      (fun i ρ i0 i1 ⟨G, w', x3, x4, k1, k2, k3, k4, k5, k6, k7⟩ => by
        subst k7
        obtain ⟨p, w2, hp, hw2, e3⟩ := sd_body (d := d) (by omega) w' k3 m G (by omega) (some (.int i, .sh)) x4 k2
        have ea : asP (.n 3) (.int i) (e9 w' m G x3 x4 none none none none) = some (e9 w' m G (some (.int i, .sh)) x4 none none none none) := by
          match x3, k1 with
          | none, _ => rfl
          | some (_, .sh), _ => rfl
        refine ⟨e9 w2 m (if p ∈ G then G else G ++ [p]) (some (.int i, .sh)) (some (rt p, .sh)) none none none none, by rw [stF_ok ea]; exact e3, if p ∈ G then G else G ++ [p], w2, _, _, rfl, rfl, hw2, ?_, ?_, ?_, rfl⟩
        · intro q hq
          split at hq
          · exact k4 q hq
          · rcases List.mem_append.mp hq with h | h
            · exact k4 q h
            · rw [List.mem_singleton.mp h]; exact hp
        · intro _
          split
          · rename_i h; cases G with
            | nil => cases h
            | cons a r => simp
          · simp
        · split
          · omega
          · rw [List.length_append, List.length_singleton]; omega) ⟨[], w1, none, none, rfl, rfl, hw1, by simp, fun h => absurd h (by decide), by simp, rfl⟩
    refine ⟨G, w', x3, x4, k2, k3, k4, k5 (by omega), by omega, ?_⟩
    rw [show lkE (e9 w1 m [] none none none none none none) [.val (.int ((n + 1 : Nat) : Int)) false] = e9 w1 m [] none none none none none none from rfl, e2, k7]
    rfl
  obtain ⟨G, w2, i, gn, hgn, hw2, hG, l1, l4, e2⟩ := hf
  have h5 : xs (rn d) tkL gg (.asn 5 (.lst .nil)) (e9 w2 m G i gn none none none none) = .nx (e9 w2 m G i gn none none none (some (.lst (([] : List Q2).map rt), .own))) := by
    generalize rn d = C
    unfold e9
    generalize G.map rt = z
    simp [Py.xs, Py.ev, Py.SO.thn, Py.wOf, Py.l1, Py.l2, Py.lL, Py.ress, Py.res, Py.ofO, Py.bW, Py.trO, Py.truth, Py.isTy, Py.callW, Py.shM, Py.shr, Py.shrs, Py.ioW, Py.ioB, Py.ofE, Py.asA, Py.setN, Py.fixA, Py.asAs, Py.retA, Py.ofS, Py.ioE, Py.stepV, Py.stepE, Py.asP, Py.wpE, Py.rsE, Py.lkE, Py.lkE1, Py.ulE, Py.ulE1]
  obtain ⟨o, y6, hy6, e3, ho, hmem, hlen⟩ := sel_loop (t := (ev (rn d) wlT).t) (b := xs (rn d) tkL gg (wlB Lw)) (env := fun G O y => e9 w2 m G i gn y none none (some (.lst (O.map rt), .own))) (fun O y => wl_t _ _ _ [] _ _ _ _ _ _) (fun G O y h => by
      rw [wl_t]
      cases G with
      | nil => exact absurd rfl h
      | cons a r => rfl) (fun G O y h1 h2 h3 h4 h5 => wl_body (by omega) w2 m G O h1 h2 h3 h4 i gn y h5) gg G [] none (by have := ggt; omega) (fun p hp => rtB_k (hG p hp)) (by simp; omega) rfl
  rw [List.nil_append] at e3
  have hol : 1 ≤ o.length := by
    cases o with
    | nil =>
      cases G with
      | nil => simp at l1
      | cons a r => exact absurd ((hmem a).mpr (by simp)) (by simp)
    | cons a r => simp
  obtain ⟨vs, w3, hvl, hv, hw3, e4⟩ := wt_ok (d := d) (by omega) w2 hw2 m i gn y6 (o.map rt) (by rw [List.length_map]; omega)
  rw [List.length_map] at hvl
  have hc := chk_ok (vs := vs) (by omega) (by omega) hv
  unfold chk at hc
  simp only [Bool.and_eq_true, decide_eq_true_eq] at hc
  have e5 := fin_ok (d := d) (by omega) w3 m i gn y6 o vs hvl.symm (by omega) hc.1.1.1 hc.1.1.2 hv
  refine ⟨spO o vs, w3, spO_ok hvl.symm hol (by omega) ho (fun p hp => hG p ((hmem p).mp hp)) hv, hw3, ?_⟩
  have h7 : xs (rn d) tkL gg (.asn 7 Lwt) (eL w2 m i gn y6 (o.map rt) gn none none .own) = .nx (eL w3 m i gn y6 (o.map rt) gn (some (.lst (vs.map W.int), .own)) none .own) := by
    generalize rn d = C at *
    generalize vs.map W.int = z at *
    generalize o.map rt = z2 at *
    generalize Lwt = L at *
    unfold eL at *
    simp [Py.xs, Py.ev, Py.SO.thn, Py.wOf, Py.l1, Py.l2, Py.lL, Py.ress, Py.res, Py.ofO, Py.bW, Py.trO, Py.truth, Py.isTy, Py.callW, Py.shM, Py.shr, Py.shrs, Py.ioW, Py.ioB, Py.ofE, Py.asA, Py.setN, Py.fixA, Py.asAs, Py.retA, Py.ofS, Py.ioE, Py.stepV, Py.stepE, Py.asP, Py.wpE, Py.rsE, Py.lkE, Py.lkE1, Py.ulE, Py.ulE1, e4]
  show run fsd tkL gg (d + 1) 33 _ = _
  rw [run_at (fd := I__law_spread.fd) rfl rfl]
  show ofS I__law_spread.fd (xs (rn d) tkL gg S__law_spread [some (w, .io), some (.int m, .sh), none, none, none, none, none, none, none]) = _
  rw [S_law_spread_is, seq_nx h1, seq_nx e2, seq_nx h5]
  have e3' : xs (rn d) tkL gg (.whl wlT (wlB Lw)) (e9 w2 m G i gn none none none (some (.lst (([] : List Q2).map rt), .own))) = .nx (eL w2 m i gn y6 (o.map rt) gn none none .own) := e3
  rw [seq_nx e3', seq_nx h7]
  have hb : biW .tuple [.lst ((spO o vs).map prr)] = some (spW (spO o vs), false) := rfl
  generalize spW (spO o vs) = sw at *
  generalize rn d = C at *
  generalize (spO o vs).map prr = z3 at *
  generalize vs.map W.int = z at *
  generalize o.map rt = z2 at *
  generalize Lfin = L at *
  unfold eL at *
  simp [Py.xs, Py.ev, Py.SO.thn, Py.wOf, Py.l1, Py.l2, Py.lL, Py.ress, Py.res, Py.ofO, Py.bW, Py.trO, Py.truth, Py.isTy, Py.callW, Py.shM, Py.shr, Py.shrs, Py.ioW, Py.ioB, Py.ofE, Py.asA, Py.setN, Py.fixA, Py.asAs, Py.retA, Py.ofS, Py.ioE, Py.stepV, Py.stepE, Py.asP, Py.wpE, Py.rsE, Py.lkE, Py.lkE1, Py.ulE, Py.ulE1, e5, hb, I__law_spread]
end K21

set_option exponentiation.threshold 10000
namespace K21
open PySem PySem.Spec PyProof.Rows L2 Py
/-! ### the law's gathered -/
def lgS (G : List Q2) (p : Pr) : List Q2 := if p.1 ∈ G then G else if p.2 = (0, 1) then G else G ++ [p.1]
theorem lg_mem : ∀ (ps : List Pr) (G : List Q2) (k : Q2), k ∈ ps.foldl lgS G ↔ k ∈ G ∨ ∃ p ∈ ps, p.1 = k ∧ p.2 ≠ (0, 1)
  | [], G, k => by simp
  | p :: ps, G, k => by
    rw [List.foldl_cons, lg_mem ps (lgS G p) k]
    unfold lgS
    constructor
    · rintro (h | ⟨q, hq, h⟩)
      · split at h
        · exact .inl h
        · split at h
          · exact .inl h
          · rename_i hz
            rcases List.mem_append.mp h with h | h
            · exact .inl h
            · exact .inr ⟨p, by simp, (List.mem_singleton.mp h).symm, hz⟩
      · exact .inr ⟨q, List.mem_cons_of_mem _ hq, h⟩
    · rintro (h | ⟨q, hq, h1, h2⟩)
      · left
        split
        · exact h
        · split
          · exact h
          · exact List.mem_append_left _ h
      · rcases List.mem_cons.mp hq with rfl | hq
        · left
          rw [if_neg h2]
          split
          · rename_i hm; rw [← h1]; exact hm
          · rw [← h1]; simp
        · exact .inr ⟨q, hq, h1, h2⟩
theorem lg_len : ∀ (ps : List Pr) (G : List Q2), (ps.foldl lgS G).length ≤ G.length + ps.length
  | [], G => by simp
  | p :: ps, G => by
    rw [List.foldl_cons]
    have := lg_len ps (lgS G p)
    have h2 : (lgS G p).length ≤ G.length + 1 := by
      unfold lgS
      split
      · omega
      · split
        · omega
        · simp
    rw [List.length_cons]
    omega
/-- small, canonical pairs -/
structure Pc (ps : List Pr) : Prop where
  q : Pq ps
  g : ∀ p ∈ ps, Cn p.1
  c : ∀ p ∈ ps, Cn p.2
def cS (k : Q2) (ps : List Pr) : Q2 := sumR (0, 1) ((ps.filter fun p => decide (p.1 = k)).map (·.2))
theorem rpl_cn {p q : Q2} (hp : 0 < p.2) (hq : 0 < q.2) : Cn (rpl p q) := cn_low (Int.mul_pos hp hq)
theorem rpl_pos {p q : Q2} (hp : 0 < p.2) (hq : 0 < q.2) : 0 < (rpl p q).2 := by
  obtain ⟨g, _, _, _, h⟩ := low_sp (a := p.1 * q.2 + q.1 * p.2) (Int.mul_pos hp hq)
  exact h
theorem rpl_0 {p : Q2} (hp : Cn p) : rpl p (0, 1) = p := by
  unfold rpl
  rw [show p.1 * (0, (1 : Int)).2 + (0, (1 : Int)).1 * p.2 = p.1 by simp, show p.2 * ((0 : Int), (1 : Int)).2 = p.2 by simp]
  exact hp
theorem sum_skip (k : Q2) : ∀ (ps : List Pr) (a : Q2), Cn a → 0 < a.2 → (∀ p ∈ ps, 0 < p.2.2) → sumR a ((ps.filter fun p => decide (p.1 = k)).map (·.2)) = sumR a ((ps.filter fun p => decide (p.1 = k ∧ p.2 ≠ (0, 1))).map (·.2))
  | [], a, _, _, _ => rfl
  | p :: ps, a, h1, h2, h3 => by
    have hp := h3 p List.mem_cons_self
    have hr : ∀ q ∈ ps, 0 < q.2.2 := fun q hq => h3 q (List.mem_cons_of_mem _ hq)
    by_cases e : p.1 = k
    · rw [List.filter_cons_of_pos (by simpa using e)]
      by_cases z : p.2 = (0, 1)
      · rw [List.filter_cons_of_neg (by simp [z])]
        show sumR (rpl a p.2) _ = _
        rw [z, rpl_0 h1]
        exact sum_skip k ps a h1 h2 hr
      · rw [List.filter_cons_of_pos (by simp [e, z])]
        exact sum_skip k ps (rpl a p.2) (rpl_cn h2 hp) (rpl_pos h2 hp) hr
    · rw [List.filter_cons_of_neg (by simpa using e), List.filter_cons_of_neg (by simp [e])]
      exact sum_skip k ps a h1 h2 hr
theorem cS_gS {ps : List Pr} (h : Pc ps) (k : Q2) : cS k ps = gS k ps := sum_skip k ps (0, 1) rfl (by decide) fun p hp => (h.q.c p hp).2.1
theorem Pc.gk {ps : List Pr} (h : Pc ps) {p : Pr} (hp : p ∈ ps) : Gk p.1 := ⟨h.g p hp, (h.q.g p hp).up (by decide)⟩
/-- in order, they are the program's -/
theorem lg_eq {ps : List Pr} (h : Pc ps) {o : List Q2} (ho : Asc o) (hm : ∀ k, k ∈ o ↔ k ∈ ps.foldl lgS []) : o.map (fun k => (k, cS k ps)) = (gD ps).foldl insS [] := by
  have hI := gD_I ps
  have hg : ∀ q ∈ gD ps, Gk q.1 := fun q hq => by
    obtain ⟨p, hp, e, _⟩ := (hI.k q.1).mp (List.mem_map_of_mem hq)
    rw [← e]
    exact h.gk hp
  obtain ⟨a1, a2⟩ := inS_ok (gD ps) [] hg (by simp) hI.n (by simp) List.Pairwise.nil
  have hk : ∀ a, a ∈ ((gD ps).foldl insS []).map (·.1) ↔ a ∈ o := fun a => by
    rw [hm a, lg_mem]
    simp only [List.not_mem_nil, false_or]
    rw [← hI.k a]
    constructor
    · intro z
      obtain ⟨q, hq, rfl⟩ := List.mem_map.mp z
      rcases (a2 q).mp hq with hq | hq
      · exact List.mem_map_of_mem hq
      · cases hq
    · intro z
      obtain ⟨q, hq, rfl⟩ := List.mem_map.mp z
      exact List.mem_map_of_mem ((a2 q).mpr (.inl hq))
  have ho' : o = ((gD ps).foldl insS []).map (·.1) := asc_uniq (fun p hp => by
    have := (hk p).mpr hp
    obtain ⟨q, hq, rfl⟩ := List.mem_map.mp this
    rcases (a2 q).mp hq with hq | hq
    · exact (hg q hq).p
    · cases hq) ho a1 fun a => (hk a).symm
  rw [ho', List.map_map]
  have : ∀ q ∈ (gD ps).foldl insS [], ((fun k => (k, cS k ps)) ∘ fun p : Pr => p.1) q = q := fun q hq => by
    rcases (a2 q).mp hq with hq | hq
    · have e := get_mem hI.n q hq
      rw [hI.g] at e
      show (q.1, cS q.1 ps) = q
      rw [cS_gS h, e]
    · cases hq
  exact (List.map_congr_left this).trans (List.map_id _)
/-! ### its walk -/
def e10 (pw : W) (G O : List Q2) (x3 x4 x5 : Y) : Py.Env := [some (pw, .sh), some (.lst (G.map rt), .own), some (.lst (O.map rt), .own), x3, x4, x5, none]
def lgB : S := (.seq (.asn 1 (.op .add (.var 1) (.ite (.and (.cmp .nin (.var 3) (.var 1)) (.cmp .ne (.var 4) (.tup (.cons (.con (.int 0)) (.cons (.con (.int 1)) .nil))))) (.lst (.cons (.var 3) .nil)) (.lst .nil)))) .nil)
def Lg3 : E := (.lc (.var 3) (.n 3) (.cmp .ne (.var 3) (.var 5)) .seq (.cons (.var 1) .nil) [3])
def lwB : S := (.seq (.asn 5 (.call 31 [false, false] (.cons (.var 1) (.cons (.neg (.con (.int 1))) .nil)))) (.seq (.mut .append 2 (.cons (.var 5) .nil)) (.seq (.asn 1 Lg3) .nil)))
def lwT : E := (.cmp .ne (.var 1) (.lst .nil))
def Lin : E := (.lc (.var 4) (.t (.cons (.n 6) (.cons (.n 4) .nil))) (.cmp .eq (.var 6) (.var 3)) .seq (.cons (.var 0) .nil) [6, 4])
def Lout (e0 : E) : E := (.lc (.tup (.cons (.var 3) (.cons (.call 30 [false] (.cons e0 .nil)) .nil))) (.n 3) .nil .seq (.cons (.var 2) .nil) [3])
theorem S_law_gathered_is : S__law_gathered = .seq (.par [1, 2] (.cons (.lst .nil) (.cons (.lst .nil) .nil))) (.seq (.for_ (.t (.cons (.n 3) (.cons (.n 4) .nil))) .seq (.cons (.var 0) .nil) lgB) (.seq (.whl lwT lwB) (.seq (.ret (.bi .tuple (.cons (Lout Lin) .nil))) .nil))) := rfl
theorem lg_body (C : Fn) (pw : W) (G : List Q2) (hz : G.length ≤ 50) (p : Pr) (x5 : Y) :
    xs C tkL gg lgB (e10 pw G [] (some (rt p.1, .sh)) (some (rt p.2, .sh)) x5) = .nx (e10 pw (lgS G p) [] (some (rt p.1, .sh)) (some (rt p.2, .sh)) x5) := by
  have c0 : cmpW .ne (rt p.2) (.tup [.int 0, .int 1]) = some (!decide (p.2 = (0, 1))) := by
    show (if eqOk (rt p.2) (.tup [.int 0, .int 1]) then some (!eqW (rt p.2) (rt (0, 1))) else none) = _
    rw [if_pos (show eqOk (rt p.2) (.tup [.int 0, .int 1]) = true from rfl), eqR]
  have hn := nin_R p.1 G
  have g1 := isD_rt p.1
  have o1 : opW .add (.lst (G.map rt)) (.lst [rt p.1]) = some (.lst ((G ++ [p.1]).map rt), true) := by
    show (if (G.map rt).length + [rt p.1].length ≤ szL then some (W.lst (G.map rt ++ [rt p.1]), true) else none) = _
    rw [if_pos (by rw [List.length_map]; simp only [List.length_cons, List.length_nil]; unfold szL; omega), List.map_append]
    rfl
  have o2 : opW .add (.lst (G.map rt)) (.lst []) = some (.lst (G.map rt), true) := by
    show (if (G.map rt).length + ([] : List W).length ≤ szL then some (W.lst (G.map rt ++ []), true) else none) = _
    rw [if_pos (by rw [List.length_map]; simp only [List.length_nil]; unfold szL; omega), List.append_nil]
  unfold lgB lgS e10
  by_cases h : p.1 ∈ G
  · rw [decide_eq_true h] at hn
    rw [if_pos h]
    generalize rt p.1 = w1 at *
    generalize rt p.2 = w2 at *
    generalize G.map rt = z at *
    simp [Py.xs, Py.ev, Py.SO.thn, Py.wOf, Py.l1, Py.l2, Py.lL, Py.ress, Py.res, Py.ofO, Py.bW, Py.trO, Py.truth, Py.isTy, Py.callW, Py.shM, Py.shr, Py.shrs, Py.ioW, Py.ioB, Py.ofE, Py.asA, Py.setN, Py.fixA, Py.asAs, Py.retA, Py.ofS, Py.ioE, Py.stepV, Py.stepE, Py.asP, Py.wpE, Py.rsE, Py.lkE, Py.lkE1, Py.ulE, Py.ulE1, hn, o2]
  · rw [decide_eq_false h] at hn
    rw [if_neg h]
    by_cases h2 : p.2 = (0, 1)
    · rw [decide_eq_true h2] at c0
      rw [if_pos h2]
      generalize rt p.1 = w1 at *
      generalize rt p.2 = w2 at *
      generalize G.map rt = z at *
      simp [Py.xs, Py.ev, Py.SO.thn, Py.wOf, Py.l1, Py.l2, Py.lL, Py.ress, Py.res, Py.ofO, Py.bW, Py.trO, Py.truth, Py.isTy, Py.callW, Py.shM, Py.shr, Py.shrs, Py.ioW, Py.ioB, Py.ofE, Py.asA, Py.setN, Py.fixA, Py.asAs, Py.retA, Py.ofS, Py.ioE, Py.stepV, Py.stepE, Py.asP, Py.wpE, Py.rsE, Py.lkE, Py.lkE1, Py.ulE, Py.ulE1, hn, c0, o2, sz2]
    · rw [decide_eq_false h2] at c0
      rw [if_neg h2]
      generalize (G ++ [p.1]).map rt = z2 at *
      generalize rt p.1 = w1 at *
      generalize rt p.2 = w2 at *
      generalize G.map rt = z at *
      simp [Py.xs, Py.ev, Py.SO.thn, Py.wOf, Py.l1, Py.l2, Py.lL, Py.ress, Py.res, Py.ofO, Py.bW, Py.trO, Py.truth, Py.isTy, Py.callW, Py.shM, Py.shr, Py.shrs, Py.ioW, Py.ioB, Py.ofE, Py.asA, Py.setN, Py.fixA, Py.asAs, Py.retA, Py.ofS, Py.ioE, Py.stepV, Py.stepE, Py.asP, Py.wpE, Py.rsE, Py.lkE, Py.lkE1, Py.ulE, Py.ulE1, hn, c0, o1, g1, ↓if_sz1, sz2]
theorem lg_loop (C : Fn) (pw : W) : ∀ (ps : List Pr) (G : List Q2) (x y : Y), G.length + ps.length ≤ 50 → (plainS x && plainS y) = true →
    ∃ x' y', (plainS x' && plainS y') = true ∧ forL (stF C tkL gg (.t (.cons (.n 3) (.cons (.n 4) .nil))) lgB) (ps.map prr) (e10 pw G [] x y none) = .nx (e10 pw (ps.foldl lgS G) [] x' y' none)
  | [], G, x, y, _, h => ⟨x, y, h, rfl⟩
  | p :: ps, G, x, y, hz, h => by
    obtain ⟨p1, p2⟩ := Bool.and_eq_true_iff.mp h
    rw [List.length_cons] at hz
    have ea : asP (.t (.cons (.n 3) (.cons (.n 4) .nil))) (prr p) (e10 pw G [] x y none) = some (e10 pw G [] (some (rt p.1, .sh)) (some (rt p.2, .sh)) none) := by
      match x, y, p1, p2 with
      | none, none, _, _ => rfl
      | some (_, .sh), none, _, _ => rfl
      | none, some (_, .sh), _, _ => rfl
      | some (_, .sh), some (_, .sh), _, _ => rfl
    have hb := lg_body C pw G (by omega) p none
    have hl : (lgS G p).length ≤ G.length + 1 := by
      have := lg_len [p] G
      exact this
    obtain ⟨x', y', hxy, e⟩ := lg_loop C pw ps (lgS G p) (some (rt p.1, .sh)) (some (rt p.2, .sh)) (by omega) rfl
    refine ⟨x', y', hxy, ?_⟩
    simp only [List.map_cons, forL, stF_ok ea, hb]
    exact e
theorem lw_t (C : Fn) (pw : W) (G O : List Q2) (x3 x4 x5 : Y) : (ev C lwT).t (e10 pw G O x3 x4 x5) = .ok (!G.isEmpty) (e10 pw G O x3 x4 x5) := by
  have hn := ne_nil G
  unfold e10 lwT
  generalize (!G.isEmpty) = b at *
  generalize G.map rt = z at *
  generalize O.map rt = z2 at *
  simp [Py.xs, Py.ev, Py.SO.thn, Py.wOf, Py.l1, Py.l2, Py.lL, Py.ress, Py.res, Py.ofO, Py.bW, Py.trO, Py.truth, Py.isTy, Py.callW, Py.shM, Py.shr, Py.shrs, Py.ioW, Py.ioB, Py.ofE, Py.asA, Py.setN, Py.fixA, Py.asAs, Py.retA, Py.ofS, Py.ioE, Py.stepV, Py.stepE, Py.asP, Py.wpE, Py.rsE, Py.lkE, Py.lkE1, Py.ulE, Py.ulE1, hn]
theorem lw_body {d : Nat} (hd : 6 ≤ d) (pw : W) (G O : List Q2) (h0 : G ≠ []) (hG : ∀ p ∈ G, Gk p) (hz : G.length ≤ 50) (hzO : O.length ≤ 50) (x3 x4 x5 : Y) (hy : plainS x5 = true) :
    xs (rn d) tkL gg lwB (e10 pw G O x3 x4 x5) = .nx (e10 pw (selF G) (O ++ [leR G]) x3 x4 (some (rt (leR G), .sh))) := by
  have c1 := f31l hd (fun p hp => (hG p hp).g) h0
  have g1 := isD_rt (leR G)
  have hk : mutOk (some (.lst (O.map rt), .own)) = true := rfl
  have hm : mutW .append (.lst (O.map rt)) [rt (leR G)] = some (.lst ((O ++ [leR G]).map rt)) := by
    show (if (O.map rt).length < szL then some (W.lst (O.map rt ++ [rt (leR G)])) else none) = _
    rw [if_pos (by rw [List.length_map]; unfold szL; omega), List.map_append]
    rfl
  have x1 : xs (rn d) tkL gg (.asn 5 (.call 31 [false, false] (.cons (.var 1) (.cons (.neg (.con (.int 1))) .nil)))) (e10 pw G O x3 x4 x5) = .nx [some (pw, .sh), some (.lst (G.map rt), .sh), some (.lst (O.map rt), .own), x3, x4, some (rt (leR G), .sh), none] := by
    unfold e10
    generalize rt (leR G) = lw at *
    generalize G.map rt = z at *
    generalize O.map rt = z2 at *
    generalize rn d = C at *
    match x5, hy with
    | none, _ => simp [Py.xs, Py.ev, Py.SO.thn, Py.wOf, Py.l1, Py.l2, Py.lL, Py.ress, Py.res, Py.ofO, Py.bW, Py.trO, Py.truth, Py.isTy, Py.callW, Py.shM, Py.shr, Py.shrs, Py.ioW, Py.ioB, Py.ofE, Py.asA, Py.setN, Py.fixA, Py.asAs, Py.retA, Py.ofS, Py.ioE, Py.stepV, Py.stepE, Py.asP, Py.wpE, Py.rsE, Py.lkE, Py.lkE1, Py.ulE, Py.ulE1, c1]
    | some (_, .sh), _ => simp [Py.xs, Py.ev, Py.SO.thn, Py.wOf, Py.l1, Py.l2, Py.lL, Py.ress, Py.res, Py.ofO, Py.bW, Py.trO, Py.truth, Py.isTy, Py.callW, Py.shM, Py.shr, Py.shrs, Py.ioW, Py.ioB, Py.ofE, Py.asA, Py.setN, Py.fixA, Py.asAs, Py.retA, Py.ofS, Py.ioE, Py.stepV, Py.stepE, Py.asP, Py.wpE, Py.rsE, Py.lkE, Py.lkE1, Py.ulE, Py.ulE1, c1]
  have x2 : xs (rn d) tkL gg (.mut .append 2 (.cons (.var 5) .nil)) [some (pw, .sh), some (.lst (G.map rt), .sh), some (.lst (O.map rt), .own), x3, x4, some (rt (leR G), .sh), none] = .nx [some (pw, .sh), some (.lst (G.map rt), .sh), some (.lst ((O ++ [leR G]).map rt), .own), x3, x4, some (rt (leR G), .sh), none] := by
    generalize (O ++ [leR G]).map rt = z2 at *
    generalize rt (leR G) = lw at *
    generalize G.map rt = z at *
    generalize O.map rt = z3 at *
    generalize rn d = C at *
    simp [Py.xs, Py.ev, Py.SO.thn, Py.wOf, Py.l1, Py.l2, Py.lL, Py.ress, Py.res, Py.ofO, Py.bW, Py.trO, Py.truth, Py.isTy, Py.callW, Py.shM, Py.shr, Py.shrs, Py.ioW, Py.ioB, Py.ofE, Py.asA, Py.setN, Py.fixA, Py.asAs, Py.retA, Py.ofS, Py.ioE, Py.stepV, Py.stepE, Py.asP, Py.wpE, Py.rsE, Py.lkE, Py.lkE1, Py.ulE, Py.ulE1, hk, hm, mutE, g1]
  have e := lc_g1 (C := rn d) (elt := .var 3) (t := (.cmp .ne (.var 3) (.var 5))) (es := .cons (.var 1) .nil) (ρ := [some (pw, .sh), some (.lst (G.map rt), .sh), some (.lst ((O ++ [leR G]).map rt), .own), x3, x4, some (rt (leR G), .sh), none]) (ρL := [some (pw, .sh), some (.lst (G.map rt), .sh), some (.lst ((O ++ [leR G]).map rt), .own), x3, x4, some (rt (leR G), .sh), none]) (us := [.slot 1]) (K := .seq) (a := 3) (l := G) (u := rt) (k := fun q => !decide (q = leR G)) (f := rt) (by simp) rfl rfl rfl rfl (by omega) (fun q hq => by
    have c1 := ne_R q (leR G)
    have g2 := isD_rt q
    generalize decide (q = leR G) = b at *
    generalize (O ++ [leR G]).map rt = z2 at *
    generalize rt (leR G) = lw at *
    generalize rt q = qw at *
    generalize G.map rt = z at *
    generalize rn d = C at *
    cases b <;> simp [Py.xs, Py.ev, Py.SO.thn, Py.wOf, Py.l1, Py.l2, Py.lL, Py.ress, Py.res, Py.ofO, Py.bW, Py.trO, Py.truth, Py.isTy, Py.callW, Py.shM, Py.shr, Py.shrs, Py.ioW, Py.ioB, Py.ofE, Py.asA, Py.setN, Py.fixA, Py.asAs, Py.retA, Py.ofS, Py.ioE, Py.stepV, Py.stepE, Py.asP, Py.wpE, Py.rsE, Py.lkE, Py.lkE1, Py.ulE, Py.ulE1, S1, c1, g2])
  have x3' : xs (rn d) tkL gg (.asn 1 Lg3) [some (pw, .sh), some (.lst (G.map rt), .sh), some (.lst ((O ++ [leR G]).map rt), .own), x3, x4, some (rt (leR G), .sh), none] = .nx (e10 pw (selF G) (O ++ [leR G]) x3 x4 (some (rt (leR G), .sh))) := by
    have e1 : xs (rn d) tkL gg (.asn 1 Lg3) [some (pw, .sh), some (.lst (G.map rt), .sh), some (.lst ((O ++ [leR G]).map rt), .own), x3, x4, some (rt (leR G), .sh), none] = SO.bnd ((ev (rn d) Lg3).x [some (pw, .sh), some (.lst (G.map rt), .sh), some (.lst ((O ++ [leR G]).map rt), .own), x3, x4, some (rt (leR G), .sh), none]) fun a ρ1 => ofE (asA 1 a ρ1) := rfl
    rw [e1, show (ev (rn d) Lg3).x [some (pw, .sh), some (.lst (G.map rt), .sh), some (.lst ((O ++ [leR G]).map rt), .own), x3, x4, some (rt (leR G), .sh), none] = _ from e]
    rfl
  unfold lwB
  rw [seq_nx x1, seq_nx x2]
  exact (seq_nx x3').trans rfl
def e11 (ps : List Pr) (o : List Q2) (f : Fl) (x3 x4 x5 : Y) : Py.Env := [some (.lst (ps.map prr), .sh), some (.lst [], .own), some (.lst (o.map rt), f), x3, x4, x5, none]
theorem cS_g {ps : List Pr} (h : Pq ps) (k : Q2) : sumG (0, 1) ((ps.filter fun p => decide (p.1 = k)).map (·.2)) = true := by
  have hl : ((ps.filter fun p => decide (p.1 = k)).map (·.2)).length ≤ 20 := by
    rw [List.length_map]; exact Nat.le_trans (List.length_filter_le _ _) h.z
  have hm : ((ps.filter fun p => decide (p.1 = k)).map (·.2)).length * 31 ≤ 20 * 31 := Nat.mul_le_mul_right _ hl
  have hb : ∀ p ∈ (ps.filter fun p => decide (p.1 = k)).map (·.2), bd 30 p := fun p hp => by
    obtain ⟨q, hq, rfl⟩ := List.mem_map.mp hp
    exact h.c q (List.mem_filter.mp hq).1
  generalize (ps.filter fun p => decide (p.1 = k)).map (·.2) = l at *
  exact (sum_bd (k := 30) zero_bd hb (by omega) (by decide)).1
theorem lg_fin {d : Nat} (hd : 6 ≤ d) (ps : List Pr) (h : Pq ps) (o : List Q2) (hz : o.length ≤ 50) (x3 x4 x5 : Y) :
    (ev (rn d) (Lout Lin)).x (e11 ps o .own x3 x4 x5) = .ok (.val (.lst ((o.map fun k => (k, cS k ps)).map prr)) true) (e11 ps o .own x3 x4 x5) := by
  have e := lc_g1 (C := rn d) (elt := (.tup (.cons (.var 3) (.cons (.call 30 [false] (.cons Lin .nil)) .nil)))) (t := .nil) (es := .cons (.var 2) .nil) (ρ := e11 ps o .own x3 x4 x5) (ρL := e11 ps o .ownL x3 x4 x5) (us := [.slot 2]) (K := .seq) (a := 3) (l := o) (u := rt) (k := fun _ => true) (f := fun k => prr (k, cS k ps)) (by show 3 < 7; decide) rfl rfl rfl rfl (by omega) (fun k hk => by
    have hz := h.z
    have e := lc_g2 (C := rn d) (elt := .var 4) (t := (.cmp .eq (.var 6) (.var 3))) (es := .cons (.var 0) .nil) (ρ := e11 ps o .ownL (some (rt k, .sh)) x4 x5) (us := [.slot 0]) (K := .seq) (a := 6) (b := 4) (l := ps) (u := fun p => rt p.1) (v := fun p => rt p.2) (k := fun p => decide (p.1 = k)) (f := fun p => rt p.2) (by decide) (by show 6 < 7; decide) (by show 4 < 7; decide) rfl rfl rfl (fun _ => rfl) (by omega) (fun p hp => by
      have c1 := eq_R p.1 k
      have g2 := isD_rt p.2
      unfold e11
      generalize decide (p.1 = k) = b at *
      generalize rt p.1 = w1 at *
      generalize rt p.2 = w2 at *
      generalize rt k = w3 at *
      generalize ps.map prr = z1 at *
      generalize o.map rt = z2 at *
      generalize rn d = C at *
      cases b <;> simp [Py.xs, Py.ev, Py.SO.thn, Py.wOf, Py.l1, Py.l2, Py.lL, Py.ress, Py.res, Py.ofO, Py.bW, Py.trO, Py.truth, Py.isTy, Py.callW, Py.shM, Py.shr, Py.shrs, Py.ioW, Py.ioB, Py.ofE, Py.asA, Py.setN, Py.fixA, Py.asAs, Py.retA, Py.ofS, Py.ioE, Py.stepV, Py.stepE, Py.asP, Py.wpE, Py.rsE, Py.lkE, Py.lkE1, Py.ulE, Py.ulE1, S2, c1, g2])
    have hs := f30 hd (cS_g h k)
    have em : (ps.filter fun p => decide (p.1 = k)).map (fun p => rt p.2) = ((ps.filter fun p => decide (p.1 = k)).map (·.2)).map rt := by rw [List.map_map]; rfl
    rw [em] at e
    have hc := call1 e rfl hs
    have g1 := isD_rt k
    have g2 := isD_rt (cS k ps)
    show ((ev (rn d) .nil).t _).bind _ = _
    have eS : S1 (e11 ps o .ownL x3 x4 x5) 3 (rt k) = e11 ps o .ownL (some (rt k, .sh)) x4 x5 := rfl
    rw [eS]
    unfold prr
    change (ev (rn d) (.call 30 [false] (.cons Lin .nil))).x _ = .ok (.val (rt (cS k ps)) false) _ at hc
    have e3 : wOf (e11 ps o .ownL (some (rt k, .sh)) x4 x5) 3 = some (rt k, .sh) := rfl
    generalize (E.call 30 [false] (.cons Lin .nil)) = L at *
    generalize rt (cS k ps) = w2 at *
    generalize rt k = w1 at *
    generalize rn d = C at *
    unfold e11 at *
    generalize ps.map prr = z1 at *
    generalize o.map rt = z2 at *
    simp [Py.xs, Py.ev, Py.SO.thn, Py.wOf, Py.l1, Py.l2, Py.lL, Py.ress, Py.res, Py.ofO, Py.bW, Py.trO, Py.truth, Py.isTy, Py.callW, Py.shM, Py.shr, Py.shrs, Py.ioW, Py.ioB, Py.ofE, Py.asA, Py.setN, Py.fixA, Py.asAs, Py.retA, Py.ofS, Py.ioE, Py.stepV, Py.stepE, Py.asP, Py.wpE, Py.rsE, Py.lkE, Py.lkE1, Py.ulE, Py.ulE1, hc, g1, g2, sz2])
  rw [fil_t] at e
  rw [List.map_map]
  exact e
theorem q35 {d : Nat} (hd : 8 ≤ d) (ps : List Pr) (h : Pc ps) : rn d 35 [.lst (ps.map prr)] = .ret (.tup (((gD ps).foldl insS []).map prr)) false [] := by
  obtain ⟨d, rfl⟩ : ∃ e, d = e + 1 := ⟨d - 1, by omega⟩
  have hz := h.q.z
  have h1 : xs (rn d) tkL gg (.par [1, 2] (.cons (.lst .nil) (.cons (.lst .nil) .nil))) [some (.lst (ps.map prr), .sh), none, none, none, none, none, none] = .nx (e10 (.lst (ps.map prr)) [] [] none none none) := by
    generalize rn d = C
    unfold e10
    generalize ps.map prr = z
    simp [Py.xs, Py.ev, Py.SO.thn, Py.wOf, Py.l1, Py.l2, Py.lL, Py.ress, Py.res, Py.ofO, Py.bW, Py.trO, Py.truth, Py.isTy, Py.callW, Py.shM, Py.shr, Py.shrs, Py.ioW, Py.ioB, Py.ofE, Py.asA, Py.setN, Py.fixA, Py.asAs, Py.retA, Py.ofS, Py.ioE, Py.stepV, Py.stepE, Py.asP, Py.wpE, Py.rsE, Py.lkE, Py.lkE1, Py.ulE, Py.ulE1]
  obtain ⟨x3, x4, hx, e2⟩ := lg_loop (rn d) (.lst (ps.map prr)) ps [] none none (by simp; omega) rfl
  have h2 : xs (rn d) tkL gg (.for_ (.t (.cons (.n 3) (.cons (.n 4) .nil))) .seq (.cons (.var 0) .nil) lgB) (e10 (.lst (ps.map prr)) [] [] none none none) = .nx (e10 (.lst (ps.map prr)) (ps.foldl lgS []) [] x3 x4 none) := by
    rw [for_ok (ρ1 := e10 (.lst (ps.map prr)) [] [] none none none) (us := [.slot 0]) (its := ps.map prr) rfl rfl]
    refine (congrArg (SO.mapE _) e2).trans rfl
  have hl := lg_len ps []
  have hG : ∀ p ∈ ps.foldl lgS [], Gk p := fun p hp => by
    rcases (lg_mem ps [] p).mp hp with z | ⟨q, hq, e, _⟩
    · cases z
    · rw [← e]; exact h.gk hq
  rw [List.length_nil, Nat.zero_add] at hl
  obtain ⟨o, x5, hy5, e3, ho, hmem, hlen⟩ := sel_loop (t := (ev (rn d) lwT).t) (b := xs (rn d) tkL gg lwB) (env := fun G O y => e10 (.lst (ps.map prr)) G O x3 x4 y) (fun O y => lw_t _ _ _ _ _ _ _) (fun G O y h => by
      rw [lw_t]
      cases G with
      | nil => exact absurd rfl h
      | cons a r => rfl) (fun G O y h1 h2 h3 h4 h5 => lw_body (by omega) _ G O h1 h2 h3 h4 x3 x4 y h5) gg (ps.foldl lgS []) [] none (by have := ggt; omega) hG (by simp; omega) rfl
  rw [List.nil_append] at e3
  have e4 := lg_fin (d := d) (by omega) ps h.q o (by omega) x3 x4 x5
  have e3' : xs (rn d) tkL gg (.whl lwT lwB) (e10 (.lst (ps.map prr)) (ps.foldl lgS []) [] x3 x4 none) = .nx (e11 ps o .own x3 x4 x5) := e3
  have he := lg_eq h ho hmem
  rw [he] at e4
  show run fsd tkL gg (d + 1) 35 _ = _
  rw [run_at (fd := I__law_gathered.fd) rfl rfl]
  show ofS I__law_gathered.fd (xs (rn d) tkL gg S__law_gathered [some (.lst (ps.map prr), .sh), none, none, none, none, none, none]) = _
  rw [S_law_gathered_is, seq_nx h1, seq_nx h2, seq_nx e3']
  have hb : ∀ z, biW .tuple [.lst z] = some (.tup z, false) := fun _ => rfl
  generalize ((gD ps).foldl insS []).map prr = z3 at *
  generalize rn d = C at *
  generalize Lout Lin = L at *
  unfold e11 at *
  generalize ps.map prr = z1 at *
  generalize o.map rt = z2 at *
  simp [Py.xs, Py.ev, Py.SO.thn, Py.wOf, Py.l1, Py.l2, Py.lL, Py.ress, Py.res, Py.ofO, Py.bW, Py.trO, Py.truth, Py.isTy, Py.callW, Py.shM, Py.shr, Py.shrs, Py.ioW, Py.ioB, Py.ofE, Py.asA, Py.setN, Py.fixA, Py.asAs, Py.retA, Py.ofS, Py.ioE, Py.stepV, Py.stepE, Py.asP, Py.wpE, Py.rsE, Py.lkE, Py.lkE1, Py.ulE, Py.ulE1, e4, hb, I__law_gathered]
end K21

set_option exponentiation.threshold 10000
namespace K21
open PySem PySem.Spec PyProof.Rows L2 Py
/-! ### the variance, in two ways -/
def qs : List Q2 → Rat
  | [] => 0
  | p :: l => qv p + qs l
theorem sumR_cn : ∀ (l : List Q2) (a : Q2), Cn a → 0 < a.2 → (∀ p ∈ l, 0 < p.2) → Cn (sumR a l) ∧ 0 < (sumR a l).2 ∧ qv (sumR a l) = qv a + qs l
  | [], a, h1, h2, _ => ⟨h1, h2, by show qv a = qv a + 0; rw [Rat.add_zero]⟩
  | p :: l, a, h1, h2, h3 => by
    have hp := h3 p List.mem_cons_self
    obtain ⟨i1, i2, i3⟩ := sumR_cn l (rpl a p) (rpl_cn h2 hp) (rpl_pos h2 hp) fun q hq => h3 q (List.mem_cons_of_mem _ hq)
    refine ⟨i1, i2, ?_⟩
    show qv (sumR (rpl a p) l) = qv a + (qv p + qs l)
    rw [i3, rpl_qv (by omega) (by omega), Rat.add_assoc]
theorem sumR0 {l : List Q2} (h : ∀ p ∈ l, 0 < p.2) : Cn (sumR (0, 1) l) ∧ 0 < (sumR (0, 1) l).2 ∧ qv (sumR (0, 1) l) = qs l := by
  obtain ⟨h1, h2, h3⟩ := sumR_cn l (0, 1) rfl (by decide) h
  refine ⟨h1, h2, ?_⟩
  rw [h3, show qv (0, 1) = 0 by decide +kernel, Rat.zero_add]
theorem rtm_pos {p q : Q2} (hp : 0 < p.2) (hq : 0 < q.2) : 0 < (rtm p q).2 := by
  obtain ⟨g, _, _, _, h⟩ := low_sp (a := p.1 * q.1) (Int.mul_pos hp hq)
  exact h
theorem rmi_pos {p q : Q2} (hp : 0 < p.2) (hq : 0 < q.2) : 0 < (rmi p q).2 := by
  obtain ⟨g, _, _, _, h⟩ := low_sp (a := p.1 * q.2 - q.1 * p.2) (Int.mul_pos hp hq)
  exact h
theorem rmi_cn {p q : Q2} (hp : 0 < p.2) (hq : 0 < q.2) : Cn (rmi p q) := cn_low (Int.mul_pos hp hq)
theorem rtm_cn {p q : Q2} (hp : 0 < p.2) (hq : 0 < q.2) : Cn (rtm p q) := cn_low (Int.mul_pos hp hq)
def sqL (s : List Pr) : List Q2 := s.map fun p => rtm p.2 (rtm p.1 p.1)
def sqQ (s : List Pr) : Q2 := sumR (0, 1) (sqL s)
theorem var_qs (m : Q2) (hm : 0 < m.2) : ∀ s : List Pr, (∀ p ∈ s, 0 < p.1.2 ∧ 0 < p.2.2) → qs (varL s m) = qs (sqL s) - 2 * qv m * qs (meanL s) + qv m * qv m * qs (s.map (·.2))
  | [], _ => by
    show (0 : Rat) = 0 - 2 * qv m * 0 + qv m * qv m * 0
    grind
  | p :: s, h => by
    have ih := var_qs m hm s fun q hq => h q (List.mem_cons_of_mem _ hq)
    obtain ⟨h1, h2⟩ := h p List.mem_cons_self
    have d := rmi_pos h1 hm
    have a1 : qv (rtm p.2 (rtm (rmi p.1 m) (rmi p.1 m))) = qv p.2 * ((qv p.1 - qv m) * (qv p.1 - qv m)) := by
      rw [rtm_qv (by omega) (by have := rtm_pos d d; omega), rtm_qv (by omega) (by omega), rmi_qv (by omega) (by omega)]
    have a2 : qv (rtm p.2 (rtm p.1 p.1)) = qv p.2 * (qv p.1 * qv p.1) := by
      rw [rtm_qv (by omega) (by have := rtm_pos h1 h1; omega), rtm_qv (by omega) (by omega)]
    have a3 : qv (rtm p.1 p.2) = qv p.1 * qv p.2 := rtm_qv (by omega) (by omega)
    show qv (rtm p.2 (rtm (rmi p.1 m) (rmi p.1 m))) + qs (varL s m) = (qv (rtm p.2 (rtm p.1 p.1)) + qs (sqL s)) - 2 * qv m * (qv (rtm p.1 p.2) + qs (meanL s)) + qv m * qv m * (qv p.2 + qs (s.map (·.2)))
    rw [a1, a2, a3, ih]
    grind
section
variable {s : List Pr} (h : Sp s)
include h
theorem Sp.pos {p : Pr} (hp : p ∈ s) : 0 < p.1.2 ∧ 0 < p.2.2 := ⟨(h.gb hp).2.1, (h.cb hp).2.1⟩
theorem sq_sz : sumG (0, 1) (sqL s) = true ∧ bd 200 (sqQ s) := by
  have hz := h.z4
  obtain ⟨h1, h2⟩ := sum_bd (k := 30) (l := sqL s) zero_bd (fun p hp => by
    obtain ⟨q, hq, rfl⟩ := List.mem_map.mp hp
    exact rtm_bd (h.cb hq) (rtm_bd (h.gb hq) (h.gb hq))) (by unfold sqL; rw [List.length_map]; omega) (by decide)
  exact ⟨h1, h2.up (by unfold sqL; rw [List.length_map]; omega)⟩
theorem var_eq : sumR (0, 1) (varL s (meanQ s)) = rmi (sqQ s) (rtm (meanQ s) (meanQ s)) := by
  obtain ⟨m1, m2, m3⟩ := sumR0 (l := meanL s) fun p hp => by
    obtain ⟨q, hq, rfl⟩ := List.mem_map.mp hp
    exact rtm_pos (h.pos hq).1 (h.pos hq).2
  obtain ⟨q1, q2, q3⟩ := sumR0 (l := sqL s) fun p hp => by
    obtain ⟨q, hq, rfl⟩ := List.mem_map.mp hp
    exact rtm_pos (h.pos hq).2 (rtm_pos (h.pos hq).1 (h.pos hq).1)
  obtain ⟨c1, c2, c3⟩ := sumR0 (l := s.map (·.2)) fun p hp => by
    obtain ⟨q, hq, rfl⟩ := List.mem_map.mp hp
    exact (h.pos hq).2
  rw [h.t, show qv (1, 1) = 1 by decide +kernel] at c3
  change Cn (meanQ s) at m1
  change 0 < (meanQ s).2 at m2
  change qv (meanQ s) = _ at m3
  change Cn (sqQ s) at q1
  change 0 < (sqQ s).2 at q2
  change qv (sqQ s) = _ at q3
  have e := var_qs (meanQ s) m2 s fun p hp => h.pos hp
  obtain ⟨v1, v2, v3⟩ := sumR0 (l := varL s (meanQ s)) fun p hp => by
    obtain ⟨q, hq, rfl⟩ := List.mem_map.mp hp
    have d := rmi_pos (h.pos hq).1 m2
    exact rtm_pos (h.pos hq).2 (rtm_pos d d)
  have mm := rtm_pos m2 m2
  refine cn_qv v1 (rmi_cn q2 mm) v2 (rmi_pos q2 mm) ?_
  rw [v3, e, rmi_qv (by omega) (by omega), rtm_qv (by omega) (by omega), q3, ← c3]
  generalize qs (sqL s) = a at *
  rw [m3]
  generalize qs (meanL s) = b at *
  grind
/-! ### the last gain has all below -/
theorem last_up : ∃ z ∈ s, upQ s z.1 = (1, 1) := by
  have h0 : s ≠ [] := by have := h.z1; intro e; rw [e] at this; simp at this
  refine ⟨s.getLast h0, List.getLast_mem h0, ?_⟩
  have hr := h.r
  have e : (s.filter fun p => !rls (s.getLast h0).1 p.1) = s := by
    rw [List.filter_eq_self]
    intro p hp
    have hs := List.dropLast_concat_getLast h0
    rw [← hs] at hp
    rcases List.mem_append.mp hp with hp | hp
    · rw [← hs, List.pairwise_append] at hr
      have := hr.2.2 p hp _ (List.mem_singleton_self _)
      have mp : p ∈ s := List.dropLast_subset s hp
      rw [rls_asym (h.pos mp).1 (h.pos (List.getLast_mem h0)).1 this]
      rfl
    · rw [List.mem_singleton.mp hp, rls_irr]
      rfl
  unfold upQ upL
  rw [e]
  exact h.t
theorem fits_ne {lv : Q2} (hl : rls (1, 1) lv = false) : ∃ p r, (s.filter fun p => !rls (upQ s p.1) lv) = p :: r := by
  obtain ⟨z, hz, e⟩ := last_up h
  cases e2 : s.filter fun p => !rls (upQ s p.1) lv with
  | nil =>
    have := List.filter_eq_nil_iff.mp e2 z hz
    rw [e, hl] at this
    exact absurd rfl this
  | cons p r => exact ⟨p, r, rfl⟩
end
/-! ### the rows of pairs are small and canonical -/
section
variable {s1 s2 : List Pr} (h1 : Sp s1) (h2 : Sp s2)
include h1 h2
theorem sm_c : Pc (smL s1 s2) := by
  refine ⟨sm_q h1 h2, fun p hp => ?_, fun p hp => ?_⟩
  · obtain ⟨a, ha, hp⟩ := List.mem_flatMap.mp hp
    obtain ⟨b, hb, rfl⟩ := List.mem_map.mp hp
    exact rpl_cn (h1.pos ha).1 (h2.pos hb).1
  · obtain ⟨a, ha, hp⟩ := List.mem_flatMap.mp hp
    obtain ⟨b, hb, rfl⟩ := List.mem_map.mp hp
    exact rtm_cn (h1.pos ha).2 (h2.pos hb).2
theorem gr_c : Pc (grL s1 s2) := by
  refine ⟨gr_q h1 h2, fun p hp => ?_, fun p hp => ?_⟩
  · obtain ⟨a, ha, hp⟩ := List.mem_flatMap.mp hp
    obtain ⟨b, hb, rfl⟩ := List.mem_map.mp hp
    show Cn (rgr a.1 b.1)
    unfold rgr
    split
    · exact rtB_cn (h2.g b hb)
    · exact rtB_cn (h1.g a ha)
  · obtain ⟨a, ha, hp⟩ := List.mem_flatMap.mp hp
    obtain ⟨b, hb, rfl⟩ := List.mem_map.mp hp
    exact rtm_cn (h1.pos ha).2 (h2.pos hb).2
theorem mx_c {m n : Q2} (bm : bd 10 m) (bn : bd 10 n) : Pc (mxL s1 s2 m n) := by
  refine ⟨mx_q h1 h2 bm bn, fun p hp => ?_, fun p hp => ?_⟩
  · rcases List.mem_append.mp hp with hp | hp
    · obtain ⟨a, ha, rfl⟩ := List.mem_map.mp hp
      exact rtB_cn (h1.g a ha)
    · obtain ⟨a, ha, rfl⟩ := List.mem_map.mp hp
      exact rtB_cn (h2.g a ha)
  · rcases List.mem_append.mp hp with hp | hp
    · obtain ⟨a, ha, rfl⟩ := List.mem_map.mp hp
      exact rtm_cn bm.2.1 (h1.pos ha).2
    · obtain ⟨a, ha, rfl⟩ := List.mem_map.mp hp
      exact rtm_cn bn.2.1 (h2.pos ha).2
end
/-! ### a spread is itself -/
theorem eq_prr (p : Pr) : eqW (prr p) (prr p) = true := by
  show eqWs [rt p.1, rt p.2] [rt p.1, rt p.2] = true
  simp only [eqWs, eqR]
  simp
theorem eq_prrs : ∀ l : List Pr, eqWs (l.map prr) (l.map prr) = true
  | [] => rfl
  | p :: l => by simp only [List.map_cons, eqWs, eq_prr, eq_prrs l, Bool.and_self]
theorem deps_prr : ∀ l : List Pr, deps (l.map prr) ≤ 2
  | [] => by simp [deps]
  | p :: l => by
    have := deps_prr l
    have h : dep (prr p) = 2 := rfl
    simp only [List.map_cons, deps, h]
    omega
theorem ne_sp (l : List Pr) : cmpW .ne (.tup (l.map prr)) (.tup (l.map prr)) = some false := by
  have hd := deps_prr l
  show (if eqOk (.tup (l.map prr)) (.tup (l.map prr)) then some (!eqWs (l.map prr) (l.map prr)) else none) = _
  rw [if_pos (by simp [eqOk, dep]; omega), eq_prrs]
  rfl
theorem ne_self (p : Q2) : cmpW .ne (rt p) (rt p) = some false := by rw [ne_R, decide_eq_true rfl]; rfl
end K21

set_option exponentiation.threshold 10000
namespace K21
open PySem PySem.Spec PyProof.Rows L2 Py
/-! ### the law, statement by statement -/
def B1 : S := (.par [3, 4] (.cons (.call 33 [true, false] (.cons (.var 1) (.cons (.con (.int 4)) .nil))) (.cons (.call 33 [true, false] (.cons (.var 1) (.cons (.con (.int 3)) .nil))) .nil)))
def B2 : S := (.asn 5 (.call 30 [false] (.cons (.lc (.call 27 [false, false] (.cons (.var 20) (.cons (.var 19) .nil))) (.t (.cons (.n 20) (.cons (.n 19) .nil))) .nil .seq (.cons (.var 3) .nil) [20, 19]) .nil)))
def B3 : S := (.asn 6 (.call 30 [false] (.cons (.lc (.call 27 [false, false] (.cons (.var 19) (.cons (.call 27 [false, false] (.cons (.var 20) (.cons (.var 20) .nil))) .nil))) (.t (.cons (.n 20) (.cons (.n 19) .nil))) .nil .seq (.cons (.var 3) .nil) [20, 19]) .nil)))
def B4 : S := (.ite (.or (.cmp .isnt (.call 13 [false] (.cons (.var 3) .nil)) (.con .non)) (.or (.cmp .ne (.call 15 [false] (.cons (.var 3) .nil)) (.var 5)) (.cmp .ne (.call 16 [false] (.cons (.var 3) .nil)) (.call 28 [false, false] (.cons (.var 6) (.cons (.call 27 [false, false] (.cons (.var 5) (.cons (.var 5) .nil))) .nil)))))) (.seq (.ret (.con (.bl false))) .nil) .nil)
def B5 : S := (.asn 7 (.ix (.lst (.cons (.call 32 [true] (.cons (.var 1) .nil)) (.cons (.ix (.ix (.var 3) (.call 24 [true, false] (.cons (.var 1) (.cons (.bi .len (.cons (.var 3) .nil)) .nil)))) (.con (.int 0))) .nil))) (.call 24 [true, false] (.cons (.var 1) (.cons (.con (.int 2)) .nil)))))
def B6 : S := (.ite (.cmp .ne (.call 17 [false, false] (.cons (.var 3) (.cons (.var 7) .nil))) (.call 30 [false] (.cons (.lc (.var 19) (.t (.cons (.n 20) (.cons (.n 19) .nil))) (.not (.call 29 [false, false] (.cons (.var 7) (.cons (.var 20) .nil)))) .seq (.cons (.var 3) .nil) [20, 19]) .nil))) (.seq (.ret (.con (.bl false))) .nil) .nil)
def B7 : S := (.ite (.cmp .ne (.call 18 [false, false] (.cons (.var 3) (.cons (.var 7) .nil))) (.call 30 [false] (.cons (.lc (.call 27 [false, false] (.cons (.var 19) (.cons (.call 28 [false, false] (.cons (.var 7) (.cons (.var 20) .nil))) .nil))) (.t (.cons (.n 20) (.cons (.n 19) .nil))) (.call 29 [false, false] (.cons (.var 20) (.cons (.var 7) .nil))) .seq (.cons (.var 3) .nil) [20, 19]) .nil))) (.seq (.ret (.con (.bl false))) .nil) .nil)
def B8 : S := (.asn 8 (.ix (.lst (.cons (.tup (.cons (.con (.int 0)) (.cons (.con (.int 1)) .nil))) (.cons (.tup (.cons (.con (.int 1)) (.cons (.con (.int 2)) .nil))) (.cons (.tup (.cons (.con (.int 1)) (.cons (.con (.int 3)) .nil))) (.cons (.tup (.cons (.con (.int 1)) (.cons (.con (.int 1)) .nil))) .nil))))) (.call 24 [true, false] (.cons (.var 1) (.cons (.con (.int 4)) .nil)))))
def B9 : S := (.asn 9 (.tup (.cons (.var 8) (.cons (.call 28 [false, false] (.cons (.tup (.cons (.con (.int 1)) (.cons (.con (.int 1)) .nil))) (.cons (.var 8) .nil))) .nil))))
def B10 : S := (.asn 10 (.op .add (.lc (.tup (.cons (.var 20) (.cons (.call 27 [false, false] (.cons (.ix (.var 9) (.con (.int 0))) (.cons (.var 19) .nil))) .nil))) (.t (.cons (.n 20) (.cons (.n 19) .nil))) .nil .seq (.cons (.var 3) .nil) [20, 19]) (.lc (.tup (.cons (.var 20) (.cons (.call 27 [false, false] (.cons (.ix (.var 9) (.con (.int 1))) (.cons (.var 19) .nil))) .nil))) (.t (.cons (.n 20) (.cons (.n 19) .nil))) .nil .seq (.cons (.var 4) .nil) [20, 19])))
def B11 : S := (.ite (.cmp .ne (.call 19 [false, false] (.cons (.tup (.cons (.var 3) (.cons (.var 4) .nil))) (.cons (.var 9) .nil))) (.call 35 [false] (.cons (.var 10) .nil))) (.seq (.ret (.con (.bl false))) .nil) .nil)
def B12 : S := (.par [11, 12] (.cons (.lst .nil) (.cons (.lst .nil) .nil)))
def B13 : S := (.for_ (.t (.cons (.n 13) (.cons (.n 14) .nil))) .seq (.cons (.var 3) .nil) (.seq (.asn 11 (.op .add (.var 11) (.lc (.tup (.cons (.call 26 [false, false] (.cons (.var 13) (.cons (.var 21) .nil))) (.cons (.call 27 [false, false] (.cons (.var 14) (.cons (.var 22) .nil))) .nil))) (.t (.cons (.n 21) (.cons (.n 22) .nil))) .nil .seq (.cons (.var 4) .nil) [21, 22]))) (.seq (.asn 12 (.op .add (.var 12) (.lc (.tup (.cons (.call 31 [false, false] (.cons (.lst (.cons (.var 13) (.cons (.var 21) .nil))) (.cons (.con (.int 1)) .nil))) (.cons (.call 27 [false, false] (.cons (.var 14) (.cons (.var 22) .nil))) .nil))) (.t (.cons (.n 21) (.cons (.n 22) .nil))) .nil .seq (.cons (.var 4) .nil) [21, 22]))) .nil)))
def B14 : S := (.ite (.or (.cmp .ne (.call 20 [false, false] (.cons (.var 3) (.cons (.var 4) .nil))) (.call 35 [false] (.cons (.var 11) .nil))) (.or (.cmp .ne (.call 21 [false, false] (.cons (.var 3) (.cons (.var 4) .nil))) (.call 35 [false] (.cons (.var 12) .nil))) (.not (.isi (.call 20 [false, false] (.cons (.var 3) (.cons (.var 4) .nil))) .tuple)))) (.seq (.ret (.con (.bl false))) .nil) .nil)
def B15 : S := (.asn 15 (.ix (.lst (.cons (.tup (.cons (.con (.int 1)) (.cons (.con (.int 4)) .nil))) (.cons (.tup (.cons (.con (.int 1)) (.cons (.con (.int 2)) .nil))) (.cons (.tup (.cons (.con (.int 2)) (.cons (.con (.int 3)) .nil))) (.cons (.tup (.cons (.con (.int 1)) (.cons (.con (.int 1)) .nil))) .nil))))) (.call 24 [true, false] (.cons (.var 1) (.cons (.con (.int 4)) .nil)))))
def B16 : S := (.asn 16 (.lc (.var 20) (.t (.cons (.n 20) (.cons (.n 19) .nil))) (.not (.call 29 [false, false] (.cons (.call 30 [false] (.cons (.lc (.var 24) (.t (.cons (.n 23) (.cons (.n 24) .nil))) (.not (.call 29 [false, false] (.cons (.var 20) (.cons (.var 23) .nil)))) .seq (.cons (.var 3) .nil) [23, 24]) .nil)) (.cons (.var 15) .nil)))) .seq (.cons (.var 3) .nil) [20, 19]))
def B17 : S := (.ite (.cmp .ne (.call 22 [false, false] (.cons (.var 3) (.cons (.var 15) .nil))) (.ix (.var 16) (.con (.int 0)))) (.seq (.ret (.con (.bl false))) .nil) .nil)
def LB : S := (.seq B1 (.seq B2 (.seq B3 (.seq B4 (.seq B5 (.seq B6 (.seq B7 (.seq B8 (.seq B9 (.seq B10 (.seq B11 (.seq B12 (.seq B13 (.seq B14 (.seq B15 (.seq B16 (.seq B17 .nil)))))))))))))))))
def L1 : S := (.asn 1 (.call 23 [false] (.cons (.var 0) .nil)))
def L3 : S := (.asn 17 (.tup (.cons (.con (.int 1)) (.cons (.con (.int 2)) .nil))))
def L4 : S := (.asn 18 (.lst (.cons (.con .non) (.cons (.tup .nil) (.cons (.tup (.cons (.tup (.cons (.tup (.cons (.con (.int 0)) (.cons (.con (.int 1)) .nil))) (.cons (.var 17) .nil))) .nil)) (.cons (.tup (.cons (.tup (.cons (.tup (.cons (.con (.int 0)) (.cons (.con (.int 1)) .nil))) (.cons (.var 17) .nil))) (.cons (.tup (.cons (.tup (.cons (.con (.int 0)) (.cons (.con (.int 1)) .nil))) (.cons (.var 17) .nil))) .nil))) (.cons (.tup (.cons (.tup (.cons (.tup (.cons (.con (.int 1)) (.cons (.con (.int 1)) .nil))) (.cons (.var 17) .nil))) (.cons (.tup (.cons (.tup (.cons (.con (.int 0)) (.cons (.con (.int 1)) .nil))) (.cons (.var 17) .nil))) .nil))) (.cons (.tup (.cons (.tup (.cons (.tup (.cons (.con (.int 0)) (.cons (.con (.int 1)) .nil))) (.cons (.tup (.cons (.con (.int 0)) (.cons (.con (.int 1)) .nil))) .nil))) (.cons (.tup (.cons (.tup (.cons (.con (.int 1)) (.cons (.con (.int 1)) .nil))) (.cons (.tup (.cons (.con (.int 1)) (.cons (.con (.int 1)) .nil))) .nil))) .nil))) (.cons (.tup (.cons (.tup (.cons (.tup (.cons (.con (.int 0)) (.cons (.con (.int 2)) .nil))) (.cons (.tup (.cons (.con (.int 1)) (.cons (.con (.int 1)) .nil))) .nil))) .nil)) (.cons (.lst (.cons (.tup (.cons (.tup (.cons (.con (.int 0)) (.cons (.con (.int 1)) .nil))) (.cons (.tup (.cons (.con (.int 1)) (.cons (.con (.int 1)) .nil))) .nil))) .nil)) (.cons (.tup (.cons (.tup (.cons (.tup (.cons (.con (.int 0)) (.cons (.con (.int 1)) .nil))) (.cons (.tup (.cons (.con (.int 2)) (.cons (.con (.int 1)) .nil))) .nil))) (.cons (.tup (.cons (.tup (.cons (.con (.int 1)) (.cons (.con (.int 1)) .nil))) (.cons (.tup (.cons (.neg (.con (.int 1))) (.cons (.con (.int 1)) .nil))) .nil))) .nil))) (.cons (.tup (.cons (.tup (.cons (.tup (.cons (.con (.int 1000000)) (.cons (.con (.int 1)) .nil))) (.cons (.tup (.cons (.con (.int 1)) (.cons (.con (.int 1)) .nil))) .nil))) .nil)) (.cons (.tup (.cons (.tup (.cons (.con (.int 0)) (.cons (.tup (.cons (.con (.int 1)) (.cons (.con (.int 1)) .nil))) .nil))) .nil)) (.cons (.tup (.cons (.tup (.cons (.tup (.cons (.con (.int 0)) (.cons (.con (.int 1)) .nil))) (.cons (.tup (.cons (.con (.int 1)) (.cons (.con (.int 1)) .nil))) (.cons (.con (.int 0)) .nil)))) .nil)) .nil))))))))))))))
def L5 : S := (.ret (.and (.cmp .eq (.lc (.var 25) (.n 25) (.not (.call 34 [false] (.cons (.var 25) .nil))) .seq (.cons (.var 18) .nil) [25]) (.lst .nil)) (.not (.call 34 [false] (.cons (.tup (.cons (.tup (.cons (.tup (.cons (.con (.int 0)) (.cons (.con (.int 1)) .nil))) (.cons (.tup (.cons (.con (.int 1)) (.cons (.con (.int 1)) .nil))) .nil))) .nil)) .nil)))))
theorem law_is : S_law = .seq L1 (.seq (.for_ (.n 2) .rng (.cons (.con (.int 2)) .nil) LB) (.seq L3 (.seq L4 (.seq L5 .nil)))) := rfl
def okS : Y → Bool
  | some (_, .io) => false
  | some (_, .ioL) => false
  | _ => true
theorem set_ok {ρ : Py.Env} {i : Nat} {y : Y} (h : ρ[i]? = some y) (hy : okS y = true) (w : W) (f : Fl) : setN ρ i w f = some (ρ.set i (some (w, f))) := by
  unfold setN
  rw [h]
  match y, hy with
  | none, _ => rfl
  | some (_, .sh), _ => rfl
  | some (_, .own), _ => rfl
  | some (_, .ownL), _ => rfl
section
variable (C : Fn) (tk : Tk) (g : Nat)
theorem asn_S {e : E} {ρ ρ1 : Py.Env} {w : W} {fr : Bool} {i : Nat} {y : Y} (h : (ev C e).x ρ = .ok (.val w fr) ρ1) (h1 : ρ1[i]? = some y) (hy : okS y = true) : xs C tk g (.asn i e) ρ = .nx (ρ1.set i (some (w, if fr then .own else .sh))) := by
  have e1 : xs C tk g (.asn i e) ρ = SO.bnd ((ev C e).x ρ) fun a ρ1 => ofE (asA i a ρ1) := rfl
  rw [e1, h]
  show ofE (setN ρ1 i w _) = _
  rw [set_ok h1 hy]
  rfl
theorem par_S {e : E} {ρ ρ1 : Py.Env} {a b : W} {fr fr2 : Bool} {i j : Nat} {y y' : Y} (h : (ev C e).a ρ = .ok [.val a fr, .val b fr2] ρ1) (hij : (i == j) = false) (h1 : ρ1[i]? = some y) (hy : okS y = true) (h2 : (ρ1.set i (some (a, if fr then .own else .sh)))[j]? = some y') (hy' : okS y' = true) : xs C tk g (.par [i, j] e) ρ = .nx ((ρ1.set i (some (a, if fr then .own else .sh))).set j (some (b, if fr2 then .own else .sh))) := by
  have e1 : xs C tk g (.par [i, j] e) ρ = SO.bnd ((ev C e).a ρ) fun as ρ1 => match fixA ρ1 as with
    | some (as', ρ2) => ofE (asAs [i, j] as' ρ2)
    | none => .bad := rfl
  rw [e1, h]
  show ofE (asAs [i, j] [.val a fr, .val b fr2] ρ1) = _
  have g1 : asA i (.val a fr) ρ1 = some (ρ1.set i (some (a, if fr then .own else .sh))) := set_ok h1 hy a _
  have g2 : asA j (.val b fr2) (ρ1.set i (some (a, if fr then .own else .sh))) = some ((ρ1.set i (some (a, if fr then .own else .sh))).set j (some (b, if fr2 then .own else .sh))) := set_ok h2 hy' b _
  have hij' : ¬ i = j := by simpa using hij
  simp [asAs, g1, g2, ofE, hij']
theorem ite_no {c : E} {a b : S} {ρ ρ1 : Py.Env} (h : (ev C c).t ρ = .ok false ρ1) : xs C tk g (.ite c a b) ρ = xs C tk g b ρ1 := by
  have e : xs C tk g (.ite c a b) ρ = SO.bnd ((ev C c).t ρ) fun k ρ1 => if k then xs C tk g a ρ1 else xs C tk g b ρ1 := rfl
  rw [e, h]
  rfl
theorem at_L {α : Type} {f : α → W} {l : List α} {i : Int} (h0 : 0 ≤ i) (h1 : i < l.length) : ∃ v ∈ l, L2.atI (l.map f) i = some (f v) := by
  have hk : i.toNat < l.length := by omega
  refine ⟨l[i.toNat], List.getElem_mem hk, ?_⟩
  have e : L2.ixN (l.map f).length i = some i.toNat := by
    unfold L2.ixN
    rw [List.length_map]
    split <;> rename_i q <;> first | rfl | (split <;> first | rfl | omega) | omega
  unfold L2.atI
  rw [e]
  simp [hk]
def mL : List Q2 := [(0, 1), (1, 2), (1, 3), (1, 1)]
def lL : List Q2 := [(1, 4), (1, 2), (2, 3), (1, 1)]
def mE : E := (.lst (.cons (.tup (.cons (.con (.int 0)) (.cons (.con (.int 1)) .nil))) (.cons (.tup (.cons (.con (.int 1)) (.cons (.con (.int 2)) .nil))) (.cons (.tup (.cons (.con (.int 1)) (.cons (.con (.int 3)) .nil))) (.cons (.tup (.cons (.con (.int 1)) (.cons (.con (.int 1)) .nil))) .nil)))))
def lE : E := (.lst (.cons (.tup (.cons (.con (.int 1)) (.cons (.con (.int 4)) .nil))) (.cons (.tup (.cons (.con (.int 1)) (.cons (.con (.int 2)) .nil))) (.cons (.tup (.cons (.con (.int 2)) (.cons (.con (.int 3)) .nil))) (.cons (.tup (.cons (.con (.int 1)) (.cons (.con (.int 1)) .nil))) .nil)))))
theorem mE_ok (ρ : Py.Env) : (ev C mE).x ρ = .ok (.val (.lst (mL.map rt)) true) ρ := by
  have z2 := Py.sz2
  have z4 := Py.sz4
  simp [Py.xs, Py.ev, Py.SO.thn, Py.wOf, Py.l1, Py.l2, Py.lL, Py.ress, Py.res, Py.ofO, Py.bW, Py.trO, Py.truth, Py.isTy, Py.callW, Py.shM, Py.shr, Py.shrs, Py.ioW, Py.ioB, Py.ofE, Py.asA, Py.setN, Py.fixA, Py.asAs, Py.retA, Py.ofS, Py.ioE, Py.stepV, Py.stepE, Py.asP, Py.wpE, Py.rsE, Py.lkE, Py.lkE1, Py.ulE, Py.ulE1, mE, mL, rt, z2, z4]
theorem lE_ok (ρ : Py.Env) : (ev C lE).x ρ = .ok (.val (.lst (lL.map rt)) true) ρ := by
  have z2 := Py.sz2
  have z4 := Py.sz4
  simp [Py.xs, Py.ev, Py.SO.thn, Py.wOf, Py.l1, Py.l2, Py.lL, Py.ress, Py.res, Py.ofO, Py.bW, Py.trO, Py.truth, Py.isTy, Py.callW, Py.shM, Py.shr, Py.shrs, Py.ioW, Py.ioB, Py.ofE, Py.asA, Py.setN, Py.fixA, Py.asAs, Py.retA, Py.ofS, Py.ioE, Py.stepV, Py.stepE, Py.asP, Py.wpE, Py.rsE, Py.lkE, Py.lkE1, Py.ulE, Py.ulE1, lE, lL, rt, z2, z4]
variable (sc tu y3 y4 y5 y6 y7 y8 y9 y10 y11 y12 y13 y14 y15 y16 y17 y18 y19 y20 y21 y22 y23 y24 y25 : Y)
theorem b1 (w w1 w2 : W) (s o : List Pr) (h3 : okS y3 = true) (h4 : okS y4 = true) (e1 : C 33 [w, .int 4] = .ret (spW s) false [w1]) (e2 : C 33 [w1, .int 3] = .ret (spW o) false [w2]) : xs C tk g B1 [sc, some (w, .own), tu, y3, y4, y5, y6, y7, y8, y9, y10, y11, y12, y13, y14, y15, y16, y17, y18, y19, y20, y21, y22, y23, y24, y25] = .nx [sc, some (w2, .own), tu, some (spW s, .sh), some (spW o, .sh), y5, y6, y7, y8, y9, y10, y11, y12, y13, y14, y15, y16, y17, y18, y19, y20, y21, y22, y23, y24, y25] := by
  refine par_S C tk g (fr := false) (fr2 := false) (i := 3) (j := 4) (ρ1 := [sc, some (w2, .own), tu, y3, y4, y5, y6, y7, y8, y9, y10, y11, y12, y13, y14, y15, y16, y17, y18, y19, y20, y21, y22, y23, y24, y25]) ?_ rfl rfl h3 rfl h4
  have d1 : isD (spW s) = false := rfl
  have d2 : isD (spW o) = false := rfl
  generalize spW s = sw at *
  generalize spW o = ow at *
  simp [Py.xs, Py.ev, Py.SO.thn, Py.wOf, Py.l1, Py.l2, Py.lL, Py.ress, Py.res, Py.ofO, Py.bW, Py.trO, Py.truth, Py.isTy, Py.callW, Py.shM, Py.shr, Py.shrs, Py.ioW, Py.ioB, Py.ofE, Py.asA, Py.setN, Py.fixA, Py.asAs, Py.retA, Py.ofS, Py.ioE, Py.stepV, Py.stepE, Py.asP, Py.wpE, Py.rsE, Py.lkE, Py.lkE1, Py.ulE, Py.ulE1, e1, e2, d1, d2]
theorem b5 (w w1 w2 w3 : W) (sw pv u q z : W) (m i j : Int) (dq : isD q = false) (dp : isD pv = false) (hy : okS y7 = true) (e1 : C 32 [w] = .ret q false [w1]) (hl : biW .len [sw] = some (.int m, false)) (e2 : C 24 [w1, .int m] = .ret (.int i) false [w2]) (h1 : ixW sw (.int i) = some (u, false)) (h2 : ixW u (.int 0) = some (pv, false)) (e3 : C 24 [w2, .int 2] = .ret (.int j) false [w3]) (h3 : ixW (.lst [q, pv]) (.int j) = some (z, false)) : xs C tk g B5 [sc, some (w, .own), tu, some (sw, .sh), y4, y5, y6, y7, y8, y9, y10, y11, y12, y13, y14, y15, y16, y17, y18, y19, y20, y21, y22, y23, y24, y25] = .nx [sc, some (w3, .own), tu, some (sw, .sh), y4, y5, y6, some (z, .sh), y8, y9, y10, y11, y12, y13, y14, y15, y16, y17, y18, y19, y20, y21, y22, y23, y24, y25] := by
  refine asn_S C tk g (fr := false) (i := 7) (ρ1 := [sc, some (w3, .own), tu, some (sw, .sh), y4, y5, y6, y7, y8, y9, y10, y11, y12, y13, y14, y15, y16, y17, y18, y19, y20, y21, y22, y23, y24, y25]) ?_ rfl hy
  have z2 := Py.sz2
  simp [Py.xs, Py.ev, Py.SO.thn, Py.wOf, Py.l1, Py.l2, Py.lL, Py.ress, Py.res, Py.ofO, Py.bW, Py.trO, Py.truth, Py.isTy, Py.callW, Py.shM, Py.shr, Py.shrs, Py.ioW, Py.ioB, Py.ofE, Py.asA, Py.setN, Py.fixA, Py.asAs, Py.retA, Py.ofS, Py.ioE, Py.stepV, Py.stepE, Py.asP, Py.wpE, Py.rsE, Py.lkE, Py.lkE1, Py.ulE, Py.ulE1, e1, hl, e2, h1, h2, e3, h3, dq, dp, z2]
theorem b8 (w w1 : W) (i : Int) (z : W) (hy : okS y8 = true) (e1 : C 24 [w, .int 4] = .ret (.int i) false [w1]) (h1 : ixW (.lst (mL.map rt)) (.int i) = some (z, false)) : xs C tk g B8 [sc, some (w, .own), tu, y3, y4, y5, y6, y7, y8, y9, y10, y11, y12, y13, y14, y15, y16, y17, y18, y19, y20, y21, y22, y23, y24, y25] = .nx [sc, some (w1, .own), tu, y3, y4, y5, y6, y7, some (z, .sh), y9, y10, y11, y12, y13, y14, y15, y16, y17, y18, y19, y20, y21, y22, y23, y24, y25] := by
  refine asn_S C tk g (fr := false) (i := 8) (ρ1 := [sc, some (w1, .own), tu, y3, y4, y5, y6, y7, y8, y9, y10, y11, y12, y13, y14, y15, y16, y17, y18, y19, y20, y21, y22, y23, y24, y25]) ?_ rfl hy
  have hE := mE_ok C
  show (ev C (.ix mE _)).x _ = _
  generalize mE = E1 at hE ⊢
  generalize W.lst (mL.map rt) = l at *
  simp [Py.xs, Py.ev, Py.SO.thn, Py.wOf, Py.l1, Py.l2, Py.lL, Py.ress, Py.res, Py.ofO, Py.bW, Py.trO, Py.truth, Py.isTy, Py.callW, Py.shM, Py.shr, Py.shrs, Py.ioW, Py.ioB, Py.ofE, Py.asA, Py.setN, Py.fixA, Py.asAs, Py.retA, Py.ofS, Py.ioE, Py.stepV, Py.stepE, Py.asP, Py.wpE, Py.rsE, Py.lkE, Py.lkE1, Py.ulE, Py.ulE1, e1, hE, h1]
theorem b15 (w w1 : W) (i : Int) (z : W) (hy : okS y15 = true) (e1 : C 24 [w, .int 4] = .ret (.int i) false [w1]) (h1 : ixW (.lst (lL.map rt)) (.int i) = some (z, false)) : xs C tk g B15 [sc, some (w, .own), tu, y3, y4, y5, y6, y7, y8, y9, y10, y11, y12, y13, y14, y15, y16, y17, y18, y19, y20, y21, y22, y23, y24, y25] = .nx [sc, some (w1, .own), tu, y3, y4, y5, y6, y7, y8, y9, y10, y11, y12, y13, y14, some (z, .sh), y16, y17, y18, y19, y20, y21, y22, y23, y24, y25] := by
  refine asn_S C tk g (fr := false) (i := 15) (ρ1 := [sc, some (w1, .own), tu, y3, y4, y5, y6, y7, y8, y9, y10, y11, y12, y13, y14, y15, y16, y17, y18, y19, y20, y21, y22, y23, y24, y25]) ?_ rfl hy
  have hE := lE_ok C
  show (ev C (.ix lE _)).x _ = _
  generalize lE = E1 at hE ⊢
  generalize W.lst (lL.map rt) = l at *
  simp [Py.xs, Py.ev, Py.SO.thn, Py.wOf, Py.l1, Py.l2, Py.lL, Py.ress, Py.res, Py.ofO, Py.bW, Py.trO, Py.truth, Py.isTy, Py.callW, Py.shM, Py.shr, Py.shrs, Py.ioW, Py.ioB, Py.ofE, Py.asA, Py.setN, Py.fixA, Py.asAs, Py.retA, Py.ofS, Py.ioE, Py.stepV, Py.stepE, Py.asP, Py.wpE, Py.rsE, Py.lkE, Py.lkE1, Py.ulE, Py.ulE1, e1, hE, h1]
theorem b9 (w xw ow : W) (dx : isD xw = false) (do_ : isD ow = false) (hy : okS y9 = true) (h : C 28 [.tup [.int 1, .int 1], xw] = .ret ow false []) : xs C tk g B9 [sc, some (w, .own), tu, y3, y4, y5, y6, y7, some (xw, .sh), y9, y10, y11, y12, y13, y14, y15, y16, y17, y18, y19, y20, y21, y22, y23, y24, y25] = .nx [sc, some (w, .own), tu, y3, y4, y5, y6, y7, some (xw, .sh), some (.tup [xw, ow], .sh), y10, y11, y12, y13, y14, y15, y16, y17, y18, y19, y20, y21, y22, y23, y24, y25] := by
  refine asn_S C tk g (fr := false) (i := 9) (ρ1 := [sc, some (w, .own), tu, y3, y4, y5, y6, y7, some (xw, .sh), y9, y10, y11, y12, y13, y14, y15, y16, y17, y18, y19, y20, y21, y22, y23, y24, y25]) ?_ rfl hy
  have z2 := Py.sz2
  simp [Py.xs, Py.ev, Py.SO.thn, Py.wOf, Py.l1, Py.l2, Py.lL, Py.ress, Py.res, Py.ofO, Py.bW, Py.trO, Py.truth, Py.isTy, Py.callW, Py.shM, Py.shr, Py.shrs, Py.ioW, Py.ioB, Py.ofE, Py.asA, Py.setN, Py.fixA, Py.asAs, Py.retA, Py.ofS, Py.ioE, Py.stepV, Py.stepE, Py.asP, Py.wpE, Py.rsE, Py.lkE, Py.lkE1, Py.ulE, Py.ulE1, h, dx, do_, z2]
theorem b4 (w sw v x m q : W) (ds : isD sw = false) (dm : isD m = false) (dq : isD q = false) (dx : isD x = false) (dv : isD v = false) (e1 : C 13 [sw] = .ret .non false []) (e2 : C 15 [sw] = .ret m false []) (n1 : cmpW .ne m m = some false) (e3 : C 16 [sw] = .ret v false []) (e4 : C 27 [m, m] = .ret x false []) (e5 : C 28 [q, x] = .ret v false []) (n2 : cmpW .ne v v = some false) : xs C tk g B4 [sc, some (w, .own), tu, some (sw, .sh), y4, some (m, .sh), some (q, .sh), y7, y8, y9, y10, y11, y12, y13, y14, y15, y16, y17, y18, y19, y20, y21, y22, y23, y24, y25] = .nx [sc, some (w, .own), tu, some (sw, .sh), y4, some (m, .sh), some (q, .sh), y7, y8, y9, y10, y11, y12, y13, y14, y15, y16, y17, y18, y19, y20, y21, y22, y23, y24, y25] := by
  have c1 : cmpW .isnt .non .non = some false := rfl
  simp [Py.xs, Py.ev, Py.SO.thn, Py.wOf, Py.l1, Py.l2, Py.lL, Py.ress, Py.res, Py.ofO, Py.bW, Py.trO, Py.truth, Py.isTy, Py.callW, Py.shM, Py.shr, Py.shrs, Py.ioW, Py.ioB, Py.ofE, Py.asA, Py.setN, Py.fixA, Py.asAs, Py.retA, Py.ofS, Py.ioE, Py.stepV, Py.stepE, Py.asP, Py.wpE, Py.rsE, Py.lkE, Py.lkE1, Py.ulE, Py.ulE1, B4, e1, e2, e3, e4, e5, n1, n2, ds, dm, dq, dx, dv, c1]
theorem b12 (w : W) (h1 : okS y11 = true) (h2 : okS y12 = true) : xs C tk g B12 [sc, some (w, .own), tu, y3, y4, y5, y6, y7, y8, y9, y10, y11, y12, y13, y14, y15, y16, y17, y18, y19, y20, y21, y22, y23, y24, y25] = .nx [sc, some (w, .own), tu, y3, y4, y5, y6, y7, y8, y9, y10, some (.lst [], .own), some (.lst [], .own), y13, y14, y15, y16, y17, y18, y19, y20, y21, y22, y23, y24, y25] := by
  refine par_S C tk g (fr := true) (fr2 := true) (i := 11) (j := 12) (ρ1 := [sc, some (w, .own), tu, y3, y4, y5, y6, y7, y8, y9, y10, y11, y12, y13, y14, y15, y16, y17, y18, y19, y20, y21, y22, y23, y24, y25]) ?_ rfl rfl h1 rfl h2
  simp [Py.xs, Py.ev, Py.SO.thn, Py.wOf, Py.l1, Py.l2, Py.lL, Py.ress, Py.res, Py.ofO, Py.bW, Py.trO, Py.truth, Py.isTy, Py.callW, Py.shM, Py.shr, Py.shrs, Py.ioW, Py.ioB, Py.ofE, Py.asA, Py.setN, Py.fixA, Py.asAs, Py.retA, Py.ofS, Py.ioE, Py.stepV, Py.stepE, Py.asP, Py.wpE, Py.rsE, Py.lkE, Py.lkE1, Py.ulE, Py.ulE1]
theorem b14 (w sw ow s1 s2 : W) (z1 z2 : List W) (d1 : isD sw = false) (d2 : isD ow = false) (d3 : isD s1 = false) (d4 : isD s2 = false) (e1 : C 20 [sw, ow] = .ret s1 false []) (e2 : C 35 [.lst z1] = .ret s1 false []) (n1 : cmpW .ne s1 s1 = some false) (e3 : C 21 [sw, ow] = .ret s2 false []) (e4 : C 35 [.lst z2] = .ret s2 false []) (n2 : cmpW .ne s2 s2 = some false) (ty : isTy .tuple s1 = true) : xs C tk g B14 [sc, some (w, .own), tu, some (sw, .sh), some (ow, .sh), y5, y6, y7, y8, y9, y10, some (.lst z1, .own), some (.lst z2, .own), y13, y14, y15, y16, y17, y18, y19, y20, y21, y22, y23, y24, y25] = .nx [sc, some (w, .own), tu, some (sw, .sh), some (ow, .sh), y5, y6, y7, y8, y9, y10, some (.lst z1, .sh), some (.lst z2, .sh), y13, y14, y15, y16, y17, y18, y19, y20, y21, y22, y23, y24, y25] := by
  simp [isTy] at ty
  simp [Py.xs, Py.ev, Py.SO.thn, Py.wOf, Py.l1, Py.l2, Py.lL, Py.ress, Py.res, Py.ofO, Py.bW, Py.trO, Py.truth, Py.isTy, Py.callW, Py.shM, Py.shr, Py.shrs, Py.ioW, Py.ioB, Py.ofE, Py.asA, Py.setN, Py.fixA, Py.asAs, Py.retA, Py.ofS, Py.ioE, Py.stepV, Py.stepE, Py.asP, Py.wpE, Py.rsE, Py.lkE, Py.lkE1, Py.ulE, Py.ulE1, B14, e1, e2, e3, e4, n1, n2, d1, d2, d3, d4, ty]
theorem b11 (w sw ow mw s1 : W) (z1 : List W) (d1 : isD sw = false) (d2 : isD ow = false) (d3 : isD s1 = false) (d4 : isD mw = false) (e1 : C 19 [.tup [sw, ow], mw] = .ret s1 false []) (e2 : C 35 [.lst z1] = .ret s1 false []) (n1 : cmpW .ne s1 s1 = some false) : xs C tk g B11 [sc, some (w, .own), tu, some (sw, .sh), some (ow, .sh), y5, y6, y7, y8, some (mw, .sh), some (.lst z1, .own), y11, y12, y13, y14, y15, y16, y17, y18, y19, y20, y21, y22, y23, y24, y25] = .nx [sc, some (w, .own), tu, some (sw, .sh), some (ow, .sh), y5, y6, y7, y8, some (mw, .sh), some (.lst z1, .sh), y11, y12, y13, y14, y15, y16, y17, y18, y19, y20, y21, y22, y23, y24, y25] := by
  have z2 := Py.sz2
  simp [Py.xs, Py.ev, Py.SO.thn, Py.wOf, Py.l1, Py.l2, Py.lL, Py.ress, Py.res, Py.ofO, Py.bW, Py.trO, Py.truth, Py.isTy, Py.callW, Py.shM, Py.shr, Py.shrs, Py.ioW, Py.ioB, Py.ofE, Py.asA, Py.setN, Py.fixA, Py.asAs, Py.retA, Py.ofS, Py.ioE, Py.stepV, Py.stepE, Py.asP, Py.wpE, Py.rsE, Py.lkE, Py.lkE1, Py.ulE, Py.ulE1, B11, e1, e2, n1, d1, d2, d3, d4, z2]
theorem b17 (w sw lw x : W) (xs' : List W) (d1 : isD sw = false) (d2 : isD lw = false) (d3 : isD x = false) (e1 : C 22 [sw, lw] = .ret x false []) (n1 : cmpW .ne x x = some false) : xs C tk g B17 [sc, some (w, .own), tu, some (sw, .sh), y4, y5, y6, y7, y8, y9, y10, y11, y12, y13, y14, some (lw, .sh), some (.lst (x :: xs'), .own), y17, y18, y19, y20, y21, y22, y23, y24, y25] = .nx [sc, some (w, .own), tu, some (sw, .sh), y4, y5, y6, y7, y8, y9, y10, y11, y12, y13, y14, some (lw, .sh), some (.lst (x :: xs'), .own), y17, y18, y19, y20, y21, y22, y23, y24, y25] := by
  have c1 : ixW (.lst (x :: xs')) (.int 0) = some (x, false) := by
    show (L2.atI (x :: xs') 0).map _ = _
    unfold L2.atI L2.ixN
    simp
  generalize W.lst (x :: xs') = l at *
  simp [Py.xs, Py.ev, Py.SO.thn, Py.wOf, Py.l1, Py.l2, Py.lL, Py.ress, Py.res, Py.ofO, Py.bW, Py.trO, Py.truth, Py.isTy, Py.callW, Py.shM, Py.shr, Py.shrs, Py.ioW, Py.ioB, Py.ofE, Py.asA, Py.setN, Py.fixA, Py.asAs, Py.retA, Py.ofS, Py.ioE, Py.stepV, Py.stepE, Py.asP, Py.wpE, Py.rsE, Py.lkE, Py.lkE1, Py.ulE, Py.ulE1, B17, e1, n1, d1, d2, d3, c1]
end
end K21

set_option exponentiation.threshold 10000
namespace K21
open PySem PySem.Spec PyProof.Rows L2 Py
theorem b2 {d : Nat} (hd : 6 ≤ d) {s : List Pr} (h : Sp s) (w : W) (sc tu y4 y5 y6 y7 y8 y9 y10 y11 y12 y13 y14 y15 y16 y17 y18 y19 y20 y21 y22 y23 y24 y25 : Y) (hy : okS y5 = true) : xs (rn d) tkL gg B2 [sc, some (w, .own), tu, some (spW s, .sh), y4, y5, y6, y7, y8, y9, y10, y11, y12, y13, y14, y15, y16, y17, y18, y19, y20, y21, y22, y23, y24, y25] = .nx [sc, some (w, .own), tu, some (spW s, .sh), y4, some (rt (meanQ s), .sh), y6, y7, y8, y9, y10, y11, y12, y13, y14, y15, y16, y17, y18, y19, y20, y21, y22, y23, y24, y25] := by
  have hz := h.z4
  have hs := f30 (d := d) hd (mean_sz h).1
  have e := lc_p (C := rn d) (elt := (.call 27 [false, false] (.cons (.var 20) (.cons (.var 19) .nil)))) (t := .nil) (ρ := [sc, some (w, .own), tu, some (spW s, .sh), y4, y5, y6, y7, y8, y9, y10, y11, y12, y13, y14, y15, y16, y17, y18, y19, y20, y21, y22, y23, y24, y25]) (i := 3) (a := 20) (b := 19) (l := s) (k := fun _ => true) (f := fun p => rt (rtm p.1 p.2)) (by decide) (by show 20 < 26; decide) (by show 19 < 26; decide) (w := spW s) rfl (.inl rfl) (by omega) (fun p hp => by
    have c1 := f27 hd ((h.gb hp).g (by decide)) ((h.cb hp).g (by decide))
    have g1 := isD_rt p.1
    have g2 := isD_rt p.2
    have g3 := isD_rt (rtm p.1 p.2)
    generalize rt (rtm p.1 p.2) = w3 at *
    generalize rt p.1 = w1 at *
    generalize rt p.2 = w2 at *
    generalize spW s = sw at *
    generalize rn d = C at *
    simp [Py.xs, Py.ev, Py.SO.thn, Py.wOf, Py.l1, Py.l2, Py.lL, Py.ress, Py.res, Py.ofO, Py.bW, Py.trO, Py.truth, Py.isTy, Py.callW, Py.shM, Py.shr, Py.shrs, Py.ioW, Py.ioB, Py.ofE, Py.asA, Py.setN, Py.fixA, Py.asAs, Py.retA, Py.ofS, Py.ioE, Py.stepV, Py.stepE, Py.asP, Py.wpE, Py.rsE, Py.lkE, Py.lkE1, Py.ulE, Py.ulE1, S2, c1, g1, g2, g3])
  rw [fil_t] at e
  have el : s.map (fun p => rt (rtm p.1 p.2)) = (meanL s).map rt := by simp [meanL, Function.comp_def]
  rw [el] at e
  exact asn_S (rn d) tkL gg (fr := false) (i := 5) (call1 e rfl hs) rfl hy
theorem b3 {d : Nat} (hd : 6 ≤ d) {s : List Pr} (h : Sp s) (w : W) (sc tu y4 y5 y6 y7 y8 y9 y10 y11 y12 y13 y14 y15 y16 y17 y18 y19 y20 y21 y22 y23 y24 y25 : Y) (hy : okS y6 = true) : xs (rn d) tkL gg B3 [sc, some (w, .own), tu, some (spW s, .sh), y4, y5, y6, y7, y8, y9, y10, y11, y12, y13, y14, y15, y16, y17, y18, y19, y20, y21, y22, y23, y24, y25] = .nx [sc, some (w, .own), tu, some (spW s, .sh), y4, y5, some (rt (sqQ s), .sh), y7, y8, y9, y10, y11, y12, y13, y14, y15, y16, y17, y18, y19, y20, y21, y22, y23, y24, y25] := by
  have hz := h.z4
  have hs := f30 (d := d) hd (sq_sz h).1
  have e := lc_p (C := rn d) (elt := (.call 27 [false, false] (.cons (.var 19) (.cons (.call 27 [false, false] (.cons (.var 20) (.cons (.var 20) .nil))) .nil)))) (t := .nil) (ρ := [sc, some (w, .own), tu, some (spW s, .sh), y4, y5, y6, y7, y8, y9, y10, y11, y12, y13, y14, y15, y16, y17, y18, y19, y20, y21, y22, y23, y24, y25]) (i := 3) (a := 20) (b := 19) (l := s) (k := fun _ => true) (f := fun p => rt (rtm p.2 (rtm p.1 p.1))) (by decide) (by show 20 < 26; decide) (by show 19 < 26; decide) (w := spW s) rfl (.inl rfl) (by omega) (fun p hp => by
    have c1 := f27 hd ((h.gb hp).g (by decide)) ((h.gb hp).g (by decide))
    have c2 := f27 hd ((h.cb hp).g (by decide)) ((rtm_bd (h.gb hp) (h.gb hp)).g (by decide))
    have g1 := isD_rt p.1
    have g2 := isD_rt p.2
    have g3 := isD_rt (rtm p.1 p.1)
    have g4 := isD_rt (rtm p.2 (rtm p.1 p.1))
    generalize rt (rtm p.2 (rtm p.1 p.1)) = w4 at *
    generalize rt (rtm p.1 p.1) = w3 at *
    generalize rt p.1 = w1 at *
    generalize rt p.2 = w2 at *
    generalize spW s = sw at *
    generalize rn d = C at *
    simp [Py.xs, Py.ev, Py.SO.thn, Py.wOf, Py.l1, Py.l2, Py.lL, Py.ress, Py.res, Py.ofO, Py.bW, Py.trO, Py.truth, Py.isTy, Py.callW, Py.shM, Py.shr, Py.shrs, Py.ioW, Py.ioB, Py.ofE, Py.asA, Py.setN, Py.fixA, Py.asAs, Py.retA, Py.ofS, Py.ioE, Py.stepV, Py.stepE, Py.asP, Py.wpE, Py.rsE, Py.lkE, Py.lkE1, Py.ulE, Py.ulE1, S2, c1, c2, g1, g2, g3, g4])
  rw [fil_t] at e
  have el : s.map (fun p => rt (rtm p.2 (rtm p.1 p.1))) = (sqL s).map rt := by simp [sqL, Function.comp_def]
  rw [el] at e
  exact asn_S (rn d) tkL gg (fr := false) (i := 6) (call1 e rfl hs) rfl hy
theorem b6 {d : Nat} (hd : 8 ≤ d) {s : List Pr} (h : Sp s) {z : Q2} (bz : bd 10 z) (w : W) (sc tu y4 y5 y6 y8 y9 y10 y11 y12 y13 y14 y15 y16 y17 y18 y19 y20 y21 y22 y23 y24 y25 : Y) : xs (rn d) tkL gg B6 [sc, some (w, .own), tu, some (spW s, .sh), y4, y5, y6, some (rt z, .sh), y8, y9, y10, y11, y12, y13, y14, y15, y16, y17, y18, y19, y20, y21, y22, y23, y24, y25] = .nx [sc, some (w, .own), tu, some (spW s, .sh), y4, y5, y6, some (rt z, .sh), y8, y9, y10, y11, y12, y13, y14, y15, y16, y17, y18, y19, y20, y21, y22, y23, y24, y25] := by
  have hz := h.z4
  have h17 := q17 h hd bz
  have hd : 6 ≤ d := by omega
  have hs := f30 (d := d) hd (up_sz h z).1
  have e := lc_p (C := rn d) (elt := (.var 19)) (t := (.not (.call 29 [false, false] (.cons (.var 7) (.cons (.var 20) .nil))))) (ρ := [sc, some (w, .own), tu, some (spW s, .sh), y4, y5, y6, some (rt z, .sh), y8, y9, y10, y11, y12, y13, y14, y15, y16, y17, y18, y19, y20, y21, y22, y23, y24, y25]) (i := 3) (a := 20) (b := 19) (l := s) (k := fun p => !rls z p.1) (f := fun p => rt p.2) (by decide) (by show 20 < 26; decide) (by show 19 < 26; decide) (w := spW s) rfl (.inl rfl) (by omega) (fun p hp => by
    have c1 := f29 hd (bz.g (by decide)) ((h.gb hp).g (by decide))
    have g1 := isD_rt p.1
    have g2 := isD_rt p.2
    have g3 := isD_rt z
    generalize rls z p.1 = bb at *
    generalize rt p.1 = w1 at *
    generalize rt p.2 = w2 at *
    generalize rt z = w3 at *
    generalize spW s = sw at *
    generalize rn d = C at *
    cases bb <;> simp [Py.xs, Py.ev, Py.SO.thn, Py.wOf, Py.l1, Py.l2, Py.lL, Py.ress, Py.res, Py.ofO, Py.bW, Py.trO, Py.truth, Py.isTy, Py.callW, Py.shM, Py.shr, Py.shrs, Py.ioW, Py.ioB, Py.ofE, Py.asA, Py.setN, Py.fixA, Py.asAs, Py.retA, Py.ofS, Py.ioE, Py.stepV, Py.stepE, Py.asP, Py.wpE, Py.rsE, Py.lkE, Py.lkE1, Py.ulE, Py.ulE1, S2, c1, g1, g2, g3])
  have el : (s.filter fun p => !rls z p.1).map (fun p => rt p.2) = (upL s z).map rt := by simp [upL, Function.comp_def]
  rw [el] at e
  change rn d 30 [.lst ((upL s z).map rt)] = .ret (rt (upQ s z)) false [] at hs
  have hc := call1 e rfl hs
  have n1 := ne_self (upQ s z)
  have g1 := isD_rt z
  have g2 := isD_rt (upQ s z)
  have ds : isD (spW s) = false := rfl
  refine (ite_no (rn d) tkL gg (ρ1 := [sc, some (w, .own), tu, some (spW s, .sh), y4, y5, y6, some (rt z, .sh), y8, y9, y10, y11, y12, y13, y14, y15, y16, y17, y18, y19, y20, y21, y22, y23, y24, y25]) ?_).trans rfl
  have hE : ∀ (E1 : E), (ev (rn d) E1).x [sc, some (w, .own), tu, some (spW s, .sh), y4, y5, y6, some (rt z, .sh), y8, y9, y10, y11, y12, y13, y14, y15, y16, y17, y18, y19, y20, y21, y22, y23, y24, y25] = .ok (.val (rt (upQ s z)) false) [sc, some (w, .own), tu, some (spW s, .sh), y4, y5, y6, some (rt z, .sh), y8, y9, y10, y11, y12, y13, y14, y15, y16, y17, y18, y19, y20, y21, y22, y23, y24, y25] → (ev (rn d) (.cmp .ne (.call 17 [false, false] (.cons (.var 3) (.cons (.var 7) .nil))) E1)).t [sc, some (w, .own), tu, some (spW s, .sh), y4, y5, y6, some (rt z, .sh), y8, y9, y10, y11, y12, y13, y14, y15, y16, y17, y18, y19, y20, y21, y22, y23, y24, y25] = .ok false [sc, some (w, .own), tu, some (spW s, .sh), y4, y5, y6, some (rt z, .sh), y8, y9, y10, y11, y12, y13, y14, y15, y16, y17, y18, y19, y20, y21, y22, y23, y24, y25] := fun E1 hE => by
    generalize rt (upQ s z) = w2 at *
    generalize rt z = w3 at *
    generalize rn d = C at *
    generalize spW s = sw at *
    simp [Py.xs, Py.ev, Py.SO.thn, Py.wOf, Py.l1, Py.l2, Py.lL, Py.ress, Py.res, Py.ofO, Py.bW, Py.trO, Py.truth, Py.isTy, Py.callW, Py.shM, Py.shr, Py.shrs, Py.ioW, Py.ioB, Py.ofE, Py.asA, Py.setN, Py.fixA, Py.asAs, Py.retA, Py.ofS, Py.ioE, Py.stepV, Py.stepE, Py.asP, Py.wpE, Py.rsE, Py.lkE, Py.lkE1, Py.ulE, Py.ulE1, h17, hE, n1, g1, g2, ds]
  exact hE _ hc
theorem b7 {d : Nat} (hd : 8 ≤ d) {s : List Pr} (h : Sp s) {z : Q2} (bz : bd 10 z) (w : W) (sc tu y4 y5 y6 y8 y9 y10 y11 y12 y13 y14 y15 y16 y17 y18 y19 y20 y21 y22 y23 y24 y25 : Y) : xs (rn d) tkL gg B7 [sc, some (w, .own), tu, some (spW s, .sh), y4, y5, y6, some (rt z, .sh), y8, y9, y10, y11, y12, y13, y14, y15, y16, y17, y18, y19, y20, y21, y22, y23, y24, y25] = .nx [sc, some (w, .own), tu, some (spW s, .sh), y4, y5, y6, some (rt z, .sh), y8, y9, y10, y11, y12, y13, y14, y15, y16, y17, y18, y19, y20, y21, y22, y23, y24, y25] := by
  have hz := h.z4
  have h18 := q18 h hd bz
  have hd : 6 ≤ d := by omega
  have hs := f30 (d := d) hd (sh_sz h bz)
  have e := lc_p (C := rn d) (elt := (.call 27 [false, false] (.cons (.var 19) (.cons (.call 28 [false, false] (.cons (.var 7) (.cons (.var 20) .nil))) .nil)))) (t := (.call 29 [false, false] (.cons (.var 20) (.cons (.var 7) .nil)))) (ρ := [sc, some (w, .own), tu, some (spW s, .sh), y4, y5, y6, some (rt z, .sh), y8, y9, y10, y11, y12, y13, y14, y15, y16, y17, y18, y19, y20, y21, y22, y23, y24, y25]) (i := 3) (a := 20) (b := 19) (l := s) (k := fun p => rls p.1 z) (f := fun p => rt (rtm p.2 (rmi z p.1))) (by decide) (by show 20 < 26; decide) (by show 19 < 26; decide) (w := spW s) rfl (.inl rfl) (by omega) (fun p hp => by
    have c1 := f29 hd ((h.gb hp).g (by decide)) (bz.g (by decide))
    have c2 := f28 hd (bz.g (by decide)) ((h.gb hp).g (by decide))
    have c3 := f27 hd ((h.cb hp).g (by decide)) ((rmi_bd bz (h.gb hp)).g (by decide))
    have g1 := isD_rt p.1
    have g2 := isD_rt p.2
    have g3 := isD_rt z
    have g4 := isD_rt (rmi z p.1)
    have g5 := isD_rt (rtm p.2 (rmi z p.1))
    generalize rls p.1 z = bb at *
    generalize rt (rtm p.2 (rmi z p.1)) = w5 at *
    generalize rt (rmi z p.1) = w4 at *
    generalize rt p.1 = w1 at *
    generalize rt p.2 = w2 at *
    generalize rt z = w3 at *
    generalize spW s = sw at *
    generalize rn d = C at *
    cases bb <;> simp [Py.xs, Py.ev, Py.SO.thn, Py.wOf, Py.l1, Py.l2, Py.lL, Py.ress, Py.res, Py.ofO, Py.bW, Py.trO, Py.truth, Py.isTy, Py.callW, Py.shM, Py.shr, Py.shrs, Py.ioW, Py.ioB, Py.ofE, Py.asA, Py.setN, Py.fixA, Py.asAs, Py.retA, Py.ofS, Py.ioE, Py.stepV, Py.stepE, Py.asP, Py.wpE, Py.rsE, Py.lkE, Py.lkE1, Py.ulE, Py.ulE1, S2, c1, c2, c3, g1, g2, g3, g4, g5])
  have el : (s.filter fun p => rls p.1 z).map (fun p => rt (rtm p.2 (rmi z p.1))) = (shL s z).map rt := by simp [shL, Function.comp_def]
  rw [el] at e
  have hc := call1 e rfl hs
  have n1 := ne_self (sumR (0, 1) (shL s z))
  have g1 := isD_rt z
  have g2 := isD_rt (sumR (0, 1) (shL s z))
  have ds : isD (spW s) = false := rfl
  refine (ite_no (rn d) tkL gg (ρ1 := [sc, some (w, .own), tu, some (spW s, .sh), y4, y5, y6, some (rt z, .sh), y8, y9, y10, y11, y12, y13, y14, y15, y16, y17, y18, y19, y20, y21, y22, y23, y24, y25]) ?_).trans rfl
  have hE : ∀ (E1 : E), (ev (rn d) E1).x [sc, some (w, .own), tu, some (spW s, .sh), y4, y5, y6, some (rt z, .sh), y8, y9, y10, y11, y12, y13, y14, y15, y16, y17, y18, y19, y20, y21, y22, y23, y24, y25] = .ok (.val (rt (sumR (0, 1) (shL s z))) false) [sc, some (w, .own), tu, some (spW s, .sh), y4, y5, y6, some (rt z, .sh), y8, y9, y10, y11, y12, y13, y14, y15, y16, y17, y18, y19, y20, y21, y22, y23, y24, y25] → (ev (rn d) (.cmp .ne (.call 18 [false, false] (.cons (.var 3) (.cons (.var 7) .nil))) E1)).t [sc, some (w, .own), tu, some (spW s, .sh), y4, y5, y6, some (rt z, .sh), y8, y9, y10, y11, y12, y13, y14, y15, y16, y17, y18, y19, y20, y21, y22, y23, y24, y25] = .ok false [sc, some (w, .own), tu, some (spW s, .sh), y4, y5, y6, some (rt z, .sh), y8, y9, y10, y11, y12, y13, y14, y15, y16, y17, y18, y19, y20, y21, y22, y23, y24, y25] := fun E1 hE => by
    generalize rt (sumR (0, 1) (shL s z)) = w2 at *
    generalize rt z = w3 at *
    generalize rn d = C at *
    generalize spW s = sw at *
    simp [Py.xs, Py.ev, Py.SO.thn, Py.wOf, Py.l1, Py.l2, Py.lL, Py.ress, Py.res, Py.ofO, Py.bW, Py.trO, Py.truth, Py.isTy, Py.callW, Py.shM, Py.shr, Py.shrs, Py.ioW, Py.ioB, Py.ofE, Py.asA, Py.setN, Py.fixA, Py.asAs, Py.retA, Py.ofS, Py.ioE, Py.stepV, Py.stepE, Py.asP, Py.wpE, Py.rsE, Py.lkE, Py.lkE1, Py.ulE, Py.ulE1, h18, hE, n1, g1, g2, ds]
  exact hE _ hc
theorem b10 {d : Nat} (hd : 6 ≤ d) {s o : List Pr} (h : Sp s) (h' : Sp o) {m n : Q2} (bm : bd 10 m) (bn : bd 10 n) (w : W) (sc tu y5 y6 y7 y8 y10 y11 y12 y13 y14 y15 y16 y17 y18 y19 y20 y21 y22 y23 y24 y25 : Y) (hy : okS y10 = true) : xs (rn d) tkL gg B10 [sc, some (w, .own), tu, some (spW s, .sh), some (spW o, .sh), y5, y6, y7, y8, some (.tup [rt m, rt n], .sh), y10, y11, y12, y13, y14, y15, y16, y17, y18, y19, y20, y21, y22, y23, y24, y25] = .nx [sc, some (w, .own), tu, some (spW s, .sh), some (spW o, .sh), y5, y6, y7, y8, some (.tup [rt m, rt n], .sh), some (.lst ((mxL s o m n).map prr), .own), y11, y12, y13, y14, y15, y16, y17, y18, y19, y20, y21, y22, y23, y24, y25] := by
  have hz := h.z4
  have hz' := h'.z4
  have e1 := lc_p (C := rn d) (elt := (.tup (.cons (.var 20) (.cons (.call 27 [false, false] (.cons (.ix (.var 9) (.con (.int 0))) (.cons (.var 19) .nil))) .nil)))) (t := .nil) (ρ := [sc, some (w, .own), tu, some (spW s, .sh), some (spW o, .sh), y5, y6, y7, y8, some (.tup [rt m, rt n], .sh), y10, y11, y12, y13, y14, y15, y16, y17, y18, y19, y20, y21, y22, y23, y24, y25]) (i := 3) (a := 20) (b := 19) (l := s) (k := fun _ => true) (f := fun p => prr (p.1, rtm m p.2)) (by decide) (by show 20 < 26; decide) (by show 19 < 26; decide) (w := spW s) rfl (.inl rfl) (by omega) (fun p hp => by
    have c1 := f27 hd (bm.g (by decide)) ((h.cb hp).g (by decide))
    have g1 := isD_rt p.1
    have g2 := isD_rt p.2
    have g3 := isD_rt (rtm m p.2)
    have g4 := isD_rt m
    have i1 : ixW (.tup [rt m, rt n]) (.int 0) = some (rt m, false) := rfl
    have i2 : isD (.tup [rt m, rt n]) = false := rfl
    unfold prr
    generalize rt (rtm m p.2) = w3 at *
    generalize rt p.1 = w1 at *
    generalize rt p.2 = w2 at *
    generalize W.tup [rt m, rt n] = mw at *
    generalize rt m = w4 at *
    generalize spW s = sw at *
    generalize spW o = ow at *
    generalize rn d = C at *
    simp [Py.xs, Py.ev, Py.SO.thn, Py.wOf, Py.l1, Py.l2, Py.lL, Py.ress, Py.res, Py.ofO, Py.bW, Py.trO, Py.truth, Py.isTy, Py.callW, Py.shM, Py.shr, Py.shrs, Py.ioW, Py.ioB, Py.ofE, Py.asA, Py.setN, Py.fixA, Py.asAs, Py.retA, Py.ofS, Py.ioE, Py.stepV, Py.stepE, Py.asP, Py.wpE, Py.rsE, Py.lkE, Py.lkE1, Py.ulE, Py.ulE1, S2, c1, g1, g2, g3, g4, i1, i2, sz2])
  have e2 := lc_p (C := rn d) (elt := (.tup (.cons (.var 20) (.cons (.call 27 [false, false] (.cons (.ix (.var 9) (.con (.int 1))) (.cons (.var 19) .nil))) .nil)))) (t := .nil) (ρ := [sc, some (w, .own), tu, some (spW s, .sh), some (spW o, .sh), y5, y6, y7, y8, some (.tup [rt m, rt n], .sh), y10, y11, y12, y13, y14, y15, y16, y17, y18, y19, y20, y21, y22, y23, y24, y25]) (i := 4) (a := 20) (b := 19) (l := o) (k := fun _ => true) (f := fun p => prr (p.1, rtm n p.2)) (by decide) (by show 20 < 26; decide) (by show 19 < 26; decide) (w := spW o) rfl (.inl rfl) (by omega) (fun p hp => by
    have c1 := f27 hd (bn.g (by decide)) ((h'.cb hp).g (by decide))
    have g1 := isD_rt p.1
    have g2 := isD_rt p.2
    have g3 := isD_rt (rtm n p.2)
    have g4 := isD_rt n
    have i1 : ixW (.tup [rt m, rt n]) (.int 1) = some (rt n, false) := rfl
    have i2 : isD (.tup [rt m, rt n]) = false := rfl
    unfold prr
    generalize rt (rtm n p.2) = w3 at *
    generalize rt p.1 = w1 at *
    generalize rt p.2 = w2 at *
    generalize W.tup [rt m, rt n] = mw at *
    generalize rt n = w4 at *
    generalize spW s = sw at *
    generalize spW o = ow at *
    generalize rn d = C at *
    simp [Py.xs, Py.ev, Py.SO.thn, Py.wOf, Py.l1, Py.l2, Py.lL, Py.ress, Py.res, Py.ofO, Py.bW, Py.trO, Py.truth, Py.isTy, Py.callW, Py.shM, Py.shr, Py.shrs, Py.ioW, Py.ioB, Py.ofE, Py.asA, Py.setN, Py.fixA, Py.asAs, Py.retA, Py.ofS, Py.ioE, Py.stepV, Py.stepE, Py.asP, Py.wpE, Py.rsE, Py.lkE, Py.lkE1, Py.ulE, Py.ulE1, S2, c1, g1, g2, g3, g4, i1, i2, sz2])
  rw [fil_t] at e1 e2
  have o1 : opW .add (.lst (s.map fun p => prr (p.1, rtm m p.2))) (.lst (o.map fun p => prr (p.1, rtm n p.2))) = some (.lst ((mxL s o m n).map prr), true) := by
    show (if (s.map fun p => prr (p.1, rtm m p.2)).length + (o.map fun p => prr (p.1, rtm n p.2)).length ≤ szL then some (W.lst ((s.map fun p => prr (p.1, rtm m p.2)) ++ (o.map fun p => prr (p.1, rtm n p.2))), true) else none) = _
    rw [if_pos (by rw [List.length_map, List.length_map]; unfold szL; omega)]
    unfold mxL
    rw [List.map_append, List.map_map, List.map_map]
    rfl
  refine asn_S (rn d) tkL gg (fr := true) (i := 10) (ρ1 := [sc, some (w, .own), tu, some (spW s, .sh), some (spW o, .sh), y5, y6, y7, y8, some (.tup [rt m, rt n], .sh), y10, y11, y12, y13, y14, y15, y16, y17, y18, y19, y20, y21, y22, y23, y24, y25]) ?_ rfl hy
  have hE : ∀ (E1 E2 : E) (a b r : W), (ev (rn d) E1).x [sc, some (w, .own), tu, some (spW s, .sh), some (spW o, .sh), y5, y6, y7, y8, some (.tup [rt m, rt n], .sh), y10, y11, y12, y13, y14, y15, y16, y17, y18, y19, y20, y21, y22, y23, y24, y25] = .ok (.val a true) [sc, some (w, .own), tu, some (spW s, .sh), some (spW o, .sh), y5, y6, y7, y8, some (.tup [rt m, rt n], .sh), y10, y11, y12, y13, y14, y15, y16, y17, y18, y19, y20, y21, y22, y23, y24, y25] → (ev (rn d) E2).x [sc, some (w, .own), tu, some (spW s, .sh), some (spW o, .sh), y5, y6, y7, y8, some (.tup [rt m, rt n], .sh), y10, y11, y12, y13, y14, y15, y16, y17, y18, y19, y20, y21, y22, y23, y24, y25] = .ok (.val b true) [sc, some (w, .own), tu, some (spW s, .sh), some (spW o, .sh), y5, y6, y7, y8, some (.tup [rt m, rt n], .sh), y10, y11, y12, y13, y14, y15, y16, y17, y18, y19, y20, y21, y22, y23, y24, y25] → opW .add a b = some (r, true) → (ev (rn d) (.op .add E1 E2)).x [sc, some (w, .own), tu, some (spW s, .sh), some (spW o, .sh), y5, y6, y7, y8, some (.tup [rt m, rt n], .sh), y10, y11, y12, y13, y14, y15, y16, y17, y18, y19, y20, y21, y22, y23, y24, y25] = .ok (.val r true) [sc, some (w, .own), tu, some (spW s, .sh), some (spW o, .sh), y5, y6, y7, y8, some (.tup [rt m, rt n], .sh), y10, y11, y12, y13, y14, y15, y16, y17, y18, y19, y20, y21, y22, y23, y24, y25] := fun E1 E2 a b r x1 x2 x3 => by
    generalize W.tup [rt m, rt n] = mw at *
    generalize rn d = C at *
    generalize spW s = sw at *
    generalize spW o = ow at *
    simp [Py.xs, Py.ev, Py.SO.thn, Py.wOf, Py.l1, Py.l2, Py.lL, Py.ress, Py.res, Py.ofO, Py.bW, Py.trO, Py.truth, Py.isTy, Py.callW, Py.shM, Py.shr, Py.shrs, Py.ioW, Py.ioB, Py.ofE, Py.asA, Py.setN, Py.fixA, Py.asAs, Py.retA, Py.ofS, Py.ioE, Py.stepV, Py.stepE, Py.asP, Py.wpE, Py.rsE, Py.lkE, Py.lkE1, Py.ulE, Py.ulE1, x1, x2, x3]
  exact hE _ _ _ _ _ e1 e2 o1
end K21

set_option exponentiation.threshold 10000
namespace K21
open PySem PySem.Spec PyProof.Rows L2 Py
def tpB : S := (.seq (.asn 11 (.op .add (.var 11) (.lc (.tup (.cons (.call 26 [false, false] (.cons (.var 13) (.cons (.var 21) .nil))) (.cons (.call 27 [false, false] (.cons (.var 14) (.cons (.var 22) .nil))) .nil))) (.t (.cons (.n 21) (.cons (.n 22) .nil))) .nil .seq (.cons (.var 4) .nil) [21, 22]))) (.seq (.asn 12 (.op .add (.var 12) (.lc (.tup (.cons (.call 31 [false, false] (.cons (.lst (.cons (.var 13) (.cons (.var 21) .nil))) (.cons (.con (.int 1)) .nil))) (.cons (.call 27 [false, false] (.cons (.var 14) (.cons (.var 22) .nil))) .nil))) (.t (.cons (.n 21) (.cons (.n 22) .nil))) .nil .seq (.cons (.var 4) .nil) [21, 22]))) .nil))
theorem B13_is : B13 = .for_ (.t (.cons (.n 13) (.cons (.n 14) .nil))) .seq (.cons (.var 3) .nil) tpB := rfl
theorem add_prr {A : List Pr} {f : Pr → Pr} {o : List Pr} (hA : A.length ≤ 100) (ho : o.length ≤ 100) : opW .add (.lst (A.map prr)) (.lst (o.map fun q => prr (f q))) = some (.lst ((A ++ o.map f).map prr), true) := by
  show (if (A.map prr).length + (o.map fun q => prr (f q)).length ≤ szL then some (W.lst (A.map prr ++ (o.map fun q => prr (f q))), true) else none) = _
  rw [if_pos (by rw [List.length_map, List.length_map]; unfold szL; omega), List.map_append, List.map_map]
  rfl
theorem tp_body {d : Nat} (hd : 6 ≤ d) {s o : List Pr} (h : Sp s) (h' : Sp o) (w : W) (sc tu y5 y6 y7 y8 y9 y10 y15 y16 y17 y18 y19 y20 y21 y22 y23 y24 y25 : Y) (A B : List Pr) (zA : A.length ≤ 50) (zB : B.length ≤ 50) (p : Pr) (hp : p ∈ s) : xs (rn d) tkL gg tpB [sc, some (w, .own), tu, some (spW s, .sh), some (spW o, .sh), y5, y6, y7, y8, y9, y10, some (.lst ((A).map prr), .own), some (.lst ((B).map prr), .own), some (rt p.1, .sh), some (rt p.2, .sh), y15, y16, y17, y18, y19, y20, y21, y22, y23, y24, y25] = .nx [sc, some (w, .own), tu, some (spW s, .sh), some (spW o, .sh), y5, y6, y7, y8, y9, y10, some (.lst ((A ++ (o.map fun q => (rpl p.1 q.1, rtm p.2 q.2))).map prr), .own), some (.lst ((B ++ (o.map fun q => (rgr p.1 q.1, rtm p.2 q.2))).map prr), .own), some (rt p.1, .sh), some (rt p.2, .sh), y15, y16, y17, y18, y19, y20, y21, y22, y23, y24, y25] := by
  have hz := h.z4
  have hz' := h'.z4
  have e1 := lc_p (C := rn d) (elt := (.tup (.cons (.call 26 [false, false] (.cons (.var 13) (.cons (.var 21) .nil))) (.cons (.call 27 [false, false] (.cons (.var 14) (.cons (.var 22) .nil))) .nil)))) (t := .nil) (ρ := [sc, some (w, .own), tu, some (spW s, .sh), some (spW o, .sh), y5, y6, y7, y8, y9, y10, some (.lst ((A).map prr), .own), some (.lst ((B).map prr), .own), some (rt p.1, .sh), some (rt p.2, .sh), y15, y16, y17, y18, y19, y20, y21, y22, y23, y24, y25]) (i := 4) (a := 21) (b := 22) (l := o) (k := fun _ => true) (f := fun q => prr (rpl p.1 q.1, rtm p.2 q.2)) (by decide) (by show 21 < 26; decide) (by show 22 < 26; decide) (w := spW o) rfl (.inl rfl) (by omega) (fun q hq => by
    have c1 := f26 hd ((h.gb hp).g (by decide)) ((h'.gb hq).g (by decide))
    have c2 := f27 hd ((h.cb hp).g (by decide)) ((h'.cb hq).g (by decide))
    have g1 := isD_rt p.1
    have g2 := isD_rt p.2
    have g3 := isD_rt (rpl p.1 q.1)
    have g4 := isD_rt (rtm p.2 q.2)
    have g5 := isD_rt q.1
    have g6 := isD_rt q.2
    unfold prr
    generalize rt (rpl p.1 q.1) = w3 at *
    generalize rt (rtm p.2 q.2) = w4 at *
    generalize rt p.1 = w1 at *
    generalize rt p.2 = w2 at *
    generalize rt q.1 = w5 at *
    generalize rt q.2 = w6 at *
    generalize spW s = sw at *
    generalize spW o = ow at *
    generalize A.map prr = az at *
    generalize B.map prr = bz at *
    generalize rn d = C at *
    simp [Py.xs, Py.ev, Py.SO.thn, Py.wOf, Py.l1, Py.l2, Py.lL, Py.ress, Py.res, Py.ofO, Py.bW, Py.trO, Py.truth, Py.isTy, Py.callW, Py.shM, Py.shr, Py.shrs, Py.ioW, Py.ioB, Py.ofE, Py.asA, Py.setN, Py.fixA, Py.asAs, Py.retA, Py.ofS, Py.ioE, Py.stepV, Py.stepE, Py.asP, Py.wpE, Py.rsE, Py.lkE, Py.lkE1, Py.ulE, Py.ulE1, S2, c1, c2, g1, g2, g3, g4, g5, g6, sz2])
  have e2 := lc_p (C := rn d) (elt := (.tup (.cons (.call 31 [false, false] (.cons (.lst (.cons (.var 13) (.cons (.var 21) .nil))) (.cons (.con (.int 1)) .nil))) (.cons (.call 27 [false, false] (.cons (.var 14) (.cons (.var 22) .nil))) .nil)))) (t := .nil) (ρ := [sc, some (w, .own), tu, some (spW s, .sh), some (spW o, .sh), y5, y6, y7, y8, y9, y10, some (.lst ((A ++ (o.map fun q => (rpl p.1 q.1, rtm p.2 q.2))).map prr), .own), some (.lst ((B).map prr), .own), some (rt p.1, .sh), some (rt p.2, .sh), y15, y16, y17, y18, y19, y20, y21, y22, y23, y24, y25]) (i := 4) (a := 21) (b := 22) (l := o) (k := fun _ => true) (f := fun q => prr (rgr p.1 q.1, rtm p.2 q.2)) (by decide) (by show 21 < 26; decide) (by show 22 < 26; decide) (w := spW o) rfl (.inl rfl) (by omega) (fun q hq => by
    have c1 := f31 hd ((h.gb hp).g (by decide)) ((h'.gb hq).g (by decide))
    have c2 := f27 hd ((h.cb hp).g (by decide)) ((h'.cb hq).g (by decide))
    have g1 := isD_rt p.1
    have g2 := isD_rt p.2
    have g3 := isD_rt (rgr p.1 q.1)
    have g4 := isD_rt (rtm p.2 q.2)
    have g5 := isD_rt q.1
    have g6 := isD_rt q.2
    unfold prr
    generalize rt (rgr p.1 q.1) = w3 at *
    generalize (A ++ (o.map fun q => (rpl p.1 q.1, rtm p.2 q.2))) = AA at *
    generalize rt (rtm p.2 q.2) = w4 at *
    generalize rt p.1 = w1 at *
    generalize rt p.2 = w2 at *
    generalize rt q.1 = w5 at *
    generalize rt q.2 = w6 at *
    generalize spW s = sw at *
    generalize spW o = ow at *
    generalize AA.map prr = az at *
    generalize B.map prr = bz at *
    generalize rn d = C at *
    simp [Py.xs, Py.ev, Py.SO.thn, Py.wOf, Py.l1, Py.l2, Py.lL, Py.ress, Py.res, Py.ofO, Py.bW, Py.trO, Py.truth, Py.isTy, Py.callW, Py.shM, Py.shr, Py.shrs, Py.ioW, Py.ioB, Py.ofE, Py.asA, Py.setN, Py.fixA, Py.asAs, Py.retA, Py.ofS, Py.ioE, Py.stepV, Py.stepE, Py.asP, Py.wpE, Py.rsE, Py.lkE, Py.lkE1, Py.ulE, Py.ulE1, S2, c1, c2, g1, g2, g3, g4, g5, g6, sz2])
  rw [fil_t] at e1 e2
  have o1 := add_prr (A := A) (f := fun q => (rpl p.1 q.1, rtm p.2 q.2)) (o := o) (by omega) (by omega)
  have o2 := add_prr (A := B) (f := fun q => (rgr p.1 q.1, rtm p.2 q.2)) (o := o) (by omega) (by omega)
  have hE : ∀ (E1 : E) (a r : W), (ev (rn d) E1).x [sc, some (w, .own), tu, some (spW s, .sh), some (spW o, .sh), y5, y6, y7, y8, y9, y10, some (.lst ((A).map prr), .own), some (.lst ((B).map prr), .own), some (rt p.1, .sh), some (rt p.2, .sh), y15, y16, y17, y18, y19, y20, y21, y22, y23, y24, y25] = .ok (.val a true) [sc, some (w, .own), tu, some (spW s, .sh), some (spW o, .sh), y5, y6, y7, y8, y9, y10, some (.lst ((A).map prr), .own), some (.lst ((B).map prr), .own), some (rt p.1, .sh), some (rt p.2, .sh), y15, y16, y17, y18, y19, y20, y21, y22, y23, y24, y25] → opW .add (.lst (A.map prr)) a = some (r, true) → (ev (rn d) (.op .add (.var 11) E1)).x [sc, some (w, .own), tu, some (spW s, .sh), some (spW o, .sh), y5, y6, y7, y8, y9, y10, some (.lst ((A).map prr), .own), some (.lst ((B).map prr), .own), some (rt p.1, .sh), some (rt p.2, .sh), y15, y16, y17, y18, y19, y20, y21, y22, y23, y24, y25] = .ok (.val r true) [sc, some (w, .own), tu, some (spW s, .sh), some (spW o, .sh), y5, y6, y7, y8, y9, y10, some (.lst ((A).map prr), .own), some (.lst ((B).map prr), .own), some (rt p.1, .sh), some (rt p.2, .sh), y15, y16, y17, y18, y19, y20, y21, y22, y23, y24, y25] := fun E1 a r x1 x3 => by
    generalize rn d = C at *
    generalize spW s = sw at *
    generalize spW o = ow at *
    generalize A.map prr = az at *
    generalize B.map prr = bz at *
    generalize rt p.1 = w1 at *
    generalize rt p.2 = w2 at *
    simp [Py.xs, Py.ev, Py.SO.thn, Py.wOf, Py.l1, Py.l2, Py.lL, Py.ress, Py.res, Py.ofO, Py.bW, Py.trO, Py.truth, Py.isTy, Py.callW, Py.shM, Py.shr, Py.shrs, Py.ioW, Py.ioB, Py.ofE, Py.asA, Py.setN, Py.fixA, Py.asAs, Py.retA, Py.ofS, Py.ioE, Py.stepV, Py.stepE, Py.asP, Py.wpE, Py.rsE, Py.lkE, Py.lkE1, Py.ulE, Py.ulE1, x1, x3]
  have x1 := asn_S (rn d) tkL gg (fr := true) (i := 11) (hE _ _ _ e1 o1) rfl rfl
  have hE2 : ∀ (E1 : E) (a r : W), (ev (rn d) E1).x [sc, some (w, .own), tu, some (spW s, .sh), some (spW o, .sh), y5, y6, y7, y8, y9, y10, some (.lst ((A ++ (o.map fun q => (rpl p.1 q.1, rtm p.2 q.2))).map prr), .own), some (.lst ((B).map prr), .own), some (rt p.1, .sh), some (rt p.2, .sh), y15, y16, y17, y18, y19, y20, y21, y22, y23, y24, y25] = .ok (.val a true) [sc, some (w, .own), tu, some (spW s, .sh), some (spW o, .sh), y5, y6, y7, y8, y9, y10, some (.lst ((A ++ (o.map fun q => (rpl p.1 q.1, rtm p.2 q.2))).map prr), .own), some (.lst ((B).map prr), .own), some (rt p.1, .sh), some (rt p.2, .sh), y15, y16, y17, y18, y19, y20, y21, y22, y23, y24, y25] → opW .add (.lst (B.map prr)) a = some (r, true) → (ev (rn d) (.op .add (.var 12) E1)).x [sc, some (w, .own), tu, some (spW s, .sh), some (spW o, .sh), y5, y6, y7, y8, y9, y10, some (.lst ((A ++ (o.map fun q => (rpl p.1 q.1, rtm p.2 q.2))).map prr), .own), some (.lst ((B).map prr), .own), some (rt p.1, .sh), some (rt p.2, .sh), y15, y16, y17, y18, y19, y20, y21, y22, y23, y24, y25] = .ok (.val r true) [sc, some (w, .own), tu, some (spW s, .sh), some (spW o, .sh), y5, y6, y7, y8, y9, y10, some (.lst ((A ++ (o.map fun q => (rpl p.1 q.1, rtm p.2 q.2))).map prr), .own), some (.lst ((B).map prr), .own), some (rt p.1, .sh), some (rt p.2, .sh), y15, y16, y17, y18, y19, y20, y21, y22, y23, y24, y25] := fun E1 a r x1 x3 => by
    generalize (A ++ (o.map fun q => (rpl p.1 q.1, rtm p.2 q.2))) = AA at *
    generalize rn d = C at *
    generalize spW s = sw at *
    generalize spW o = ow at *
    generalize AA.map prr = az at *
    generalize B.map prr = bz at *
    generalize rt p.1 = w1 at *
    generalize rt p.2 = w2 at *
    simp [Py.xs, Py.ev, Py.SO.thn, Py.wOf, Py.l1, Py.l2, Py.lL, Py.ress, Py.res, Py.ofO, Py.bW, Py.trO, Py.truth, Py.isTy, Py.callW, Py.shM, Py.shr, Py.shrs, Py.ioW, Py.ioB, Py.ofE, Py.asA, Py.setN, Py.fixA, Py.asAs, Py.retA, Py.ofS, Py.ioE, Py.stepV, Py.stepE, Py.asP, Py.wpE, Py.rsE, Py.lkE, Py.lkE1, Py.ulE, Py.ulE1, x1, x3]
  have x2 := asn_S (rn d) tkL gg (fr := true) (i := 12) (hE2 _ _ _ e2 o2) rfl rfl
  unfold tpB
  refine (seq_nx (x1.trans ?_)).trans ((seq_nx (x2.trans ?_)).trans rfl)
  · rfl
  · rfl
theorem as_t2 {ρ : Py.Env} {a b : Nat} {x y : Y} (hab : a ≠ b) (ha : ρ[a]? = some x) (hx : okS x = true) (hb : ρ[b]? = some y) (hy : okS y = true) (u v : W) : asP (.t (.cons (.n a) (.cons (.n b) .nil))) (.tup [u, v]) ρ = some ((ρ.set a (some (u, .sh))).set b (some (v, .sh))) := by
  have g1 : setN ρ a u .sh = some (ρ.set a (some (u, .sh))) := set_ok ha hx u .sh
  have g2 : setN (ρ.set a (some (u, .sh))) b v .sh = some ((ρ.set a (some (u, .sh))).set b (some (v, .sh))) := set_ok (by rw [List.getElem?_set_ne hab]; exact hb) hy v .sh
  simp only [asP, g1, g2]
theorem tp_loop {d : Nat} (hd : 6 ≤ d) {s o : List Pr} (h : Sp s) (h' : Sp o) (w : W) (sc tu y5 y6 y7 y8 y9 y10 y15 y16 y17 y18 y19 y20 y21 y22 y23 y24 y25 : Y) : ∀ (rest A B : List Pr) (y13 y14 : Y), (∀ p ∈ rest, p ∈ s) → A.length + 4 * rest.length ≤ 50 → B.length + 4 * rest.length ≤ 50 → okS y13 = true → okS y14 = true → ∃ z13 z14, okS z13 = true ∧ okS z14 = true ∧ forL (stF (rn d) tkL gg (.t (.cons (.n 13) (.cons (.n 14) .nil))) tpB) (rest.map prr) [sc, some (w, .own), tu, some (spW s, .sh), some (spW o, .sh), y5, y6, y7, y8, y9, y10, some (.lst ((A).map prr), .own), some (.lst ((B).map prr), .own), y13, y14, y15, y16, y17, y18, y19, y20, y21, y22, y23, y24, y25] = .nx [sc, some (w, .own), tu, some (spW s, .sh), some (spW o, .sh), y5, y6, y7, y8, y9, y10, some (.lst ((A ++ smL rest o).map prr), .own), some (.lst ((B ++ grL rest o).map prr), .own), z13, z14, y15, y16, y17, y18, y19, y20, y21, y22, y23, y24, y25]
  | [], A, B, y13, y14, _, _, _, k1, k2 => ⟨y13, y14, k1, k2, by
    show forL _ [] _ = _
    rw [show smL [] o = [] from rfl, show grL [] o = [] from rfl, List.append_nil, List.append_nil]
    rfl⟩
  | p :: rest, A, B, y13, y14, hm, zA, zB, k1, k2 => by
    have hz' := h'.z4
    rw [List.length_cons] at zA zB
    have ea := as_t2 (ρ := [sc, some (w, .own), tu, some (spW s, .sh), some (spW o, .sh), y5, y6, y7, y8, y9, y10, some (.lst ((A).map prr), .own), some (.lst ((B).map prr), .own), y13, y14, y15, y16, y17, y18, y19, y20, y21, y22, y23, y24, y25]) (a := 13) (b := 14) (x := y13) (y := y14) (by decide) rfl k1 rfl k2 (rt p.1) (rt p.2)
    have hb := tp_body hd h h' w sc tu y5 y6 y7 y8 y9 y10 y15 y16 y17 y18 y19 y20 y21 y22 y23 y24 y25 A B (by omega) (by omega) p (hm p List.mem_cons_self)
    obtain ⟨z13, z14, q1, q2, e⟩ := tp_loop hd h h' w sc tu y5 y6 y7 y8 y9 y10 y15 y16 y17 y18 y19 y20 y21 y22 y23 y24 y25 rest (A ++ (o.map fun q => (rpl p.1 q.1, rtm p.2 q.2))) (B ++ (o.map fun q => (rgr p.1 q.1, rtm p.2 q.2))) (some (rt p.1, .sh)) (some (rt p.2, .sh)) (fun q hq => hm q (List.mem_cons_of_mem _ hq)) (by rw [List.length_append, List.length_map]; omega) (by rw [List.length_append, List.length_map]; omega) rfl rfl
    refine ⟨z13, z14, q1, q2, ?_⟩
    have es : A ++ (o.map fun q => (rpl p.1 q.1, rtm p.2 q.2)) ++ smL rest o = A ++ smL (p :: rest) o := by unfold smL; rw [List.flatMap_cons, List.append_assoc]
    have eg : B ++ (o.map fun q => (rgr p.1 q.1, rtm p.2 q.2)) ++ grL rest o = B ++ grL (p :: rest) o := by unfold grL; rw [List.flatMap_cons, List.append_assoc]
    rw [es, eg] at e
    have hs : stF (rn d) tkL gg (.t (.cons (.n 13) (.cons (.n 14) .nil))) tpB (prr p) [sc, some (w, .own), tu, some (spW s, .sh), some (spW o, .sh), y5, y6, y7, y8, y9, y10, some (.lst ((A).map prr), .own), some (.lst ((B).map prr), .own), y13, y14, y15, y16, y17, y18, y19, y20, y21, y22, y23, y24, y25] = .nx [sc, some (w, .own), tu, some (spW s, .sh), some (spW o, .sh), y5, y6, y7, y8, y9, y10, some (.lst ((A ++ (o.map fun q => (rpl p.1 q.1, rtm p.2 q.2))).map prr), .own), some (.lst ((B ++ (o.map fun q => (rgr p.1 q.1, rtm p.2 q.2))).map prr), .own), some (rt p.1, .sh), some (rt p.2, .sh), y15, y16, y17, y18, y19, y20, y21, y22, y23, y24, y25] := (stF_ok ea).trans hb
    rw [List.map_cons]
    show (match stF (rn d) tkL gg (.t (.cons (.n 13) (.cons (.n 14) .nil))) tpB (prr p) [sc, some (w, .own), tu, some (spW s, .sh), some (spW o, .sh), y5, y6, y7, y8, y9, y10, some (.lst ((A).map prr), .own), some (.lst ((B).map prr), .own), y13, y14, y15, y16, y17, y18, y19, y20, y21, y22, y23, y24, y25] with
      | .nx ρ2 => forL (stF (rn d) tkL gg (.t (.cons (.n 13) (.cons (.n 14) .nil))) tpB) (rest.map prr) ρ2
      | .ct ρ2 => forL (stF (rn d) tkL gg (.t (.cons (.n 13) (.cons (.n 14) .nil))) tpB) (rest.map prr) ρ2
      | .bk ρ2 => .nx ρ2
      | o => o) = _
    rw [hs]
    exact e
theorem b13 {d : Nat} (hd : 6 ≤ d) {s o : List Pr} (h : Sp s) (h' : Sp o) (w : W) (sc tu y5 y6 y7 y8 y9 y10 y13 y14 y15 y16 y17 y18 y19 y20 y21 y22 y23 y24 y25 : Y) (k1 : okS y13 = true) (k2 : okS y14 = true) : ∃ z13 z14, okS z13 = true ∧ okS z14 = true ∧ xs (rn d) tkL gg B13 [sc, some (w, .own), tu, some (spW s, .sh), some (spW o, .sh), y5, y6, y7, y8, y9, y10, some (.lst [], .own), some (.lst [], .own), y13, y14, y15, y16, y17, y18, y19, y20, y21, y22, y23, y24, y25] = .nx [sc, some (w, .own), tu, some (spW s, .sh), some (spW o, .sh), y5, y6, y7, y8, y9, y10, some (.lst ((smL s o).map prr), .own), some (.lst ((grL s o).map prr), .own), z13, z14, y15, y16, y17, y18, y19, y20, y21, y22, y23, y24, y25] := by
  have hz := h.z4
  obtain ⟨z13, z14, q1, q2, e⟩ := tp_loop hd h h' w sc tu y5 y6 y7 y8 y9 y10 y15 y16 y17 y18 y19 y20 y21 y22 y23 y24 y25 s [] [] y13 y14 (fun _ hp => hp) (by simp; omega) (by simp; omega) k1 k2
  refine ⟨z13, z14, q1, q2, ?_⟩
  rw [B13_is, for_ok (ρ1 := [sc, some (w, .own), tu, some (spW s, .sh), some (spW o, .sh), y5, y6, y7, y8, y9, y10, some (.lst [], .own), some (.lst [], .own), y13, y14, y15, y16, y17, y18, y19, y20, y21, y22, y23, y24, y25]) (us := [.slot 3]) (its := s.map prr) rfl rfl]
  rw [List.nil_append, List.nil_append] at e
  refine (congrArg (SO.mapE _) e).trans rfl
def Lfi : E := (.lc (.var 24) (.t (.cons (.n 23) (.cons (.n 24) .nil))) (.not (.call 29 [false, false] (.cons (.var 20) (.cons (.var 23) .nil)))) .seq (.cons (.var 3) .nil) [23, 24])
theorem b16 {d : Nat} (hd : 6 ≤ d) {s : List Pr} (h : Sp s) {lv : Q2} (bl : bd 10 lv) (w : W) (sc tu y4 y5 y6 y7 y8 y9 y10 y11 y12 y13 y14 y16 y17 y18 y19 y20 y21 y22 y23 y24 y25 : Y) (hy : okS y16 = true) : xs (rn d) tkL gg B16 [sc, some (w, .own), tu, some (spW s, .sh), y4, y5, y6, y7, y8, y9, y10, y11, y12, y13, y14, some (rt lv, .sh), y16, y17, y18, y19, y20, y21, y22, y23, y24, y25] = .nx [sc, some (w, .own), tu, some (spW s, .sh), y4, y5, y6, y7, y8, y9, y10, y11, y12, y13, y14, some (rt lv, .sh), some (.lst ((s.filter fun p => !rls (upQ s p.1) lv).map fun p => rt p.1), .own), y17, y18, y19, y20, y21, y22, y23, y24, y25] := by
  have hz := h.z4
  have e := lc_p (C := rn d) (elt := (.var 20)) (t := (.not (.call 29 [false, false] (.cons (.call 30 [false] (.cons Lfi .nil)) (.cons (.var 15) .nil))))) (ρ := [sc, some (w, .own), tu, some (spW s, .sh), y4, y5, y6, y7, y8, y9, y10, y11, y12, y13, y14, some (rt lv, .sh), y16, y17, y18, y19, y20, y21, y22, y23, y24, y25]) (i := 3) (a := 20) (b := 19) (l := s) (k := fun p => !rls (upQ s p.1) lv) (f := fun p => rt p.1) (by decide) (by show 20 < 26; decide) (by show 19 < 26; decide) (w := spW s) rfl (.inl rfl) (by omega) (fun p hp => by
    have e := lc_p (C := rn d) (elt := (.var 24)) (t := (.not (.call 29 [false, false] (.cons (.var 20) (.cons (.var 23) .nil))))) (ρ := [sc, some (w, .own), tu, some (spW s, .sh), y4, y5, y6, y7, y8, y9, y10, y11, y12, y13, y14, some (rt lv, .sh), y16, y17, y18, some (rt p.2, .sh), some (rt p.1, .sh), y21, y22, y23, y24, y25]) (i := 3) (a := 23) (b := 24) (l := s) (k := fun q => !rls p.1 q.1) (f := fun q => rt q.2) (by decide) (by show 23 < 26; decide) (by show 24 < 26; decide) (w := spW s) rfl (.inl rfl) (by omega) (fun q hq => by
      have c1 := f29 hd ((h.gb hp).g (by decide)) ((h.gb hq).g (by decide))
      have g1 := isD_rt p.1
      have g2 := isD_rt q.1
      have g3 := isD_rt q.2
      generalize rls p.1 q.1 = bb at *
      generalize rt p.1 = w1 at *
      generalize rt p.2 = w2 at *
      generalize rt q.1 = w3 at *
      generalize rt q.2 = w4 at *
      generalize rt lv = w5 at *
      generalize spW s = sw at *
      generalize rn d = C at *
      cases bb <;> simp [Py.xs, Py.ev, Py.SO.thn, Py.wOf, Py.l1, Py.l2, Py.lL, Py.ress, Py.res, Py.ofO, Py.bW, Py.trO, Py.truth, Py.isTy, Py.callW, Py.shM, Py.shr, Py.shrs, Py.ioW, Py.ioB, Py.ofE, Py.asA, Py.setN, Py.fixA, Py.asAs, Py.retA, Py.ofS, Py.ioE, Py.stepV, Py.stepE, Py.asP, Py.wpE, Py.rsE, Py.lkE, Py.lkE1, Py.ulE, Py.ulE1, S2, c1, g1, g2, g3])
    have hs := f30 (d := d) hd (up_sz h p.1).1
    have el : (s.filter fun q => !rls p.1 q.1).map (fun q => rt q.2) = (upL s p.1).map rt := by simp [upL, Function.comp_def]
    rw [el] at e
    have hc := call1 e rfl hs
    change (ev (rn d) (.call 30 [false] (.cons Lfi .nil))).x [sc, some (w, .own), tu, some (spW s, .sh), y4, y5, y6, y7, y8, y9, y10, y11, y12, y13, y14, some (rt lv, .sh), y16, y17, y18, some (rt p.2, .sh), some (rt p.1, .sh), y21, y22, y23, y24, y25] = .ok (.val (rt (upQ s p.1)) false) [sc, some (w, .own), tu, some (spW s, .sh), y4, y5, y6, y7, y8, y9, y10, y11, y12, y13, y14, some (rt lv, .sh), y16, y17, y18, some (rt p.2, .sh), some (rt p.1, .sh), y21, y22, y23, y24, y25] at hc
    have c1 := f29 hd ((up_sz h p.1).2.g (by decide)) (bl.g (by decide))
    have g1 := isD_rt p.1
    have g2 := isD_rt (upQ s p.1)
    have g3 := isD_rt lv
    have eS : S2 [sc, some (w, .own), tu, some (spW s, .sh), y4, y5, y6, y7, y8, y9, y10, y11, y12, y13, y14, some (rt lv, .sh), y16, y17, y18, y19, y20, y21, y22, y23, y24, y25] 20 19 (rt p.1) (rt p.2) = [sc, some (w, .own), tu, some (spW s, .sh), y4, y5, y6, y7, y8, y9, y10, y11, y12, y13, y14, some (rt lv, .sh), y16, y17, y18, some (rt p.2, .sh), some (rt p.1, .sh), y21, y22, y23, y24, y25] := rfl
    rw [eS]
    generalize (E.call 30 [false] (.cons Lfi .nil)) = L at *
    generalize rls (upQ s p.1) lv = bb at *
    generalize rt (upQ s p.1) = w1 at *
    generalize rt p.1 = w2 at *
    generalize rt p.2 = w3 at *
    generalize rt lv = w5 at *
    generalize spW s = sw at *
    generalize rn d = C at *
    cases bb <;> simp [Py.xs, Py.ev, Py.SO.thn, Py.wOf, Py.l1, Py.l2, Py.lL, Py.ress, Py.res, Py.ofO, Py.bW, Py.trO, Py.truth, Py.isTy, Py.callW, Py.shM, Py.shr, Py.shrs, Py.ioW, Py.ioB, Py.ofE, Py.asA, Py.setN, Py.fixA, Py.asAs, Py.retA, Py.ofS, Py.ioE, Py.stepV, Py.stepE, Py.asP, Py.wpE, Py.rsE, Py.lkE, Py.lkE1, Py.ulE, Py.ulE1, hc, c1, g1, g2, g3])
  exact asn_S (rn d) tkL gg (fr := true) (i := 16) e rfl hy
end K21

set_option exponentiation.threshold 10000
namespace K21
open PySem PySem.Spec PyProof.Rows L2 Py
theorem l5 (sc w' tu y3 y4 y5 y6 y7 y8 y9 y10 y11 y12 y13 y14 y15 y16 : Y) : ofS I_law.fd (xs (rn 39) tkL gg (.seq L3 (.seq L4 (.seq L5 .nil))) [sc, w', tu, y3, y4, y5, y6, y7, y8, y9, y10, y11, y12, y13, y14, y15, y16, none, none, none, none, none, none, none, none, none]) = .ret (.bl true) false [] := by kernel_rfl
end K21

set_option exponentiation.threshold 10000
namespace K21
open PySem PySem.Spec PyProof.Rows L2 Py
theorem mm_all : ∀ m ∈ mL, rtB m = true ∧ rtB (rmi (1, 1) m) = true := by decide +kernel
theorem ll_all : ∀ m ∈ lL, rtB m = true ∧ rls (1, 1) m = false := by decide +kernel
theorem ix_t {α : Type} {f : α → W} {l : List α} {i : Int} {v : α} (h : L2.atI (l.map f) i = some (f v)) : ixW (.tup (l.map f)) (.int i) = some (f v, false) ∧ ixW (.lst (l.map f)) (.int i) = some (f v, false) := by
  constructor
  · show (L2.atI (l.map f) i).map _ = _
    rw [h]
    rfl
  · show (L2.atI (l.map f) i).map _ = _
    rw [h]
    rfl
theorem turn_ok {d : Nat} (hd' : 30 ≤ d) (sc tu : Y) (w : W) (hw : DW w) (y3 y4 y5 y6 y7 y8 y9 y10 y11 y12 y13 y14 y15 y16 : Y) (hP : [y3, y4, y5, y6, y7, y8, y9, y10, y11, y12, y13, y14, y15, y16].all okS = true) :
    ∃ (w' : W) (z3 z4 z5 z6 z7 z8 z9 z10 z11 z12 z13 z14 z15 z16 : Y), DW w' ∧ [z3, z4, z5, z6, z7, z8, z9, z10, z11, z12, z13, z14, z15, z16].all okS = true ∧ xs (rn d) tkL gg LB [sc, some (w, .own), tu, y3, y4, y5, y6, y7, y8, y9, y10, y11, y12, y13, y14, y15, y16, none, none, none, none, none, none, none, none, none] = .nx [sc, some (w', .own), tu, z3, z4, z5, z6, z7, z8, z9, z10, z11, z12, z13, z14, z15, z16, none, none, none, none, none, none, none, none, none] := by
  simp only [List.all_cons, List.all_nil, Bool.and_true, Bool.and_eq_true] at hP
  obtain ⟨h3, h4, h5, h6, h7, h8, h9, h10, h11, h12, h13, h14, h15, h16⟩ := hP
  have hd : 6 ≤ d := by omega
  obtain ⟨s, w1, hs, hw1, e1⟩ := q33 (d := d) (by omega) w hw 4 (by decide) (by decide)
  obtain ⟨o, w2, ho, hw2, e2⟩ := q33 (d := d) (by omega) w1 hw1 3 (by decide) (by decide)
  have zs := hs.z4
  have zs1 := hs.z1
  have x1 := b1 (rn d) tkL gg sc tu y3 y4 y5 y6 y7 y8 y9 y10 y11 y12 y13 y14 y15 y16 (none) (none) (none) (none) (none) (none) (none) (none) (none) w w1 w2 s o h3 h4 e1 e2
  have x2 := b2 hd hs w2 sc tu (some (spW o, .sh)) y5 y6 y7 y8 y9 y10 y11 y12 y13 y14 y15 y16 (none) (none) (none) (none) (none) (none) (none) (none) (none) h5
  have x3 := b3 hd hs w2 sc tu (some (spW o, .sh)) (some (rt (meanQ s), .sh)) y6 y7 y8 y9 y10 y11 y12 y13 y14 y15 y16 (none) (none) (none) (none) (none) (none) (none) (none) (none) h6
  have c13 := q13 hs (d - 8)
  rw [show d - 8 + 8 = d by omega] at c13
  have c15 := q15 hs (d := d) (by omega)
  have c16 := q16 hs (d := d) (by omega)
  rw [var_eq hs] at c16
  have mb := (mean_sz hs).2
  have sb := (sq_sz hs).2
  have x4 := b4 (rn d) tkL gg sc tu (some (spW o, .sh)) y7 y8 y9 y10 y11 y12 y13 y14 y15 y16 (none) (none) (none) (none) (none) (none) (none) (none) (none) w2 (spW s) _ _ _ _ rfl (isD_rt _) (isD_rt _) (isD_rt _) (isD_rt _) c13 c15 (ne_self _) c16 (f27 hd (mb.g (by decide)) (mb.g (by decide))) (f28 hd (sb.g (by decide)) ((rtm_bd mb mb).g (by decide))) (ne_self _)
  obtain ⟨p, w3, hp, hw3, e3⟩ := q32 (d := d) (by omega) w2 hw2
  obtain ⟨i, w4, i0, i1, hw4, e4⟩ := tk_at (d := d) (by omega) w3 (s.length : Nat) hw3 (by omega) (by omega)
  obtain ⟨v, hv, v1⟩ := at_L (f := prr) (l := s) i0 i1
  obtain ⟨j, w5, j0, j1, hw5, e5⟩ := tk_at (d := d) (by omega) w4 2 hw4 (by decide) (by decide)
  obtain ⟨z, hz, v2⟩ := at_L (f := rt) (l := [p, v.1]) j0 j1
  have hl : biW .len [spW s] = some (.int (s.length : Nat), false) := by
    show some (W.int ((s.map prr).length : Nat), false) = _
    rw [List.length_map]
  have zg : rtB z = true := by
    rcases List.mem_cons.mp hz with rfl | hz
    · exact hp
    · rw [List.mem_singleton.mp hz]; exact hs.g v hv
  have bz := rtB_bd zg
  have x5 := b5 (rn d) tkL gg sc tu (some (spW o, .sh)) (some (rt (meanQ s), .sh)) (some (rt (sqQ s), .sh)) y7 y8 y9 y10 y11 y12 y13 y14 y15 y16 (none) (none) (none) (none) (none) (none) (none) (none) (none) w2 w3 w4 w5 (spW s) (rt v.1) (prr v) (rt p) (rt z) _ i j (isD_rt _) (isD_rt _) h7 e3 hl e4 (ix_t v1).1 rfl e5 (ix_t v2).2
  have x6 := b6 (d := d) (by omega) hs bz w5 sc tu (some (spW o, .sh)) (some (rt (meanQ s), .sh)) (some (rt (sqQ s), .sh)) y8 y9 y10 y11 y12 y13 y14 y15 y16 (none) (none) (none) (none) (none) (none) (none) (none) (none)
  have x7 := b7 (d := d) (by omega) hs bz w5 sc tu (some (spW o, .sh)) (some (rt (meanQ s), .sh)) (some (rt (sqQ s), .sh)) y8 y9 y10 y11 y12 y13 y14 y15 y16 (none) (none) (none) (none) (none) (none) (none) (none) (none)
  obtain ⟨k, w6, k0, k1, hw6, e6⟩ := tk_at (d := d) (by omega) w5 4 hw5 (by decide) (by decide)
  obtain ⟨m, hm, v3⟩ := at_L (f := rt) (l := mL) k0 k1
  have x8 := b8 (rn d) tkL gg sc tu (some (spW s, .sh)) (some (spW o, .sh)) (some (rt (meanQ s), .sh)) (some (rt (sqQ s), .sh)) (some (rt z, .sh)) y8 y9 y10 y11 y12 y13 y14 y15 y16 (none) (none) (none) (none) (none) (none) (none) (none) (none) w5 w6 k (rt m) h8 e6 (ix_t v3).2
  obtain ⟨m1, m2⟩ := mm_all m hm
  have bm := rtB_bd m1
  have x9 := b9 (rn d) tkL gg sc tu (some (spW s, .sh)) (some (spW o, .sh)) (some (rt (meanQ s), .sh)) (some (rt (sqQ s), .sh)) (some (rt z, .sh)) y9 y10 y11 y12 y13 y14 y15 y16 (none) (none) (none) (none) (none) (none) (none) (none) (none) w6 (rt m) (rt (rmi (1, 1) m)) (isD_rt _) (isD_rt _) h9 (f28 (p := (1, 1)) hd (by decide +kernel) (bm.g (by decide)))
  have bn := rtB_bd m2
  generalize rmi (1, 1) m = n at *
  have x10 := b10 hd hs ho bm bn w6 sc tu (some (rt (meanQ s), .sh)) (some (rt (sqQ s), .sh)) (some (rt z, .sh)) (some (rt m, .sh)) y10 y11 y12 y13 y14 y15 y16 (none) (none) (none) (none) (none) (none) (none) (none) (none) h10
  have x11 := b11 (rn d) tkL gg sc tu (some (rt (meanQ s), .sh)) (some (rt (sqQ s), .sh)) (some (rt z, .sh)) (some (rt m, .sh)) y11 y12 y13 y14 y15 y16 (none) (none) (none) (none) (none) (none) (none) (none) (none) w6 (spW s) (spW o) (.tup [rt m, rt n]) _ ((mxL s o m n).map prr) rfl rfl rfl rfl (q19 (d := d) (by omega) hs ho bm bn) (q35 (d := d) (by omega) _ (mx_c hs ho bm bn)) (ne_sp _)
  have x12 := b12 (rn d) tkL gg sc tu (some (spW s, .sh)) (some (spW o, .sh)) (some (rt (meanQ s), .sh)) (some (rt (sqQ s), .sh)) (some (rt z, .sh)) (some (rt m, .sh)) (some (.tup [rt m, rt n], .sh)) (some (.lst ((mxL s o m n).map prr), .sh)) y11 y12 y13 y14 y15 y16 (none) (none) (none) (none) (none) (none) (none) (none) (none) w6 h11 h12
  obtain ⟨y13', y14', h13', h14', x13⟩ := b13 hd hs ho w6 sc tu (some (rt (meanQ s), .sh)) (some (rt (sqQ s), .sh)) (some (rt z, .sh)) (some (rt m, .sh)) (some (.tup [rt m, rt n], .sh)) (some (.lst ((mxL s o m n).map prr), .sh)) y13 y14 y15 y16 (none) (none) (none) (none) (none) (none) (none) (none) (none) h13 h14
  have x14 := b14 (rn d) tkL gg sc tu (some (rt (meanQ s), .sh)) (some (rt (sqQ s), .sh)) (some (rt z, .sh)) (some (rt m, .sh)) (some (.tup [rt m, rt n], .sh)) (some (.lst ((mxL s o m n).map prr), .sh)) (y13') (y14') y15 y16 (none) (none) (none) (none) (none) (none) (none) (none) (none) w6 (spW s) (spW o) _ _ ((smL s o).map prr) ((grL s o).map prr) rfl rfl rfl rfl (q20 (d := d) hs ho (by omega)) (q35 (d := d) (by omega) _ (sm_c hs ho)) (ne_sp _) (q21 (d := d) hs ho (by omega)) (q35 (d := d) (by omega) _ (gr_c hs ho)) (ne_sp _) rfl
  obtain ⟨kk, w7, kk0, kk1, hw7, e7⟩ := tk_at (d := d) (by omega) w6 4 hw6 (by decide) (by decide)
  obtain ⟨lv, hlv, v4⟩ := at_L (f := rt) (l := lL) kk0 kk1
  obtain ⟨l1, l2⟩ := ll_all lv hlv
  have bl := rtB_bd l1
  have x15 := b15 (rn d) tkL gg sc tu (some (spW s, .sh)) (some (spW o, .sh)) (some (rt (meanQ s), .sh)) (some (rt (sqQ s), .sh)) (some (rt z, .sh)) (some (rt m, .sh)) (some (.tup [rt m, rt n], .sh)) (some (.lst ((mxL s o m n).map prr), .sh)) (some (.lst ((smL s o).map prr), .sh)) (some (.lst ((grL s o).map prr), .sh)) (y13') (y14') y15 y16 (none) (none) (none) (none) (none) (none) (none) (none) (none) w6 w7 kk (rt lv) h15 e7 (ix_t v4).2
  have x16 := b16 hd hs bl w7 sc tu (some (spW o, .sh)) (some (rt (meanQ s), .sh)) (some (rt (sqQ s), .sh)) (some (rt z, .sh)) (some (rt m, .sh)) (some (.tup [rt m, rt n], .sh)) (some (.lst ((mxL s o m n).map prr), .sh)) (some (.lst ((smL s o).map prr), .sh)) (some (.lst ((grL s o).map prr), .sh)) (y13') (y14') y16 (none) (none) (none) (none) (none) (none) (none) (none) (none) h16
  obtain ⟨p0, r, ef⟩ := fits_ne hs l2
  have c22 := q22 hs (d := d) (by omega) bl ef
  rw [ef, List.map_cons] at x16
  have x17 := b17 (rn d) tkL gg sc tu (some (spW o, .sh)) (some (rt (meanQ s), .sh)) (some (rt (sqQ s), .sh)) (some (rt z, .sh)) (some (rt m, .sh)) (some (.tup [rt m, rt n], .sh)) (some (.lst ((mxL s o m n).map prr), .sh)) (some (.lst ((smL s o).map prr), .sh)) (some (.lst ((grL s o).map prr), .sh)) (y13') (y14') (none) (none) (none) (none) (none) (none) (none) (none) (none) w7 (spW s) (rt lv) (rt p0.1) (r.map fun p => rt p.1) rfl (isD_rt _) (isD_rt _) c22 (ne_self _)
  refine ⟨w7, some (spW s, .sh), some (spW o, .sh), some (rt (meanQ s), .sh), some (rt (sqQ s), .sh), some (rt z, .sh), some (rt m, .sh), some (.tup [rt m, rt n], .sh), some (.lst ((mxL s o m n).map prr), .sh), some (.lst ((smL s o).map prr), .sh), some (.lst ((grL s o).map prr), .sh), y13', y14', some (rt lv, .sh), some (.lst (rt p0.1 :: (r.map fun p => rt p.1)), .own), hw7, ?_, ?_⟩
  rotate_left
  · unfold LB
    rw [seq_nx x1, seq_nx x2, seq_nx x3, seq_nx x4, seq_nx x5, seq_nx x6, seq_nx x7, seq_nx x8, seq_nx x9, seq_nx x10, seq_nx x11, seq_nx x12, seq_nx x13, seq_nx x14, seq_nx x15, seq_nx x16]
    exact (seq_nx x17).trans rfl
  · simp only [List.all_cons, List.all_nil, h13', h14', Bool.and_true]
    rfl
theorem turns_ok {d : Nat} (hd' : 30 ≤ d) (sc : Y) (w : W) (hw : DW w) : ∃ (w' tu y3 y4 y5 y6 y7 y8 y9 y10 y11 y12 y13 y14 y15 y16 : Y), xs (rn d) tkL gg (.for_ (.n 2) .rng (.cons (.con (.int 2)) .nil) LB) [sc, some (w, .own), none, none, none, none, none, none, none, none, none, none, none, none, none, none, none, none, none, none, none, none, none, none, none, none] = .nx [sc, w', tu, y3, y4, y5, y6, y7, y8, y9, y10, y11, y12, y13, y14, y15, y16, none, none, none, none, none, none, none, none, none] := by
  obtain ⟨w1, a3, a4, a5, a6, a7, a8, a9, a10, a11, a12, a13, a14, a15, a16, hw1, P1, e1⟩ := turn_ok hd' sc (some (.int 0, .sh)) w hw none none none none none none none none none none none none none none rfl
  obtain ⟨w2, c3, c4, c5, c6, c7, c8, c9, c10, c11, c12, c13, c14, c15, c16, hw2, P2, e2⟩ := turn_ok hd' sc (some (.int 1, .sh)) w1 hw1 a3 a4 a5 a6 a7 a8 a9 a10 a11 a12 a13 a14 a15 a16 P1
  refine ⟨some (w2, .own), some (.int 1, .sh), c3, c4, c5, c6, c7, c8, c9, c10, c11, c12, c13, c14, c15, c16, ?_⟩
  have a1 : stF (rn d) tkL gg (.n 2) LB (.int 0) [sc, some (w, .own), none, none, none, none, none, none, none, none, none, none, none, none, none, none, none, none, none, none, none, none, none, none, none, none] = .nx [sc, some (w1, .own), some (.int 0, .sh), a3, a4, a5, a6, a7, a8, a9, a10, a11, a12, a13, a14, a15, a16, none, none, none, none, none, none, none, none, none] := (stF_ok rfl).trans e1
  have a2 : stF (rn d) tkL gg (.n 2) LB (.int 1) [sc, some (w1, .own), some (.int 0, .sh), a3, a4, a5, a6, a7, a8, a9, a10, a11, a12, a13, a14, a15, a16, none, none, none, none, none, none, none, none, none] = .nx [sc, some (w2, .own), some (.int 1, .sh), c3, c4, c5, c6, c7, c8, c9, c10, c11, c12, c13, c14, c15, c16, none, none, none, none, none, none, none, none, none] := (stF_ok rfl).trans e2
  have hb : (ress [sc, some (w, .own), none, none, none, none, none, none, none, none, none, none, none, none, none, none, none, none, none, none, none, none, none, none, none, none] [.val (.int 2) false]).bind (itW .rng) = some [.int 0, .int 1] := rng_b (k := 2) (by decide)
  have a4 : forL (stF (rn d) tkL gg (.n 2) LB) [.int 0, .int 1] [sc, some (w, .own), none, none, none, none, none, none, none, none, none, none, none, none, none, none, none, none, none, none, none, none, none, none, none, none] = .nx [sc, some (w2, .own), some (.int 1, .sh), c3, c4, c5, c6, c7, c8, c9, c10, c11, c12, c13, c14, c15, c16, none, none, none, none, none, none, none, none, none] := by
    simp only [forL, a1, a2]
  rw [for_ok (ρ1 := [sc, some (w, .own), none, none, none, none, none, none, none, none, none, none, none, none, none, none, none, none, none, none, none, none, none, none, none, none]) (us := [.val (.int 2) false]) rfl hb]
  refine (congrArg (SO.mapE _) a4).trans ?_
  rfl
theorem law_d {d : Nat} (hd' : 30 ≤ d) (ns : List Int) (hz : ns.length ≤ 63) (hl : ∀ (sc w' tu y3 y4 y5 y6 y7 y8 y9 y10 y11 y12 y13 y14 y15 y16 : Y), ofS I_law.fd (xs (rn d) tkL gg (.seq L3 (.seq L4 (.seq L5 .nil))) [sc, w', tu, y3, y4, y5, y6, y7, y8, y9, y10, y11, y12, y13, y14, y15, y16, none, none, none, none, none, none, none, none, none]) = .ret (.bl true) false []) :
    ofS I_law.fd (xs (rn d) tkL gg S_law [some (.lst (ns.map W.int), .sh), none, none, none, none, none, none, none, none, none, none, none, none, none, none, none, none, none, none, none, none, none, none, none, none, none]) = .ret (.bl true) false [] := by
  have h15 : ∃ w, DW w ∧ rn d 23 [.lst (ns.map W.int)] = .ret w true [] := by
    obtain ⟨d, rfl⟩ : ∃ e, d = e + 1 := ⟨d - 1, by omega⟩
    show ∃ w, DW w ∧ run fsd tkL gg (d + 1) 23 _ = _
    rw [run_at (fd := FD_dr) rfl rfl]
    exact dr_ok _ _ _ hz
  obtain ⟨w, hw, e0⟩ := h15
  have x1 : xs (rn d) tkL gg L1 [some (.lst (ns.map W.int), .sh), none, none, none, none, none, none, none, none, none, none, none, none, none, none, none, none, none, none, none, none, none, none, none, none, none] = .nx [some (.lst (ns.map W.int), .sh), some (w, .own), none, none, none, none, none, none, none, none, none, none, none, none, none, none, none, none, none, none, none, none, none, none, none, none] := by
    generalize W.lst (ns.map W.int) = z at e0 ⊢
    simp [Py.xs, Py.ev, Py.SO.thn, Py.wOf, Py.l1, Py.l2, Py.lL, Py.ress, Py.res, Py.ofO, Py.bW, Py.trO, Py.truth, Py.isTy, Py.callW, Py.shM, Py.shr, Py.shrs, Py.ioW, Py.ioB, Py.ofE, Py.asA, Py.setN, Py.fixA, Py.asAs, Py.retA, Py.ofS, Py.ioE, Py.stepV, Py.stepE, Py.asP, Py.wpE, Py.rsE, Py.lkE, Py.lkE1, Py.ulE, Py.ulE1, L1, e0]
  obtain ⟨w', tu, y3, y4, y5, y6, y7, y8, y9, y10, y11, y12, y13, y14, y15, y16, x3⟩ := turns_ok hd' (some (.lst (ns.map W.int), .sh)) w hw
  rw [law_is, seq_nx x1, seq_nx x3]
  exact hl _ _ _ _ _ _ _ _ _ _ _ _ _ _ _ _ _
theorem law_true (ns : List Int) (hz : ns.length ≤ 63) : ∃ g, lawFn g 36 [.lst (ns.map W.int)] = .ret (.bl true) false [] := by
  refine ⟨gg, ?_⟩
  show run fsd tkL gg (39 + 1) 36 _ = _
  rw [run_at (fd := I_law.fd) rfl rfl]
  exact law_d (d := 39) (by decide) ns hz l5
end K21

open PySem PySem.W PySem.Calls PyProof.Rows
theorem PySem.Challenge.cw_worthstopping_k21_spreads_of_gains_holds : PySem.Challenge.rw_worthstopping_k21_spreads_of_gains.Holds := by
  w_on; o_law
  refine HandSHeadRun.head_any (r := OpenLaw.row PySem.Challenge.rw_worthstopping_k21_spreads_of_gains) (q := view (OpenLaw.row PySem.Challenge.rw_worthstopping_k21_spreads_of_gains).prog [47]) (H := K21.hk) (ob := K21.ob) (M := 3000) (loose := K21.looseL) (d := HandSHeadRun.topDef (OpenLaw.row PySem.Challenge.rw_worthstopping_k21_spreads_of_gains).prog 47) (kwd := []) K21.ob_eq
    (by kernel_rfl) (fun s => by kernel_rfl) K21.runs (by kernel_rfl) (by kernel_rfl) (by kernel_rfl) (by rfl) (by first | assumption | decide +kernel) (by decide +kernel) ⟨rfl, rfl, rfl, rfl, rfl, by decide +kernel⟩ ?hw ?hc
  case hw => w_witness2
  case hc =>
    refine L2.walk_ofE (l := PySem.Challenge.rw_worthstopping_k21_spreads_of_gains) (n := 63) (k := 40) (x := "script") (CX := L2.CX0) rfl (by decide) (by kernel_rfl) ⟨rfl, by decide, by decide⟩ ?F (fun _ _ _ _ z => z)
    intro w mg fa h Y G hm0
    obtain ⟨K, KX, c⟩ := Y
    have hm : mg ("law" : PySem.Str) = some (.ref fa) := by
      have e : (HandSHeadRun.topDef (OpenLaw.row PySem.Challenge.rw_worthstopping_k21_spreads_of_gains).prog 47).name = ("law" : PySem.Str) := by kernel_rfl
      rw [← e]
      exact hm0
    letI : Py.HW := ⟨(PySem.Challenge.rw_worthstopping_k21_spreads_of_gains).prog, w⟩
    obtain ⟨hl, fd, hb, hF⟩ := K21.facts (P := (PySem.Challenge.rw_worthstopping_k21_spreads_of_gains).prog) (w := w) ⟨rfl, rfl⟩ KX G hm c
    refine ⟨K, fd, K21.spLaw K, KX, hb, fun H a ns hn _ hS => ?_, hF⟩
    obtain ⟨g, hg⟩ := K21.law_true ns hn
    exact ⟨g, Py.spF_law rfl rfl (by decide) hl (Nat.le_trans hn (by decide)) hS hg⟩

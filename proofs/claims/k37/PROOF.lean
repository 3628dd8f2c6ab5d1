import PyProof.Rows.All
import Wide.All
import OpenK.AllK
import Wide.FinOn
import HandS.ForMost
import HandS.ForExc
import KE.KDictKeyed
import HandS.TupAny
import HandS.TupMul
import HandS.Deep
import HandS.IsInst
import HandS.Wide
import HandS.Dict
import PyProof.DictRoadsH
import PyProof.Rows.TupTab
import HandS.Flow
import HandS.Style
import HandS.Zip
import HandS.Rev
import KE.GoesMore
import KE.GoesEnum
import HandS.More
import HandS.Conv
import HandS.Iter
import HandS.HeadHook2
import HandS.WordsExc
import HandS.Defaults
import HandS.Head0
import HandS.Head1
import HandS.Head2
import HandS.HeadEnd
import HandS.HeadHook1
import Lean
import PySem.Challenge.RW_worthstopping_k37_draws_prices_and_rents
set_option Elab.async false
set_option linter.all false
set_option autoImplicit false
set_option maxRecDepth 100000
set_option maxHeartbeats 0
/-! A small evaluator over trees for the part of Python that these programs use: lists and dicts are values, each name that holds one says whether it is the only one that does (own), so that a change in place is a change of the name's value. -/
namespace Py
open PySem

abbrev Cs := List Nat

inductive W where
  | non | bl (b : Bool) | int (i : Int) | str (s : Cs) | tup (xs : List W) | lst (xs : List W) | dct (kvs : List (W × W)) | st (xs : List W)

mutual
def eqW : W → W → Bool
  | .non, .non => true
  | .bl a, .bl b => a == b
  | .bl a, .int j => (if a then 1 else 0) == j
  | .int i, .bl b => i == (if b then 1 else 0)
  | .int i, .int j => i == j
  | .str x, .str y => x == y
  | .lst xs, .lst ys => eqWs xs ys
  | .tup xs, .tup ys => eqWs xs ys
  | _, _ => false
def eqWs : List W → List W → Bool
  | [], [] => true
  | x :: xs, y :: ys => eqW x y && eqWs xs ys
  | _, _ => false
end
mutual
/-- how deep; of what == is not served: too deep -/
def dep : W → Nat
  | .lst xs => deps xs + 1
  | .tup xs => deps xs + 1
  | .dct _ => 1000
  | .st _ => 1000
  | _ => 0
def deps : List W → Nat
  | [] => 0
  | x :: xs => max (dep x) (deps xs)
end

/-- how a name holds its value: shared (never changed again), alone, alone and walked, a parameter that the caller sees changed, such a one walked -/
inductive Fl where
  | sh | own | ownL | io | ioL
  deriving DecidableEq

abbrev Env := List (Option (W × Fl))

inductive Out (α : Type) where
  | ok (a : α) (ρ : Env) | ex (x : Nat) (p : W) (ρ : Env) | bad

def Out.bind {α β : Type} : Out α → (α → Env → Out β) → Out β
  | .ok a ρ, f => f a ρ
  | .ex x p ρ, _ => .ex x p ρ
  | .bad, _ => .bad
@[simp] theorem Out.bind_ok {α β : Type} (a : α) (ρ : Env) (f : α → Env → Out β) : (Out.ok a ρ).bind f = f a ρ := rfl
@[simp] theorem Out.bind_ex {α β : Type} (x : Nat) (p : W) (ρ : Env) (f : α → Env → Out β) : (Out.ex x p ρ).bind f = .ex x p ρ := rfl
@[simp] theorem Out.bind_bad {α β : Type} (f : α → Env → Out β) : (Out.bad : Out α).bind f = .bad := rfl

inductive Arg where
  | val (w : W) (fr : Bool) | slot (i : Nat)

/-- what a call of a def of the text gives: its value (a new list of its own: fr), the parameters that it changed -/
inductive CO where
  | ret (w : W) (fr : Bool) (ios : List W) | ex (x : Nat) (p : W) (ios : List W) | bad

inductive BOp | add | sub | mul | fdv | md
  deriving DecidableEq
inductive COp | lt | le | gt | ge | eq | ne | is | isnt | inn | nin
  deriving DecidableEq
inductive Ty | int | bool | str | tuple | list | dict
  deriving DecidableEq
inductive IK | seq | rng | enu | zip | items | vals | rev
  deriving DecidableEq
inductive BI | len | abs | int | str | bool | min | max | sum | all | any | sorted | tuple | list | set | dict | lrng
  deriving DecidableEq
inductive MI | index | count | get | join | split | partition
  deriving DecidableEq
inductive MK | append | extend | insert | pop | pop0 | remove
  deriving DecidableEq

inductive Pt where
  | n (i : Nat) | t (l : Pt) | nil | cons (a b : Pt)

inductive E where
  | bad
  | var (i : Nat) | con (w : W)
  | op (o : BOp) (a b : E) | neg (a : E)
  | cmp (o : COp) (a b : E) | cmp2 (o p : COp) (a b c : E)
  | and (a b : E) | or (a b : E) | not (a : E) | ite (c a b : E)
  | tup (es : E) | lst (es : E) | dsp (es : E)
  | ix (a b : E) | slc (a : E) (l h : Bool) (lo hi : E)
  | call (f : Nat) (m : List Bool) (es : E) | bi (f : BI) (es : E) | mth (m : MI) (o : E) (es : E)
  | isi (a : E) (t : Ty)
  | fst (es : E)
  | lc (elt : E) (p : Pt) (t : E) (k : IK) (es : E) (own : List Nat)
  | lc2 (elt : E) (p : Pt) (t : E) (k : IK) (es : E) (p1 : Pt) (t1 : E) (k1 : IK) (es1 : E) (own : List Nat)
  | nil | cons (a b : E)

inductive S where
  | bad | nil | seq (s r : S)
  | asn (i : Nat) (e : E) | asp (p : Pt) (e : E) | par (is : List Nat) (es : E)
  | six (i : Nat) (k e : E)
  | aug (i : Nat) (o : BOp) (e : E)
  | exp (e : E) | mut (m : MK) (i : Nat) (es : E)
  | ret (e : E) | retN
  | ite (c : E) (a b : S)
  | for_ (p : Pt) (k : IK) (es : E) (b : S)
  | whl (c : E) (b : S)
  | pass | brk | cnt
  | rais (x : Nat) (e : E)
  | try_ (b : S) (x : Nat) (as : Option Nat) (h : S)

/-! ### values -/
def szL : Nat := 16777216
/-- the most that a product's factors may have, in bits -/
def bitL : Nat := 134217728
def bits (i : Int) : Nat := if i == 0 then 0 else i.natAbs.log2 + 1

def truth : W → Option Bool
  | .non => some false
  | .bl b => some b
  | .int i => some (i != 0)
  | .str s => some (!s.isEmpty)
  | .tup xs => some (!xs.isEmpty)
  | .lst xs => some (!xs.isEmpty)
  | .dct _ => none
  | .st xs => some (!xs.isEmpty)

def rep {α : Type} (xs : List α) (k : Nat) : List α := (List.replicate k xs).flatten

def opW : BOp → W → W → Option (W × Bool)
  | .add, .int i, .int j => some (.int (i + j), false)
  | .add, .str x, .str y => if x.length + y.length ≤ szL then some (.str (x ++ y), false) else none
  | .add, .tup x, .tup y => if x.length + y.length ≤ szL then some (.tup (x ++ y), false) else none
  | .add, .lst x, .lst y => if x.length + y.length ≤ szL then some (.lst (x ++ y), true) else none
  | .sub, .int i, .int j => some (.int (i - j), false)
  | .mul, .int i, .int j => if bits i + bits j ≤ bitL then some (.int (i * j), false) else none
  | .mul, .tup x, .int k => if (2 ≤ k ∧ k ≤ 1000) ∧ x.length ≤ 1000 ∧ x ≠ [] then some (.tup (rep x k.toNat), false) else none
  | .mul, .lst x, .int k => if x.length * k.toNat ≤ szL ∧ -1000 ≤ k ∧ k ≤ szL then some (.lst (rep x k.toNat), true) else none
  | .fdv, .int i, .int j => if j ≠ 0 ∧ Builtin.divisionGoesByPylong i j = false then some (.int (i.fdiv j), false) else none
  | .md, .int i, .int j => if j = 0 then none else some (.int (i.fmod j), false)
  | _, _, _ => none

def memW (x : W) (xs : List W) : Bool := xs.any fun y => eqW y x

/-- s within t, for texts -/
def subT (s t : Cs) : Bool := match t with
  | [] => s.isEmpty
  | _ :: r => s.isPrefixOf t || subT s r

def lkW (k : W) : List (W × W) → Option W
  | [] => none
  | (a, v) :: r => if eqW a k then some v else lkW k r
def ptW (k v : W) : List (W × W) → List (W × W)
  | [] => [(k, v)]
  | (a, u) :: r => if eqW a k then (a, v) :: r else (a, u) :: ptW k v r

mutual
/-- may stand in a key -/
def hsb : W → Bool
  | .non => true
  | .bl _ => true
  | .int _ => true
  | .str _ => true
  | .tup xs => hsbs xs
  | .lst _ => false
  | .dct _ => false
  | .st _ => false
def hsbs : List W → Bool
  | [] => true
  | x :: xs => hsb x && hsbs xs
end
def isT : W → Bool
  | .tup _ => true
  | _ => false
/-- a key that the dicts here may have: a tuple -/
def hkW (w : W) : Bool := isT w && (hsb w && decide (dep w ≤ 8))

/-- served by == -/
def eqOk (x y : W) : Bool := decide (min (dep x) (dep y) ≤ 64 ∧ dep x < 1000 ∧ dep y < 1000)
def isN : W → Bool
  | .non => true
  | _ => false
def cmpW : COp → W → W → Option Bool
  | .lt, .int i, .int j => some (decide (i < j))
  | .le, .int i, .int j => some (decide (i ≤ j))
  | .gt, .int i, .int j => some (decide (j < i))
  | .ge, .int i, .int j => some (decide (j ≤ i))
  | .eq, x, y => if eqOk x y then some (eqW x y) else none
  | .ne, x, y => if eqOk x y then some (!eqW x y) else none
  | .is, x, .non => some (isN x)
  | .isnt, x, .non => some (!isN x)
  | .inn, x, .tup ys => if dep x = 0 ∧ deps ys = 0 then some (memW x ys) else none
  | .nin, x, .tup ys => if dep x = 0 ∧ deps ys = 0 then some (!memW x ys) else none
  | .inn, x, .lst ys => if dep x ≤ 60 ∧ deps ys ≤ 60 then some (memW x ys) else none
  | .nin, x, .lst ys => if dep x ≤ 60 ∧ deps ys ≤ 60 then some (!memW x ys) else none
  | .inn, x, .dct kvs => if hkW x = true then some (lkW x kvs).isSome else none
  | .nin, x, .dct kvs => if hkW x = true then some (!(lkW x kvs).isSome) else none
  | _, _, _ => none

open L2 (atI ixN)
def ixW : W → W → Option (W × Bool)
  | .lst xs, .int i => (atI xs i).map fun w => (w, false)
  | .tup xs, .int i => (atI xs i).map fun w => (w, false)
  | .str s, .int i => (atI s i).map fun c => (.str [c], false)
  | .dct kvs, k => if hkW k = true then (lkW k kvs).map fun w => (w, false) else none
  | _, _ => none

def cut {α : Type} (xs : List α) (lo hi : Option Int) : List α := (xs.drop (HT.sIx xs.length 0 lo)).take (HT.sIx xs.length xs.length hi - HT.sIx xs.length 0 lo)
def slc1 (lo hi : Option Int) : W → Option (W × Bool)
  | .lst xs => some (.lst (cut xs lo hi), true)
  | .tup xs => some (.tup (cut xs lo hi), false)
  | .str s => some (.str (cut s lo hi), false)
  | _ => none
def digs (n : Nat) : Cs := (Nat.repr n).toList.map Char.toNat
def strI (i : Int) : Cs := if i < 0 then 45 :: digs i.natAbs else digs i.natAbs

def sumI : List W → Option Int
  | [] => some 0
  | .int i :: r => (sumI r).map (i + ·)
  | _ => none
def asInts : List W → Option (List Int)
  | [] => some []
  | .int i :: r => (asInts r).map (i :: ·)
  | _ => none
def asBools : List W → Option (List Bool)
  | [] => some []
  | .bl i :: r => (asBools r).map (i :: ·)
  | _ => none
def minI : Int → List Int → Int
  | a, [] => a
  | a, b :: r => minI (if b < a then b else a) r
def maxI : Int → List Int → Int
  | a, [] => a
  | a, b :: r => maxI (if a < b then b else a) r
def leastL (ws : List W) : Option Int := match asInts ws with
  | some (a :: r) => some (minI a r)
  | _ => none
def mostL (ws : List W) : Option Int := match asInts ws with
  | some (a :: r) => some (maxI a r)
  | _ => none
def insI (a : Int) : List Int → List Int
  | [] => [a]
  | b :: r => if a ≤ b then a :: b :: r else b :: insI a r
def srtI : List Int → List Int
  | [] => []
  | a :: r => insI a (srtI r)

def rngL : Nat → Int → List W
  | 0, _ => []
  | n + 1, a => .int a :: rngL n (a + 1)
def rngD : Nat → Int → List W
  | 0, _ => []
  | n + 1, a => .int a :: rngD n (a - 1)
def okR (i : Int) : Bool := decide (-(2 ^ 62) ≤ i ∧ i < 2 ^ 62)
/-- the items of range -/
def rngW : List W → Option (List W)
  | [.int j] => if okR j = true ∧ j ≤ szL then some (rngL j.toNat 0) else none
  | [.int i, .int j] => if (okR i && okR j) = true ∧ j - i ≤ szL then some (rngL (j - i).toNat i) else none
  | [.int i, .int j, .int k] => if (k = -1 ∧ i - j ≤ szL) ∧ (okR i && okR j) = true then some (rngD (i - j).toNat i) else none
  | _ => none

/-- the number that a text of digits is -/
def numN (s : Cs) : Nat := s.foldl (fun a c => a * 10 + (c - 48)) 0
def isDig (c : Nat) : Bool := decide (48 ≤ c ∧ c ≤ 57)
/-- int of a text: digits alone, a minus ahead -/
def numT : Cs → Option Int
  | 45 :: s => if (s.all isDig && !s.isEmpty) = true ∧ s.length ≤ 600 then some (-(numN s : Int)) else none
  | s => if (s.all isDig && !s.isEmpty) = true ∧ s.length ≤ 600 then some (numN s) else none

def seqW : W → Option (List W)
  | .lst xs => some xs
  | .tup xs => some xs
  | _ => none

def biW : BI → List W → Option (W × Bool)
  | .len, [.lst xs] => some (.int xs.length, false)
  | .len, [.tup xs] => some (.int xs.length, false)
  | .len, [.str xs] => some (.int xs.length, false)
  | .abs, [.int i] => some (.int (if i < 0 then -i else i), false)
  | .int, [.int i] => some (.int i, false)
  | .bool, [.int i] => some (.bl (i != 0), false)
  | .bool, [.bl i] => some (.bl i, false)
  | .min, [.int i, .int j] => some (.int (if j < i then j else i), false)
  | .min, [.lst xs] => (leastL xs).map fun i => (.int i, false)
  | .min, [.tup xs] => (leastL xs).map fun i => (.int i, false)
  | .max, [.int i, .int j] => some (.int (if j > i then j else i), false)
  | .max, [.lst xs] => (mostL xs).map fun i => (.int i, false)
  | .lrng, [.int j] => (rngW [.int j]).map fun its => (.lst its, true)
  | .lrng, [.int i, .int j] => (rngW [.int i, .int j]).map fun its => (.lst its, true)
  | .sum, [.lst xs] => (sumI xs).map fun i => (.int i, false)
  | .all, [.lst xs] => (asBools xs).map fun i => (.bl (i.all id), false)
  | .any, [.lst xs] => (asBools xs).map fun i => (.bl (i.any id), false)
  | .tuple, [.lst xs] => some (.tup xs, false)
  | .tuple, [.tup xs] => some (.tup xs, false)
  | .list, [.lst xs] => some (.lst xs, true)
  | .list, [.tup xs] => some (.lst xs, true)
  | _, _ => none

/-- the place of the first that equals -/
def idxW (x : W) : List W → Option Nat
  | [] => none
  | y :: r => if eqW y x then some 0 else (idxW x r).map (· + 1)

def partT (sep : Nat) : Cs → Cs × Bool × Cs
  | [] => ([], false, [])
  | c :: r => if c = sep then ([], true, r) else let q := partT sep r; (c :: q.1, q.2.1, q.2.2)

def mthW : MI → W → List W → Option (W × Bool)
  | .index, .lst xs, [y] => if dep y ≤ 64 ∧ deps xs ≤ 60 then (idxW y xs).map fun (n : Nat) => (W.int (n : Int), false) else none
  | _, _, _ => none

/-- what has the method -/
def mTy : MI → W → Option Unit
  | .index, .lst _ => some ()
  | _, _ => none

def isTy : Ty → W → Bool
  | .int, .int _ => true
  | .int, .bl _ => true
  | .bool, .bl _ => true
  | .str, .str _ => true
  | .tuple, .tup _ => true
  | .list, .lst _ => true
  | .dict, .dct _ => true
  | _, _ => false

/-- one part of an f-string -/
def fmtW : W → Option Cs
  | .str s => some s
  | .int i => if bits i < 1900 then some (strI i) else none
  | _ => none

/-- what a loop walks -/
def enuL : Nat → List W → List W
  | _, [] => []
  | n, w :: r => .tup [.int n, w] :: enuL (n + 1) r
def zip2 : List W → List W → List W
  | x :: xs, y :: ys => .tup [x, y] :: zip2 xs ys
  | _, _ => []
def zip3 : List W → List W → List W → List W
  | x :: xs, y :: ys, z :: zs => .tup [x, y, z] :: zip3 xs ys zs
  | _, _, _ => []
def itW : IK → List W → Option (List W)
  | .seq, [.lst xs] => some xs
  | .seq, [.tup xs] => some xs
  | .rng, ws => rngW ws
  | .enu, [.lst xs] => some (enuL 0 xs)
  | .enu, [.tup xs] => some (enuL 0 xs)
  | .zip, [.lst xs, .lst ys] => some (zip2 xs ys)
  | .zip, [.tup xs, .tup ys] => some (zip2 xs ys)
  | .rev, [.lst xs] => some xs.reverse
  | .rev, [.tup xs] => some xs.reverse
  | _, _ => none

def mutW : MK → W → List W → Option W
  | .append, .lst xs, [w] => if xs.length < szL then some (.lst (xs ++ [w])) else none
  | .extend, .lst xs, [.lst ys] => if xs.length + ys.length ≤ szL then some (.lst (xs ++ ys)) else none
  | .insert, .lst xs, [.int k, w] => if xs.length < szL ∧ 0 ≤ k ∧ k ≤ xs.length then some (.lst (xs.take k.toNat ++ w :: xs.drop k.toNat)) else none
  | .pop, .lst xs, [] => if xs.isEmpty then none else some (.lst xs.dropLast)
  | .pop0, .lst (_ :: xs), [] => some (.lst xs)
  | _, _, _ => none

/-- x[k] = v -/
def putW : W → W → W → Option W
  | .lst xs, .int i, v => (ixN xs.length i).map fun j => .lst (xs.set j v)
  | .dct kvs, k, v => if hkW k = true ∧ kvs.length < szL then some (.dct (ptW k v kvs)) else none
  | _, _, _ => none

/-! ### names -/
def wOf (ρ : Env) (i : Nat) : Option (W × Fl) := (ρ[i]?).join
def res (ρ : Env) : Arg → Option W
  | .val w _ => some w
  | .slot i => (wOf ρ i).map (·.1)
def ress (ρ : Env) : List Arg → Option (List W)
  | [] => some []
  | a :: r => match res ρ a, ress ρ r with
    | some w, some ws => some (w :: ws)
    | _, _ => none
/-- what is never shared -/
def isD : W → Bool
  | .dct _ => true
  | .st _ => true
  | _ => false
/-- an argument becomes a value that is never changed again -/
def shr (ρ : Env) : Arg → Option (W × Env)
  | .val w _ => if isD w then none else some (w, ρ)
  | .slot i => match wOf ρ i with
    | some (w, .sh) => some (w, ρ)
    | some (w, .own) => if isD w then none else some (w, ρ.set i (some (w, .sh)))
    | some (w, .ownL) => if isD w then none else some (w, ρ.set i (some (w, .sh)))
    | _ => none
def shrs (ρ : Env) : List Arg → Option (List W × Env)
  | [] => some ([], ρ)
  | a :: r => match shr ρ a with
    | some (w, ρ1) => match shrs ρ1 r with
      | some (ws, ρ2) => some (w :: ws, ρ2)
      | none => none
    | none => none

/-- a plain name is stored -/
def setN (ρ : Env) (i : Nat) (w : W) (f : Fl) : Option Env :=
  match ρ[i]? with
  | some (some (_, .io)) => none
  | some (some (_, .ioL)) => none
  | some _ => some (ρ.set i (some (w, f)))
  | none => none
def asP : Pt → W → Env → Option Env
  | .n i, w, ρ => setN ρ i w .sh
  | .t l, w, ρ => match w with
    | .tup xs => asP l (.tup xs) ρ
    | .lst xs => asP l (.tup xs) ρ
    | _ => none
  | .nil, w, ρ => match w with
    | .tup [] => some ρ
    | _ => none
  | .cons a b, w, ρ => match w with
    | .tup (x :: xs) => match asP a x ρ with
      | some ρ1 => asP b (.tup xs) ρ1
      | none => none
    | _ => none

def lkE1 (ρ : Env) (i : Nat) : Env :=
  match wOf ρ i with
  | some (w, .own) => ρ.set i (some (w, .ownL))
  | some (w, .io) => ρ.set i (some (w, .ioL))
  | _ => ρ
def lkE (ρ : Env) : List Arg → Env
  | [] => ρ
  | .slot i :: r => lkE (lkE1 ρ i) r
  | .val _ _ :: r => lkE ρ r
/-- ρ0: the names ahead of the loop -/
def ulE1 (ρ0 ρ : Env) (i : Nat) : Env :=
  match wOf ρ0 i, wOf ρ i with
  | some (_, .own), some (w, .ownL) => ρ.set i (some (w, .own))
  | some (_, .io), some (w, .ioL) => ρ.set i (some (w, .io))
  | _, _ => ρ
def ulE (ρ0 ρ : Env) : List Arg → Env
  | [] => ρ
  | .slot i :: r => ulE ρ0 (ulE1 ρ0 ρ i) r
  | .val _ _ :: r => ulE ρ0 ρ r
/-- a comprehension's own names: forgotten, given back -/
def wpE (ρ : Env) : List Nat → Env
  | [] => ρ
  | i :: r => (wpE ρ r).set i none
def rsE (ρ0 ρ : Env) : List Nat → Env
  | [] => ρ
  | i :: r => match ρ0[i]? with
    | some x => (rsE ρ0 ρ r).set i x
    | none => rsE ρ0 ρ r

/-! ### calls -/
abbrev Fn := Nat → List W → CO
/-- the arguments that are handed over: values, and the names (or new objects) that the callee changes -/
def shM (ρ : Env) : List Bool → List Arg → Option (List (Option W) × Env)
  | [], [] => some ([], ρ)
  | false :: m, a :: r => match shr ρ a with
    | some (w, ρ1) => match shM ρ1 m r with
      | some (ws, ρ2) => some (some w :: ws, ρ2)
      | none => none
    | none => none
  | true :: m, _ :: r => match shM ρ m r with
    | some (ws, ρ2) => some (none :: ws, ρ2)
    | none => none
  | _, _ => none
/-- now what is changed, as it stands; each name once -/
def ioW (ρ : Env) : List Nat → List (Option W) → List Arg → Option (List W)
  | _, [], [] => some []
  | us, some w :: m, _ :: r => (ioW ρ us m r).map (w :: ·)
  | us, none :: m, a :: r => match a with
    | .val w true => (ioW ρ us m r).map (w :: ·)
    | .slot i => if us.contains i then none else match wOf ρ i with
      | some (w, .own) => (ioW ρ (i :: us) m r).map (w :: ·)
      | some (w, .io) => (ioW ρ (i :: us) m r).map (w :: ·)
      | _ => none
    | _ => none
  | _, _, _ => none
def ioB (ρ : Env) : List Bool → List Arg → List W → Option Env
  | [], [], [] => some ρ
  | false :: m, _ :: r, ws => ioB ρ m r ws
  | true :: m, .val _ _ :: r, _ :: ws => ioB ρ m r ws
  | true :: m, .slot i :: r, w :: ws => match wOf ρ i with
    | some (_, f) => ioB (ρ.set i (some (w, f))) m r ws
    | none => none
  | _, _, _ => none
def callW (C : Fn) (f : Nat) (m : List Bool) (xs : List Arg) (ρ : Env) : Out Arg :=
  match shM ρ m xs with
  | none => .bad
  | some (ows, ρ1) => match ioW ρ1 [] ows xs with
    | none => .bad
    | some ws => match C f ws with
      | .bad => .bad
      | .ret w fr ios => match ioB ρ1 m xs ios with
        | some ρ2 => .ok (.val w fr) ρ2
        | none => .bad
      | .ex x p ios => match ioB ρ1 m xs ios with
        | some ρ2 => .ex x p ρ2
        | none => .bad

/-! ### expressions -/
structure Sm where
  x : Env → Out Arg
  t : Env → Out Bool
  a : Env → Out (List Arg)

def ofO (o : Option (W × Bool)) (ρ : Env) : Out Arg := match o with
  | some (w, fr) => .ok (.val w fr) ρ
  | none => .bad
def ofB (o : Option Bool) (ρ : Env) : Out Arg := match o with
  | some b => .ok (.val (.bl b) false) ρ
  | none => .bad
def l1 (f : W → Option (W × Bool)) (a : Arg) (ρ : Env) : Out Arg := match res ρ a with
  | some w => ofO (f w) ρ
  | none => .bad
def l2 (f : W → W → Option (W × Bool)) (a b : Arg) (ρ : Env) : Out Arg := match res ρ a, res ρ b with
  | some w, some u => ofO (f w u) ρ
  | _, _ => .bad
/-- a slice's bound -/
def part (l : Bool) (x : Env → Out Arg) (ρ : Env) : Out (Option Int) :=
  if l then (x ρ).bind fun v ρ1 => match res ρ1 v with
    | some (.int i) => .ok (some i) ρ1
    | _ => .bad
  else .ok none ρ
def lL (f : List W → Option (W × Bool)) (as : List Arg) (ρ : Env) : Out Arg := match ress ρ as with
  | some ws => ofO (f ws) ρ
  | none => .bad
def trO (o : Option W) (ρ : Env) : Out Bool := match o.bind truth with
  | some b => .ok b ρ
  | none => .bad
def bW (f : W → W → Option Bool) : W → W → Option (W × Bool) := fun x y => (f x y).map fun b => (.bl b, false)

/-- the turns of a list comprehension -/
def lcL (step : W → Env → Out (Option W)) : List W → List W → Env → Out (List W)
  | [], acc, ρ => .ok acc ρ
  | w :: r, acc, ρ => match step w ρ with
    | .ok (some y) ρ1 => lcL step r (acc ++ [y]) ρ1
    | .ok none ρ1 => lcL step r acc ρ1
    | _ => .bad
def stepV (x : Env → Out Arg) (ρ : Env) : Out (Option W) := (x ρ).bind fun a ρ1 => match shr ρ1 a with
  | some (w, ρ2) => .ok (some w) ρ2
  | none => .bad
def stepE (own : List Nat) (p : Pt) (t : Env → Out Bool) (x : Env → Out Arg) (w : W) (ρ : Env) : Out (Option W) :=
  match asP p w (wpE ρ own) with
  | none => .bad
  | some ρ1 => (t ρ1).bind fun k ρ2 => if k then stepV x ρ2 else .ok none ρ2

/-- the names of a target -/
def Pt.ns : Pt → List Nat
  | .n i => [i]
  | .t l => l.ns
  | .nil => []
  | .cons a b => a.ns ++ b.ns
/-- the turns of a second generator -/
def lcM (step : W → Env → Out (Option W)) : List W → List W → Env → Out (List W)
  | [], acc, ρ => .ok acc ρ
  | w :: r, acc, ρ => match step w ρ with
    | .ok (some y) ρ1 => if acc.length < szL then lcM step r (acc ++ [y]) ρ1 else .bad
    | .ok none ρ1 => lcM step r acc ρ1
    | _ => .bad
def lcO (step : W → List W → Env → Out (List W)) : List W → List W → Env → Out (List W)
  | [], acc, ρ => .ok acc ρ
  | w :: r, acc, ρ => match step w acc ρ with
    | .ok acc' ρ1 => lcO step r acc' ρ1
    | _ => .bad
/-- a turn of the first generator: what the second walks is never changed again -/
def lc2S (own : List Nat) (p p1 : Pt) (k1 : IK) (t t1 : Env → Out Bool) (es1 : Env → Out (List Arg)) (x : Env → Out Arg) (w : W) (acc : List W) (ρ : Env) : Out (List W) :=
  match asP p w (wpE ρ own) with
  | none => .bad
  | some ρ1 => (t ρ1).bind fun k ρ2 => if k then (es1 ρ2).bind fun us ρ3 => match shrs ρ3 us with
      | none => .bad
      | some (ws, ρ4) => match itW k1 ws with
        | none => .bad
        | some its => lcM (stepE p1.ns p1 t1 x) its acc ρ4
    else .ok acc ρ2

def pairs : List W → Option (List (W × W))
  | [] => some []
  | k :: v :: r => (pairs r).map ((k, v) :: ·)
  | _ => none
def mergeW (l : List (W × W)) : List (W × W) := l.foldl (fun d p => ptW p.1 p.2 d) []

def fmts : List W → Option Cs
  | [] => some []
  | w :: r => match fmtW w, fmts r with
    | some s, some u => some (s ++ u)
    | _, _ => none

def ev (C : Fn) : E → Sm
  | .bad => ⟨fun _ => .bad, fun _ => .bad, fun _ => .bad⟩
  | .var i =>
    { x := fun ρ => match wOf ρ i with | some _ => .ok (.slot i) ρ | none => .bad
      t := fun ρ => trO ((wOf ρ i).map (·.1)) ρ
      a := fun _ => .bad }
  | .con w => ⟨fun ρ => .ok (.val w false) ρ, fun ρ => trO (some w) ρ, fun _ => .bad⟩
  | .op o a b => let x := fun ρ => ((ev C a).x ρ).bind fun u ρ1 => ((ev C b).x ρ1).bind fun v ρ2 => l2 (opW o) u v ρ2
    ⟨x, fun ρ => (x ρ).bind fun u ρ1 => trO (res ρ1 u) ρ1, fun _ => .bad⟩
  | .neg a => let x := fun ρ => ((ev C a).x ρ).bind fun u ρ1 => l1 (fun w => match w with | .int i => some (.int (-i), false) | _ => none) u ρ1
    ⟨x, fun ρ => (x ρ).bind fun u ρ1 => trO (res ρ1 u) ρ1, fun _ => .bad⟩
  | .cmp o a b => let x := fun ρ => ((ev C a).x ρ).bind fun u ρ1 => ((ev C b).x ρ1).bind fun v ρ2 => l2 (bW (cmpW o)) u v ρ2
    ⟨x, fun ρ => (x ρ).bind fun u ρ1 => trO (res ρ1 u) ρ1, fun _ => .bad⟩
  | .cmp2 o q a b c => let x := fun ρ => ((ev C a).x ρ).bind fun u ρ1 => ((ev C b).x ρ1).bind fun v ρ2 => match res ρ2 u, res ρ2 v with
      | some w1, some w2 => match cmpW o w1 w2 with
        | some true => ((ev C c).x ρ2).bind fun z ρ3 => l2 (bW (cmpW q)) v z ρ3
        | some false => .ok (.val (.bl false) false) ρ2
        | none => .bad
      | _, _ => .bad
    ⟨x, fun ρ => (x ρ).bind fun u ρ1 => trO (res ρ1 u) ρ1, fun _ => .bad⟩
  | .and a b =>
    { x := fun ρ => ((ev C a).x ρ).bind fun u ρ1 => match (res ρ1 u).bind truth with
        | some true => (ev C b).x ρ1
        | some false => .ok u ρ1
        | none => .bad
      t := fun ρ => ((ev C a).t ρ).bind fun k ρ1 => if k then (ev C b).t ρ1 else .ok false ρ1
      a := fun _ => .bad }
  | .or a b =>
    { x := fun ρ => ((ev C a).x ρ).bind fun u ρ1 => match (res ρ1 u).bind truth with
        | some true => .ok u ρ1
        | some false => (ev C b).x ρ1
        | none => .bad
      t := fun ρ => ((ev C a).t ρ).bind fun k ρ1 => if k then .ok true ρ1 else (ev C b).t ρ1
      a := fun _ => .bad }
  | .not a =>
    { x := fun ρ => ((ev C a).x ρ).bind fun u ρ1 => l1 (fun w => (truth w).map fun b => (.bl (!b), false)) u ρ1
      t := fun ρ => ((ev C a).t ρ).bind fun k ρ1 => .ok (!k) ρ1
      a := fun _ => .bad }
  | .ite c a b => let x := fun ρ => ((ev C c).t ρ).bind fun k ρ1 => if k then (ev C a).x ρ1 else (ev C b).x ρ1
    ⟨x, fun ρ => ((ev C c).t ρ).bind fun k ρ1 => if k then (ev C a).t ρ1 else (ev C b).t ρ1, fun _ => .bad⟩
  | .tup es => let x := fun ρ => ((ev C es).a ρ).bind fun us ρ1 => match shrs ρ1 us with
      | some (ws, ρ2) => if ws.length ≤ szL then .ok (.val (.tup ws) false) ρ2 else .bad
      | none => .bad
    ⟨x, fun ρ => (x ρ).bind fun u ρ1 => trO (res ρ1 u) ρ1, fun _ => .bad⟩
  | .lst es => let x := fun ρ => ((ev C es).a ρ).bind fun us ρ1 => match shrs ρ1 us with
      | some (ws, ρ2) => if ws.length ≤ szL then .ok (.val (.lst ws) true) ρ2 else .bad
      | none => .bad
    ⟨x, fun ρ => (x ρ).bind fun u ρ1 => trO (res ρ1 u) ρ1, fun _ => .bad⟩
  | .dsp es => let x := fun ρ => ((ev C es).a ρ).bind fun us ρ1 => match shrs ρ1 us with
      | some (ws, ρ2) => match pairs ws with
        | some ps => if ps.length ≤ 15 then .ok (.val (.dct (mergeW ps)) true) ρ2 else .bad
        | none => .bad
      | none => .bad
    ⟨x, fun ρ => (x ρ).bind fun u ρ1 => trO (res ρ1 u) ρ1, fun _ => .bad⟩
  | .ix a b => let x := fun ρ => ((ev C a).x ρ).bind fun u ρ1 => ((ev C b).x ρ1).bind fun v ρ2 => l2 ixW u v ρ2
    ⟨x, fun ρ => (x ρ).bind fun u ρ1 => trO (res ρ1 u) ρ1, fun _ => .bad⟩
  | .slc a l h lo hi => let x := fun ρ => ((ev C a).x ρ).bind fun u ρ1 => (part l (ev C lo).x ρ1).bind fun i ρ2 => (part h (ev C hi).x ρ2).bind fun j ρ3 => l1 (slc1 i j) u ρ3
    ⟨x, fun ρ => (x ρ).bind fun u ρ1 => trO (res ρ1 u) ρ1, fun _ => .bad⟩
  | .call f m es => let x := fun ρ => ((ev C es).a ρ).bind fun us ρ1 => callW C f m us ρ1
    ⟨x, fun ρ => (x ρ).bind fun u ρ1 => trO (res ρ1 u) ρ1, fun _ => .bad⟩
  | .bi f es => let x := fun ρ => ((ev C es).a ρ).bind fun us ρ1 => lL (biW f) us ρ1
    ⟨x, fun ρ => (x ρ).bind fun u ρ1 => trO (res ρ1 u) ρ1, fun _ => .bad⟩
  | .mth f o es => let x := fun ρ => ((ev C o).x ρ).bind fun v ρ1 => match (res ρ1 v).bind (mTy f) with
      | some _ => ((ev C es).a ρ1).bind fun us ρ2 => match res ρ2 v with
        | some w => lL (mthW f w) us ρ2
        | none => .bad
      | none => .bad
    ⟨x, fun ρ => (x ρ).bind fun u ρ1 => trO (res ρ1 u) ρ1, fun _ => .bad⟩
  | .isi a t => let x := fun ρ => ((ev C a).x ρ).bind fun u ρ1 => l1 (fun w => if isD w then none else some (.bl (isTy t w), false)) u ρ1
    ⟨x, fun ρ => (x ρ).bind fun u ρ1 => trO (res ρ1 u) ρ1, fun _ => .bad⟩
  | .fst es => let x := fun ρ => ((ev C es).a ρ).bind fun us ρ1 => lL (fun ws => (fmts ws).map fun s => (.str s, false)) us ρ1
    ⟨x, fun ρ => (x ρ).bind fun u ρ1 => trO (res ρ1 u) ρ1, fun _ => .bad⟩
  | .lc elt p t k es own => let x := fun ρ => ((ev C es).a ρ).bind fun us ρ1 => match (ress ρ1 us).bind (itW k) with
      | none => .bad
      | some its => match lcL (stepE own p (ev C t).t (ev C elt).x) its [] (lkE ρ1 us) with
        | .ok acc ρ3 => if its.length ≤ szL then .ok (.val (.lst acc) true) (ulE ρ1 (rsE (lkE ρ1 us) ρ3 own) us) else .bad
        | _ => .bad
    ⟨x, fun ρ => (x ρ).bind fun u ρ1 => trO (res ρ1 u) ρ1, fun _ => .bad⟩
  | .lc2 elt p t k es p1 t1 k1 es1 own => let x := fun ρ => ((ev C es).a ρ).bind fun us ρ1 => match (ress ρ1 us).bind (itW k) with
      | none => .bad
      | some its => match lcO (lc2S own p p1 k1 (ev C t).t (ev C t1).t (ev C es1).a (ev C elt).x) its [] (lkE ρ1 us) with
        | .ok acc ρ3 => .ok (.val (.lst acc) true) (ulE ρ1 (rsE (lkE ρ1 us) ρ3 own) us)
        | _ => .bad
    ⟨x, fun ρ => (x ρ).bind fun u ρ1 => trO (res ρ1 u) ρ1, fun _ => .bad⟩
  | .nil => ⟨fun _ => .bad, fun ρ => .ok true ρ, fun ρ => .ok [] ρ⟩
  | .cons a b => ⟨fun _ => .bad, fun _ => .bad, fun ρ => ((ev C a).x ρ).bind fun u ρ1 => ((ev C b).a ρ1).bind fun us ρ2 => .ok (u :: us) ρ2⟩

/-! ### statements -/
inductive SO where
  | nx (ρ : Env) | bk (ρ : Env) | ct (ρ : Env) | rt (w : W) (fr : Bool) (ρ : Env) | ex (x : Nat) (p : W) (ρ : Env) | bad

def SO.bnd {α : Type} : Out α → (α → Env → SO) → SO
  | .ok a ρ, f => f a ρ
  | .ex x p ρ, _ => .ex x p ρ
  | .bad, _ => .bad
@[simp] theorem SO.bnd_ok {α : Type} (a : α) (ρ : Env) (f : α → Env → SO) : SO.bnd (Out.ok a ρ) f = f a ρ := rfl
@[simp] theorem SO.bnd_ex {α : Type} (x : Nat) (p : W) (ρ : Env) (f : α → Env → SO) : SO.bnd (Out.ex x p ρ) f = .ex x p ρ := rfl
@[simp] theorem SO.bnd_bad {α : Type} (f : α → Env → SO) : SO.bnd (Out.bad : Out α) f = .bad := rfl
def SO.thn : SO → (Env → SO) → SO
  | .nx ρ, f => f ρ
  | o, _ => o
def ofE : Option Env → SO
  | some ρ => .nx ρ
  | none => .bad

/-- x = an argument -/
def asA (i : Nat) (a : Arg) (ρ : Env) : Option Env := match a with
  | .val w fr => setN ρ i w (if fr then .own else .sh)
  | .slot j => match shr ρ (.slot j) with
    | some (w, ρ1) => setN ρ1 i w .sh
    | none => none
/-- several at once, names all different -/
def asAs : List Nat → List Arg → Env → Option Env
  | [], [], ρ => some ρ
  | i :: is, a :: as, ρ => if is.contains i then none else match asA i a ρ with
    | some ρ1 => asAs is as ρ1
    | none => none
  | _, _, _ => none
/-- arguments whose names are read now -/
def fixA (ρ : Env) : List Arg → Option (List Arg × Env)
  | [] => some ([], ρ)
  | .val w fr :: r => match fixA ρ r with
    | some (as, ρ1) => some (.val w fr :: as, ρ1)
    | none => none
  | .slot i :: r => match shr ρ (.slot i) with
    | some (w, ρ1) => match fixA ρ1 r with
      | some (as, ρ2) => some (.val w false :: as, ρ2)
      | none => none
    | none => none

def retA (a : Arg) (ρ : Env) : SO := match a with
  | .val w fr => .rt w fr ρ
  | .slot i => match wOf ρ i with
    | some (w, .sh) => .rt w false ρ
    | some (w, .own) => .rt w true (ρ.set i none)
    | some (w, .ownL) => if isD w then .bad else .rt w false (ρ.set i (some (w, .sh)))
    | _ => .bad

def mutOk : Option (W × Fl) → Bool
  | some (.lst _, .own) => true
  | some (.lst _, .io) => true
  | _ => false
def mutE (m : MK) (i : Nat) (us : List Arg) (ρ : Env) : SO := match shrs ρ us with
  | none => .bad
  | some (ws, ρ1) => match wOf ρ1 i with
    | some (w, .own) => match mutW m w ws with
      | some w' => .nx (ρ1.set i (some (w', .own)))
      | none => .bad
    | some (w, .io) => match mutW m w ws with
      | some w' => .nx (ρ1.set i (some (w', .io)))
      | none => .bad
    | _ => .bad
def sixE (i : Nat) (e k : Arg) (ρ : Env) : SO := match shr ρ e with
  | none => .bad
  | some (v, ρ1) => match shr ρ1 k with
    | none => .bad
    | some (kw, ρ2) => match wOf ρ2 i with
      | some (w, .own) => match putW w kw v with
        | some w' => .nx (ρ2.set i (some (w', .own)))
        | none => .bad
      | some (w, .io) => match putW w kw v with
        | some w' => .nx (ρ2.set i (some (w', .io)))
        | none => .bad
      | _ => .bad

def forL (step : W → Env → SO) : List W → Env → SO
  | [], ρ => .nx ρ
  | w :: r, ρ => match step w ρ with
    | .nx ρ1 => forL step r ρ1
    | .ct ρ1 => forL step r ρ1
    | .bk ρ1 => .nx ρ1
    | o => o
def whlL (t : Env → Out Bool) (b : Env → SO) : Nat → Env → SO
  | 0, _ => .bad
  | n + 1, ρ => SO.bnd (t ρ) fun k ρ1 => if k then match b ρ1 with
      | .nx ρ2 => whlL t b n ρ2
      | .ct ρ2 => whlL t b n ρ2
      | .bk ρ2 => .nx ρ2
      | o => o
    else .nx ρ1
/-- behind a loop -/
def SO.mapE (f : Env → Env) : SO → SO
  | .nx ρ => .nx (f ρ)
  | .bk ρ => .bk (f ρ)
  | .ct ρ => .ct (f ρ)
  | o => o

/-- which clause takes which exception: 0 is NotAllowed .. ; the base takes all -/
abbrev Tk := Nat → Nat → Bool

def xs (C : Fn) (tk : Tk) (g : Nat) : S → Env → SO
  | .bad, _ => .bad
  | .nil, ρ => .nx ρ
  | .seq s r, ρ => (xs C tk g s ρ).thn fun ρ1 => xs C tk g r ρ1
  | .asn i e, ρ => SO.bnd ((ev C e).x ρ) fun a ρ1 => ofE (asA i a ρ1)
  | .asp p e, ρ => SO.bnd ((ev C e).x ρ) fun a ρ1 => match shr ρ1 a with
    | some (w, ρ2) => ofE (asP p w ρ2)
    | none => .bad
  | .par is es, ρ => SO.bnd ((ev C es).a ρ) fun as ρ1 => match fixA ρ1 as with
    | some (as', ρ2) => ofE (asAs is as' ρ2)
    | none => .bad
  | .six i k e, ρ => SO.bnd ((ev C e).x ρ) fun a ρ1 => match wOf ρ1 i with
    | none => .bad
    | some _ => SO.bnd ((ev C k).x ρ1) fun b ρ2 => sixE i a b ρ2
  | .aug i o e, ρ => match wOf ρ i with
    | some (w, .sh) => SO.bnd ((ev C e).x ρ) fun a ρ1 => match res ρ1 a with
      | some u => match opW o w u with
        | some (.int z, _) => ofE (setN ρ1 i (.int z) .sh)
        | _ => .bad
      | none => .bad
    | _ => .bad
  | .exp e, ρ => SO.bnd ((ev C e).x ρ) fun _ ρ1 => .nx ρ1
  | .mut m i es, ρ => if mutOk (wOf ρ i) then SO.bnd ((ev C es).a ρ) fun us ρ1 => mutE m i us ρ1 else .bad
  | .ret e, ρ => SO.bnd ((ev C e).x ρ) fun a ρ1 => retA a ρ1
  | .retN, ρ => .rt .non false ρ
  | .ite c a b, ρ => SO.bnd ((ev C c).t ρ) fun k ρ1 => if k then xs C tk g a ρ1 else xs C tk g b ρ1
  | .for_ p k es b, ρ => SO.bnd ((ev C es).a ρ) fun us ρ1 => match (ress ρ1 us).bind (itW k) with
    | none => .bad
    | some its => (forL (fun w ρ => match asP p w ρ with
      | none => .bad
      | some ρ1 => xs C tk g b ρ1) its (lkE ρ1 us)).mapE fun ρ3 => ulE ρ1 ρ3 us
  | .whl c b, ρ => whlL (ev C c).t (xs C tk g b) g ρ
  | .pass, ρ => .nx ρ
  | .brk, ρ => .bk ρ
  | .cnt, ρ => .ct ρ
  | .rais x e, ρ => SO.bnd ((ev C e).a ρ) fun us ρ1 => match us with
    | [] => .ex x .non ρ1
    | [a] => match shr ρ1 a with
      | some (w, ρ2) => .ex x w ρ2
      | none => .bad
    | _ => .bad
  | .try_ b x as h, ρ => match xs C tk g b ρ with
    | .ex y p ρ1 => if tk x y then match as with
        | none => xs C tk g h ρ1
        | some i => match setN ρ1 i p .sh with
          | some ρ2 => xs C tk g h ρ2
          | none => .bad
      else .ex y p ρ1
    | o => o

/-! ### a program -/
structure FD where
  n : Nat      -- names
  m : List Bool      -- parameters: which ones the caller sees changed
  b : S
def env0 (fd : FD) (ws : List W) : Env := (ws.zip fd.m).map (fun p => some (p.1, if p.2 then Fl.io else Fl.sh)) ++ List.replicate (fd.n - ws.length) none
def ioE (ρ : Env) : Nat → List Bool → Option (List W)
  | _, [] => some []
  | k, false :: m => ioE ρ (k + 1) m
  | k, true :: m => match wOf ρ k, ioE ρ (k + 1) m with
    | some (w, .io), some ws => some (w :: ws)
    | some (w, .ioL), some ws => some (w :: ws)
    | _, _ => none
def ofS (fd : FD) : SO → CO
  | .nx ρ => match ioE ρ 0 fd.m with
    | some ios => .ret .non false ios
    | none => .bad
  | .rt w fr ρ => match ioE ρ 0 fd.m with
    | some ios => .ret w fr ios
    | none => .bad
  | .ex x p ρ => match ioE ρ 0 fd.m with
    | some ios => .ex x p ios
    | none => .bad
  | _ => .bad
def run (fs : List FD) (tk : Tk) (g : Nat) : Nat → Fn
  | 0 => fun _ _ => .bad
  | d + 1 => fun f ws => match fs[f]? with
    | none => .bad
    | some fd => if ws.length = fd.m.length then ofS fd (xs (run fs tk g d) tk g fd.b (env0 fd ws)) else .bad
end Py

namespace Py
/-- the program and the world of the proof: a text's hash is the world's -/
class HW where
  P : PySem.Program
  w : PySem.World
open PySem PySem.Spec PyProof.Rows L2
variable [HW]

abbrev S8 (s : Cs) : Str := ⟨s.toArray⟩

/-! ### a value and what it is -/
mutual
inductive HR (K : PySem.W.Frag) (H : Hp) (F : Addr → Prop) : V → W → Prop
  | non : HR K H F .non .non
  | bl (b : Bool) : HR K H F (.bl b) (.bl b)
  | int (i : Int) : HR K H F (.int i) (.int i)
  | str (s : Cs) : s.length ≤ szL → PyData.strOk (S8 s) = true → HR K H F (.str (S8 s)) (.str s)
  | tup {a : Addr} {vs : List V} {ws : List W} : SqT K H a vs → vs.length ≤ szL → HRs K H F vs ws → HR K H F (.ref a) (.tup ws)
  | lst {a : Addr} {vs : List V} {ws : List W} : F a → Rd H a (.lst vs) → vs.length ≤ szL → HRs K H F vs ws → HR K H F (.ref a) (.lst ws)
inductive HRs (K : PySem.W.Frag) (H : Hp) (F : Addr → Prop) : List V → List W → Prop
  | nil : HRs K H F [] []
  | cons {v : V} {vs : List V} {w : W} {ws : List W} : HR K H F v w → HRs K H F vs ws → HRs K H F (v :: vs) (w :: ws)
end

/-! ### dicts whose keys are tuples -/
mutual
/-- a key -/
def nk : W → Option NestedKey
  | .non => some .none
  | .bl b => some (.num (if b then 1 else 0))
  | .int i => some (.num i)
  | .str s => some (.text (S8 s))
  | .tup ws => (nks ws).map .tup
  | _ => none
def nks : List W → Option (List NestedKey)
  | [] => some []
  | w :: r => match nk w, nks r with
    | some k, some l => some (k :: l)
    | _, _ => none
end
/-- a dict's entries: the key, where it stands, the value -/
abbrev DEs := List (NestedKey × Addr × V)
def dEnts [HW] (es : DEs) (us : List Value) : List DictEntry := List.zipWith (fun x u => ⟨x.1.hash HW.w, .ref x.2.1, u⟩) es us
def dcO [HW] (a : Addr) (es : DEs) : HO := .ext fun h => (a == sysModules) = false ∧ ∃ o us es' ep, h.get? a = some o ∧ o.ExactDict ∧ o.data = .dict es' ep ∧ Vals (es.map (·.2.2)) us ∧ es'.toList = dEnts es us
inductive DRel (K : PySem.W.Frag) (H : Hp) (F : Addr → Prop) : DEs → List (W × W) → Prop
  | nil : DRel K H F [] []
  | cons {k : NestedKey} {b : Addr} {v : V} {ws : List W} {w : W} {es : DEs} {kvs : List (W × W)} : nk (.tup ws) = some k → k.depth ≤ 8 → HR K H F (.ref b) (.tup ws) → HR K H F v w → DRel K H F es kvs → DRel K H F ((k, b, v) :: es) ((.tup ws, w) :: kvs)
theorem DRel.length {K : PySem.W.Frag} {H : Hp} {F : Addr → Prop} {es : DEs} {kvs : List (W × W)} (h : DRel K H F es kvs) : es.length = kvs.length := by
  induction h with
  | nil => rfl
  | cons _ _ _ _ _ ih => simp [ih]
/-- an object that one name alone holds -/
def Cell (K : PySem.W.Frag) (H : Hp) (F : Addr → Prop) (a : Addr) (w : W) : Prop := match w with
  | .lst ws => ∃ vs, H a = some (.lst vs) ∧ vs.length ≤ szL ∧ HRs K H F vs ws
  | .dct kvs => ∃ es, H a = some (dcO a es) ∧ es.length ≤ szL ∧ (es.map (·.1)).Nodup ∧ DRel K H F es kvs
  | _ => False
/-- what may be read now -/
def PkR (K : PySem.W.Frag) (H : Hp) (F : Addr → Prop) (v : V) (w : W) : Prop := HR K H F v w ∨ ∃ c, v = .ref c ∧ Cell K H F c w

section
variable {K : PySem.W.Frag} {H H' : Hp} {F F' : Addr → Prop}
theorem HRs.length {vs : List V} {ws : List W} (h : HRs K H F vs ws) : vs.length = ws.length := by
  induction ws generalizing vs with
  | nil => cases h; rfl
  | cons w ws ih => cases h with | cons _ t => simp [ih t]
theorem HRs.get {vs : List V} {ws : List W} {i : Nat} {w : W} (h : HRs K H F vs ws) (e : ws[i]? = some w) : ∃ v, vs[i]? = some v ∧ HR K H F v w := by
  induction ws generalizing vs i with
  | nil => simp at e
  | cons w' ws ih =>
    cases h with
    | cons r t => cases i with
      | zero => simp at e; subst e; exact ⟨_, rfl, r⟩
      | succ i => simpa using ih t (by simpa using e)
theorem HRs.getV {vs : List V} {ws : List W} {i : Nat} {v : V} (h : HRs K H F vs ws) (e : vs[i]? = some v) : ∃ w, ws[i]? = some w ∧ HR K H F v w := by
  induction ws generalizing vs i with
  | nil => cases h; simp at e
  | cons w' ws ih =>
    cases h with
    | cons r t => cases i with
      | zero => simp at e; subst e; exact ⟨_, rfl, r⟩
      | succ i => simpa using ih t (by simpa using e)
theorem HRs.append {vs vs' : List V} {ws ws' : List W} (h : HRs K H F vs ws) (h' : HRs K H F vs' ws') : HRs K H F (vs ++ vs') (ws ++ ws') := by
  induction ws generalizing vs with
  | nil => cases h; exact h'
  | cons w ws ih => cases h with | cons r t => exact .cons r (ih t)
theorem HRs.one {v : V} {w : W} (h : HR K H F v w) : HRs K H F [v] [w] := .cons h .nil
theorem HRs.take {vs : List V} {ws : List W} (h : HRs K H F vs ws) (n : Nat) : HRs K H F (vs.take n) (ws.take n) := by
  induction n generalizing vs ws with
  | zero => simp; exact .nil
  | succ n ih => cases h with
    | nil => exact .nil
    | cons r t => exact .cons r (ih t)
theorem HRs.drop {vs : List V} {ws : List W} (h : HRs K H F vs ws) (n : Nat) : HRs K H F (vs.drop n) (ws.drop n) := by
  induction n generalizing vs ws with
  | zero => simpa
  | succ n ih => cases h with
    | nil => exact .nil
    | cons r t => simpa using ih t
theorem HRs.set {vs : List V} {ws : List W} {v : V} {w : W} (h : HRs K H F vs ws) (r : HR K H F v w) (n : Nat) : HRs K H F (vs.set n v) (ws.set n w) := by
  induction ws generalizing vs n with
  | nil => cases h; exact .nil
  | cons w' ws ih => cases h with
    | cons q t => cases n with
      | zero => exact .cons r t
      | succ n => exact .cons q (ih t n)
theorem HRs.reverse {vs : List V} {ws : List W} (h : HRs K H F vs ws) : HRs K H F vs.reverse ws.reverse := by
  induction ws generalizing vs with
  | nil => cases h; exact .nil
  | cons w ws ih => cases h with | cons r t => simpa using (ih t).append (.one r)
theorem HRs.dropLast {vs : List V} {ws : List W} (h : HRs K H F vs ws) : HRs K H F vs.dropLast ws.dropLast := by
  rw [List.dropLast_eq_take, List.dropLast_eq_take, h.length]
  exact h.take _
theorem HRs.split {vs : List V} {w : W} {ws : List W} (h : HRs K H F vs (w :: ws)) : ∃ v r, vs = v :: r ∧ HR K H F v w ∧ HRs K H F r ws := by
  cases h with | cons a b => exact ⟨_, _, rfl, a, b⟩
theorem HRs.nl {vs : List V} (h : HRs K H F vs []) : vs = [] := by cases h; rfl

mutual
theorem HR.mono (hS : ∀ a xs, SqT K H a xs → SqT K H' a xs) (hF : ∀ a, F a → F' a) (hL : ∀ a xs, F a → Rd H a (.lst xs) → Rd H' a (.lst xs)) {v : V} {w : W} : HR K H F v w → HR K H' F' v w
  | .non => .non
  | .bl b => .bl b
  | .int i => .int i
  | .str s h k => .str s h k
  | .tup a b c => .tup (hS _ _ a) b (HRs.mono hS hF hL c)
  | .lst a b c d => .lst (hF _ a) (hL _ _ a b) c (HRs.mono hS hF hL d)
theorem HRs.mono (hS : ∀ a xs, SqT K H a xs → SqT K H' a xs) (hF : ∀ a, F a → F' a) (hL : ∀ a xs, F a → Rd H a (.lst xs) → Rd H' a (.lst xs)) {vs : List V} {ws : List W} : HRs K H F vs ws → HRs K H' F' vs ws
  | .nil => .nil
  | .cons a b => .cons (HR.mono hS hF hL a) (HRs.mono hS hF hL b)
end
theorem PkR.of {v : V} {w : W} (h : HR K H F v w) : PkR K H F v w := .inl h
/-- a list to be read -/
theorem PkR.rd {v : V} {ws : List W} (h : PkR K H F v (.lst ws)) : ∃ a vs, v = .ref a ∧ Rd H a (.lst vs) ∧ vs.length ≤ szL ∧ HRs K H F vs ws := by
  rcases h with h | ⟨c, e, h⟩
  · cases h with | lst a b c d => exact ⟨_, _, rfl, b, c, d⟩
  · obtain ⟨vs, a, b, d⟩ := h
    exact ⟨c, vs, e, .inl a, b, d⟩
theorem PkR.lst {v : V} {ws : List W} (h : PkR K H F v (.lst ws)) : ∃ a vs, v = .ref a ∧ SqL K H a vs ∧ vs.length ≤ szL ∧ HRs K H F vs ws := by
  obtain ⟨a, vs, e, r, z, q⟩ := h.rd
  exact ⟨a, vs, e, .inl r, z, q⟩
theorem HR.tupI {v : V} {ws : List W} (h : HR K H F v (.tup ws)) : ∃ a vs, v = .ref a ∧ SqT K H a vs ∧ vs.length ≤ szL ∧ HRs K H F vs ws := by
  cases h with | tup a b c => exact ⟨_, _, rfl, a, b, c⟩
theorem PkR.tup {v : V} {ws : List W} (h : PkR K H F v (.tup ws)) : ∃ a vs, v = .ref a ∧ SqT K H a vs ∧ vs.length ≤ szL ∧ HRs K H F vs ws := by
  rcases h with h | ⟨c, e, h⟩
  · exact h.tupI
  · exact h.elim
theorem PkR.int {v : V} {i : Int} (h : PkR K H F v (.int i)) : v = .int i := by
  rcases h with h | ⟨c, e, h⟩
  · cases h; rfl
  · exact h.elim
theorem PkR.bl {v : V} {i : Bool} (h : PkR K H F v (.bl i)) : v = .bl i := by
  rcases h with h | ⟨c, e, h⟩
  · cases h; rfl
  · exact h.elim
theorem PkR.non {v : V} (h : PkR K H F v .non) : v = .non := by
  rcases h with h | ⟨c, e, h⟩
  · cases h; rfl
  · exact h.elim
theorem PkR.str {v : V} {s : Cs} (h : PkR K H F v (.str s)) : v = .str (S8 s) ∧ s.length ≤ szL ∧ PyData.strOk (S8 s) = true := by
  rcases h with h | ⟨c, e, h⟩
  · cases h with | str _ a b => exact ⟨rfl, a, b⟩
  · exact h.elim
theorem PkR.dct {v : V} {s : List (W × W)} (h : PkR K H F v (.dct s)) : ∃ a es, v = .ref a ∧ H a = some (dcO a es) ∧ es.length ≤ szL ∧ (es.map (·.1)).Nodup ∧ DRel K H F es s := by
  rcases h with h | ⟨c, e, h⟩
  · cases h
  · obtain ⟨es, h⟩ := h
    exact ⟨c, es, e, h⟩
theorem PkR.st {v : V} {s : List W} (h : PkR K H F v (.st s)) : False := by
  rcases h with h | ⟨c, e, h⟩
  · cases h
  · exact h.elim
theorem PkR.inl' {v : V} {w : W} (h : HR K H F v w) : PkR K H F v w := .inl h
theorem szL_eq : szL = sizeLine := by decide

/-! ### == of data -/
mutual
def pd : W → PyData
  | .non => .none | .bl b => .bool b | .int i => .int i | .str s => .str (S8 s) | .tup xs => .tuple (pds xs) | .lst xs => .list (pds xs) | .dct _ => .none | .st _ => .none
def pds : List W → List PyData
  | [] => []
  | x :: xs => pd x :: pds xs
end
mutual
theorem HR.dp {v : V} {w : W} (hl : ∀ a vs, F a → Rd H a (.lst vs) → SqL K H a vs) : HR K H F v w → Dp K H v (pd w)
  | .non => by simp only [pd]; exact .non
  | .bl b => by simp only [pd]; exact .bl b
  | .int i => by simp only [pd]; exact .int i
  | .str s h k => by simp only [pd]; exact .str _
  | .tup a b c => by simp only [pd]; exact .tup a (HRs.dp hl c)
  | .lst a b c d => by simp only [pd]; exact .lst (hl _ _ a b) (HRs.dp hl d)
theorem HRs.dp {vs : List V} {ws : List W} (hl : ∀ a vs, F a → Rd H a (.lst vs) → SqL K H a vs) : HRs K H F vs ws → DpAll K H vs (pds ws)
  | .nil => by simp only [pds]; exact .nil
  | .cons a b => by simp only [pds]; exact .cons (HR.dp hl a) (HRs.dp hl b)
end
theorem PkR.dp {v : V} {w : W} (h : PkR K H F v w) (hd : dep w < 1000) : Dp K H v (pd w) := by
  rcases h with h | ⟨c, e, h⟩
  · exact h.dp fun _ _ _ r => .inl r
  · subst e
    cases w <;> first | exact h.elim | skip
    case dct => exact absurd hd (by simp [dep])
    obtain ⟨vs, a, b, d⟩ := h
    simp only [pd]
    exact .lst (.inl (.inl a)) (d.dp fun _ _ _ r => .inl r)
mutual
theorem HR.lay {v : V} {w : W} : HR K H F v w → (pd w).canLay0 = true
  | .non => by simp only [pd]; rfl
  | .bl b => by simp only [pd]; rfl
  | .int i => by simp only [pd]; rfl
  | .str s h k => by simp only [pd]; simpa [PyData.canLay0] using k
  | .tup a b c => by simp only [pd]; simpa [PyData.canLay0] using HRs.lay c
  | .lst a b c d => by simp only [pd]; simpa [PyData.canLay0] using HRs.lay d
theorem HRs.lay {vs : List V} {ws : List W} : HRs K H F vs ws → PyData.canLayAll0 (pds ws) = true
  | .nil => by simp only [pds]; rfl
  | .cons a b => by simp only [pds]; simp [PyData.canLayAll0, HR.lay a, HRs.lay b]
end
theorem PkR.lay {v : V} {w : W} (h : PkR K H F v w) : (pd w).canLay0 = true := by
  rcases h with h | ⟨c, e, h⟩
  · exact h.lay
  · cases w <;> first | exact h.elim | skip
    case dct => simp only [pd]; rfl
    obtain ⟨vs, a, b, d⟩ := h
    simp only [pd]
    simpa [PyData.canLay0] using d.lay
mutual
theorem dep_pd : ∀ w : W, (pd w).depth ≤ dep w
  | .non => by simp [pd, PyData.depth]
  | .bl _ => by simp [pd, PyData.depth]
  | .int _ => by simp [pd, PyData.depth]
  | .str _ => by simp [pd, PyData.depth]
  | .tup xs => by have := deps_pd xs; simp only [pd, PyData.depth, dep]; omega
  | .lst xs => by have := deps_pd xs; simp only [pd, PyData.depth, dep]; omega
  | .dct _ => by simp [pd, PyData.depth]
  | .st _ => by simp [pd, PyData.depth]
theorem deps_pd : ∀ ws : List W, PyData.depthAll (pds ws) ≤ deps ws
  | [] => by simp [pds, PyData.depthAll]
  | w :: ws => by have := dep_pd w; have := deps_pd ws; simp only [pds, PyData.depthAll, deps]; omega
end
theorem s8_beq (x y : Cs) : ((S8 x) == (S8 y)) = (x == y) := by
  rw [Bool.eq_iff_iff]; simp
mutual
theorem eqv_pd : ∀ {v v' : V} (x y : W), dep x < 1000 → dep y < 1000 → PyData.eqv (pd x) (pd y) = eqW x y
  | _, _, x, y, h, h' => by
    cases x <;> cases y <;> first
      | (simp only [dep] at h h'; omega)
      | (simp only [pd, PyData.eqv, eqW]; done)
      | (simp only [pd, PyData.eqv, eqW]; exact s8_beq _ _)
      | (simp only [pd, PyData.eqv, eqW]; simp only [dep] at h h'; exact eqvs_pd _ _ (by omega) (by omega))
theorem eqvs_pd : ∀ (x y : List W), deps x < 1000 → deps y < 1000 → PyData.eqvAll (pds x) (pds y) = eqWs x y
  | [], [], _, _ => by simp [pds, PyData.eqvAll, eqWs]
  | [], _ :: _, _, _ => by simp [pds, PyData.eqvAll, eqWs]
  | _ :: _, [], _, _ => by simp [pds, PyData.eqvAll, eqWs]
  | x :: xs, y :: ys, h, h' => by
    simp only [deps] at h h'
    simp only [pds, PyData.eqvAll, eqWs]
    rw [eqv_pd (v := .non) (v' := .non) x y (by omega) (by omega), eqvs_pd xs ys (by omega) (by omega)]
end
end
end Py

namespace Py
open PySem PySem.Spec PyProof.Rows L2
variable [HW]
abbrev Sg := L2.St

/-- the name i holds the object at a alone -/
def SlA (σ : Sg) (ρ : Env) (i : Nat) (a : Addr) : Prop := ∃ (w : W) (f : Fl), ρ[i]? = some (some (w, f)) ∧ f ≠ Fl.sh ∧ σ[i]? = some (some (V.ref a))
/-- .. and may change it -/
def Om (σ : Sg) (ρ : Env) (a : Addr) : Prop := ∃ (i : Nat) (w : W) (f : Fl), ρ[i]? = some (some (w, f)) ∧ (f = Fl.own ∨ f = Fl.io) ∧ σ[i]? = some (some (V.ref a))
/-- .. and it is the name's alone -/
def Ow (σ : Sg) (ρ : Env) (a : Addr) : Prop := ∃ (i : Nat) (w : W) (f : Fl), ρ[i]? = some (some (w, f)) ∧ (f = Fl.own ∨ f = Fl.ownL) ∧ σ[i]? = some (some (V.ref a))
theorem Om.sl {σ : Sg} {ρ : Env} {a : Addr} (h : Om σ ρ a) : ∃ i, SlA σ ρ i a := by
  obtain ⟨i, w, f, a, b, c⟩ := h
  exact ⟨i, w, f, a, by rcases b with rfl | rfl <;> decide, c⟩

/-- names, slots, the heap; Pn: new objects that nothing holds yet; A: the objects of the parameters that the caller sees changed -/
structure SRel (K : PySem.W.Frag) (A : Nat → Option Addr) (σ : Sg) (ρ : Env) (H : Hp) (F : Addr → Prop) (Pn : List (Addr × W)) : Prop where
  ln : ρ.length = σ.length
  sh : ∀ (i : Nat) (w : W), ρ[i]? = some (some (w, Fl.sh)) → ∃ v, σ[i]? = some (some v) ∧ HR K H F v w
  ow : ∀ (i : Nat) (w : W) (f : Fl), ρ[i]? = some (some (w, f)) → f ≠ .sh → ∃ a, σ[i]? = some (some (V.ref a)) ∧ ¬ F a ∧ Cell K H F a w
  io : ∀ (i : Nat) (w : W) (f : Fl), ρ[i]? = some (some (w, f)) → (f = .io ∨ f = .ioL) → ∃ a, A i = some a ∧ σ[i]? = some (some (V.ref a))
  dj : ∀ i j a, SlA σ ρ i a → SlA σ ρ j a → i = j
  pn : ∀ p ∈ Pn, ¬ F p.1 ∧ Cell K H F p.1 p.2 ∧ ∀ i, ¬ SlA σ ρ i p.1
  pd : (Pn.map (·.1)).Nodup
  ff : ∀ a, F a → ∃ o, H a = some o

/-- what a step keeps -/
structure Stp (σ : Sg) (ρ : Env) (H : Hp) (F : Addr → Prop) (σ' : Sg) (ρ' : Env) (H' : Hp) (F' : Addr → Prop) : Prop where
  kp : ∀ a o, H a = some o → ¬ Om σ ρ a → H' a = some o
  fr : ∀ a, F a → F' a
  nf : ∀ a o, H a = some o → F' a → F a ∨ ∃ i, SlA σ ρ i a
  no : ∀ a o, H a = some o → Om σ' ρ' a → Om σ ρ a
  ns : ∀ a o, H a = some o → ∀ i, SlA σ' ρ' i a → SlA σ ρ i a
  nw : ∀ a o, H a = some o → Ow σ' ρ' a → Ow σ ρ a
  al : ∀ a o, H a = some o → ∃ o', H' a = some o'

section
variable {K : PySem.W.Frag} {A : Nat → Option Addr} {σ σ' σ'' : Sg} {ρ ρ' ρ'' : Env} {H H' H'' : Hp} {F F' F'' : Addr → Prop} {Pn Pn' : List (Addr × W)}

/-- what may change -/
def Mut : HO → Prop
  | .lst _ => True
  | .ext _ => True
  | _ => False
theorem no_tup {a : Addr} {o : HO} {xs : List V} (e : H a = some o) (m : Mut o) (h : Rd H a (.tup xs)) : False := by
  rcases h with h | ⟨o', h⟩ <;> (rw [e] at h; cases h; exact m)
theorem Cell.obj {a : Addr} {w : W} (h : Cell K H F a w) : ∃ o, H a = some o ∧ Mut o := by
  cases w <;> first | exact h.elim | skip
  · obtain ⟨vs, e, _⟩ := h
    exact ⟨_, e, trivial⟩
  · obtain ⟨es, e, _⟩ := h
    exact ⟨_, e, trivial⟩
theorem SRel.slc (h : SRel K A σ ρ H F Pn) {i : Nat} {a : Addr} (s : SlA σ ρ i a) : ¬ F a ∧ ∃ o, H a = some o ∧ Mut o := by
  obtain ⟨w, f, e, nf, eσ⟩ := s
  obtain ⟨b, eb, nF, c⟩ := h.ow i w f e nf
  rw [eσ] at eb; cases eb
  exact ⟨nF, c.obj⟩
theorem SRel.omc (h : SRel K A σ ρ H F Pn) {a : Addr} (s : Om σ ρ a) : ¬ F a ∧ ∃ o, H a = some o ∧ Mut o := let ⟨_, x⟩ := s.sl; h.slc x

theorem Stp.refl : Stp σ ρ H F σ ρ H F := ⟨fun _ _ h _ => h, fun _ h => h, fun _ _ _ h => .inl h, fun _ _ _ h => h, fun _ _ _ i h => h, fun _ _ _ h => h, fun _ o h => ⟨o, h⟩⟩
theorem Stp.trans (x : Stp σ ρ H F σ' ρ' H' F') (y : Stp σ' ρ' H' F' σ'' ρ'' H'' F'') : Stp σ ρ H F σ'' ρ'' H'' F'' := by
  refine ⟨fun a o h n => ?_, fun a h => y.fr a (x.fr a h), fun a o h f => ?_, fun a o h f => ?_, fun a o h i f => ?_, fun a o h f => ?_, fun a o h => ?_⟩
  · exact y.kp a o (x.kp a o h n) fun z => n (x.no a o h z)
  · obtain ⟨o', e⟩ := x.al a o h
    rcases y.nf a o' e f with z | ⟨i, z⟩
    · exact x.nf a o h z
    · exact .inr ⟨i, x.ns a o h i z⟩
  · obtain ⟨o', e⟩ := x.al a o h
    exact x.no a o h (y.no a o' e f)
  · obtain ⟨o', e⟩ := x.al a o h
    exact x.ns a o h i (y.ns a o' e i f)
  · obtain ⟨o', e⟩ := x.al a o h
    exact x.nw a o h (y.nw a o' e f)
  · obtain ⟨o', e⟩ := x.al a o h
    exact y.al a o' e

theorem Stp.rd (hs : SRel K A σ ρ H F Pn) (st : Stp σ ρ H F σ' ρ' H' F') {a : Addr} {u : HO} (h : Rd H a u) (nl : ¬ ∃ i, SlA σ ρ i a) : Rd H' a u := by
  have n : ¬ Om σ ρ a := fun z => nl z.sl
  rcases h with h | ⟨o, h⟩
  · exact .inl (st.kp _ _ h n)
  · exact .inr ⟨o, st.kp _ _ h n⟩
theorem Stp.sqt (hs : SRel K A σ ρ H F Pn) (st : Stp σ ρ H F σ' ρ' H' F') (a : Addr) (xs : List V) (h : SqT K H a xs) : SqT K H' a xs := by
  rcases h with h | h
  · refine .inl (st.rd hs h ?_)
    rintro ⟨i, s⟩
    obtain ⟨_, vs, e, m⟩ := hs.slc s
    exact no_tup e m h
  · exact .inr h
theorem Stp.hr (hs : SRel K A σ ρ H F Pn) (st : Stp σ ρ H F σ' ρ' H' F') {v : V} {w : W} (h : HR K H F v w) : HR K H' F' v w :=
  h.mono (st.sqt hs) st.fr fun a xs f r => st.rd hs r fun ⟨i, s⟩ => (hs.slc s).1 f
theorem Stp.hrs (hs : SRel K A σ ρ H F Pn) (st : Stp σ ρ H F σ' ρ' H' F') {v : List V} {w : List W} (h : HRs K H F v w) : HRs K H' F' v w :=
  h.mono (st.sqt hs) st.fr fun a xs f r => st.rd hs r fun ⟨i, s⟩ => (hs.slc s).1 f
theorem Stp.drel (hs : SRel K A σ ρ H F Pn) (st : Stp σ ρ H F σ' ρ' H' F') {es : DEs} {kvs : List (W × W)} (h : DRel K H F es kvs) : DRel K H' F' es kvs := by
  induction h with
  | nil => exact .nil
  | cons a b c d _ ih => exact .cons a b (st.hr hs c) (st.hr hs d) ih
theorem SRel.perm (h : SRel K A σ ρ H F Pn) (p : Pn.Perm Pn') : SRel K A σ ρ H F Pn' :=
  ⟨h.ln, h.sh, h.ow, h.io, h.dj, fun q hq => h.pn q (p.mem_iff.mpr hq), (p.map _).nodup_iff.mp h.pd, h.ff⟩
theorem SRel.drop (h : SRel K A σ ρ H F (Pn' ++ Pn)) : SRel K A σ ρ H F Pn :=
  ⟨h.ln, h.sh, h.ow, h.io, h.dj, fun q hq => h.pn q (List.mem_append_right _ hq), by have := h.pd; rw [List.map_append] at this; exact (List.nodup_append.mp this).2.1, h.ff⟩

/-- a larger frozen part -/
theorem HR.more (hF : ∀ a, F a → F' a) {v : V} {w : W} (h : HR K H F v w) : HR K H F' v w := h.mono (fun _ _ q => q) hF fun _ _ _ r => r
theorem HRs.more (hF : ∀ a, F a → F' a) {v : List V} {w : List W} (h : HRs K H F v w) : HRs K H F' v w := h.mono (fun _ _ q => q) hF fun _ _ _ r => r
theorem DRel.mono (hS : ∀ a xs, SqT K H a xs → SqT K H' a xs) (hF : ∀ a, F a → F' a) (hL : ∀ a xs, F a → Rd H a (.lst xs) → Rd H' a (.lst xs)) {es : DEs} {kvs : List (W × W)} (h : DRel K H F es kvs) : DRel K H' F' es kvs := by
  induction h with
  | nil => exact .nil
  | cons a b c d _ ih => exact .cons a b (c.mono hS hF hL) (d.mono hS hF hL) ih
theorem DRel.more (hF : ∀ a, F a → F' a) {es : DEs} {kvs : List (W × W)} (h : DRel K H F es kvs) : DRel K H F' es kvs := h.mono (fun _ _ q => q) hF fun _ _ _ r => r
theorem Cell.more (hF : ∀ a, F a → F' a) {a : Addr} {w : W} (h : Cell K H F a w) : Cell K H F' a w := by
  cases w <;> first | exact h.elim | skip
  · obtain ⟨vs, e, z, q⟩ := h
    exact ⟨vs, e, z, q.more hF⟩
  · obtain ⟨es, e, z, n, q⟩ := h
    exact ⟨es, e, z, n, q.more hF⟩
def fz (F : Addr → Prop) (c : Addr) : Addr → Prop := fun a => F a ∨ a = c
theorem Cell.hr {a : Addr} {w : W} (h : Cell K H F a w) (hd : isD w = false) : HR K H (fz F a) (.ref a) w := by
  cases w <;> first | exact h.elim | (cases hd; done) | skip
  obtain ⟨vs, e, z, q⟩ := h
  exact .lst (.inr rfl) (.inl e) z (q.more fun _ => .inl)
/-- a new object is frozen -/
theorem SRel.freeze {P1 : List (Addr × W)} {c : Addr} {w : W} (h : SRel K A σ ρ H F (P1 ++ (c, w) :: Pn)) (nd : isD w = false) : SRel K A σ ρ H (fz F c) (P1 ++ Pn) ∧ HR K H (fz F c) (.ref c) w := by
  have hc := h.pn (c, w) (by simp)
  have hd : c ∉ (P1 ++ Pn).map (·.1) ∧ ((P1 ++ Pn).map (·.1)).Nodup := by
    have := h.pd
    rw [List.map_append, List.map_cons] at this
    have q := (List.perm_middle (a := c) (l₁ := P1.map (·.1)) (l₂ := Pn.map (·.1))).nodup_iff.mp this
    rw [← List.map_append] at q
    exact List.nodup_cons.mp q
  refine ⟨⟨h.ln, fun i w e => ?_, fun i w f e n => ?_, h.io, h.dj, fun p hp => ?_, hd.2, fun a q => ?_⟩, hc.2.1.hr nd⟩
  · obtain ⟨v, a, b⟩ := h.sh i w e
    exact ⟨v, a, b.more fun _ => .inl⟩
  · obtain ⟨a, x, y, z⟩ := h.ow i w f e n
    refine ⟨a, x, ?_, z.more fun _ => .inl⟩
    rintro (q | rfl)
    · exact y q
    · exact hc.2.2 i ⟨w, f, e, n, x⟩
  · have hm : p ∈ P1 ++ (c, w) :: Pn := by
      rcases List.mem_append.mp hp with q | q
      · exact List.mem_append_left _ q
      · exact List.mem_append_right _ (List.mem_cons_of_mem _ q)
    obtain ⟨x, y, z⟩ := h.pn p hm
    refine ⟨?_, y.more fun _ => .inl, z⟩
    rintro (q | q)
    · exact x q
    · exact hd.1 (q ▸ List.mem_map_of_mem hp)
  · rcases q with q | rfl
    · exact h.ff a q
    · obtain ⟨vs, e, _⟩ := hc.2.1.obj
      exact ⟨_, e⟩

/-! ### arguments -/
/-- an argument and its value -/
def AR (K : PySem.W.Frag) (σ : Sg) (H : Hp) (F : Addr → Prop) : Arg → V → Prop
  | .val w false, v => HR K H F v w
  | .val _ true, v => ∃ c, v = .ref c
  | .slot i, v => σ[i]? = some (some v)
def pnd : Arg → V → List (Addr × W)
  | .val w true, .ref c => [(c, w)]
  | _, _ => []
inductive ARs (K : PySem.W.Frag) (σ : Sg) (H : Hp) (F : Addr → Prop) : List Arg → List V → Prop
  | nil : ARs K σ H F [] []
  | cons {a : Arg} {v : V} {as : List Arg} {vs : List V} : AR K σ H F a v → ARs K σ H F as vs → ARs K σ H F (a :: as) (v :: vs)
def pnds : List Arg → List V → List (Addr × W)
  | a :: as, v :: vs => pnds as vs ++ pnd a v
  | _, _ => []
theorem AR.stp (hs : SRel K A σ ρ H F Pn) (st : Stp σ ρ H F σ ρ' H' F') {a : Arg} {v : V} (h : AR K σ H F a v) : AR K σ H' F' a v := by
  cases a with
  | slot i => exact h
  | val w fr => cases fr with
    | true => exact h
    | false => exact st.hr hs h
theorem wOf_eq {i : Nat} {x : W × Fl} : wOf ρ i = some x ↔ ρ[i]? = some (some x) := by
  unfold wOf
  cases h : ρ[i]? with
  | none => simp
  | some y => cases y <;> simp
/-- what a name holds may be read -/
theorem SRel.peek (hs : SRel K A σ ρ H F Pn) {i : Nat} {w : W} {f : Fl} {v : V} (h : wOf ρ i = some (w, f)) (e : σ[i]? = some (some v)) : PkR K H F v w := by
  rw [wOf_eq] at h
  by_cases hf : f = .sh
  · subst hf
    obtain ⟨u, a, b⟩ := hs.sh i w h
    rw [e] at a; cases a
    exact .inl b
  · obtain ⟨u, a, b, c⟩ := hs.ow i w f h hf
    rw [e] at a; cases a
    exact .inr ⟨u, rfl, c⟩
theorem SRel.val (hs : SRel K A σ ρ H F Pn) {i : Nat} {x : W × Fl} (h : wOf ρ i = some x) : ∃ v, σ[i]? = some (some v) := by
  rw [wOf_eq] at h
  obtain ⟨w, f⟩ := x
  by_cases hf : f = .sh
  · subst hf
    obtain ⟨u, a, b⟩ := hs.sh i w h
    exact ⟨u, a⟩
  · obtain ⟨u, a, b, c⟩ := hs.ow i w f h hf
    exact ⟨_, a⟩
theorem AR.peek {P1 : List (Addr × W)} {a : Arg} {v : V} {w : W} (hs : SRel K A σ ρ H F P1) (hp : ∀ p ∈ pnd a v, p ∈ P1) (h : AR K σ H F a v) (e : res ρ a = some w) : PkR K H F v w := by
  cases a with
  | val u fr =>
    obtain rfl : u = w := Option.some.inj e
    cases fr with
    | false => exact .inl h
    | true =>
      obtain ⟨c, rfl⟩ := h
      exact .inr ⟨c, rfl, (hs.pn (c, u) (hp _ (by simp [pnd]))).2.1⟩
  | slot i =>
    simp only [res] at e
    cases q : wOf ρ i with
    | none => rw [q] at e; cases e
    | some x =>
      rw [q] at e
      obtain ⟨x, f⟩ := x
      obtain rfl : x = w := Option.some.inj e
      exact hs.peek q h
inductive PkRs (K : PySem.W.Frag) (H : Hp) (F : Addr → Prop) : List V → List W → Prop
  | nil : PkRs K H F [] []
  | cons {v : V} {w : W} {vs : List V} {ws : List W} : PkR K H F v w → PkRs K H F vs ws → PkRs K H F (v :: vs) (w :: ws)
theorem ARs.peek {P1 : List (Addr × W)} (hs : SRel K A σ ρ H F P1) : ∀ {as : List Arg} {vs : List V} {ws : List W}, (∀ p ∈ pnds as vs, p ∈ P1) → ARs K σ H F as vs → ress ρ as = some ws → PkRs K H F vs ws
  | [], _, _, _, .nil, e => by
    obtain rfl := Option.some.inj e
    exact .nil
  | a :: as, v :: vs, ws, hp, .cons h t, e => by
    unfold ress at e
    cases q1 : res ρ a with
    | none => rw [q1] at e; simp at e
    | some w => cases q2 : ress ρ as with
      | none => rw [q1, q2] at e; simp at e
      | some us =>
        rw [q1, q2] at e
        obtain rfl : w :: us = ws := Option.some.inj e
        exact .cons (h.peek hs (fun p z => hp p (List.mem_append_right _ z)) q1) (t.peek hs (fun p z => hp p (List.mem_append_left _ z)) q2)
theorem ARs.stp (hs : SRel K A σ ρ H F Pn) (st : Stp σ ρ H F σ ρ' H' F') {as : List Arg} {vs : List V} (h : ARs K σ H F as vs) : ARs K σ H' F' as vs := by
  induction h with
  | nil => exact .nil
  | cons a _ ih => exact .cons (a.stp hs st) ih

theorem AR.more (hF : ∀ a, F a → F' a) {a : Arg} {v : V} (h : AR K σ H F a v) : AR K σ H F' a v := by
  cases a with
  | slot i => exact h
  | val w fr => cases fr with
    | true => exact h
    | false => exact HR.more hF h
theorem ARs.more (hF : ∀ a, F a → F' a) {as : List Arg} {vs : List V} (h : ARs K σ H F as vs) : ARs K σ H F' as vs := by
  induction h with
  | nil => exact .nil
  | cons a _ ih => exact .cons (a.more hF) ih

theorem ARs.snoc {as : List Arg} {vs : List V} {a : Arg} {v : V} (h : ARs K σ H F as vs) (q : AR K σ H F a v) : ARs K σ H F (as ++ [a]) (vs ++ [v]) := by
  induction h with
  | nil => exact .cons q .nil
  | cons a _ ih => exact .cons a ih

/-! ### a name's place changes -/
theorem get_set {ρ : Env} {i j : Nat} {x : Option (W × Fl)} (h : i < ρ.length) : (ρ.set i x)[j]? = if j = i then some x else ρ[j]? := by
  by_cases e : j = i
  · subst e; rw [List.getElem?_set_self h, if_pos rfl]
  · rw [List.getElem?_set_ne (Ne.symm e), if_neg e]
theorem lt_of_get {α : Type} {l : List α} {i : Nat} {x : α} (h : l[i]? = some x) : i < l.length := (List.getElem?_eq_some_iff.mp h).1

/-- a name gives its object to everybody -/
theorem SRel.give (hs : SRel K A σ ρ H F Pn) {i : Nat} {w : W} {f : Fl} (nd : isD w = false) (e : ρ[i]? = some (some (w, f))) (hf : f = .own ∨ f = .ownL) {v : V} (ev : σ[i]? = some (some v)) :
    ∃ F', SRel K A σ (ρ.set i (some (w, .sh))) H F' Pn ∧ HR K H F' v w ∧ Stp σ ρ H F σ (ρ.set i (some (w, .sh))) H F' := by
  have ns : f ≠ .sh := by rcases hf with rfl | rfl <;> decide
  obtain ⟨c, eσ, nF, hc⟩ := hs.ow i w f e ns
  rw [ev] at eσ; cases eσ
  have hi := lt_of_get e
  have sl : SlA σ ρ i c := ⟨w, f, e, ns, ev⟩
  have back : ∀ {j : Nat} {a : Addr}, SlA σ (ρ.set i (some (w, .sh))) j a → j ≠ i ∧ SlA σ ρ j a := fun {j a} ⟨w', f', e', n', s'⟩ => by
    rw [get_set hi] at e'
    by_cases q : j = i
    · rw [if_pos q] at e'; cases e'; exact absurd rfl n'
    · rw [if_neg q] at e'; exact ⟨q, w', f', e', n', s'⟩
  refine ⟨fz F c, ⟨by simpa using hs.ln, fun j w' e' => ?_, fun j w' f' e' n' => ?_, fun j w' f' e' q => ?_, fun j k a h1 h2 => hs.dj j k a (back h1).2 (back h2).2, fun p hp => ?_, hs.pd, fun a q => ?_⟩, hc.hr nd, ⟨fun _ _ h _ => h, fun _ => .inl, fun a o h q => ?_, fun a o h q => ?_, fun a o h j q => (back q).2, fun a o h q => ?_, fun _ o h => ⟨o, h⟩⟩⟩
  · rw [get_set hi] at e'
    by_cases q : j = i
    · rw [if_pos q] at e'; cases e'
      subst q
      exact ⟨_, ev, hc.hr nd⟩
    · rw [if_neg q] at e'
      obtain ⟨v, a, b⟩ := hs.sh j w' e'
      exact ⟨v, a, b.more fun _ => .inl⟩
  · rw [get_set hi] at e'
    by_cases q : j = i
    · rw [if_pos q] at e'; cases e'; exact absurd rfl n'
    · rw [if_neg q] at e'
      obtain ⟨a, x, y, z⟩ := hs.ow j w' f' e' n'
      refine ⟨a, x, ?_, z.more fun _ => .inl⟩
      rintro (r | rfl)
      · exact y r
      · exact q (hs.dj j i _ ⟨w', f', e', n', x⟩ sl)
  · rw [get_set hi] at e'
    by_cases r : j = i
    · rw [if_pos r] at e'; cases e'; rcases q with q | q <;> cases q
    · rw [if_neg r] at e'; exact hs.io j w' f' e' q
  · obtain ⟨x, y, z⟩ := hs.pn p hp
    refine ⟨?_, y.more fun _ => .inl, fun j q => z j (back q).2⟩
    rintro (r | r)
    · exact x r
    · exact z i (r ▸ sl)
  · rcases q with q | rfl
    · exact hs.ff a q
    · obtain ⟨vs, r, _⟩ := hc.obj
      exact ⟨_, r⟩
  · rcases q with q | rfl
    · exact .inl q
    · exact .inr ⟨i, sl⟩
  · obtain ⟨j, w', f', e', n', s'⟩ := q
    rw [get_set hi] at e'
    by_cases q : j = i
    · rw [if_pos q] at e'; cases e'; rcases n' with n' | n' <;> cases n'
    · rw [if_neg q] at e'; exact ⟨j, w', f', e', n', s'⟩
  · obtain ⟨j, w', f', e', n', s'⟩ := q
    rw [get_set hi] at e'
    by_cases q : j = i
    · rw [if_pos q] at e'; cases e'; rcases n' with n' | n' <;> cases n'
    · rw [if_neg q] at e'; exact ⟨j, w', f', e', n', s'⟩
/-- an argument becomes a value -/
theorem AR.share {P1 : List (Addr × W)} {a : Arg} {v : V} {w : W} (hs : SRel K A σ ρ H F (P1 ++ pnd a v ++ Pn)) (h : AR K σ H F a v) (e : shr ρ a = some (w, ρ')) :
    ∃ F', SRel K A σ ρ' H F' (P1 ++ Pn) ∧ HR K H F' v w ∧ (∀ a, F a → F' a) ∧ ∀ H0 F0 ρ0, Stp σ ρ0 H0 F0 σ ρ H F → (∀ c x, (c, x) ∈ pnd a v → H0 c = none) → Stp σ ρ0 H0 F0 σ ρ' H F' := by
  cases a with
  | val u fr =>
    obtain ⟨nd, rfl, rfl⟩ : isD u = false ∧ u = w ∧ ρ = ρ' := by simpa [shr] using e
    cases fr with
    | false => exact ⟨F, by simpa [pnd] using hs, h, fun _ q => q, fun _ _ _ st _ => st⟩
    | true =>
      obtain ⟨c, rfl⟩ := h
      have hs' : SRel K A σ ρ H F (P1 ++ (c, u) :: Pn) := by simpa [pnd] using hs
      obtain ⟨x, y⟩ := hs'.freeze nd
      refine ⟨_, x, y, fun _ => .inl, fun H0 F0 ρ0 st hn => ⟨st.kp, fun a q => .inl (st.fr a q), fun a o q r => ?_, st.no, st.ns, st.nw, st.al⟩⟩
      rcases r with r | rfl
      · exact st.nf a o q r
      · rw [hn a u (by simp [pnd])] at q; cases q
  | slot i =>
    have hs' : SRel K A σ ρ H F (P1 ++ Pn) := by simpa [pnd] using hs
    unfold shr at e
    cases q : wOf ρ i with
    | none => simp [q] at e
    | some x =>
      obtain ⟨x, f⟩ := x
      have q' := wOf_eq.mp q
      simp only [q] at e
      cases f with
      | sh =>
        obtain ⟨rfl, rfl⟩ : x = w ∧ ρ = ρ' := by simpa using e
        obtain ⟨u, a, b⟩ := hs'.sh i x q'
        rw [show σ[i]? = some (some v) from h] at a; cases a
        exact ⟨F, hs', b, fun _ z => z, fun _ _ _ st _ => st⟩
      | own =>
        obtain ⟨nd, rfl, rfl⟩ : isD x = false ∧ x = w ∧ ρ.set i (some (x, .sh)) = ρ' := by simpa using e
        obtain ⟨F', a, b, c⟩ := hs'.give nd q' (.inl rfl) h
        exact ⟨F', a, b, c.fr, fun _ _ _ st _ => st.trans c⟩
      | ownL =>
        obtain ⟨nd, rfl, rfl⟩ : isD x = false ∧ x = w ∧ ρ.set i (some (x, .sh)) = ρ' := by simpa using e
        obtain ⟨F', a, b, c⟩ := hs'.give nd q' (.inr rfl) h
        exact ⟨F', a, b, c.fr, fun _ _ _ st _ => st.trans c⟩
      | io => simp at e
      | ioL => simp at e
theorem ARs.share : ∀ {as : List Arg} {vs : List V} {ws : List W} {P1 : List (Addr × W)} {ρ ρ' : Env} {F : Addr → Prop}, SRel K A σ ρ H F (P1 ++ pnds as vs ++ Pn) → ARs K σ H F as vs → shrs ρ as = some (ws, ρ') →
    ∃ F', SRel K A σ ρ' H F' (P1 ++ Pn) ∧ HRs K H F' vs ws ∧ (∀ a, F a → F' a) ∧ ∀ H0 F0 ρ0, Stp σ ρ0 H0 F0 σ ρ H F → (∀ c x, (c, x) ∈ pnds as vs → H0 c = none) → Stp σ ρ0 H0 F0 σ ρ' H F'
  | [], _, _, _, _, _, F, hs, .nil, e => by
    obtain ⟨rfl, rfl⟩ : [] = _ ∧ _ = _ := by simpa [shrs] using e
    exact ⟨F, by simpa [pnds] using hs, .nil, fun _ q => q, fun _ _ _ st _ => st⟩
  | a :: as, v :: vs, ws, P1, ρ, ρ', F, hs, .cons h t, e => by
    unfold shrs at e
    cases q1 : shr ρ a with
    | none => simp [q1] at e
    | some x =>
      obtain ⟨w, ρ1⟩ := x
      cases q2 : shrs ρ1 as with
      | none => simp [q1, q2] at e
      | some y =>
        obtain ⟨us, ρ2⟩ := y
        obtain ⟨rfl, rfl⟩ : w :: us = ws ∧ ρ2 = ρ' := by simpa [q1, q2] using e
        have hs1 : SRel K A σ ρ H F ((P1 ++ pnds as vs) ++ pnd a v ++ Pn) := by simpa [pnds] using hs
        obtain ⟨F1, s1, r1, m1, t1⟩ := h.share hs1 q1
        obtain ⟨F2, s2, r2, m2, t2⟩ := ARs.share s1 (t.more m1) q2
        exact ⟨F2, s2, .cons (r1.more m2) r2, fun c z => m2 c (m1 c z), fun H0 F0 ρ0 st hn => t2 H0 F0 ρ0 (t1 H0 F0 ρ0 st fun c x z => hn c x (by simp [pnds, z])) fun c x z => hn c x (by simp [pnds, z])⟩
end
end Py

namespace Py
open PySem PySem.Spec PyProof.Rows L2
variable [HW]

/-- the result of a rule: as it stood, or one new object -/
inductive Nw (K : PySem.W.Frag) (H : Hp) (F : Addr → Prop) : V → Hp → W → Bool → Prop
  | old {v : V} {w : W} : HR K H F v w → Nw K H F v H w false
  | tup {p : Addr} {vs : List V} {ws : List W} : H p = none → vs.length ≤ szL → HRs K H F vs ws → Nw K H F (.ref p) (upd H p (.tup vs)) (.tup ws) false
  | lst {p : Addr} {vs : List V} {ws : List W} : H p = none → vs.length ≤ szL → HRs K H F vs ws → Nw K H F (.ref p) (upd H p (.lst vs)) (.lst ws) true
def Rs (K : PySem.W.Frag) (H : Hp) (F : Addr → Prop) (Q : VK) (r : W × Bool) : Prop := ∀ v H', Nw K H F v H' r.1 r.2 → Q v H'
/-- two read values in, a value out -/
def r2 (K : PySem.W.Frag) (f : W → W → Option (W × Bool)) : R2 := fun x y H Q => ∃ F w u r, PkR K H F x w ∧ PkR K H F y u ∧ f w u = some r ∧ Rs K H F Q r

section
variable {K : PySem.W.Frag} {H : Hp} {F : Addr → Prop} {Q : VK}
theorem Rs.int {i : Int} (h : Rs K H F Q (.int i, false)) : Q (.int i) H := h _ _ (.old (.int i))
theorem Rs.bl {i : Bool} (h : Rs K H F Q (.bl i, false)) : Q (.bl i) H := h _ _ (.old (.bl i))
theorem opImp {X : Cx} {f : Value → Value → Sem Value} {r r' : R2} (h : OpR X f r) (i : ∀ x y H Q, r' x y H Q → r x y H Q) : OpR X f r' :=
  fun pins s σ H x y v u Q I rx ry q => h pins s σ H x y v u Q I rx ry (i _ _ _ _ q)
end

section
variable {X : Cx}
/-- by the two values' forms -/
theorem opBy {f : Value → Value → Sem Value} {g : W → W → Option (W × Bool)}
    (h : ∀ (w u : W) (r : W × Bool) (F : Addr → Prop) (pins : List (Addr × Obj)) (s : Shared) (σ : L2.St) (H : Hp) (x y : V) (v z : Value) (Q : VK), g w u = some r → Inv X pins σ H s → RelV x v → RelV y z → PkR X.K H F x w → PkR X.K H F y u → Rs X.K H F Q r →
      wpAny (model X.prog X.w) X.A (f v z) (EP X pins σ Q) X.xe s) : OpR X f (r2 X.K g) := by
  intro pins s σ H x y v u Q I rx ry ⟨F, w, u', r, a, b, e, q⟩
  exact h w u' r F pins s σ H x y v u Q e I rx ry a b q

theorem log2_bits {i j : Int} (h : bits i + bits j ≤ bitL) : IntMulOk i j := by
  have e : ∀ x : Int, Builtin.Int.intBits x = bits x := fun x => rfl
  have e2 : bitsLine = 134217728 := by decide
  unfold IntMulOk
  intro z
  rw [Bool.and_eq_true] at z
  have z2 := z.2
  unfold Builtin.Int.intTooBig at z2
  have z3 := of_decide_eq_true z2
  rw [e, e, e2] at z3
  unfold bitL at h
  omega

theorem of_if {α : Type} {c : Prop} [Decidable c] {x r : α} (h : (if c then some x else none) = some r) : c ∧ x = r := by
  by_cases k : c
  · rw [if_pos k] at h; exact ⟨k, Option.some.inj h⟩
  · rw [if_neg k] at h; cases h
theorem of_if' {α : Type} {c : Prop} [Decidable c] {x r : α} (h : (if c then none else some x) = some r) : ¬ c ∧ x = r := by
  by_cases k : c
  · rw [if_pos k] at h; cases h
  · rw [if_neg k] at h; exact ⟨k, Option.some.inj h⟩

theorem s8_len (s : Cs) : (S8 s).length = s.length := by simp [S8, Str.length]
theorem s8_app (x y : Cs) : S8 x ++ S8 y = S8 (x ++ y) := by
  show Str.mk (x.toArray ++ y.toArray) = _
  simp [S8]
theorem strOk_s8 (s : Cs) : PyData.strOk (S8 s) = s.all fun c => decide (c < 0x110000) := by
  show s.toArray.all _ = _
  simp

theorem list_at {pins : List (Addr × Obj)} {σ : L2.St} {H : Hp} {s : Shared} {F : Addr → Prop} {ws : List W} {v : V} (I : Inv X pins σ H s) (h : PkR X.K H F v (.lst ws)) :
    ∃ (a : Addr) (vs : List V) (its : List Value) (n : Nat), v = .ref a ∧ vs.length ≤ szL ∧ HRs X.K H F vs ws ∧ Vals vs its ∧ s.heap.get? a = some { cls := .type "list", data := .seq its.toArray n } := by
  obtain ⟨a, vs, rfl, hq, hz, hr⟩ := h.rd
  obtain ⟨_, its, n, rv, e⟩ := hq.ok I.hok
  exact ⟨a, vs, its, n, rfl, hz, hr, rv, e⟩

theorem op_addW : OpR X (binaryOp .Add) (r2 X.K (opW .add)) := by
  refine opBy fun w u r F pins s σ H x y v z Q e I rx ry a b q => ?_
  cases w with
  | int i => cases u with
    | int j =>
      obtain rfl := Option.some.inj e
      obtain rfl := a.int
      obtain rfl := b.int
      exact op_add pins s σ H _ _ v z Q I rx ry ⟨i, j, rfl, rfl, q.int⟩
    | _ => simp [opW] at e
  | str i => cases u with
    | str j =>
      obtain ⟨hz, rfl⟩ := of_if e
      obtain ⟨rfl, z1, k1⟩ := a.str
      obtain ⟨rfl, z2, k2⟩ := b.str
      refine op_add_str pins s σ H _ _ v z Q I rx ry ⟨_, _, rfl, rfl, by rw [s8_len, s8_len]; exact hz, ?_⟩
      rw [s8_app]
      refine q _ _ (.old (.str _ (by rw [List.length_append]; exact hz) ?_))
      rw [strOk_s8] at k1 k2 ⊢
      rw [List.all_append, k1, k2]; rfl
    | _ => simp [opW] at e
  | tup i => cases u with
    | tup j =>
      obtain ⟨hz, rfl⟩ := of_if e
      obtain ⟨p, xs, rfl, sx, zx, hx⟩ := a.tup
      obtain ⟨p', ys, rfl, sy, zy, hy⟩ := b.tup
      have lx := hx.length
      have ly := hy.length
      refine op_catA pins s σ H _ _ v z Q I rx ry ⟨p, p', xs, ys, rfl, rfl, sx, sy, by rw [lx, ly]; exact hz, fun e => ?_, fun e e' => ?_, fun e e' p hp => ?_⟩
      · subst e
        have := hx.length
        obtain rfl : i = [] := List.eq_nil_of_length_eq_zero (by simpa using this.symm)
        exact q _ _ (.old (.tup sy zy (by simpa using hy)))
      · subst e'
        obtain rfl : j = [] := List.eq_nil_of_length_eq_zero (by simpa using hy.length.symm)
        exact q _ _ (.old (.tup sx zx (by simpa using hx)))
      · exact q _ _ (.tup hp (by rw [List.length_append, lx, ly]; exact hz) (hx.append hy))
    | _ => simp [opW] at e
  | lst i => cases u with
    | lst j =>
      obtain ⟨hz, rfl⟩ := of_if e
      obtain ⟨p, xs, its, n, rfl, zx, hx, rv, ho⟩ := list_at I a
      obtain ⟨p', ys, its', n', rfl, zy, hy, rv', ho'⟩ := list_at I b
      cases rx; cases ry
      have lx := hx.length
      have ly := hy.length
      have l1 := rv.length
      have l2 := rv'.length
      refine PySem.P.add_list ho ho' ?_ (by rw [List.size_toArray, List.size_toArray, ← l1, ← l2, lx, ly]; exact hz)
      have ea : its.toArray ++ its'.toArray = (its ++ its').toArray := by simp
      rw [ea]
      exact ⟨.ref _, _, I.lnew (t' := s.toks) (rv.append rv') (by rw [List.length_append, lx, ly]; exact hz), rfl, q _ _ (.lst I.fresh (by rw [List.length_append, lx, ly]; exact hz) (hx.append hy))⟩
    | _ => simp [opW] at e
  | _ => cases u <;> simp [opW] at e
theorem op_subW : OpR X (binaryOp .Sub) (r2 X.K (opW .sub)) := by
  refine opBy fun w u r F pins s σ H x y v z Q e I rx ry a b q => ?_
  cases w with
  | int i => cases u with
    | int j =>
      obtain rfl := Option.some.inj e
      obtain rfl := a.int
      obtain rfl := b.int
      exact op_sub pins s σ H _ _ v z Q I rx ry ⟨i, j, rfl, rfl, q.int⟩
    | _ => simp [opW] at e
  | _ => cases u <;> simp [opW] at e
theorem op_mdW : OpR X (binaryOp .Mod) (r2 X.K (opW .md)) := by
  refine opBy fun w u r F pins s σ H x y v z Q e I rx ry a b q => ?_
  cases w with
  | int i => cases u with
    | int j =>
      obtain ⟨hz, rfl⟩ := of_if' e
      obtain rfl := a.int
      obtain rfl := b.int
      exact op_modN pins s σ H _ _ v z Q I rx ry ⟨i, j, rfl, rfl, hz, q.int⟩
    | _ => simp [opW] at e
  | _ => cases u <;> simp [opW] at e
theorem op_fdW : OpR X (binaryOp .FloorDiv) (r2 X.K (opW .fdv)) := by
  refine opBy fun w u r F pins s σ H x y v z Q e I rx ry a b q => ?_
  cases w with
  | int i => cases u with
    | int j =>
      obtain ⟨⟨hz, hy⟩, rfl⟩ := of_if e
      obtain rfl := a.int
      obtain rfl := b.int
      obtain ⟨t, rfl⟩ := rx
      obtain ⟨t', rfl⟩ := ry
      exact floordiv_int hz ⟨.int _, H, I.tok _, ⟨_, rfl⟩, q.int⟩ (.inl hy)
    | _ => simp [opW] at e
  | _ => cases u <;> simp [opW] at e
theorem rep_rs {K : PySem.W.Frag} {H : Hp} {F : Addr → Prop} {vs : List V} {ws : List W} (h : HRs K H F vs ws) : ∀ n, HRs K H F (List.replicate n vs).flatten (rep ws n)
  | 0 => by unfold rep; simp; exact .nil
  | n + 1 => by
    unfold rep
    simp only [List.replicate_succ, List.flatten_cons]
    exact h.append (rep_rs h n)
theorem op_mulW : OpR X (binaryOp .Mult) (r2 X.K (opW .mul)) := by
  refine opBy fun w u r F pins s σ H x y v z Q e I rx ry a b q => ?_
  cases w with
  | int i => cases u with
    | int j =>
      obtain ⟨hz, rfl⟩ := of_if e
      obtain rfl := a.int
      obtain rfl := b.int
      obtain ⟨t, rfl⟩ := rx
      obtain ⟨t', rfl⟩ := ry
      exact mul_int ⟨.int _, H, I.tok _, ⟨_, rfl⟩, q.int⟩ (log2_bits hz)
    | _ => simp [opW] at e
  | tup i => cases u with
    | int k =>
      obtain ⟨⟨⟨h1, h2⟩, h3, h4⟩, rfl⟩ := of_if e
      obtain ⟨p, xs, rfl, sx, zx, hx⟩ := a.tup
      obtain rfl := b.int
      have lx := hx.length
      have hne : xs ≠ [] := fun e => h4 (List.eq_nil_of_length_eq_zero (by rw [← lx, e]; rfl))
      refine op_repT pins s σ H _ _ v z Q I rx ry ⟨p, k, xs, rfl, rfl, sx, hne, h1, h2, by omega, fun p hp => q _ _ (.tup hp ?_ (rep_rs hx _))⟩
      have := (rep_rs hx k.toNat).length
      rw [PyProof.Rows.lm_len_rep_flat]
      have : k.toNat * xs.length ≤ 1000 * 1000 := Nat.mul_le_mul (by omega) (by omega)
      unfold szL; omega
    | _ => simp [opW] at e
  | lst i => cases u with
    | int k =>
      obtain ⟨⟨hz, h1, h2⟩, rfl⟩ := of_if e
      obtain ⟨p, xs, its, n, rfl, zx, hx, r, ho⟩ := list_at I a
      obtain rfl := b.int
      have lx := hx.length
      have hl := r.length
      cases rx
      obtain ⟨t, rfl⟩ := ry
      have hlen : its.toArray.size * k.toNat ≤ sizeLine := by rw [List.size_toArray, ← hl, lx]; exact hz
      have hcap : ¬ its.toArray.size * k.toNat > (2 ^ 63 - 1) / 8 := by
        have : (sizeLine : Nat) ≤ (2 ^ 63 - 1) / 8 := by decide
        omega
      have hfit : ¬ (!Builtin.List.listFitsIndex k) = true := by
        rw [fitsIndex_both (by omega) (by unfold szL at h2; omega)]
        exact Bool.false_ne_true
      have hlong : ¬ Builtin.List.listTooLong (its.toArray.size * k.toNat) = true := by
        rw [notLongL hlen]
        exact Bool.false_ne_true
      have hnew : List.foldl (fun x1 x2 => x1 ++ x2) #[] (List.replicate (if its.toArray.isEmpty = true then 0 else k.toNat) its.toArray) = (List.replicate k.toNat its).flatten.toArray := by
        rw [L2.size_rep]
        cases its with
        | nil => simp
        | cons a r' => rw [if_neg (by simp)]
      refine wpAny_binaryOp_repeat_ref (T := "list") (U := "int") (by decide) ⟨_, ho, rfl⟩ (fun s' => typeIs_int s' k t) noFill_list_mul PySem.F.fills_int_mul PySem.F.slot_int_rmul repeat_list PySem.F.slot_int_index.lookup
        (call_meets PySem.F.slot_int_rmul (typeIs_int s k t) PySem.F.entry_int_rmul (PySem.F.args_int_rmul_2 _ _) (int___rmul___int_list k t p its.toArray n)
          ⟨ho, rfl, ⟨_, ho, rfl⟩, call_meets PySem.F.slot_list_mul ⟨_, ho, rfl⟩ PySem.F.entry_list_mul (PySem.F.args_list_mul_2 _ _) (AutoListH.list___mul___list_int_3 p its.toArray n k t hfit hcap hlong) ⟨ho, ?_⟩⟩)
      rw [hnew]
      have hz' : (List.replicate k.toNat xs).flatten.length ≤ szL := by rw [PyProof.Rows.lm_len_rep_flat, Nat.mul_comm, lx]; exact hz
      exact ⟨.ref _, _, I.lnew (t' := s.toks) (r.rep k.toNat) hz', rfl, q _ _ (.lst I.fresh hz' (rep_rs hx _))⟩
    | _ => simp [opW] at e
  | _ => cases u <;> simp [opW] at e
end
end Py

namespace Py
open PySem PySem.Spec PyProof.Rows L2
variable [HW]
section
variable {X : Cx} {pins : List (Addr × Obj)} {s : Shared} {σ : Sg} {H : Hp} {F : Addr → Prop}
mutual
/-- a key's tuples as they stand -/
theorem nested_of (I : Inv X pins σ H s) : ∀ {w : W} {v : V} {k : NestedKey} {u : Value}, HR X.K H F v w → nk w = some k → RelV v u → NestedIs s.heap k u
  | .non, v, k, u, h, e, r => by cases h; cases e; cases r; exact .none
  | .bl b, v, k, u, h, e, r => by cases h; cases e; cases r; exact .bool rfl
  | .int i, v, k, u, h, e, r => by cases h; cases e; obtain ⟨t, rfl⟩ := r; exact .int i t
  | .str z, v, k, u, h, e, r => by cases h; cases e; obtain ⟨t, rfl⟩ := r; exact .text _ t
  | .tup ws, v, k, u, h, e, r => by
    cases h with
    | tup a b c =>
      simp only [nk] at e
      obtain ⟨ks, e1, rfl⟩ := Option.map_eq_some_iff.mp e
      cases r
      obtain ⟨its, rv, ⟨o, e2, e3, n, e4⟩, _⟩ := I.tuple a
      exact .tup e2 e3 e4 (by simpa using nesteds_of I c e1 rv)
  | .lst _, v, k, u, h, e, r => by cases e
  | .dct _, v, k, u, h, e, r => by cases e
  | .st _, v, k, u, h, e, r => by cases e
theorem nesteds_of (I : Inv X pins σ H s) : ∀ {ws : List W} {vs : List V} {ks : List NestedKey} {us : List Value}, HRs X.K H F vs ws → nks ws = some ks → Vals vs us → NestedAll s.heap ks us
  | [], vs, ks, us, h, e, r => by cases h; cases e; cases r; exact .nil
  | w :: ws, vs, ks, us, h, e, r => by
    cases h with
    | cons a b =>
      cases r with
      | cons r1 r2 =>
        simp only [nks] at e
        split at e
        · rename_i k l e1 e2
          cases e
          exact .cons (nested_of I a e1 r1) (nesteds_of I b e2 r2)
        · cases e
end

def zipU (es : DEs) (us : List Value) : List (NestedKey × Addr × Value) := List.zipWith (fun x u => (x.1, x.2.1, u)) es us
theorem zipU_fst : ∀ {es : DEs} {us : List Value}, es.length = us.length → (zipU es us).map (·.1) = es.map (·.1)
  | [], [], _ => rfl
  | x :: es, u :: us, h => by
    have ih := zipU_fst (es := es) (us := us) (by simpa using h)
    simp only [zipU, List.zipWith_cons_cons, List.map_cons] at ih ⊢
    rw [ih]
theorem zipU_is (I : Inv X pins σ H s) {es : DEs} {kvs : List (W × W)} (h : DRel X.K H F es kvs) : ∀ {us : List Value}, ∀ x ∈ zipU es us, NestedIs s.heap x.1 (.ref x.2.1) ∧ x.1.depth ≤ 8 := by
  induction h with
  | nil => intro us x hx; simp [zipU] at hx
  | cons a b c d _ ih =>
    intro us x hx
    cases us with
    | nil => simp [zipU] at hx
    | cons u us =>
      simp only [zipU, List.zipWith_cons_cons] at hx
      rcases List.mem_cons.mp hx with rfl | hx
      · exact ⟨nested_of I c a rfl, b⟩
      · exact ih x hx
theorem dict_of (hw : HW.P = X.prog ∧ HW.w = X.w) (I : Inv X pins σ H s) {a : Addr} {es : DEs} {kvs : List (W × W)} (hH : H a = some (dcO a es)) (hr : DRel X.K H F es kvs) (nd : (es.map (·.1)).Nodup) :
    (a == sysModules) = false ∧ ∃ us, es.length = us.length ∧ Vals (es.map (·.2.2)) us ∧ s.heap.DictOfH (nestedKind X.prog X.w) a (zipU es us) := by
  obtain ⟨⟨h1, o, us, es', ep, h2, h3, h4, h5, h6⟩, _⟩ := I.hok a _ hH
  have hl : es.length = us.length := by have := h5.length; simpa using this
  refine ⟨h1, us, hl, h5, o, es', ep, h2, h3, h4, ?_, fun x hx => zipU_is I hr x hx, by rw [zipU_fst hl]; exact nd⟩
  rw [h6]
  unfold dEnts zipU
  rw [List.map_zipWith, hw.2]
  rfl
end
mutual
/-- keys are equal as the values are -/
theorem eq_nk : ∀ {a b : W} {x y : NestedKey}, nk a = some x → nk b = some y → eqW a b = NestedKey.beq x y
  | .non, b, x, y, h, k => by
    cases h
    cases b with
    | tup l => simp only [nk] at k; obtain ⟨_, _, rfl⟩ := Option.map_eq_some_iff.mp k; rfl
    | non => cases k; rfl
    | bl _ => cases k; rfl
    | int _ => cases k; rfl
    | str _ => cases k; rfl
    | lst _ => cases k
    | dct _ => cases k
    | st _ => cases k
  | .bl a, b, x, y, h, k => by
    cases h
    cases b with
    | tup l => simp only [nk] at k; obtain ⟨_, _, rfl⟩ := Option.map_eq_some_iff.mp k; rfl
    | non => cases k; rfl
    | bl b => cases k; cases a <;> cases b <;> rfl
    | int j => cases k; rfl
    | str _ => cases k; rfl
    | lst _ => cases k
    | dct _ => cases k
    | st _ => cases k
  | .int i, b, x, y, h, k => by
    cases h
    cases b with
    | tup l => simp only [nk] at k; obtain ⟨_, _, rfl⟩ := Option.map_eq_some_iff.mp k; rfl
    | non => cases k; rfl
    | bl b => cases k; rfl
    | int j => cases k; rfl
    | str _ => cases k; rfl
    | lst _ => cases k
    | dct _ => cases k
    | st _ => cases k
  | .str s, b, x, y, h, k => by
    cases h
    cases b with
    | tup l => simp only [nk] at k; obtain ⟨_, _, rfl⟩ := Option.map_eq_some_iff.mp k; rfl
    | non => cases k; rfl
    | bl b => cases k; rfl
    | int j => cases k; rfl
    | str t =>
      cases k
      show (s == t) = decide (S8 s = S8 t)
      rw [← s8_beq]
      by_cases q : S8 s = S8 t
      · rw [decide_eq_true q, q]; simp
      · rw [decide_eq_false q]; simpa using q
    | lst _ => cases k
    | dct _ => cases k
    | st _ => cases k
  | .tup ws, b, x, y, h, k => by
    simp only [nk] at h
    obtain ⟨ks, e1, rfl⟩ := Option.map_eq_some_iff.mp h
    cases b <;> simp only [nk] at k <;> first | (cases k; done) | skip
    case non => cases k; rfl
    case bl => cases k; rfl
    case int => cases k; rfl
    case str => cases k; rfl
    obtain ⟨ls, e2, rfl⟩ := Option.map_eq_some_iff.mp k
    simp only [eqW, NestedKey.beq]
    exact eqs_nk e1 e2
  | .lst _, b, x, y, h, k => by cases h
  | .dct _, b, x, y, h, k => by cases h
  | .st _, b, x, y, h, k => by cases h
theorem eqs_nk : ∀ {a b : List W} {x y : List NestedKey}, nks a = some x → nks b = some y → eqWs a b = NestedKey.beqAll x y
  | [], b, x, y, h, k => by
    cases h
    cases b with
    | nil => cases k; rfl
    | cons w r =>
      simp only [nks] at k
      split at k
      · cases k; rfl
      · cases k
  | w :: r, b, x, y, h, k => by
    simp only [nks] at h
    split at h
    · rename_i k1 l1 e1 e2
      cases h
      cases b with
      | nil => cases k; rfl
      | cons w' r' =>
        simp only [nks] at k
        split at k
        · rename_i k2 l2 e3 e4
          cases k
          simp only [eqWs, NestedKey.beqAll, eq_nk e1 e3, eqs_nk e2 e4]
        · cases k
    · cases h
end
theorem at_dct {K : PySem.W.Frag} {H : Hp} {F : Addr → Prop} {kw : W} {k : NestedKey} (hk : nk kw = some k) {es : DEs} {kvs : List (W × W)} (hr : DRel K H F es kvs) : ∀ {us : List Value}, Vals (es.map (·.2.2)) us →
    (∀ w, lkW kw kvs = some w → ∃ b v u, atKey (zipU es us) k = some (b, u) ∧ RelV v u ∧ HR K H F v w) ∧ (lkW kw kvs = none → atKey (zipU es us) k = none) := by
  induction hr with
  | nil =>
    intro us hv
    refine ⟨fun w h => ?_, fun _ => ?_⟩
    · cases h
    · simp [zipU, atKey]
  | @cons k' b v ws w es kvs a c d e _ ih =>
    intro us hv
    cases us with
    | nil => cases hv
    | cons u us =>
      cases hv with
      | cons r1 r2 =>
        obtain ⟨i1, i2⟩ := ih r2
        have eq : eqW (.tup ws) kw = decide (k' = k) := by rw [eq_nk a hk, NestedKey.decide_eq]
        by_cases q : k' = k
        · rw [decide_eq_true q] at eq
          refine ⟨fun w' h => ?_, fun h => ?_⟩
          · simp only [lkW, eq, if_true] at h
            cases h
            exact ⟨b, v, u, by simp [zipU, atKey, q], r1, e⟩
          · simp only [lkW, eq, if_true] at h; cases h
        · rw [decide_eq_false q] at eq
          simp only [lkW, eq, Bool.false_eq_true, if_false]
          have z : atKey (zipU ((k', b, v) :: es) (u :: us)) k = atKey (zipU es us) k := by simp [zipU, atKey, List.find?_cons, q]
          rw [z]
          exact ⟨i1, i2⟩

mutual
theorem nk_of : ∀ {w : W}, hsb w = true → ∃ k, nk w = some k ∧ k.depth ≤ dep w
  | .non, _ => ⟨_, rfl, Nat.le_refl _⟩
  | .bl _, _ => ⟨_, rfl, Nat.le_refl _⟩
  | .int _, _ => ⟨_, rfl, Nat.le_refl _⟩
  | .str _, _ => ⟨_, rfl, Nat.le_refl _⟩
  | .tup ws, h => by
    obtain ⟨ks, e, d⟩ := nks_of (ws := ws) (by simpa [hsb] using h)
    exact ⟨.tup ks, by simp [nk, e], by simp only [NestedKey.depth, dep]; omega⟩
  | .lst _, h => by simp [hsb] at h
  | .dct _, h => by simp [hsb] at h
  | .st _, h => by simp [hsb] at h
theorem nks_of : ∀ {ws : List W}, hsbs ws = true → ∃ ks, nks ws = some ks ∧ NestedKey.depthAll ks ≤ deps ws
  | [], _ => ⟨[], rfl, Nat.le_refl _⟩
  | w :: ws, h => by
    simp only [hsbs, Bool.and_eq_true] at h
    obtain ⟨k, e, d⟩ := nk_of h.1
    obtain ⟨ks, e', d'⟩ := nks_of h.2
    exact ⟨k :: ks, by simp [nks, e, e'], by simp only [NestedKey.depthAll, deps]; omega⟩
end
theorem hkW_of {w : W} (h : hkW w = true) : ∃ ws k, w = .tup ws ∧ nk (.tup ws) = some k ∧ k.depth ≤ 8 := by
  unfold hkW at h
  rw [Bool.and_eq_true, Bool.and_eq_true] at h
  obtain ⟨h1, h2, h3⟩ := h
  cases w <;> first | (cases h1; done) | skip
  rename_i ws
  obtain ⟨k, e, d⟩ := nk_of h2
  exact ⟨ws, k, rfl, e, Nat.le_trans d (of_decide_eq_true h3)⟩

section
variable {X : Cx} {pins : List (Addr × Obj)} {s : Shared} {σ : Sg} {H : Hp} {F : Addr → Prop}
/-- a key as it stands -/
theorem key_at (I : Inv X pins σ H s) {y : V} {kw : W} {u : Value} (h : PkR X.K H F y kw) (hk : hkW kw = true) (r : RelV y u) :
    ∃ ws k b, kw = .tup ws ∧ nk (.tup ws) = some k ∧ k.depth ≤ 8 ∧ y = .ref b ∧ u = .ref b ∧ (nestedKind X.prog X.w).is s.heap k b ∧ HR X.K H F (.ref b) (.tup ws) := by
  obtain ⟨ws, k, rfl, e, d⟩ := hkW_of hk
  rcases h with h | ⟨c, _, h⟩
  · obtain ⟨b, _, rfl, _⟩ := h.tupI
    cases r
    exact ⟨ws, k, b, rfl, e, d, rfl, rfl, ⟨nested_of I h e rfl, d⟩, h⟩
  · exact h.elim
theorem room_d (hu : X.A.units + 200 < cLine) : (nestedKind X.prog X.w).room X.A.in1 := by
  show X.A.in1.units + 8 < cLine
  rw [Around.in1_units]
  omega
theorem in_dct {Q : VK} (hw : HW.P = X.prog ∧ HW.w = X.w) (hu : X.A.units + 200 < cLine) (I : Inv X pins σ H s) {x y : V} {v z : Value} {w : W} {kvs : List (W × W)} (a : PkR X.K H F x w) (b : PkR X.K H F y (.dct kvs)) (hk : hkW w = true) (rx : RelV x v) (ry : RelV y z)
    (q : Q (.bl (lkW w kvs).isSome) H) : wpAny (model X.prog X.w) X.A (compareOp .In v z) (EP X pins σ Q) X.xe s := by
  obtain ⟨ws, k, c, rfl, e, d, rfl, rfl, is, _⟩ := key_at I a hk rx
  obtain ⟨p, es, rfl, hH, hz, nd, hr⟩ := b.dct
  cases ry
  obtain ⟨hs, us, hl, hv, dd⟩ := dict_of hw I hH hr nd
  obtain ⟨g1, g2⟩ := at_dct e hr hv
  refine wpAny_in_heap (room_d hu) is hs dd ⟨.bl _, _, I.tok _, rfl, ?_⟩
  cases h : lkW (.tup ws) kvs with
  | some w' =>
    obtain ⟨b', v', u', e2, _⟩ := g1 _ h
    rw [e2]; rw [h] at q; exact q
  | none =>
    rw [g2 h]; rw [h] at q; exact q
theorem nin_dct {Q : VK} (hw : HW.P = X.prog ∧ HW.w = X.w) (hu : X.A.units + 200 < cLine) (I : Inv X pins σ H s) {x y : V} {v z : Value} {w : W} {kvs : List (W × W)} (a : PkR X.K H F x w) (b : PkR X.K H F y (.dct kvs)) (hk : hkW w = true) (rx : RelV x v) (ry : RelV y z)
    (q : Q (.bl (!(lkW w kvs).isSome)) H) : wpAny (model X.prog X.w) X.A (compareOp .NotIn v z) (EP X pins σ Q) X.xe s := by
  obtain ⟨ws, k, c, rfl, e, d, rfl, rfl, is, _⟩ := key_at I a hk rx
  obtain ⟨p, es, rfl, hH, hz, nd, hr⟩ := b.dct
  cases ry
  obtain ⟨hs, us, hl, hv, dd⟩ := dict_of hw I hH hr nd
  obtain ⟨g1, g2⟩ := at_dct e hr hv
  refine wpAny_bind (wpAny_contains_heap (room_d hu) is hs dd (wpAny_pure ⟨.bl _, _, I.tok _, rfl, ?_⟩))
  cases h : lkW (.tup ws) kvs with
  | some w' =>
    obtain ⟨b', v', u', e2, _⟩ := g1 _ h
    rw [e2]; rw [h] at q; exact q
  | none =>
    rw [g2 h]; rw [h] at q; exact q
theorem ix_dct {Q : VK} {value slice : Expr} (hw : HW.P = X.prog ∧ HW.w = X.w) (hu : X.A.units + 200 < cLine) (I : Inv X pins σ H s) {x y : V} {v z : Value} {w r : W} {kvs : List (W × W)} (a : PkR X.K H F y w) (b : PkR X.K H F x (.dct kvs)) (hk : hkW w = true) (rx : RelV x v) (ry : RelV y z)
    (h : lkW w kvs = some r) (q : ∀ r', HR X.K H F r' r → Q r' H) (hs : subscripted slice false v z = operate [v, z] (getItem v z)) : wpAny (model X.prog X.w) X.A (subscriptTail value slice v z) (EP X pins σ Q) X.xe s := by
  obtain ⟨ws, k, c, rfl, e, d, rfl, rfl, is, _⟩ := key_at I a hk ry
  obtain ⟨p, es, rfl, hH, hz, nd, hr⟩ := b.dct
  cases rx
  obtain ⟨hs', us, hl, hv, dd⟩ := dict_of hw I hH hr nd
  obtain ⟨b', v', u', e2, e3, e4⟩ := (at_dct e hr hv).1 _ h
  refine subscriptTail_builtinR (x := u') dd.typeIs slot_dict_getitem.lookup (wpAny_getItem_heap (room_d hu) is dd e2 ⟨rfl, v', _, I.tok _, e3, q _ e4⟩) hs
end

/-! ### d[k] = v -/
def putX : List (NestedKey × Addr × Value) → NestedKey → Addr → Value → List (NestedKey × Addr × Value)
  | [], k, a, v => [(k, a, v)]
  | x :: r, k, a, v => if x.1 = k then (x.1, x.2.1, v) :: r else x :: putX r k a v
theorem put_not {k : NestedKey} {v : Value} : ∀ {xs : List (NestedKey × Addr × Value)}, k ∉ xs.map (·.1) → xs.map (putAt k v) = xs
  | [], _ => rfl
  | x :: r, h => by
    simp only [List.map_cons, List.mem_cons, not_or] at h
    rw [List.map_cons, put_not h.2]
    unfold putAt
    rw [if_neg (Ne.symm h.1)]
theorem storedH_putX {k : NestedKey} {a : Addr} {v : Value} : ∀ {xs : List (NestedKey × Addr × Value)}, (xs.map (·.1)).Nodup → storedH xs k a v = putX xs k a v
  | [], _ => rfl
  | x :: r, h => by
    rw [List.map_cons, List.nodup_cons] at h
    have ih := storedH_putX (k := k) (a := a) (v := v) h.2
    by_cases e : x.1 = k
    · have e1 : (atKey (x :: r) k).isSome = true := by simp [atKey, e]
      unfold storedH
      rw [if_pos e1, List.map_cons, put_not (e ▸ h.1)]
      simp [putAt, putX, e]
    · have e1 : atKey (x :: r) k = atKey r k := by simp [atKey, List.find?_cons, e]
      have e2 : putX (x :: r) k a v = x :: putX r k a v := by simp [putX, e]
      rw [e2, ← ih]
      unfold storedH
      rw [e1]
      split
      · rw [List.map_cons]; simp [putAt, e]
      · rfl
theorem put_dct {K : PySem.W.Frag} {H : Hp} {F : Addr → Prop} {ws : List W} {k : NestedKey} {b : Addr} {v : V} {u : Value} {w : W} (hk : nk (.tup ws) = some k) (hd : k.depth ≤ 8) (hb : HR K H F (.ref b) (.tup ws)) (hv : HR K H F v w) (rv : RelV v u) {es : DEs} {kvs : List (W × W)} (hr : DRel K H F es kvs) :
    ∀ {us : List Value}, Vals (es.map (·.2.2)) us → ∃ es' us', putX (zipU es us) k b u = zipU es' us' ∧ Vals (es'.map (·.2.2)) us' ∧ DRel K H F es' (ptW (.tup ws) w kvs) ∧ es'.length ≤ es.length + 1 := by
  induction hr with
  | nil =>
    intro us h
    cases h
    exact ⟨[(k, b, v)], [u], rfl, .cons rv .nil, .cons hk hd hb hv .nil, Nat.le_refl _⟩
  | @cons k' b' v' ws' w' es kvs a c d e f ih =>
    intro us h
    cases us with
    | nil => cases h
    | cons u0 us =>
      cases h with
      | cons r1 r2 =>
        have eq : eqW (.tup ws') (.tup ws) = decide (k' = k) := by rw [eq_nk a hk, NestedKey.decide_eq]
        by_cases q : k' = k
        · rw [decide_eq_true q] at eq
          refine ⟨(k', b', v) :: es, u :: us, ?_, .cons rv r2, ?_, by simp⟩
          · simp [zipU, putX, q]
          · simp only [ptW, eq, if_true]
            exact .cons a c d hv f
        · rw [decide_eq_false q] at eq
          obtain ⟨es', us', i1, i2, i3, i4⟩ := ih r2
          refine ⟨(k', b', v') :: es', u0 :: us', ?_, .cons r1 i2, ?_, by simp; omega⟩
          · have : zipU ((k', b', v') :: es) (u0 :: us) = (k', b', u0) :: zipU es us := rfl
            rw [this]
            simp only [putX, q, if_false, i1]
            rfl
          · simp only [ptW, eq, Bool.false_eq_true, if_false]
            exact .cons a c d e i3
theorem dcO_ok {P : Program} {w : World} {H' : Hp} {h' : Heap} {a : Addr} {es : DEs} (hs : (a == sysModules) = false) {o : Obj} {us : List Value} {es' : Array DictEntry} {ep : Nat} (h1 : h'.get? a = some o) (h2 : o.ExactDict) (h3 : o.data = .dict es' ep) (h4 : Vals (es.map (·.2.2)) us) (h5 : es'.toList = dEnts es us) :
    ObjOk P w H' h' a (dcO a es) :=
  ⟨⟨hs, o, us, es', ep, h1, h2, h3, h4, h5⟩, ⟨o, h1⟩, fun g1 g2 ⟨q, o, us, es', ep, h1, h2, h3, h4, h5⟩ k => ⟨q, o, us, es', ep, k o h1, h2, h3, h4, h5⟩⟩
section
variable {X : Cx}
def rSetD (K : PySem.W.Frag) : V → V → V → Hp → (Hp → Prop) → Prop := fun o i v H Q => ∃ F a es kvs kw w, o = .ref a ∧ H a = some (dcO a es) ∧ es.length < szL ∧ (es.map (·.1)).Nodup ∧ DRel K H F es kvs ∧ HR K H F i kw ∧ hkW kw = true ∧ HR K H F v w ∧
  ∀ es', es'.length ≤ szL → (es'.map (·.1)).Nodup → DRel K H F es' (ptW kw w kvs) → Q (upd H a (dcO a es'))
theorem set_dct (hw : HW.P = X.prog ∧ HW.w = X.w) (hu : X.A.units + 200 < cLine) : PSet X (rSetD X.K) := by
  intro pins s σ H o i v ov iv u Q I ro ri rv ⟨F, a, es, kvs, kw, w, e0, hH, hz, nd, hr, hi, hk, hv, q⟩
  subst e0
  cases ro
  obtain ⟨ws, k, b, rfl, e, d, rfl, rfl, is, hb⟩ := key_at I (.inl hi) hk ri
  obtain ⟨hs, us, hl, hvs, dd⟩ := dict_of hw I hH hr nd
  have zl : (zipU es us).length ≤ sizeLine := by
    rw [← szL_eq]
    simp only [zipU, List.length_zipWith]
    omega
  refine wpAny_setItem_heap (hsz := zl) (room_d hu) is dd fun h' dd' hs' => ?_
  have en : ((zipU es us).map (·.1)).Nodup := by rw [zipU_fst hl]; exact nd
  rw [storedH_putX en] at dd'
  obtain ⟨es', us', i1, i2, i3, i4⟩ := put_dct e d hb hv rv hr hvs
  rw [i1] at dd'
  obtain ⟨ob, en', ep, h1, h2, h3, h4, _, h5⟩ := dd'
  have hl' : es'.length = us'.length := by have := i2.length; simpa using this
  rw [zipU_fst hl'] at h5
  refine ⟨_, d_write (ob := dcO a es') I (by rw [hH]; exact True.intro) hs' ⟨_, h1⟩ (dcO_ok hs h1 h2 h3 i2 ?_), q es' (by omega) h5 i3⟩
  rw [h4]
  unfold dEnts zipU
  rw [List.map_zipWith, hw.2]
  rfl
def rSetLD (K : PySem.W.Frag) : V → V → V → Hp → (Hp → Prop) → Prop := fun o i v H Q => rSetL o i v H Q ∨ rSetD K o i v H Q
theorem set_ld (hw : HW.P = X.prog ∧ HW.w = X.w) (hu : X.A.units + 200 < cLine) : PSet X (rSetLD X.K) := fun pins s σ H o i v ov iv u Q I ro ri rv h => h.elim (set_list pins s σ H o i v ov iv u Q I ro ri rv) (set_dct hw hu pins s σ H o i v ov iv u Q I ro ri rv)

/-- {} -/
def tDNw : TE := fun _ H Q => ∀ p, H p = none → Q (.ref p) (upd H p (dcO p []))
theorem pe_dnw {pos : Pos} : PE X (.Dict [] [] pos) tDNw := ⟨fun pins s σ H Q I h =>
  wpAny_Dict_empty ⟨.ref s.heap.objs.size, _, I.laid (a := s.heap.objs.size) (o := dcO s.heap.objs.size []) (t' := s.toks) (fun _ _ q => Heap.get?_push_of_some _ q) (Nat.le_refl _)
    (dcO_ok (us := []) (es' := #[]) (ep := 0) (beq_eq_false_iff_ne.mpr (Ne.symm (Nat.ne_of_lt I.big))) (Heap.get?_push_size _ rfl) ⟨rfl, rfl, rfl⟩ rfl .nil rfl), rfl, h _ (I.hok.fresh (Nat.le_refl _))⟩⟩
end
end Py

namespace Py
open PySem PySem.Spec PyProof.Rows L2
variable [HW]
section
variable {X : Cx}
theorem bW_some {f : W → W → Option Bool} {w u : W} {r : W × Bool} (h : bW f w u = some r) : ∃ b, f w u = some b ∧ r = (.bl b, false) := by
  unfold bW at h
  cases e : f w u with
  | none => rw [e] at h; cases h
  | some b => rw [e] at h; exact ⟨b, rfl, (Option.some.inj h).symm⟩
theorem eqOk_dep {w u : W} (h : eqOk w u = true) : min (dep w) (dep u) ≤ 64 ∧ dep w < 1000 ∧ dep u < 1000 := of_decide_eq_true h
theorem op_eqW (hu : X.A.units + 200 < cLine) : OpR X (compareOp .Eq) (r2 X.K (bW (cmpW .eq))) := by
  refine opBy fun w u r F pins s σ H x y v z Q e I rx ry a b q => ?_
  obtain ⟨k, ek, rfl⟩ := bW_some e
  replace e := ek
  have e : (if eqOk w u then some (eqW w u) else none) = some k := by cases w <;> cases u <;> exact e
  obtain ⟨hk, rfl⟩ := of_if e
  obtain ⟨h1, h2, h3⟩ := eqOk_dep hk
  obtain ⟨as, r1⟩ := Dp.reads I _ x v (a.dp (by omega)) rx
  obtain ⟨bs, r2⟩ := Dp.reads I _ y z (b.dp (by omega)) ry
  refine SeqAt.compareEq_reads r1 r2 a.lay b.lay ?_ ⟨.bl _, H, I, rfl, ?_⟩
  · have := dep_pd w; have := dep_pd u; omega
  · rw [eqv_pd (v := .non) (v' := .non) w u h2 h3]; exact q.bl
theorem op_neW (hu : X.A.units + 200 < cLine) : OpR X (compareOp .NotEq) (r2 X.K (bW (cmpW .ne))) := by
  refine opBy fun w u r F pins s σ H x y v z Q e I rx ry a b q => ?_
  obtain ⟨k, ek, rfl⟩ := bW_some e
  replace e := ek
  have e : (if eqOk w u then some (!eqW w u) else none) = some k := by cases w <;> cases u <;> exact e
  obtain ⟨hk, rfl⟩ := of_if e
  obtain ⟨h1, h2, h3⟩ := eqOk_dep hk
  obtain ⟨as, r1⟩ := Dp.reads I _ x v (a.dp (by omega)) rx
  obtain ⟨bs, r2⟩ := Dp.reads I _ y z (b.dp (by omega)) ry
  refine SeqAt.compareNe_reads r1 r2 a.lay b.lay ?_ ⟨.bl _, H, I, rfl, ?_⟩
  · have := dep_pd w; have := dep_pd u; omega
  · rw [eqv_pd (v := .non) (v' := .non) w u h2 h3]; exact q.bl
/-- a comparison of two ints -/
theorem opII {f : Value → Value → Sem Value} {o : COp} {p : Int → Int → Bool} (h : OpR X f (rI0 fun i j => .bl (p i j))) (hc : ∀ w u b, cmpW o w u = some b → ∃ i j, w = .int i ∧ u = .int j ∧ b = p i j) : OpR X f (r2 X.K (bW (cmpW o))) := by
  refine opImp h fun x y H Q ⟨F, w, u, r, a, b, e, q⟩ => ?_
  obtain ⟨k, ek, rfl⟩ := bW_some e
  replace e := ek
  obtain ⟨i, j, rfl, rfl, rfl⟩ := hc w u k e
  exact ⟨i, j, a.int, b.int, q.bl⟩
theorem op_ltW : OpR X (compareOp .Lt) (r2 X.K (bW (cmpW .lt))) := opII op_lt fun w u b e => by
  cases w <;> cases u <;> first | (cases e; done) | exact ⟨_, _, rfl, rfl, (Option.some.inj e).symm⟩
theorem op_leW : OpR X (compareOp .LtE) (r2 X.K (bW (cmpW .le))) := opII op_le fun w u b e => by
  cases w <;> cases u <;> first | (cases e; done) | exact ⟨_, _, rfl, rfl, (Option.some.inj e).symm⟩
theorem op_gtW : OpR X (compareOp .Gt) (r2 X.K (bW (cmpW .gt))) := opII op_gt fun w u b e => by
  cases w <;> cases u <;> first | (cases e; done) | exact ⟨_, _, rfl, rfl, (Option.some.inj e).symm⟩
theorem op_geW : OpR X (compareOp .GtE) (r2 X.K (bW (cmpW .ge))) := opII op_ge fun w u b e => by
  cases w <;> cases u <;> first | (cases e; done) | exact ⟨_, _, rfl, rfl, (Option.some.inj e).symm⟩
theorem nonI {K : PySem.W.Frag} {H : Hp} {F : Addr → Prop} {v : V} {w : W} (h : PkR K H F v w) : decide (v = .non) = isN w := by
  rcases h with h | ⟨c, rfl, h⟩
  · cases h <;> rfl
  · cases w <;> first | exact h.elim | rfl
theorem op_isW : OpR X (compareOp .Is) (r2 X.K (bW (cmpW .is))) := by
  refine opImp op_isN fun x y H Q ⟨F, w, u, r, a, b, e, q⟩ => ?_
  obtain ⟨k, ek, rfl⟩ := bW_some e
  replace e := ek
  cases u <;> first | (cases w <;> cases e; done) | skip
  refine ⟨b.non, ?_⟩
  rw [nonI a]
  have : k = isN w := by cases w <;> exact (Option.some.inj e).symm
  rw [← this]; exact q.bl
theorem op_isntW : OpR X (compareOp .IsNot) (r2 X.K (bW (cmpW .isnt))) := by
  refine opImp op_notN fun x y H Q ⟨F, w, u, r, a, b, e, q⟩ => ?_
  obtain ⟨k, ek, rfl⟩ := bW_some e
  replace e := ek
  cases u <;> first | (cases w <;> cases e; done) | skip
  refine ⟨b.non, ?_⟩
  rw [nonI a]
  have : k = !isN w := by cases w <;> exact (Option.some.inj e).symm
  rw [← this]; exact q.bl
theorem flat_of {K : PySem.W.Frag} {H : Hp} {F : Addr → Prop} {v : V} {w : W} (h : PkR K H F v w) (d : dep w = 0) : flatV v = true ∧ HR K H F v w := by
  rcases h with h | ⟨c, rfl, h⟩
  · cases h <;> first | exact ⟨rfl, by constructor <;> assumption⟩ | (simp [dep] at d)
  · cases w <;> first | exact h.elim | (simp [dep] at d)
theorem eqV_eqW {K : PySem.W.Frag} {H : Hp} {F : Addr → Prop} {v v' : V} {w w' : W} (h : HR K H F v w) (h' : HR K H F v' w') (d : dep w = 0) (d' : dep w' = 0) : eqV v v' = eqW w w' := by
  cases h <;> cases h' <;> first
    | (simp [dep] at d; done)
    | (simp [dep] at d'; done)
    | (simp [eqV, eqW]; done)
    | (simp only [eqV, eqW]; exact s8_beq _ _)
theorem in_flat {K : PySem.W.Frag} {H : Hp} {F : Addr → Prop} {x : V} {w : W} (h : HR K H F x w) (d : dep w = 0) {vs : List V} {ws : List W} (hs : HRs K H F vs ws) (ds : deps ws = 0) :
    vs.all flatV = true ∧ inV x vs = memW w ws := by
  unfold inV memW
  induction ws generalizing vs with
  | nil => cases hs; exact ⟨rfl, rfl⟩
  | cons u ws ih =>
    cases hs with
    | cons a b =>
      simp only [deps] at ds
      obtain ⟨i1, i2⟩ := ih b (by omega)
      have fu := flat_of (.inl a) (show dep u = 0 by omega)
      refine ⟨by simp [fu.1, i1], ?_⟩
      simp only [List.any_cons]
      rw [eqV_eqW a h (by omega) d, i2]
theorem mem_pd (x : W) (xs : List W) (h : dep x < 1000) (h' : deps xs < 1000) : ((pds xs).any fun z => PyData.eqv z (pd x)) = memW x xs := by
  unfold memW
  induction xs with
  | nil => simp [pds]
  | cons y ys ih =>
    simp only [deps] at h'
    simp only [pds, List.any_cons]
    rw [ih (by omega), eqv_pd (v := .non) (v' := .non) y x (by omega) h]
theorem shaped_of {K : PySem.W.Frag} {H : Hp} {F : Addr → Prop} {v : V} {w : W} (h : PkR K H F v w) (d : dep w ≤ 64) : SeqAt.shaped (pd w) = true := by
  unfold SeqAt.shaped
  rw [h.lay, Bool.true_and]
  exact decide_eq_true (Nat.le_trans (dep_pd w) d)
theorem op_inW (hw : HW.P = X.prog ∧ HW.w = X.w) (hu : X.A.units + 200 < cLine) : OpR X (compareOp .In) (r2 X.K (bW (cmpW .inn))) := by
  refine opBy fun w u r F pins s σ H x y v z Q e I rx ry a b q => ?_
  obtain ⟨k, ek, rfl⟩ := bW_some e
  replace e := ek
  cases u with
  | tup ys =>
    have e : (if dep w = 0 ∧ deps ys = 0 then some (memW w ys) else none) = some k := by cases w <;> exact e
    obtain ⟨⟨d1, d2⟩, rfl⟩ := of_if e
    obtain ⟨p, vs, rfl, hs, hz, hr⟩ := b.tup
    obtain ⟨f1, f2⟩ := flat_of a d1
    obtain ⟨g1, g2⟩ := in_flat f2 d1 hr d2
    refine op_in_seq pins s σ H _ _ v z Q I rx ry ⟨p, vs, rfl, .inr hs, f1, g1, ?_⟩
    show Q (.bl (inV x vs)) H
    rw [g2]; exact q.bl
  | lst ys =>
    have e : (if dep w ≤ 60 ∧ deps ys ≤ 60 then some (memW w ys) else none) = some k := by cases w <;> exact e
    obtain ⟨⟨d1, d2⟩, rfl⟩ := of_if e
    have hb := b.dp (by simp only [dep]; omega)
    simp only [pd] at hb
    have hsh := shaped_of b (by simp only [dep]; omega)
    simp only [pd] at hsh
    refine op_inD (by omega) pins s σ H _ _ v z Q I rx ry ⟨pd w, pds ys, a.dp (by omega), hb, shaped_of a (by omega), hsh, ?_⟩
    rw [mem_pd w ys (by omega) (by omega)]; exact q.bl
  | dct kvs =>
    have e : (if hkW w = true then some (lkW w kvs).isSome else none) = some k := by cases w <;> exact e
    obtain ⟨d1, rfl⟩ := of_if e
    exact in_dct hw hu I a b d1 rx ry q.bl
  | _ => cases w <;> cases e
theorem op_ninW (hw : HW.P = X.prog ∧ HW.w = X.w) (hu : X.A.units + 200 < cLine) : OpR X (compareOp .NotIn) (r2 X.K (bW (cmpW .nin))) := by
  refine opBy fun w u r F pins s σ H x y v z Q e I rx ry a b q => ?_
  obtain ⟨k, ek, rfl⟩ := bW_some e
  replace e := ek
  cases u with
  | tup ys =>
    have e : (if dep w = 0 ∧ deps ys = 0 then some (!memW w ys) else none) = some k := by cases w <;> exact e
    obtain ⟨⟨d1, d2⟩, rfl⟩ := of_if e
    obtain ⟨p, vs, rfl, hs, hz, hr⟩ := b.tup
    obtain ⟨f1, f2⟩ := flat_of a d1
    obtain ⟨g1, g2⟩ := in_flat f2 d1 hr d2
    refine op_notIn_seq pins s σ H _ _ v z Q I rx ry ⟨p, vs, rfl, .inr hs, f1, g1, ?_⟩
    show Q (.bl (!inV x vs)) H
    rw [g2]; exact q.bl
  | lst ys =>
    have e : (if dep w ≤ 60 ∧ deps ys ≤ 60 then some (!memW w ys) else none) = some k := by cases w <;> exact e
    obtain ⟨⟨d1, d2⟩, rfl⟩ := of_if e
    have hb := b.dp (by simp only [dep]; omega)
    simp only [pd] at hb
    have hsh := shaped_of b (by simp only [dep]; omega)
    simp only [pd] at hsh
    refine op_notInD (by omega) pins s σ H _ _ v z Q I rx ry ⟨pd w, pds ys, a.dp (by omega), hb, shaped_of a (by omega), hsh, ?_⟩
    rw [mem_pd w ys (by omega) (by omega)]; exact q.bl
  | dct kvs =>
    have e : (if hkW w = true then some (!(lkW w kvs).isSome) else none) = some k := by cases w <;> exact e
    obtain ⟨d1, rfl⟩ := of_if e
    exact nin_dct hw hu I a b d1 rx ry q.bl
  | _ => cases w <;> cases e

def cOp : CmpOp → Option COp
  | .Lt => some .lt | .LtE => some .le | .Gt => some .gt | .GtE => some .ge | .Eq => some .eq | .NotEq => some .ne | .Is => some .is | .IsNot => some .isnt | .In => some .inn | .NotIn => some .nin
theorem op_cmpW (hw : HW.P = X.prog ∧ HW.w = X.w) (hu : X.A.units + 200 < cLine) {o : CmpOp} {p : COp} (h : cOp o = some p) : OpR X (compareOp o) (r2 X.K (bW (cmpW p))) := by
  cases o <;> cases Option.some.inj h
  · exact op_eqW hu
  · exact op_neW hu
  · exact op_ltW
  · exact op_leW
  · exact op_gtW
  · exact op_geW
  · exact op_isW
  · exact op_isntW
  · exact op_inW hw hu
  · exact op_ninW hw hu
def bOp : Operator → Option BOp
  | .Add => some .add | .Sub => some .sub | .Mult => some .mul | .FloorDiv => some .fdv | .Mod => some .md | _ => none
theorem op_binW {o : Operator} {p : BOp} (h : bOp o = some p) : OpR X (binaryOp o) (r2 X.K (opW p)) := by
  cases o <;> first | (cases h; done) | cases Option.some.inj h
  · exact op_addW
  · exact op_subW
  · exact op_mulW
  · exact op_mdW
  · exact op_fdW

/-! ### items, slices -/
theorem at_rel {K : PySem.W.Frag} {H : Hp} {F : Addr → Prop} {vs : List V} {ws : List W} {i : Int} {w : W} (h : HRs K H F vs ws) (e : atI ws i = some w) : ∃ v, atI vs i = some v ∧ HR K H F v w := by
  unfold atI at e ⊢
  rw [h.length]
  cases q : L2.ixN ws.length i with
  | none => rw [q] at e; cases e
  | some j => rw [q] at e; exact h.get e
theorem at_all {p : Nat → Bool} {s : Cs} {i : Int} {c : Nat} (h : s.all p = true) (e : atI s i = some c) : p c = true := by
  unfold atI at e
  cases q : L2.ixN s.length i with
  | none => rw [q] at e; cases e
  | some j => rw [q] at e; exact List.all_eq_true.mp h c (List.mem_of_getElem? e)
theorem ix_W (hw : HW.P = X.prog ∧ HW.w = X.w) (hu : X.A.units + 200 < cLine) : IxR X (r2 X.K ixW) := by
  intro value slice pins s σ H x y v u Q I rx ry ⟨F, w, z, r, a, b, e, q⟩ hs
  by_cases hd : ∃ kvs, w = .dct kvs
  · obtain ⟨kvs, rfl⟩ := hd
    have e : (if hkW z = true then (lkW z kvs).map (fun w => (w, false)) else none) = some r := by cases z <;> exact e
    by_cases hk : hkW z = true
    · rw [if_pos hk] at e
      obtain ⟨w', e', rfl⟩ := Option.map_eq_some_iff.mp e
      exact ix_dct hw hu I b a hk rx ry e' (fun r' h => q _ _ (.old h)) hs
    · rw [if_neg hk] at e; cases e
  refine ix_seq value slice pins s σ H x y v u Q I rx ry ?_ hs
  cases w <;> first | (exact absurd ⟨_, rfl⟩ hd) | (cases e; done) | (cases z <;> first | (cases e; done) | skip)
  · rename_i xs i
    simp only [ixW, Option.map_eq_some_iff] at e
    obtain ⟨c, e, rfl⟩ := e
    obtain ⟨rfl, hz, hk⟩ := a.str
    rw [strOk_s8] at hk
    have hc := at_all hk e
    exact .inr (.inr ⟨_, i, c, rfl, b.int, by rw [s8_len]; exact hz, by simpa using e, q _ _ (.old (.str [c] (by simp [szL]) (by rw [strOk_s8]; simpa using hc)))⟩)
  · rename_i xs i
    simp only [ixW, Option.map_eq_some_iff] at e
    obtain ⟨c, e, rfl⟩ := e
    obtain ⟨p, vs, rfl, hs', hz, hr⟩ := a.tup
    obtain ⟨v', e', r'⟩ := at_rel hr e
    exact .inr (.inl ⟨p, vs, i, v', rfl, b.int, hs', e', q _ _ (.old r')⟩)
  · rename_i xs i
    simp only [ixW, Option.map_eq_some_iff] at e
    obtain ⟨c, e, rfl⟩ := e
    obtain ⟨p, vs, rfl, hs', hz, hr⟩ := a.lst
    obtain ⟨v', e', r'⟩ := at_rel hr e
    exact .inl ⟨p, vs, i, v', rfl, b.int, hs', e', q _ _ (.old r')⟩
theorem cut_len {α : Type} (xs : List α) (lo hi : Option Int) : (cut xs lo hi).length ≤ xs.length := by
  unfold cut
  rw [List.length_take, List.length_drop]
  omega
theorem HRs.cut {K : PySem.W.Frag} {H : Hp} {F : Addr → Prop} {vs : List V} {ws : List W} (h : HRs K H F vs ws) (lo hi : Option Int) : HRs K H F (cutV vs lo hi) (cut ws lo hi) := by
  unfold Py.cut cutV
  rw [h.length]
  exact (h.drop _).take _
/-- a slice of a value by its bounds -/
def rSl (K : PySem.W.Frag) : V → Option Int → Option Int → Hp → VK → Prop := fun x lo hi H Q => ∃ F w r, PkR K H F x w ∧ slc1 lo hi w = some r ∧ Rs K H F Q r
theorem sl_W : SlR X (rSl X.K) := by
  intro pins s σ H x v vl vu lo hi sl Q I rx hs pl pu ⟨F, w, r, a, e, q⟩
  cases w <;> first | (cases e; done) | cases Option.some.inj e
  · rename_i xs
    obtain ⟨rfl, hz, hk⟩ := a.str
    refine sl_str pins s σ H _ v vl vu lo hi sl Q I rx hs pl pu ⟨_, rfl, by rw [s8_len]; exact hz, ?_⟩
    have ec : cutS (S8 xs) lo hi = S8 (cut xs lo hi) := by
      unfold cutS cut
      rw [s8_len]
    rw [ec]
    refine q _ _ (.old (.str _ (Nat.le_trans (cut_len _ _ _) hz) ?_))
    rw [strOk_s8] at hk ⊢
    refine List.all_eq_true.mpr fun c hc => List.all_eq_true.mp hk c ?_
    exact List.mem_of_mem_drop (List.mem_of_mem_take hc)
  · rename_i xs
    obtain ⟨p, vs, rfl, hs', hz, hr⟩ := a.tup
    have hl := hr.length
    refine sl_tupA pins s σ H _ v vl vu lo hi sl Q I rx hs pl pu ⟨p, vs, rfl, hs', fun ⟨h1, h2⟩ => ?_, fun _ p' hp => q _ _ (.tup hp ?_ (hr.cut lo hi))⟩
    · refine q _ _ (.old (.tup hs' hz ?_))
      have : cut xs lo hi = xs := by
        unfold cut
        rw [hl] at h1 h2
        rw [h1, h2]; simp
      rw [this]; exact hr
    · exact Nat.le_trans (cutV_length _ _ _) hz
  · rename_i xs
    obtain ⟨p, vs, rfl, hs', hz, hr⟩ := a.lst
    exact sl_list pins s σ H _ v vl vu lo hi sl Q I rx hs pl pu ⟨p, vs, rfl, hs', fun p' hp => q _ _ (.lst hp (Nat.le_trans (cutV_length _ _ _) hz) (hr.cut lo hi))⟩

/-! ### built-in calls -/
def rL (K : PySem.W.Frag) (f : List W → Option (W × Bool)) : List V → Hp → VK → Prop := fun xs H Q => ∃ F ws r, PkRs K H F xs ws ∧ f ws = some r ∧ Rs K H F Q r
theorem callImp {f : Value} {r r' : List V → Hp → VK → Prop} (h : CallR X f r) (i : ∀ xs H Q, r' xs H Q → r xs H Q) : CallR X f r' := fun pins s σ H xs us Q I rs q => h pins s σ H xs us Q I rs (i _ _ _ q)
theorem PkRs.one {K : PySem.W.Frag} {H : Hp} {F : Addr → Prop} {vs : List V} {w : W} (h : PkRs K H F vs [w]) : ∃ v, vs = [v] ∧ PkR K H F v w := by
  cases h with | cons a b => cases b; exact ⟨_, rfl, a⟩
theorem PkRs.two {K : PySem.W.Frag} {H : Hp} {F : Addr → Prop} {vs : List V} {w u : W} (h : PkRs K H F vs [w, u]) : ∃ v v', vs = [v, v'] ∧ PkR K H F v w ∧ PkR K H F v' u := by
  cases h with | cons a b => obtain ⟨v', rfl, q⟩ := b.one; exact ⟨_, _, rfl, a, q⟩
theorem call_lenW : CallR X (.builtin "len") (rL X.K (biW .len)) := by
  refine callImp call_len fun xs H Q ⟨F, ws, r, a, e, q⟩ => ?_
  match ws, e, a with
  | [.lst ys], e, a =>
    obtain ⟨v, rfl, b⟩ := a.one
    cases Option.some.inj e
    obtain ⟨p, vs, rfl, h1, h2, h3⟩ := b.lst
    exact ⟨_, vs.length, rfl, .inl ⟨vs, h1, rfl⟩, by rw [h3.length]; exact q.int⟩
  | [.tup ys], e, a =>
    obtain ⟨v, rfl, b⟩ := a.one
    cases Option.some.inj e
    obtain ⟨p, vs, rfl, h1, h2, h3⟩ := b.tup
    exact ⟨_, vs.length, rfl, .inr ⟨vs, h1, rfl⟩, by rw [h3.length]; exact q.int⟩
  | [.str ys], e, a =>
    obtain ⟨v, rfl, b⟩ := a.one
    cases Option.some.inj e
    obtain ⟨rfl, h1, h2⟩ := b.str
    exact ⟨_, _, rfl, ⟨by rw [s8_len]; exact h1, rfl⟩, by rw [s8_len]; exact q.int⟩
theorem call_absW : CallR X (.builtin "abs") (rL X.K (biW .abs)) := by
  refine callImp call_abs fun xs H Q ⟨F, ws, r, a, e, q⟩ => ?_
  match ws, e, a with
  | [.int i], e, a =>
    obtain ⟨v, rfl, b⟩ := a.one
    cases Option.some.inj e
    exact ⟨i, by rw [b.int], q.int⟩
theorem call_intW : CallR X (.type "int") (rL X.K (biW .int)) := by
  refine callImp call_int1 fun xs H Q ⟨F, ws, r, a, e, q⟩ => ?_
  match ws, e, a with
  | [.int i], e, a =>
    obtain ⟨v, rfl, b⟩ := a.one
    cases Option.some.inj e
    exact .inl ⟨i, by rw [b.int], q.int⟩
theorem call_boolW : CallR X (.type "bool") (rL X.K (biW .bool)) := by
  refine callImp call_bool1 fun xs H Q ⟨F, ws, r, a, e, q⟩ => ?_
  match ws, e, a with
  | [.int i], e, a =>
    obtain ⟨v, rfl, b⟩ := a.one
    cases Option.some.inj e
    exact .inl ⟨i, by rw [b.int], q.bl⟩
  | [.bl i], e, a =>
    obtain ⟨v, rfl, b⟩ := a.one
    cases Option.some.inj e
    exact .inr ⟨i, by rw [b.bl], q.bl⟩
section
variable {prog : Program} {w : World} {A : Around} {s : Shared} {l : Addr} {it : Array (Int × Tok)} {Er Qr : Value → Shared → Prop}
theorem min_tupI (hh : A.handled = none) (hT : s.heap.IsTuple l (intItems it)) (hne : 0 < it.size)
    (k : ∀ v h' tk, (intItems it)[argBest (fun i j => decide (numAt it i < numAt it j)) (it.size - 1)]? = some v → (∀ b o, s.heap.get? b = some o → h'.get? b = some o) → Qr v { s with heap := h', toks := tk }) : wpAny (model prog w) A (call (.builtin "min") [.ref l]) Qr Er s := by
  refine call_min_walk (wpAny_pyIter_tuple hT ?_)
  have hlt : l < s.heap.objs.size := let ⟨_, e, _⟩ := hT; Heap.lt_size e
  refine ⟨_, [_, l], [_], _, _, _, _, rfl, Walks.tuple (A := A.in1) hh _ l (Nat.ne_of_lt hlt) (intItems it), ⟨⟨_, Heap.get?_push_size _ rfl, rfl, rfl⟩, hT.push _⟩, fun c hc => ?_, by simpa [intItems] using hne, CmpOf.ints_lt (numAt it) (fun _ _ => intItems_at), fun v h' tk hP hk => ?_⟩
  · show c < (s.heap.push _).objs.size
    rw [Heap.size_push]
    rcases List.mem_cons.mp hc with rfl | hc
    · exact Nat.lt_succ_self _
    · rcases List.mem_cons.mp hc with rfl | hc
      · exact Nat.lt_succ_of_lt hlt
      · cases hc
  · refine k v h' tk (by simpa [intItems] using hP) fun c o e => hk c o (fun hm => ?_) (Heap.get?_push_of_some _ e)
    rcases List.mem_cons.mp hm with e1 | hm
    · have := Heap.lt_size e; rw [e1] at this; exact Nat.lt_irrefl _ this
    · cases hm
theorem min_tupR {its : List Value} {ns : List Int} (hh : A.handled = none) (hl : s.heap.IsTuple l its.toArray) (hi : IntsAre its ns) (hne : 0 < ns.length)
    (k : ∀ h' tk m t, (∀ b o, s.heap.get? b = some o → h'.get? b = some o) → m ∈ ns → (∀ a, a ∈ ns → m ≤ a) → Qr (.int m t) { s with heap := h', toks := tk }) : wpAny (model prog w) A (call (.builtin "min") [.ref l]) Qr Er s := by
  obtain ⟨zs, e⟩ := hi.allInts.items
  have en : numsOf (intItems zs).toList = ns := by
    rw [← e]; exact hi.numsOf
  rw [nums_intItems] at en; subst en; rw [e] at hl
  have hz : 0 < zs.size := by simpa using hne
  refine min_tupI hh hl hz fun v h' tk hv hk => ?_
  obtain ⟨t, rfl⟩ := intItems_at hv
  obtain ⟨b1, b2⟩ := argBest_lt (numAt zs) (zs.size - 1)
  refine k h' tk _ t hk (by rw [numAt_eq]; exact PySem.getD_mem (by rw [List.length_map, Array.length_toList]; omega)) fun a ha => ?_
  obtain ⟨j, hj, rfl⟩ := mem_getD ha
  rw [List.length_map, Array.length_toList] at hj
  rw [← numAt_eq]; exact b2 j (by omega)
end
theorem minI_ok : ∀ (r : List Int) (a : Int), minI a r ∈ a :: r ∧ ∀ y ∈ a :: r, minI a r ≤ y
  | [], a => by simp [minI]
  | b :: r, a => by
    obtain ⟨h1, h2⟩ := minI_ok r (if b < a then b else a)
    simp only [minI]
    have h3 := h2 _ List.mem_cons_self
    refine ⟨?_, fun y hy => ?_⟩
    · rcases List.mem_cons.mp h1 with h | h
      · rw [h]; split <;> simp
      · exact List.mem_cons_of_mem _ (List.mem_cons_of_mem _ h)
    · rcases List.mem_cons.mp hy with rfl | hy
      · split at h3 <;> rename_i q <;> simp only [q, if_true, if_false] <;> omega
      · rcases List.mem_cons.mp hy with rfl | hy
        · split at h3 <;> rename_i q <;> simp only [q, if_true, if_false] <;> omega
        · exact h2 y (List.mem_cons_of_mem _ hy)
theorem maxI_ok : ∀ (r : List Int) (a : Int), maxI a r ∈ a :: r ∧ ∀ y ∈ a :: r, y ≤ maxI a r
  | [], a => by simp [maxI]
  | b :: r, a => by
    obtain ⟨h1, h2⟩ := maxI_ok r (if a < b then b else a)
    simp only [maxI]
    have h3 := h2 _ List.mem_cons_self
    refine ⟨?_, fun y hy => ?_⟩
    · rcases List.mem_cons.mp h1 with h | h
      · rw [h]; split <;> simp
      · exact List.mem_cons_of_mem _ (List.mem_cons_of_mem _ h)
    · rcases List.mem_cons.mp hy with rfl | hy
      · split at h3 <;> rename_i q <;> simp only [q, if_true, if_false] <;> omega
      · rcases List.mem_cons.mp hy with rfl | hy
        · split at h3 <;> rename_i q <;> simp only [q, if_true, if_false] <;> omega
        · exact h2 y (List.mem_cons_of_mem _ hy)
theorem ints_rel {K : PySem.W.Frag} {H : Hp} {F : Addr → Prop} : ∀ {vs : List V} {ws : List W} {i : List Int}, HRs K H F vs ws → asInts ws = some i → vs = i.map V.int
  | _, [], i, h, e => by cases h; cases Option.some.inj e; rfl
  | _, w :: ws, i, h, e => by
    cases h with
    | cons a b =>
      cases w <;> first | (cases e; done) | skip
      rename_i k
      simp only [asInts, Option.map_eq_some_iff] at e
      obtain ⟨j, e, rfl⟩ := e
      rw [ints_rel b e, (PkR.inl' a).int]; rfl
theorem least_inv {ws : List W} {i : Int} (h : leastL ws = some i) : ∃ a r, asInts ws = some (a :: r) ∧ i = minI a r := by
  unfold leastL at h
  split at h
  · rename_i a r e; exact ⟨a, r, e, (Option.some.inj h).symm⟩
  · cases h
theorem most_inv {ws : List W} {i : Int} (h : mostL ws = some i) : ∃ a r, asInts ws = some (a :: r) ∧ i = maxI a r := by
  unfold mostL at h
  split at h
  · rename_i a r e; exact ⟨a, r, e, (Option.some.inj h).symm⟩
  · cases h
theorem call_minW (hc : X.calm = true) : CallR X (.builtin "min") (rL X.K (biW .min)) := by
  intro pins s σ H xs us Q I rx ⟨F, ws, r, a, e, q⟩
  match ws, e, a with
  | [.int i, .int j], e, a =>
    obtain ⟨v, v', rfl, b, c⟩ := a.two
    cases Option.some.inj e
    exact call_min2 hc pins s σ H _ us Q I rx ⟨i, j, by rw [b.int, c.int], q.int⟩
  | [.lst ys], e, a =>
    obtain ⟨v, rfl, b⟩ := a.one
    obtain ⟨i, e1, rfl⟩ := Option.map_eq_some_iff.mp e
    obtain ⟨a0, r0, e2, rfl⟩ := least_inv e1
    obtain ⟨p, vs, rfl, h1, h2, h3⟩ := b.lst
    rw [ints_rel h3 e2] at h1
    obtain ⟨k1, k2⟩ := minI_ok r0 a0
    exact cr_min hc pins s σ H _ us Q I rx ⟨p, _, rfl, h1, by simp, fun m hm hle => by rw [show m = minI a0 r0 from Int.le_antisymm (hle _ k1) (k2 m hm)]; exact q.int⟩
  | [.tup ys], e, a =>
    obtain ⟨v, rfl, b⟩ := a.one
    obtain ⟨i, e1, rfl⟩ := Option.map_eq_some_iff.mp e
    obtain ⟨a0, r0, e2, rfl⟩ := least_inv e1
    obtain ⟨p, vs, rfl, h1, h2, h3⟩ := b.tup
    rw [ints_rel h3 e2] at h1
    obtain ⟨k1, k2⟩ := minI_ok r0 a0
    obtain ⟨its, rv, hl, _⟩ := I.tuple h1
    rw [Vals.ref1 rx]
    refine min_tupR (I.ok.hd hc) hl rv.ints (by simp) fun h' tk m t hk hm hle => ⟨.int _, H, I.kept hk, ⟨_, rfl⟩, ?_⟩
    rw [show m = minI a0 r0 from Int.le_antisymm (hle _ k1) (k2 m hm)]; exact q.int
theorem call_maxW (hc : X.calm = true) : CallR X (.builtin "max") (rL X.K (biW .max)) := by
  intro pins s σ H xs us Q I rx ⟨F, ws, r, a, e, q⟩
  match ws, e, a with
  | [.int i, .int j], e, a =>
    obtain ⟨v, v', rfl, b, c⟩ := a.two
    cases Option.some.inj e
    exact call_max2 hc pins s σ H _ us Q I rx ⟨i, j, by rw [b.int, c.int], q.int⟩
  | [.lst ys], e, a =>
    obtain ⟨v, rfl, b⟩ := a.one
    obtain ⟨i, e1, rfl⟩ := Option.map_eq_some_iff.mp e
    obtain ⟨a0, r0, e2, rfl⟩ := most_inv e1
    obtain ⟨p, vs, rfl, h1, h2, h3⟩ := b.lst
    rw [ints_rel h3 e2] at h1
    obtain ⟨k1, k2⟩ := maxI_ok r0 a0
    exact cr_max hc pins s σ H _ us Q I rx ⟨p, _, rfl, h1, by simp, fun m hm hle => by rw [show m = maxI a0 r0 from Int.le_antisymm (k2 m hm) (hle _ k1)]; exact q.int⟩
theorem sum_rel {K : PySem.W.Frag} {H : Hp} {F : Addr → Prop} : ∀ {vs : List V} {ws : List W} {i : Int}, HRs K H F vs ws → sumI ws = some i → ∃ ns : List Int, vs = ns.map V.int ∧ i = ns.sum
  | _, [], i, h, e => by cases h; exact ⟨[], rfl, (Option.some.inj e).symm⟩
  | _, w :: ws, i, h, e => by
    cases h with
    | cons a b =>
      cases w <;> first | (cases e; done) | skip
      rename_i k
      simp only [sumI, Option.map_eq_some_iff] at e
      obtain ⟨j, e, rfl⟩ := e
      obtain ⟨ns, rfl, rfl⟩ := sum_rel b e
      exact ⟨k :: ns, by rw [(PkR.inl' a).int]; rfl, by simp⟩
theorem bls_rel {K : PySem.W.Frag} {H : Hp} {F : Addr → Prop} : ∀ {vs : List V} {ws : List W} {i : List Bool}, HRs K H F vs ws → asBools ws = some i → vs = i.map V.bl
  | _, [], i, h, e => by cases h; cases Option.some.inj e; rfl
  | _, w :: ws, i, h, e => by
    cases h with
    | cons a b =>
      cases w <;> first | (cases e; done) | skip
      rename_i k
      simp only [asBools, Option.map_eq_some_iff] at e
      obtain ⟨j, e, rfl⟩ := e
      rw [bls_rel b e, (PkR.inl' a).bl]; rfl
theorem call_sumW (hc : X.calm = true) : CallR X (.builtin "sum") (rL X.K (biW .sum)) := by
  refine callImp (cr_sum hc) fun xs H Q ⟨F, ws, r, a, e, q⟩ => ?_
  match ws, e, a with
  | [.lst ys], e, a =>
    obtain ⟨v, rfl, b⟩ := a.one
    simp only [biW, Option.map_eq_some_iff] at e
    obtain ⟨i, e3, rfl⟩ := e
    obtain ⟨p, vs, rfl, h1, h2, h3⟩ := b.lst
    obtain ⟨ns, rfl, rfl⟩ := sum_rel h3 e3
    exact ⟨p, ns, rfl, h1, q.int⟩
theorem call_allW (hc : X.calm = true) : CallR X (.builtin "all") (rL X.K (biW .all)) := by
  refine callImp (cr_all hc) fun xs H Q ⟨F, ws, r, a, e, q⟩ => ?_
  match ws, e, a with
  | [.lst ys], e, a =>
    obtain ⟨v, rfl, b⟩ := a.one
    simp only [biW, Option.map_eq_some_iff] at e
    obtain ⟨i, e3, rfl⟩ := e
    obtain ⟨p, vs, rfl, h1, h2, h3⟩ := b.lst
    obtain rfl := bls_rel h3 e3
    exact ⟨p, i, rfl, h1, q.bl⟩
theorem call_anyW (hc : X.calm = true) : CallR X (.builtin "any") (rL X.K (biW .any)) := by
  refine callImp (cr_any hc) fun xs H Q ⟨F, ws, r, a, e, q⟩ => ?_
  match ws, e, a with
  | [.lst ys], e, a =>
    obtain ⟨v, rfl, b⟩ := a.one
    simp only [biW, Option.map_eq_some_iff] at e
    obtain ⟨i, e3, rfl⟩ := e
    obtain ⟨p, vs, rfl, h1, h2, h3⟩ := b.lst
    obtain rfl := bls_rel h3 e3
    exact ⟨p, i, rfl, h1, q.bl⟩
theorem call_tupleW : CallR X (.type "tuple") (rL X.K (biW .tuple)) := by
  refine callImp call_tuple_of fun xs H Q ⟨F, ws, r, a, e, q⟩ => ?_
  match ws, e, a with
  | [.lst ys], e, a =>
    obtain ⟨v, rfl, b⟩ := a.one
    cases Option.some.inj e
    obtain ⟨p, vs, rfl, h1, h2, h3⟩ := b.lst
    exact ⟨p, vs, rfl, .inl ⟨h1, fun l hl => q _ _ (.tup hl h2 h3)⟩⟩
  | [.tup ys], e, a =>
    obtain ⟨v, rfl, b⟩ := a.one
    cases Option.some.inj e
    obtain ⟨p, vs, rfl, h1, h2, h3⟩ := b.tup
    exact ⟨p, vs, rfl, .inr ⟨h1, q _ _ (.old (.tup h1 h2 h3))⟩⟩
theorem call_listW : CallR X (.type "list") (rL X.K (biW .list)) := by
  refine callImp call_list_of fun xs H Q ⟨F, ws, r, a, e, q⟩ => ?_
  match ws, e, a with
  | [.lst ys], e, a =>
    obtain ⟨v, rfl, b⟩ := a.one
    cases Option.some.inj e
    obtain ⟨p, vs, rfl, h1, h2, h3⟩ := b.lst
    exact ⟨p, vs, rfl, .inl h1, fun l hl => q _ _ (.lst hl h2 h3)⟩
  | [.tup ys], e, a =>
    obtain ⟨v, rfl, b⟩ := a.one
    cases Option.some.inj e
    obtain ⟨p, vs, rfl, h1, h2, h3⟩ := b.tup
    exact ⟨p, vs, rfl, .inr h1, fun l hl => q _ _ (.lst hl h2 h3)⟩
end
end Py

namespace Py
open PySem PySem.Spec PyProof.Rows L2
variable [HW]

/-- an exception's own dict -/
def ExD (p : W) (d : Option Addr) (H : Hp) : Prop := match p with
  | .non => d = none
  | .int i => ∃ a, d = some a ∧ H a = some (.xd [("line", .int i)])
  | _ => False

/-- what stands still: the written part, the exceptions' classes, what is wanted of an exception, the defs -/
structure Cf where
  K : PySem.W.Frag
  cls : Nat → Value
  wx : WX
  C : Fn

def OkX {α : Type} (o : Out α) (P : α → Env → Prop) (E : Nat → W → Env → Prop) : Prop := match o with
  | .ok a ρ => P a ρ
  | .ex x p ρ => E x p ρ
  | .bad => False
theorem OkX.bind {α β : Type} {o : Out α} {f : α → Env → Out β} {P : β → Env → Prop} {E : Nat → W → Env → Prop} (h : OkX (o.bind f) P E) : OkX o (fun a ρ => OkX (f a ρ) P E) E := by
  cases o <;> exact h
theorem OkX.mono {α : Type} {o : Out α} {P P' : α → Env → Prop} {E E' : Nat → W → Env → Prop} (h : OkX o P E) (hp : ∀ a ρ, P a ρ → P' a ρ) (he : ∀ x p ρ, E x p ρ → E' x p ρ) : OkX o P' E' := by
  cases o with
  | ok a ρ => exact hp _ _ h
  | ex x p ρ => exact he _ _ _ h
  | bad => exact h

section
variable (c : Cf) (A : Nat → Option Addr) (σ : Sg) (ρ : Env) (H : Hp) (F : Addr → Prop) (Pn : List (Addr × W))
def PX (Q : VK) (a : Arg) (ρ' : Env) : Prop := ∀ v H' F', Stp σ ρ H F σ ρ' H' F' → SRel c.K A σ ρ' H' F' (pnd a v ++ Pn) → AR c.K σ H' F' a v → (∀ d x, (d, x) ∈ pnd a v → H d = none) → Q v H'
def PL (Q : List V → Hp → Prop) (as : List Arg) (ρ' : Env) : Prop := ∀ vs H' F', Stp σ ρ H F σ ρ' H' F' → SRel c.K A σ ρ' H' F' (pnds as vs ++ Pn) → ARs c.K σ H' F' as vs → (∀ d x, (d, x) ∈ pnds as vs → H d = none) → Q vs H'
def PB (Q : Bool → Hp → Prop) (k : Bool) (ρ' : Env) : Prop := ∀ H' F', Stp σ ρ H F σ ρ' H' F' → SRel c.K A σ ρ' H' F' Pn → Q k H'
def EX (x : Nat) (p : W) (ρ' : Env) : Prop := ∀ H' F' d, Stp σ ρ H F σ ρ' H' F' → SRel c.K A σ ρ' H' F' Pn → ExD p d H' → c.wx (c.cls x) d σ H'
end
def tX (c : Cf) (e : E) : TE := fun σ H Q => ∃ A ρ F Pn, SRel c.K A σ ρ H F Pn ∧ OkX ((ev c.C e).x ρ) (PX c A σ ρ H F Pn Q) (EX c A σ ρ H F Pn)
def tXL (c : Cf) (e : E) : TA := fun σ H Q => ∃ A ρ F Pn, SRel c.K A σ ρ H F Pn ∧ OkX ((ev c.C e).a ρ) (PL c A σ ρ H F Pn Q) (EX c A σ ρ H F Pn)
def tXB (c : Cf) (e : E) : TT := fun σ H Q => ∃ A ρ F Pn, SRel c.K A σ ρ H F Pn ∧ OkX ((ev c.C e).t ρ) (PB c A σ ρ H F Pn Q) (EX c A σ ρ H F Pn)

theorem peImp {X : Cx} {e : Expr} {t t' : TE} (h : PE X e t) (i : ∀ σ H Q, t' σ H Q → t σ H Q) : PE X e t' := ⟨fun pins s σ H Q I q => h.run pins s σ H Q I (i σ H Q q)⟩
theorem ptImp {X : Cx} {e : Expr} {t t' : TT} (h : PT X e t) (i : ∀ σ H Q, t' σ H Q → t σ H Q) : PT X e t' := ⟨fun pins s σ H Q I q => h.run pins s σ H Q I (i σ H Q q)⟩
theorem paImp {X : Cx} {e : List Expr} {t t' : TA} (h : PA X e t) (i : ∀ σ H Q, t' σ H Q → t σ H Q) : PA X e t' := ⟨fun pos pins s σ H Q I q => h.run pos pins s σ H Q I (i σ H Q q)⟩
theorem psImp {X : Cx} {e : Stmt} {t t' : TS} (h : PS X e t) (i : ∀ D σ H, t' D σ H → t D σ H) : PS X e t' := ⟨fun pins s σ H D I q => h.run pins s σ H D I (i D σ H q)⟩
theorem pssImp {X : Cx} {e : List Stmt} {t t' : TS} (h : PSs X e t) (i : ∀ D σ H, t' D σ H → t D σ H) : PSs X e t' := ⟨fun pins s σ H D I q => h.run pins s σ H D I (i D σ H q)⟩

section
variable {c : Cf} {A : Nat → Option Addr} {σ : Sg} {ρ ρ1 ρ' : Env} {H H1 : Hp} {F F1 : Addr → Prop} {Pn P1 : List (Addr × W)}
theorem EX.step {x : Nat} {p : W} (h : EX c A σ ρ H F Pn x p ρ') (st : Stp σ ρ H F σ ρ1 H1 F1) : EX c A σ ρ1 H1 F1 (P1 ++ Pn) x p ρ' :=
  fun H' F' d st' s e => h H' F' d (st.trans st') s.drop e

/-- behind some arguments -/
structure Md (c : Cf) (A : Nat → Option Addr) (σ : Sg) (ρ : Env) (H : Hp) (F : Addr → Prop) (Pn : List (Addr × W)) (as : List Arg) (vs : List V) (ρ' : Env) (H' : Hp) (F' : Addr → Prop) : Prop where
  st : Stp σ ρ H F σ ρ' H' F'
  sr : SRel c.K A σ ρ' H' F' (pnds as vs ++ Pn)
  ar : ARs c.K σ H' F' as vs
  fr : ∀ d x, (d, x) ∈ pnds as vs → H d = none
theorem Stp.fresh {σ' : Sg} (st : Stp σ ρ H F σ' ρ1 H1 F1) {a : Addr} (h : H1 a = none) : H a = none := by
  cases e : H a with
  | none => rfl
  | some o => obtain ⟨o', e'⟩ := st.al a o e; rw [h] at e'; cases e'
theorem Md.nil (hs : SRel c.K A σ ρ H F Pn) : Md c A σ ρ H F Pn [] [] ρ H F := ⟨.refl, hs, .nil, fun _ _ h => nomatch h⟩
/-- one argument more -/
theorem Md.snoc {as : List Arg} {vs : List V} {H' H2 : Hp} {F' F2 : Addr → Prop} {a : Arg} {v : V} {ρ2 : Env} (m : Md c A σ ρ H F Pn as vs ρ' H' F')
    (st : Stp σ ρ' H' F' σ ρ2 H2 F2) (sr : SRel c.K A σ ρ2 H2 F2 (pnd a v ++ (pnds as vs ++ Pn))) (ar : AR c.K σ H2 F2 a v) (fr : ∀ d x, (d, x) ∈ pnd a v → H' d = none) : Md c A σ ρ H F Pn (as ++ [a]) (vs ++ [v]) ρ2 H2 F2 := by
  have e : ∀ {as : List Arg} {vs : List V}, ARs c.K σ H' F' as vs → pnds (as ++ [a]) (vs ++ [v]) = pnd a v ++ pnds as vs := by
    intro as vs h
    induction h with
    | nil => simp [pnds]
    | cons _ _ ih => simp [pnds, ih]
  have e := e m.ar
  refine ⟨m.st.trans st, by rw [e, List.append_assoc]; exact sr, ?_, fun d x h => ?_⟩
  · exact (m.ar.stp m.sr st).snoc ar
  · rw [e] at h
    rcases List.mem_append.mp h with h | h
    · exact m.st.fresh (fr d x h)
    · exact m.fr d x h
theorem tX_of {e : E} {Q : VK} {R : VK} {as : List Arg} {vs : List V} {H' : Hp} {F' : Addr → Prop} {k : Arg → Env → Out Arg} (m : Md c A σ ρ H F Pn as vs ρ' H' F')
    (h : OkX (((ev c.C e).x ρ').bind k) (PX c A σ ρ H F Pn Q) (EX c A σ ρ H F Pn))
    (fin : ∀ a v ρ2 H2 F2, Md c A σ ρ H F Pn (as ++ [a]) (vs ++ [v]) ρ2 H2 F2 → OkX (k a ρ2) (PX c A σ ρ H F Pn Q) (EX c A σ ρ H F Pn) → R v H2) : tX c e σ H' R :=
  ⟨A, ρ', F', pnds as vs ++ Pn, m.sr, h.bind.mono (fun a ρ2 h2 v H2 F2 st s ar fr => fin a v ρ2 H2 F2 (m.snoc st s ar fr) h2) fun _ _ _ e => e.step m.st⟩
theorem tX_ofG {α : Type} {P : α → Env → Prop} {e : E} {R : VK} {as : List Arg} {vs : List V} {H' : Hp} {F' : Addr → Prop} {k : Arg → Env → Out α} (m : Md c A σ ρ H F Pn as vs ρ' H' F')
    (h : OkX (((ev c.C e).x ρ').bind k) P (EX c A σ ρ H F Pn))
    (fin : ∀ a v ρ2 H2 F2, Md c A σ ρ H F Pn (as ++ [a]) (vs ++ [v]) ρ2 H2 F2 → OkX (k a ρ2) P (EX c A σ ρ H F Pn) → R v H2) : tX c e σ H' R :=
  ⟨A, ρ', F', pnds as vs ++ Pn, m.sr, h.bind.mono (fun a ρ2 h2 v H2 F2 st s ar fr => fin a v ρ2 H2 F2 (m.snoc st s ar fr) h2) fun _ _ _ e => e.step m.st⟩
theorem tXL_of {e : E} {Q : VK} {R : List V → Hp → Prop} {k : List Arg → Env → Out Arg} (hs : SRel c.K A σ ρ H F Pn)
    (h : OkX (((ev c.C e).a ρ).bind k) (PX c A σ ρ H F Pn Q) (EX c A σ ρ H F Pn))
    (fin : ∀ as vs ρ2 H2 F2, Md c A σ ρ H F Pn as vs ρ2 H2 F2 → OkX (k as ρ2) (PX c A σ ρ H F Pn Q) (EX c A σ ρ H F Pn) → R vs H2) : tXL c e σ H R :=
  ⟨A, ρ, F, Pn, hs, h.bind.mono (fun as ρ2 h2 vs H2 F2 st s ar fr => fin as vs ρ2 H2 F2 ⟨st, s, ar, fr⟩ h2) fun _ _ _ e => e⟩

/-! ### something new in the heap -/
theorem upd_some {H : Hp} {p : Addr} {o u : HO} {a : Addr} (hp : H p = none) (h : H a = some u) : upd H p o a = some u := by
  rw [upd_ne (ne_of_none h hp)]; exact h
theorem Rd.upd {p a : Addr} {o u : HO} (hp : H p = none) (h : Rd H a u) : Rd (L2.upd H p o) a u := by
  rcases h with h | ⟨b, h⟩
  · exact .inl (upd_some hp h)
  · exact .inr ⟨b, upd_some hp h⟩
theorem SqT.upd {K : PySem.W.Frag} {p a : Addr} {o : HO} {xs : List V} (hp : H p = none) (h : SqT K H a xs) : SqT K (L2.upd H p o) a xs := by
  rcases h with h | h
  · exact .inl (Rd.upd hp h)
  · exact .inr h
theorem HR.upd {K : PySem.W.Frag} {p : Addr} {o : HO} {v : V} {w : W} (hp : H p = none) (h : HR K H F v w) : HR K (L2.upd H p o) F v w := h.mono (fun _ _ q => SqT.upd hp q) (fun _ q => q) fun _ _ _ q => Rd.upd hp q
theorem HRs.upd {K : PySem.W.Frag} {p : Addr} {o : HO} {v : List V} {w : List W} (hp : H p = none) (h : HRs K H F v w) : HRs K (L2.upd H p o) F v w := h.mono (fun _ _ q => SqT.upd hp q) (fun _ q => q) fun _ _ _ q => Rd.upd hp q
theorem Cell.upd {K : PySem.W.Frag} {p a : Addr} {o : HO} {w : W} (hp : H p = none) (h : Cell K H F a w) : Cell K (L2.upd H p o) F a w := by
  cases w <;> first | exact h.elim | skip
  · obtain ⟨vs, e, z, r⟩ := h
    exact ⟨vs, upd_some hp e, z, r.upd hp⟩
  · obtain ⟨es, e, z, n, r⟩ := h
    exact ⟨es, upd_some hp e, z, n, r.mono (fun _ _ q => SqT.upd hp q) (fun _ q => q) fun _ _ _ q => Rd.upd hp q⟩
theorem SRel.alloc {K : PySem.W.Frag} {p : Addr} {o : HO} (h : SRel K A σ ρ H F Pn) (hp : H p = none) : SRel K A σ ρ (L2.upd H p o) F Pn := by
  refine ⟨h.ln, fun i w e => ?_, fun i w f e n => ?_, h.io, h.dj, fun q hq => ?_, h.pd, fun a q => ?_⟩
  · obtain ⟨v, a, b⟩ := h.sh i w e
    exact ⟨v, a, b.upd hp⟩
  · obtain ⟨a, x, y, z⟩ := h.ow i w f e n
    exact ⟨a, x, y, z.upd hp⟩
  · obtain ⟨x, y, z⟩ := h.pn q hq
    exact ⟨x, y.upd hp, z⟩
  · obtain ⟨u, e⟩ := h.ff a q
    exact ⟨u, upd_some hp e⟩
theorem Stp.alloc {p : Addr} {o : HO} (hp : H p = none) : Stp σ ρ H F σ ρ (L2.upd H p o) F :=
  ⟨fun _ _ h _ => upd_some hp h, fun _ h => h, fun _ _ _ h => .inl h, fun _ _ _ h => h, fun _ _ _ i h => h, fun _ _ _ h => h, fun _ u h => ⟨u, upd_some hp h⟩⟩
/-- a new object that nothing holds -/
theorem SRel.pend {K : PySem.W.Frag} {p : Addr} {o : HO} {w : W} (h : SRel K A σ ρ H F Pn) (hp : H p = none) (hc : Cell K (L2.upd H p o) F p w) : SRel K A σ ρ (L2.upd H p o) F ((p, w) :: Pn) := by
  have h1 := h.alloc (o := o) hp
  refine ⟨h1.ln, h1.sh, h1.ow, h1.io, h1.dj, fun q hq => ?_, ?_, h1.ff⟩
  · rcases List.mem_cons.mp hq with rfl | hq
    · refine ⟨fun f => ?_, hc, fun i s => ?_⟩
      · obtain ⟨u, e⟩ := h.ff p f; rw [hp] at e; cases e
      · obtain ⟨_, vs, e, _⟩ := h.slc s; rw [hp] at e; cases e
    · exact h1.pn q hq
  · refine List.nodup_cons.mpr ⟨fun hm => ?_, h.pd⟩
    obtain ⟨q, hq, e⟩ := List.mem_map.mp hm
    obtain ⟨vs, e', _⟩ := (h.pn q hq).2.1.obj
    dsimp only at e
    rw [e, hp] at e'; cases e'
/-- the result of a rule -/
theorem Md.fin {as : List Arg} {vs : List V} {H' : Hp} {F' : Addr → Prop} {Q : VK} {r : W × Bool} (m : Md c A σ ρ H F Pn as vs ρ' H' F') (h : PX c A σ ρ H F Pn Q (.val r.1 r.2) ρ') : Rs c.K H' F' Q r := by
  intro v H2 n
  obtain ⟨w, f⟩ := r
  have sr := m.sr.drop
  cases n with
  | old q => exact h v H' F' m.st (by simpa [pnd] using sr) q fun d x z => by simp [pnd] at z
  | tup hp hz hr =>
    rename_i p us ws
    exact h _ _ F' (m.st.trans (.alloc hp)) (by simpa [pnd] using sr.alloc hp) (HR.tup (.inl (.inl upd_same)) hz (hr.upd hp)) fun d x z => by simp [pnd] at z
  | lst hp hz hr =>
    rename_i p us ws
    refine h _ _ F' (m.st.trans (.alloc hp)) (by simpa [pnd] using sr.pend (w := .lst ws) hp ⟨us, upd_same, hz, hr.upd hp⟩) ⟨p, rfl⟩ fun d x z => ?_
    obtain ⟨rfl, rfl⟩ : d = p ∧ x = .lst ws := by simpa [pnd] using z
    exact m.st.fresh hp
theorem Md.pk {as : List Arg} {vs : List V} {H' : Hp} {F' : Addr → Prop} {ws : List W} (m : Md c A σ ρ H F Pn as vs ρ' H' F') (e : ress ρ' as = some ws) : PkRs c.K H' F' vs ws :=
  m.ar.peek m.sr (fun p h => List.mem_append_left _ h) e
theorem ofO_ok {o : Option (W × Bool)} {P : Arg → Env → Prop} {E : Nat → W → Env → Prop} (h : OkX (ofO o ρ) P E) : ∃ r, o = some r ∧ P (.val r.1 r.2) ρ := by
  unfold ofO at h
  cases o with
  | none => exact h.elim
  | some r => exact ⟨r, rfl, h⟩
theorem ress1 {a : Arg} {w : W} (h : res ρ a = some w) : ress ρ [a] = some [w] := by simp [ress, h]
theorem ress2 {a b : Arg} {w u : W} (h : res ρ a = some w) (h' : res ρ b = some u) : ress ρ [a, b] = some [w, u] := by simp [ress, h, h']
theorem l1_ok {f : W → Option (W × Bool)} {a : Arg} {P : Arg → Env → Prop} {E : Nat → W → Env → Prop} (h : OkX (l1 f a ρ) P E) : ∃ w r, ress ρ [a] = some [w] ∧ f w = some r ∧ P (.val r.1 r.2) ρ := by
  unfold l1 at h
  cases e : res ρ a with
  | none => rw [e] at h; exact h.elim
  | some w =>
    rw [e] at h
    obtain ⟨r, e', q⟩ := ofO_ok h
    exact ⟨w, r, ress1 e, e', q⟩
theorem l2_ok {f : W → W → Option (W × Bool)} {a b : Arg} {P : Arg → Env → Prop} {E : Nat → W → Env → Prop} (h : OkX (l2 f a b ρ) P E) : ∃ w u r, ress ρ [a, b] = some [w, u] ∧ f w u = some r ∧ P (.val r.1 r.2) ρ := by
  unfold l2 at h
  cases e : res ρ a with
  | none => rw [e] at h; exact h.elim
  | some w =>
    cases e2 : res ρ b with
    | none => rw [e, e2] at h; exact h.elim
    | some u =>
      rw [e, e2] at h
      obtain ⟨r, e', q⟩ := ofO_ok h
      exact ⟨w, u, r, ress2 e e2, e', q⟩
theorem lL_ok {f : List W → Option (W × Bool)} {a : List Arg} {P : Arg → Env → Prop} {E : Nat → W → Env → Prop} (h : OkX (lL f a ρ) P E) : ∃ w r, ress ρ a = some w ∧ f w = some r ∧ P (.val r.1 r.2) ρ := by
  unfold lL at h
  cases e : ress ρ a with
  | none => rw [e] at h; exact h.elim
  | some w =>
    rw [e] at h
    obtain ⟨r, e', q⟩ := ofO_ok h
    exact ⟨w, r, rfl, e', q⟩
theorem trO_ok {o : Option W} {P : Bool → Env → Prop} {E : Nat → W → Env → Prop} (h : OkX (trO o ρ) P E) : ∃ w b, o = some w ∧ truth w = some b ∧ P b ρ := by
  unfold trO at h
  cases e : o.bind truth with
  | none => rw [e] at h; exact h.elim
  | some b =>
    rw [e] at h
    obtain ⟨w, e1, e2⟩ := Option.bind_eq_some_iff.mp e
    exact ⟨w, b, e1, e2, h⟩
end

/-! ### the rules -/
section
variable {X : Cx} {c : Cf} {e a b : Expr} {ea eb : E} {pos : Pos}
theorem x_con {v : V} {w : W} (h : PE X e (tC v)) (hr : ∀ H F, HR c.K H F v w) : PE X e (tX c (.con w)) := by
  refine peImp h fun σ H Q ⟨A, ρ, F, Pn, hs, q⟩ => ?_
  exact q v H F .refl (by simpa [pnd] using hs) (hr H F) fun d x z => by simp [pnd] at z
theorem x_var {i : Nat} (h : PE X e (tVar i)) : PE X e (tX c (.var i)) := by
  refine peImp h fun σ H Q ⟨A, ρ, F, Pn, hs, q⟩ => ?_
  have q : OkX (match wOf ρ i with | some _ => Out.ok (Arg.slot i) ρ | none => .bad) (PX c A σ ρ H F Pn Q) (EX c A σ ρ H F Pn) := q
  cases e : wOf ρ i with
  | none => rw [e] at q; exact q.elim
  | some x =>
    rw [e] at q
    obtain ⟨v, ev⟩ := hs.val e
    exact ⟨v, ev, q v H F .refl (by simpa [pnd] using hs) ev fun d x z => by simp [pnd] at z⟩
theorem x_op {o : Operator} {p : BOp} (hc : c.K = X.K) (ho : bOp o = some p) (ha : PE X a (tX c ea)) (hb : PE X b (tX c eb)) : PE X (.BinOp a o b pos) (tX c (.op p ea eb)) := by
  refine peImp (pe_op (op_binW ho) ha hb) fun σ H Q ⟨A, ρ, F, Pn, hs, q⟩ => ?_
  refine tX_of (.nil hs) q fun u v ρ1 H1 F1 m1 q1 => tX_of m1 q1 fun u' v' ρ2 H2 F2 m2 q2 => ?_
  obtain ⟨w, z, r, e1, e2, q3⟩ := l2_ok q2
  obtain ⟨_, _, e, p1, p2⟩ := (m2.pk e1).two
  cases e
  rw [← hc]
  exact ⟨F2, w, z, r, p1, p2, e2, m2.fin q3⟩
theorem x_cmp {o : CmpOp} {p : COp} (hc : c.K = X.K) (hw : HW.P = X.prog ∧ HW.w = X.w) (hu : X.A.units + 200 < cLine) (ho : cOp o = some p) (hm : behindInMarks o b = false) (ha : PE X a (tX c ea)) (hb : PE X b (tX c eb)) : PE X (.Compare a [o] [b] pos) (tX c (.cmp p ea eb)) := by
  refine peImp (pe_cmpR (op_cmpW hw hu ho) ha hb hm) fun σ H Q ⟨A, ρ, F, Pn, hs, q⟩ => ?_
  refine tX_of (.nil hs) q fun u v ρ1 H1 F1 m1 q1 => tX_of m1 q1 fun u' v' ρ2 H2 F2 m2 q2 => ?_
  obtain ⟨w, z, r, e1, e2, q3⟩ := l2_ok q2
  obtain ⟨_, _, e, p1, p2⟩ := (m2.pk e1).two
  cases e
  rw [← hc]
  exact ⟨F2, w, z, r, p1, p2, e2, m2.fin q3⟩
theorem x_ix (hc : c.K = X.K) (hw : HW.P = X.prog ∧ HW.w = X.w) (hu : X.A.units + 200 < cLine) (hp : PlainIx b) (ha : PE X a (tX c ea)) (hb : PE X b (tX c eb)) : PE X (.Subscript a b pos) (tX c (.ix ea eb)) := by
  refine peImp (pe_ix (ix_W hw hu) ha hb hp) fun σ H Q ⟨A, ρ, F, Pn, hs, q⟩ => ?_
  refine tX_of (.nil hs) q fun u v ρ1 H1 F1 m1 q1 => tX_of m1 q1 fun u' v' ρ2 H2 F2 m2 q2 => ?_
  obtain ⟨w, z, r, e1, e2, q3⟩ := l2_ok q2
  obtain ⟨_, _, e, p1, p2⟩ := (m2.pk e1).two
  cases e
  rw [← hc]
  exact ⟨F2, w, z, r, p1, p2, e2, m2.fin q3⟩
theorem x_neg (hc : c.K = X.K) (ha : PE X a (tX c ea)) : PE X (.UnaryOp .USub a pos) (tX c (.neg ea)) := by
  refine peImp (pe_un un_neg ha) fun σ H Q ⟨A, ρ, F, Pn, hs, q⟩ => ?_
  refine tX_of (.nil hs) q fun u v ρ1 H1 F1 m1 q1 => ?_
  obtain ⟨w, r, e1, e2, q3⟩ := l1_ok q1
  obtain ⟨_, e, p1⟩ := (m1.pk e1).one
  cases e
  cases w <;> first | (cases e2; done) | cases Option.some.inj e2
  exact ⟨_, p1.int, (m1.fin (r := (.int _, false)) q3).int⟩

/-- the readings are what they ask -/
theorem res_bind {α : Type} {o : Option W} {f : W → Option α} {r : α} (h : o.bind f = some r) : ∃ w, o = some w ∧ f w = some r := Option.bind_eq_some_iff.mp h
/-- truth of a read value -/
theorem tru_of {K : PySem.W.Frag} {H : Hp} {F : Addr → Prop} {v : V} {w : W} {b : Bool} (h : PkR K H F v w) (e : truth w = some b) : TruV K v H b := by
  cases w with
  | non => rw [h.non]; exact (Option.some.inj e).symm
  | bl k => rw [h.bl]; exact (Option.some.inj e).symm
  | int k => rw [h.int]; exact (Option.some.inj e).symm
  | str k =>
    obtain ⟨rfl, z, _⟩ := h.str
    refine ⟨by rw [s8_len]; exact z, ?_⟩
    rw [s8_len]
    have : b = !k.isEmpty := (Option.some.inj e).symm
    rw [this]
    cases k <;> simp <;> omega
  | tup k =>
    obtain ⟨p, vs, rfl, a, z, r⟩ := h.tup
    refine .inr (.inl ⟨vs, a, ?_⟩)
    have : b = !k.isEmpty := (Option.some.inj e).symm
    rw [this]
    have := r.length
    cases vs <;> cases k <;> simp_all
  | lst k =>
    obtain ⟨p, vs, rfl, a, z, r⟩ := h.lst
    refine .inl ⟨vs, a, ?_⟩
    have : b = !k.isEmpty := (Option.some.inj e).symm
    rw [this]
    have := r.length
    cases vs <;> cases k <;> simp_all
  | dct k => cases e
  | st k => exact h.st.elim
/-- a test by the value's truth -/
theorem t_plain (hc : c.K = X.K) (h : PE X e (tX c ea)) (ht : ∀ ρ, (ev c.C ea).t ρ = ((ev c.C ea).x ρ).bind fun u ρ1 => trO (res ρ1 u) ρ1)
    (he : ∀ whole, isTrue e X.env whole = (do let v ← whole; standAt e.pos; holding [v] (truthy v))) : PT X e (tXB c ea) := by
  refine ptImp (pt_truth h he) fun σ H Q ⟨A, ρ, F, Pn, hs, q⟩ => ?_
  rw [ht] at q
  refine tX_ofG (.nil hs) q fun u v ρ1 H1 F1 m1 q1 => ?_
  obtain ⟨w, b, e1, e2, q2⟩ := trO_ok q1
  obtain ⟨_, e, p1⟩ := (m1.pk (ress1 e1)).one
  cases e
  exact ⟨b, by rw [← hc]; exact tru_of p1 e2, q2 H1 F1 m1.st m1.sr.drop⟩
/-- .. of a value that is a truth value -/
theorem t_bool (h : PT X e (tTest (tX c ea))) (ht : ∀ ρ, (ev c.C ea).t ρ = ((ev c.C ea).x ρ).bind fun u ρ1 => trO (res ρ1 u) ρ1) (hb : ∀ ρ a ρ1, (ev c.C ea).x ρ = .ok a ρ1 → ∃ b, a = .val (.bl b) false) : PT X e (tXB c ea) := by
  refine ptImp h fun σ H Q ⟨A, ρ, F, Pn, hs, q⟩ => ?_
  rw [ht] at q
  cases e1 : (ev c.C ea).x ρ with
  | bad => rw [e1] at q; exact q.elim
  | ex x p ρ1 =>
    rw [e1] at q
    refine ⟨A, ρ, F, Pn, hs, ?_⟩
    rw [e1]; exact q
  | ok a ρ1 =>
    obtain ⟨b, rfl⟩ := hb ρ a ρ1 e1
    rw [e1] at q
    refine ⟨A, ρ, F, Pn, hs, ?_⟩
    rw [e1]
    intro v H' F' st sr ar fr
    have ar' : HR c.K H' F' v (.bl b) := ar
    cases ar'
    exact ⟨b, rfl, q H' F' st (by simpa [pnd] using sr)⟩
theorem l2_val {f : W → W → Option Bool} {u v a : Arg} {ρ ρ' : Env} (h : l2 (bW f) u v ρ = .ok a ρ') : ∃ b, a = .val (.bl b) false := by
  unfold l2 at h
  split at h
  · rename_i w z _ _
    unfold ofO at h
    cases e : bW f w z with
    | none => rw [e] at h; cases h
    | some r =>
      obtain ⟨b, _, rfl⟩ := bW_some e
      rw [e] at h
      cases h
      exact ⟨b, rfl⟩
  · cases h
theorem bind_ok {α β : Type} {o : Out α} {f : α → Env → Out β} {b : β} {ρ : Env} (h : o.bind f = .ok b ρ) : ∃ a ρ1, o = .ok a ρ1 ∧ f a ρ1 = .ok b ρ := by
  cases o with
  | ok a ρ1 => exact ⟨a, ρ1, rfl, h⟩
  | ex x p ρ1 => cases h
  | bad => cases h
theorem t_cmp {o : CmpOp} {p : COp} (hc : c.K = X.K) (hw : HW.P = X.prog ∧ HW.w = X.w) (hu : X.A.units + 200 < cLine) (ho : cOp o = some p) (hm : behindInMarks o b = false) (ha : PE X a (tX c ea)) (hb : PE X b (tX c eb)) : PT X (.Compare a [o] [b] pos) (tXB c (.cmp p ea eb)) := by
  refine t_bool (ptImp (pt_cmpR (op_cmpW hw hu ho) ha hb hm) fun σ H Q h => ?_) (fun _ => rfl) fun ρ a' ρ1 e => ?_
  · obtain ⟨A, ρ, F, Pn, hs, q⟩ := h
    refine tX_of (.nil hs) q fun u v ρ1 H1 F1 m1 q1 => tX_of m1 q1 fun u' v' ρ2 H2 F2 m2 q2 => ?_
    obtain ⟨w, z, r, e1, e2, q3⟩ := l2_ok q2
    obtain ⟨_, _, e, p1, p2⟩ := (m2.pk e1).two
    cases e
    rw [← hc]
    exact ⟨F2, w, z, r, p1, p2, e2, m2.fin q3⟩
  · obtain ⟨_, _, _, e⟩ := bind_ok e
    obtain ⟨_, _, _, e⟩ := bind_ok e
    exact l2_val e

/-! ### a < b < c -/
theorem cmp2_ok {p q : COp} {ec : E} {σ : Sg} {A : Nat → Option Addr} {ρ : Env} {H : Hp} {F : Addr → Prop} {Pn : List (Addr × W)} {Q : VK} (hc : c.K = X.K) (hs : SRel c.K A σ ρ H F Pn)
    (h : OkX ((ev c.C (.cmp2 p q ea eb ec)).x ρ) (PX c A σ ρ H F Pn Q) (EX c A σ ρ H F Pn)) : tChain (r2 X.K (bW (cmpW p))) (r2 X.K (bW (cmpW q))) (tX c ea) (tX c eb) (tX c ec) σ H Q := by
  refine tX_of (.nil hs) h fun u v ρ1 H1 F1 m1 q1 => tX_of m1 q1 fun u' v' ρ2 H2 F2 m2 q2 => ?_
  cases e1 : res ρ2 u with
  | none => simp only [e1] at q2; exact q2.elim
  | some w => cases e2 : res ρ2 u' with
    | none => simp only [e1, e2] at q2; exact q2.elim
    | some z => cases e3 : cmpW p w z with
      | none => simp only [e1, e2, e3] at q2; exact q2.elim
      | some k =>
        simp only [e1, e2, e3] at q2
        obtain ⟨_, _, e, p1, p2⟩ := (m2.pk (ress2 e1 e2)).two
        cases e
        rw [← hc]
        refine ⟨F2, w, z, (.bl k, false), p1, p2, by simp [bW, e3], fun v3 H3 n => ?_⟩
        cases n with | old n =>
        cases n
        refine ⟨k, rfl, ?_⟩
        cases k with
        | false => exact iteF ((m2.fin (r := (.bl false, false)) q2).bl)
        | true =>
          refine iteT (tX_of m2 q2 fun u3 v3 ρ3 H3 F3 m3 q3 => ?_)
          obtain ⟨w', z', r, e4, e5, q4⟩ := l2_ok q3
          have p1' : PkR c.K H3 F3 v' w' ∧ PkR c.K H3 F3 v3 z' := by
            have a1 := m3.ar
            have e7 : res ρ3 u' = some w' ∧ res ρ3 u3 = some z' := by
              simp only [ress] at e4
              cases h1 : res ρ3 u' <;> cases h2 : res ρ3 u3 <;> simp_all
            cases a1 with | cons x1 a1 => cases a1 with | cons x2 a1 => cases a1 with | cons x3 a1 =>
              exact ⟨x2.peek m3.sr (fun p h => by simp [pnds, h]) e7.1, x3.peek m3.sr (fun p h => by simp [pnds, h]) e7.2⟩
          exact ⟨F3, w', z', r, p1'.1, p1'.2, e5, m3.fin q4⟩
theorem x_cmp2 {d : Expr} {ec : E} {o o' : CmpOp} {p q : COp} (hc : c.K = X.K) (hw : HW.P = X.prog ∧ HW.w = X.w) (hu : X.A.units + 200 < cLine) (ho : cOp o = some p) (ho' : cOp o' = some q) (hm : lastMarks [o, o'] [b, d] = false) (ha : PE X a (tX c ea)) (hb : PE X b (tX c eb)) (hd : PE X d (tX c ec)) :
    PE X (.Compare a [o, o'] [b, d] pos) (tX c (.cmp2 p q ea eb ec)) :=
  peImp (pe_chain (op_cmpW hw hu ho) (op_cmpW hw hu ho') ha hb hd hm) fun σ H Q ⟨A, ρ, F, Pn, hs, h⟩ => cmp2_ok hc hs h
theorem t_cmp2 {d : Expr} {ec : E} {o o' : CmpOp} {p q : COp} (hc : c.K = X.K) (hw : HW.P = X.prog ∧ HW.w = X.w) (hu : X.A.units + 200 < cLine) (ho : cOp o = some p) (ho' : cOp o' = some q) (hm : lastMarks [o, o'] [b, d] = false) (ha : PE X a (tX c ea)) (hb : PE X b (tX c eb)) (hd : PE X d (tX c ec)) :
    PT X (.Compare a [o, o'] [b, d] pos) (tXB c (.cmp2 p q ea eb ec)) := by
  refine t_bool (ptImp (pt_chain (op_cmpW hw hu ho) (op_cmpW hw hu ho') ha hb hd hm) fun σ H Q ⟨A, ρ, F, Pn, hs, h⟩ => cmp2_ok hc hs h) (fun _ => rfl) fun ρ a' ρ1 e => ?_
  obtain ⟨_, _, _, e⟩ := bind_ok e
  obtain ⟨_, _, _, e⟩ := bind_ok e
  split at e
  · split at e
    · obtain ⟨_, _, _, e⟩ := bind_ok e
      exact l2_val e
    · cases e; exact ⟨false, rfl⟩
    · cases e
  · cases e

/-! ### and, or, not, if -/
theorem tXB_of {e : E} {α : Type} {P : α → Env → Prop} {R : Bool → Hp → Prop} {σ : Sg} {A : Nat → Option Addr} {ρ : Env} {H : Hp} {F : Addr → Prop} {Pn : List (Addr × W)} {k : Bool → Env → Out α} (hs : SRel c.K A σ ρ H F Pn)
    (h : OkX (((ev c.C e).t ρ).bind k) P (EX c A σ ρ H F Pn))
    (fin : ∀ b ρ2 H2 F2, Md c A σ ρ H F Pn [] [] ρ2 H2 F2 → OkX (k b ρ2) P (EX c A σ ρ H F Pn) → R b H2) : tXB c e σ H R :=
  ⟨A, ρ, F, Pn, hs, h.bind.mono (fun b ρ2 h2 H2 F2 st s => fin b ρ2 H2 F2 ⟨st, s, .nil, fun _ _ h => nomatch h⟩ h2) fun _ _ _ e => e⟩
/-- a later point -/
theorem PX.step {σ : Sg} {A : Nat → Option Addr} {ρ ρ1 ρ' : Env} {H H1 : Hp} {F F1 : Addr → Prop} {Pn : List (Addr × W)} {Q : VK} {x : Arg} (h : PX c A σ ρ H F Pn Q x ρ') (st : Stp σ ρ H F σ ρ1 H1 F1) : PX c A σ ρ1 H1 F1 Pn Q x ρ' :=
  fun v H' F' st' s ar fr => h v H' F' (st.trans st') s ar fun d y z => st.fresh (fr d y z)
theorem PB.step {σ : Sg} {A : Nat → Option Addr} {ρ ρ1 ρ' : Env} {H H1 : Hp} {F F1 : Addr → Prop} {Pn : List (Addr × W)} {Q : Bool → Hp → Prop} {x : Bool} (h : PB c A σ ρ H F Pn Q x ρ') (st : Stp σ ρ H F σ ρ1 H1 F1) : PB c A σ ρ1 H1 F1 Pn Q x ρ' :=
  fun H' F' st' s => h H' F' (st.trans st') s
theorem tX_at {e : E} {Q : VK} {σ : Sg} {A : Nat → Option Addr} {ρ ρ1 : Env} {H H1 : Hp} {F F1 : Addr → Prop} {Pn P1 : List (Addr × W)} (hs : SRel c.K A σ ρ1 H1 F1 (P1 ++ Pn)) (st : Stp σ ρ H F σ ρ1 H1 F1)
    (h : OkX ((ev c.C e).x ρ1) (PX c A σ ρ H F Pn Q) (EX c A σ ρ H F Pn)) : tX c e σ H1 Q :=
  ⟨A, ρ1, F1, Pn, hs.drop, h.mono (fun _ _ q => q.step st) fun _ _ _ q => by simpa using q.step (P1 := []) st⟩
theorem tXB_at {e : E} {Q : Bool → Hp → Prop} {σ : Sg} {A : Nat → Option Addr} {ρ ρ1 : Env} {H H1 : Hp} {F F1 : Addr → Prop} {Pn P1 : List (Addr × W)} (hs : SRel c.K A σ ρ1 H1 F1 (P1 ++ Pn)) (st : Stp σ ρ H F σ ρ1 H1 F1)
    (h : OkX ((ev c.C e).t ρ1) (PB c A σ ρ H F Pn Q) (EX c A σ ρ H F Pn)) : tXB c e σ H1 Q :=
  ⟨A, ρ1, F1, Pn, hs.drop, h.mono (fun _ _ q => q.step st) fun _ _ _ q => by simpa using q.step (P1 := []) st⟩
theorem x_ite {g : Expr} {ec : E} (hg : PT X g (tXB c ec)) (ha : PE X a (tX c ea)) (hb : PE X b (tX c eb)) : PE X (.IfExp g a b pos) (tX c (.ite ec ea eb)) := by
  refine peImp (pe_ifExp hg ha hb) fun σ H Q ⟨A, ρ, F, Pn, hs, q⟩ => ?_
  refine tXB_of hs q fun k ρ1 H1 F1 m q1 => ?_
  cases k with
  | true => exact iteT (tX_at m.sr m.st q1)
  | false => exact iteF (tX_at m.sr m.st q1)
theorem t_ite {g : Expr} {ec : E} (hg : PT X g (tXB c ec)) (ha : PT X a (tXB c ea)) (hb : PT X b (tXB c eb)) : PT X (.IfExp g a b pos) (tXB c (.ite ec ea eb)) := by
  refine ⟨fun pins s σ H Q I ⟨A, ρ, F, Pn, hs, q⟩ => ?_⟩
  have h : tXB c ec σ H fun k H1 => if k = true then tXB c ea σ H1 Q else tXB c eb σ H1 Q := by
    refine tXB_of hs q fun k ρ1 H1 F1 m q1 => ?_
    cases k with
    | true => exact iteT (tXB_at m.sr m.st q1)
    | false => exact iteF (tXB_at m.sr m.st q1)
  show wpAny _ _ (PySem.isTrue (.IfExp g a b pos) X.env (eval (.IfExp g a b pos) X.env)) _ _ _
  rw [PySem.isTrue]
  refine wpAny_bind (thn (hg.run pins s σ H _ I h) fun k s1 ⟨H1, I1, q1⟩ => ?_)
  cases k with
  | true => exact ha.run pins s1 σ H1 Q I1 (by simpa using q1)
  | false => exact hb.run pins s1 σ H1 Q I1 (by simpa using q1)
end
end Py

namespace Py
open PySem PySem.Spec PyProof.Rows L2
variable [HW]
section
variable {X : Cx} {c : Cf} {e a b : Expr} {ea eb : E} {rest : List Expr} {pos : Pos}
/-! ### and, or, not as tests -/
theorem x_dnw : PE X (.Dict [] [] pos) (tX c (.dsp .nil)) := by
  refine peImp pe_dnw fun σ H Q ⟨A, ρ, F, Pn, hs, q⟩ => ?_
  have q : PX c A σ ρ H F Pn Q (.val (.dct []) true) ρ := q
  intro p hp
  refine q (.ref p) _ F (.alloc hp) (by simpa [pnd] using hs.pend (w := .dct []) hp ⟨[], upd_same, Nat.zero_le _, List.nodup_nil, .nil⟩) ⟨p, rfl⟩ fun d x z => ?_
  obtain ⟨rfl, rfl⟩ : d = p ∧ x = .dct [] := by simpa [pnd] using z
  exact hp
theorem t_and1 (ha : PT X a (tXB c ea)) : PW X (.BoolOp .And [a] pos) (tXB c ea) := pw_and1 ha
theorem t_or1 (ha : PT X a (tXB c ea)) : PW X (.BoolOp .Or [a] pos) (tXB c ea) := pw_or1 ha
theorem pwImp {t t' : TT} (h : PW X e t) (i : ∀ σ H Q, t' σ H Q → t σ H Q) : PW X e t' := ⟨fun w pins s σ H Q I q => h.run w pins s σ H Q I (i σ H Q q)⟩
theorem t_and (ha : PT X a (tXB c ea)) (hb : PW X (.BoolOp .And (b :: rest) pos) (tXB c eb)) : PW X (.BoolOp .And (a :: b :: rest) pos) (tXB c (.and ea eb)) := by
  refine pwImp (pw_and ha hb) fun σ H Q ⟨A, ρ, F, Pn, hs, q⟩ => ?_
  refine tXB_of hs q fun k ρ1 H1 F1 m q1 => ?_
  cases k with
  | true => exact iteT (tXB_at m.sr m.st q1)
  | false => exact iteF (q1 H1 F1 m.st m.sr.drop)
theorem t_or (ha : PT X a (tXB c ea)) (hb : PW X (.BoolOp .Or (b :: rest) pos) (tXB c eb)) : PW X (.BoolOp .Or (a :: b :: rest) pos) (tXB c (.or ea eb)) := by
  refine pwImp (pw_or ha hb) fun σ H Q ⟨A, ρ, F, Pn, hs, q⟩ => ?_
  refine tXB_of hs q fun k ρ1 H1 F1 m q1 => ?_
  cases k with
  | false => exact iteF (tXB_at m.sr m.st q1)
  | true => exact iteT (q1 H1 F1 m.st m.sr.drop)
theorem t_not (ha : PT X a (tXB c ea)) : PT X (.UnaryOp .Not a pos) (tXB c (.not ea)) := by
  refine ptImp (pt_not ha) fun σ H Q ⟨A, ρ, F, Pn, hs, q⟩ => ?_
  exact tXB_of hs q fun k ρ1 H1 F1 m q1 => q1 H1 F1 m.st m.sr.drop
/-! ### as values -/
theorem x_and1 (h : PE X a (tX c ea)) : PE X (.BoolOp .And [a] pos) (tX c ea) := pe_one h
theorem x_or1 (h : PE X a (tX c ea)) : PE X (.BoolOp .Or [a] pos) (tX c ea) := pe_one h
theorem x_and (hc : c.K = X.K) (ha : PE X a (tX c ea)) (hb : PE X (.BoolOp .And (b :: rest) pos) (tX c eb)) : PE X (.BoolOp .And (a :: b :: rest) pos) (tX c (.and ea eb)) := by
  refine peImp (pe_andT ha hb) fun σ H Q ⟨A, ρ, F, Pn, hs, q⟩ => ?_
  have q : OkX (((ev c.C ea).x ρ).bind fun u ρ1 => match (res ρ1 u).bind truth with
        | some true => (ev c.C eb).x ρ1
        | some false => .ok u ρ1
        | none => .bad) (PX c A σ ρ H F Pn Q) (EX c A σ ρ H F Pn) := q
  refine tX_of (.nil hs) q fun u v ρ1 H1 F1 m q1 => ?_
  cases e1 : (res ρ1 u).bind truth with
  | none => simp only [e1] at q1; exact q1.elim
  | some k =>
    simp only [e1] at q1
    obtain ⟨w, e2, e3⟩ := res_bind e1
    obtain ⟨_, e, p1⟩ := (m.pk (ress1 e2)).one
    cases e
    refine ⟨k, by rw [← hc]; exact tru_of p1 e3, ?_⟩
    cases k with
    | true => exact iteT (tX_at m.sr m.st q1)
    | false =>
      refine iteF (q1 v H1 F1 m.st (by simpa [pnds] using m.sr) ?_ (fun d x z => m.fr d x (by simpa [pnds] using z)))
      cases m.ar with | cons h _ => exact h
theorem x_or (hc : c.K = X.K) (ha : PE X a (tX c ea)) (hb : PE X (.BoolOp .Or (b :: rest) pos) (tX c eb)) : PE X (.BoolOp .Or (a :: b :: rest) pos) (tX c (.or ea eb)) := by
  refine peImp (pe_orT ha hb) fun σ H Q ⟨A, ρ, F, Pn, hs, q⟩ => ?_
  have q : OkX (((ev c.C ea).x ρ).bind fun u ρ1 => match (res ρ1 u).bind truth with
        | some true => .ok u ρ1
        | some false => (ev c.C eb).x ρ1
        | none => .bad) (PX c A σ ρ H F Pn Q) (EX c A σ ρ H F Pn) := q
  refine tX_of (.nil hs) q fun u v ρ1 H1 F1 m q1 => ?_
  cases e1 : (res ρ1 u).bind truth with
  | none => simp only [e1] at q1; exact q1.elim
  | some k =>
    simp only [e1] at q1
    obtain ⟨w, e2, e3⟩ := res_bind e1
    obtain ⟨_, e, p1⟩ := (m.pk (ress1 e2)).one
    cases e
    refine ⟨k, by rw [← hc]; exact tru_of p1 e3, ?_⟩
    cases k with
    | false => exact iteF (tX_at m.sr m.st q1)
    | true =>
      refine iteT (q1 v H1 F1 m.st (by simpa [pnds] using m.sr) ?_ (fun d x z => m.fr d x (by simpa [pnds] using z)))
      cases m.ar with | cons h _ => exact h
theorem x_not (hc : c.K = X.K) (ha : PE X a (tX c ea)) : PE X (.UnaryOp .Not a pos) (tX c (.not ea)) := by
  refine peImp (pe_notT ha) fun σ H Q ⟨A, ρ, F, Pn, hs, q⟩ => ?_
  refine tX_of (.nil hs) q fun u v ρ1 H1 F1 m q1 => ?_
  obtain ⟨w, r, e1, e2, q3⟩ := l1_ok q1
  obtain ⟨_, e, p1⟩ := (m.pk e1).one
  cases e
  obtain ⟨k, e3, rfl⟩ := Option.map_eq_some_iff.mp e2
  exact ⟨k, by rw [← hc]; exact tru_of p1 e3, (m.fin (r := (.bl (!k), false)) q3).bl⟩

/-! ### argument lists, displays -/
def plainE : Expr → Bool
  | .Starred _ _ => false
  | _ => true
theorem star_cons (env : PySem.Env) (h : plainE e = true) (es : List Expr) : starEach (e :: es) env = (false, eval e env) :: starEach es env := by
  cases e <;> first | rfl | cases h
theorem star_all (env : PySem.Env) (p : Pos) : ∀ {es : List Expr}, es.all plainE = true → (backTo p (starEach es env)).any (·.1) = false ∧ (backTo p (starEach es env)).all (fun x => !x.1) = true
  | [], _ => ⟨rfl, rfl⟩
  | e :: es, h => by
    rw [List.all_cons, Bool.and_eq_true] at h
    rw [star_cons env h.1]
    obtain ⟨i1, i2⟩ := star_all env p h.2
    exact ⟨i1, i2⟩
theorem a_nil : PA X [] (tXL c .nil) := by
  refine paImp pa_nil fun σ H Q ⟨A, ρ, F, Pn, hs, q⟩ => ?_
  exact q [] H F .refl (by simpa [pnds] using hs) .nil fun d x z => by simp [pnds] at z
theorem a_cons {es : List Expr} {eas : E} (hp : plainE e = true) (ha : PE X e (tX c ea)) (hr : PA X es (tXL c eas)) : PA X (e :: es) (tXL c (.cons ea eas)) := by
  refine paImp (pa_cons ha hr (star_cons _ hp _)) fun σ H Q ⟨A, ρ, F, Pn, hs, q⟩ => ?_
  refine tX_ofG (.nil hs) q fun u v ρ1 H1 F1 m q1 => ?_
  refine ⟨A, ρ1, F1, pnd u v ++ Pn, by simpa [pnds] using m.sr, q1.bind.mono (fun as ρ2 h2 vs H2 F2 st s ar fr => ?_) fun _ _ _ e => e.step m.st⟩
  have ar1 : AR c.K σ H1 F1 u v := by cases m.ar with | cons h _ => exact h
  refine h2 (v :: vs) H2 F2 (m.st.trans st) (by simpa [pnds] using s) (.cons (ar1.stp m.sr st) ar) fun d x z => ?_
  simp only [pnds] at z
  rcases List.mem_append.mp z with z | z
  · exact m.st.fresh (fr d x z)
  · exact m.fr d x (by simpa [pnds] using z)
theorem Md.share {A : Nat → Option Addr} {σ : Sg} {ρ ρ1 ρ2 : Env} {H H1 : Hp} {F F1 : Addr → Prop} {Pn : List (Addr × W)} {as : List Arg} {vs : List V} {ws : List W} (m : Md c A σ ρ H F Pn as vs ρ1 H1 F1) (e : shrs ρ1 as = some (ws, ρ2)) :
    ∃ F2, Md c A σ ρ H F Pn [] [] ρ2 H1 F2 ∧ HRs c.K H1 F2 vs ws := by
  obtain ⟨F2, s2, r2, m2, t2⟩ := ARs.share (P1 := []) (Pn := Pn) (by simpa using m.sr) m.ar e
  exact ⟨F2, ⟨t2 H F ρ m.st m.fr, by simpa [pnds] using s2, .nil, fun _ _ h => nomatch h⟩, r2⟩
theorem x_tup {es : List Expr} {eas : E} {k : Nat} (ha : PA X es (tXL c eas)) : PE X (.Tuple es k pos) (tX c (.tup eas)) := by
  refine peImp (pe_tup ha) fun σ H Q ⟨A, ρ, F, Pn, hs, q⟩ => ?_
  refine tXL_of hs q fun as vs ρ1 H1 F1 m q1 => ?_
  cases e : shrs ρ1 as with
  | none => simp only [e] at q1; exact q1.elim
  | some p =>
    obtain ⟨ws, ρ2⟩ := p
    simp only [e] at q1
    obtain ⟨F2, m2, r2⟩ := m.share e
    by_cases hz : ws.length ≤ szL
    · rw [if_pos hz] at q1
      exact ⟨by rw [r2.length]; exact hz, fun p hp => m2.fin (r := (.tup ws, false)) q1 _ _ (.tup hp (by rw [r2.length]; exact hz) r2)⟩
    · rw [if_neg hz] at q1; exact q1.elim
theorem x_lst {es : List Expr} {eas : E} (ha : PA X es (tXL c eas)) : PE X (.List es pos) (tX c (.lst eas)) := by
  refine peImp (pe_lst ha) fun σ H Q ⟨A, ρ, F, Pn, hs, q⟩ => ?_
  refine tXL_of hs q fun as vs ρ1 H1 F1 m q1 => ?_
  cases e : shrs ρ1 as with
  | none => simp only [e] at q1; exact q1.elim
  | some p =>
    obtain ⟨ws, ρ2⟩ := p
    simp only [e] at q1
    obtain ⟨F2, m2, r2⟩ := m.share e
    by_cases hz : ws.length ≤ szL
    · rw [if_pos hz] at q1
      exact ⟨by rw [r2.length]; exact hz, fun p hp => m2.fin (r := (.lst ws, true)) q1 _ _ (.lst hp (by rw [r2.length]; exact hz) r2)⟩
    · rw [if_neg hz] at q1; exact q1.elim

/-! ### slices -/
theorem ARs.unsnoc {K : PySem.W.Frag} {σ : Sg} {H : Hp} {F : Addr → Prop} {u : Arg} {v : V} : ∀ {as : List Arg} {vs : List V}, as.length = vs.length → ARs K σ H F (as ++ [u]) (vs ++ [v]) → ARs K σ H F as vs
  | [], [], _, _ => .nil
  | _ :: as, _ :: vs, h, .cons x t => .cons x (ARs.unsnoc (by simpa using h) t)
theorem ARs.len {K : PySem.W.Frag} {σ : Sg} {H : Hp} {F : Addr → Prop} {as : List Arg} {vs : List V} (h : ARs K σ H F as vs) : as.length = vs.length := by
  induction h with
  | nil => rfl
  | cons _ _ ih => simp [ih]
theorem ARs.last {K : PySem.W.Frag} {σ : Sg} {H : Hp} {F : Addr → Prop} {u : Arg} {v : V} : ∀ {as : List Arg} {vs : List V}, as.length = vs.length → ARs K σ H F (as ++ [u]) (vs ++ [v]) → AR K σ H F u v
  | [], [], _, .cons x _ => x
  | _ :: as, _ :: vs, h, .cons _ t => ARs.last (as := as) (vs := vs) (by simpa using h) t
theorem pnds_snoc {u : Arg} {v : V} : ∀ {as : List Arg} {vs : List V}, as.length = vs.length → pnds (as ++ [u]) (vs ++ [v]) = pnd u v ++ pnds as vs
  | [], [], _ => by simp [pnds]
  | a :: as, x :: vs, h => by
    simp only [List.cons_append, pnds]
    rw [pnds_snoc (as := as) (vs := vs) (by simpa using h)]
    simp
theorem Md.unsnoc {A : Nat → Option Addr} {σ : Sg} {ρ ρ1 : Env} {H H1 : Hp} {F F1 : Addr → Prop} {Pn : List (Addr × W)} {as : List Arg} {vs : List V} {u : Arg} {v : V} (m : Md c A σ ρ H F Pn (as ++ [u]) (vs ++ [v]) ρ1 H1 F1) (hp : pnd u v = []) : Md c A σ ρ H F Pn as vs ρ1 H1 F1 := by
  have hl : as.length = vs.length := by have := m.ar.len; simpa using this
  have e : ∀ {as : List Arg} {vs : List V}, as.length = vs.length → pnds (as ++ [u]) (vs ++ [v]) = pnds as vs := by
    intro as
    induction as with
    | nil => intro vs h; cases vs <;> simp_all [pnds]
    | cons a as ih => intro vs h; cases vs with
      | nil => simp at h
      | cons x vs => simp only [List.cons_append, pnds]; rw [ih (by simpa using h)]
  exact ⟨m.st, by have := m.sr; rw [e hl] at this; exact this, ARs.unsnoc hl m.ar, fun d x z => m.fr d x (by rw [e hl]; exact z)⟩
/-- a slice's part: there, or not -/
def tPt (c : Cf) (l : Bool) (ea : E) : TO := if l = true then tPart (tX c ea) else tNoPart
inductive Part (X : Cx) (c : Cf) : Option Expr → Bool → E → Prop
  | none {ea : E} : Part X c none false ea
  | some {e : Expr} {ea : E} : PE X e (tX c ea) → Part X c (some e) true ea
theorem Part.po {o : Option Expr} {l : Bool} (h : Part X c o l ea) : PO X o (tPt c l ea) := by
  cases h with
  | none => exact po_none
  | some h => exact po_some h
theorem tPt_of {A : Nat → Option Addr} {σ : Sg} {ρ ρ1 : Env} {H H1 : Hp} {F F1 : Addr → Prop} {Pn : List (Addr × W)} {as : List Arg} {vs : List V} {Q : VK} {l : Bool} {R : Option Int → Hp → Prop} {k : Option Int → Env → Out Arg}
    (m : Md c A σ ρ H F Pn as vs ρ1 H1 F1) (h : OkX ((part l (ev c.C ea).x ρ1).bind k) (PX c A σ ρ H F Pn Q) (EX c A σ ρ H F Pn))
    (fin : ∀ i ρ2 H2 F2, Md c A σ ρ H F Pn as vs ρ2 H2 F2 → OkX (k i ρ2) (PX c A σ ρ H F Pn Q) (EX c A σ ρ H F Pn) → R i H2) : tPt c l ea σ H1 R := by
  cases l with
  | false => exact fin none ρ1 H1 F1 m h
  | true =>
    have h' : OkX (((ev c.C ea).x ρ1).bind fun v ρ2 => (match res ρ2 v with | some (.int i) => Out.ok (some i) ρ2 | _ => .bad).bind k) (PX c A σ ρ H F Pn Q) (EX c A σ ρ H F Pn) := by
      unfold part at h
      rw [if_pos rfl] at h
      cases e : (ev c.C ea).x ρ1 with
      | ok a ρ2 => rw [e] at h; exact h
      | ex x p ρ2 => rw [e] at h; exact h
      | bad => rw [e] at h; exact h
    refine tX_of m h' fun u v ρ2 H2 F2 m2 q2 => ?_
    cases e : res ρ2 u with
    | none => simp only [e] at q2; exact q2.elim
    | some w =>
      cases w with
      | int i =>
        simp only [e] at q2
        have ar : AR c.K σ H2 F2 u v := ARs.last m.ar.len m2.ar
        have hv : v = .int i := (ar.peek m2.sr (fun p hp => by rw [pnds_snoc m.ar.len]; simp [hp]) e).int
        subst hv
        exact ⟨i, rfl, fin _ ρ2 H2 F2 (m2.unsnoc (by cases u with | slot _ => rfl | val w f => cases f <;> rfl)) q2⟩
      | _ => simp only [e] at q2; exact q2.elim
theorem x_slc {lo hi : Option Expr} {l h : Bool} {el eh : E} {p2 : Pos} (hc : c.K = X.K) (ha : PE X a (tX c ea)) (hl : Part X c lo l el) (hh : Part X c hi h eh) : PE X (.Subscript a (.Slice lo hi none p2) pos) (tX c (.slc ea l h el eh)) := by
  refine peImp (pe_slice sl_W ha hl.po hh.po) fun σ H Q ⟨A, ρ, F, Pn, hs, q⟩ => ?_
  refine tX_of (.nil hs) q fun u v ρ1 H1 F1 m1 q1 => tPt_of m1 q1 fun i ρ2 H2 F2 m2 q2 => tPt_of m2 q2 fun j ρ3 H3 F3 m3 q3 => ?_
  obtain ⟨w, r, e1, e2, q4⟩ := l1_ok q3
  obtain ⟨_, e, p1⟩ := (m3.pk e1).one
  cases e
  rw [← hc]
  exact ⟨F3, w, r, p1, e2, m3.fin q4⟩

/-! ### built-in functions -/
def bName : BI → Option (Str × Value)
  | .len => some ("len", .builtin "len") | .abs => some ("abs", .builtin "abs") | .min => some ("min", .builtin "min") | .max => some ("max", .builtin "max") | .sum => some ("sum", .builtin "sum")
  | .all => some ("all", .builtin "all") | .any => some ("any", .builtin "any") | .int => some ("int", .type "int") | .bool => some ("bool", .type "bool") | .tuple => some ("tuple", .type "tuple") | .list => some ("list", .type "list")
  | _ => none
theorem bi_run {f : BI} {id : Str} {fv : Value} (hc : X.calm = true) (h : bName f = some (id, fv)) : CallR X fv (rL X.K (biW f)) := by
  cases f <;> first | (cases h; done) | cases Option.some.inj h
  · exact call_lenW
  · exact call_absW
  · exact call_intW
  · exact call_boolW
  · exact call_minW hc
  · exact call_maxW hc
  · exact call_sumW hc
  · exact call_allW hc
  · exact call_anyW hc
  · exact call_tupleW
  · exact call_listW
theorem bi_boot {f : BI} {id : Str} {fv : Value} (h : bName f = some (id, fv)) : bootBuiltins id = some fv ∧ id ≠ "__name__" ∧ (id == ("__debug__" : Str)) = false := by
  cases f <;> first | (cases h; done) | (cases Option.some.inj h; exact ⟨by decide +kernel, by decide +kernel, by decide +kernel⟩)
theorem x_bi {es : List Expr} {eas : E} {f : BI} {id : Str} {fv : Value} {p : Pos} (hc : c.K = X.K) (calm : X.calm = true) (hf : bName f = some (id, fv)) (hg : Gl X id) (hm : X.mg id = none) (hp : (e :: es).all plainE = true) (ha : PA X (e :: es) (tXL c eas)) :
    PE X (.Call (.Name id p) (e :: es) [] pos) (tX c (.bi f eas)) := by
  have hr := bi_run (X := X) calm hf
  obtain ⟨h1, h2, h3⟩ := bi_boot hf
  have hpe : plainE e = true := by rw [List.all_cons, Bool.and_eq_true] at hp; exact hp.1
  have hps : es.all plainE = true := by rw [List.all_cons, Bool.and_eq_true] at hp; exact hp.2
  have key : ∀ {t : TA → TE}, (∀ t', t t' = tCB (rL X.K (biW f)) t') → ∀ σ H Q, tX c (.bi f eas) σ H Q → t (tXL c eas) σ H Q := by
    intro t ht σ H Q ⟨A, ρ, F, Pn, hs, q⟩
    rw [ht]
    refine tXL_of hs q fun as vs ρ1 H1 F1 m q1 => ?_
    obtain ⟨w, r, e1, e2, q2⟩ := lL_ok q1
    rw [← hc]
    exact ⟨F1, w, r, m.pk e1, e2, m.fin q2⟩
  cases fv with
  | builtin n => exact peImp (pe_callB hr hg hm h1 ha h2 h3 (star_cons _ hpe _) (star_all _ _ hps).1) (key fun _ => rfl)
  | type n => exact peImp (pe_callTy hr hg hm h1 ha h2 h3 (star_cons _ hpe _) (star_all _ _ hps).1) (key fun _ => rfl)
  | _ => cases f <;> cases hf
end
end Py

namespace Py
open PySem PySem.Spec PyProof.Rows L2
variable [HW]
/-! ### isinstance -/
def tyN : W → String
  | .non => "NoneType" | .bl _ => "bool" | .int _ => "int" | .str _ => "str" | .tup _ => "tuple" | .lst _ => "list" | .dct _ => "dict" | .st _ => "set"
def tyT : Ty → String
  | .int => "int" | .bool => "bool" | .str => "str" | .tuple => "tuple" | .list => "list" | .dict => "dict"
theorem kit_all : ∀ (t : Ty) (w : W), (∀ l, w ≠ .st l) → kitB (tyN w) (tyT t) = some (isTy t w) := by
  have h : ∀ t : Ty, kitB "NoneType" (tyT t) = some (isTy t .non) ∧ kitB "bool" (tyT t) = some (isTy t (.bl true)) ∧ kitB "int" (tyT t) = some (isTy t (.int 0)) ∧ kitB "str" (tyT t) = some (isTy t (.str [])) ∧
      kitB "tuple" (tyT t) = some (isTy t (.tup [])) ∧ kitB "list" (tyT t) = some (isTy t (.lst [])) ∧ kitB "dict" (tyT t) = some (isTy t (.dct [])) := by
    intro t
    cases t <;> decide +kernel
  intro t w hw
  obtain ⟨h1, h2, h3, h4, h5, h6, h7⟩ := h t
  cases w with
  | non => exact h1
  | bl b => exact h2.trans (by cases t <;> rfl)
  | int b => exact h3.trans (by cases t <;> rfl)
  | str b => exact h4.trans (by cases t <;> rfl)
  | tup b => exact h5.trans (by cases t <;> rfl)
  | lst b => exact h6.trans (by cases t <;> rfl)
  | dct b => exact h7.trans (by cases t <;> rfl)
  | st l => exact absurd rfl (hw l)
theorem tyX_of {K : PySem.W.Frag} {H : Hp} {F : Addr → Prop} {v : V} {w : W} (h : PkR K H F v w) (hd : isD w = false) : TyX K H v (.type (tyN w)) := by
  cases w with
  | non => rw [h.non]; exact .base .non
  | bl b => rw [h.bl]; exact .base (.bl b)
  | int b => rw [h.int]; exact .base (.int b)
  | str b => rw [h.str.1]; exact .base (.str _)
  | tup b =>
    obtain ⟨p, vs, rfl, hs, _, _⟩ := h.tup
    rcases hs with (hs | ⟨o, hs⟩) | ⟨o, its, n, hk, hc, _⟩
    · exact .base (.tup hs)
    · exact .fTuple hs
    · exact .kTuple hk hc
  | lst b =>
    obtain ⟨p, vs, rfl, hs, _, _⟩ := h.rd
    rcases hs with hs | ⟨o, hs⟩
    · exact .base (.lst hs)
    · exact .base (.frz hs)
  | dct b => cases hd
  | st b => exact h.st.elim
theorem ty_boot (t : Ty) : bootBuiltins (Str.ofString (tyT t)) = some (.type (tyT t)) ∧ (Str.ofString (tyT t)) ≠ "__name__" ∧ ((Str.ofString (tyT t)) == ("__debug__" : Str)) = false := by
  cases t <;> exact ⟨by decide +kernel, by decide +kernel, by decide +kernel⟩
section
variable {X : Cx} {c : Cf} {e a b o : Expr} {ea eb eo : E} {rest : List Expr} {pos p p2 apos : Pos}
theorem x_isi {t : Ty} (hc : c.K = X.K) (hg : Gl X "isinstance") (hm : X.mg "isinstance" = none) (hg2 : Gl X (Str.ofString (tyT t))) (hm2 : X.mg (Str.ofString (tyT t)) = none) (hp : plainE a = true) (ha : PE X a (tX c ea)) :
    PE X (.Call (.Name "isinstance" p) [a, .Name (Str.ofString (tyT t)) p2] [] pos) (tX c (.isi ea t)) := by
  obtain ⟨b1, b2, b3⟩ := ty_boot t
  have h2 : PE X (.Name (Str.ofString (tyT t)) p2) (tC (.ty (tyT t))) := pe_bltn hg2 hm2 b1 rfl b2 b3
  refine peImp (pe_callB call_isi hg hm (by decide +kernel) (pa_cons ha (pa_cons h2 pa_nil) (star_cons _ hp _)) (by decide) (by decide) (star_cons _ hp _) rfl) fun σ H Q ⟨A, ρ, F, Pn, hs, q⟩ => ?_
  refine tX_of (.nil hs) q fun u v ρ1 H1 F1 m q1 => ?_
  obtain ⟨w, r, e1, e2, q2⟩ := l1_ok q1
  obtain ⟨_, e, p1⟩ := (m.pk e1).one
  cases e
  by_cases hd : isD w = true
  · rw [if_pos hd] at e2; cases e2
  rw [if_neg hd] at e2
  have hd : isD w = false := by simpa using hd
  cases Option.some.inj e2
  refine ⟨v, .ty (tyT t), .type (tyN w), .type (tyT t), isTy t w, rfl, .ty _, by rw [← hc]; exact tyX_of p1 hd, kit_ty (kit_all t w fun l h => ?_), (m.fin (r := (.bl (isTy t w), false)) q2).bl⟩
  subst h; exact p1.st

/-! ### methods that read -/
theorem base_plain {attr : Str} {env : PySem.Env} {w : Sem Value} (h : ∀ id q r, o ≠ .Call (.Name id q) [] [] r) : attributeBase o attr env w = w := by
  unfold attributeBase
  split
  · exact absurd rfl (h _ _ _)
  · rfl
theorem idx_rel : ∀ {y : W} {ws : List W} {n : Nat}, dep y < 1000 → deps ws < 1000 → idxW y ws = some n → ∃ z, (pds ws)[n]? = some z ∧ PyData.eqv z (pd y) = true ∧ ∀ m z', m < n → (pds ws)[m]? = some z' → PyData.eqv z' (pd y) = false
  | y, [], n, _, _, e => by cases e
  | y, w :: ws, n, h1, h2, e => by
    simp only [deps] at h2
    simp only [idxW] at e
    by_cases k : eqW w y = true
    · rw [if_pos k] at e
      cases Option.some.inj e
      refine ⟨pd w, rfl, by rw [eqv_pd (v := .non) (v' := .non) w y (by omega) h1]; exact k, fun m z' h => by omega⟩
    · rw [if_neg k] at e
      obtain ⟨m, e', rfl⟩ := Option.map_eq_some_iff.mp e
      obtain ⟨z, a1, a2, a3⟩ := idx_rel h1 (by omega) e'
      refine ⟨z, a1, a2, fun i z' hi hz => ?_⟩
      cases i with
      | zero =>
        simp only [pds, List.getElem?_cons_zero] at hz
        cases Option.some.inj hz
        rw [eqv_pd (v := .non) (v' := .non) w y (by omega) h1]
        exact Bool.not_eq_true _ ▸ k
      | succ i => exact a3 i z' (by omega) (by simpa [pds] using hz)
def mName : MI → Option (Str × String × String)
  | .index => some ("index", "list", "list.index")
  | _ => none
def rM (K : PySem.W.Frag) (f : W → List W → Option (W × Bool)) : V → List V → Hp → VK → Prop := fun x xs H Q => ∃ F w ws r, PkR K H F x w ∧ PkRs K H F xs ws ∧ f w ws = some r ∧ Rs K H F Q r
theorem mt_indexW (hu : X.A.units + 200 < cLine) : MtR X "list.index" (rM X.K (mthW .index)) := by
  intro pins s σ H x xs v us Q I rx rxs ⟨F, w, ws, r, a, b, e, q⟩
  match w, ws, e, a, b with
  | .lst ys, [y], e, a, b =>
    obtain ⟨⟨d1, d2⟩, e7⟩ : (dep y ≤ 64 ∧ deps ys ≤ 60) ∧ (idxW y ys).map (fun (n : Nat) => (W.int (n : Int), false)) = some r := by
      have e : (if dep y ≤ 64 ∧ deps ys ≤ 60 then (idxW y ys).map (fun (n : Nat) => (W.int (n : Int), false)) else none) = some r := e
      by_cases k : dep y ≤ 64 ∧ deps ys ≤ 60
      · rw [if_pos k] at e; exact ⟨k, e⟩
      · rw [if_neg k] at e; cases e
    obtain ⟨n, e8, rfl⟩ := Option.map_eq_some_iff.mp e7
    obtain ⟨z, h1, h2, h3⟩ := idx_rel (by omega) (by omega) e8
    obtain ⟨y', rfl, b2⟩ := b.one
    obtain ⟨p, vs, rfl, hs, hz, hr⟩ := a.lst
    have hl := a.dp (by simp only [dep]; omega)
    simp only [pd] at hl
    have sh := shaped_of a (by simp only [dep]; omega)
    simp only [pd] at sh
    exact mt_indexD (by omega) pins s σ H _ _ v us Q I rx rxs ⟨p, y', pd y, pds ys, n, z, rfl, rfl, hl, b2.dp (by omega), sh, shaped_of b2 d1, h1, h2, h3, q.int⟩
theorem x_mth {es : List Expr} {eas : E} {name : Str} (hc : c.K = X.K) (hu : X.A.units + 200 < cLine) (hn : name = "index") (hb : ∀ id q r, o ≠ .Call (.Name id q) [] [] r) (hl : (apos.endLine == pos.line) = true)
    (hp : (e :: es).all plainE = true) (hfew : (e :: es).length < 30) (ho : PE X o (tX c eo)) (ha : PA X (e :: es) (tXL c eas)) : PE X (.Call (.Attribute o name apos) (e :: es) [] pos) (tX c (.mth .index eo eas)) := by
  subst hn
  have hpe : plainE e = true := by rw [List.all_cons, Bool.and_eq_true] at hp; exact hp.1
  have hps : es.all plainE = true := by rw [List.all_cons, Bool.and_eq_true] at hp; exact hp.2
  refine peImp (pe_bm PySem.F.plainAttrs_list PySem.F.slot_list_index PySem.F.type_list_index (mt_indexW hu) ho ha (base_plain hb) ?_ hl (star_cons _ hpe _) (star_all _ _ hps).1) fun σ H Q ⟨A, ρ, F, Pn, hs, q⟩ => ?_
  · rw [(star_all _ _ hp).2]
    simp [backToKw, keywordEach] at hfew ⊢
    omega
  · refine tX_of (.nil hs) q fun u v ρ1 H1 F1 m1 q1 => ?_
    cases e1 : (res ρ1 u).bind (mTy .index) with
    | none => simp only [e1] at q1; exact q1.elim
    | some k =>
      simp only [e1] at q1
      obtain ⟨w, e2, e3⟩ := res_bind e1
      obtain ⟨_, e, p1⟩ := (m1.pk (ress1 e2)).one
      cases e
      cases w <;> first | (cases e3; done) | skip
      obtain ⟨p, vs, rfl, hsq, _, _⟩ := p1.lst
      refine ⟨.inl ⟨rfl, vs, by rw [← hc]; exact hsq⟩, A, ρ1, F1, pnds [u] [.ref p] ++ Pn, m1.sr, q1.bind.mono (fun as ρ2 h2 vs' H2 F2 st s ar fr => ?_) fun _ _ _ e => e.step m1.st⟩
      have m2 : Md c A σ ρ H F Pn (u :: as) (.ref p :: vs') ρ2 H2 F2 := by
        refine ⟨m1.st.trans st, by simpa [pnds] using s, ?_, fun d x z => ?_⟩
        · cases m1.ar with | cons h _ => exact .cons (h.stp m1.sr st) ar
        · simp only [pnds] at z
          rcases List.mem_append.mp z with z | z
          · exact m1.st.fresh (fr d x z)
          · exact m1.fr d x (by simpa [pnds] using z)
      cases e4 : res ρ2 u with
      | none => simp only [e4] at h2; exact h2.elim
      | some w =>
        simp only [e4] at h2
        obtain ⟨ws, r, e5, e6, q3⟩ := lL_ok h2
        have pk := m2.pk (ws := w :: ws) (by simp [ress, e4, e5])
        cases pk with | cons k1 k2 =>
        rw [← hc]
        exact ⟨F2, w, ws, r, k1, k2, e6, m2.fin q3⟩
end
end Py

namespace Py
open PySem PySem.Spec PyProof.Rows L2
variable [HW]

/-- what a def promises: C j is what it gives -/
def spF (K : PySem.W.Frag) (cls : Nat → Value) (C : Fn) (fd : FD) (N : List Str) (j : Nat) : Sp := fun vs H Q E => vs.length = fd.m.length ∧ ∃ A F ws, ws.length = fd.m.length ∧ SRel K A (L2.start N vs) (env0 fd ws) H F [] ∧
  match C j ws with
  | .bad => False
  | .ret w fr ios => ∀ v H' F' σ' ρ', Stp (L2.start N vs) (env0 fd ws) H F σ' ρ' H' F' → SRel K A σ' ρ' H' F' (pnd (.val w fr) v) → ioE ρ' 0 fd.m = some ios → (fr = true → ∃ a, v = .ref a ∧ H a = none) → (fr = false → HR K H' F' v w) → Q v H'
  | .ex x p ios => ∀ H' F' σ' ρ' d, Stp (L2.start N vs) (env0 fd ws) H F σ' ρ' H' F' → SRel K A σ' ρ' H' F' [] → ioE ρ' 0 fd.m = some ios → ExD p d H' → E (cls x) d H'

section
variable {K : PySem.W.Frag} {A : Nat → Option Addr} {σ : Sg} {H : Hp}

def pndM : List Bool → List Arg → List V → List (Addr × W)
  | false :: m, _ :: as, _ :: vs => pndM m as vs
  | true :: m, a :: as, v :: vs => pndM m as vs ++ pnd a v
  | _, _, _ => []
inductive OW (K : PySem.W.Frag) (σ : Sg) (H : Hp) (F : Addr → Prop) : List Bool → List Arg → List V → List (Option W) → Prop
  | nil : OW K σ H F [] [] [] []
  | sh {m : List Bool} {a : Arg} {as : List Arg} {v : V} {vs : List V} {w : W} {ws : List (Option W)} : HR K H F v w → OW K σ H F m as vs ws → OW K σ H F (false :: m) (a :: as) (v :: vs) (some w :: ws)
  | io {m : List Bool} {a : Arg} {as : List Arg} {v : V} {vs : List V} {ws : List (Option W)} : AR K σ H F a v → OW K σ H F m as vs ws → OW K σ H F (true :: m) (a :: as) (v :: vs) (none :: ws)
theorem pndM_sub : ∀ {m : List Bool} {as : List Arg} {vs : List V} {p : Addr × W}, p ∈ pndM m as vs → p ∈ pnds as vs
  | false :: m, _ :: as, _ :: vs, p, h => List.mem_append_left _ (pndM_sub (m := m) h)
  | true :: m, a :: as, v :: vs, p, h => by
    simp only [pndM] at h
    rcases List.mem_append.mp h with h | h
    · exact List.mem_append_left _ (pndM_sub h)
    · exact List.mem_append_right _ h
  | [], _, _, p, h => by simp [pndM] at h
  | false :: _, [], _, p, h => by simp [pndM] at h
  | true :: _, [], _, p, h => by simp [pndM] at h
  | false :: _, _ :: _, [], p, h => by simp [pndM] at h
  | true :: _, _ :: _, [], p, h => by simp [pndM] at h
theorem shM_ok : ∀ {m : List Bool} {as : List Arg} {vs : List V} {ows : List (Option W)} {P1 Pn : List (Addr × W)} {ρ ρ' : Env} {F : Addr → Prop}, SRel K A σ ρ H F (P1 ++ (pnds as vs ++ Pn)) → ARs K σ H F as vs → shM ρ m as = some (ows, ρ') →
    ∃ F', SRel K A σ ρ' H F' (P1 ++ (pndM m as vs ++ Pn)) ∧ OW K σ H F' m as vs ows ∧ (∀ a, F a → F' a) ∧ ∀ H0 F0 ρ0, Stp σ ρ0 H0 F0 σ ρ H F → (∀ c x, (c, x) ∈ pnds as vs → H0 c = none) → Stp σ ρ0 H0 F0 σ ρ' H F'
  | [], [], [], ows, P1, Pn, ρ, ρ', F, hs, .nil, e => by
    obtain ⟨rfl, rfl⟩ : [] = ows ∧ ρ = ρ' := by simpa [shM] using e
    exact ⟨F, hs, .nil, fun _ h => h, fun _ _ _ st _ => st⟩
  | false :: m, a :: as, v :: vs, ows, P1, Pn, ρ, ρ', F, hs, .cons h t, e => by
    unfold shM at e
    cases q1 : shr ρ a with
    | none => simp [q1] at e
    | some x =>
      obtain ⟨w, ρ1⟩ := x
      cases q2 : shM ρ1 m as with
      | none => simp [q1, q2] at e
      | some y =>
        obtain ⟨us, ρ2⟩ := y
        obtain ⟨rfl, rfl⟩ : some w :: us = ows ∧ ρ2 = ρ' := by simpa [q1, q2] using e
        have hs1 : SRel K A σ ρ H F ((P1 ++ pnds as vs) ++ pnd a v ++ Pn) := by simpa [pnds] using hs
        obtain ⟨F1, s1, r1, m1, t1⟩ := h.share hs1 q1
        obtain ⟨F2, s2, r2, m2, t2⟩ := shM_ok (P1 := P1) (by simpa using s1) (t.more m1) q2
        exact ⟨F2, s2, .sh (r1.more m2) r2, fun c z => m2 c (m1 c z), fun H0 F0 ρ0 st hn => t2 H0 F0 ρ0 (t1 H0 F0 ρ0 st fun c x z => hn c x (by simp [pnds, z])) fun c x z => hn c x (by simp [pnds, z])⟩
  | true :: m, a :: as, v :: vs, ows, P1, Pn, ρ, ρ', F, hs, .cons h t, e => by
    unfold shM at e
    cases q2 : shM ρ m as with
    | none => simp [q2] at e
    | some y =>
      obtain ⟨us, ρ2⟩ := y
      obtain ⟨rfl, rfl⟩ : none :: us = ows ∧ ρ2 = ρ' := by simpa [q2] using e
      obtain ⟨F2, s2, r2, m2, t2⟩ := shM_ok (P1 := P1) (Pn := pnd a v ++ Pn) (by simpa [pnds] using hs) t q2
      exact ⟨F2, by simpa [pndM] using s2, .io (h.more m2) r2, m2, fun H0 F0 ρ0 st hn => t2 H0 F0 ρ0 st fun c x z => hn c x (by simp [pnds, z])⟩
  | [], _ :: _, _, _, _, _, _, _, _, _, _, e => by simp [shM] at e
  | false :: _, [], _, _, _, _, _, _, _, _, _, e => by simp [shM] at e
  | true :: _, [], _, _, _, _, _, _, _, _, _, e => by simp [shM] at e

/-- the places that the callee changes -/
def IoAt (ρ : Env) (us : List Nat) (ows : List (Option W)) (as : List Arg) (ws : List W) : Prop := ws.length = ows.length ∧
    (∀ (k : Nat) (w : W), ows[k]? = some (some w) → ws[k]? = some w) ∧
    (∀ (k : Nat), ows[k]? = some none → (∃ w, as[k]? = some (.val w true) ∧ ws[k]? = some w) ∨ ∃ i w f, as[k]? = some (.slot i) ∧ wOf ρ i = some (w, f) ∧ (f = Fl.own ∨ f = Fl.io) ∧ ws[k]? = some w ∧ i ∉ us) ∧
    (∀ (k k' i : Nat), ows[k]? = some none → ows[k']? = some none → as[k]? = some (.slot i) → as[k']? = some (.slot i) → k = k')
theorem IoAt.sh {ρ : Env} {us : List Nat} {ows : List (Option W)} {as : List Arg} {ws : List W} {w : W} {a : Arg} (h : IoAt ρ us ows as ws) : IoAt ρ us (some w :: ows) (a :: as) (w :: ws) := by
  obtain ⟨h0, h1, h2, h3⟩ := h
  refine ⟨by simp [h0], fun k w' h => ?_, fun k h => ?_, fun k k' i a1 a2 a3 a4 => ?_⟩
  · cases k with
    | zero => simpa using h
    | succ k => simpa using h1 k w' (by simpa using h)
  · cases k with
    | zero => simp at h
    | succ k => simpa using h2 k (by simpa using h)
  · cases k with
    | zero => simp at a1
    | succ k => cases k' with
      | zero => simp at a2
      | succ k' => rw [h3 k k' i (by simpa using a1) (by simpa using a2) (by simpa using a3) (by simpa using a4)]
theorem IoAt.pn {ρ : Env} {us : List Nat} {ows : List (Option W)} {as : List Arg} {ws : List W} {w : W} (h : IoAt ρ us ows as ws) : IoAt ρ us (none :: ows) (.val w true :: as) (w :: ws) := by
  obtain ⟨h0, h1, h2, h3⟩ := h
  refine ⟨by simp [h0], fun k w' h => ?_, fun k h => ?_, fun k k' i a1 a2 a3 a4 => ?_⟩
  · cases k with
    | zero => simp at h
    | succ k => simpa using h1 k w' (by simpa using h)
  · cases k with
    | zero => exact .inl ⟨w, rfl, rfl⟩
    | succ k => simpa using h2 k (by simpa using h)
  · cases k with
    | zero => simp at a3
    | succ k => cases k' with
      | zero => simp at a4
      | succ k' => rw [h3 k k' i (by simpa using a1) (by simpa using a2) (by simpa using a3) (by simpa using a4)]
theorem IoAt.sl {ρ : Env} {us : List Nat} {ows : List (Option W)} {as : List Arg} {ws : List W} {w : W} {f : Fl} {i : Nat} (hw : wOf ρ i = some (w, f)) (hf : f = .own ∨ f = .io) (hu : us.contains i = false) (h : IoAt ρ (i :: us) ows as ws) : IoAt ρ us (none :: ows) (.slot i :: as) (w :: ws) := by
  obtain ⟨h0, h1, h2, h3⟩ := h
  have hu' : i ∉ us := fun z => by rw [List.contains_iff_mem.mpr z] at hu; cases hu
  refine ⟨by simp [h0], fun k w' h => ?_, fun k h => ?_, fun k k' j a1 a2 a3 a4 => ?_⟩
  · cases k with
    | zero => simp at h
    | succ k => simpa using h1 k w' (by simpa using h)
  · cases k with
    | zero => exact .inr ⟨i, w, f, rfl, hw, hf, rfl, hu'⟩
    | succ k =>
      rcases h2 k (by simpa using h) with ⟨w', x1, x2⟩ | ⟨i', w', f', x1, x2, x3, x4, x5⟩
      · exact .inl ⟨w', by simpa using x1, by simpa using x2⟩
      · exact .inr ⟨i', w', f', by simpa using x1, x2, x3, by simpa using x4, fun z => x5 (List.mem_cons_of_mem _ z)⟩
  · cases k with
    | zero =>
      cases k' with
      | zero => rfl
      | succ k' =>
        obtain rfl : i = j := by simpa using a3
        rcases h2 k' (by simpa using a2) with ⟨w', x1, x2⟩ | ⟨i', w', f', x1, x2, x3, x4, x5⟩
        · rw [show as[k']? = some (.slot i) by simpa using a4] at x1; cases x1
        · rw [show as[k']? = some (.slot i) by simpa using a4] at x1; cases x1
          exact absurd List.mem_cons_self x5
    | succ k => cases k' with
      | zero =>
        obtain rfl : i = j := by simpa using a4
        rcases h2 k (by simpa using a1) with ⟨w', x1, x2⟩ | ⟨i', w', f', x1, x2, x3, x4, x5⟩
        · rw [show as[k]? = some (.slot i) by simpa using a3] at x1; cases x1
        · rw [show as[k]? = some (.slot i) by simpa using a3] at x1; cases x1
          exact absurd List.mem_cons_self x5
      | succ k' => rw [h3 k k' j (by simpa using a1) (by simpa using a2) (by simpa using a3) (by simpa using a4)]
theorem ioW_at {ρ : Env} : ∀ {ows : List (Option W)} {as : List Arg} {ws : List W} {us : List Nat}, ioW ρ us ows as = some ws → IoAt ρ us ows as ws
  | [], [], ws, us, e => by
    obtain rfl : [] = ws := by simpa [ioW] using e
    exact ⟨rfl, fun k w h => by simp at h, fun k h => by simp at h, fun k k' i h => by simp at h⟩
  | some w :: ows, a :: as, ws, us, e => by
    unfold ioW at e
    obtain ⟨us', e', he⟩ := Option.map_eq_some_iff.mp e
    rw [← he]
    exact (ioW_at e').sh
  | none :: ows, .val w false :: as, ws, us, e => by simp [ioW] at e
  | none :: ows, .val w true :: as, ws, us, e => by
    simp only [ioW] at e
    obtain ⟨us', e', he⟩ := Option.map_eq_some_iff.mp e
    rw [← he]
    exact (ioW_at e').pn
  | none :: ows, .slot i :: as, ws, us, e => by
    simp only [ioW] at e
    cases hu : us.contains i with
    | true => rw [hu] at e; simp at e
    | false =>
      rw [hu] at e
      simp only [Bool.false_eq_true, if_false] at e
      cases hw : wOf ρ i with
      | none => rw [hw] at e; cases e
      | some x =>
        obtain ⟨w, f⟩ := x
        rw [hw] at e
        cases f with
        | own =>
          obtain ⟨us', e', he⟩ := Option.map_eq_some_iff.mp e
          rw [← he]
          exact (ioW_at e').sl hw (.inl rfl) hu
        | io =>
          obtain ⟨us', e', he⟩ := Option.map_eq_some_iff.mp e
          rw [← he]
          exact (ioW_at e').sl hw (.inr rfl) hu
        | sh => cases e
        | ownL => cases e
        | ioL => cases e
  | [], _ :: _, _, _, e => by simp [ioW] at e
  | some _ :: _, [], _, _, e => by simp [ioW] at e
  | none :: _, [], _, _, e => by simp [ioW] at e

theorem OW.len {F : Addr → Prop} {m : List Bool} {as : List Arg} {vs : List V} {ws : List (Option W)} (h : OW K σ H F m as vs ws) : as.length = m.length ∧ vs.length = m.length ∧ ws.length = m.length := by
  induction h with
  | nil => exact ⟨rfl, rfl, rfl⟩
  | sh _ _ ih => simp [ih]
  | io _ _ ih => simp [ih]
theorem OW.at {F : Addr → Prop} {m : List Bool} {as : List Arg} {vs : List V} {ws : List (Option W)} (h : OW K σ H F m as vs ws) : ∀ (k : Nat) (b : Bool), m[k]? = some b → ∃ a v, as[k]? = some a ∧ vs[k]? = some v ∧
    ((b = false ∧ ∃ w, ws[k]? = some (some w) ∧ HR K H F v w) ∨ (b = true ∧ ws[k]? = some none ∧ AR K σ H F a v)) := by
  induction h with
  | nil => intro k b e; simp at e
  | sh r _ ih =>
    intro k b e
    cases k with
    | zero => exact ⟨_, _, rfl, rfl, .inl ⟨by simpa using e.symm, _, rfl, r⟩⟩
    | succ k => simpa using ih k b (by simpa using e)
  | io r _ ih =>
    intro k b e
    cases k with
    | zero => exact ⟨_, _, rfl, rfl, .inr ⟨by simpa using e.symm, rfl, r⟩⟩
    | succ k => simpa using ih k b (by simpa using e)
theorem pndM_mem : ∀ {m : List Bool} {as : List Arg} {vs : List V} (k : Nat) {a : Arg} {v : V}, m[k]? = some true → as[k]? = some a → vs[k]? = some v → ∀ p ∈ pnd a v, p ∈ pndM m as vs
  | b :: m, a' :: as, v' :: vs, 0, a, v, h1, h2, h3, p, hp => by
    obtain rfl : b = true := by simpa using h1
    obtain rfl : a' = a := by simpa using h2
    obtain rfl : v' = v := by simpa using h3
    exact List.mem_append_right _ hp
  | b :: m, a' :: as, v' :: vs, k + 1, a, v, h1, h2, h3, p, hp => by
    have ih := pndM_mem (m := m) (as := as) (vs := vs) k (by simpa using h1) (by simpa using h2) (by simpa using h3) p hp
    cases b with
    | true => exact List.mem_append_left _ ih
    | false => exact ih
  | [], _, _, _, _, _, h, _, _, _, _ => by simp at h
  | _ :: _, [], _, _, _, _, _, h, _, _, _ => by simp at h
  | _ :: _, _ :: _, [], _, _, _, _, _, h, _, _ => by simp at h
/-- two places with one new object are one -/
theorem pndM_inj : ∀ {m : List Bool} {as : List Arg} {vs : List V} (k k' : Nat) {w w' : W} {c : Addr}, ((pndM m as vs).map (·.1)).Nodup → m[k]? = some true → m[k']? = some true → as[k]? = some (.val w true) → as[k']? = some (.val w' true) → vs[k]? = some (.ref c) → vs[k']? = some (.ref c) → k = k'
  | b :: m, a :: as, v :: vs, 0, 0, _, _, _, _, _, _, _, _, _, _ => rfl
  | b :: m, a :: as, v :: vs, 0, k + 1, w, w', c, nd, h1, h2, h3, h4, h5, h6 => by
    obtain rfl : b = true := by simpa using h1
    obtain rfl : a = .val w true := by simpa using h3
    obtain rfl : v = .ref c := by simpa using h5
    have x := pndM_mem (m := m) (as := as) (vs := vs) k (by simpa using h2) (by simpa using h4) (by simpa using h6) (c, w') (by simp [pnd])
    simp only [pndM, List.map_append] at nd
    exact absurd rfl ((List.nodup_append.mp nd).2.2 c (List.mem_map_of_mem (f := (·.1)) x) c (by simp [pnd]))
  | b :: m, a :: as, v :: vs, k + 1, 0, w, w', c, nd, h1, h2, h3, h4, h5, h6 => by
    obtain rfl : b = true := by simpa using h2
    obtain rfl : a = .val w' true := by simpa using h4
    obtain rfl : v = .ref c := by simpa using h6
    have x := pndM_mem (m := m) (as := as) (vs := vs) k (by simpa using h1) (by simpa using h3) (by simpa using h5) (c, w) (by simp [pnd])
    simp only [pndM, List.map_append] at nd
    exact absurd rfl ((List.nodup_append.mp nd).2.2 c (List.mem_map_of_mem (f := (·.1)) x) c (by simp [pnd]))
  | b :: m, a :: as, v :: vs, k + 1, k' + 1, w, w', c, nd, h1, h2, h3, h4, h5, h6 => by
    have nd' : ((pndM m as vs).map (·.1)).Nodup := by
      cases b with
      | true => simp only [pndM, List.map_append] at nd; exact (List.nodup_append.mp nd).1
      | false => exact nd
    rw [pndM_inj (m := m) (as := as) (vs := vs) k k' nd' (by simpa using h1) (by simpa using h2) (by simpa using h3) (by simpa using h4) (by simpa using h5) (by simpa using h6)]
  | [], _, _, _, _, _, _, _, _, h, _, _, _, _, _ => by simp at h
  | _ :: _, [], _, _, _, _, _, _, _, _, _, h, _, _, _ => by simp at h
  | _ :: _, _ :: _, [], _, _, _, _, _, _, _, _, _, _, h, _ => by simp at h

theorem env0_get {fd : FD} {ws : List W} {k : Nat} {w : W} {f : Fl} (hl : ws.length = fd.m.length) (h : (env0 fd ws)[k]? = some (some (w, f))) : ∃ b, ws[k]? = some w ∧ fd.m[k]? = some b ∧ f = if b then Fl.io else Fl.sh := by
  unfold env0 at h
  by_cases hk : k < (ws.zip fd.m).length
  · rw [List.getElem?_append_left (by simpa using hk), List.getElem?_map] at h
    cases e : (ws.zip fd.m)[k]? with
    | none => rw [e] at h; cases h
    | some p =>
      rw [e] at h
      obtain ⟨w', b⟩ := p
      have h1 : w' = w ∧ (if b then Fl.io else Fl.sh) = f := by simpa using h
      obtain ⟨rfl, rfl⟩ := h1
      rw [List.getElem?_zip_eq_some] at e
      exact ⟨b, e.1, e.2, rfl⟩
  · rw [List.getElem?_append_right (by simpa using hk), List.getElem?_replicate] at h
    split at h <;> cases h
theorem env0_len {fd : FD} {ws : List W} (hl : ws.length = fd.m.length) (hn : fd.m.length ≤ fd.n) : (env0 fd ws).length = fd.n := by
  unfold env0
  rw [List.length_append, List.length_map, List.length_zip, List.length_replicate]
  omega
theorem start_len {N : List Str} {vs : List V} (h : vs.length ≤ N.length) : (L2.start N vs).length = N.length := by
  unfold L2.start
  rw [List.length_append, List.length_map, List.length_replicate]
  omega
theorem start_get {N : List Str} {vs : List V} {k : Nat} {v : V} (h : vs[k]? = some v) : (L2.start N vs)[k]? = some (some v) := by
  unfold L2.start
  have hk := (List.getElem?_eq_some_iff.mp h).1
  rw [List.getElem?_append_left (by simpa using hk), List.getElem?_map, h]
  rfl
/-- the objects that a callee changes -/
def ioA (m : List Bool) (vs : List V) : Nat → Option Addr := fun k => match m[k]?, vs[k]? with
  | some true, some (.ref a) => some a
  | _, _ => none

theorem b_false {b : Bool} (h : Fl.sh = if b then Fl.io else Fl.sh) : b = false := by
  cases b with
  | false => rfl
  | true => cases h
theorem b_true {b : Bool} {f : Fl} (n : f ≠ .sh) (h : f = if b then Fl.io else Fl.sh) : b = true := by
  cases b with
  | true => rfl
  | false => exact absurd h n
theorem b_io {b : Bool} {f : Fl} (n : f = .io ∨ f = .ioL) (h : f = if b then Fl.io else Fl.sh) : b = true := b_true (by rcases n with rfl | rfl <;> decide) h
theorem start_rel {Pn : List (Addr × W)} {ρ : Env} {F : Addr → Prop} {fd : FD} {N : List Str} {as : List Arg} {vs : List V} {ows : List (Option W)} {ws : List W} (hs : SRel K A σ ρ H F (pndM fd.m as vs ++ Pn)) (ow : OW K σ H F fd.m as vs ows) (e : ioW ρ [] ows as = some ws) (hn : fd.m.length ≤ fd.n) (hN : N.length = fd.n) :
    ws.length = fd.m.length ∧ vs.length = fd.m.length ∧ SRel K (ioA fd.m vs) (L2.start N vs) (env0 fd ws) H F [] ∧
    (∀ (k : Nat), fd.m[k]? = some true → ∃ a c, as[k]? = some a ∧ vs[k]? = some (.ref c) ∧ ((∃ i, a = .slot i ∧ SlA σ ρ i c ∧ Om σ ρ c ∧ σ[i]? = some (some (.ref c))) ∨ ∃ w, a = .val w true ∧ (c, w) ∈ pndM fd.m as vs)) ∧
    (∀ (k k' i : Nat), fd.m[k]? = some true → fd.m[k']? = some true → as[k]? = some (.slot i) → as[k']? = some (.slot i) → k = k') := by
  obtain ⟨l1, l2, l3⟩ := ow.len
  obtain ⟨w0, w1, w2, w3⟩ := ioW_at e
  have hl : ws.length = fd.m.length := by rw [w0, l3]
  -- every changed place
  have chg : ∀ (k : Nat), fd.m[k]? = some true → ∃ a c w, as[k]? = some a ∧ vs[k]? = some (.ref c) ∧ ws[k]? = some w ∧ ¬ F c ∧ Cell K H F c w ∧ ((∃ i, a = .slot i ∧ SlA σ ρ i c ∧ Om σ ρ c ∧ σ[i]? = some (some (.ref c))) ∨ (a = .val w true ∧ (c, w) ∈ pndM fd.m as vs)) := fun k hk => by
    obtain ⟨a, v, ha, hv, h | ⟨_, hw, har⟩⟩ := ow.at k true hk
    · cases h.1
    · rcases w2 k hw with ⟨w, x1, x2⟩ | ⟨i, w, f, x1, x2, x3, x4, _⟩
      · rw [ha] at x1; cases x1
        obtain ⟨c, rfl⟩ := har
        have hm := pndM_mem k hk ha hv (c, w) (by simp [pnd])
        obtain ⟨p1, p2, _⟩ := hs.pn (c, w) (List.mem_append_left _ hm)
        exact ⟨_, c, w, ha, hv, x2, p1, p2, .inr ⟨rfl, hm⟩⟩
      · rw [ha] at x1; cases x1
        have x2' := wOf_eq.mp x2
        have nsh : f ≠ .sh := by rcases x3 with rfl | rfl <;> decide
        obtain ⟨c, ec, nF, hc⟩ := hs.ow i w f x2' nsh
        have : σ[i]? = some (some v) := har
        rw [this] at ec; cases ec
        exact ⟨_, c, w, ha, hv, x4, nF, hc, .inl ⟨i, rfl, ⟨w, f, x2', nsh, this⟩, ⟨i, w, f, x2', x3, this⟩, this⟩⟩
  have inj : ∀ (k k' : Nat) (c : Addr), fd.m[k]? = some true → fd.m[k']? = some true → vs[k]? = some (.ref c) → vs[k']? = some (.ref c) → k = k' := fun k k' c h1 h2 h3 h4 => by
    obtain ⟨a, d, w, a1, a2, a3, a4, a5, a6⟩ := chg k h1
    rw [h3] at a2; cases a2
    obtain ⟨a', d', w', b1, b2, b3, b4, b5, b6⟩ := chg k' h2
    rw [h4] at b2; cases b2
    rcases a6 with ⟨i, rfl, s1, _⟩ | ⟨rfl, s1⟩
    · rcases b6 with ⟨i', rfl, s2, _⟩ | ⟨rfl, s2⟩
      · obtain rfl := hs.dj i i' c s1 s2
        obtain ⟨_, _, _, _, z | ⟨_, hw, _⟩⟩ := ow.at k true h1
        · cases z.1
        · obtain ⟨_, _, _, _, z | ⟨_, hw', _⟩⟩ := ow.at k' true h2
          · cases z.1
          · exact w3 k k' i hw hw' a1 b1
      · exact absurd s1 ((hs.pn _ (List.mem_append_left _ s2)).2.2 i)
    · rcases b6 with ⟨i', rfl, s2, _⟩ | ⟨rfl, s2⟩
      · exact absurd s2 ((hs.pn _ (List.mem_append_left _ s1)).2.2 i')
      · have nd := hs.pd
        rw [List.map_append] at nd
        exact pndM_inj k k' (List.nodup_append.mp nd).1 h1 h2 a1 b1 h3 h4
  refine ⟨hl, l2, ⟨?_, fun k w h => ?_, fun k w f h n => ?_, fun k w f h q => ?_, fun k k' a h1 h2 => ?_, (fun p hp => nomatch hp), List.nodup_nil, hs.ff⟩, fun k hk => ?_, fun k k' i h1 h2 h3 h4 => ?_⟩
  · rw [env0_len hl hn, start_len (by omega), hN]
  · obtain ⟨b, h1, h2, h3⟩ := env0_get hl h
    obtain rfl := b_false h3
    obtain ⟨a, v, ha, hv, ⟨_, w', x1, x2⟩ | ⟨z, _⟩⟩ := ow.at k false h2
    · have := w1 k w' x1
      rw [h1] at this; cases this
      exact ⟨v, start_get hv, x2⟩
    · cases z
  · obtain ⟨b, h1, h2, h3⟩ := env0_get hl h
    obtain rfl := b_true n h3
    obtain ⟨a, c, w', a1, a2, a3, a4, a5, _⟩ := chg k h2
    rw [h1] at a3; cases a3
    exact ⟨c, start_get a2, a4, a5⟩
  · obtain ⟨b, h1, h2, h3⟩ := env0_get hl h
    obtain rfl := b_io q h3
    obtain ⟨a, c, w', a1, a2, a3, a4, a5, _⟩ := chg k h2
    exact ⟨c, by simp [ioA, h2, a2], start_get a2⟩
  · obtain ⟨w, f, e1, n1, s1⟩ := h1
    obtain ⟨w', f', e2, n2, s2⟩ := h2
    obtain ⟨b, h1, h2, h3⟩ := env0_get hl e1
    obtain rfl := b_true n1 h3
    obtain ⟨b', h1', h2', h3'⟩ := env0_get hl e2
    obtain rfl := b_true n2 h3'
    obtain ⟨_, c, _, _, a2, _⟩ := chg k h2
    obtain ⟨_, c', _, _, b2, _⟩ := chg k' h2'
    rw [start_get a2] at s1; cases s1
    rw [start_get b2] at s2; cases s2
    exact inj k k' _ h2 h2' a2 b2
  · obtain ⟨a, c, w, a1, a2, a3, a4, a5, a6⟩ := chg k hk
    exact ⟨a, c, a1, a2, a6.imp id fun ⟨x, y⟩ => ⟨w, x, y⟩⟩
  · obtain ⟨_, _, _, _, z | ⟨_, hw, _⟩⟩ := ow.at k true h1
    · cases z.1
    · obtain ⟨_, _, _, _, z | ⟨_, hw', _⟩⟩ := ow.at k' true h2
      · cases z.1
      · exact w3 k k' i hw hw' h3 h4
end
end Py

namespace Py
open PySem PySem.Spec PyProof.Rows L2
variable [HW]
section
variable {K : PySem.W.Frag} {A : Nat → Option Addr} {σ σ' : Sg} {H H' : Hp}
theorem ioB_at {ρ' : Env} : ∀ {m : List Bool} {as : List Arg} {ios : List W} {ρ ρ4 : Env} {k0 : Nat}, ioE ρ' k0 m = some ios → ioB ρ m as ios = some ρ4 → ρ4.length = ρ.length ∧ ∀ (j : Nat) (x : Option (W × Fl)), ρ4[j]? = some x →
    (ρ[j]? = some x ∧ ∀ k : Nat, m[k]? = some true → as[k]? ≠ some (.slot j)) ∨ ∃ (k : Nat) (w : W) (f : Fl) (w0 : W), m[k]? = some true ∧ as[k]? = some (.slot j) ∧ (∃ g, wOf ρ' (k0 + k) = some (w, g) ∧ (g = Fl.io ∨ g = Fl.ioL)) ∧ wOf ρ j = some (w0, f) ∧ x = some (w, f)
  | [], as, ios, ρ, ρ4, k0, h1, h2 => by
    cases as with
    | nil =>
      obtain rfl : [] = ios := by simpa [ioE] using h1
      obtain rfl : ρ = ρ4 := by simpa [ioB] using h2
      exact ⟨rfl, fun j x h => .inl ⟨h, fun k e => by simp at e⟩⟩
    | cons _ _ => cases ios <;> simp [ioB] at h2
  | false :: m, [], ios, ρ, ρ4, k0, h1, h2 => by simp [ioB] at h2
  | false :: m, a :: as, ios, ρ, ρ4, k0, h1, h2 => by
    obtain ⟨l, ih⟩ := ioB_at (m := m) (k0 := k0 + 1) (by simpa [ioE] using h1) (by simpa [ioB] using h2)
    refine ⟨l, fun j x h => ?_⟩
    rcases ih j x h with ⟨a1, a2⟩ | ⟨k, w, f, w0, a1, a2, a3, a4, a5⟩
    · refine .inl ⟨a1, fun k e => ?_⟩
      cases k with
      | zero => simp at e
      | succ k => simpa using a2 k (by simpa using e)
    · exact .inr ⟨k + 1, w, f, w0, by simpa using a1, by simpa using a2, by rw [show k0 + (k + 1) = k0 + 1 + k by omega]; exact a3, a4, a5⟩
  | true :: m, [], ios, ρ, ρ4, k0, h1, h2 => by cases ios <;> simp [ioB] at h2
  | true :: m, .val u fr :: as, [], ρ, ρ4, k0, h1, h2 => by simp [ioB] at h2
  | true :: m, .slot i :: as, [], ρ, ρ4, k0, h1, h2 => by simp [ioB] at h2
  | true :: m, .val u fr :: as, w :: ios, ρ, ρ4, k0, h1, h2 => by
    have h1' : ioE ρ' (k0 + 1) m = some ios := by
      simp only [ioE] at h1
      split at h1 <;> first | (cases h1; done) | (rename_i e; cases Option.some.inj h1; exact e)
    obtain ⟨l, ih⟩ := ioB_at (m := m) (k0 := k0 + 1) h1' (by simpa [ioB] using h2)
    refine ⟨l, fun j x h => ?_⟩
    rcases ih j x h with ⟨a1, a2⟩ | ⟨k, w, f, w0, a1, a2, a3, a4, a5⟩
    · refine .inl ⟨a1, fun k e => ?_⟩
      cases k with
      | zero => simp
      | succ k => simpa using a2 k (by simpa using e)
    · exact .inr ⟨k + 1, w, f, w0, by simpa using a1, by simpa using a2, by rw [show k0 + (k + 1) = k0 + 1 + k by omega]; exact a3, a4, a5⟩
  | true :: m, .slot i :: as, w :: ios, ρ, ρ4, k0, h1, h2 => by
    have h1' : ioE ρ' (k0 + 1) m = some ios ∧ ∃ g, wOf ρ' k0 = some (w, g) ∧ (g = Fl.io ∨ g = Fl.ioL) := by
      simp only [ioE] at h1
      split at h1 <;> first
        | (cases h1; done)
        | (rename_i e1 e2; cases Option.some.inj h1; exact ⟨e2, _, e1, .inl rfl⟩)
        | (rename_i e1 e2; cases Option.some.inj h1; exact ⟨e2, _, e1, .inr rfl⟩)
    obtain ⟨h1', g, hg, hg'⟩ := h1'
    simp only [ioB] at h2
    cases hw : wOf ρ i with
    | none => rw [hw] at h2; cases h2
    | some y =>
      obtain ⟨w0, f⟩ := y
      rw [hw] at h2
      obtain ⟨l, ih⟩ := ioB_at (m := m) (k0 := k0 + 1) h1' h2
      have hi : i < ρ.length := lt_of_get (wOf_eq.mp hw)
      refine ⟨by simpa using l, fun j x h => ?_⟩
      rcases ih j x h with ⟨a1, a2⟩ | ⟨k, w', f', w0', a1, a2, a3, a4, a5⟩
      · rw [get_set hi] at a1
        by_cases hj : j = i
        · rw [if_pos hj] at a1
          subst hj
          exact .inr ⟨0, w, f, w0, rfl, rfl, ⟨g, hg, hg'⟩, hw, (Option.some.inj a1).symm⟩
        · rw [if_neg hj] at a1
          refine .inl ⟨a1, fun k e => ?_⟩
          cases k with
          | zero => intro z; have : i = j := by simpa using z
                    exact hj this.symm
          | succ k => simpa using a2 k (by simpa using e)
      · have a4' : ∃ w1, wOf ρ j = some (w1, f') := by
          rw [wOf_eq] at a4
          rw [get_set hi] at a4
          by_cases hj : j = i
          · rw [if_pos hj] at a4
            subst hj
            cases a4
            exact ⟨w0, hw⟩
          · rw [if_neg hj] at a4
            exact ⟨w0', wOf_eq.mpr a4⟩
        obtain ⟨w1, a4'⟩ := a4'
        exact .inr ⟨k + 1, w', f', w1, by simpa using a1, by simpa using a2, by rw [show k0 + (k + 1) = k0 + 1 + k by omega]; exact a3, a4', a5⟩

theorem sl_start {fd : FD} {N : List Str} {vs : List V} {ws : List W} {i : Nat} {a : Addr} (hl : ws.length = fd.m.length) (hv : vs.length = fd.m.length) (h : SlA (L2.start N vs) (env0 fd ws) i a) : fd.m[i]? = some true ∧ vs[i]? = some (.ref a) := by
  obtain ⟨w, f, e, n, s⟩ := h
  obtain ⟨b, h1, h2, h3⟩ := env0_get hl e
  obtain rfl := b_true n h3
  have hk : i < vs.length := by rw [hv]; exact lt_of_get h2
  refine ⟨h2, ?_⟩
  have e2 := start_get (N := N) (List.getElem?_eq_getElem hk)
  rw [e2] at s
  rw [List.getElem?_eq_getElem hk]
  exact Option.some.inj s
theorem end_rel {Pn Px : List (Addr × W)} {ρ3 ρ4 ρ' : Env} {F F' : Addr → Prop} {fd : FD} {N : List Str} {as : List Arg} {vs : List V} {ws ios : List W} (hs : SRel K A σ ρ3 H F (pndM fd.m as vs ++ Pn)) (hl : ws.length = fd.m.length) (hv : vs.length = fd.m.length)
    (cs : SRel K (ioA fd.m vs) (L2.start N vs) (env0 fd ws) H F [])
    (ch : ∀ (k : Nat), fd.m[k]? = some true → ∃ a c, as[k]? = some a ∧ vs[k]? = some (.ref c) ∧ ((∃ i, a = .slot i ∧ SlA σ ρ3 i c ∧ Om σ ρ3 c ∧ σ[i]? = some (some (.ref c))) ∨ ∃ w, a = .val w true ∧ (c, w) ∈ pndM fd.m as vs))
    (st : Stp (L2.start N vs) (env0 fd ws) H F σ' ρ' H' F') (sr : SRel K (ioA fd.m vs) σ' ρ' H' F' Px) (hx : ∀ p ∈ Px, H p.1 = none) (he : ioE ρ' 0 fd.m = some ios) (hb : ioB ρ3 fd.m as ios = some ρ4) :
    SRel K A σ ρ4 H' F' (Px ++ Pn) ∧ ∀ H0 F0 ρ0, Stp σ ρ0 H0 F0 σ ρ3 H F → (∀ c x, (c, x) ∈ pndM fd.m as vs → H0 c = none) → Stp σ ρ0 H0 F0 σ ρ4 H' F' := by
  obtain ⟨b1, b2⟩ := ioB_at he hb
  -- the objects that the callee may change
  have io : ∀ a i, SlA (L2.start N vs) (env0 fd ws) i a → (∃ j, as[i]? = some (.slot j) ∧ SlA σ ρ3 j a ∧ Om σ ρ3 a ∧ σ[j]? = some (some (.ref a))) ∨ ∃ w, as[i]? = some (.val w true) ∧ (a, w) ∈ pndM fd.m as vs := fun a i s => by
    obtain ⟨h1, h2⟩ := sl_start hl hv s
    obtain ⟨x, c, x1, x2, x3⟩ := ch i h1
    rw [h2] at x2; cases x2
    rcases x3 with ⟨j, rfl, x4⟩ | ⟨w, rfl, x4⟩
    · exact .inl ⟨j, x1, x4⟩
    · exact .inr ⟨w, x1, x4⟩
  have nio : ∀ j a, SlA σ ρ3 j a → (∀ k : Nat, fd.m[k]? = some true → as[k]? ≠ some (.slot j)) → ¬ ∃ i, SlA (L2.start N vs) (env0 fd ws) i a := fun j a s h => by
    rintro ⟨i, si⟩
    rcases io a i si with ⟨j', x1, x2, _⟩ | ⟨w, x1, x2⟩
    · obtain rfl := hs.dj j j' a s x2
      exact h i (sl_start hl hv si).1 x1
    · exact (hs.pn _ (List.mem_append_left _ x2)).2.2 j s
  have npn : ∀ p ∈ Pn, ¬ ∃ i, SlA (L2.start N vs) (env0 fd ws) i p.1 := fun p hp => by
    rintro ⟨i, si⟩
    rcases io _ i si with ⟨j', x1, x2, _⟩ | ⟨w, x1, x2⟩
    · exact (hs.pn p (List.mem_append_right _ hp)).2.2 j' x2
    · have nd := hs.pd
      rw [List.map_append] at nd
      exact (List.nodup_append.mp nd).2.2 _ (List.mem_map_of_mem (f := (·.1)) x2) _ (List.mem_map_of_mem (f := (·.1)) hp) rfl
  have cell : ∀ a w, ¬ F a → (¬ ∃ i, SlA (L2.start N vs) (env0 fd ws) i a) → Cell K H F a w → ¬ F' a ∧ Cell K H' F' a w := fun a w nF ni hc => by
    obtain ⟨vs', e, _⟩ := hc.obj
    refine ⟨fun f => ?_, ?_⟩
    · rcases st.nf a _ e f with z | z
      · exact nF z
      · exact ni z
    · cases w <;> first | exact hc.elim | skip
      · obtain ⟨us, e1, z, r⟩ := hc
        exact ⟨us, st.kp _ _ e1 fun z => ni z.sl, z, st.hrs cs r⟩
      · obtain ⟨us, e1, z, n, r⟩ := hc
        exact ⟨us, st.kp _ _ e1 fun z => ni z.sl, z, n, st.drel cs r⟩
  -- a place of the final names
  have place : ∀ (j : Nat) (w : W) (f : Fl), ρ4[j]? = some (some (w, f)) → (ρ3[j]? = some (some (w, f)) ∧ ∀ k : Nat, fd.m[k]? = some true → as[k]? ≠ some (.slot j)) ∨ ∃ (c : Addr) (w0 : W), ρ3[j]? = some (some (w0, f)) ∧ f ≠ .sh ∧ SlA σ ρ3 j c ∧ σ[j]? = some (some (.ref c)) ∧ ¬ F' c ∧ Cell K H' F' c w := fun j w f h => by
    rcases b2 j _ h with h | ⟨k, w', f', w0, x1, x2, ⟨g, x3, x4⟩, x5, x6⟩
    · exact .inl h
    · cases x6
      obtain ⟨a, c, y1, y2, y3⟩ := ch k x1
      rw [x2] at y1; cases y1
      rcases y3 with ⟨i, e, s, o, sg⟩ | ⟨_, e, _⟩
      · cases e
        have x3' := wOf_eq.mp x3
        rw [show 0 + k = k by omega] at x3'
        have ng : g ≠ .sh := by rcases x4 with rfl | rfl <;> decide
        obtain ⟨a, z1, z2, z3⟩ := sr.ow k w g x3' ng
        obtain ⟨a', z4, z5⟩ := sr.io k w g x3' x4
        rw [z1] at z5; cases z5
        have : a = c := by simpa [ioA, x1, y2] using z4.symm
        subst this
        obtain ⟨w1, f1, e1, n1, s1⟩ := s
        have e2 := wOf_eq.mp x5
        rw [e1] at e2; cases e2
        exact .inr ⟨a, _, e1, n1, ⟨_, f, e1, n1, s1⟩, sg, z2, z3⟩
      · cases e
  have back : ∀ j a, SlA σ ρ4 j a → SlA σ ρ3 j a := fun j a ⟨w, f, e, n, s⟩ => by
    rcases place j w f e with ⟨h, _⟩ | ⟨c, w0, h1, h2, h3, h4, _⟩
    · exact ⟨w, f, h, n, s⟩
    · rw [s] at h4; cases h4; exact h3
  have pnx : ∀ p ∈ Pn, ¬ F' p.1 ∧ Cell K H' F' p.1 p.2 := fun p hp => by
    obtain ⟨x, y, _⟩ := hs.pn p (List.mem_append_right _ hp)
    exact cell _ _ x (npn p hp) y
  refine ⟨⟨by rw [b1]; exact hs.ln, fun j w e => ?_, fun j w f e n => ?_, fun j w f e q => ?_, fun i j a h1 h2 => hs.dj i j a (back _ _ h1) (back _ _ h2), fun p hp => ?_, ?_, fun a f => ?_⟩, fun H0 F0 ρ0 s0 hn => ?_⟩
  · rcases place j w .sh e with ⟨h, _⟩ | ⟨c, w0, h1, h2, _⟩
    · obtain ⟨v, a, b⟩ := hs.sh j w h
      exact ⟨v, a, st.hr cs b⟩
    · exact absurd rfl h2
  · rcases place j w f e with ⟨h, h'⟩ | ⟨c, w0, h1, h2, h3, h4, h5, h6⟩
    · obtain ⟨a, x, y, z⟩ := hs.ow j w f h n
      obtain ⟨u1, u2⟩ := cell a w y (nio j a ⟨w, f, h, n, x⟩ h') z
      exact ⟨a, x, u1, u2⟩
    · exact ⟨c, h4, h5, h6⟩
  · rcases place j w f e with ⟨h, h'⟩ | ⟨c, w0, h1, _⟩
    · exact hs.io j w f h q
    · exact hs.io j w0 f h1 q
  · rcases List.mem_append.mp hp with hp | hp
    · obtain ⟨x, y, _⟩ := sr.pn p hp
      refine ⟨x, y, fun i s => ?_⟩
      obtain ⟨_, vs', e, _⟩ := hs.slc (back _ _ s)
      rw [hx p hp] at e; cases e
    · obtain ⟨x, y⟩ := pnx p hp
      exact ⟨x, y, fun i s => (hs.pn p (List.mem_append_right _ hp)).2.2 i (back _ _ s)⟩
  · rw [List.map_append]
    refine List.nodup_append.mpr ⟨sr.pd, ?_, fun a ha b hb e => ?_⟩
    · have nd := hs.pd
      rw [List.map_append] at nd
      exact (List.nodup_append.mp nd).2.1
    · obtain ⟨p, hp, rfl⟩ := List.mem_map.mp ha
      obtain ⟨q, hq, rfl⟩ := List.mem_map.mp hb
      obtain ⟨vs', e', _⟩ := (hs.pn q (List.mem_append_right _ hq)).2.1.obj
      have := hx p hp
      rw [e, e'] at this; cases this
  · exact sr.ff a f
  · have up : ∀ a o, H0 a = some o → ∀ i, SlA (L2.start N vs) (env0 fd ws) i a → ∃ j, SlA σ ρ3 j a ∧ Om σ ρ3 a := fun a o h i s => by
      rcases io a i s with ⟨j, _, x1, x2, _⟩ | ⟨w, _, x⟩
      · exact ⟨j, x1, x2⟩
      · rw [hn a w x] at h; cases h
    refine ⟨fun a o h n => st.kp a o (s0.kp a o h n) fun z => ?_, fun a f => st.fr a (s0.fr a f), fun a o h f => ?_, fun a o h z => ?_, fun a o h i z => s0.ns a o h i (back _ _ z), fun a o h z => ?_, fun a o h => ?_⟩
    · obtain ⟨i, s⟩ := z.sl
      obtain ⟨j, _, o'⟩ := up a o h i s
      exact n (s0.no a o h o')
    · obtain ⟨o', e⟩ := s0.al a o h
      rcases st.nf a o' e f with z | ⟨i, z⟩
      · exact s0.nf a o h z
      · obtain ⟨j, x, _⟩ := up a o h i z
        exact .inr ⟨j, s0.ns a o h j x⟩
    · obtain ⟨i, w, f, e, q, s⟩ := z
      rcases place i w f e with ⟨h', _⟩ | ⟨c, w0, h1, h2, h3, h4, _⟩
      · exact s0.no a o h ⟨i, w, f, h', q, s⟩
      · exact s0.no a o h ⟨i, w0, f, h1, q, s⟩
    · obtain ⟨i, w, f, e, q, s⟩ := z
      rcases place i w f e with ⟨h', _⟩ | ⟨c, w0, h1, h2, h3, h4, _⟩
      · exact s0.nw a o h ⟨i, w, f, h', q, s⟩
      · exact s0.nw a o h ⟨i, w0, f, h1, q, s⟩
    · obtain ⟨o', e⟩ := s0.al a o h
      exact st.al a o' e
end

section
variable {X : Cx} {c : Cf} {e : Expr} {es : List Expr} {eas : E} {pos p : Pos} {x : Str}
theorem pndM_none {Hf : Addr → Prop} {m : List Bool} {as : List Arg} {vs : List V} (h : ∀ d y, (d, y) ∈ pnds as vs → Hf d) : ∀ d y, (d, y) ∈ pndM m as vs → Hf d := fun d y z => h d y (pndM_sub z)
/-- f(..), f a def of the text -/
theorem x_call {k j : Nat} {f : Addr} {fdat : FuncData} {ps : List Str} {fd : FD} {N : List Str} (hc : c.K = X.K) (tk : Takes X c.wx) (F : FnOk X.prog X.w X.K X.mg X.base (L2.CX X.prog X.w) k f fdat ps (spF X.K c.cls c.C fd N j))
    (hr : Room k X.A) (hg : Gl X x) (hm : X.mg x = some (.ref f)) (hk : PySem.W.keepIn X.K (.ref f) = true) (hb : Binds X.K fdat ps []) (hdb : (x == ("__debug__" : Str)) = false) (hn : fd.m.length ≤ fd.n) (hN : N.length = fd.n)
    (hp : (e :: es).all plainE = true) (ha : PA X (e :: es) (tXL c eas)) : PE X (.Call (.Name x p) (e :: es) [] pos) (tX c (.call j fd.m eas)) := by
  have hpe : plainE e = true := by rw [List.all_cons, Bool.and_eq_true] at hp; exact hp.1
  have hps : es.all plainE = true := by rw [List.all_cons, Bool.and_eq_true] at hp; exact hp.2
  refine peImp (pe_callS (E := WE c.wx) F hr hg hm hk hb (fun σ => passAt tk σ) ha hdb (star_cons _ hpe _) (star_all _ _ hps).1) fun σ H Q ⟨A, ρ, F, Pn, hs, q⟩ => ?_
  refine tXL_of hs q fun as vs ρ1 H1 F1 m q1 => ?_
  unfold callW at q1
  cases e1 : shM ρ1 fd.m as with
  | none => simp only [e1] at q1; exact q1.elim
  | some y =>
    obtain ⟨ows, ρ2⟩ := y
    cases e2 : ioW ρ2 [] ows as with
    | none => simp only [e1, e2] at q1; exact q1.elim
    | some ws =>
      simp only [e1, e2] at q1
      obtain ⟨F2, s2, ow, _, t2⟩ := shM_ok (P1 := []) (by simpa using m.sr) m.ar e1
      have s2 : SRel c.K A σ ρ2 H1 F2 (pndM fd.m as vs ++ Pn) := by simpa using s2
      have st2 := t2 H F ρ m.st m.fr
      obtain ⟨hl, hv, cs, ch, _⟩ := start_rel s2 ow e2 hn hN
      rw [← hc]
      refine ⟨hv, ioA fd.m vs, F2, ws, hl, cs, ?_⟩
      cases e3 : c.C j ws with
      | bad => simp only [e3] at q1; exact q1.elim
      | ret w fr ios =>
        simp only [e3] at q1
        intro v H' F' σ' ρ' st sr he hf1 hf2
        cases e4 : ioB ρ2 fd.m as ios with
        | none => simp only [e4] at q1; exact q1.elim
        | some ρ4 =>
          simp only [e4] at q1
          have hx : ∀ p ∈ pnd (.val w fr) v, H1 p.1 = none := fun p hp => by
            cases fr with
            | false => simp [pnd] at hp
            | true =>
              obtain ⟨a, rfl, hn⟩ := hf1 rfl
              obtain rfl : p = (a, w) := by simpa [pnd] using hp
              exact hn
          obtain ⟨s4, t4⟩ := end_rel s2 hl hv cs ch st sr hx he e4
          refine q1 v H' F' (t4 H F ρ st2 (pndM_none m.fr)) s4 ?_ fun d y z => m.st.fresh (hx (d, y) z)
          cases fr with
          | false => exact hf2 rfl
          | true => obtain ⟨a, rfl, _⟩ := hf1 rfl; exact ⟨a, rfl⟩
      | ex y pl ios =>
        simp only [e3] at q1
        intro H' F' σ' ρ' d st sr he hd
        cases e4 : ioB ρ2 fd.m as ios with
        | none => simp only [e4] at q1; exact q1.elim
        | some ρ4 =>
          simp only [e4] at q1
          obtain ⟨s4, t4⟩ := end_rel s2 hl hv cs ch st sr (fun p hp => nomatch hp) he e4
          exact q1 H' F' d (t4 H F ρ st2 (pndM_none m.fr)) s4 hd
end
end Py

namespace Py
open PySem PySem.Spec PyProof.Rows L2
variable [HW]
section
variable {K : PySem.W.Frag} {A : Nat → Option Addr} {σ σ' : Sg} {ρ ρ' : Env} {H H' : Hp} {F F' : Addr → Prop} {Pn : List (Addr × W)}

/-! ### a name is stored -/
theorem setN_ok {i : Nat} {w : W} {f : Fl} (h : setN ρ i w f = some ρ') : i < ρ.length ∧ ρ' = ρ.set i (some (w, f)) ∧ ∀ u g, ρ[i]? = some (some (u, g)) → g ≠ .io ∧ g ≠ .ioL := by
  unfold setN at h
  split at h
  · cases h
  · cases h
  · rename_i x h1 h2 e
    obtain rfl := Option.some.inj h
    refine ⟨lt_of_get e, rfl, fun u g q => ?_⟩
    rw [q] at e; cases e
    constructor
    · rintro rfl; exact h1 u rfl
    · rintro rfl; exact h2 u rfl
  · cases h
theorem gets {α : Type} {l : List α} {i j : Nat} {x : α} (h : i < l.length) : (l.set i x)[j]? = if j = i then some x else l[j]? := by
  by_cases e : j = i
  · subst e; rw [List.getElem?_set_self h, if_pos rfl]
  · rw [List.getElem?_set_ne (Ne.symm e), if_neg e]
theorem SRel.setV (hs : SRel K A σ ρ H F Pn) {i : Nat} {v : V} {w : W} (r : HR K H F v w) (h : setN ρ i w .sh = some ρ') :
    SRel K A (σ.set i (some v)) ρ' H F Pn ∧ Stp σ ρ H F (σ.set i (some v)) ρ' H F := by
  obtain ⟨hi, rfl, hio⟩ := setN_ok h
  have hσ : i < σ.length := by rw [← hs.ln]; exact hi
  have back : ∀ {j : Nat} {a : Addr}, SlA (σ.set i (some v)) (ρ.set i (some (w, .sh))) j a → j ≠ i ∧ SlA σ ρ j a := fun {j a} ⟨w', f', e', n', s'⟩ => by
    rw [gets hi] at e'
    rw [gets hσ] at s'
    by_cases q : j = i
    · rw [if_pos q] at e'; cases e'; exact absurd rfl n'
    · rw [if_neg q] at e' s'; exact ⟨q, w', f', e', n', s'⟩
  refine ⟨⟨by simpa using hs.ln, fun j w' e => ?_, fun j w' f e n => ?_, fun j w' f e q => ?_, fun j k a h1 h2 => hs.dj j k a (back h1).2 (back h2).2, fun p hp => ?_, hs.pd, hs.ff⟩, ⟨fun _ _ h _ => h, fun _ h => h, fun _ _ _ h => .inl h, fun a o h q => ?_, fun a o h j q => (back q).2, fun a o h q => ?_, fun _ o h => ⟨o, h⟩⟩⟩
  · rw [gets hi] at e
    rw [gets hσ]
    by_cases q : j = i
    · rw [if_pos q] at e ⊢; cases e; exact ⟨v, rfl, r⟩
    · rw [if_neg q] at e ⊢; exact hs.sh j w' e
  · rw [gets hi] at e
    rw [gets hσ]
    by_cases q : j = i
    · rw [if_pos q] at e; cases e; exact absurd rfl n
    · rw [if_neg q] at e ⊢; exact hs.ow j w' f e n
  · rw [gets hi] at e
    rw [gets hσ]
    by_cases z : j = i
    · rw [if_pos z] at e; cases e; rcases q with q | q <;> cases q
    · rw [if_neg z] at e ⊢; exact hs.io j w' f e q
  · obtain ⟨x, y, z⟩ := hs.pn p hp
    exact ⟨x, y, fun j s => z j (back s).2⟩
  · obtain ⟨j, w', f', e', n', s'⟩ := q
    rw [gets hi] at e'
    rw [gets hσ] at s'
    by_cases z : j = i
    · rw [if_pos z] at e'; cases e'; rcases n' with n' | n' <;> cases n'
    · rw [if_neg z] at e' s'; exact ⟨j, w', f', e', n', s'⟩
  · obtain ⟨j, w', f', e', n', s'⟩ := q
    rw [gets hi] at e'
    rw [gets hσ] at s'
    by_cases z : j = i
    · rw [if_pos z] at e'; cases e'; rcases n' with n' | n' <;> cases n'
    · rw [if_neg z] at e' s'; exact ⟨j, w', f', e', n', s'⟩
/-- .. with a new object of its own -/
theorem SRel.setO {P1 : List (Addr × W)} {i : Nat} {c : Addr} {w : W} (hs : SRel K A σ ρ H F (P1 ++ (c, w) :: Pn)) (h : setN ρ i w .own = some ρ') :
    SRel K A (σ.set i (some (.ref c))) ρ' H F (P1 ++ Pn) ∧ ∀ H0 F0 ρ0 σ0, Stp σ0 ρ0 H0 F0 σ ρ H F → H0 c = none → Stp σ0 ρ0 H0 F0 (σ.set i (some (.ref c))) ρ' H F := by
  obtain ⟨hi, rfl, hio⟩ := setN_ok h
  have hσ : i < σ.length := by rw [← hs.ln]; exact hi
  have hc := hs.pn (c, w) (by simp)
  have hd : c ∉ (P1 ++ Pn).map (·.1) ∧ ((P1 ++ Pn).map (·.1)).Nodup := by
    have := hs.pd
    rw [List.map_append, List.map_cons] at this
    have q := (List.perm_middle (a := c) (l₁ := P1.map (·.1)) (l₂ := Pn.map (·.1))).nodup_iff.mp this
    rw [← List.map_append] at q
    exact List.nodup_cons.mp q
  have sub : ∀ p ∈ P1 ++ Pn, p ∈ P1 ++ (c, w) :: Pn := fun p hp => by
    rcases List.mem_append.mp hp with q | q
    · exact List.mem_append_left _ q
    · exact List.mem_append_right _ (List.mem_cons_of_mem _ q)
  have back : ∀ {j : Nat} {a : Addr}, SlA (σ.set i (some (.ref c))) (ρ.set i (some (w, .own))) j a → (j = i ∧ a = c) ∨ (j ≠ i ∧ SlA σ ρ j a) := fun {j a} ⟨w', f', e', n', s'⟩ => by
    rw [gets hi] at e'
    rw [gets hσ] at s'
    by_cases q : j = i
    · rw [if_pos q] at e' s'; cases e'; cases s'; exact .inl ⟨q, rfl⟩
    · rw [if_neg q] at e' s'; exact .inr ⟨q, w', f', e', n', s'⟩
  refine ⟨⟨by simpa using hs.ln, fun j w' e => ?_, fun j w' f e n => ?_, fun j w' f e q => ?_, fun j k a h1 h2 => ?_, fun p hp => ?_, hd.2, hs.ff⟩, fun H0 F0 ρ0 σ0 st hn => ⟨st.kp, st.fr, st.nf, fun a o h q => ?_, fun a o h j q => ?_, fun a o h q => ?_, st.al⟩⟩
  · rw [gets hi] at e
    rw [gets hσ]
    by_cases q : j = i
    · rw [if_pos q] at e; cases e
    · rw [if_neg q] at e ⊢; exact hs.sh j w' e
  · rw [gets hi] at e
    rw [gets hσ]
    by_cases q : j = i
    · rw [if_pos q] at e ⊢; cases e; exact ⟨c, rfl, hc.1, hc.2.1⟩
    · rw [if_neg q] at e ⊢; exact hs.ow j w' f e n
  · rw [gets hi] at e
    rw [gets hσ]
    by_cases z : j = i
    · rw [if_pos z] at e; cases e; rcases q with q | q <;> cases q
    · rw [if_neg z] at e ⊢; exact hs.io j w' f e q
  · rcases back h1 with ⟨rfl, rfl⟩ | ⟨n1, s1⟩
    · rcases back h2 with ⟨rfl, _⟩ | ⟨n2, s2⟩
      · rfl
      · exact absurd s2 (hc.2.2 k)
    · rcases back h2 with ⟨rfl, rfl⟩ | ⟨n2, s2⟩
      · exact absurd s1 (hc.2.2 j)
      · exact hs.dj j k a s1 s2
  · obtain ⟨x, y, z⟩ := hs.pn p (sub p hp)
    refine ⟨x, y, fun j s => ?_⟩
    rcases back s with ⟨rfl, e⟩ | ⟨_, s⟩
    · exact hd.1 (e ▸ List.mem_map_of_mem hp)
    · exact z j s
  · obtain ⟨j, w', f', e', n', s'⟩ := q
    rw [gets hi] at e'
    rw [gets hσ] at s'
    by_cases z : j = i
    · rw [if_pos z] at s'; cases s'
      rw [hn] at h; cases h
    · rw [if_neg z] at e' s'; exact st.no a o h ⟨j, w', f', e', n', s'⟩
  · rcases back q with ⟨_, z⟩ | ⟨_, s⟩
    · rw [z, hn] at h; cases h
    · exact st.ns a o h j s
  · obtain ⟨j, w', f', e', n', s'⟩ := q
    rw [gets hi] at e'
    rw [gets hσ] at s'
    by_cases z : j = i
    · rw [if_pos z] at s'; cases s'
      rw [hn] at h; cases h
    · rw [if_neg z] at e' s'; exact st.nw a o h ⟨j, w', f', e', n', s'⟩

/-! ### targets -/
/-- slots outside of some names -/
def Off (l : List Nat) (σ σ' : Sg) (ρ ρ' : Env) : Prop := σ'.length = σ.length ∧ ∀ j, j ∉ l → σ'[j]? = σ[j]? ∧ ρ'[j]? = ρ[j]?
theorem Off.refl {l : List Nat} : Off l σ σ ρ ρ := ⟨rfl, fun _ _ => ⟨rfl, rfl⟩⟩
theorem Off.trans {l l' : List Nat} {σ2 : Sg} {ρ2 : Env} (a : Off l σ σ' ρ ρ') (b : Off l' σ' σ2 ρ' ρ2) : Off (l ++ l') σ σ2 ρ ρ2 :=
  ⟨b.1.trans a.1, fun j h => ⟨(b.2 j fun z => h (List.mem_append_right _ z)).1.trans (a.2 j fun z => h (List.mem_append_left _ z)).1, (b.2 j fun z => h (List.mem_append_right _ z)).2.trans (a.2 j fun z => h (List.mem_append_left _ z)).2⟩⟩
def gP (K : PySem.W.Frag) (p : Pt) : TG := fun v σ H Q => ∃ A ρ F Pn w ρ', SRel K A σ ρ H F Pn ∧ HR K H F v w ∧ asP p w ρ = some ρ' ∧
  ∀ σ', SRel K A σ' ρ' H F Pn → Stp σ ρ H F σ' ρ' H F → Off p.ns σ σ' ρ ρ' → Q σ' H
def gPs (K : PySem.W.Frag) (p : Pt) : TGs := fun vs σ H Q => ∃ A ρ F Pn ws ρ', SRel K A σ ρ H F Pn ∧ HRs K H F vs ws ∧ asP p (.tup ws) ρ = some ρ' ∧
  ∀ σ', SRel K A σ' ρ' H F Pn → Stp σ ρ H F σ' ρ' H F → Off p.ns σ σ' ρ ρ' → Q σ' H
end
section
variable {X : Cx} {e : Expr} {es : List Expr} {pos : Pos} {x : Str}
theorem pgImp {t t' : TG} (h : PG X e t) (i : ∀ v σ H Q, t' v σ H Q → t v σ H Q) : PG X e t' := ⟨fun pins s σ H v u Q I r q => h.run pins s σ H v u Q I r (i v σ H Q q)⟩
theorem pgsImp {t t' : TGs} (h : PGs X es t) (i : ∀ v σ H Q, t' v σ H Q → t v σ H Q) : PGs X es t' := ⟨fun pins s σ H v u Q I r q => h.run pins s σ H v u Q I r (i v σ H Q q)⟩
theorem g_name {i : Nat} (hN : X.N.Nodup) (hi : X.N[i]? = some x) (hx : Loc X.env.scope x) (hf : X.fn x = true ∨ X.env.scope.names.lookup x = some .local) : PG X (.Name x pos) (gP X.K (.n i)) := by
  refine pgImp (pg_name hN hi hx hf) fun v σ H Q ⟨A, ρ, F, Pn, w, ρ', hs, r, h, q⟩ => ?_
  obtain ⟨s1, st⟩ := hs.setV r h
  refine q _ s1 st ⟨by simp, fun j hj => ?_⟩
  have hj : j ≠ i := by simpa [Pt.ns] using hj
  obtain ⟨hi', rfl, _⟩ := setN_ok h
  rw [List.getElem?_set_ne (Ne.symm hj), List.getElem?_set_ne (Ne.symm hj)]
  exact ⟨rfl, rfl⟩
theorem g_nil : PGs X [] (gPs X.K .nil) := by
  refine pgsImp pgs_nil fun vs σ H Q ⟨A, ρ, F, Pn, ws, ρ', hs, r, h, q⟩ => ?_
  cases ws with
  | nil =>
    obtain rfl := Option.some.inj h
    exact ⟨r.nl, q σ hs .refl .refl⟩
  | cons _ _ => cases h
/-- no star -/
theorem each_cons (env : PySem.Env) (h : plainE e = true) : (assignEach (e :: es) env).map (·.2) = assign e env :: (assignEach es env).map (·.2) := by
  cases e <;> first | rfl | cases h
theorem each_len (env : PySem.Env) : ∀ es : List Expr, (assignEach es env).length = es.length
  | [] => rfl
  | e :: es => by
    have : (assignEach (e :: es) env).length = (assignEach es env).length + 1 := by cases e <;> rfl
    rw [this, each_len env es]; rfl
theorem each_star (env : PySem.Env) : ∀ {es : List Expr}, es.all plainE = true → (assignEach es env).findIdx? (·.1) = none
  | [], _ => rfl
  | e :: es, h => by
    rw [List.all_cons, Bool.and_eq_true] at h
    have ih := each_star env h.2
    have : (assignEach (e :: es) env) = (false, assign e env) :: assignEach es env := by
      cases e <;> first | rfl | cases h.1
    rw [this, List.findIdx?_cons]
    simp [ih]
theorem g_cons {p q : Pt} (hp : plainE e = true) (h1 : PG X e (gP X.K p)) (h2 : PGs X es (gPs X.K q)) : PGs X (e :: es) (gPs X.K (.cons p q)) := by
  refine pgsImp (pgs_cons h1 h2 (each_cons _ hp)) fun vs σ H Q ⟨A, ρ, F, Pn, ws, ρ', hs, r, h, k⟩ => ?_
  cases ws with
  | nil => cases h
  | cons w ws =>
    obtain ⟨v, vr, rfl, r1, r2⟩ := r.split
    have h : (match asP p w ρ with | some ρ1 => asP q (.tup ws) ρ1 | none => none) = some ρ' := h
    cases e1 : asP p w ρ with
    | none => rw [e1] at h; cases h
    | some ρ1 =>
      rw [e1] at h
      exact ⟨v, vr, rfl, A, ρ, F, Pn, w, ρ1, hs, r1, e1, fun σ1 s1 t1 o1 => ⟨A, ρ1, F, Pn, ws, ρ', s1, r2, h, fun σ2 s2 t2 o2 => k σ2 s2 (t1.trans t2) (o1.trans o2)⟩⟩
/-- a tuple or a list, taken apart -/
theorem pg_or {t u : TG} (h1 : PG X e t) (h2 : PG X e u) : PG X e (fun v σ H Q => t v σ H Q ∨ u v σ H Q) := ⟨fun pins s σ H v w Q I r q => q.elim (h1.run pins s σ H v w Q I r) (h2.run pins s σ H v w Q I r)⟩
theorem g_tup {k : Nat} {l : Pt} (hc : X.calm = true) (hp : es.all plainE = true) (hl : ∀ w ρ ρ', asP l (.tup w) ρ = some ρ' → w.length = es.length) (h : PGs X es (gPs X.K l)) : PG X (.Tuple es k pos) (gP X.K (.t l)) := by
  refine pgImp (pg_or (pg_tup (n := es.length) hc h (each_len _ _) (each_star _ hp)) (pg_lst (n := es.length) hc h (each_len _ _) (each_star _ hp))) fun v σ H Q ⟨A, ρ, F, Pn, w, ρ', hs, r, h, q⟩ => ?_
  cases w with
  | tup ws =>
    obtain ⟨a, vs, rfl, sq, _, hr⟩ := r.tupI
    have h : asP l (.tup ws) ρ = some ρ' := h
    exact .inl ⟨a, vs, rfl, sq, by rw [hr.length]; exact hl _ _ _ h, A, ρ, F, Pn, ws, ρ', hs, hr, h, q⟩
  | lst ws =>
    obtain ⟨a, vs, rfl, sq, _, hr⟩ := (PkR.of r).lst
    have h : asP l (.tup ws) ρ = some ρ' := h
    exact .inr ⟨a, vs, rfl, sq, by rw [hr.length]; exact hl _ _ _ h, A, ρ, F, Pn, ws, ρ', hs, hr, h, q⟩
  | _ => cases h
end
end Py

namespace Py
open PySem PySem.Spec PyProof.Rows L2
variable [HW]
section
variable {K : PySem.W.Frag} {A : Nat → Option Addr} {σ σ' : Sg} {ρ ρ' : Env} {H H' : Hp} {F F' : Addr → Prop} {Pn : List (Addr × W)}
/-! ### a name is locked, and not -/
theorem sla_set {i : Nat} {w : W} {f g : Fl} (e : ρ[i]? = some (some (w, f))) (hf : f ≠ .sh) (hg : g ≠ .sh) (j : Nat) (a : Addr) : SlA σ (ρ.set i (some (w, g))) j a ↔ SlA σ ρ j a := by
  have hi := lt_of_get e
  constructor
  · rintro ⟨w', f', e', n', s'⟩
    rw [gets hi] at e'
    by_cases q : j = i
    · subst q; rw [if_pos rfl] at e'; cases e'; exact ⟨w, f, e, hf, s'⟩
    · rw [if_neg q] at e'; exact ⟨w', f', e', n', s'⟩
  · rintro ⟨w', f', e', n', s'⟩
    by_cases q : j = i
    · subst q; exact ⟨w, g, by rw [gets hi, if_pos rfl], hg, s'⟩
    · exact ⟨w', f', by rw [gets hi, if_neg q]; exact e', n', s'⟩
theorem SRel.flag (hs : SRel K A σ ρ H F Pn) {i : Nat} {w : W} {f g : Fl} (e : ρ[i]? = some (some (w, f))) (hf : f ≠ .sh) (hg : g ≠ .sh) (hio : (g = .io ∨ g = .ioL) → (f = .io ∨ f = .ioL)) : SRel K A σ (ρ.set i (some (w, g))) H F Pn := by
  have hi := lt_of_get e
  refine ⟨by simpa using hs.ln, fun j w' e' => ?_, fun j w' f' e' n => ?_, fun j w' f' e' q => ?_, fun j k a h1 h2 => hs.dj j k a ((sla_set e hf hg _ _).mp h1) ((sla_set e hf hg _ _).mp h2), fun p hp => ?_, hs.pd, hs.ff⟩
  · rw [gets hi] at e'
    by_cases q : j = i
    · rw [if_pos q] at e'; cases e'; exact absurd rfl hg
    · rw [if_neg q] at e'; exact hs.sh j w' e'
  · rw [gets hi] at e'
    by_cases q : j = i
    · rw [if_pos q] at e'; cases e'; subst q; exact hs.ow j w f e hf
    · rw [if_neg q] at e'; exact hs.ow j w' f' e' n
  · rw [gets hi] at e'
    by_cases z : j = i
    · rw [if_pos z] at e'; cases e'; subst z; exact hs.io j w f e (hio q)
    · rw [if_neg z] at e'; exact hs.io j w' f' e' q
  · obtain ⟨x, y, z⟩ := hs.pn p hp
    exact ⟨x, y, fun j s => z j ((sla_set e hf hg _ _).mp s)⟩
theorem ow_set {i : Nat} {w : W} {f g : Fl} {a : Addr} (e : ρ[i]? = some (some (w, f))) (h : (g = .own ∨ g = .ownL) → (f = .own ∨ f = .ownL)) (o : Ow σ (ρ.set i (some (w, g))) a) : Ow σ ρ a := by
  have hi := lt_of_get e
  obtain ⟨j, w', f', e', n', s'⟩ := o
  rw [gets hi] at e'
  by_cases q : j = i
  · rw [if_pos q] at e'; cases e'; subst q; exact ⟨j, w, f, e, h n', s'⟩
  · rw [if_neg q] at e'; exact ⟨j, w', f', e', n', s'⟩
theorem ow_lk1 {i : Nat} {a : Addr} (o : Ow σ (lkE1 ρ i) a) : Ow σ ρ a := by
  unfold lkE1 at o
  split at o
  · rename_i w e
    exact ow_set (wOf_eq.mp e) (fun _ => .inl rfl) o
  · rename_i w e
    exact ow_set (wOf_eq.mp e) (by intro h; rcases h with h | h <;> cases h) o
  · exact o
theorem ow_lk {a : Addr} : ∀ {as : List Arg} {ρ : Env}, Ow σ (lkE ρ as) a → Ow σ ρ a
  | [], _, h => h
  | .val _ _ :: as, _, h => ow_lk (as := as) h
  | .slot _ :: as, _, h => ow_lk1 (ow_lk (as := as) h)
theorem lk1_ok (hs : SRel K A σ ρ H F Pn) (i : Nat) : SRel K A σ (lkE1 ρ i) H F Pn ∧ (∀ j a, SlA σ (lkE1 ρ i) j a ↔ SlA σ ρ j a) ∧ (∀ a, Om σ (lkE1 ρ i) a → Om σ ρ a) ∧ ∀ a, SlA σ ρ i a → ¬ Om σ (lkE1 ρ i) a := by
  have main : ∀ {w : W} {f g : Fl}, ρ[i]? = some (some (w, f)) → f ≠ .sh → g ≠ .sh → ((g = .io ∨ g = .ioL) → (f = .io ∨ f = .ioL)) → (g ≠ .own ∧ g ≠ .io) →
      SRel K A σ (ρ.set i (some (w, g))) H F Pn ∧ (∀ j a, SlA σ (ρ.set i (some (w, g))) j a ↔ SlA σ ρ j a) ∧ (∀ a, Om σ (ρ.set i (some (w, g))) a → Om σ ρ a) ∧ ∀ a, SlA σ ρ i a → ¬ Om σ (ρ.set i (some (w, g))) a := fun {w f g} e hf hg hio hn => by
    have hi := lt_of_get e
    refine ⟨hs.flag e hf hg hio, sla_set e hf hg, fun a ⟨j, w', f', e', n', s'⟩ => ?_, fun a sl ⟨j, w', f', e', n', s'⟩ => ?_⟩
    · rw [gets hi] at e'
      by_cases q : j = i
      · rw [if_pos q] at e'; cases e'
        rcases n' with z | z
        · exact absurd z hn.1
        · exact absurd z hn.2
      · rw [if_neg q] at e'; exact ⟨j, w', f', e', n', s'⟩
    · rw [gets hi] at e'
      by_cases q : j = i
      · rw [if_pos q] at e'; cases e'
        rcases n' with z | z
        · exact absurd z hn.1
        · exact absurd z hn.2
      · rw [if_neg q] at e'
        exact q (hs.dj j i a ⟨w', f', e', by rcases n' with rfl | rfl <;> decide, s'⟩ sl)
  unfold lkE1
  split
  · rename_i w e
    exact main (wOf_eq.mp e) (by decide) (by decide) (by intro h; rcases h with h | h <;> cases h) ⟨by decide, by decide⟩
  · rename_i w e
    exact main (wOf_eq.mp e) (by decide) (by decide) (fun _ => .inl rfl) ⟨by decide, by decide⟩
  · rename_i h1 h2
    refine ⟨hs, fun _ _ => Iff.rfl, fun _ h => h, fun a sl ⟨j, w', f', e', n', s'⟩ => ?_⟩
    have : j = i := hs.dj j i a ⟨w', f', e', by rcases n' with rfl | rfl <;> decide, s'⟩ sl
    subst this
    rcases n' with rfl | rfl
    · exact h1 w' (wOf_eq.mpr e')
    · exact h2 w' (wOf_eq.mpr e')
theorem lk_ok : ∀ {as : List Arg} {ρ : Env}, SRel K A σ ρ H F Pn → SRel K A σ (lkE ρ as) H F Pn ∧ (∀ j a, SlA σ (lkE ρ as) j a ↔ SlA σ ρ j a) ∧ (∀ a, Om σ (lkE ρ as) a → Om σ ρ a) ∧ ∀ i a, .slot i ∈ as → SlA σ ρ i a → ¬ Om σ (lkE ρ as) a
  | [], ρ, hs => ⟨hs, fun _ _ => Iff.rfl, fun _ h => h, fun i a h => nomatch h⟩
  | .val w f :: as, ρ, hs => by
    obtain ⟨a, b, c, d⟩ := lk_ok (as := as) hs
    exact ⟨a, b, c, fun i x h s => d i x (by simpa using h) s⟩
  | .slot k :: as, ρ, hs => by
    obtain ⟨s1, b1, c1, d1⟩ := lk1_ok hs k
    obtain ⟨s2, b2, c2, d2⟩ := lk_ok (as := as) s1
    refine ⟨s2, fun j a => (b2 j a).trans (b1 j a), fun a h => c1 a (c2 a h), fun i x h s => ?_⟩
    by_cases q : i = k
    · subst q; exact fun z => d1 x s (c2 x z)
    · exact d2 i x (by simpa [q] using h) ((b1 i x).mpr s)
theorem lk_stp {as : List Arg} (hs : SRel K A σ ρ H F Pn) : Stp σ ρ H F σ (lkE ρ as) H F := by
  obtain ⟨s1, b1, c1, d1⟩ := lk_ok (as := as) hs
  exact ⟨fun _ _ h _ => h, fun _ h => h, fun _ _ _ h => .inl h, fun a o _ h => c1 a h, fun a o _ i h => (b1 i a).mp h, fun a o _ h => ow_lk h, fun _ o h => ⟨o, h⟩⟩
theorem ul_ok {ρ1 : Env} {H1 : Hp} {F1 : Addr → Prop} : ∀ {as : List Arg} {ρ3 : Env}, Stp σ ρ1 H1 F1 σ' ρ3 H F → SRel K A σ' ρ3 H F Pn → SRel K A σ' (ulE ρ1 ρ3 as) H F Pn ∧ Stp σ ρ1 H1 F1 σ' (ulE ρ1 ρ3 as) H F
  | [], ρ3, st, hs => ⟨hs, st⟩
  | .val _ _ :: as, ρ3, st, hs => ul_ok (as := as) st hs
  | .slot i :: as, ρ3, st, hs => by
    have main : ∀ {w u : W} {f g h : Fl}, ρ1[i]? = some (some (u, h)) → (h = .own ∨ h = .io) → ρ3[i]? = some (some (w, f)) → f ≠ .sh → (g = .own ∨ g = .io) → ((g = .io ∨ g = .ioL) → (f = .io ∨ f = .ioL)) → ((g = .own ∨ g = .ownL) → (f = .own ∨ f = .ownL)) →
        SRel K A σ' (ρ3.set i (some (w, g))) H F Pn ∧ Stp σ ρ1 H1 F1 σ' (ρ3.set i (some (w, g))) H F := fun {w u f g h} e1 hh e3 hf hg hio hown => by
      have hg' : g ≠ .sh := by rcases hg with rfl | rfl <;> decide
      have hi := lt_of_get e3
      refine ⟨hs.flag e3 hf hg' hio, st.kp, st.fr, st.nf, fun a o k z => ?_, fun a o k j z => st.ns a o k j ((sla_set e3 hf hg' _ _).mp z), fun a o k z => st.nw a o k (ow_set e3 hown z), st.al⟩
      obtain ⟨j, w', f', e', n', s'⟩ := z
      by_cases q : j = i
      · subst q
        have sl : SlA σ' ρ3 j a := ⟨w, f, e3, hf, s'⟩
        obtain ⟨w2, f2, e2, n2, s2⟩ := st.ns a o k j sl
        rw [e1] at e2; cases e2
        exact ⟨j, u, h, e1, hh, s2⟩
      · rw [gets hi, if_neg q] at e'
        exact st.no a o k ⟨j, w', f', e', n', s'⟩
    have one : SRel K A σ' (ulE1 ρ1 ρ3 i) H F Pn ∧ Stp σ ρ1 H1 F1 σ' (ulE1 ρ1 ρ3 i) H F := by
      unfold ulE1
      split
      · rename_i h1 h2
        exact main (wOf_eq.mp h1) (.inl rfl) (wOf_eq.mp h2) (by decide) (.inl rfl) (by intro h; rcases h with h | h <;> cases h) (fun _ => .inr rfl)
      · rename_i h1 h2
        exact main (wOf_eq.mp h1) (.inr rfl) (wOf_eq.mp h2) (by decide) (.inr rfl) (fun _ => .inr rfl) (by intro h; rcases h with h | h <;> cases h)
      · exact ⟨hs, st⟩
    exact ul_ok (as := as) one.2 one.1

/-! ### iterators -/
/-- J walks ws, from the point (σ, ρ, H, F) on -/
structure ItG (K : PySem.W.Frag) (σ : Sg) (ρ : Env) (H : Hp) (F : Addr → Prop) (J : It) (ws : List W) : Prop where
  go : ∀ i H2 F2 σ2 ρ2, Stp σ ρ H F σ2 ρ2 H2 F2 → i < ws.length → J.go i H2
  yl : ∀ (i : Nat) H2 F2 σ2 ρ2 x H', Stp σ ρ H F σ2 ρ2 H2 F2 → i < ws.length → J.yld i H2 x H' → ∃ w, ws[i]? = some w ∧ Nw K H2 F2 x H' w false
  st : ∀ i H2 F2 σ2 ρ2, Stp σ ρ H F σ2 ρ2 H2 F2 → ws.length ≤ i → J.stop i H2
theorem rd_later {a : Addr} {u : HO} {σ2 : Sg} {ρ2 : Env} {H2 : Hp} {F2 : Addr → Prop} (st : Stp σ ρ H F σ2 ρ2 H2 F2) (n : ¬ Om σ ρ a) (h : Rd H a u) : Rd H2 a u := by
  rcases h with h | ⟨o, h⟩
  · exact .inl (st.kp _ _ h n)
  · exact .inr ⟨o, st.kp _ _ h n⟩
theorem rd_inj {a : Addr} {xs ys : List V} (h : SqL K H a xs) (r : Rd H a (.lst ys)) : SqL K H a xs := h
/-- the list that is read -/
theorem itg_list (hs : SRel K A σ ρ H F Pn) {a : Addr} {us : List V} {ws : List W} (r : Rd H a (.lst us)) (n : ¬ Om σ ρ a) (hr : HRs K H F us ws) : ItG K σ ρ H F (Itl K a) ws where
  go := fun i H2 F2 σ2 ρ2 st hi => by
    have hl := hr.length
    exact ⟨us, us[i]'(by omega), .inl (rd_later st n r), by simp⟩
  yl := fun i H2 F2 σ2 ρ2 x H' st hi y => by
    obtain ⟨rfl, y⟩ := y
    obtain ⟨w, e, q⟩ := (st.hrs hs hr).getV (y us (.inl (rd_later st n r)))
    exact ⟨w, e, .old q⟩
  st := fun i H2 F2 σ2 ρ2 st hi => ⟨us, .inl (rd_later st n r), by rw [hr.length]; exact hi⟩
theorem itg_tup (hs : SRel K A σ ρ H F Pn) {a : Addr} {us : List V} {ws : List W} (r : SqT K H a us) (hr : HRs K H F us ws) : ItG K σ ρ H F (Itt K a) ws where
  go := fun i H2 F2 σ2 ρ2 st hi => by
    have hl := hr.length
    exact ⟨us, us[i]'(by omega), st.sqt hs a us r, by simp⟩
  yl := fun i H2 F2 σ2 ρ2 x H' st hi y => by
    obtain ⟨rfl, y⟩ := y
    obtain ⟨w, e, q⟩ := (st.hrs hs hr).getV (y us (st.sqt hs a us r))
    exact ⟨w, e, .old q⟩
  st := fun i H2 F2 σ2 ρ2 st hi => ⟨us, st.sqt hs a us r, by rw [hr.length]; exact hi⟩
theorem rev_get {α : Type} {l : List α} {i : Nat} (h : i < l.length) : l.reverse[i]? = l[l.length - 1 - i]? := List.getElem?_reverse h
theorem itg_revL (hs : SRel K A σ ρ H F Pn) {a : Addr} {us : List V} {ws : List W} (r : Rd H a (.lst us)) (n : ¬ Om σ ρ a) (hr : HRs K H F us ws) : ItG K σ ρ H F (Itv K a us.length) ws.reverse where
  go := fun i H2 F2 σ2 ρ2 st hi => by
    have hl := hr.length
    rw [List.length_reverse] at hi
    exact ⟨by omega, us, us[us.length - 1 - i]'(by omega), .inl (rd_later st n r), by simp⟩
  yl := fun i H2 F2 σ2 ρ2 x H' st hi y => by
    have hl := hr.length
    rw [List.length_reverse] at hi
    obtain ⟨rfl, y⟩ := y
    obtain ⟨w, e, q⟩ := (st.hrs hs hr).getV (y us (.inl (rd_later st n r)))
    exact ⟨w, by rw [rev_get hi, ← hl]; exact e, .old q⟩
  st := fun i H2 F2 σ2 ρ2 st hi => by
    show us.length ≤ i
    rw [List.length_reverse] at hi
    rw [hr.length]; exact hi
theorem itg_revT (hs : SRel K A σ ρ H F Pn) {a : Addr} {us : List V} {ws : List W} (r : SqT K H a us) (hr : HRs K H F us ws) : ItG K σ ρ H F (RT.ItvT K a us.length) ws.reverse where
  go := fun i H2 F2 σ2 ρ2 st hi => by
    have hl := hr.length
    rw [List.length_reverse] at hi
    exact ⟨by omega, us, us[us.length - 1 - i]'(by omega), st.sqt hs a us r, by simp⟩
  yl := fun i H2 F2 σ2 ρ2 x H' st hi y => by
    have hl := hr.length
    rw [List.length_reverse] at hi
    obtain ⟨rfl, y⟩ := y
    obtain ⟨w, e, q⟩ := (st.hrs hs hr).getV (y us (st.sqt hs a us r))
    exact ⟨w, by rw [rev_get hi, ← hl]; exact e, .old q⟩
  st := fun i H2 F2 σ2 ρ2 st hi => by
    show us.length ≤ i
    rw [List.length_reverse] at hi
    rw [hr.length]; exact hi
theorem rng_len : ∀ (n : Nat) (a : Int), (rngL n a).length = n
  | 0, _ => rfl
  | n + 1, a => by simp [rngL, rng_len n (a + 1)]
theorem rng_get : ∀ (n : Nat) (a : Int) (i : Nat), i < n → (rngL n a)[i]? = some (.int (a + i))
  | 0, _, _, h => by omega
  | n + 1, a, 0, _ => by simp [rngL]
  | n + 1, a, i + 1, h => by
    simp only [rngL, List.getElem?_cons_succ]
    rw [rng_get n (a + 1) i (by omega)]
    congr 2
    omega
theorem itg_rng {lo : Int} {n : Nat} : ItG K σ ρ H F (Itr lo n) (rngL n lo) where
  go := fun i H2 F2 σ2 ρ2 st hi => by rw [rng_len] at hi; exact hi
  yl := fun i H2 F2 σ2 ρ2 x H' st hi y => by
    obtain ⟨rfl, rfl⟩ := y
    rw [rng_len] at hi
    exact ⟨_, rng_get n lo i hi, .old (.int _)⟩
  st := fun i H2 F2 σ2 ρ2 st hi => by rw [rng_len] at hi; exact hi
theorem enu_len : ∀ (n : Nat) (ws : List W), (enuL n ws).length = ws.length
  | _, [] => rfl
  | n, w :: ws => by simp [enuL, enu_len (n + 1) ws]
theorem enu_get : ∀ (n : Nat) (ws : List W) (i : Nat) (w : W), ws[i]? = some w → (enuL n ws)[i]? = some (.tup [.int ((n + i : Nat) : Int), w])
  | _, [], i, w, h => by simp at h
  | n, x :: ws, 0, w, h => by simp at h; subst h; simp [enuL]
  | n, x :: ws, i + 1, w, h => by
    simp only [enuL, List.getElem?_cons_succ]
    rw [enu_get (n + 1) ws i w (by simpa using h), show n + 1 + i = n + (i + 1) by omega]
theorem two_new {T : Addr} {x y : V} {w z : W} (hT : H T = none) (a : HR K H F x w) (b : HR K H F y z) : Nw K H F (.ref T) (upd H T (.tup [x, y])) (.tup [w, z]) false :=
  .tup hT (by simp [szL]) (.cons a (.one b))
theorem itg_enu (hs : SRel K A σ ρ H F Pn) {a : Addr} {us : List V} {ws : List W} (r : Rd H a (.lst us)) (n : ¬ Om σ ρ a) (hr : HRs K H F us ws) : ItG K σ ρ H F (Ite K a) (enuL 0 ws) where
  go := fun i H2 F2 σ2 ρ2 st hi => by
    have hl := hr.length
    rw [enu_len] at hi
    exact ⟨us, us[i]'(by omega), .inl (rd_later st n r), by simp⟩
  yl := fun i H2 F2 σ2 ρ2 x H' st hi y => by
    obtain ⟨T, y, rfl, hT, rfl, q⟩ := y
    obtain ⟨w, e, k⟩ := (st.hrs hs hr).getV (q us (.inl (rd_later st n r)))
    exact ⟨_, enu_get 0 ws i w e, by simpa using two_new hT (HR.int (i : Int)) k⟩
  st := fun i H2 F2 σ2 ρ2 st hi => ⟨us, .inl (rd_later st n r), by rw [enu_len] at hi; rw [hr.length]; exact hi⟩
theorem zip2_len : ∀ (xs ys : List W), (zip2 xs ys).length = min xs.length ys.length
  | [], ys => by simp [zip2]
  | _ :: _, [] => by simp [zip2]
  | x :: xs, y :: ys => by simp [zip2, zip2_len xs ys]
theorem zip2_get : ∀ (xs ys : List W) (i : Nat) (x y : W), xs[i]? = some x → ys[i]? = some y → (zip2 xs ys)[i]? = some (.tup [x, y])
  | [], _, _, _, _, h, _ => by simp at h
  | _ :: _, [], _, _, _, _, h => by simp at h
  | x :: xs, y :: ys, 0, _, _, h, h' => by simp at h h'; subst h; subst h'; simp [zip2]
  | x :: xs, y :: ys, i + 1, _, _, h, h' => by
    simp only [zip2, List.getElem?_cons_succ]
    exact zip2_get xs ys i _ _ (by simpa using h) (by simpa using h')
theorem itg_zip (hs : SRel K A σ ρ H F Pn) {a b : Addr} {us vs : List V} {ws zs : List W} (r : Rd H a (.lst us)) (n : ¬ Om σ ρ a) (hr : HRs K H F us ws) (r' : Rd H b (.lst vs)) (n' : ¬ Om σ ρ b) (hr' : HRs K H F vs zs) : ItG K σ ρ H F (Itz K a b) (zip2 ws zs) where
  go := fun i H2 F2 σ2 ρ2 st hi => by
    have hl := hr.length
    have hl' := hr'.length
    rw [zip2_len] at hi
    exact ⟨us, vs, us[i]'(by omega), vs[i]'(by omega), .inl (rd_later st n r), .inl (rd_later st n' r'), by simp, by simp⟩
  yl := fun i H2 F2 σ2 ρ2 x H' st hi y => by
    obtain ⟨T, y, z, rfl, hT, rfl, q, q'⟩ := y
    obtain ⟨w, e, k⟩ := (st.hrs hs hr).getV (q us (.inl (rd_later st n r)))
    obtain ⟨w', e', k'⟩ := (st.hrs hs hr').getV (q' vs (.inl (rd_later st n' r')))
    exact ⟨_, zip2_get ws zs i w w' e e', two_new hT k k'⟩
  st := fun i H2 F2 σ2 ρ2 st hi => ⟨us, vs, .inl (rd_later st n r), .inl (rd_later st n' r'), by rw [zip2_len] at hi; rw [hr.length, hr'.length]; omega⟩
theorem itg_zipT (hs : SRel K A σ ρ H F Pn) {a b : Addr} {us vs : List V} {ws zs : List W} (r : SqT K H a us) (hr : HRs K H F us ws) (r' : SqT K H b vs) (hr' : HRs K H F vs zs) : ItG K σ ρ H F (RZ.ItzT K a b) (zip2 ws zs) where
  go := fun i H2 F2 σ2 ρ2 st hi => by
    have hl := hr.length
    have hl' := hr'.length
    rw [zip2_len] at hi
    exact ⟨us, vs, us[i]'(by omega), vs[i]'(by omega), st.sqt hs _ _ r, st.sqt hs _ _ r', by simp, by simp⟩
  yl := fun i H2 F2 σ2 ρ2 x H' st hi y => by
    obtain ⟨T, y, z, rfl, hT, rfl, q, q'⟩ := y
    obtain ⟨w, e, k⟩ := (st.hrs hs hr).getV (q us (st.sqt hs _ _ r))
    obtain ⟨w', e', k'⟩ := (st.hrs hs hr').getV (q' vs (st.sqt hs _ _ r'))
    exact ⟨_, zip2_get ws zs i w w' e e', two_new hT k k'⟩
  st := fun i H2 F2 σ2 ρ2 st hi => ⟨us, vs, st.sqt hs _ _ r, st.sqt hs _ _ r', by rw [zip2_len] at hi; rw [hr.length, hr'.length]; omega⟩

/-- the list of an argument that is walked: it stands still while the names are locked -/
theorem arg_list (hs : SRel K A σ ρ H F Pn) {as : List Arg} {u : Arg} {v : V} {ws : List W} (hm : u ∈ as) (hp : ∀ p ∈ pnd u v, p ∈ Pn) (ar : AR K σ H F u v) (e : res ρ u = some (.lst ws)) :
    ∃ a us, v = .ref a ∧ Rd H a (.lst us) ∧ HRs K H F us ws ∧ ¬ Om σ (lkE ρ as) a := by
  obtain ⟨l1, l2, l3, l4⟩ := lk_ok (as := as) hs
  have frz : ∀ {v : V}, HR K H F v (.lst ws) → ∃ a us, v = .ref a ∧ Rd H a (.lst us) ∧ HRs K H F us ws ∧ ¬ Om σ (lkE ρ as) a := fun {v} h => by
    cases h with
    | lst f r z q => exact ⟨_, _, rfl, r, q, fun o => (l1.omc o).1 f⟩
  cases u with
  | val w fr =>
    obtain rfl : w = .lst ws := Option.some.inj e
    cases fr with
    | false => exact frz ar
    | true =>
      obtain ⟨c, rfl⟩ := ar
      obtain ⟨x, ⟨us, y1, y2, y3⟩, z⟩ := hs.pn (c, .lst ws) (hp _ (by simp [pnd]))
      refine ⟨c, us, rfl, .inl y1, y3, fun o => ?_⟩
      obtain ⟨i, s⟩ := (l3 c o).sl
      exact z i s
  | slot i =>
    simp only [res] at e
    cases q : wOf ρ i with
    | none => rw [q] at e; cases e
    | some x =>
      rw [q] at e
      obtain ⟨w, f⟩ := x
      obtain rfl : w = .lst ws := Option.some.inj e
      have q' := wOf_eq.mp q
      have ar' : σ[i]? = some (some v) := ar
      by_cases hf : f = .sh
      · subst hf
        obtain ⟨v', a, b⟩ := hs.sh i _ q'
        rw [ar'] at a; cases a
        exact frz b
      · obtain ⟨c, ec, nF, us, y1, y2, y3⟩ := hs.ow i _ f q' hf
        rw [ar'] at ec; cases ec
        exact ⟨c, us, rfl, .inl y1, y3, l4 i c hm ⟨_, f, q', hf, ar'⟩⟩
end
end Py

namespace Py
open PySem PySem.Spec PyProof.Rows L2
/-! ### enumerate of a tuple -/
theorem en1_meets {v : Value} {ob : Obj} {Hs : Heap → Prop} (B : Begins v ob Hs) : Meets (Builtin.«enumerate.__new__» ⟨[.type "enumerate", v], []⟩) (fun _ R s => Hs s.heap ∧
      R (.ok (.ret (.ref (s.heap.push ob).objs.size))) { s with heap := (s.heap.push ob).push { cls := .type "enumerate", data := .fields #[.none, .bool false, .ref s.heap.objs.size, rawInt 0, .none, .none] } }) :=
  .of_wp fun prog w A R s h => by
    obtain ⟨hp, g, d, tk, os⟩ := s; obtain ⟨hB, h⟩ := h
    have hs := sub_enumerate
    have wk : ∀ {A' : Around} {E : Value → Shared → Prop} {Q : Value → Shared → Prop}, Q (.ref hp.objs.size) ⟨hp.push ob, g, d, tk, os⟩ → wpAny (model prog w) A' (pyIter v) Q E ⟨hp, g, d, tk, os⟩ := fun q => B.iter prog w _ _ ⟨hp, g, d, tk, os⟩ _ hB q
    wp_walk using wk
    refine wpAny_stack_any fun _ => wpAny_pure ?_
    split
    · rename_i cl _ _ _ _ _
      cases (cl == Value.type "enumerate") <;> (wp_walk using wk; exact ⟨_, rfl, h⟩)
    · (wp_walk using wk; exact ⟨_, rfl, h⟩)
section
variable {prog : Program} {w : World} {A : Around} {E : Value → Shared → Prop} {s : Shared}
theorem en1_call {v : Value} {ob : Obj} {Hs : Heap → Prop} {Q : Value → Shared → Prop} (B : Begins v ob Hs) (hB : Hs s.heap)
    (h : ∀ h', IsEnum h' (s.heap.objs.size + 1) s.heap.objs.size 0 .none → h'.get? s.heap.objs.size = some ob → h'.objs.size = s.heap.objs.size + 2 → (∀ b o, s.heap.get? b = some o → h'.get? b = some o) → Q (.ref (s.heap.objs.size + 1)) { s with heap := h' }) :
    wpAny (model prog w) A (call (.type "enumerate") [v]) Q E s := by
  refine callType_new F.called_enumerate (by decide) (F.typeCall_enumerate_1 _) (F.newCall_enumerate_1 _) (fun obj => F.args_object_init_2 obj _) F.entry_enumerate_new (en1_meets B) ⟨hB, ?_⟩
  have hz : (s.heap.push ob).objs.size = s.heap.objs.size + 1 := Heap.size_push ..
  show _ ∧ _
  rw [hz]
  have en : IsEnum ((s.heap.push ob).push { cls := .type "enumerate", data := .fields #[.none, .bool false, .ref s.heap.objs.size, rawInt 0, .none, .none] }) (s.heap.objs.size + 1) s.heap.objs.size 0 .none := by
    have z := Heap.get?_push_size (s.heap.push ob) (o := { cls := .type "enumerate", data := .fields #[.none, .bool false, .ref s.heap.objs.size, rawInt 0, .none, .none] }) rfl
    rw [hz] at z; exact z
  exact ⟨⟨_, en, rfl⟩, h _ en (Heap.get?_push_of_some _ (Heap.get?_push_size _ B.free)) (by rw [Heap.size_push, hz]) fun _ _ x => Heap.get?_push_of_some _ (Heap.get?_push_of_some _ x)⟩
end
/-- the tuple at a, each item in a new pair -/
def IteT (K : PySem.W.Frag) (a : Addr) : It :=
  ⟨fun i H => ∃ (xs : List V) (x : V), SqT K H a xs ∧ xs[i]? = some x, fun i H v H' => ∃ T x, v = .ref T ∧ H T = none ∧ H' = upd H T (.tup [.int (i : Nat), x]) ∧ ∀ xs, SqT K H a xs → xs[i]? = some x, fun i H => ∃ xs : List V, SqT K H a xs ∧ xs.length ≤ i⟩
theorem en_ne {h : Heap} {a e it : Addr} {c : Int} {old : Value} {items : Array Value} (he : IsEnum h e it c old) (ht : h.IsTuple a items) : a ≠ e := by
  rintro rfl
  obtain ⟨o, e1, e2, _⟩ := ht
  have : h.get? a = _ := he
  rw [e1] at this
  cases this
  exact absurd (Value.type.inj e2) (by decide)
theorem ti_ne {h : Heap} {a it : Addr} {i : Nat} {items : Array Value} (hi : h.IsTupleIter it a i) (ht : h.IsTuple a items) : a ≠ it := by
  rintro rfl
  obtain ⟨o, e1, e2, _⟩ := ht
  obtain ⟨o', e3, e4, _⟩ := hi
  rw [e1] at e3
  cases e3
  rw [e2] at e4
  exact absurd (Value.type.inj e4) (by decide)
theorem turn_enumT {P : Program} {w : World} {K : PySem.W.Frag} {elts : List Expr} {kk : Nat} {tpos : Pos} (a e it : Addr) :
    Turn P w K (.Tuple elts kk tpos) (IteT K a) [e, it] e (fun i h => (∃ old, IsEnum h e it ((i : Nat) : Int) old) ∧ h.IsTupleIter it a i ∧ e ≠ it) where
  mem := by simp
  obj := fun i h st b hb => by
    obtain ⟨⟨old, he⟩, ⟨o, ho, hc, hd⟩, _⟩ := st
    have e' : b = e ∨ b = it := by simpa using hb
    rcases e' with z | z
    · rw [z]; exact ⟨_, he, fun v q => nomatch q⟩
    · rw [z]; exact ⟨o, ho, fun v q => by rw [hd] at q; cases q⟩
  keep := fun i h h' st k => let ⟨⟨old, he⟩, hi, hne⟩ := st; ⟨⟨old, k e (by simp) _ he⟩, hi.at fun o q => k it (by simp) o q, hne⟩
  item := by
    intro X hP hw hK hc i pins s σ H E I hf st hg
    subst hP hw hK
    obtain ⟨⟨old, he⟩, hit, hne⟩ := st
    obtain ⟨xs, x, hq, hx⟩ := hg
    obtain ⟨its, rv, p, hz⟩ := I.tuple hq
    have pt : s.heap.IsTuple a its.toArray := p
    obtain ⟨u, hu, ru⟩ := rv.get hx
    have hel : e < s.heap.objs.size := Heap.lt_size he
    have hil : it < s.heap.objs.size := by obtain ⟨_, q, _⟩ := hit; exact Heap.lt_size q
    have ane := en_ne he pt
    have ait := ti_ne hit pt
    have hlt : i < its.toArray.size := by rw [List.size_toArray]; exact (List.getElem?_eq_some_iff.mp hu).1
    refine wpAny_pyNext_enum_itemD (Draws.tuple (A := X.A.in1) (show X.A.in1.handled = none from I.ok.hd hc) it a ait its.toArray) he ⟨hit, pt⟩ hlt hne (by simp [hne, Ne.symm ane]) fun x' h' tk hP ho hs' hT hsz hk => ?_
    have ex : x' = u := by
      have z : its[i]? = some x' := by simpa using hP
      rw [hu] at z
      exact (Option.some.inj z).symm
    subst ex
    refine ⟨_, rfl, wpAny_letOwnedTupleGo_enum (s := { s with heap := h', toks := tk + 1 }) ho fun h'' he' sb => ?_⟩
    have hT2 : h''.get? s.heap.objs.size = some { cls := .type "tuple", data := .seq #[.int i tk, x'] } := (sb.2 _ (Nat.ne_of_gt hel)).trans hT
    have new : ObjOk X.prog X.w (upd H s.heap.objs.size (.tup [.int (i : Nat), x])) h'' s.heap.objs.size (.tup [.int (i : Nat), x]) :=
      ⟨by show 2 ≤ sizeLine; decide, [.int i tk, x'], .cons ⟨_, rfl⟩ (.cons ru .nil), ⟨_, hT2, rfl, _, rfl⟩⟩
    have I1 : Inv X pins σ (upd H s.heap.objs.size (.tup [.int (i : Nat), x])) { s with heap := h'', toks := tk + 1 } :=
      I.turnedNew (ch := [e, it]) (fun b ob hb q => (sb.2 b (fun z => hb (by simp [z]))).trans (hk b ob (fun z => hb (by simp [z])) (fun z => hb (by simp [z])) q)) hf (Nat.le_refl _) new
    refine ⟨.ref s.heap.objs.size, _, I1, rfl, ⟨_, x, rfl, I.hok.fresh (Nat.le_refl _), rfl, fun ys hy => by rw [I.tuple_inj hy hq]; exact hx⟩, ⟨⟨x', ?_⟩, hs'.1.at fun o q => (sb.2 it (Ne.symm hne)).trans q, hne⟩, fun b hb => ?_⟩
    · rw [show ((i + 1 : Nat) : Int) = (i : Int) + 1 by omega]; exact he'
    · have hb' : b < s.heap.objs.size := by
        have e' : b = e ∨ b = it := by simpa using hb
        rcases e' with z | z
        · rw [z]; exact hel
        · rw [z]; exact hil
      rw [upd_ne (Nat.ne_of_lt hb')]
      exact (hf b hb).1
  done := by
    intro X hP hw hK hc i pins s σ H E I hf st hg
    subst hP hw hK
    obtain ⟨⟨old, he⟩, hit, hne⟩ := st
    obtain ⟨xs, hq, hx⟩ := hg
    obtain ⟨its, rv, p, hz⟩ := I.tuple hq
    have pt : s.heap.IsTuple a its.toArray := p
    obtain ⟨f0, f1, f2, f3, f4, f5⟩ := hf it (by simp)
    have ait := ti_ne hit pt
    have D : Draws X.prog X.w X.A.in1 it [it, a] i (fun j v => its.toArray[j]? = some v) (fun j h => (j = i → h.IsTupleIter it a i) ∧ (j < i → False) ∧ h.IsTuple a its.toArray ∧ h.IsTupleIter it a i) :=
      { live := fun j h st => let ⟨o, ho, _⟩ := st.2.2.2; ⟨o, ho⟩
        frame := fun j h h' st k => ⟨fun q => (st.1 q).at fun o e => k it (by simp) o e, st.2.1, st.2.2.1.at fun o e => k a (by simp) o e, st.2.2.2.at fun o e => k it (by simp) o e⟩
        item := fun j s Q E hj st _ => (st.2.1 hj).elim
        done := fun s Q E st hE => wpAny_nextOf_tuple_end (show X.A.in1.handled = none from I.ok.hd hc) st.2.2.2 st.2.2.1 (by have hl := rv.length; simp; omega) hE }
    exact wpAny_pyNext_enum_endD D he ⟨fun _ => hit, fun z => absurd z (Nat.lt_irrefl _), pt, hit⟩ fun h' eb => ⟨rfl, I.turned (t' := s.toks) (fun b o hb q => eb b o hb q) f0 f1 f3 f4 f5⟩
  self := fun A i s Q E st h => let ⟨⟨_, he⟩, _⟩ := st; wpAny_pyIter_enum he h
def iEnA (K : PySem.W.Frag) (ta : TA) : TI := fun σ H R => ta σ H fun vs H1 => ∃ a, vs = [.ref a] ∧ (((∃ xs, SqL K H1 a xs) ∧ R (Ite K a) H1) ∨ ((∃ xs, SqT K H1 a xs) ∧ R (IteT K a) H1))
theorem pi_enA {X : Cx} {e : Expr} {ta : TA} {p pos tpos : Pos} {elts : List Expr} {kk : Nat} (hg : Gl X "enumerate") (hm : X.mg "enumerate" = none) (ha : PA X [e] ta) (hs : starEach [e] X.env = [(false, eval e X.env)]) :
    PI X (.Tuple elts kk tpos) (.Call (.Name "enumerate" p) [e] [] pos) (iEnA X.K ta) := by
  refine ⟨fun pins s σ H R I h => ?_⟩
  refine Call_ (ld_blt I hg hm boot_enumerate (PyProof.Rows.callWith_type1 (thn (ha.run pos pins s σ H _ I h) fun us s1 ⟨vs, H1, I1, r1, q1⟩ => ?_) hs rfl))
  obtain ⟨a, ex, q⟩ := q1
  subst ex
  cases r1 with
  | cons r rr =>
    cases rr
    cases r
    have out : ∀ b ∈ [s1.heap.objs.size + 1, s1.heap.objs.size], s1.heap.objs.size ≤ b := fun b hb => by
      have e' : b = s1.heap.objs.size + 1 ∨ b = s1.heap.objs.size := by simpa using hb
      rcases e' with z | z <;> rw [z] <;> omega
    rcases q with ⟨⟨xs, hq⟩, q⟩ | ⟨⟨xs, hq⟩, q⟩
    · obtain ⟨its, rv, p', hz⟩ := I1.list hq
      refine call_enumerate_list p'.isList fun h' he hit hsz hk => wpAny_pyIter_enum he ?_
      exact ⟨s1.heap.objs.size + 1, [s1.heap.objs.size + 1, s1.heap.objs.size], _, _, H1, rfl, I1.kept (t' := s1.toks) hk, turn_enum a (s1.heap.objs.size + 1) s1.heap.objs.size, ⟨⟨.none, he⟩, hit, Nat.succ_ne_self _⟩, fun b hb => I1.fpOk (out b hb) (I1.hok.fresh (out b hb)), q⟩
    · obtain ⟨its, rv, p', hz⟩ := I1.tuple hq
      refine en1_call (begins_tuple a its.toArray) (show s1.heap.IsTuple a its.toArray from p') fun h' he hob hsz hk => wpAny_pyIter_enum he ?_
      exact ⟨s1.heap.objs.size + 1, [s1.heap.objs.size + 1, s1.heap.objs.size], _, _, H1, rfl, I1.kept (t' := s1.toks) hk, turn_enumT a (s1.heap.objs.size + 1) s1.heap.objs.size, ⟨⟨.none, he⟩, ⟨_, hob, rfl, rfl⟩, Nat.succ_ne_self _⟩, fun b hb => I1.fpOk (out b hb) (I1.hok.fresh (out b hb)), q⟩
section
variable [HW] {K : PySem.W.Frag} {A : Nat → Option Addr} {σ : Sg} {ρ : Env} {H : Hp} {F : Addr → Prop} {Pn : List (Addr × W)}
theorem itg_enuT (hs : SRel K A σ ρ H F Pn) {a : Addr} {us : List V} {ws : List W} (r : SqT K H a us) (hr : HRs K H F us ws) : ItG K σ ρ H F (IteT K a) (enuL 0 ws) where
  go := fun i H2 F2 σ2 ρ2 st hi => by
    have hl := hr.length
    rw [enu_len] at hi
    exact ⟨us, us[i]'(by omega), st.sqt hs a us r, by simp⟩
  yl := fun i H2 F2 σ2 ρ2 x H' st hi y => by
    obtain ⟨T, x', rfl, hT, rfl, y⟩ := y
    obtain ⟨w, e, q⟩ := (st.hrs hs hr).getV (y us (st.sqt hs a us r))
    exact ⟨_, by have := enu_get 0 ws i w e; simpa using this, two_new hT (.int _) q⟩
  st := fun i H2 F2 σ2 ρ2 st hi => ⟨us, st.sqt hs a us r, by rw [hr.length]; rw [enu_len] at hi; exact hi⟩
end
end Py

namespace Py
open PySem PySem.Spec PyProof.Rows L2
variable [HW]

theorem PkRs.length {K : PySem.W.Frag} {H : Hp} {F : Addr → Prop} {vs : List V} {ws : List W} (h : PkRs K H F vs ws) : vs.length = ws.length := by
  induction h with
  | nil => rfl
  | cons _ _ ih => simp [ih]
/-- what a loop walks -/
def tI (c : Cf) (k : IK) (es : E) : TI := fun σ H R => ∃ A ρ F Pn, SRel c.K A σ ρ H F Pn ∧ OkX ((ev c.C es).a ρ) (fun us ρ1 => ∃ its, (ress ρ1 us).bind (itW k) = some its ∧
  ∀ J vs H1 F1, Md c A σ ρ H F Pn us vs ρ1 H1 F1 → ItG c.K σ (lkE ρ1 us) H1 F1 J its → R J H1) (EX c A σ ρ H F Pn)
section
variable {X : Cx} {c : Cf} {tg e : Expr} {ea eas : E} {pos p : Pos}
theorem piImp {t t' : TI} (h : PI X tg e t) (i : ∀ σ H R, t' σ H R → t σ H R) : PI X tg e t' := ⟨fun pins s σ H R I q => h.run pins s σ H R I (i σ H R q)⟩

/-- a list or a tuple, as it comes -/
theorem pi_seq {te : TE} (he : PE X e te) : PI X tg e (fun σ H R => te σ H fun y G => (∃ d, y = .ref d ∧ (∃ l, SqL X.K G d l) ∧ R (Itl X.K d) G) ∨ ∃ d, y = .ref d ∧ (∃ l, SqT X.K G d l) ∧ R (Itt X.K d) G) := by
  refine ⟨fun pins s0 σ G0 R J0 hq => ?_⟩
  refine thn (he.run pins s0 σ G0 _ J0 hq) fun u s2 ⟨y, G, J, ry, hy⟩ => ?_
  have fresh : ∀ (o : Obj), ∀ b ∈ [s2.heap.objs.size], FpOk X pins G b := fun o b hb => by
    cases List.mem_singleton.mp hb
    exact J.fpOk (Nat.le_refl _) (J.hok.fresh (Nat.le_refl _))
  rcases hy with ⟨d, rfl, ⟨l, hl⟩, hR⟩ | ⟨d, rfl, ⟨l, hl⟩, hR⟩
  · cases ry
    obtain ⟨us, rv, pl, hz⟩ := J.list hl
    refine wpAny_pyIter_list pl.isList ?_
    exact ⟨_, [s2.heap.objs.size], _, _, G, rfl, J.kept (t' := s2.toks) fun b o q => Heap.get?_push_of_some _ q, turn_list d s2.heap.objs.size, ⟨_, Heap.get?_push_size _ rfl, rfl, rfl⟩, fresh default, hR⟩
  · cases ry
    obtain ⟨us, rv, pt, hz⟩ := J.tuple hl
    refine wpAny_pyIter_tuple (show s2.heap.IsTuple d us.toArray from pt) ?_
    exact ⟨_, [s2.heap.objs.size], _, _, G, rfl, J.kept (t' := s2.toks) fun b o q => Heap.get?_push_of_some _ q, turn_tuple d s2.heap.objs.size, ⟨_, Heap.get?_push_size _ rfl, rfl, rfl⟩, fresh default, hR⟩

theorem one_arg {A : Nat → Option Addr} {σ : Sg} {ρ : Env} {H : Hp} {F : Addr → Prop} {Pn : List (Addr × W)} {P : List Arg → Env → Prop} (hs : SRel c.K A σ ρ H F Pn) {R : VK} (h : OkX ((ev c.C (.cons ea .nil)).a ρ) P (EX c A σ ρ H F Pn))
    (fin : ∀ u v ρ1 H1 F1, Md c A σ ρ H F Pn [u] [v] ρ1 H1 F1 → P [u] ρ1 → R v H1) : tX c ea σ H R := by
  have h : OkX (((ev c.C ea).x ρ).bind fun u ρ1 => Out.ok [u] ρ1) P (EX c A σ ρ H F Pn) := h
  exact tX_ofG (.nil hs) h fun u v ρ1 H1 F1 m q => fin u v ρ1 H1 F1 m q
theorem seq_ok {w : W} {k : IK} {its : List W} {ρ : Env} {u : Arg} (e : (ress ρ [u]).bind (itW k) = some its) : ∃ w, res ρ u = some w ∧ itW k [w] = some its := by
  obtain ⟨ws, e1, e2⟩ := Option.bind_eq_some_iff.mp e
  simp only [ress] at e1
  cases q : res ρ u with
  | none => rw [q] at e1; simp at e1
  | some w =>
    rw [q] at e1
    obtain rfl : [w] = ws := by simpa using e1
    exact ⟨w, rfl, e2⟩
theorem i_seq (hc : c.K = X.K) (he : PE X e (tX c ea)) : PI X tg e (tI c .seq (.cons ea .nil)) := by
  refine piImp (pi_seq he) fun σ H R ⟨A, ρ, F, Pn, hs, q⟩ => ?_
  refine one_arg hs q fun u v ρ1 H1 F1 m ⟨its, e1, q1⟩ => ?_
  obtain ⟨w, e2, e3⟩ := seq_ok (w := .non) e1
  obtain ⟨_, e, p1⟩ := (m.pk (ress1 e2)).one
  cases e
  obtain ⟨l1, l2, l3, l4⟩ := lk_ok (as := [u]) m.sr
  rw [← hc]
  cases w <;> first | (cases e3; done) | skip
  · cases Option.some.inj e3
    obtain ⟨a, us, rfl, r, z, hr⟩ := p1.tup
    exact .inr ⟨a, rfl, ⟨us, r⟩, q1 _ _ H1 F1 m (itg_tup l1 r hr)⟩
  · cases Option.some.inj e3
    have ar : AR c.K σ H1 F1 u v := by cases m.ar with | cons h _ => exact h
    obtain ⟨a, us, rfl, r, hr, n⟩ := arg_list m.sr (as := [u]) (by simp) (fun p hp => by simp [pnds, hp]) ar e2
    exact .inl ⟨a, rfl, ⟨us, .inl r⟩, q1 _ _ H1 F1 m (itg_list l1 r n hr)⟩

/-- the arguments as they come -/
theorem all_args {A : Nat → Option Addr} {σ : Sg} {ρ : Env} {H : Hp} {F : Addr → Prop} {Pn : List (Addr × W)} {P : List Arg → Env → Prop} (hs : SRel c.K A σ ρ H F Pn) {R : List V → Hp → Prop} (h : OkX ((ev c.C eas).a ρ) P (EX c A σ ρ H F Pn))
    (fin : ∀ us vs ρ1 H1 F1, Md c A σ ρ H F Pn us vs ρ1 H1 F1 → P us ρ1 → R vs H1) : tXL c eas σ H R :=
  ⟨A, ρ, F, Pn, hs, h.mono (fun us ρ1 q vs H1 F1 st sr ar fr => fin us vs ρ1 H1 F1 ⟨st, sr, ar, fr⟩ q) fun _ _ _ e => e⟩
theorem okR_of {i : Int} (h : okR i = true) : -(2 ^ 62) ≤ i ∧ i < 2 ^ 62 := of_decide_eq_true h
theorem rngW1 {ws : List W} {its : List W} {j : Int} (e : ws = [.int j]) (h : rngW ws = some its) : okR j = true ∧ its = rngL j.toNat 0 := by
  subst e
  obtain ⟨a, b⟩ := of_if h
  exact ⟨a.1, b.symm⟩
theorem rngW2 {ws : List W} {its : List W} {i j : Int} (e : ws = [.int i, .int j]) (h : rngW ws = some its) : okR i = true ∧ okR j = true ∧ its = rngL (j - i).toNat i := by
  subst e
  obtain ⟨a, b⟩ := of_if h
  obtain ⟨a1, a2⟩ := Bool.and_eq_true_iff.mp a.1
  exact ⟨a1, a2, b.symm⟩
theorem i_rng1 {a : Expr} (hg : Gl X "range") (hm : X.mg "range" = none) (hp : plainE a = true) (ha : PA X [a] (tXL c eas)) (h1 : ∀ ρ us ρ1, (ev c.C eas).a ρ = .ok us ρ1 → us.length = 1) : PI X tg (.Call (.Name "range" p) [a] [] pos) (tI c .rng eas) := by
  refine piImp (pi_range1 hg hm ha (star_cons _ hp _)) fun σ H R ⟨A, ρ, F, Pn, hs, q⟩ => ?_
  have hl := h1 ρ
  cases e0 : (ev c.C eas).a ρ with
  | bad => rw [e0] at q; exact q.elim
  | ex x pl ρ1 =>
    refine ⟨A, ρ, F, Pn, hs, ?_⟩
    rw [e0] at q ⊢; exact q
  | ok us ρ1 =>
    have hl := hl us ρ1 e0
    refine ⟨A, ρ, F, Pn, hs, ?_⟩
    rw [e0] at q ⊢
    intro vs H1 F1 st sr ar fr
    obtain ⟨its, e1, q1⟩ := q
    obtain ⟨ws, e2, e3⟩ := Option.bind_eq_some_iff.mp e1
    have m : Md c A σ ρ H F Pn us vs ρ1 H1 F1 := ⟨st, sr, ar, fr⟩
    have pk := m.pk e2
    match ws, pk, e3 with
    | [.int j], pk, e3 =>
      obtain ⟨v, rfl, pv⟩ := pk.one
      obtain ⟨a1, rfl⟩ := rngW1 rfl e3
      obtain ⟨b1, b2⟩ := okR_of a1
      exact ⟨j, by rw [pv.int], b1, b2, q1 _ _ H1 F1 m itg_rng⟩
    | [.int i, .int j], pk, e3 =>
      obtain ⟨v, v', rfl, _, _⟩ := pk.two
      have := m.ar.len
      simp [hl] at this
    | [.int i, .int j, .int k], pk, e3 =>
      have := m.ar.len
      have l2 := pk.length
      simp [hl] at this
      simp [← this] at l2
theorem i_rng2 {a b : Expr} (hg : Gl X "range") (hm : X.mg "range" = none) (hp : plainE a = true) (hp2 : plainE b = true) (ha : PA X [a, b] (tXL c eas)) (h1 : ∀ ρ us ρ1, (ev c.C eas).a ρ = .ok us ρ1 → us.length = 2) : PI X tg (.Call (.Name "range" p) [a, b] [] pos) (tI c .rng eas) := by
  refine piImp (pi_range2 hg hm ha ((star_cons _ hp _).trans (by rw [star_cons _ hp2]; rfl)) (star_cons _ hp2 _)) fun σ H R ⟨A, ρ, F, Pn, hs, q⟩ => ?_
  have hl := h1 ρ
  cases e0 : (ev c.C eas).a ρ with
  | bad => rw [e0] at q; exact q.elim
  | ex x pl ρ1 =>
    refine ⟨A, ρ, F, Pn, hs, ?_⟩
    rw [e0] at q ⊢; exact q
  | ok us ρ1 =>
    have hl := hl us ρ1 e0
    refine ⟨A, ρ, F, Pn, hs, ?_⟩
    rw [e0] at q ⊢
    intro vs H1 F1 st sr ar fr
    obtain ⟨its, e1, q1⟩ := q
    obtain ⟨ws, e2, e3⟩ := Option.bind_eq_some_iff.mp e1
    have m : Md c A σ ρ H F Pn us vs ρ1 H1 F1 := ⟨st, sr, ar, fr⟩
    have pk := m.pk e2
    match ws, pk, e3 with
    | [.int i, .int j], pk, e3 =>
      obtain ⟨v, v', rfl, pv, pv'⟩ := pk.two
      obtain ⟨a1, a2, rfl⟩ := rngW2 rfl e3
      obtain ⟨b1, b2⟩ := okR_of a1
      obtain ⟨b3, b4⟩ := okR_of a2
      exact ⟨i, j, by rw [pv.int, pv'.int], ⟨b1, b2, b3, b4⟩, q1 _ _ H1 F1 m itg_rng⟩
    | [.int j], pk, e3 =>
      obtain ⟨v, rfl, _⟩ := pk.one
      have := m.ar.len
      simp [hl] at this
    | [.int i, .int j, .int k], pk, e3 =>
      have := m.ar.len
      have l2 := pk.length
      simp [hl] at this
      simp [← this] at l2
theorem one_res {ρ : Env} {u : Arg} {w : W} (h : ress ρ [u] = some [w]) : res ρ u = some w := by
  simp only [ress] at h
  cases q : res ρ u with
  | none => rw [q] at h; simp at h
  | some w' => rw [q] at h; simpa using h
theorem i_enu {elts : List Expr} {kk : Nat} {tpos : Pos} (hc : c.K = X.K) (hg : Gl X "enumerate") (hm : X.mg "enumerate" = none) (hp : plainE e = true) (ha : PA X [e] (tXL c eas)) :
    PI X (.Tuple elts kk tpos) (.Call (.Name "enumerate" p) [e] [] pos) (tI c .enu eas) := by
  refine piImp (pi_enA hg hm ha (star_cons _ hp _)) fun σ H R ⟨A, ρ, F, Pn, hs, q⟩ => ?_
  refine all_args hs q fun us vs ρ1 H1 F1 m ⟨its, e1, q1⟩ => ?_
  obtain ⟨ws, e2, e3⟩ := Option.bind_eq_some_iff.mp e1
  match ws, e2, e3 with
  | [.lst xs], e2, e3 =>
    cases Option.some.inj e3
    obtain ⟨v, rfl, pv⟩ := (m.pk e2).one
    match us, e2, m, q1 with
    | [u], e2, m, q1 =>
      have ar : AR c.K σ H1 F1 u v := by cases m.ar with | cons h _ => exact h
      obtain ⟨l1, l2, l3, l4⟩ := lk_ok (as := [u]) m.sr
      obtain ⟨a, us', rfl, r, hr, n⟩ := arg_list m.sr (as := [u]) (by simp) (fun p hp => by simp [pnds, hp]) ar (one_res e2)
      rw [← hc]
      exact ⟨a, rfl, .inl ⟨⟨us', .inl r⟩, q1 _ _ H1 F1 m (itg_enu l1 r n hr)⟩⟩
    | [], e2, m, _ => simp [ress] at e2
    | _ :: _ :: _, e2, m, _ => have := m.ar.len; simp at this
  | [.tup xs], e2, e3 =>
    cases Option.some.inj e3
    obtain ⟨v, rfl, pv⟩ := (m.pk e2).one
    match us, e2, m, q1 with
    | [u], e2, m, q1 =>
      obtain ⟨l1, l2, l3, l4⟩ := lk_ok (as := [u]) m.sr
      obtain ⟨a, us', rfl, r, z, hr⟩ := pv.tup
      rw [← hc]
      exact ⟨a, rfl, .inr ⟨⟨us', r⟩, q1 _ _ H1 F1 m (itg_enuT l1 r hr)⟩⟩
    | [], e2, m, _ => simp [ress] at e2
    | _ :: _ :: _, e2, m, _ => have := m.ar.len; simp at this
theorem i_rev (hc : c.K = X.K) (hg : Gl X "reversed") (hm : X.mg "reversed" = none) (hp : plainE e = true) (he : PE X e (tX c ea)) : PI X tg (.Call (.Name "reversed" p) [e] [] pos) (tI c .rev (.cons ea .nil)) := by
  refine piImp (RT.pi_revA hg hm he (star_cons _ hp _)) fun σ H R ⟨A, ρ, F, Pn, hs, q⟩ => ?_
  refine one_arg hs q fun u v ρ1 H1 F1 m ⟨its, e1, q1⟩ => ?_
  obtain ⟨w, e2, e3⟩ := seq_ok (w := .non) e1
  obtain ⟨_, e, p1⟩ := (m.pk (ress1 e2)).one
  cases e
  obtain ⟨l1, l2, l3, l4⟩ := lk_ok (as := [u]) m.sr
  rw [← hc]
  cases w <;> first | (cases e3; done) | skip
  · cases Option.some.inj e3
    obtain ⟨a, us, rfl, r, z, hr⟩ := p1.tup
    exact ⟨a, us, rfl, .inr ⟨r, q1 _ _ H1 F1 m (itg_revT l1 r hr)⟩⟩
  · cases Option.some.inj e3
    have ar : AR c.K σ H1 F1 u v := by cases m.ar with | cons h _ => exact h
    obtain ⟨a, us, rfl, r, hr, n⟩ := arg_list m.sr (as := [u]) (by simp) (fun p hp => by simp [pnds, hp]) ar e2
    exact ⟨a, us, rfl, .inl ⟨.inl r, q1 _ _ H1 F1 m (itg_revL l1 r n hr)⟩⟩
theorem i_zip {e2 : Expr} {elts : List Expr} {kk : Nat} {tpos : Pos} (hc : c.K = X.K) (hg : Gl X "zip") (hm : X.mg "zip" = none) (hp : plainE e = true) (hp2 : plainE e2 = true) (ha : PA X [e, e2] (tXL c eas)) :
    PI X (.Tuple elts kk tpos) (.Call (.Name "zip" p) [e, e2] [] pos) (tI c .zip eas) := by
  refine piImp (RZ.pi_zipA hg hm ha (star_cons _ hp _) (by rw [star_cons _ hp2]; rfl)) fun σ H R ⟨A, ρ, F, Pn, hs, q⟩ => ?_
  refine all_args hs q fun us vs ρ1 H1 F1 m ⟨its, e1, q1⟩ => ?_
  obtain ⟨ws, e2', e3⟩ := Option.bind_eq_some_iff.mp e1
  rw [← hc]
  match ws, e2', e3 with
  | [.lst xs, .lst ys], e2', e3 =>
    cases Option.some.inj e3
    obtain ⟨v, v', rfl, pv, pv'⟩ := (m.pk e2').two
    match us, e2', m, q1 with
    | [u, u'], e2', m, q1 =>
      have e4 : res ρ1 u = some (.lst xs) ∧ res ρ1 u' = some (.lst ys) := by
        simp only [ress] at e2'
        cases q : res ρ1 u with
        | none => rw [q] at e2'; simp at e2'
        | some w => cases q' : res ρ1 u' with
          | none => rw [q, q'] at e2'; simp at e2'
          | some w' => rw [q, q'] at e2'; simpa using e2'
      obtain ⟨l1, l2, l3, l4⟩ := lk_ok (as := [u, u']) m.sr
      obtain ⟨ar, ar'⟩ : AR c.K σ H1 F1 u v ∧ AR c.K σ H1 F1 u' v' := by cases m.ar with | cons h t => cases t with | cons h' _ => exact ⟨h, h'⟩
      obtain ⟨a, us', rfl, r, hr, n⟩ := arg_list m.sr (as := [u, u']) (by simp) (fun p hp => by simp [pnds, hp]) ar e4.1
      obtain ⟨a', us'', rfl, r', hr', n'⟩ := arg_list m.sr (as := [u, u']) (by simp) (fun p hp => by simp [pnds, hp]) ar' e4.2
      exact ⟨a, a', us', us'', rfl, .inl ⟨.inl r, .inl r', q1 _ _ H1 F1 m (itg_zip l1 r n hr r' n' hr')⟩⟩
    | [], e2', m, _ => simp [ress] at e2'
    | [_], e2', m, _ => have := m.ar.len; simp at this
    | _ :: _ :: _ :: _, e2', m, _ => have := m.ar.len; simp at this
  | [.tup xs, .tup ys], e2', e3 =>
    cases Option.some.inj e3
    obtain ⟨v, v', rfl, pv, pv'⟩ := (m.pk e2').two
    obtain ⟨l1, l2, l3, l4⟩ := lk_ok (as := us) m.sr
    obtain ⟨a, us', rfl, r, z, hr⟩ := pv.tup
    obtain ⟨a', us'', rfl, r', z', hr'⟩ := pv'.tup
    exact ⟨a, a', us', us'', rfl, .inr ⟨r, r', q1 _ _ H1 F1 m (itg_zipT l1 r hr r' hr')⟩⟩
end
end Py

namespace Py
open PySem PySem.Spec PyProof.Rows L2
variable [HW]
section
variable {K : PySem.W.Frag} {A : Nat → Option Addr} {σ σ' : Sg} {ρ ρ' : Env} {H H' : Hp} {F F' : Addr → Prop} {Pn : List (Addr × W)}
/-! ### names forgotten and given back -/
theorem wpE_len (ρ : Env) : ∀ l : List Nat, (wpE ρ l).length = ρ.length
  | [] => rfl
  | i :: l => by simp [wpE, wpE_len ρ l]
theorem wpE_in (ρ : Env) : ∀ (l : List Nat) (j : Nat), j ∈ l → (wpE ρ l)[j]? = none ∨ (wpE ρ l)[j]? = some none
  | [], j, h => nomatch h
  | i :: l, j, h => by
    unfold wpE
    by_cases q : j = i
    · subst q
      by_cases hl : j < (wpE ρ l).length
      · right; rw [List.getElem?_set_self hl]
      · left; exact List.getElem?_eq_none_iff.mpr (by simpa using hl)
    · rw [List.getElem?_set_ne (Ne.symm q)]
      exact wpE_in ρ l j (by simpa [q] using h)
theorem wpE_out (ρ : Env) : ∀ (l : List Nat) (j : Nat), j ∉ l → (wpE ρ l)[j]? = ρ[j]?
  | [], j, h => rfl
  | i :: l, j, h => by
    simp only [List.mem_cons, not_or] at h
    unfold wpE
    rw [List.getElem?_set_ne (Ne.symm h.1)]
    exact wpE_out ρ l j h.2
theorem wipe_out' (σ : Sg) : ∀ (l : List Nat) (j : Nat), j ∉ l → (wipe σ l)[j]? = σ[j]?
  | [], j, h => rfl
  | i :: l, j, h => by
    simp only [List.mem_cons, not_or] at h
    unfold wipe
    rw [List.getElem?_set_ne (Ne.symm h.1)]
    exact wipe_out' σ l j h.2
theorem wipe_in' (σ : Sg) : ∀ (l : List Nat) (j : Nat), j ∈ l → (wipe σ l)[j]? = if j < σ.length then some none else none
  | [], j, h => nomatch h
  | i :: l, j, h => by
    unfold wipe
    by_cases q : j = i
    · subst q
      by_cases hl : j < σ.length
      · rw [if_pos hl, List.getElem?_set_self (by rw [wipe_length]; exact hl)]
      · rw [if_neg hl]; exact List.getElem?_eq_none_iff.mpr (by rw [List.length_set, wipe_length]; omega)
    · rw [List.getElem?_set_ne (Ne.symm q)]
      exact wipe_in' σ l j (by simpa [q] using h)
theorem wipe_eq {l : List Nat} (hl : σ'.length = σ.length) (h : ∀ j, j ∉ l → σ'[j]? = σ[j]?) : wipe σ' l = wipe σ l := by
  apply List.ext_getElem?
  intro j
  by_cases q : j ∈ l
  · rw [wipe_in' σ' l j q, wipe_in' σ l j q, hl]
  · rw [wipe_out' σ' l j q, wipe_out' σ l j q]; exact h j q
theorem rsE_len (ρ0 ρ : Env) : ∀ l : List Nat, (rsE ρ0 ρ l).length = ρ.length
  | [] => rfl
  | i :: l => by
    unfold rsE
    split
    · simp [rsE_len ρ0 ρ l]
    · exact rsE_len ρ0 ρ l
theorem rsE_out (ρ0 ρ : Env) : ∀ (l : List Nat) (j : Nat), j ∉ l → (rsE ρ0 ρ l)[j]? = ρ[j]?
  | [], j, h => rfl
  | i :: l, j, h => by
    simp only [List.mem_cons, not_or] at h
    unfold rsE
    split
    · rw [List.getElem?_set_ne (Ne.symm h.1)]; exact rsE_out ρ0 ρ l j h.2
    · exact rsE_out ρ0 ρ l j h.2
theorem rsE_in {ρ0 ρ : Env} (hl : ρ0.length = ρ.length) : ∀ (l : List Nat) (j : Nat), j ∈ l → (rsE ρ0 ρ l)[j]? = ρ0[j]?
  | [], j, h => nomatch h
  | i :: l, j, h => by
    unfold rsE
    by_cases q : j = i
    · subst q
      cases e : ρ0[j]? with
      | some x =>
        have hj := lt_of_get e
        dsimp only
        rw [List.getElem?_set_self (by rw [rsE_len]; omega)]
      | none =>
        dsimp only
        have : ρ0.length ≤ j := List.getElem?_eq_none_iff.mp e
        exact List.getElem?_eq_none_iff.mpr (by rw [rsE_len]; omega)
    · have ih := rsE_in hl l j (by simpa [q] using h)
      cases e : ρ0[i]? with
      | some x => dsimp only; rw [List.getElem?_set_ne (Ne.symm q)]; exact ih
      | none => exact ih

/-- the objects of forgotten names -/
def pw1 (σ : Sg) (ρ : Env) (i : Nat) : List (Addr × W) := match ρ[i]?, σ[i]? with
  | some (some (w, f)), some (some (.ref a)) => if f = .sh then [] else [(a, w)]
  | _, _ => []
def pw (σ : Sg) (ρ : Env) : List Nat → List (Addr × W)
  | [] => []
  | i :: r => pw1 σ ρ i ++ pw σ ρ r
theorem pw1_mem {i : Nat} {p : Addr × W} : p ∈ pw1 σ ρ i ↔ ∃ f, ρ[i]? = some (some (p.2, f)) ∧ f ≠ Fl.sh ∧ σ[i]? = some (some (.ref p.1)) := by
  unfold pw1
  constructor
  · intro h
    split at h
    · rename_i w f a e1 e2
      by_cases q : f = .sh
      · rw [if_pos q] at h; cases h
      · rw [if_neg q] at h
        obtain rfl := List.mem_singleton.mp h
        exact ⟨f, e1, q, e2⟩
    · cases h
  · rintro ⟨f, e1, q, e2⟩
    rw [e1, e2]
    simp [q]
theorem pw_mem {p : Addr × W} : ∀ {l : List Nat}, p ∈ pw σ ρ l ↔ ∃ i ∈ l, ∃ f, ρ[i]? = some (some (p.2, f)) ∧ f ≠ Fl.sh ∧ σ[i]? = some (some (.ref p.1))
  | [] => by simp [pw]
  | i :: l => by
    unfold pw
    rw [List.mem_append, pw1_mem, pw_mem (l := l)]
    simp
theorem pw_sla {p : Addr × W} {l : List Nat} (h : p ∈ pw σ ρ l) : ∃ i ∈ l, SlA σ ρ i p.1 := by
  obtain ⟨i, hi, f, e1, e2, e3⟩ := pw_mem.mp h
  exact ⟨i, hi, p.2, f, e1, e2, e3⟩
theorem pw_nodup (hs : SRel K A σ ρ H F Pn) : ∀ {l : List Nat}, l.Nodup → ((pw σ ρ l).map (·.1)).Nodup
  | [], _ => List.nodup_nil
  | i :: l, h => by
    obtain ⟨h1, h2⟩ := List.nodup_cons.mp h
    unfold pw
    rw [List.map_append]
    refine List.nodup_append.mpr ⟨?_, pw_nodup hs h2, fun a ha b hb e => ?_⟩
    · unfold pw1
      split
      · split <;> simp
      · simp
    · obtain ⟨p, hp, rfl⟩ := List.mem_map.mp ha
      obtain ⟨q, hq, rfl⟩ := List.mem_map.mp hb
      obtain ⟨f, e1, e2, e3⟩ := pw1_mem.mp hp
      obtain ⟨j, hj, s⟩ := pw_sla hq
      have : i = j := hs.dj i j p.1 ⟨p.2, f, e1, e2, e3⟩ (e ▸ s)
      exact h1 (this ▸ hj)
theorem sla_wp {l : List Nat} {j : Nat} {a : Addr} (h : SlA (wipe σ l) (wpE ρ l) j a) : j ∉ l ∧ SlA σ ρ j a := by
  obtain ⟨w, f, e, n, s⟩ := h
  by_cases q : j ∈ l
  · rcases wpE_in ρ l j q with z | z <;> (rw [z] at e; cases e)
  · rw [wpE_out ρ l j q] at e
    rw [wipe_out' σ l j q] at s
    exact ⟨q, w, f, e, n, s⟩
theorem om_wp {l : List Nat} {a : Addr} (h : Om (wipe σ l) (wpE ρ l) a) : Om σ ρ a := by
  obtain ⟨j, w, f, e, n, s⟩ := h
  by_cases q : j ∈ l
  · rcases wpE_in ρ l j q with z | z <;> (rw [z] at e; cases e)
  · rw [wpE_out ρ l j q] at e
    rw [wipe_out' σ l j q] at s
    exact ⟨j, w, f, e, n, s⟩
theorem ow_wp {l : List Nat} {a : Addr} (h : Ow (wipe σ l) (wpE ρ l) a) : Ow σ ρ a := by
  obtain ⟨j, w, f, e, n, s⟩ := h
  by_cases q : j ∈ l
  · rcases wpE_in ρ l j q with z | z <;> (rw [z] at e; cases e)
  · rw [wpE_out ρ l j q] at e
    rw [wipe_out' σ l j q] at s
    exact ⟨j, w, f, e, n, s⟩
theorem SRel.wipe (hs : SRel K A σ ρ H F Pn) {l : List Nat} (nd : l.Nodup) : SRel K A (wipe σ l) (wpE ρ l) H F (pw σ ρ l ++ Pn) := by
  refine ⟨by rw [wpE_len, wipe_length]; exact hs.ln, fun j w e => ?_, fun j w f e n => ?_, fun j w f e q => ?_, fun i j a h1 h2 => hs.dj i j a (sla_wp h1).2 (sla_wp h2).2, fun p hp => ?_, ?_, hs.ff⟩
  · by_cases q : j ∈ l
    · rcases wpE_in ρ l j q with z | z <;> (rw [z] at e; cases e)
    · rw [wpE_out ρ l j q] at e
      rw [wipe_out' σ l j q]
      exact hs.sh j w e
  · by_cases q : j ∈ l
    · rcases wpE_in ρ l j q with z | z <;> (rw [z] at e; cases e)
    · rw [wpE_out ρ l j q] at e
      rw [wipe_out' σ l j q]
      exact hs.ow j w f e n
  · by_cases z : j ∈ l
    · rcases wpE_in ρ l j z with z | z <;> (rw [z] at e; cases e)
    · rw [wpE_out ρ l j z] at e
      rw [wipe_out' σ l j z]
      exact hs.io j w f e q
  · rcases List.mem_append.mp hp with hp | hp
    · obtain ⟨i, hi, f, e1, e2, e3⟩ := pw_mem.mp hp
      obtain ⟨a, x, y, z⟩ := hs.ow i p.2 f e1 e2
      rw [e3] at x; cases x
      refine ⟨y, z, fun j s => ?_⟩
      obtain ⟨nj, s⟩ := sla_wp s
      exact nj (hs.dj i j p.1 ⟨p.2, f, e1, e2, e3⟩ s ▸ hi)
    · obtain ⟨x, y, z⟩ := hs.pn p hp
      exact ⟨x, y, fun j s => z j (sla_wp s).2⟩
  · rw [List.map_append]
    refine List.nodup_append.mpr ⟨pw_nodup hs nd, hs.pd, fun a ha b hb e => ?_⟩
    obtain ⟨p, hp, rfl⟩ := List.mem_map.mp ha
    obtain ⟨q, hq, rfl⟩ := List.mem_map.mp hb
    obtain ⟨i, _, s⟩ := pw_sla hp
    exact (hs.pn q hq).2.2 i (e ▸ s)
theorem Stp.wipe {l : List Nat} : Stp σ ρ H F (wipe σ l) (wpE ρ l) H F :=
  ⟨fun _ _ h _ => h, fun _ h => h, fun _ _ _ h => .inl h, fun _ _ _ h => om_wp h, fun _ _ _ _ h => (sla_wp h).2, fun _ _ _ h => ow_wp h, fun _ o h => ⟨o, h⟩⟩
/-- given back, behind the loop -/
theorem SRel.back {l : List Nat} {ρL : Env} {H1 : Hp} {F1 : Addr → Prop} {P0 P1 : List (Addr × W)} (hL : SRel K A σ ρL H1 F1 P0) (hs : SRel K A (L2.wipe σ l) (wpE ρ l) H F (Pn ++ (pw σ ρL l ++ P1))) (st : Stp σ ρL H1 F1 (L2.wipe σ l) (wpE ρ l) H F) :
    SRel K A σ (rsE ρL ρ l) H F (Pn ++ P1) ∧ Stp σ ρL H1 F1 σ (rsE ρL ρ l) H F := by
  have hlen : ρL.length = ρ.length := by have := hs.ln; rw [wpE_len, wipe_length] at this; rw [hL.ln, this]
  have get : ∀ (j : Nat) (x : Option (W × Fl)), (rsE ρL ρ l)[j]? = some x → (j ∈ l ∧ ρL[j]? = some x) ∨ (j ∉ l ∧ (wpE ρ l)[j]? = some x ∧ (L2.wipe σ l)[j]? = σ[j]?) := fun j x e => by
    by_cases q : j ∈ l
    · rw [rsE_in hlen l j q] at e; exact .inl ⟨q, e⟩
    · rw [rsE_out ρL ρ l j q] at e
      exact .inr ⟨q, by rw [wpE_out ρ l j q]; exact e, wipe_out' σ l j q⟩
  have sl : ∀ j a, SlA σ (rsE ρL ρ l) j a → (j ∈ l ∧ SlA σ ρL j a) ∨ (j ∉ l ∧ SlA (L2.wipe σ l) (wpE ρ l) j a) := fun j a ⟨w, f, e, n, s⟩ => by
    rcases get j _ e with ⟨q, e⟩ | ⟨q, e, z⟩
    · exact .inl ⟨q, w, f, e, n, s⟩
    · exact .inr ⟨q, w, f, e, n, by rw [z]; exact s⟩
  have inp : ∀ j a, j ∈ l → SlA σ ρL j a → ∃ w, (a, w) ∈ pw σ ρL l := fun j a hj ⟨w, f, e, n, s⟩ => ⟨w, pw_mem.mpr ⟨j, hj, f, e, n, s⟩⟩
  refine ⟨⟨by rw [rsE_len, ← hlen]; exact hL.ln, fun j w e => ?_, fun j w f e n => ?_, fun j w f e q => ?_, fun i j a h1 h2 => ?_, fun p hp => ?_, ?_, hs.ff⟩, ⟨st.kp, st.fr, st.nf, fun a o h z => ?_, fun a o h j z => ?_, fun a o h z => ?_, st.al⟩⟩
  · rcases get j _ e with ⟨q, e⟩ | ⟨q, e, z⟩
    · obtain ⟨v, a, b⟩ := hL.sh j w e
      exact ⟨v, a, st.hr hL b⟩
    · rw [← z]; exact hs.sh j w e
  · rcases get j _ e with ⟨q, e⟩ | ⟨q, e, z⟩
    · obtain ⟨a, x, y, z⟩ := hL.ow j w f e n
      obtain ⟨x1, x2, _⟩ := hs.pn (a, w) (List.mem_append_right _ (List.mem_append_left _ (pw_mem.mpr ⟨j, q, f, e, n, x⟩)))
      exact ⟨a, x, x1, x2⟩
    · rw [← z]; exact hs.ow j w f e n
  · rcases get j _ e with ⟨z, e⟩ | ⟨z, e, z'⟩
    · exact hL.io j w f e q
    · rw [← z']; exact hs.io j w f e q
  · rcases sl i a h1 with ⟨q1, s1⟩ | ⟨q1, s1⟩
    · rcases sl j a h2 with ⟨q2, s2⟩ | ⟨q2, s2⟩
      · exact hL.dj i j a s1 s2
      · obtain ⟨w, hw⟩ := inp i a q1 s1
        exact absurd s2 ((hs.pn (a, w) (List.mem_append_right _ (List.mem_append_left _ hw))).2.2 j)
    · rcases sl j a h2 with ⟨q2, s2⟩ | ⟨q2, s2⟩
      · obtain ⟨w, hw⟩ := inp j a q2 s2
        exact absurd s1 ((hs.pn (a, w) (List.mem_append_right _ (List.mem_append_left _ hw))).2.2 i)
      · exact hs.dj i j a s1 s2
  · have hm : p ∈ Pn ++ (pw σ ρL l ++ P1) := by
      rcases List.mem_append.mp hp with z | z
      · exact List.mem_append_left _ z
      · exact List.mem_append_right _ (List.mem_append_right _ z)
    obtain ⟨x, y, z⟩ := hs.pn p hm
    refine ⟨x, y, fun j s => ?_⟩
    rcases sl j _ s with ⟨q1, s1⟩ | ⟨q1, s1⟩
    · obtain ⟨w, hw⟩ := inp j _ q1 s1
      have nd := hs.pd
      rw [List.map_append, List.map_append] at nd
      have hw' : p.1 ∈ (pw σ ρL l).map (·.1) := List.mem_map_of_mem (f := (·.1)) hw
      obtain ⟨n1, n2, n3⟩ := List.nodup_append.mp nd
      rcases List.mem_append.mp hp with k | k
      · exact n3 _ (List.mem_map_of_mem k) _ (List.mem_append_left _ hw') rfl
      · exact (List.nodup_append.mp n2).2.2 _ hw' _ (List.mem_map_of_mem k) rfl
    · exact z j s1
  · have nd := hs.pd
    rw [List.map_append, List.map_append] at nd
    obtain ⟨n1, n2, n3⟩ := List.nodup_append.mp nd
    rw [List.map_append]
    exact List.nodup_append.mpr ⟨n1, (List.nodup_append.mp n2).2.1, fun a ha b hb => n3 a ha b (List.mem_append_right _ hb)⟩
  · obtain ⟨j, w, f, e, n, s⟩ := z
    rcases get j _ e with ⟨q, e⟩ | ⟨q, e, z'⟩
    · exact ⟨j, w, f, e, n, s⟩
    · exact st.no a o h ⟨j, w, f, e, n, by rw [z']; exact s⟩
  · rcases sl j a z with ⟨_, s⟩ | ⟨_, s⟩
    · exact s
    · exact st.ns a o h j s
  · obtain ⟨j, w, f, e, n, s⟩ := z
    rcases get j _ e with ⟨q, e⟩ | ⟨q, e, z'⟩
    · exact ⟨j, w, f, e, n, s⟩
    · exact st.nw a o h ⟨j, w, f, e, n, by rw [z']; exact s⟩
/-- the new list grows -/
theorem SRel.grow {D : Addr} {w : W} {us : List V} {ws : List W} (hs : SRel K A σ ρ H F ((D, w) :: Pn)) (hz : us.length ≤ szL) (hr : HRs K H F us ws) :
    SRel K A σ ρ (upd H D (.lst us)) F ((D, .lst ws) :: Pn) := by
  obtain ⟨nF, hc, nS⟩ := hs.pn (D, w) (by simp)
  obtain ⟨l0, e0, m0⟩ := hc.obj
  have nd := hs.pd
  simp only [List.map_cons, List.nodup_cons] at nd
  have rd : ∀ a u, a ≠ D → Rd H a u → Rd (upd H D (.lst us)) a u := fun a u n h => by
    rcases h with h | ⟨o, h⟩
    · exact .inl (by rw [upd_ne n]; exact h)
    · exact .inr ⟨o, by rw [upd_ne n]; exact h⟩
  have sq : ∀ a xs, SqT K H a xs → SqT K (upd H D (.lst us)) a xs := fun a xs h => by
    rcases h with h | h
    · refine .inl (rd a _ ?_ h)
      rintro rfl
      exact no_tup e0 m0 h
    · exact .inr h
  have hrm : ∀ {v : V} {x : W}, HR K H F v x → HR K (upd H D (.lst us)) F v x := fun h => h.mono sq (fun _ q => q) fun a xs f r => rd a _ (fun z => nF (z ▸ f)) r
  have hrs : ∀ {v : List V} {x : List W}, HRs K H F v x → HRs K (upd H D (.lst us)) F v x := fun h => h.mono sq (fun _ q => q) fun a xs f r => rd a _ (fun z => nF (z ▸ f)) r
  have hds : ∀ {es : DEs} {x : List (W × W)}, DRel K H F es x → DRel K (upd H D (.lst us)) F es x := fun h => h.mono sq (fun _ q => q) fun a xs f r => rd a _ (fun z => nF (z ▸ f)) r
  have cell : ∀ {a : Addr} {x : W}, a ≠ D → Cell K H F a x → Cell K (upd H D (.lst us)) F a x := fun {a x} n h => by
    cases x <;> first | exact h.elim | skip
    · obtain ⟨l, e, z, r⟩ := h
      exact ⟨l, by rw [upd_ne n]; exact e, z, hrs r⟩
    · obtain ⟨l, e, z, k, r⟩ := h
      exact ⟨l, by rw [upd_ne n]; exact e, z, k, hds r⟩
  refine ⟨hs.ln, fun j x e => ?_, fun j x f e n => ?_, hs.io, hs.dj, fun p hp => ?_, by simpa using hs.pd, fun a f => ?_⟩
  · obtain ⟨v, a, b⟩ := hs.sh j x e
    exact ⟨v, a, hrm b⟩
  · obtain ⟨a, y, z, k⟩ := hs.ow j x f e n
    exact ⟨a, y, z, cell (fun q => nS j ⟨x, f, e, n, q ▸ y⟩) k⟩
  · rcases List.mem_cons.mp hp with rfl | hp
    · exact ⟨nF, ⟨us, upd_same, hz, hrs hr⟩, nS⟩
    · obtain ⟨x, y, z⟩ := hs.pn p (List.mem_cons_of_mem _ hp)
      exact ⟨x, cell (fun q => nd.1 (q ▸ List.mem_map_of_mem hp)) y, z⟩
  · obtain ⟨o, e⟩ := hs.ff a f
    have n : a ≠ D := fun z => nF (by show F D; rw [← z]; exact f)
    exact ⟨o, by rw [upd_ne n]; exact e⟩
end

/-! ### a list comprehension -/
/-- in a comprehension's block nothing is raised -/
def Cf.nox (c : Cf) : Cf := { c with wx := fun _ _ _ _ => False }
section
variable {X : Cx} {c : Cf} {elt tg iter : Expr} {ee et eas : E} {pos : Pos}
theorem lcL_inv {step : W → Env → Out (Option W)} {w : W} {r acc accF : List W} {ρ ρ3 : Env} (h : lcL step (w :: r) acc ρ = .ok accF ρ3) :
    (∃ y ρ1, step w ρ = .ok (some y) ρ1 ∧ lcL step r (acc ++ [y]) ρ1 = .ok accF ρ3) ∨ ∃ ρ1, step w ρ = .ok none ρ1 ∧ lcL step r acc ρ1 = .ok accF ρ3 := by
  simp only [lcL] at h
  split at h
  · rename_i y ρ1 e
    exact .inl ⟨y, ρ1, e, h⟩
  · rename_i ρ1 e
    exact .inr ⟨ρ1, e, h⟩
  · cases h
/-- what stands between two turns -/
structure LcI (c : Cf) (A : Nat → Option Addr) (σ : Sg) (ρL : Env) (H1 : Hp) (F1 : Addr → Prop) (own : List Nat) (P1 : List (Addr × W)) (D : Addr) (step : W → Env → Out (Option W)) (its accF : List W) (ρ3 : Env) (i : Nat) (H : Hp) : Prop where
  ex : ∃ ρ F acc, i ≤ its.length ∧ acc.length ≤ i ∧ lcL step (its.drop i) acc ρ = .ok accF ρ3 ∧
    SRel c.K A (L2.wipe σ own) (wpE ρ own) H F ([(D, .lst acc)] ++ (pw σ ρL own ++ P1)) ∧ Stp σ ρL H1 F1 (L2.wipe σ own) (wpE ρ own) H F
theorem lc_read {A : Nat → Option Addr} {σ : Sg} {ρL : Env} {H1 : Hp} {F1 : Addr → Prop} {P1 : List (Addr × W)} {p : Pt} {own : List Nat} {its accF : List W} {ρ3 : Env} {J : It} {Q : Hp → Prop} (nd : own.Nodup) (hsub : ∀ j ∈ p.ns, j ∈ own) (hL : SRel c.K A σ ρL H1 F1 P1) (G : ItG c.K σ ρL H1 F1 J its) {D : Addr} (hD : H1 D = none) (hz : its.length ≤ szL)
    (hl : lcL (stepE own p (ev c.C et).t (ev c.C ee).x) its [] ρL = .ok accF ρ3)
    (fin : ∀ H F, SRel c.K A σ (rsE ρL ρ3 own) H F ([(D, .lst accF)] ++ P1) → Stp σ ρL H1 F1 σ (rsE ρL ρ3 own) H F → Q H) :
    ∃ W : Nat → Nat → Hp → Prop, (∃ m, W 0 m (upd H1 D (.lst []))) ∧ ∀ i m H, W i m H → (J.stop i H ∧ Q H) ∨ (J.go i H ∧ ∃ Nx : Hp → Prop, (∀ H', Nx H' → ∃ m', m' < m ∧ W (i + 1) m' H') ∧ ∀ x H', J.yld i H x H' →
      gP c.K p x (L2.wipe σ own) H' fun σ2 H2 => L2.wipe σ2 own = L2.wipe σ own ∧ tXB c.nox et σ2 H2 fun b H3 => if b = true then tX c.nox ee σ2 H3 fun y H4 => ∃ acc, H4 D = some (.lst acc) ∧ acc.length < sizeLine ∧ Nx (upd H4 D (.lst (acc ++ [y]))) else Nx H3) := by
  generalize hst : stepE own p (ev c.C et).t (ev c.C ee).x = step at hl
  refine ⟨fun i m H => m = its.length - i ∧ LcI c A σ ρL H1 F1 own P1 D step its accF ρ3 i H, ⟨_, rfl, ⟨ρL, F1, [], Nat.zero_le _, Nat.le_refl _, hl, ?_, ?_⟩⟩, ?_⟩
  · exact (hL.wipe nd).pend (w := .lst []) hD ⟨[], upd_same, Nat.zero_le _, .nil⟩
  · exact Stp.wipe.trans (.alloc hD)
  rintro i m H ⟨rfl, ⟨ρ, F, acc, hi, ha, hl, hs, st⟩⟩
  by_cases hlt : i < its.length
  · refine .inr ⟨G.go i H F _ _ st hlt, LcI c A σ ρL H1 F1 own P1 D step its accF ρ3 (i + 1), fun H' n => ⟨its.length - (i + 1), by omega, rfl, n⟩, fun x H' y => ?_⟩
    obtain ⟨w, ew, nw⟩ := G.yl i H F _ _ x H' st hlt y
    have ed : its.drop i = w :: its.drop (i + 1) := by
      rw [List.drop_eq_getElem_cons hlt]
      congr 1
      rw [List.getElem?_eq_getElem hlt] at ew
      exact Option.some.inj ew
    rw [ed] at hl
    -- the item's heap
    obtain ⟨s1, hr, t1⟩ : SRel c.K A (L2.wipe σ own) (wpE ρ own) H' F ([(D, .lst acc)] ++ (pw σ ρL own ++ P1)) ∧ HR c.K H' F x w ∧ Stp (L2.wipe σ own) (wpE ρ own) H F (L2.wipe σ own) (wpE ρ own) H' F := by
      cases nw with
      | old r => exact ⟨hs, r, .refl⟩
      | tup hp z r => exact ⟨hs.alloc hp, .tup (.inl (.inl upd_same)) z (r.upd hp), .alloc hp⟩
    have sw : ∃ o ρd, step w ρ = .ok o ρd ∧ lcL step (its.drop (i + 1)) (match o with | some y => acc ++ [y] | none => acc) ρd = .ok accF ρ3 := by
      rcases lcL_inv hl with ⟨y, ρd, e, h⟩ | ⟨ρd, e, h⟩
      · exact ⟨some y, ρd, e, h⟩
      · exact ⟨none, ρd, e, h⟩
    obtain ⟨o, ρd, es, hl'⟩ := sw
    rw [← hst] at es
    unfold stepE at es
    cases ea : asP p w (wpE ρ own) with
    | none => rw [ea] at es; cases es
    | some ρa =>
      rw [ea] at es
      obtain ⟨k, ρb, et', es⟩ := bind_ok es
      refine ⟨A, wpE ρ own, F, _, w, ρa, s1, hr, ea, fun σ2 s2 t2 off => ?_⟩
      have hw : L2.wipe σ2 own = L2.wipe σ own := by
        rw [wipe_eq (σ := L2.wipe σ own) off.1 fun j hj => (off.2 j fun z => hj (hsub j z)).1]
        exact wipe_eq (by rw [wipe_length]) fun j hj => wipe_out' σ own j hj
      refine ⟨hw, A, ρa, F, _, s2, ?_⟩
      rw [show (ev c.nox.C et).t ρa = _ from et']
      intro H3 F3 t3 s3
      -- the turn's end
      have next : ∀ {H5 : Hp} {F5 : Addr → Prop} {acc' : List W}, acc'.length ≤ i + 1 → lcL step (its.drop (i + 1)) acc' ρd = .ok accF ρ3 → SRel c.K A σ2 ρd H5 F5 ([(D, .lst acc')] ++ (pw σ ρL own ++ P1)) → Stp σ ρL H1 F1 σ2 ρd H5 F5 → LcI c A σ ρL H1 F1 own P1 D step its accF ρ3 (i + 1) H5 := fun {H5 F5 acc'} hz' hl5 s5 t5 => by
        refine ⟨ρd, F5, acc', hlt, hz', hl5, ?_, ?_⟩
        · rw [← hw]; exact (s5.wipe nd).drop
        · rw [← hw]; exact t5.trans .wipe
      have t13 : Stp σ ρL H1 F1 σ2 ρb H3 F3 := ((st.trans t1).trans t2).trans t3
      cases k with
      | false =>
        refine iteF ?_
        obtain ⟨rfl, rfl⟩ : none = o ∧ ρb = ρd := by simpa using es
        exact next (acc' := acc) (by omega) hl' s3 t13
      | true =>
        refine iteT ?_
        have es : stepV (ev c.C ee).x ρb = .ok o ρd := es
        unfold stepV at es
        obtain ⟨a, ρc, ex', es⟩ := bind_ok es
        cases eh : shr ρc a with
        | none => rw [eh] at es; cases es
        | some q =>
          obtain ⟨w', ρe⟩ := q
          rw [eh] at es
          obtain ⟨rfl, rfl⟩ : some w' = o ∧ ρe = ρd := by simpa using es
          refine ⟨A, ρb, F3, _, s3, ?_⟩
          rw [show (ev c.nox.C ee).x ρb = _ from ex']
          intro v H4 F4 t4 s4 ar fr
          have s4' : SRel c.K A σ2 ρc H4 F4 ([] ++ pnd a v ++ ([(D, .lst acc)] ++ (pw σ ρL own ++ P1))) := s4
          obtain ⟨F5, s5, r5, m5, k5⟩ := AR.share s4' ar eh
          have s5 : SRel c.K A σ2 ρe H4 F5 ([(D, .lst acc)] ++ (pw σ ρL own ++ P1)) := by simpa using s5
          obtain ⟨_, ⟨us, e1, e2, e3⟩, _⟩ := s5.pn (D, .lst acc) (by simp)
          have e3l := e3.length
          have hzz : (us ++ [v]).length ≤ szL := by rw [List.length_append]; simp; omega
          refine ⟨us, e1, by rw [← szL_eq]; omega, next (acc' := acc ++ [w']) (by simp; omega) hl' (SRel.grow s5 hzz (e3.append (.one r5))) ?_⟩
          have t5 := k5 H3 F3 ρb t4 fr
          have t6 : Stp σ ρL H1 F1 σ2 ρe H4 F5 := t13.trans t5
          have hD1 : ∀ a o, H1 a = some o → a ≠ D := fun a o h z => by rw [z, hD] at h; cases h
          exact ⟨fun a o h n => by rw [upd_ne (hD1 a o h)]; exact t6.kp a o h n, t6.fr, t6.nf, t6.no, t6.ns, t6.nw, fun a o h => by rw [upd_ne (hD1 a o h)]; exact t6.al a o h⟩
  · have e : i = its.length := by omega
    subst e
    rw [List.drop_length] at hl
    obtain ⟨rfl, rfl⟩ : acc = accF ∧ ρ = ρ3 := by simpa [lcL] using hl
    obtain ⟨s1, t1⟩ := SRel.back (Pn := [(D, .lst acc)]) hL hs st
    exact .inl ⟨G.st _ H F _ _ st (Nat.le_refl _), fin H F s1 t1⟩
theorem lc_imp {k : IK} {p : Pt} {own : List Nat} {σ : Sg} {H : Hp} {Q : VK} (nd : own.Nodup) (hsub : ∀ j ∈ p.ns, j ∈ own) (h : tX c (.lc ee p et k eas own) σ H Q) : tLc (tI c k eas) (gP c.K p) (tXB c.nox et) (tX c.nox ee) own σ H Q := by
  obtain ⟨A, ρ, F, Pn, hs, q⟩ := h
  refine ⟨A, ρ, F, Pn, hs, q.bind.mono (fun us ρ1 q1 => ?_) fun _ _ _ e => e⟩
  cases e1 : (ress ρ1 us).bind (itW k) with
  | none => simp only [e1] at q1; exact q1.elim
  | some its =>
    simp only [e1] at q1
    refine ⟨its, rfl, fun J vs H1 F1 m G D hD => ?_⟩
    obtain ⟨sL, _⟩ := lk_ok (as := us) m.sr
    cases e2 : lcL (stepE own p (ev c.C et).t (ev c.C ee).x) its [] (lkE ρ1 us) with
    | bad => simp only [e2] at q1; exact q1.elim
    | ex x pl ρ3 => simp only [e2] at q1; exact q1.elim
    | ok acc ρ3 =>
      simp only [e2] at q1
      by_cases hz : its.length ≤ szL
      · rw [if_pos hz] at q1
        refine lc_read nd hsub sL G hD hz e2 fun H' F' s' t' => ?_
        have t1 := (lk_stp (as := us) m.sr).trans t'
        obtain ⟨s2, t2⟩ := ul_ok (as := us) t1 s'
        have hDn : H D = none := m.st.fresh hD
        refine q1 (.ref D) H' F' (m.st.trans t2) ?_ ⟨D, rfl⟩ fun d x z => ?_
        · have : SRel c.K A σ (ulE ρ1 (rsE (lkE ρ1 us) ρ3 own) us) H' F' (pnds us vs ++ ((D, .lst acc) :: Pn)) := s2.perm (by simpa using List.perm_middle.symm)
          exact this.drop
        · obtain ⟨rfl, rfl⟩ : d = D ∧ x = .lst acc := by simpa [pnd] using z
          exact hDn
      · rw [if_neg hz] at q1; exact q1.elim
theorem x_lc {scope : Scope} {ownN : List (Str × Nat)} {k : IK} {p : Pt} {ifs : List Expr} (hc : c.K = X.K) (calm : X.calm = true) (hN : X.N.Nodup) (hi : PI X tg iter (tI c k eas)) (ok : BlkOk X.N X.env.scope scope ownN) (nd : (ownN.map (·.2)).Nodup) (hsub : ∀ j ∈ p.ns, j ∈ ownN.map (·.2))
    (hg : ∀ (s : Shared) (H : Hp) (C : Addr) (cl : List (Str × Addr)) (fp : List Addr), PG (X.blk s H scope (compEnvC scope cl C X.env) fp) tg (gP X.K p))
    (ht : ∀ (s : Shared) (H : Hp) (C : Addr) (cl : List (Str × Addr)) (fp : List Addr), PTs (X.blk s H scope (compEnvC scope cl C X.env) fp) ifs (tXB c.nox et))
    (he : ∀ (s : Shared) (H : Hp) (C : Addr) (cl : List (Str × Addr)) (fp : List Addr), PE (X.blk s H scope (compEnvC scope cl C X.env) fp) elt (tX c.nox ee)) (hf : ∀ x, foldedSetIterable iter X.env x = pure x) :
    PE X (.ListComp elt [⟨tg, iter, ifs, 0⟩] scope pos) (tX c (.lc ee p et k eas (ownN.map (·.2)))) :=
  peImp (pe_lc calm hN hi ok hg ht he hf) fun σ H Q h => by rw [← hc]; exact lc_imp nd hsub h
end
end Py

namespace Py
open PySem PySem.Spec PyProof.Rows L2
variable [HW]
section
variable {K : PySem.W.Frag} {A : Nat → Option Addr} {σ σ' : Sg} {ρ ρ' : Env} {H H' : Hp} {F F' : Addr → Prop} {Pn : List (Addr × W)}
/-! ### what is frozen stays -/
structure MnH (K : PySem.W.Frag) (H1 : Hp) (F1 : Addr → Prop) (H : Hp) (F : Addr → Prop) : Prop where
  fr : ∀ a, F1 a → F a
  rd : ∀ a xs, F1 a → Rd H1 a (.lst xs) → Rd H a (.lst xs)
  tu : ∀ a xs, SqT K H1 a xs → SqT K H a xs
theorem MnH.refl : MnH K H F H F := ⟨fun _ h => h, fun _ _ _ h => h, fun _ _ h => h⟩
theorem MnH.trans {H1 H2 : Hp} {F1 F2 : Addr → Prop} (a : MnH K H F H1 F1) (b : MnH K H1 F1 H2 F2) : MnH K H F H2 F2 :=
  ⟨fun x h => b.fr x (a.fr x h), fun x xs h r => b.rd x xs (a.fr x h) (a.rd x xs h r), fun x xs h => b.tu x xs (a.tu x xs h)⟩
theorem Stp.mn (hs : SRel K A σ ρ H F Pn) (st : Stp σ ρ H F σ' ρ' H' F') : MnH K H F H' F' :=
  ⟨st.fr, fun a xs f r => st.rd hs r fun ⟨i, s⟩ => (hs.slc s).1 f, st.sqt hs⟩
theorem MnH.alloc {p : Addr} {o : HO} (hp : H p = none) : MnH K H F (L2.upd H p o) F :=
  ⟨fun _ h => h, fun _ _ _ r => Rd.upd hp r, fun _ _ r => SqT.upd hp r⟩
theorem MnH.grow {D : Addr} {w : W} {us : List V} (hs : SRel K A σ ρ H F ((D, w) :: Pn)) : MnH K H F (upd H D (.lst us)) F := by
  obtain ⟨nF, hc, nS⟩ := hs.pn (D, w) (by simp)
  obtain ⟨l0, e0, m0⟩ := hc.obj
  have rd : ∀ a u, a ≠ D → Rd H a u → Rd (upd H D (.lst us)) a u := fun a u n h => by
    rcases h with h | ⟨o, h⟩
    · exact .inl (by rw [upd_ne n]; exact h)
    · exact .inr ⟨o, by rw [upd_ne n]; exact h⟩
  refine ⟨fun _ h => h, fun a xs f r => rd a _ (fun z => nF (by show F D; rw [← z]; exact f)) r, fun a xs h => ?_⟩
  rcases h with h | h
  · refine .inl (rd a _ ?_ h)
    rintro rfl
    exact no_tup e0 m0 h
  · exact .inr h
theorem MnH.hrs {H1 : Hp} {F1 : Addr → Prop} (m : MnH K H1 F1 H F) {vs : List V} {ws : List W} (h : HRs K H1 F1 vs ws) : HRs K H F vs ws := h.mono m.tu m.fr m.rd
/-- J walks ws while what is frozen stays -/
structure ItF (K : PySem.W.Frag) (H1 : Hp) (F1 : Addr → Prop) (J : It) (ws : List W) : Prop where
  go : ∀ i H F, MnH K H1 F1 H F → i < ws.length → J.go i H
  yl : ∀ (i : Nat) H F x H', MnH K H1 F1 H F → i < ws.length → J.yld i H x H' → ∃ w, ws[i]? = some w ∧ Nw K H F x H' w false
  st : ∀ i H F, MnH K H1 F1 H F → ws.length ≤ i → J.stop i H
theorem itf_list {a : Addr} {us : List V} {ws : List W} (f : F a) (r : Rd H a (.lst us)) (hr : HRs K H F us ws) : ItF K H F (Itl K a) ws where
  go := fun i H2 F2 m hi => by
    have hl := hr.length
    exact ⟨us, us[i]'(by omega), .inl (m.rd _ _ f r), by simp⟩
  yl := fun i H2 F2 x H' m hi y => by
    obtain ⟨rfl, y⟩ := y
    obtain ⟨w, e, q⟩ := (m.hrs hr).getV (y us (.inl (m.rd _ _ f r)))
    exact ⟨w, e, .old q⟩
  st := fun i H2 F2 m hi => ⟨us, .inl (m.rd _ _ f r), by rw [hr.length]; exact hi⟩
theorem itf_tup {a : Addr} {us : List V} {ws : List W} (r : SqT K H a us) (hr : HRs K H F us ws) : ItF K H F (Itt K a) ws where
  go := fun i H2 F2 m hi => by
    have hl := hr.length
    exact ⟨us, us[i]'(by omega), m.tu a us r, by simp⟩
  yl := fun i H2 F2 x H' m hi y => by
    obtain ⟨rfl, y⟩ := y
    obtain ⟨w, e, q⟩ := (m.hrs hr).getV (y us (m.tu a us r))
    exact ⟨w, e, .old q⟩
  st := fun i H2 F2 m hi => ⟨us, m.tu a us r, by rw [hr.length]; exact hi⟩
end
/-- what a second generator walks -/
def tIF (c : Cf) (k : IK) (es : E) : TI := fun σ H R => ∃ A ρ F Pn, SRel c.K A σ ρ H F Pn ∧ OkX ((ev c.C es).a ρ) (fun us ρ1 => ∃ ws ρ2 its, shrs ρ1 us = some (ws, ρ2) ∧ itW k ws = some its ∧
  ∀ J H1 F1, SRel c.K A σ ρ2 H1 F1 Pn → Stp σ ρ H F σ ρ2 H1 F1 → ItF c.K H1 F1 J its → R J H1) (EX c A σ ρ H F Pn)
section
variable {X : Cx} {c : Cf} {tg e : Expr} {ea : E}
theorem i_seqF (hc : c.K = X.K) (he : PE X e (tX c ea)) : PI X tg e (tIF c .seq (.cons ea .nil)) := by
  refine piImp (pi_seq he) fun σ H R ⟨A, ρ, F, Pn, hs, q⟩ => ?_
  refine one_arg hs q fun u v ρ1 H1 F1 m ⟨ws, ρ2, its, e1, e2, q1⟩ => ?_
  obtain ⟨F2, m2, r2⟩ := m.share e1
  have s2 : SRel c.K A σ ρ2 H1 F2 Pn := by simpa [pnds] using m2.sr
  rw [← hc]
  match ws, r2, e2 with
  | [w], .cons h .nil, e2 =>
    cases w <;> first | (cases e2; done) | skip
    · cases Option.some.inj e2
      obtain ⟨a, us, rfl, r, z, hr⟩ := h.tupI
      exact .inr ⟨a, rfl, ⟨us, r⟩, q1 _ H1 F2 s2 m2.st (itf_tup r hr)⟩
    · cases Option.some.inj e2
      cases h with
      | lst f r z hr => exact .inl ⟨_, rfl, ⟨_, .inl r⟩, q1 _ H1 F2 s2 m2.st (itf_list f r hr)⟩
end

/-! ### two generators -/
theorem wpE_get (ρ : Env) : ∀ (l : List Nat) (j : Nat), (wpE ρ l)[j]? = if j ∈ l then (if j < ρ.length then some none else none) else ρ[j]?
  | [], j => by simp [wpE]
  | i :: l, j => by
    have ih := wpE_get ρ l j
    unfold wpE
    by_cases q : j = i
    · subst q
      by_cases hl : j < ρ.length
      · rw [List.getElem?_set_self (by rw [wpE_len]; exact hl)]; simp [hl]
      · rw [List.getElem?_eq_none_iff.mpr (by rw [List.length_set, wpE_len]; omega)]; simp [hl]
    · rw [List.getElem?_set_ne (Ne.symm q), ih]; simp [q]
theorem wpE_wpE {ρ : Env} {l l1 : List Nat} (h : ∀ j ∈ l1, j ∈ l) : wpE (wpE ρ l1) l = wpE ρ l := by
  refine List.ext_getElem? fun j => ?_
  rw [wpE_get (wpE ρ l1) l j, wpE_get ρ l j, wpE_len]
  by_cases q : j ∈ l
  · rw [if_pos q, if_pos q]
  · rw [if_neg q, if_neg q, wpE_out ρ l1 j fun z => q (h j z)]
theorem wipe_wipe {σ : Sg} {l l1 : List Nat} (h : ∀ j ∈ l1, j ∈ l) : L2.wipe (L2.wipe σ l1) l = L2.wipe σ l :=
  wipe_eq (by rw [wipe_length]) fun j hj => wipe_out' σ l1 j fun z => hj (h j z)
section
variable {X : Cx} {c : Cf} {ee et et1 eas es1 : E}
theorem lcM_inv {step : W → Env → Out (Option W)} {w : W} {r acc accF : List W} {ρ ρ3 : Env} (h : lcM step (w :: r) acc ρ = .ok accF ρ3) :
    (∃ y ρ1, step w ρ = .ok (some y) ρ1 ∧ acc.length < szL ∧ lcM step r (acc ++ [y]) ρ1 = .ok accF ρ3) ∨ ∃ ρ1, step w ρ = .ok none ρ1 ∧ lcM step r acc ρ1 = .ok accF ρ3 := by
  simp only [lcM] at h
  split at h
  · rename_i y ρ1 e
    split at h
    · rename_i z; exact .inl ⟨y, ρ1, e, z, h⟩
    · cases h
  · rename_i ρ1 e
    exact .inr ⟨ρ1, e, h⟩
  · cases h
theorem lcO_inv {step : W → List W → Env → Out (List W)} {w : W} {r acc accF : List W} {ρ ρ3 : Env} (h : lcO step (w :: r) acc ρ = .ok accF ρ3) : ∃ acc' ρ1, step w acc ρ = .ok acc' ρ1 ∧ lcO step r acc' ρ1 = .ok accF ρ3 := by
  simp only [lcO] at h
  split at h
  · rename_i acc' ρ1 e; exact ⟨acc', ρ1, e, h⟩
  · cases h
theorem drop_at {its : List W} {i : Nat} {w : W} (hlt : i < its.length) (ew : its[i]? = some w) : its.drop i = w :: its.drop (i + 1) := by
  rw [List.drop_eq_getElem_cons hlt]
  congr 1
  rw [List.getElem?_eq_getElem hlt] at ew
  exact Option.some.inj ew
/-- between two turns of the first -/
structure LcO (c : Cf) (A : Nat → Option Addr) (σ : Sg) (ρL : Env) (H1 : Hp) (F1 : Addr → Prop) (own : List Nat) (P1 : List (Addr × W)) (D : Addr) (step : W → List W → Env → Out (List W)) (its accF : List W) (ρ3 : Env) (i : Nat) (H : Hp) : Prop where
  ex : ∃ ρ F acc, i ≤ its.length ∧ acc.length ≤ szL ∧ lcO step (its.drop i) acc ρ = .ok accF ρ3 ∧
    SRel c.K A (L2.wipe σ own) (wpE ρ own) H F ([(D, .lst acc)] ++ (pw σ ρL own ++ P1)) ∧ Stp σ ρL H1 F1 (L2.wipe σ own) (wpE ρ own) H F
/-- between two turns of the second -/
structure LcJ (c : Cf) (A : Nat → Option Addr) (σ : Sg) (ρL : Env) (H1 : Hp) (F1 : Addr → Prop) (σ2 : Sg) (vs1 : List Nat) (R : List (Addr × W)) (H9 : Hp) (F9 : Addr → Prop) (D : Addr) (step : W → Env → Out (Option W)) (its accI : List W) (ρI : Env) (j : Nat) (H : Hp) : Prop where
  ex : ∃ ρ F acc, j ≤ its.length ∧ acc.length ≤ szL ∧ lcM step (its.drop j) acc ρ = .ok accI ρI ∧
    SRel c.K A (L2.wipe σ2 vs1) (wpE ρ vs1) H F ([(D, .lst acc)] ++ R) ∧ Stp σ ρL H1 F1 (L2.wipe σ2 vs1) (wpE ρ vs1) H F ∧ MnH c.K H9 F9 H F
theorem stp_upd {σ σ2 : Sg} {ρL ρ : Env} {H1 H : Hp} {F1 F : Addr → Prop} {D : Addr} {o : HO} (hD : H1 D = none) (t : Stp σ ρL H1 F1 σ2 ρ H F) : Stp σ ρL H1 F1 σ2 ρ (upd H D o) F := by
  have hD1 : ∀ a o, H1 a = some o → a ≠ D := fun a o h z => by rw [z, hD] at h; cases h
  exact ⟨fun a o h n => by rw [upd_ne (hD1 a o h)]; exact t.kp a o h n, t.fr, t.nf, t.no, t.ns, t.nw, fun a o h => by rw [upd_ne (hD1 a o h)]; exact t.al a o h⟩
theorem lcj_read {A : Nat → Option Addr} {σ : Sg} {ρL : Env} {H1 : Hp} {F1 : Addr → Prop} {σ2 : Sg} {p1 : Pt} {R : List (Addr × W)} {H9 : Hp} {F9 : Addr → Prop} {D : Addr} {its acc0 accI : List W} {ρ0 ρI : Env} {J : It} {Nx : Hp → Prop} (nd : p1.ns.Nodup) (hD : H1 D = none) (hz0 : acc0.length ≤ szL)
    (hs : SRel c.K A σ2 ρ0 H9 F9 ([(D, .lst acc0)] ++ R)) (t0 : Stp σ ρL H1 F1 σ2 ρ0 H9 F9) (G : ItF c.K H9 F9 J its) (hl : lcM (stepE p1.ns p1 (ev c.C et1).t (ev c.C ee).x) its acc0 ρ0 = .ok accI ρI)
    (fin : ∀ H F, accI.length ≤ szL → SRel c.K A (L2.wipe σ2 p1.ns) (wpE ρI p1.ns) H F ([(D, .lst accI)] ++ R) → Stp σ ρL H1 F1 (L2.wipe σ2 p1.ns) (wpE ρI p1.ns) H F → Nx H) :
    ∃ W : Nat → Nat → Hp → Prop, (∃ m, W 0 m H9) ∧ ∀ j k H, W j k H → (J.stop j H ∧ Nx H) ∨ (J.go j H ∧ ∃ Nx1 : Hp → Prop, (∀ H', Nx1 H' → ∃ k', k' < k ∧ W (j + 1) k' H') ∧ ∀ x H', J.yld j H x H' →
      gP c.K p1 x (L2.wipe σ2 p1.ns) H' fun σ3 H5 => L2.wipe σ3 p1.ns = L2.wipe σ2 p1.ns ∧ tXB c.nox et1 σ3 H5 fun b H6 => if b = true then tX c.nox ee σ3 H6 fun y H7 => ∃ acc, H7 D = some (.lst acc) ∧ acc.length < sizeLine ∧ Nx1 (upd H7 D (.lst (acc ++ [y]))) else Nx1 H6) := by
  generalize hst : stepE p1.ns p1 (ev c.C et1).t (ev c.C ee).x = step at hl
  refine ⟨fun j k H => k = its.length - j ∧ LcJ c A σ ρL H1 F1 σ2 p1.ns R H9 F9 D step its accI ρI j H, ⟨_, rfl, ⟨ρ0, F9, acc0, Nat.zero_le _, hz0, hl, ?_, t0.trans .wipe, .refl⟩⟩, ?_⟩
  · exact (hs.wipe nd).drop
  rintro j k H ⟨rfl, ⟨ρ, F, acc, hj, ha, hl, hs, st, mn⟩⟩
  by_cases hlt : j < its.length
  · refine .inr ⟨G.go j H F mn hlt, LcJ c A σ ρL H1 F1 σ2 p1.ns R H9 F9 D step its accI ρI (j + 1), fun H' n => ⟨its.length - (j + 1), by omega, rfl, n⟩, fun x H' y => ?_⟩
    obtain ⟨w, ew, nw⟩ := G.yl j H F x H' mn hlt y
    rw [drop_at hlt ew] at hl
    obtain ⟨s1, hr, t1, mn1⟩ : SRel c.K A (L2.wipe σ2 p1.ns) (wpE ρ p1.ns) H' F ([(D, .lst acc)] ++ R) ∧ HR c.K H' F x w ∧ Stp (L2.wipe σ2 p1.ns) (wpE ρ p1.ns) H F (L2.wipe σ2 p1.ns) (wpE ρ p1.ns) H' F ∧ MnH c.K H F H' F := by
      cases nw with
      | old r => exact ⟨hs, r, .refl, .refl⟩
      | tup hp z r => exact ⟨hs.alloc hp, .tup (.inl (.inl upd_same)) z (r.upd hp), .alloc hp, .alloc hp⟩
    have sw : ∃ o ρd, step w ρ = .ok o ρd ∧ (∀ y, o = some y → acc.length < szL) ∧ lcM step (its.drop (j + 1)) (match o with | some y => acc ++ [y] | none => acc) ρd = .ok accI ρI := by
      rcases lcM_inv hl with ⟨y, ρd, e, z, h⟩ | ⟨ρd, e, h⟩
      · exact ⟨some y, ρd, e, fun _ _ => z, h⟩
      · exact ⟨none, ρd, e, fun _ h => (nomatch h), h⟩
    obtain ⟨o, ρd, es, hzo, hl'⟩ := sw
    rw [← hst] at es
    unfold stepE at es
    cases ea : asP p1 w (wpE ρ p1.ns) with
    | none => rw [ea] at es; cases es
    | some ρa =>
      rw [ea] at es
      obtain ⟨k, ρb, et', es⟩ := bind_ok es
      refine ⟨A, wpE ρ p1.ns, F, _, w, ρa, s1, hr, ea, fun σ3 s2 t2 off => ?_⟩
      have hw : L2.wipe σ3 p1.ns = L2.wipe σ2 p1.ns := by
        rw [wipe_eq (σ := L2.wipe σ2 p1.ns) off.1 fun j hj => (off.2 j hj).1]
        exact wipe_eq (by rw [wipe_length]) fun j hj => wipe_out' σ2 p1.ns j hj
      refine ⟨hw, A, ρa, F, _, s2, ?_⟩
      rw [show (ev c.nox.C et1).t ρa = _ from et']
      intro H3 F3 t3 s3
      have next : ∀ {H5 : Hp} {F5 : Addr → Prop} {acc' : List W}, acc'.length ≤ szL → lcM step (its.drop (j + 1)) acc' ρd = .ok accI ρI → SRel c.K A σ3 ρd H5 F5 ([(D, .lst acc')] ++ R) → Stp σ ρL H1 F1 σ3 ρd H5 F5 → MnH c.K H9 F9 H5 F5 → LcJ c A σ ρL H1 F1 σ2 p1.ns R H9 F9 D step its accI ρI (j + 1) H5 := fun {H5 F5 acc'} hz' hl5 s5 t5 m5 => by
        refine ⟨ρd, F5, acc', hlt, hz', hl5, ?_, ?_, m5⟩
        · rw [← hw]; exact (s5.wipe nd).drop
        · rw [← hw]; exact t5.trans .wipe
      have t13 : Stp σ ρL H1 F1 σ3 ρb H3 F3 := ((st.trans t1).trans t2).trans t3
      have m13 : MnH c.K H9 F9 H3 F3 := ((mn.trans mn1).trans (t2.mn s1)).trans (t3.mn s2)
      cases k with
      | false =>
        refine iteF ?_
        obtain ⟨rfl, rfl⟩ : none = o ∧ ρb = ρd := by simpa using es
        exact next (acc' := acc) ha hl' s3 t13 m13
      | true =>
        refine iteT ?_
        have es : stepV (ev c.C ee).x ρb = .ok o ρd := es
        unfold stepV at es
        obtain ⟨a, ρc, ex', es⟩ := bind_ok es
        cases eh : shr ρc a with
        | none => rw [eh] at es; cases es
        | some q =>
          obtain ⟨w', ρe⟩ := q
          rw [eh] at es
          obtain ⟨rfl, rfl⟩ : some w' = o ∧ ρe = ρd := by simpa using es
          have hzz0 := hzo _ rfl
          refine ⟨A, ρb, F3, _, s3, ?_⟩
          rw [show (ev c.nox.C ee).x ρb = _ from ex']
          intro v H4 F4 t4 s4 ar fr
          have s4' : SRel c.K A σ3 ρc H4 F4 ([] ++ pnd a v ++ ([(D, .lst acc)] ++ R)) := s4
          obtain ⟨F5, s5, r5, m5, k5⟩ := AR.share s4' ar eh
          have s5 : SRel c.K A σ3 ρe H4 F5 ([(D, .lst acc)] ++ R) := by simpa using s5
          obtain ⟨_, ⟨us, e1, e2, e3⟩, _⟩ := s5.pn (D, .lst acc) (by simp)
          have e3l := e3.length
          have hzz : (us ++ [v]).length ≤ szL := by rw [List.length_append]; simp; omega
          have t5 := k5 H3 F3 ρb t4 fr
          have t6 : Stp σ ρL H1 F1 σ3 ρe H4 F5 := t13.trans t5
          exact ⟨us, e1, by rw [← szL_eq]; omega, next (acc' := acc ++ [w']) (by simp; omega) hl' (SRel.grow s5 hzz (e3.append (.one r5))) (stp_upd hD t6) ((m13.trans (t5.mn s3)).trans (.grow s5))⟩
  · have e : j = its.length := by omega
    subst e
    rw [List.drop_length] at hl
    obtain ⟨rfl, rfl⟩ : acc = accI ∧ ρ = ρI := by simpa [lcM] using hl
    exact .inl ⟨G.st _ H F mn (Nat.le_refl _), fin H F ha hs st⟩
theorem lc2_read {A : Nat → Option Addr} {σ : Sg} {ρL : Env} {H1 : Hp} {F1 : Addr → Prop} {P1 : List (Addr × W)} {p p1 : Pt} {k1 : IK} {own : List Nat} {its accF : List W} {ρ3 : Env} {J : It} {Q : Hp → Prop} (nd : own.Nodup) (nd1 : p1.ns.Nodup) (hsub : ∀ j ∈ p.ns, j ∈ own) (hsub1 : ∀ j ∈ p1.ns, j ∈ own)
    (hL : SRel c.K A σ ρL H1 F1 P1) (G : ItG c.K σ ρL H1 F1 J its) {D : Addr} (hD : H1 D = none) (hl : lcO (lc2S own p p1 k1 (ev c.C et).t (ev c.C et1).t (ev c.C es1).a (ev c.C ee).x) its [] ρL = .ok accF ρ3)
    (fin : ∀ H F, SRel c.K A σ (rsE ρL ρ3 own) H F ([(D, .lst accF)] ++ P1) → Stp σ ρL H1 F1 σ (rsE ρL ρ3 own) H F → Q H) :
    ∃ W : Nat → Nat → Hp → Prop, (∃ m, W 0 m (upd H1 D (.lst []))) ∧ ∀ i m H, W i m H → (J.stop i H ∧ Q H) ∨ (J.go i H ∧ ∃ Nx : Hp → Prop, (∀ H', Nx H' → ∃ m', m' < m ∧ W (i + 1) m' H') ∧ ∀ x H', J.yld i H x H' →
      gP c.K p x (L2.wipe σ own) H' fun σ2 H2 => L2.wipe σ2 own = L2.wipe σ own ∧ tXB c.nox et σ2 H2 fun b H3 => if b = true then tIF c.nox k1 es1 σ2 H3 fun J1 H4 => ∃ W1 : Nat → Nat → Hp → Prop, (∃ m, W1 0 m H4) ∧ ∀ j k H, W1 j k H →
        (J1.stop j H ∧ Nx H) ∨ (J1.go j H ∧ ∃ Nx1 : Hp → Prop, (∀ H', Nx1 H' → ∃ k', k' < k ∧ W1 (j + 1) k' H') ∧ ∀ x H', J1.yld j H x H' → gP c.K p1 x (L2.wipe σ2 p1.ns) H' fun σ3 H5 => L2.wipe σ3 p1.ns = L2.wipe σ2 p1.ns ∧ tXB c.nox et1 σ3 H5 fun b H6 =>
          if b = true then tX c.nox ee σ3 H6 fun y H7 => ∃ acc, H7 D = some (.lst acc) ∧ acc.length < sizeLine ∧ Nx1 (upd H7 D (.lst (acc ++ [y]))) else Nx1 H6)
      else Nx H3) := by
  generalize hst : lc2S own p p1 k1 (ev c.C et).t (ev c.C et1).t (ev c.C es1).a (ev c.C ee).x = step at hl
  refine ⟨fun i m H => m = its.length - i ∧ LcO c A σ ρL H1 F1 own P1 D step its accF ρ3 i H, ⟨_, rfl, ⟨ρL, F1, [], Nat.zero_le _, Nat.zero_le _, hl, ?_, ?_⟩⟩, ?_⟩
  · exact (hL.wipe nd).pend (w := .lst []) hD ⟨[], upd_same, Nat.zero_le _, .nil⟩
  · exact Stp.wipe.trans (.alloc hD)
  rintro i m H ⟨rfl, ⟨ρ, F, acc, hi, ha, hl, hs, st⟩⟩
  by_cases hlt : i < its.length
  · refine .inr ⟨G.go i H F _ _ st hlt, LcO c A σ ρL H1 F1 own P1 D step its accF ρ3 (i + 1), fun H' n => ⟨its.length - (i + 1), by omega, rfl, n⟩, fun x H' y => ?_⟩
    obtain ⟨w, ew, nw⟩ := G.yl i H F _ _ x H' st hlt y
    rw [drop_at hlt ew] at hl
    obtain ⟨s1, hr, t1⟩ : SRel c.K A (L2.wipe σ own) (wpE ρ own) H' F ([(D, .lst acc)] ++ (pw σ ρL own ++ P1)) ∧ HR c.K H' F x w ∧ Stp (L2.wipe σ own) (wpE ρ own) H F (L2.wipe σ own) (wpE ρ own) H' F := by
      cases nw with
      | old r => exact ⟨hs, r, .refl⟩
      | tup hp z r => exact ⟨hs.alloc hp, .tup (.inl (.inl upd_same)) z (r.upd hp), .alloc hp⟩
    obtain ⟨acc', ρd, es, hl'⟩ := lcO_inv hl
    rw [← hst] at es
    unfold lc2S at es
    cases ea : asP p w (wpE ρ own) with
    | none => rw [ea] at es; cases es
    | some ρa =>
      rw [ea] at es
      obtain ⟨k, ρb, et', es⟩ := bind_ok es
      refine ⟨A, wpE ρ own, F, _, w, ρa, s1, hr, ea, fun σ2 s2 t2 off => ?_⟩
      have hw : L2.wipe σ2 own = L2.wipe σ own := by
        rw [wipe_eq (σ := L2.wipe σ own) off.1 fun j hj => (off.2 j fun z => hj (hsub j z)).1]
        exact wipe_eq (by rw [wipe_length]) fun j hj => wipe_out' σ own j hj
      refine ⟨hw, A, ρa, F, _, s2, ?_⟩
      rw [show (ev c.nox.C et).t ρa = _ from et']
      intro H3 F3 t3 s3
      have t13 : Stp σ ρL H1 F1 σ2 ρb H3 F3 := ((st.trans t1).trans t2).trans t3
      cases k with
      | false =>
        refine iteF ?_
        obtain ⟨rfl, rfl⟩ : acc = acc' ∧ ρb = ρd := by simpa using es
        refine ⟨ρb, F3, acc, hlt, ha, hl', ?_, ?_⟩
        · rw [← hw]; exact (s3.wipe nd).drop
        · rw [← hw]; exact t13.trans .wipe
      | true =>
        refine iteT ?_
        have es : ((ev c.C es1).a ρb).bind (fun us ρ3 => match shrs ρ3 us with
          | none => .bad
          | some (ws, ρ4) => match itW k1 ws with
            | none => .bad
            | some its => lcM (stepE p1.ns p1 (ev c.C et1).t (ev c.C ee).x) its acc ρ4) = .ok acc' ρd := es
        obtain ⟨us, ρc, ex', es⟩ := bind_ok es
        refine ⟨A, ρb, F3, _, s3, ?_⟩
        rw [show (ev c.nox.C es1).a ρb = _ from ex']
        cases e5 : shrs ρc us with
        | none => rw [e5] at es; cases es
        | some y =>
          obtain ⟨ws, ρe⟩ := y
          rw [e5] at es
          cases e6 : itW k1 ws with
          | none => simp only [e6] at es; cases es
          | some its1 =>
            simp only [e6] at es
            refine ⟨ws, ρe, its1, e5, e6, fun J1 H9 F9 s9 t9 G1 => ?_⟩
            refine lcj_read (c := c) nd1 hD ha s9 (t13.trans t9) G1 es fun H' F' hz' s' t' => ?_
            refine ⟨ρd, F', acc', hlt, hz', hl', ?_, ?_⟩
            · have := (s'.wipe nd).drop
              rw [wipe_wipe hsub1, wpE_wpE hsub1, hw] at this
              exact this
            · have := t'.trans (Stp.wipe (l := own))
              rw [wipe_wipe hsub1, wpE_wpE hsub1, hw] at this
              exact this
  · have e : i = its.length := by omega
    subst e
    rw [List.drop_length] at hl
    obtain ⟨rfl, rfl⟩ : acc = accF ∧ ρ = ρ3 := by simpa [lcO] using hl
    obtain ⟨s1, t1⟩ := SRel.back (Pn := [(D, .lst acc)]) hL hs st
    exact .inl ⟨G.st _ H F _ _ st (Nat.le_refl _), fin H F s1 t1⟩
theorem lc2_imp {k k1 : IK} {p p1 : Pt} {own : List Nat} {σ : Sg} {H : Hp} {Q : VK} (nd : own.Nodup) (nd1 : p1.ns.Nodup) (hsub : ∀ j ∈ p.ns, j ∈ own) (hsub1 : ∀ j ∈ p1.ns, j ∈ own) (h : tX c (.lc2 ee p et k eas p1 et1 k1 es1 own) σ H Q) :
    tLc2 (tI c k eas) (gP c.K p) (tXB c.nox et) (tIF c.nox k1 es1) (gP c.K p1) (tXB c.nox et1) (tX c.nox ee) own p1.ns σ H Q := by
  obtain ⟨A, ρ, F, Pn, hs, q⟩ := h
  refine ⟨A, ρ, F, Pn, hs, q.bind.mono (fun us ρ1 q1 => ?_) fun _ _ _ e => e⟩
  cases e1 : (ress ρ1 us).bind (itW k) with
  | none => simp only [e1] at q1; exact q1.elim
  | some its =>
    simp only [e1] at q1
    refine ⟨its, rfl, fun J vs H1 F1 m G D hD => ?_⟩
    obtain ⟨sL, _⟩ := lk_ok (as := us) m.sr
    cases e2 : lcO (lc2S own p p1 k1 (ev c.C et).t (ev c.C et1).t (ev c.C es1).a (ev c.C ee).x) its [] (lkE ρ1 us) with
    | bad => simp only [e2] at q1; exact q1.elim
    | ex x pl ρ3 => simp only [e2] at q1; exact q1.elim
    | ok acc ρ3 =>
      simp only [e2] at q1
      refine lc2_read nd nd1 hsub hsub1 sL G hD e2 fun H' F' s' t' => ?_
      have t1 := (lk_stp (as := us) m.sr).trans t'
      obtain ⟨s2, t2⟩ := ul_ok (as := us) t1 s'
      have hDn : H D = none := m.st.fresh hD
      refine q1 (.ref D) H' F' (m.st.trans t2) ?_ ⟨D, rfl⟩ fun d x z => ?_
      · have : SRel c.K A σ (ulE ρ1 (rsE (lkE ρ1 us) ρ3 own) us) H' F' (pnds us vs ++ ((D, .lst acc) :: Pn)) := s2.perm (by simpa using List.perm_middle.symm)
        exact this.drop
      · obtain ⟨rfl, rfl⟩ : d = D ∧ x = .lst acc := by simpa [pnd] using z
        exact hDn
end
section
variable {X : Cx} {c : Cf} {elt tg iter tg1 iter1 : Expr} {ee et et1 eas es1 : E} {pos : Pos}
theorem x_lc2 {scope : Scope} {ownN : List (Str × Nat)} {k k1 : IK} {p p1 : Pt} {ifs ifs1 : List Expr} (hc : c.K = X.K) (calm : X.calm = true) (hN : X.N.Nodup) (hi : PI X tg iter (tI c k eas)) (ok : BlkOk X.N X.env.scope scope ownN) (nd : (ownN.map (·.2)).Nodup) (nd1 : p1.ns.Nodup) (hsub : ∀ j ∈ p.ns, j ∈ ownN.map (·.2)) (hsub1 : ∀ j ∈ p1.ns, j ∈ ownN.map (·.2))
    (hg : ∀ (s : Shared) (H : Hp) (C : Addr) (cl : List (Str × Addr)) (fp : List Addr), PG (X.blk s H scope (compEnvC scope cl C X.env) fp) tg (gP X.K p))
    (ht : ∀ (s : Shared) (H : Hp) (C : Addr) (cl : List (Str × Addr)) (fp : List Addr), PTs (X.blk s H scope (compEnvC scope cl C X.env) fp) ifs (tXB c.nox et))
    (hi1 : ∀ (s : Shared) (H : Hp) (C : Addr) (cl : List (Str × Addr)) (fp : List Addr), PI (X.blk s H scope (compEnvC scope cl C X.env) fp) tg1 iter1 (tIF c.nox k1 es1))
    (hg1 : ∀ (s : Shared) (H : Hp) (C : Addr) (cl : List (Str × Addr)) (fp : List Addr), PG (X.blk s H scope (compEnvC scope cl C X.env) fp) tg1 (gP X.K p1))
    (ht1 : ∀ (s : Shared) (H : Hp) (C : Addr) (cl : List (Str × Addr)) (fp : List Addr), PTs (X.blk s H scope (compEnvC scope cl C X.env) fp) ifs1 (tXB c.nox et1))
    (he : ∀ (s : Shared) (H : Hp) (C : Addr) (cl : List (Str × Addr)) (fp : List Addr), PE (X.blk s H scope (compEnvC scope cl C X.env) fp) elt (tX c.nox ee)) (hf : ∀ x, foldedSetIterable iter X.env x = pure x) (hf1 : ∀ env x, foldedSetIterable iter1 env x = pure x) :
    PE X (.ListComp elt [⟨tg, iter, ifs, 0⟩, ⟨tg1, iter1, ifs1, 0⟩] scope pos) (tX c (.lc2 ee p et k eas p1 et1 k1 es1 (ownN.map (·.2)))) :=
  peImp (pe_lc2 calm hN hi ok hsub1 hg ht hi1 hg1 ht1 he hf hf1) fun σ H Q h => by rw [← hc]; exact lc2_imp nd nd1 hsub hsub1 h
end
end Py

namespace Py
open PySem PySem.Spec PyProof.Rows L2
variable [HW]

section
variable (c : Cf) (A : Nat → Option Addr) (σ : Sg) (ρ : Env) (H : Hp) (F : Addr → Prop) (Pn : List (Addr × W))
def NX (Q : Sg → Hp → Prop) (ρ' : Env) : Prop := ∀ σ' H' F', Stp σ ρ H F σ' ρ' H' F' → SRel c.K A σ' ρ' H' F' Pn → Q σ' H'
def RT' (Q : VK) (w : W) (fr : Bool) (ρ' : Env) : Prop := ∀ v σ' H' F', Stp σ ρ H F σ' ρ' H' F' → SRel c.K A σ' ρ' H' F' (pnd (.val w fr) v ++ Pn) → (fr = true → ∃ a, v = .ref a ∧ (H a = none ∨ Ow σ ρ a)) → (fr = false → HR c.K H' F' v w) → Q v H'
def ES (x : Nat) (p : W) (ρ' : Env) : Prop := ∀ σ' H' F' d, Stp σ ρ H F σ' ρ' H' F' → SRel c.K A σ' ρ' H' F' Pn → ExD p d H' → c.wx (c.cls x) d σ' H'
def RS (D : Ends) (o : SO) : Prop := match o with
  | .nx ρ' => NX c A σ ρ H F Pn D.nx ρ'
  | .bk ρ' => NX c A σ ρ H F Pn D.bk ρ'
  | .ct ρ' => NX c A σ ρ H F Pn D.ct ρ'
  | .rt w fr ρ' => RT' c A σ ρ H F Pn D.rt w fr ρ'
  | .ex x p ρ' => ES c A σ ρ H F Pn x p ρ'
  | .bad => False
end
def tS (c : Cf) (tk : Tk) (g : Nat) (s : S) : TS := fun D σ H => ∃ A ρ F Pn, SRel c.K A σ ρ H F Pn ∧ RS c A σ ρ H F Pn D (xs c.C tk g s ρ)

section
variable {c : Cf} {A : Nat → Option Addr} {σ σ1 : Sg} {ρ ρ1 ρ' : Env} {H H1 : Hp} {F F1 : Addr → Prop} {Pn : List (Addr × W)} {D D' : Ends}
theorem NX.step {Q : Sg → Hp → Prop} (h : NX c A σ ρ H F Pn Q ρ') (st : Stp σ ρ H F σ1 ρ1 H1 F1) : NX c A σ1 ρ1 H1 F1 Pn Q ρ' := fun σ' H' F' st' s => h σ' H' F' (st.trans st') s
theorem Stp.fo {a : Addr} (st : Stp σ ρ H F σ1 ρ1 H1 F1) (h : H1 a = none ∨ Ow σ1 ρ1 a) : H a = none ∨ Ow σ ρ a := by
  cases e : H a with
  | none => exact .inl rfl
  | some o =>
    rcases h with h | h
    · obtain ⟨o', e'⟩ := st.al a o e
      rw [h] at e'; cases e'
    · exact .inr (st.nw a o e h)
theorem RT'.step {Q : VK} {w : W} {fr : Bool} (h : RT' c A σ ρ H F Pn Q w fr ρ') (st : Stp σ ρ H F σ1 ρ1 H1 F1) : RT' c A σ1 ρ1 H1 F1 Pn Q w fr ρ' := fun v σ' H' F' st' s a b => h v σ' H' F' (st.trans st') s (fun e => let ⟨x, y, z⟩ := a e; ⟨x, y, st.fo z⟩) b
theorem ES.step {x : Nat} {p : W} (h : ES c A σ ρ H F Pn x p ρ') (st : Stp σ ρ H F σ1 ρ1 H1 F1) : ES c A σ1 ρ1 H1 F1 Pn x p ρ' := fun σ' H' F' d st' s a => h σ' H' F' d (st.trans st') s a
theorem RS.step {o : SO} (h : RS c A σ ρ H F Pn D o) (st : Stp σ ρ H F σ1 ρ1 H1 F1) : RS c A σ1 ρ1 H1 F1 Pn D o := by
  cases o with
  | nx ρ' => exact NX.step h st
  | bk ρ' => exact NX.step h st
  | ct ρ' => exact NX.step h st
  | rt w fr ρ' => exact RT'.step h st
  | ex x p ρ' => exact ES.step h st
  | bad => exact h
/-- what an expression's raising is for the statement -/
theorem ES.ex {x : Nat} {p : W} (h : ES c A σ ρ H F Pn x p ρ') : EX c A σ ρ H F Pn x p ρ' := fun H' F' d st s e => h σ H' F' d st s e
def SOk {α : Type} (o : Out α) (P : α → Env → Prop) (E : Nat → W → Env → Prop) : Prop := OkX o P E
theorem bnd_ok {α : Type} {o : Out α} {f : α → Env → SO} (h : RS c A σ ρ H F Pn D (SO.bnd o f)) : OkX o (fun a ρ1 => RS c A σ ρ H F Pn D (f a ρ1)) (EX c A σ ρ H F Pn) := by
  cases o with
  | ok a ρ1 => exact h
  | ex x p ρ1 => exact ES.ex h
  | bad => exact h
theorem tX_S {e : E} {R : VK} {f : Arg → Env → SO} (hs : SRel c.K A σ ρ H F Pn) (h : RS c A σ ρ H F Pn D (SO.bnd ((ev c.C e).x ρ) f))
    (fin : ∀ u v ρ1 H1 F1, Md c A σ ρ H F Pn [u] [v] ρ1 H1 F1 → RS c A σ ρ H F Pn D (f u ρ1) → R v H1) : tX c e σ H R :=
  ⟨A, ρ, F, Pn, hs, (bnd_ok h).mono (fun u ρ1 q v H1 F1 st sr ar fr => fin u v ρ1 H1 F1 ⟨st, by simpa [pnds] using sr, .cons ar .nil, fun d x z => fr d x (by simpa [pnds] using z)⟩ q) fun _ _ _ e => e⟩
theorem tXL_S {e : E} {R : List V → Hp → Prop} {f : List Arg → Env → SO} (hs : SRel c.K A σ ρ H F Pn) (h : RS c A σ ρ H F Pn D (SO.bnd ((ev c.C e).a ρ) f))
    (fin : ∀ us vs ρ1 H1 F1, Md c A σ ρ H F Pn us vs ρ1 H1 F1 → RS c A σ ρ H F Pn D (f us ρ1) → R vs H1) : tXL c e σ H R :=
  ⟨A, ρ, F, Pn, hs, (bnd_ok h).mono (fun us ρ1 q vs H1 F1 st sr ar fr => fin us vs ρ1 H1 F1 ⟨st, sr, ar, fr⟩ q) fun _ _ _ e => e⟩
theorem tXB_S {e : E} {R : Bool → Hp → Prop} {f : Bool → Env → SO} (hs : SRel c.K A σ ρ H F Pn) (h : RS c A σ ρ H F Pn D (SO.bnd ((ev c.C e).t ρ) f))
    (fin : ∀ k ρ1 H1 F1, Md c A σ ρ H F Pn [] [] ρ1 H1 F1 → RS c A σ ρ H F Pn D (f k ρ1) → R k H1) : tXB c e σ H R :=
  ⟨A, ρ, F, Pn, hs, (bnd_ok h).mono (fun k ρ1 q H1 F1 st sr => fin k ρ1 H1 F1 ⟨st, sr, .nil, fun _ _ h => nomatch h⟩ q) fun _ _ _ e => e⟩
theorem tS_at {tk : Tk} {g : Nat} {s : S} (hs : SRel c.K A σ1 ρ1 H1 F1 Pn) (st : Stp σ ρ H F σ1 ρ1 H1 F1) (h : RS c A σ ρ H F Pn D (xs c.C tk g s ρ1)) : tS c tk g s D σ1 H1 := ⟨A, ρ1, F1, Pn, hs, h.step st⟩
end

/-! ### the rules -/
section
variable {X : Cx} {c : Cf} {tk : Tk} {g : Nat} {st : Stmt} {sts : List Stmt} {e a b : Expr} {ea eb eas : E} {s r : S} {pos : Pos}
theorem s_nil : PSs X [] (tS c tk g .nil) := by
  refine pssImp pss_nil fun D σ H ⟨A, ρ, F, Pn, hs, q⟩ => ?_
  exact q σ H F .refl hs
theorem s_cons (h1 : PS X st (tS c tk g s)) (h2 : PSs X sts (tS c tk g r)) : PSs X (st :: sts) (tS c tk g (.seq s r)) := by
  refine pssImp (pss_cons h1 h2) fun D σ H ⟨A, ρ, F, Pn, hs, q⟩ => ?_
  refine ⟨A, ρ, F, Pn, hs, ?_⟩
  have q : RS c A σ ρ H F Pn D ((xs c.C tk g s ρ).thn fun ρ1 => xs c.C tk g r ρ1) := q
  cases e : xs c.C tk g s ρ with
  | nx ρ1 =>
    rw [e] at q
    exact fun σ' H' F' st' s' => tS_at s' st' q
  | bk ρ1 => rw [e] at q; exact q
  | ct ρ1 => rw [e] at q; exact q
  | rt w fr ρ1 => rw [e] at q; exact q
  | ex x p ρ1 => rw [e] at q; exact q
  | bad => rw [e] at q; exact q
theorem s_pass : PS X (.Pass pos) (tS c tk g .pass) := psImp ps_pass fun D σ H ⟨A, ρ, F, Pn, hs, q⟩ => q σ H F .refl hs
theorem s_brk : PS X (.Break pos) (tS c tk g .brk) := psImp ps_break fun D σ H ⟨A, ρ, F, Pn, hs, q⟩ => q σ H F .refl hs
theorem s_cnt : PS X (.Continue pos) (tS c tk g .cnt) := psImp ps_continue fun D σ H ⟨A, ρ, F, Pn, hs, q⟩ => q σ H F .refl hs
theorem s_bad : PS X st (tS c tk g .bad) := psImp ps_never fun D σ H ⟨A, ρ, F, Pn, hs, q⟩ => q
theorem s_retN : PS X (.Return none pos) (tS c tk g .retN) := psImp ps_retN fun D σ H ⟨A, ρ, F, Pn, hs, q⟩ =>
  q .non σ H F .refl (by simpa [pnd] using hs) (fun h => nomatch h) fun _ => .non
theorem s_exp (he : PE X e (tX c ea)) (hs : swapsWith e none pos.line X.env = pure false) : PS X (.Expr e pos) (tS c tk g (.exp ea)) := by
  refine psImp (ps_expr he hs) fun D σ H ⟨A, ρ, F, Pn, hs, q⟩ => ?_
  exact tX_S hs q fun u v ρ1 H1 F1 m q1 => q1 σ H1 F1 m.st m.sr.drop
/-- a name's own object is given away, the name forgotten -/
theorem SRel.take {K : PySem.W.Frag} {A : Nat → Option Addr} {σ : Sg} {ρ : Env} {H : Hp} {F : Addr → Prop} {Pn : List (Addr × W)} (hs : SRel K A σ ρ H F Pn) {i : Nat} {w : W} {a : Addr} (e : ρ[i]? = some (some (w, .own))) (ea : σ[i]? = some (some (.ref a))) :
    SRel K A σ (ρ.set i none) H F ((a, w) :: Pn) ∧ Stp σ ρ H F σ (ρ.set i none) H F := by
  have hi := lt_of_get e
  obtain ⟨a', x, y, z⟩ := hs.ow i w .own e (by decide)
  rw [ea] at x; cases x
  have sl : SlA σ ρ i a := ⟨w, .own, e, by decide, ea⟩
  have back : ∀ {j : Nat} {b : Addr}, SlA σ (ρ.set i none) j b → j ≠ i ∧ SlA σ ρ j b := fun {j b} ⟨w', f', e', n', s'⟩ => by
    rw [gets hi] at e'
    by_cases q : j = i
    · rw [if_pos q] at e'; cases e'
    · rw [if_neg q] at e'; exact ⟨q, w', f', e', n', s'⟩
  refine ⟨⟨by simpa using hs.ln, fun j w' e' => ?_, fun j w' f' e' n => ?_, fun j w' f' e' q => ?_, fun j k b h1 h2 => hs.dj j k b (back h1).2 (back h2).2, fun p hp => ?_, ?_, hs.ff⟩, ⟨fun _ _ h _ => h, fun _ h => h, fun _ _ _ h => .inl h, fun b o h q => ?_, fun b o h j q => (back q).2, fun b o h q => ?_, fun _ o h => ⟨o, h⟩⟩⟩
  · rw [gets hi] at e'
    by_cases q : j = i
    · rw [if_pos q] at e'; cases e'
    · rw [if_neg q] at e'; exact hs.sh j w' e'
  · rw [gets hi] at e'
    by_cases q : j = i
    · rw [if_pos q] at e'; cases e'
    · rw [if_neg q] at e'; exact hs.ow j w' f' e' n
  · rw [gets hi] at e'
    by_cases z : j = i
    · rw [if_pos z] at e'; cases e'
    · rw [if_neg z] at e'; exact hs.io j w' f' e' q
  · rcases List.mem_cons.mp hp with rfl | hp
    · exact ⟨y, z, fun j s => (back s).1 (hs.dj j i a (back s).2 sl)⟩
    · obtain ⟨x, y, z⟩ := hs.pn p hp
      exact ⟨x, y, fun j s => z j (back s).2⟩
  · refine List.nodup_cons.mpr ⟨fun hm => ?_, hs.pd⟩
    obtain ⟨p, hp, e1⟩ := List.mem_map.mp hm
    exact (hs.pn p hp).2.2 i (by rw [e1]; exact sl)
  · obtain ⟨j, w', f', e', n', s'⟩ := q
    rw [gets hi] at e'
    by_cases z : j = i
    · rw [if_pos z] at e'; cases e'
    · rw [if_neg z] at e'; exact ⟨j, w', f', e', n', s'⟩
  · obtain ⟨j, w', f', e', n', s'⟩ := q
    rw [gets hi] at e'
    by_cases z : j = i
    · rw [if_pos z] at e'; cases e'
    · rw [if_neg z] at e'; exact ⟨j, w', f', e', n', s'⟩
end
end Py

namespace Py
open PySem PySem.Spec PyProof.Rows L2
variable [HW]
section
variable {X : Cx} {c : Cf} {tk : Tk} {g : Nat} {st : Stmt} {sts : List Stmt} {e a b tg iter : Expr} {ea eb eas : E} {s r : S} {pos p : Pos} {x : Str}
theorem Md.one {A : Nat → Option Addr} {σ : Sg} {ρ ρ1 : Env} {H H1 : Hp} {F F1 : Addr → Prop} {Pn : List (Addr × W)} {u : Arg} {v : V} (m : Md c A σ ρ H F Pn [u] [v] ρ1 H1 F1) : SRel c.K A σ ρ1 H1 F1 (pnd u v ++ Pn) ∧ AR c.K σ H1 F1 u v ∧ ∀ d y, (d, y) ∈ pnd u v → H d = none := by
  refine ⟨by simpa [pnds] using m.sr, by cases m.ar with | cons h _ => exact h, fun d y z => m.fr d y (by simpa [pnds] using z)⟩
/-- an argument is shared, the step from the statement's start -/
theorem Md.sh1 {A : Nat → Option Addr} {σ : Sg} {ρ ρ1 ρ2 : Env} {H H1 : Hp} {F F1 : Addr → Prop} {Pn : List (Addr × W)} {u : Arg} {v : V} {w : W} (m : Md c A σ ρ H F Pn [u] [v] ρ1 H1 F1) (h : shr ρ1 u = some (w, ρ2)) :
    ∃ F2, SRel c.K A σ ρ2 H1 F2 Pn ∧ HR c.K H1 F2 v w ∧ Stp σ ρ H F σ ρ2 H1 F2 := by
  obtain ⟨s1, ar, fr⟩ := m.one
  obtain ⟨F2, s2, r2, _, t2⟩ := AR.share (P1 := []) (Pn := Pn) (by simpa using s1) ar h
  exact ⟨F2, by simpa using s2, r2, t2 H F ρ m.st fr⟩
/-- return e -/
theorem s_ret (he : PE X e (tX c ea)) : PS X (.Return (some e) pos) (tS c tk g (.ret ea)) := by
  refine psImp (ps_ret he) fun D σ H ⟨A, ρ, F, Pn, hs, q⟩ => ?_
  refine tX_S hs q fun u v ρ1 H1 F1 m q1 => ?_
  obtain ⟨s1, ar, fr⟩ := m.one
  cases u with
  | val w f =>
    refine q1 v σ H1 F1 m.st s1 (fun hf => ?_) fun hf => ?_
    · subst hf
      obtain ⟨c', rfl⟩ := ar
      exact ⟨c', rfl, .inl (fr c' w (by simp [pnd]))⟩
    · subst hf; exact ar
  | slot i =>
    have s1 : SRel c.K A σ ρ1 H1 F1 Pn := by simpa [pnd] using s1
    have ar : σ[i]? = some (some v) := ar
    have q1 : RS c A σ ρ H F Pn D (match wOf ρ1 i with
      | some (w, .sh) => .rt w false ρ1
      | some (w, .own) => .rt w true (ρ1.set i none)
      | some (w, .ownL) => if isD w then .bad else .rt w false (ρ1.set i (some (w, .sh)))
      | _ => .bad) := q1
    cases e1 : wOf ρ1 i with
    | none => rw [e1] at q1; exact q1.elim
    | some y =>
      obtain ⟨w, f⟩ := y
      rw [e1] at q1
      have e2 := wOf_eq.mp e1
      cases f with
      | sh =>
        obtain ⟨v', a1, a2⟩ := s1.sh i w e2
        rw [ar] at a1; cases a1
        exact q1 v σ H1 F1 m.st (by simpa [pnd] using s1) (fun h => nomatch h) fun _ => a2
      | own =>
        obtain ⟨d, a1, a2, a3⟩ := s1.ow i w .own e2 (by decide)
        rw [ar] at a1; cases a1
        obtain ⟨s2, t2⟩ := s1.take e2 ar
        exact q1 _ σ H1 F1 (m.st.trans t2) (by simpa [pnd] using s2) (fun _ => ⟨d, rfl, m.st.fo (.inr ⟨i, w, .own, e2, .inl rfl, ar⟩)⟩) fun h => nomatch h
      | ownL =>
        by_cases nd : isD w = true
        · simp only [nd, if_true] at q1; exact q1.elim
        have nd' : isD w = false := by simpa using nd
        simp only [nd', Bool.false_eq_true, if_false] at q1
        obtain ⟨F2, s2, r2, t2⟩ := s1.give nd' e2 (.inr rfl) ar
        exact q1 v σ H1 F2 (m.st.trans t2) (by simpa [pnd] using s2) (fun h => nomatch h) fun _ => r2
      | io => exact q1.elim
      | ioL => exact q1.elim

/-! ### x = e -/
theorem asV_ok {A : Nat → Option Addr} {σ : Sg} {ρ1 ρ2 : Env} {H1 : Hp} {F1 : Addr → Prop} {Pn P1 : List (Addr × W)} {i : Nat} {w : W} {f : Bool} {v : V} (s1 : SRel c.K A σ ρ1 H1 F1 (P1 ++ (pnd (.val w f) v ++ Pn))) (ar : AR c.K σ H1 F1 (.val w f) v) (h : asA i (.val w f) ρ1 = some ρ2) :
    SRel c.K A (σ.set i (some v)) ρ2 H1 F1 (P1 ++ Pn) ∧ ∀ H0 F0 ρ0 σ0, Stp σ0 ρ0 H0 F0 σ ρ1 H1 F1 → (∀ d y, (d, y) ∈ pnd (.val w f) v → H0 d = none) → Stp σ0 ρ0 H0 F0 (σ.set i (some v)) ρ2 H1 F1 := by
  cases f with
  | false =>
    have h : setN ρ1 i w .sh = some ρ2 := h
    obtain ⟨s2, t2⟩ := s1.setV (v := v) ar h
    exact ⟨by simpa [pnd] using s2, fun _ _ _ _ st _ => st.trans t2⟩
  | true =>
    have h : setN ρ1 i w .own = some ρ2 := h
    obtain ⟨d, rfl⟩ := ar
    obtain ⟨s2, t2⟩ := SRel.setO (P1 := P1) (Pn := Pn) (c := d) (w := w) (by simpa [pnd] using s1) h
    exact ⟨s2, fun H0 F0 ρ0 σ0 st hn => t2 H0 F0 ρ0 σ0 st (hn d w (by simp [pnd]))⟩
theorem asA_ok {A : Nat → Option Addr} {σ : Sg} {ρ1 ρ2 : Env} {H1 : Hp} {F1 : Addr → Prop} {Pn : List (Addr × W)} {i : Nat} {u : Arg} {v : V} (s1 : SRel c.K A σ ρ1 H1 F1 (pnd u v ++ Pn)) (ar : AR c.K σ H1 F1 u v) (h : asA i u ρ1 = some ρ2) :
    ∃ F2, SRel c.K A (σ.set i (some v)) ρ2 H1 F2 Pn ∧ ∀ H0 F0 ρ0, Stp σ ρ0 H0 F0 σ ρ1 H1 F1 → (∀ d y, (d, y) ∈ pnd u v → H0 d = none) → Stp σ ρ0 H0 F0 (σ.set i (some v)) ρ2 H1 F2 := by
  cases u with
  | val w f =>
    obtain ⟨s2, t2⟩ := asV_ok (P1 := []) (by simpa using s1) ar h
    exact ⟨F1, by simpa using s2, fun H0 F0 ρ0 st hn => t2 H0 F0 ρ0 σ st hn⟩
  | slot j =>
    unfold asA at h
    cases e1 : shr ρ1 (.slot j) with
    | none => simp only [e1] at h; cases h
    | some y =>
      obtain ⟨w, ρ3⟩ := y
      simp only [e1] at h
      obtain ⟨F3, s3, r3, m3, t3⟩ := AR.share (P1 := []) (Pn := Pn) (a := .slot j) (v := v) (by simpa using s1) ar e1
      obtain ⟨s4, t4⟩ := s3.setV (v := v) r3 h
      exact ⟨F3, by simpa using s4, fun H0 F0 ρ0 st hn => (t3 H0 F0 ρ0 st hn).trans t4⟩
theorem asn_read {i : Nat} {D : Ends} {σ : Sg} {H : Hp} (h : tS c tk g (.asn i ea) D σ H) : tAsg (tX c ea) (gName i) D σ H := by
  obtain ⟨A, ρ, F, Pn, hs, q⟩ := h
  refine tX_S hs q fun u v ρ1 H1 F1 m q1 => ?_
  obtain ⟨s1, ar, fr⟩ := m.one
  cases e1 : asA i u ρ1 with
  | none => simp only [e1] at q1; exact q1.elim
  | some ρ2 =>
    simp only [e1] at q1
    obtain ⟨F2, s2, t2⟩ := asA_ok s1 ar e1
    exact q1 _ H1 F2 (t2 H F ρ m.st fr) s2
theorem s_asn {i : Nat} {p' : Pos} (hN : X.N.Nodup) (hi : X.N[i]? = some x) (hx : Loc X.env.scope x) (hf : X.fn x = true ∨ X.env.scope.names.lookup x = some .local) (he : PE X e (tX c ea)) (hs : swapsWith e (some (.Name x p')) pos.line X.env = pure false) :
    PS X (.Assign [.Name x p'] e pos) (tS c tk g (.asn i ea)) := psImp (ps_set hN hi hx he hs hf) fun D σ H h => asn_read h
/-- .. a comprehension's list -/
theorem s_asnLc {i : Nat} {py : Pos} {elt : Expr} {ee et : E} {scope : Scope} {ownN : List (Str × Nat)} {k : IK} {q : Pt} {ifs : List Expr} (hc : c.K = X.K) (calm : X.calm = true) (hN : X.N.Nodup) (hy : X.N[i]? = some x) (hyl : X.env.scope.names.lookup x = some .local)
    (hsw : swapsWith (.ListComp elt [⟨tg, iter, ifs, 0⟩] scope p) (some (.Name x py)) pos.line X.env = pure true)
    (hi : PI X tg iter (tI c k eas)) (ok : BlkOk X.N X.env.scope scope ownN) (nd : (ownN.map (·.2)).Nodup) (hsub : ∀ j ∈ q.ns, j ∈ ownN.map (·.2))
    (hg : ∀ (s : Shared) (H : Hp) (C : Addr) (cl : List (Str × Addr)) (fp : List Addr), PG (X.blk s H scope (compEnvC scope cl C X.env) fp) tg (gP X.K q))
    (ht : ∀ (s : Shared) (H : Hp) (C : Addr) (cl : List (Str × Addr)) (fp : List Addr), PTs (X.blk s H scope (compEnvC scope cl C X.env) fp) ifs (tXB c.nox et))
    (he : ∀ (s : Shared) (H : Hp) (C : Addr) (cl : List (Str × Addr)) (fp : List Addr), PE (X.blk s H scope (compEnvC scope cl C X.env) fp) elt (tX c.nox ee)) (hf : ∀ x, foldedSetIterable iter X.env x = pure x) :
    PS X (.Assign [.Name x py] (.ListComp elt [⟨tg, iter, ifs, 0⟩] scope p) pos) (tS c tk g (.asn i (.lc ee q et k eas (ownN.map (·.2))))) := by
  refine psImp (ps_setLc calm hN hy hyl hsw hi ok hg ht he hf) fun D σ H h => ?_
  have h1 := asn_read h
  have h2 : tX c (.lc ee q et k eas (ownN.map (·.2))) σ H fun v H1 => gName i v σ H1 D.nx := h1
  show tLc _ _ _ _ _ σ H fun v H1 => gName i v σ H1 D.nx
  rw [← hc]
  exact lc_imp nd hsub h2
theorem s_asnLc2 {i : Nat} {py : Pos} {elt tg1 iter1 : Expr} {ee et et1 es1 : E} {scope : Scope} {ownN : List (Str × Nat)} {k k1 : IK} {q p1 : Pt} {ifs ifs1 : List Expr} (hc : c.K = X.K) (calm : X.calm = true) (hN : X.N.Nodup) (hy : X.N[i]? = some x) (hyl : X.env.scope.names.lookup x = some .local)
    (hsw : swapsWith (.ListComp elt [⟨tg, iter, ifs, 0⟩, ⟨tg1, iter1, ifs1, 0⟩] scope p) (some (.Name x py)) pos.line X.env = pure true)
    (hi : PI X tg iter (tI c k eas)) (ok : BlkOk X.N X.env.scope scope ownN) (nd : (ownN.map (·.2)).Nodup) (nd1 : p1.ns.Nodup) (hsub : ∀ j ∈ q.ns, j ∈ ownN.map (·.2)) (hsub1 : ∀ j ∈ p1.ns, j ∈ ownN.map (·.2))
    (hg : ∀ (s : Shared) (H : Hp) (C : Addr) (cl : List (Str × Addr)) (fp : List Addr), PG (X.blk s H scope (compEnvC scope cl C X.env) fp) tg (gP X.K q))
    (ht : ∀ (s : Shared) (H : Hp) (C : Addr) (cl : List (Str × Addr)) (fp : List Addr), PTs (X.blk s H scope (compEnvC scope cl C X.env) fp) ifs (tXB c.nox et))
    (hi1 : ∀ (s : Shared) (H : Hp) (C : Addr) (cl : List (Str × Addr)) (fp : List Addr), PI (X.blk s H scope (compEnvC scope cl C X.env) fp) tg1 iter1 (tIF c.nox k1 es1))
    (hg1 : ∀ (s : Shared) (H : Hp) (C : Addr) (cl : List (Str × Addr)) (fp : List Addr), PG (X.blk s H scope (compEnvC scope cl C X.env) fp) tg1 (gP X.K p1))
    (ht1 : ∀ (s : Shared) (H : Hp) (C : Addr) (cl : List (Str × Addr)) (fp : List Addr), PTs (X.blk s H scope (compEnvC scope cl C X.env) fp) ifs1 (tXB c.nox et1))
    (he : ∀ (s : Shared) (H : Hp) (C : Addr) (cl : List (Str × Addr)) (fp : List Addr), PE (X.blk s H scope (compEnvC scope cl C X.env) fp) elt (tX c.nox ee)) (hf : ∀ x, foldedSetIterable iter X.env x = pure x) (hf1 : ∀ env x, foldedSetIterable iter1 env x = pure x) :
    PS X (.Assign [.Name x py] (.ListComp elt [⟨tg, iter, ifs, 0⟩, ⟨tg1, iter1, ifs1, 0⟩] scope p) pos) (tS c tk g (.asn i (.lc2 ee q et k eas p1 et1 k1 es1 (ownN.map (·.2))))) := by
  refine psImp (ps_setLc2 calm hN hy hyl hsw hi ok hsub1 hg ht hi1 hg1 ht1 he hf hf1) fun D σ H h => ?_
  have h1 := asn_read h
  have h2 : tX c (.lc2 ee q et k eas p1 et1 k1 es1 (ownN.map (·.2))) σ H fun v H1 => gName i v σ H1 D.nx := h1
  show tLc2 _ _ _ _ _ _ _ _ _ σ H fun v H1 => gName i v σ H1 D.nx
  rw [← hc]
  exact lc2_imp nd nd1 hsub hsub1 h2
/-- a, b = e -/
theorem s_asp {q : Pt} (hg : PG X tg (gP X.K q)) (hc : c.K = X.K) (he : PE X e (tX c ea)) (hs : swapsWithSole [tg] e pos.line X.env = pure false) (hw : swappedStores [tg] e X.env = pure none) (h1 : (assignEach [tg] X.env).map (·.2) = [assign tg X.env]) :
    PS X (.Assign [tg] e pos) (tS c tk g (.asp q ea)) := by
  refine psImp (ps_asg he hg hs hw h1) fun D σ H ⟨A, ρ, F, Pn, hs, h⟩ => ?_
  refine tX_S hs h fun u v ρ1 H1 F1 m q1 => ?_
  cases e1 : shr ρ1 u with
  | none => simp only [e1] at q1; exact q1.elim
  | some y =>
    obtain ⟨w, ρ2⟩ := y
    simp only [e1] at q1
    obtain ⟨F2, s2, r2, t2⟩ := m.sh1 e1
    cases e2 : asP q w ρ2 with
    | none => simp only [e2] at q1; exact q1.elim
    | some ρ3 =>
      simp only [e2] at q1
      rw [← hc]
      exact ⟨A, ρ2, F2, Pn, w, ρ3, s2, r2, e2, fun σ' s3 t3 _ => q1 σ' H1 F2 (t2.trans t3) s3⟩

/-! ### a, b = e1, e2 -/
def setAll (σ : Sg) : List Nat → List V → Sg
  | i :: is, v :: vs => setAll (σ.set i (some v)) is vs
  | _, _ => σ
theorem fixA_ok {A : Nat → Option Addr} {σ : Sg} {H : Hp} : ∀ {as as' : List Arg} {vs : List V} {Pn : List (Addr × W)} {ρ ρ' : Env} {F : Addr → Prop}, SRel c.K A σ ρ H F (pnds as vs ++ Pn) → ARs c.K σ H F as vs → fixA ρ as = some (as', ρ') →
    ∃ F', SRel c.K A σ ρ' H F' (pnds as' vs ++ Pn) ∧ ARs c.K σ H F' as' vs ∧ (∀ a, F a → F' a) ∧ pnds as' vs = pnds as vs ∧ (∀ u ∈ as', ∃ w f, u = .val w f) ∧ ∀ H0 F0 ρ0, Stp σ ρ0 H0 F0 σ ρ H F → Stp σ ρ0 H0 F0 σ ρ' H F'
  | [], as', _, Pn, ρ, ρ', F, hs, .nil, e => by
    obtain ⟨rfl, rfl⟩ : [] = as' ∧ ρ = ρ' := by simpa [fixA] using e
    exact ⟨F, hs, .nil, fun _ q => q, rfl, (fun _ h => nomatch h), fun _ _ _ st => st⟩
  | .val w f :: as, as', v :: vs, Pn, ρ, ρ', F, hs, .cons h t, e => by
    simp only [fixA] at e
    cases q : fixA ρ as with
    | none => rw [q] at e; cases e
    | some y =>
      obtain ⟨bs, ρ1⟩ := y
      rw [q] at e
      obtain ⟨rfl, rfl⟩ : .val w f :: bs = as' ∧ ρ1 = ρ' := by simpa using e
      obtain ⟨F1, s1, a1, m1, p1, v1, t1⟩ := fixA_ok (Pn := pnd (.val w f) v ++ Pn) (by simpa [pnds] using hs) t q
      refine ⟨F1, by simpa [pnds] using s1, .cons (h.more m1) a1, m1, by simp [pnds, p1], fun u hu => ?_, t1⟩
      rcases List.mem_cons.mp hu with rfl | hu
      · exact ⟨w, f, rfl⟩
      · exact v1 u hu
  | .slot i :: as, as', v :: vs, Pn, ρ, ρ', F, hs, .cons h t, e => by
    simp only [fixA] at e
    cases q1 : shr ρ (.slot i) with
    | none => rw [q1] at e; cases e
    | some y =>
      obtain ⟨w, ρ1⟩ := y
      rw [q1] at e
      dsimp only at e
      cases q : fixA ρ1 as with
      | none => rw [q] at e; cases e
      | some z =>
        obtain ⟨bs, ρ2⟩ := z
        rw [q] at e
        obtain ⟨rfl, rfl⟩ : .val w false :: bs = as' ∧ ρ2 = ρ' := by simpa using e
        obtain ⟨F1, s1, r1, m1, t1⟩ := AR.share (P1 := pnds as vs) (Pn := Pn) (by simpa [pnds, pnd] using hs) h q1
        obtain ⟨F2, s2, a2, m2, p2, v2, t2⟩ := fixA_ok (Pn := Pn) s1 (t.more m1) q
        refine ⟨F2, by simpa [pnds, pnd] using s2, .cons (r1.more m2) a2, fun a z => m2 a (m1 a z), by simp [pnds, pnd, p2], fun u hu => ?_, fun H0 F0 ρ0 st => t2 H0 F0 ρ0 (t1 H0 F0 ρ0 st fun d y z => by simp [pnd] at z)⟩
        rcases List.mem_cons.mp hu with rfl | hu
        · exact ⟨w, false, rfl⟩
        · exact v2 u hu
theorem ARs.any {K : PySem.W.Frag} {σ σ' : Sg} {H : Hp} {F F' : Addr → Prop} (hm : ∀ a, F a → F' a) {as : List Arg} {vs : List V} (h : ARs K σ H F as vs) (hv : ∀ u ∈ as, ∃ w f, u = Arg.val w f) : ARs K σ' H F' as vs := by
  induction h with
  | nil => exact .nil
  | cons a _ ih =>
    refine .cons ?_ (ih fun u hu => hv u (List.mem_cons_of_mem _ hu))
    obtain ⟨w, f, rfl⟩ := hv _ List.mem_cons_self
    cases f with
    | true => exact a
    | false => exact HR.more hm a
theorem asAs_ok {A : Nat → Option Addr} {H : Hp} : ∀ {is : List Nat} {as : List Arg} {vs : List V} {Pn : List (Addr × W)} {σ : Sg} {ρ ρ' : Env} {F : Addr → Prop}, SRel c.K A σ ρ H F (pnds as vs ++ Pn) → ARs c.K σ H F as vs → (∀ u ∈ as, ∃ w f, u = .val w f) → asAs is as ρ = some ρ' →
    is.length = vs.length ∧ is.Nodup ∧ ∃ F', SRel c.K A (setAll σ is vs) ρ' H F' Pn ∧ ∀ H0 F0 ρ0 σ0, Stp σ0 ρ0 H0 F0 σ ρ H F → (∀ d y, (d, y) ∈ pnds as vs → H0 d = none) → Stp σ0 ρ0 H0 F0 (setAll σ is vs) ρ' H F'
  | [], [], [], Pn, σ, ρ, ρ', F, hs, .nil, hv, e => by
    obtain rfl : ρ = ρ' := by simpa [asAs] using e
    exact ⟨rfl, List.nodup_nil, F, hs, fun _ _ _ _ st _ => st⟩
  | i :: is, a :: as, v :: vs, Pn, σ, ρ, ρ', F, hs, .cons h t, hv, e => by
    simp only [asAs] at e
    cases hi : is.contains i with
    | true => rw [hi] at e; simp at e
    | false =>
      rw [hi] at e
      simp only [Bool.false_eq_true, if_false] at e
      obtain ⟨w, f, rfl⟩ := hv a List.mem_cons_self
      cases q : asA i (.val w f) ρ with
      | none => rw [q] at e; cases e
      | some ρ1 =>
        rw [q] at e
        have s0 : SRel c.K A σ ρ H F (pnds as vs ++ (pnd (.val w f) v ++ Pn)) := by simpa [pnds] using hs
        obtain ⟨s1, t1⟩ := asV_ok s0 h q
        have hv' : ∀ u ∈ as, ∃ w f, u = Arg.val w f := fun u hu => hv u (List.mem_cons_of_mem _ hu)
        obtain ⟨l2, n2, F2, s2, t2⟩ := asAs_ok (σ := σ.set i (some v)) s1 (t.any (fun _ z => z) hv') hv' e
        exact ⟨by simp [l2], List.nodup_cons.mpr ⟨fun z => (by rw [List.contains_iff_mem.mpr z] at hi; cases hi), n2⟩, F2, s2, fun H0 F0 ρ0 σ0 st hn => t2 H0 F0 ρ0 σ0 (t1 H0 F0 ρ0 σ0 st fun d y z => hn d y (by simp [pnds, z])) fun d y z => hn d y (by simp [pnds, z])⟩
  | [], _ :: _, _, _, _, _, _, _, _, _, _, e => by simp [asAs] at e
  | _ :: _, [], _, _, _, _, _, _, _, _, _, e => by simp [asAs] at e
end
end Py

namespace Py
open PySem PySem.Spec PyProof.Rows L2
variable [HW]
section
variable {X : Cx} {c : Cf} {tk : Tk} {g : Nat} {st : Stmt} {sts : List Stmt} {e a b tg iter : Expr} {ea eb eas ec : E} {s r : S} {pos p : Pos} {x : Str}
/-! ### a, b = e1, e2 -/
theorem par_read {is : List Nat} {D : Ends} {σ : Sg} {H : Hp} {R : List V → Hp → Prop} (h : tS c tk g (.par is eas) D σ H)
    (fin : ∀ vs H1, is.length = vs.length → is.Nodup → (∀ p o, H1 p = none → D.nx (setAll σ is vs) (upd H1 p o)) → D.nx (setAll σ is vs) H1 → vs.length ≤ szL → R vs H1) (hz : is.length ≤ 1000) : tXL c eas σ H R := by
  obtain ⟨A, ρ, F, Pn, hs, q⟩ := h
  refine tXL_S hs q fun us vs ρ1 H1 F1 m q1 => ?_
  cases e1 : fixA ρ1 us with
  | none => simp only [e1] at q1; exact q1.elim
  | some y =>
    obtain ⟨as, ρ2⟩ := y
    simp only [e1] at q1
    obtain ⟨F2, s2, a2, m2, p2, v2, t2⟩ := fixA_ok m.sr m.ar e1
    cases e2 : asAs is as ρ2 with
    | none => simp only [e2] at q1; exact q1.elim
    | some ρ3 =>
      simp only [e2] at q1
      obtain ⟨l3, n3, F3, s3, t3⟩ := asAs_ok s2 a2 v2 e2
      have t := t3 H F ρ σ (t2 H F ρ m.st) (by rw [p2]; exact m.fr)
      exact fin vs H1 l3 n3 (fun p o hp => q1 _ _ F3 (t.trans (.alloc hp)) (s3.alloc hp)) (q1 _ _ F3 t s3) (by rw [← l3]; exact Nat.le_trans hz (by decide))
theorem s_par2 {i j : Nat} {x y : Str} {px py pt : Pos} {kt k2 pt2} (hc : X.calm = true) (hN : X.N.Nodup) (hi : X.N[i]? = some x) (hj : X.N[j]? = some y)
    (hx : X.env.scope.names.lookup x = some .local) (hy : X.env.scope.names.lookup y = some .local) (ha : PA X [a, b] (tXL c eas))
    (hw : swappedStores [.Tuple [.Name x px, .Name y py] kt pt] (.Tuple [a, b] k2 pt2) X.env = pure (some [x, y])) (hij : i ≠ j) :
    PS X (.Assign [.Tuple [.Name x px, .Name y py] kt pt] (.Tuple [a, b] k2 pt2) pos) (tS c tk g (.par [i, j] eas)) := by
  refine psImp (ps_par hc hN hi hj hij hx hy ha hw) fun D σ H h => par_read h (fun vs H1 hl _ _ q _ => ?_) (by simp)
  match vs, hl, q with
  | [v, w], _, q => exact ⟨v, w, rfl, q⟩
theorem s_par3 {i j l : Nat} {d : Expr} {x y z : Str} {px py pz pt : Pos} {kt k2 pt2} (hc : X.calm = true) (hN : X.N.Nodup) (hi : X.N[i]? = some x) (hj : X.N[j]? = some y) (hl : X.N[l]? = some z)
    (hx : X.env.scope.names.lookup x = some .local) (hy : X.env.scope.names.lookup y = some .local) (hz : X.env.scope.names.lookup z = some .local) (ha : PA X [a, b, d] (tXL c eas))
    (hw : swappedStores [.Tuple [.Name x px, .Name y py, .Name z pz] kt pt] (.Tuple [a, b, d] k2 pt2) X.env = pure (some [x, y, z])) (hij : i ≠ j) (hil : i ≠ l) (hjl : j ≠ l) :
    PS X (.Assign [.Tuple [.Name x px, .Name y py, .Name z pz] kt pt] (.Tuple [a, b, d] k2 pt2) pos) (tS c tk g (.par [i, j, l] eas)) := by
  refine psImp (ps_par3 hc hN hi hj hl hij hil hjl hx hy hz ha hw) fun D σ H h => par_read h (fun vs H1 hl _ _ q _ => ?_) (by simp)
  match vs, hl, q with
  | [u, v, w], _, q => exact ⟨u, v, w, rfl, q⟩
/-- names one after another -/
def gAll : List Nat → TGs
  | [] => gNil
  | i :: is => gCons (gName i) (gAll is)
theorem gAll_of {D : Ends} : ∀ {is : List Nat} {vs : List V} {σ : Sg} {H : Hp}, is.length = vs.length → D.nx (setAll σ is vs) H → gAll is vs σ H D.nx
  | [], [], σ, H, _, q => ⟨rfl, q⟩
  | i :: is, v :: vs, σ, H, hl, q => ⟨v, vs, rfl, gAll_of (is := is) (by simpa using hl) q⟩
/-- names as targets, in any number -/
inductive NmS (X : Cx) : List Expr → List Nat → Prop
  | nil : NmS X [] []
  | cons {x : Str} {p : Pos} {i : Nat} {es : List Expr} {is : List Nat} : X.N[i]? = some x → Loc X.env.scope x → (X.fn x = true ∨ X.env.scope.names.lookup x = some .local) → NmS X es is → NmS X (.Name x p :: es) (i :: is)
theorem NmS.pgs {es : List Expr} {is : List Nat} (hN : X.N.Nodup) (h : NmS X es is) : PGs X es (gAll is) := by
  induction h with
  | nil => exact pgs_nil
  | cons h1 h2 h3 _ ih => exact pgs_cons (pg_name hN h1 h2 h3) ih rfl
theorem NmS.len {es : List Expr} {is : List Nat} (h : NmS X es is) : es.length = is.length := by
  induction h with
  | nil => rfl
  | cons _ _ _ _ ih => simp [ih]
theorem NmS.plain {es : List Expr} {is : List Nat} (h : NmS X es is) : es.all plainE = true := by
  induction h with
  | nil => rfl
  | cons _ _ _ _ ih => simp [ih, plainE]
theorem s_parN {ts es : List Expr} {is : List Nat} {kt k2 pt pt2} (hc : X.calm = true) (hN : X.N.Nodup) (hn : NmS X ts is) (ha : PA X es (tXL c eas)) (hz : is.length ≤ 1000)
    (hw : swappedStores [.Tuple ts kt pt] (.Tuple es k2 pt2) X.env = pure none) : PS X (.Assign [.Tuple ts kt pt] (.Tuple es k2 pt2) pos) (tS c tk g (.par is eas)) := by
  refine psImp (ps_asg (pe_tup ha) (pg_tup hc (NmS.pgs hN hn) (each_len _ _) (each_star _ hn.plain)) rfl hw rfl) fun D σ H h => ?_
  exact par_read h (fun vs H1 hl _ q _ hv => ⟨hv, fun p hp => ⟨p, vs, rfl, .inl (.inl upd_same), by rw [hn.len, hl], gAll_of hl (q p _ hp)⟩⟩) hz

/-- an argument behind others -/
theorem tX_S2 {A : Nat → Option Addr} {σ : Sg} {ρ ρ1 : Env} {H H1 : Hp} {F F1 : Addr → Prop} {Pn : List (Addr × W)} {as : List Arg} {vs : List V} {D : Ends} {e : E} {R : VK} {f : Arg → Env → SO} (m : Md c A σ ρ H F Pn as vs ρ1 H1 F1) (h : RS c A σ ρ H F Pn D (SO.bnd ((ev c.C e).x ρ1) f))
    (fin : ∀ u v ρ2 H2 F2, Md c A σ ρ H F Pn (as ++ [u]) (vs ++ [v]) ρ2 H2 F2 → RS c A σ ρ H F Pn D (f u ρ2) → R v H2) : tX c e σ H1 R :=
  ⟨A, ρ1, F1, pnds as vs ++ Pn, m.sr, (bnd_ok h).mono (fun a ρ2 h2 v H2 F2 st s ar fr => fin a v ρ2 H2 F2 (m.snoc st s ar fr) h2) fun _ _ _ e => e.step m.st⟩
/-! ### a change in place -/
theorem SRel.mutG {K : PySem.W.Frag} {A : Nat → Option Addr} {σ : Sg} {ρ : Env} {H : Hp} {F : Addr → Prop} {Pn : List (Addr × W)} {i : Nat} {w : W} {f : Fl} {d : Addr} {ob : HO} {w1 : W} (hs : SRel K A σ ρ H F Pn) (e : ρ[i]? = some (some (w, f))) (hf : f = .own ∨ f = .io) (ed : σ[i]? = some (some (.ref d)))
    (hc1 : (∀ a xs, SqT K H a xs → SqT K (upd H d ob) a xs) → (∀ a xs, F a → Rd H a (.lst xs) → Rd (upd H d ob) a (.lst xs)) → Cell K (upd H d ob) F d w1) : SRel K A σ (ρ.set i (some (w1, f))) (upd H d ob) F Pn ∧ Stp σ ρ H F σ (ρ.set i (some (w1, f))) (upd H d ob) F := by
  have nsh : f ≠ .sh := by rcases hf with rfl | rfl <;> decide
  have hi := lt_of_get e
  obtain ⟨d', x, nF, hc⟩ := hs.ow i w f e nsh
  rw [ed] at x; cases x
  obtain ⟨l0, e0, m0⟩ := hc.obj
  have sl : SlA σ ρ i d := ⟨w, f, e, nsh, ed⟩
  have rd : ∀ a u, a ≠ d → Rd H a u → Rd (upd H d ob) a u := fun a u n h => by
    rcases h with h | ⟨o, h⟩
    · exact .inl (by rw [upd_ne n]; exact h)
    · exact .inr ⟨o, by rw [upd_ne n]; exact h⟩
  have sq : ∀ a xs, SqT K H a xs → SqT K (upd H d ob) a xs := fun a xs h => by
    rcases h with h | h
    · refine .inl (rd a _ ?_ h)
      rintro rfl
      exact no_tup e0 m0 h
    · exact .inr h
  have hrm : ∀ {v : V} {x : W}, HR K H F v x → HR K (upd H d ob) F v x := fun h => h.mono sq (fun _ q => q) fun a xs f r => rd a _ (fun z => nF (z ▸ f)) r
  have hrs : ∀ {v : List V} {x : List W}, HRs K H F v x → HRs K (upd H d ob) F v x := fun h => h.mono sq (fun _ q => q) fun a xs f r => rd a _ (fun z => nF (z ▸ f)) r
  have hds : ∀ {es : DEs} {x : List (W × W)}, DRel K H F es x → DRel K (upd H d ob) F es x := fun h => h.mono sq (fun _ q => q) fun a xs f r => rd a _ (fun z => nF (z ▸ f)) r
  have cell : ∀ {a : Addr} {x : W}, a ≠ d → Cell K H F a x → Cell K (upd H d ob) F a x := fun {a x} n h => by
    cases x <;> first | exact h.elim | skip
    · obtain ⟨l, e, z, r⟩ := h
      exact ⟨l, by rw [upd_ne n]; exact e, z, hrs r⟩
    · obtain ⟨l, e, z, k, r⟩ := h
      exact ⟨l, by rw [upd_ne n]; exact e, z, k, hds r⟩
  have sla : ∀ j a, SlA σ (ρ.set i (some (w1, f))) j a → SlA σ ρ j a := fun j a ⟨w', f', e', n', s'⟩ => by
    rw [gets hi] at e'
    by_cases q : j = i
    · rw [if_pos q] at e'; cases e'; subst q; exact ⟨w, f, e, nsh, s'⟩
    · rw [if_neg q] at e'; exact ⟨w', f', e', n', s'⟩
  refine ⟨⟨by simpa using hs.ln, fun j w' e' => ?_, fun j w' f' e' n => ?_, fun j w' f' e' q => ?_, fun j k a h1 h2 => hs.dj j k a (sla _ _ h1) (sla _ _ h2), fun p hp => ?_, hs.pd, fun a z => ?_⟩, ⟨fun a o h n => ?_, fun _ h => h, fun _ _ _ h => .inl h, fun a o _ z => ?_, fun a o _ j z => sla j a z, fun a o _ z => ?_, fun a o h => ?_⟩⟩
  · rw [gets hi] at e'
    by_cases q : j = i
    · rw [if_pos q] at e'; cases e'; exact absurd rfl nsh
    · rw [if_neg q] at e'
      obtain ⟨v, a, b⟩ := hs.sh j w' e'
      exact ⟨v, a, hrm b⟩
  · rw [gets hi] at e'
    by_cases q : j = i
    · rw [if_pos q] at e'; cases e'; subst q
      exact ⟨d, ed, nF, hc1 sq fun a xs f r => rd a _ (fun z => nF (z ▸ f)) r⟩
    · rw [if_neg q] at e'
      obtain ⟨a, x, y, z⟩ := hs.ow j w' f' e' n
      exact ⟨a, x, y, cell (fun k => q (hs.dj j i d ⟨w', f', e', n, k ▸ x⟩ sl)) z⟩
  · rw [gets hi] at e'
    by_cases z : j = i
    · rw [if_pos z] at e'; cases e'; subst z; exact hs.io j w f e q
    · rw [if_neg z] at e'; exact hs.io j w' f' e' q
  · obtain ⟨x, y, z⟩ := hs.pn p hp
    exact ⟨x, cell (fun k => z i (k ▸ sl)) y, fun j s => z j (sla j _ s)⟩
  · obtain ⟨o, q⟩ := hs.ff a z
    have n : a ≠ d := fun k => nF (k ▸ z)
    exact ⟨o, by rw [upd_ne n]; exact q⟩
  · have n' : a ≠ d := fun k => n ⟨i, w, f, e, hf, k ▸ ed⟩
    rw [upd_ne n']; exact h
  · obtain ⟨j, w', f', e', n', s'⟩ := z
    rw [gets hi] at e'
    by_cases q : j = i
    · rw [if_pos q] at e'; cases e'; subst q; exact ⟨j, w, f, e, n', s'⟩
    · rw [if_neg q] at e'; exact ⟨j, w', f', e', n', s'⟩
  · obtain ⟨j, w', f', e', n', s'⟩ := z
    rw [gets hi] at e'
    by_cases q : j = i
    · rw [if_pos q] at e'; cases e'; subst q; exact ⟨j, w, f, e, n', s'⟩
    · rw [if_neg q] at e'; exact ⟨j, w', f', e', n', s'⟩
  · by_cases q : a = d
    · subst q; exact ⟨_, upd_same⟩
    · exact ⟨o, by rw [upd_ne q]; exact h⟩
theorem SRel.mut {K : PySem.W.Frag} {A : Nat → Option Addr} {σ : Sg} {ρ : Env} {H : Hp} {F : Addr → Prop} {Pn : List (Addr × W)} {i : Nat} {w : W} {f : Fl} {d : Addr} {us : List V} {ws : List W} (hs : SRel K A σ ρ H F Pn) (e : ρ[i]? = some (some (w, f))) (hf : f = .own ∨ f = .io) (ed : σ[i]? = some (some (.ref d)))
    (hz : us.length ≤ szL) (hr : HRs K H F us ws) : SRel K A σ (ρ.set i (some (.lst ws, f))) (upd H d (.lst us)) F Pn ∧ Stp σ ρ H F σ (ρ.set i (some (.lst ws, f))) (upd H d (.lst us)) F :=
  hs.mutG e hf ed fun sq rd => ⟨us, upd_same, hz, hr.mono sq (fun _ q => q) rd⟩
theorem SRel.mutD {K : PySem.W.Frag} {A : Nat → Option Addr} {σ : Sg} {ρ : Env} {H : Hp} {F : Addr → Prop} {Pn : List (Addr × W)} {i : Nat} {w : W} {f : Fl} {d : Addr} {es : DEs} {kvs : List (W × W)} (hs : SRel K A σ ρ H F Pn) (e : ρ[i]? = some (some (w, f))) (hf : f = .own ∨ f = .io) (ed : σ[i]? = some (some (.ref d)))
    (hz : es.length ≤ szL) (nd : (es.map (·.1)).Nodup) (hr : DRel K H F es kvs) : SRel K A σ (ρ.set i (some (.dct kvs, f))) (upd H d (dcO d es)) F Pn ∧ Stp σ ρ H F σ (ρ.set i (some (.dct kvs, f))) (upd H d (dcO d es)) F :=
  hs.mutG e hf ed fun sq rd => ⟨es, upd_same, hz, nd, hr.mono sq (fun _ q => q) rd⟩
/-- the object of a name that may be changed -/
theorem mut_at {K : PySem.W.Frag} {A : Nat → Option Addr} {σ : Sg} {ρ : Env} {H : Hp} {F : Addr → Prop} {Pn : List (Addr × W)} {i : Nat} {ws : List W} {f : Fl} {v : V} (hs : SRel K A σ ρ H F Pn) (e : wOf ρ i = some (.lst ws, f)) (hf : f = .own ∨ f = .io) (ev : σ[i]? = some (some v)) :
    ∃ d us, v = .ref d ∧ H d = some (.lst us) ∧ us.length ≤ szL ∧ HRs K H F us ws ∧ ρ[i]? = some (some (.lst ws, f)) ∧ σ[i]? = some (some (.ref d)) := by
  have e' := wOf_eq.mp e
  obtain ⟨d, a1, a2, us, a3, a4, a5⟩ := hs.ow i _ f e' (by rcases hf with rfl | rfl <;> decide)
  rw [ev] at a1; cases a1
  exact ⟨d, us, rfl, a3, a4, a5, e', ev⟩
/-- x[k] = e -/
theorem s_six {i : Nat} {px : Pos} {ek : E} {k : Expr} (hc : c.K = X.K) (hw : HW.P = X.prog ∧ HW.w = X.w) (hu : X.A.units + 200 < cLine) (hx : PE X (.Name x px) (tVar i)) (hk : PE X k (tX c ek)) (he : PE X e (tX c ea)) (hs : swapsWithSole [.Subscript (.Name x px) k p] e pos.line X.env = pure false) (hw2 : swappedStores [.Subscript (.Name x px) k p] e X.env = pure none)
    (ha : ∀ v, assign (.Subscript (.Name x px) k p) X.env v = (do
      let ov ← holding [v] (eval (.Name x px) X.env)
      let iv ← holding [v, ov] (eval k X.env)
      standAt p
      holding [v, ov, iv] (setItem ov iv v)
      release [v, ov, iv] [])) : PS X (.Assign [.Subscript (.Name x px) k p] e pos) (tS c tk g (.six i ek ea)) := by
  refine psImp (ps_asg he (pg_sub hx hk (set_ld hw hu) ha) hs hw2 rfl) fun D σ H ⟨A, ρ, F, Pn, hs, h⟩ => ?_
  refine tX_S hs h fun u v ρ1 H1 F1 m q1 => ?_
  obtain ⟨s1, ar, fr⟩ := m.one
  -- the name's object ahead of the index
  have fin : ∀ u' v' ρ2 H2 F2, Md c A σ ρ H F Pn [u, u'] [v, v'] ρ2 H2 F2 → RS c A σ ρ H F Pn D (sixE i u u' ρ2) → ∃ w, σ[i]? = some (some w) ∧ rSetLD X.K w v' v H2 fun H3 => D.nx σ H3 := fun u' v' ρ2 H2 F2 m2 q2 => by
    unfold sixE at q2
    have m2r : SRel c.K A σ ρ2 H2 F2 (pnd u' v' ++ (pnd u v ++ Pn)) := by simpa [pnds] using m2.sr
    obtain ⟨ar1, ar2⟩ : AR c.K σ H2 F2 u v ∧ AR c.K σ H2 F2 u' v' := by cases m2.ar with | cons h t => cases t with | cons h' _ => exact ⟨h, h'⟩
    cases e1 : shr ρ2 u with
    | none => simp only [e1] at q2; exact q2.elim
    | some y =>
      obtain ⟨w, ρ3⟩ := y
      simp only [e1] at q2
      obtain ⟨F3, s3, r3, m3, t3⟩ := AR.share (P1 := pnd u' v') (Pn := Pn) (by simpa using m2r) ar1 e1
      cases e2 : shr ρ3 u' with
      | none => simp only [e2] at q2; exact q2.elim
      | some y =>
        obtain ⟨kw, ρ4⟩ := y
        simp only [e2] at q2
        obtain ⟨F4, s4, r4, m4, t4⟩ := AR.share (P1 := []) (Pn := Pn) (by simpa using s3) (ar2.more m3) e2
        have s4 : SRel c.K A σ ρ4 H2 F4 Pn := by simpa using s4
        have t := t4 H F ρ (t3 H F ρ m2.st fun d y z => m2.fr d y (by simp [pnds, z])) fun d y z => m2.fr d y (by simp [pnds, z])
        have go : ∀ {w0 : W} {f : Fl}, wOf ρ4 i = some (w0, f) → (f = .own ∨ f = .io) → RS c A σ ρ H F Pn D (match putW w0 kw w with | some w' => .nx (ρ4.set i (some (w', f))) | none => .bad) → ∃ z, σ[i]? = some (some z) ∧ rSetLD X.K z v' v H2 fun H3 => D.nx σ H3 := fun {w0 f} e3 hf q3 => by
          cases w0 with
          | lst ws => cases kw with
            | int n =>
              obtain ⟨vi, ev⟩ := s4.val e3
              obtain ⟨d, us, rfl, e4, hz, hr, e5, e6⟩ := mut_at s4 e3 hf ev
              cases e7 : L2.ixN ws.length n with
              | none => simp [putW, e7] at q3; exact q3.elim
              | some j =>
                have q3 : RS c A σ ρ H F Pn D (.nx (ρ4.set i (some (.lst (ws.set j w), f)))) := by simpa [putW, e7] using q3
                obtain ⟨s5, t5⟩ := s4.mut e5 hf e6 (us := us.set j v) (ws := ws.set j w) (by simpa using hz) (hr.set (r3.more m4) j)
                exact ⟨_, ev, .inl ⟨d, us, n, j, rfl, (PkR.of r4).int, e4, by rw [hr.length]; exact e7, q3 σ _ F4 (t.trans t5) s5⟩⟩
            | _ => exact q3.elim
          | dct kvs =>
            have q3 : RS c A σ ρ H F Pn D (match (if hkW kw = true ∧ kvs.length < szL then some (W.dct (ptW kw w kvs)) else none) with | some w' => SO.nx (ρ4.set i (some (w', f))) | none => .bad) := by cases kw <;> exact q3
            by_cases hk : hkW kw = true ∧ kvs.length < szL
            · rw [if_pos hk] at q3
              obtain ⟨vi, ev⟩ := s4.val e3
              obtain ⟨d, a1, a2, es, a3, a4, a5, a6⟩ := s4.ow i _ f (wOf_eq.mp e3) (by rcases hf with rfl | rfl <;> decide)
              rw [ev] at a1; cases a1
              refine ⟨_, ev, .inr ⟨F4, d, es, kvs, kw, w, rfl, a3, by rw [a6.length]; exact hk.2, a5, by rw [← hc]; exact a6, by rw [← hc]; exact r4, hk.1, by rw [← hc]; exact r3.more m4, fun es' z1 z2 z3 => ?_⟩⟩
              rw [← hc] at z3
              obtain ⟨s5, t5⟩ := s4.mutD (wOf_eq.mp e3) hf ev z1 z2 z3
              exact q3 σ _ F4 (t.trans t5) s5
            · rw [if_neg hk] at q3; exact q3.elim
          | _ => exact q3.elim
        cases e3 : wOf ρ4 i with
        | none => simp only [e3] at q2; exact q2.elim
        | some y =>
          obtain ⟨w0, f⟩ := y
          simp only [e3] at q2
          cases f with
          | own => exact go e3 (.inl rfl) q2
          | io => exact go e3 (.inr rfl) q2
          | sh => exact q2.elim
          | ownL => exact q2.elim
          | ioL => exact q2.elim
  cases e0 : wOf ρ1 i with
  | none => simp only [e0] at q1; exact q1.elim
  | some y =>
    simp only [e0] at q1
    obtain ⟨w, f⟩ := y
    obtain ⟨vi, ev⟩ := s1.val e0
    refine ⟨vi, ev, ?_⟩
    refine tX_S2 m q1 fun u' v' ρ2 H2 F2 m2 q2 => ?_
    obtain ⟨z, e1, r⟩ := fin u' v' ρ2 H2 F2 m2 q2
    rw [ev] at e1; cases e1
    exact r
end
end Py

namespace Py
open PySem PySem.Spec PyProof.Rows L2
variable [HW]
section
variable {X : Cx} {c : Cf} {tk : Tk} {g : Nat} {st : Stmt} {sts : List Stmt} {e a b tg iter : Expr} {ea eb eas ec : E} {s r : S} {pos p : Pos} {x : Str}
theorem mutOk_ok {o : Option (W × Fl)} (h : mutOk o = true) : ∃ ws f, o = some (.lst ws, f) ∧ (f = .own ∨ f = .io) := by
  unfold mutOk at h
  split at h
  · exact ⟨_, _, rfl, .inl rfl⟩
  · exact ⟨_, _, rfl, .inr rfl⟩
  · cases h
theorem mut_read {mk : MK} {i : Nat} {D : Ends} {σ : Sg} {H : Hp} {r : V → List V → Hp → VK → Prop} (h : tS c tk g (.mut mk i eas) D σ H)
    (hr : ∀ (d : Addr) us ws vs wsA w' H1 F1 Q, H1 d = some (.lst us) → us.length ≤ szL → HRs c.K H1 F1 us ws → HRs c.K H1 F1 vs wsA → mutW mk (.lst ws) wsA = some w' → (∀ us' ws2, w' = .lst ws2 → us'.length ≤ szL → HRs c.K H1 F1 us' ws2 → ∀ v, Q v (upd H1 d (.lst us'))) → r (.ref d) vs H1 Q) :
    tDrop (tBM c.K "list" r (tVar i) (tXL c eas)) D σ H := by
  obtain ⟨A, ρ, F, Pn, hs, q⟩ := h
  have q : RS c A σ ρ H F Pn D (if mutOk (wOf ρ i) = true then SO.bnd ((ev c.C eas).a ρ) (fun us ρ1 => mutE mk i us ρ1) else .bad) := q
  cases e0 : mutOk (wOf ρ i) with
  | false => simp only [e0, Bool.false_eq_true, if_false] at q; exact q.elim
  | true =>
    simp only [e0, if_true] at q
    obtain ⟨ws0, f0, e1, hf⟩ := mutOk_ok e0
    obtain ⟨vi, ev⟩ := hs.val e1
    obtain ⟨d, us, rfl, h1, _⟩ := mut_at hs e1 hf ev
    refine ⟨.ref d, ev, .inl ⟨rfl, us, .of h1⟩, ?_⟩
    refine tXL_S hs q fun as vs ρ1 H1 F1 m q1 => ?_
    unfold mutE at q1
    cases e2 : shrs ρ1 as with
    | none => simp only [e2] at q1; exact q1.elim
    | some y =>
      obtain ⟨wsA, ρ2⟩ := y
      simp only [e2] at q1
      obtain ⟨F2, m2, r2⟩ := m.share e2
      have s2 : SRel c.K A σ ρ2 H1 F2 Pn := by simpa [pnds] using m2.sr
      have go : ∀ {w : W} {f : Fl}, wOf ρ2 i = some (w, f) → (f = .own ∨ f = .io) → RS c A σ ρ H F Pn D (match mutW mk w wsA with | some w' => .nx (ρ2.set i (some (w', f))) | none => .bad) → r (.ref d) vs H1 fun _ H1 => D.nx σ H1 := fun {w f} e3 hf q3 => by
        obtain ⟨_, _, _, z⟩ := s2.ow i _ f (wOf_eq.mp e3) (by rcases hf with rfl | rfl <;> decide)
        cases w <;> first | exact z.elim | skip
        case dct => exact absurd q3 (by cases mk <;> exact fun h => h)
        rename_i ws
        obtain ⟨d', us', e, h1', hz', hr', e5, e6⟩ := mut_at s2 e3 hf ev
        cases e
        cases e4 : mutW mk (.lst ws) wsA with
        | none => simp only [e4] at q3; exact q3.elim
        | some w' =>
          simp only [e4] at q3
          refine hr d us' ws vs wsA w' H1 F2 _ h1' hz' hr' r2 e4 fun us2 ws2 ew hz2 hr2 v => ?_
          subst ew
          obtain ⟨s5, t5⟩ := s2.mut e5 hf e6 hz2 hr2
          exact q3 σ _ F2 (m2.st.trans t5) s5
      cases e3 : wOf ρ2 i with
      | none => simp only [e3] at q1; exact q1.elim
      | some y =>
        obtain ⟨w0, f⟩ := y
        simp only [e3] at q1
        cases f with
        | own => exact go e3 (.inl rfl) q1
        | io => exact go e3 (.inr rfl) q1
        | sh => exact q1.elim
        | ownL => exact q1.elim
        | ioL => exact q1.elim
theorem name_base {x : Str} {px : Pos} {attr : Str} {env : PySem.Env} {w : Sem Value} : attributeBase (.Name x px) attr env w = w := base_plain fun _ _ _ h => nomatch h
theorem s_append {i : Nat} {px apos cpos : Pos} (hc : c.K = X.K) (hx : PE X (.Name x px) (tVar i)) (hp : plainE e = true) (ha : PA X [e] (tXL c eas)) (hl : (apos.endLine == cpos.line) = true)
    (hs : swapsWith (.Call (.Attribute (.Name x px) "append" apos) [e] [] cpos) none pos.line X.env = pure false) : PS X (.Expr (.Call (.Attribute (.Name x px) "append" apos) [e] [] cpos) pos) (tS c tk g (.mut .append i eas)) := by
  refine psImp (ps_expr (pe_bm PySem.F.plainAttrs_list PySem.F.slot_list_append PySem.F.type_list_append mt_append hx ha name_base ?_ hl (star_cons _ hp _) rfl) hs) fun D σ H h => ?_
  · rw [(star_all _ _ (es := [e]) (by simp [hp])).2]
    simp [backToKw, keywordEach]
  · rw [← hc]
    refine mut_read h fun d us ws vs wsA w' H1 F1 Q e1 hz r1 r2 e2 k => ?_
    match wsA, r2, e2 with
    | [w], .cons hv .nil, e2 =>
      have e2 : (if ws.length < szL then some (W.lst (ws ++ [w])) else none) = some w' := e2
      by_cases z : ws.length < szL
      · rw [if_pos z] at e2
        have hl := r1.length
        rw [← hl] at z
        exact ⟨d, us, _, rfl, rfl, e1, z, k _ _ (Option.some.inj e2).symm (by simp; omega) (r1.append (.one hv)) .non⟩
      · rw [if_neg z] at e2; cases e2
    | [], _, e2 => cases e2
    | _ :: _ :: _, _, e2 => cases e2
theorem rd_lst {X : Cx} {pins : List (Addr × Obj)} {s : Shared} {σ : Sg} {H : Hp} (I : Inv X pins σ H s) {b : Addr} {zs : List V} (h : Rd H b (.lst zs)) : ∃ (its : List Value) (n : Nat), Vals zs its ∧ zs.length = its.length ∧ s.heap.get? b = some { cls := .type "list", data := .seq its.toArray n } := by
  rcases h with h | ⟨o, h⟩
  · obtain ⟨_, its, n, r, hl, e⟩ := I.lstM h
    exact ⟨its, n, r, hl, e⟩
  · obtain ⟨_, _, its, n, r, e⟩ := I.hok b _ h
    exact ⟨its, n, r, r.length, e⟩
def rExtR : V → List V → Hp → VK → Prop := fun x vs H Q => ∃ l b xs zs, x = .ref l ∧ vs = [.ref b] ∧ H l = some (.lst xs) ∧ Rd H b (.lst zs) ∧ xs.length + zs.length ≤ sizeLine ∧ Q .non (upd H l (.lst (xs ++ zs)))
theorem mt_extR {X : Cx} : MtM X "list.extend" rExtR := by
  intro pins s σ H x vs v us Q I rx rv h
  obtain ⟨l, b, xs, zs, rfl, rfl, hH, hB, hz, q⟩ := h
  cases rx
  obtain ⟨u, rfl, ru⟩ := rv.one
  cases ru
  obtain ⟨z, its, n, r, hl, e⟩ := I.lstM hH
  obtain ⟨its2, n2, r2, hl2, e2⟩ := rd_lst I hB
  have hsz : its.toArray.size + its2.toArray.size ≤ sizeLine := by rw [List.size_toArray, List.size_toArray]; omega
  have hlong : ¬ (!its.toArray.isEmpty && Builtin.List.listTooLong (its.toArray.size + its2.toArray.size)) = true := by
    rw [notLongL hsz, Bool.and_false]
    exact Bool.false_ne_true
  refine call_meets PySem.F.slot_list_extend ⟨_, e, rfl⟩ PySem.F.entry_list_extend (PySem.F.args_list_extend_2 _ _)
    (AutoSeq1.list_extend_list_list_0 l its.toArray n b its2.toArray n2 hlong (by rw [List.size_toArray]; omega) (by omega)) ⟨e, e2, ?_⟩
  refine ⟨.non, _, I.lset (its' := its ++ its2) hH e (by simp) (r.append r2) ?_, rfl, q⟩
  rw [List.length_append]
  omega
theorem s_extend {i : Nat} {px apos cpos : Pos} (hc : c.K = X.K) (hx : PE X (.Name x px) (tVar i)) (hp : plainE e = true) (ha : PA X [e] (tXL c eas)) (hl : (apos.endLine == cpos.line) = true)
    (hs : swapsWith (.Call (.Attribute (.Name x px) "extend" apos) [e] [] cpos) none pos.line X.env = pure false) : PS X (.Expr (.Call (.Attribute (.Name x px) "extend" apos) [e] [] cpos) pos) (tS c tk g (.mut .extend i eas)) := by
  refine psImp (ps_expr (pe_bm PySem.F.plainAttrs_list PySem.F.slot_list_extend PySem.F.type_list_extend mt_extR hx ha name_base ?_ hl (star_cons _ hp _) rfl) hs) fun D σ H h => ?_
  · rw [(star_all _ _ (es := [e]) (by simp [hp])).2]
    simp [backToKw, keywordEach]
  · rw [← hc]
    refine mut_read h fun d us ws vs wsA w' H1 F1 Q e1 hz r1 r2 e2 k => ?_
    match wsA, r2, e2 with
    | [.lst ys], .cons hv .nil, e2 =>
      have e2 : (if ws.length + ys.length ≤ szL then some (W.lst (ws ++ ys)) else none) = some w' := e2
      by_cases z : ws.length + ys.length ≤ szL
      · rw [if_pos z] at e2
        cases hv with
        | lst f r zz hr =>
          have hl := r1.length
          have hl2 := hr.length
          rw [← hl, ← hl2] at z
          exact ⟨d, _, us, _, rfl, rfl, e1, r, by rw [← szL_eq]; exact z, k _ _ (Option.some.inj e2).symm (by rw [List.length_append]; exact z) (r1.append hr) .non⟩
      · rw [if_neg z] at e2; cases e2
    | [], _, e2 => cases e2
    | _ :: _ :: _, _, e2 => simp [mutW] at e2
    | [.non], _, e2 => cases e2
    | [.bl _], _, e2 => cases e2
    | [.int _], _, e2 => cases e2
    | [.str _], _, e2 => cases e2
    | [.tup _], _, e2 => cases e2
    | [.dct _], _, e2 => cases e2
    | [.st _], _, e2 => cases e2
theorem s_insert {i : Nat} {px apos cpos : Pos} (hc : c.K = X.K) (hx : PE X (.Name x px) (tVar i)) (hp : plainE a = true) (hp2 : plainE b = true) (ha : PA X [a, b] (tXL c eas)) (hl : (apos.endLine == cpos.line) = true)
    (hs : swapsWith (.Call (.Attribute (.Name x px) "insert" apos) [a, b] [] cpos) none pos.line X.env = pure false) : PS X (.Expr (.Call (.Attribute (.Name x px) "insert" apos) [a, b] [] cpos) pos) (tS c tk g (.mut .insert i eas)) := by
  refine psImp (ps_expr (pe_bm PySem.F.plainAttrs_list PySem.F.slot_list_insert PySem.F.type_list_insert mt_insert hx ha name_base ?_ hl (star_cons _ hp _) ?_) hs) fun D σ H h => ?_
  · rw [(star_all _ _ (es := [a, b]) (by simp [hp, hp2])).2]
    simp [backToKw, keywordEach]
  · exact (star_all _ _ (es := [b]) (by simp [hp2])).1
  · rw [← hc]
    refine mut_read h fun d us ws vs wsA w' H1 F1 Q e1 hz r1 r2 e2 k => ?_
    match wsA, r2, e2 with
    | [.int n, w], .cons hn (.cons hv .nil), e2 =>
      have e2 : (if ws.length < szL ∧ 0 ≤ n ∧ n ≤ ws.length then some (W.lst (ws.take n.toNat ++ w :: ws.drop n.toNat)) else none) = some w' := e2
      by_cases z : ws.length < szL ∧ 0 ≤ n ∧ n ≤ ws.length
      · rw [if_pos z] at e2
        have hl := r1.length
        obtain ⟨z1, z2, z3⟩ := z
        rw [← hl] at z1
        cases hn
        have z4 : n < 2 ^ 63 := by have : (szL : Int) < 2 ^ 63 := by decide
                                   omega
        refine ⟨d, us, n, _, rfl, rfl, e1, z1, z2, z4, k _ _ (Option.some.inj e2).symm ?_ ?_ .non⟩
        · simp only [List.length_append, List.length_take, List.length_drop, List.length_singleton]; omega
        · rw [List.append_assoc]
          exact (r1.take _).append (.cons hv (r1.drop _))
      · rw [if_neg z] at e2; cases e2
    | [], _, e2 => cases e2
    | [_], _, e2 => simp [mutW] at e2
    | _ :: _ :: _ :: _, _, e2 => simp [mutW] at e2
    | [.non, _], _, e2 => cases e2
    | [.bl _, _], _, e2 => cases e2
    | [.str _, _], _, e2 => cases e2
    | [.tup _, _], _, e2 => cases e2
    | [.lst _, _], _, e2 => cases e2
    | [.dct _, _], _, e2 => cases e2
    | [.st _, _], _, e2 => cases e2

/-! ### x += e -/
theorem add_int {w u : W} {z : Int} {f : Bool} (h : opW .add w u = some (.int z, f)) : ∃ i j, w = .int i ∧ u = .int j ∧ z = i + j := by
  cases w <;> cases u <;> simp [opW] at h <;> first | exact ⟨_, _, rfl, rfl, h.1.symm⟩ | skip
theorem sub_int {w u : W} {z : Int} {f : Bool} (h : opW .sub w u = some (.int z, f)) : ∃ i j, w = .int i ∧ u = .int j ∧ z = i - j := by
  cases w <;> cases u <;> simp [opW] at h <;> first | exact ⟨_, _, rfl, rfl, h.1.symm⟩ | skip
theorem s_aug {i : Nat} {o : BOp} {op : Operator} {f : Int → Int → Int} {p' : Pos} (hN : X.N.Nodup) (hi : X.N[i]? = some x) (hx : Loc X.env.scope x) (hf : X.fn x = true ∨ X.env.scope.names.lookup x = some .local) (he : PE X e (tX c ea)) (ho : PIp X op (ipI f))
    (hv : ∀ w u z k, opW o w u = some (.int z, k) → ∃ i j, w = .int i ∧ u = .int j ∧ z = f i j) : PS X (.AugAssign (.Name x p') op e pos) (tS c tk g (.aug i o ea)) := by
  refine psImp (ps_aug hN hi hx he ho hf) fun D σ H ⟨A, ρ, F, Pn, hs, q⟩ => ?_
  have q : RS c A σ ρ H F Pn D (match wOf ρ i with
    | some (w, .sh) => SO.bnd ((ev c.C ea).x ρ) fun a ρ1 => match res ρ1 a with
      | some u => match opW o w u with
        | some (.int z, _) => ofE (setN ρ1 i (.int z) .sh)
        | _ => .bad
      | none => .bad
    | _ => .bad) := q
  split at q
  · rename_i w e0
    obtain ⟨v, a1, a2⟩ := hs.sh i w (wOf_eq.mp e0)
    refine ⟨v, a1, tX_S hs q fun u v' ρ1 H1 F1 m q1 => ?_⟩
    obtain ⟨s1, ar, fr⟩ := m.one
    cases e1 : res ρ1 u with
    | none => simp only [e1] at q1; exact q1.elim
    | some y =>
      simp only [e1] at q1
      split at q1
      · rename_i z k e2
        obtain ⟨i1, j1, rfl, rfl, rfl⟩ := hv _ _ _ _ e2
        obtain ⟨_, e, p1⟩ := (m.pk (ress1 e1)).one
        cases e
        cases a2
        refine ⟨i1, j1, rfl, p1.int, ?_⟩
        cases e3 : setN ρ1 i (.int (f i1 j1)) .sh with
        | none => simp only [e3] at q1; exact q1.elim
        | some ρ2 =>
          simp only [e3] at q1
          obtain ⟨s2, t2⟩ := s1.drop.setV (v := .int (f i1 j1)) (.int _) e3
          exact q1 _ H1 F1 (m.st.trans t2) s2
      · exact q1.elim
  · exact q.elim
  
/-! ### if -/
theorem Md.z {A : Nat → Option Addr} {σ : Sg} {ρ ρ1 : Env} {H H1 : Hp} {F F1 : Addr → Prop} {Pn : List (Addr × W)} (m : Md c A σ ρ H F Pn [] [] ρ1 H1 F1) : SRel c.K A σ ρ1 H1 F1 Pn := by simpa [pnds] using m.sr
theorem s_ite {cd : Expr} {s1 s2 : List Stmt} (hc : PT X cd (tXB c ec)) (h1 : PSs X s1 (tS c tk g s)) (h2 : PSs X s2 (tS c tk g r)) : PS X (.If cd s1 s2 pos) (tS c tk g (.ite ec s r)) := by
  refine psImp (ps_if hc h1 h2) fun D σ H ⟨A, ρ, F, Pn, hs, q⟩ => ?_
  refine tXB_S hs q fun k ρ1 H1 F1 m q1 => ?_
  cases k with
  | true => exact iteT (tS_at m.z m.st q1)
  | false => exact iteF (tS_at m.z m.st q1)

/-! ### loops -/
theorem RS.drop {A : Nat → Option Addr} {σ : Sg} {ρ : Env} {H : Hp} {F : Addr → Prop} {P1 Pn : List (Addr × W)} {D : Ends} {o : SO} (h : RS c A σ ρ H F Pn D o) : RS c A σ ρ H F (P1 ++ Pn) D o := by
  cases o with
  | nx ρ' => exact fun σ' H' F' st s => h σ' H' F' st s.drop
  | bk ρ' => exact fun σ' H' F' st s => h σ' H' F' st s.drop
  | ct ρ' => exact fun σ' H' F' st s => h σ' H' F' st s.drop
  | rt w fr ρ' =>
    refine fun v σ' H' F' st s a b => h v σ' H' F' st ?_ a b
    have s2 : SRel c.K A σ' ρ' H' F' (P1 ++ (pnd (.val w fr) v ++ Pn)) := s.perm (by rw [← List.append_assoc, ← List.append_assoc]; exact List.Perm.append_right _ List.perm_append_comm)
    exact s2.drop
  | ex x p ρ' => exact fun σ' H' F' d st s a => h σ' H' F' d st s.drop a
  | bad => exact h
theorem s_for {k : IK} {q : Pt} {body : List Stmt} (hc : c.K = X.K) (hp : PassesOwn (model X.prog X.w) X.A X.env X.xe) (calm : X.calm = true) (hi : PI X tg iter (tI c k eas)) (hg : PG X tg (gP X.K q)) (hb : PSs X body (tS c tk g s))
    (hf : ∀ x, foldedSetIterable iter X.env x = pure x) : PS X (.For tg iter body [] pos) (tS c tk g (.for_ q k eas s)) := by
  refine psImp (ps_for hp calm hi hg hb hf) fun D σ H ⟨A, ρ, F, Pn, hs, h⟩ => ?_
  rw [← hc]
  refine ⟨A, ρ, F, Pn, hs, (bnd_ok h).mono (fun us ρ1 q1 => ?_) fun _ _ _ e => e⟩
  cases e1 : (ress ρ1 us).bind (itW k) with
  | none => simp only [e1] at q1; exact q1.elim
  | some its =>
    simp only [e1] at q1
    refine ⟨its, rfl, fun J vs H1 F1 m G => ?_⟩
    obtain ⟨sL, _⟩ := lk_ok (as := us) m.sr
    have tL := lk_stp (as := us) m.sr
    generalize hst : (fun (w : W) (ρ : Env) => match asP q w ρ with
      | none => SO.bad
      | some ρ1 => xs c.C tk g s ρ1) = step at q1
    refine ⟨fun i n σ' H' => n = its.length - i ∧ ∃ ρ' F', i ≤ its.length ∧ SRel c.K A σ' ρ' H' F' (pnds us vs ++ Pn) ∧ Stp σ (lkE ρ1 us) H1 F1 σ' ρ' H' F' ∧ RS c A σ ρ H F Pn D ((forL step (its.drop i) ρ').mapE fun ρ3 => ulE ρ1 ρ3 us),
      ⟨_, rfl, lkE ρ1 us, F1, Nat.zero_le _, sL, .refl, q1⟩, ?_⟩
    rintro i n σ' H' ⟨rfl, ρ', F', hi, s', st', qi⟩
    -- behind the loop
    have out : ∀ {σ3 : Sg} {ρ3 : Env} {H3 : Hp} {F3 : Addr → Prop}, SRel c.K A σ3 ρ3 H3 F3 (pnds us vs ++ Pn) → Stp σ (lkE ρ1 us) H1 F1 σ3 ρ3 H3 F3 → NX c A σ ρ H F Pn D.nx (ulE ρ1 ρ3 us) → D.nx σ3 H3 := fun {σ3 ρ3 H3 F3} s3 t3 q3 => by
      obtain ⟨s4, t4⟩ := ul_ok (as := us) (tL.trans t3) s3
      exact q3 σ3 H3 F3 (m.st.trans t4) s4.drop
    by_cases hlt : i < its.length
    · refine .inr ⟨G.go i H' F' _ _ st' hlt, fun σ3 H3 => ∃ ρ3 F3, i + 1 ≤ its.length ∧ SRel c.K A σ3 ρ3 H3 F3 (pnds us vs ++ Pn) ∧ Stp σ (lkE ρ1 us) H1 F1 σ3 ρ3 H3 F3 ∧ RS c A σ ρ H F Pn D ((forL step (its.drop (i + 1)) ρ3).mapE fun ρ3 => ulE ρ1 ρ3 us), fun σ3 H3 n3 => ⟨its.length - (i + 1), by omega, rfl, n3⟩, fun x H2 y => ?_⟩
      obtain ⟨w, ew, nw⟩ := G.yl i H' F' _ _ x H2 st' hlt y
      have ed : its.drop i = w :: its.drop (i + 1) := by
        rw [List.drop_eq_getElem_cons hlt]
        congr 1
        rw [List.getElem?_eq_getElem hlt] at ew
        exact Option.some.inj ew
      rw [ed] at qi
      obtain ⟨s2, hr, t2⟩ : SRel c.K A σ' ρ' H2 F' (pnds us vs ++ Pn) ∧ HR c.K H2 F' x w ∧ Stp σ' ρ' H' F' σ' ρ' H2 F' := by
        cases nw with
        | old r => exact ⟨s', r, .refl⟩
        | tup hp z r => exact ⟨s'.alloc hp, .tup (.inl (.inl upd_same)) z (r.upd hp), .alloc hp⟩
      have qi : RS c A σ ρ H F Pn D ((match step w ρ' with
        | .nx ρ1 => forL step (its.drop (i + 1)) ρ1
        | .ct ρ1 => forL step (its.drop (i + 1)) ρ1
        | .bk ρ1 => .nx ρ1
        | o => o).mapE fun ρ3 => ulE ρ1 ρ3 us) := qi
      cases ea : asP q w ρ' with
      | none =>
        have : step w ρ' = .bad := by rw [← hst]; simp only [ea]
        rw [this] at qi; exact qi.elim
      | some ρa =>
        have est : step w ρ' = xs c.C tk g s ρa := by rw [← hst]; simp only [ea]
        rw [est] at qi
        refine ⟨A, ρ', F', _, w, ρa, s2, hr, ea, fun σ2 s3 t3 off => ?_⟩
        have t13 : Stp σ (lkE ρ1 us) H1 F1 σ2 ρa H2 F' := (st'.trans t2).trans t3
        have t0 : Stp σ ρ H F σ2 ρa H2 F' := (m.st.trans tL).trans t13
        refine ⟨A, ρa, F', _, s3, ?_⟩
        cases eb : xs c.C tk g s ρa with
        | nx ρb =>
          rw [eb] at qi
          exact fun σ4 H4 F4 t4 s4 => ⟨ρb, F4, hlt, s4, t13.trans t4, qi⟩
        | ct ρb =>
          rw [eb] at qi
          exact fun σ4 H4 F4 t4 s4 => ⟨ρb, F4, hlt, s4, t13.trans t4, qi⟩
        | bk ρb =>
          rw [eb] at qi
          exact fun σ4 H4 F4 t4 s4 => out s4 (t13.trans t4) qi
        | rt w fr ρb =>
          rw [eb] at qi
          have qi : RS c A σ ρ H F Pn D (.rt w fr ρb) := qi
          have := (RS.drop (P1 := pnds us vs) qi).step (F1 := F') t0
          exact this
        | ex x p ρb =>
          rw [eb] at qi
          have qi : RS c A σ ρ H F Pn D (.ex x p ρb) := qi
          have := (RS.drop (P1 := pnds us vs) qi).step (F1 := F') t0
          exact this
        | bad => rw [eb] at qi; exact qi.elim
    · have e : i = its.length := by omega
      subst e
      rw [List.drop_length] at qi
      exact .inl ⟨G.st _ H' F' _ _ st' (Nat.le_refl _), out s' st' qi⟩
theorem s_whl {cd : Expr} {body : List Stmt} (hp : PassesOwn (model X.prog X.w) X.A X.env X.xe) (hc : PT X cd (tXB c ec)) (hb : PSs X body (tS c tk g s)) : PS X (.While cd body [] pos) (tS c tk g (.whl ec s)) := by
  refine psImp (ps_while hp hc hb) fun D σ H ⟨A, ρ, F, Pn, hs, q⟩ => ?_
  have q : RS c A σ ρ H F Pn D (whlL (ev c.C ec).t (xs c.C tk g s) g ρ) := q
  refine ⟨fun n σ' H' => ∃ ρ' F', SRel c.K A σ' ρ' H' F' Pn ∧ Stp σ ρ H F σ' ρ' H' F' ∧ RS c A σ ρ H F Pn D (whlL (ev c.C ec).t (xs c.C tk g s) n ρ'), ⟨g, ρ, F, hs, .refl, q⟩, ?_⟩
  rintro n σ' H' ⟨ρ', F', s', st', q'⟩
  cases n with
  | zero => exact q'.elim
  | succ n =>
    have q2 : RS c A σ' ρ' H' F' Pn D (SO.bnd ((ev c.C ec).t ρ') fun k ρ1 => if k = true then match xs c.C tk g s ρ1 with
      | .nx ρ2 => whlL (ev c.C ec).t (xs c.C tk g s) n ρ2
      | .ct ρ2 => whlL (ev c.C ec).t (xs c.C tk g s) n ρ2
      | .bk ρ2 => .nx ρ2
      | o => o
    else .nx ρ1) := RS.step (ρ1 := ρ') (F1 := F') q' st'
    have lift : ∀ {ρ2 : Env} {σ2 : Sg} {H2 : Hp} {F2 : Addr → Prop}, SRel c.K A σ2 ρ2 H2 F2 Pn → Stp σ' ρ' H' F' σ2 ρ2 H2 F2 → RS c A σ ρ H F Pn D (whlL (ev c.C ec).t (xs c.C tk g s) n ρ2) → ∃ m', m' < n + 1 ∧ ∃ ρ' F', SRel c.K A σ2 ρ' H2 F' Pn ∧ Stp σ ρ H F σ2 ρ' H2 F' ∧ RS c A σ ρ H F Pn D (whlL (ev c.C ec).t (xs c.C tk g s) m' ρ') :=
      fun {ρ2 σ2 H2 F2} s2 t2 q2 => ⟨n, Nat.lt_succ_self _, ρ2, F2, s2, st'.trans t2, q2⟩
    have q3 : RS c A σ ρ H F Pn D (SO.bnd ((ev c.C ec).t ρ') fun k ρ1 => if k = true then match xs c.C tk g s ρ1 with
      | .nx ρ2 => whlL (ev c.C ec).t (xs c.C tk g s) n ρ2
      | .ct ρ2 => whlL (ev c.C ec).t (xs c.C tk g s) n ρ2
      | .bk ρ2 => .nx ρ2
      | o => o
    else .nx ρ1) := q'
    cases ek : (ev c.C ec).t ρ' with
    | bad => rw [ek] at q2; exact q2.elim
    | ex x p ρ1 =>
      rw [ek] at q2
      refine ⟨A, ρ', F', Pn, s', ?_⟩
      rw [ek]
      exact ES.ex q2
    | ok k ρ1 =>
      rw [ek] at q3
      simp only [SO.bnd_ok] at q3
      refine ⟨A, ρ', F', Pn, s', ?_⟩
      rw [ek]
      intro H1 F1 t1 s1
      cases k with
      | false =>
        simp only [Bool.false_eq_true, if_false] at q3
        exact iteF (q3 σ' H1 F1 (st'.trans t1) s1)
      | true =>
        simp only [if_true] at q3
        refine iteT ⟨fun σ3 H3 => ∃ ρ3 F3, SRel c.K A σ3 ρ3 H3 F3 Pn ∧ Stp σ ρ H F σ3 ρ3 H3 F3 ∧ RS c A σ ρ H F Pn D (whlL (ev c.C ec).t (xs c.C tk g s) n ρ3), fun σ3 H3 n3 => ⟨n, Nat.lt_succ_self _, n3⟩, A, ρ1, F1, Pn, s1, ?_⟩
        have t0 : Stp σ ρ H F σ' ρ1 H1 F1 := st'.trans t1
        cases eb : xs c.C tk g s ρ1 with
        | nx ρb =>
          rw [eb] at q3
          exact fun σ4 H4 F4 t4 s4 => ⟨ρb, F4, s4, t0.trans t4, q3⟩
        | ct ρb =>
          rw [eb] at q3
          exact fun σ4 H4 F4 t4 s4 => ⟨ρb, F4, s4, t0.trans t4, q3⟩
        | bk ρb =>
          rw [eb] at q3
          exact fun σ4 H4 F4 t4 s4 => q3 σ4 H4 F4 (t0.trans t4) s4
        | rt w fr ρb =>
          rw [eb] at q3
          exact RS.step (D := D) (o := .rt w fr ρb) (F1 := F1) q3 t0
        | ex x p ρb =>
          rw [eb] at q3
          exact RS.step (D := D) (o := .ex x p ρb) (F1 := F1) q3 t0
        | bad => rw [eb] at q3; exact q3.elim
end
end Py

namespace Py
open PySem PySem.Spec PyProof.Rows L2
variable [HW]
section
variable {X : Cx} {c : Cf} {a b d e tg : Expr} {ea eb ed eas : E} {pos p p2 pos2 : Pos} {x : Str}
/-! ### range(a, b, -1) -/
theorem rngD_len : ∀ (n : Nat) (a : Int), (rngD n a).length = n
  | 0, _ => rfl
  | n + 1, a => by simp [rngD, rngD_len n (a - 1)]
theorem rngD_get : ∀ (n : Nat) (a : Int) (i : Nat), i < n → (rngD n a)[i]? = some (.int (a + (i : Nat) * -1))
  | 0, _, _, h => by omega
  | n + 1, a, 0, _ => by simp [rngD]
  | n + 1, a, i + 1, h => by
    simp only [rngD, List.getElem?_cons_succ]
    rw [rngD_get n (a - 1) i (by omega)]
    congr 2
    omega
theorem itg_rngD {K : PySem.W.Frag} {σ : Sg} {ρ : Env} {H : Hp} {F : Addr → Prop} {lo : Int} {n : Nat} : ItG K σ ρ H F (Itc lo (-1) n) (rngD n lo) where
  go := fun i H2 F2 σ2 ρ2 st hi => by rw [rngD_len] at hi; exact hi
  yl := fun i H2 F2 σ2 ρ2 x H' st hi y => by
    obtain ⟨rfl, rfl⟩ := y
    rw [rngD_len] at hi
    exact ⟨_, rngD_get n lo i hi, .old (.int _)⟩
  st := fun i H2 F2 σ2 ρ2 st hi => by rw [rngD_len] at hi; exact hi
theorem i_rng3 (hg : Gl X "range") (hm : X.mg "range" = none) (hp : plainE a = true) (hp2 : plainE b = true) (hp3 : plainE d = true) (ha : PA X [a, b, d] (tXL c eas)) (h1 : ∀ ρ us ρ1, (ev c.C eas).a ρ = .ok us ρ1 → us.length = 3) : PI X tg (.Call (.Name "range" p) [a, b, d] [] pos) (tI c .rng eas) := by
  refine piImp (pi_range3 hg hm ha (star_cons _ hp _) (star_all _ _ (es := [b, d]) (by simp [hp2, hp3])).1) fun σ H R ⟨A, ρ, F, Pn, hs, q⟩ => ?_
  have hl := h1 ρ
  cases e0 : (ev c.C eas).a ρ with
  | bad => rw [e0] at q; exact q.elim
  | ex x pl ρ1 =>
    refine ⟨A, ρ, F, Pn, hs, ?_⟩
    rw [e0] at q ⊢; exact q
  | ok us ρ1 =>
    have hl := hl us ρ1 e0
    refine ⟨A, ρ, F, Pn, hs, ?_⟩
    rw [e0] at q ⊢
    intro vs H1 F1 st sr ar fr
    obtain ⟨its, e1, q1⟩ := q
    obtain ⟨ws, e2, e3⟩ := Option.bind_eq_some_iff.mp e1
    have m : Md c A σ ρ H F Pn us vs ρ1 H1 F1 := ⟨st, sr, ar, fr⟩
    have pk := m.pk e2
    match ws, pk, e3 with
    | [.int i, .int j, .int k], pk, e3 =>
      have e3 : (if (k = -1 ∧ i - j ≤ szL) ∧ (okR i && okR j) = true then some (rngD (i - j).toNat i) else none) = some its := e3
      by_cases z : (k = -1 ∧ i - j ≤ szL) ∧ (okR i && okR j) = true
      · rw [if_pos z] at e3
        obtain rfl := Option.some.inj e3
        obtain ⟨⟨rfl, _⟩, z2⟩ := z
        obtain ⟨a1, a2⟩ := Bool.and_eq_true_iff.mp z2
        obtain ⟨b1, b2⟩ := okR_of a1
        obtain ⟨b3, b4⟩ := okR_of a2
        match vs, pk, m with
        | [v1, v2, v3], .cons k1 (.cons k2 (.cons k3 .nil)), m =>
          exact ⟨i, j, -1, (i - j).toNat, by rw [k1.int, k2.int, k3.int], RgC.neg b1 b2 b3 b4, q1 _ _ H1 F1 m itg_rngD⟩
      · rw [if_neg z] at e3; cases e3
    | [.int i, .int j], pk, e3 =>
      have := m.ar.len
      have l2 := pk.length
      simp [hl] at this
      simp [← this] at l2
    | [.int j], pk, e3 =>
      have := m.ar.len
      have l2 := pk.length
      simp [hl] at this
      simp [← this] at l2

/-! ### list(range(..)) -/
theorem rgV_rel {K : PySem.W.Frag} {H : Hp} {F : Addr → Prop} : ∀ (n : Nat) (a : Int), HRs K H F ((List.range n).map fun i => V.int (a + (i : Nat))) (rngL n a)
  | 0, a => .nil
  | n + 1, a => by
    rw [List.range_succ_eq_map, List.map_cons, List.map_map]
    have e : ((fun i : Nat => V.int (a + (i : Nat))) ∘ Nat.succ) = fun i : Nat => V.int (a + 1 + (i : Nat)) := by
      funext i
      simp only [Function.comp]
      congr 1
      omega
    rw [e]
    have z : V.int (a + ((0 : Nat) : Int)) = V.int a := by simp
    rw [z]
    exact .cons (.int a) (rgV_rel n (a + 1))
theorem lrng_fin {A : Nat → Option Addr} {σ : Sg} {ρ ρ1 : Env} {H H1 : Hp} {F F1 : Addr → Prop} {Pn : List (Addr × W)} {us : List Arg} {vs : List V} {Q : VK} {i j : Int} (m : Md c A σ ρ H F Pn us vs ρ1 H1 F1) (h1 : okR i = true) (h2 : okR j = true) (h3 : j - i ≤ szL)
    (q : PX c A σ ρ H F Pn Q (.val (.lst (rngL (j - i).toNat i)) true) ρ1) : RgOk i j ∧ ∀ q, H1 q = none → Q (.ref q) (upd H1 q (.lst (rgV i j))) := by
  obtain ⟨b1, b2⟩ := okR_of h1
  obtain ⟨b3, b4⟩ := okR_of h2
  have hz : (j - i).toNat ≤ szL := by omega
  refine ⟨⟨b1, b2, b3, b4, hz⟩, fun r hr => m.fin (r := (.lst (rngL (j - i).toNat i), true)) q _ _ (.lst hr ?_ (rgV_rel _ _))⟩
  rw [rgV_length]; exact hz
theorem lr1_ok {ws : List W} {r : W × Bool} {w : W} (e : ws = [w]) (h : biW .lrng ws = some r) : ∃ j, w = .int j ∧ okR j = true ∧ j ≤ szL ∧ r = (.lst (rngL j.toNat 0), true) := by
  subst e
  cases w <;> first | (cases h; done) | skip
  rename_i j
  obtain ⟨its, e1, rfl⟩ := Option.map_eq_some_iff.mp h
  obtain ⟨z, rfl⟩ := of_if (show (if okR j = true ∧ j ≤ szL then some (rngL j.toNat 0) else none) = some its from e1)
  exact ⟨j, rfl, z.1, z.2, rfl⟩
theorem lr2_ok {ws : List W} {r : W × Bool} {w w2 : W} (e : ws = [w, w2]) (h : biW .lrng ws = some r) : ∃ i j, w = .int i ∧ w2 = .int j ∧ okR i = true ∧ okR j = true ∧ j - i ≤ szL ∧ r = (.lst (rngL (j - i).toNat i), true) := by
  subst e
  cases w <;> first | (cases h; done) | skip
  cases w2 <;> first | (cases h; done) | skip
  rename_i i j
  obtain ⟨its, e1, rfl⟩ := Option.map_eq_some_iff.mp h
  obtain ⟨z, rfl⟩ := of_if (show (if (okR i && okR j) = true ∧ j - i ≤ szL then some (rngL (j - i).toNat i) else none) = some its from e1)
  obtain ⟨a1, a2⟩ := Bool.and_eq_true_iff.mp z.1
  exact ⟨i, j, rfl, rfl, a1, a2, z.2, rfl⟩
theorem x_lrng1 (calm : X.calm = true) (hg : Gl X "list") (hm : X.mg "list" = none) (hg2 : Gl X "range") (hm2 : X.mg "range" = none) (hp : plainE a = true) (ha : PE X a (tX c ea)) :
    PE X (.Call (.Name "list" p) [.Call (.Name "range" p2) [a] [] pos2] [] pos) (tX c (.bi .lrng (.cons ea .nil))) := by
  refine peImp (pe_listRg calm hg hm (prg_1 hg2 hm2 ha (star_cons _ hp _)) (star_cons _ rfl _)) fun σ H Q ⟨A, ρ, F, Pn, hs, q⟩ => ?_
  have q : OkX ((((ev c.C ea).x ρ).bind fun u ρ1 => (Out.ok [u] ρ1 : Out (List Arg))).bind fun us ρ1 => lL (biW .lrng) us ρ1) (PX c A σ ρ H F Pn Q) (EX c A σ ρ H F Pn) := q
  refine tX_ofG (.nil hs) q.bind fun u v ρ1 H1 F1 m q1 => ?_
  obtain ⟨ws, r, e1, e2, q2⟩ := lL_ok q1
  have pk := m.pk e1
  match ws, pk, e2 with
  | [w], pk, e2 =>
    obtain ⟨j, rfl, k1, k2, rfl⟩ := lr1_ok rfl e2
    obtain ⟨_, e, p1⟩ := pk.one
    cases e
    exact ⟨j, p1.int, lrng_fin (i := 0) m (by decide) k1 (by omega) (by simpa using q2)⟩
theorem x_lrng2 (calm : X.calm = true) (hg : Gl X "list") (hm : X.mg "list" = none) (hg2 : Gl X "range") (hm2 : X.mg "range" = none) (hp : plainE a = true) (hp2 : plainE b = true) (ha : PE X a (tX c ea)) (hb : PE X b (tX c eb)) :
    PE X (.Call (.Name "list" p) [.Call (.Name "range" p2) [a, b] [] pos2] [] pos) (tX c (.bi .lrng (.cons ea (.cons eb .nil)))) := by
  refine peImp (pe_listRg calm hg hm (prg_2 hg2 hm2 ha hb (star_cons _ hp _) (star_cons _ hp2 _) (star_all _ _ (es := [b]) (by simp [hp2])).1) (star_cons _ rfl _)) fun σ H Q ⟨A, ρ, F, Pn, hs, q⟩ => ?_
  have q : OkX ((((ev c.C ea).x ρ).bind fun u ρ1 => (((ev c.C eb).x ρ1).bind fun u ρ1 => (Out.ok [u] ρ1 : Out (List Arg))).bind fun us ρ2 => Out.ok (u :: us) ρ2).bind fun us ρ1 => lL (biW .lrng) us ρ1) (PX c A σ ρ H F Pn Q) (EX c A σ ρ H F Pn) := q
  have q : OkX (((ev c.C ea).x ρ).bind fun u ρ1 => ((ev c.C eb).x ρ1).bind fun v ρ2 => lL (biW .lrng) [u, v] ρ2) (PX c A σ ρ H F Pn Q) (EX c A σ ρ H F Pn) := by
    cases e1 : (ev c.C ea).x ρ with
    | ok u ρ1 =>
      rw [e1] at q
      simp only [Out.bind_ok] at q ⊢
      cases e2 : (ev c.C eb).x ρ1 with
      | ok v ρ2 => rw [e2] at q; exact q
      | ex x y ρ2 => rw [e2] at q; exact q
      | bad => rw [e2] at q; exact q
    | ex x y ρ1 => rw [e1] at q; exact q
    | bad => rw [e1] at q; exact q
  refine tX_of (.nil hs) q fun u v ρ1 H1 F1 m q1 => tX_of m q1 fun u' v' ρ2 H2 F2 m2 q2 => ?_
  obtain ⟨ws, r, e1, e2, q3⟩ := lL_ok q2
  have pk := m2.pk e1
  match ws, pk, e2 with
  | [w, w2], pk, e2 =>
    obtain ⟨i, j, rfl, rfl, k1, k2, k3, rfl⟩ := lr2_ok rfl e2
    obtain ⟨_, _, e, p1, p2⟩ := pk.two
    cases e
    exact ⟨i, j, p1.int, p2.int, lrng_fin m2 k1 k2 k3 q3⟩

/-! ### constants of the text's top -/
def vOf : Value → V
  | .int i _ => .int i
  | .str s _ => .str s
  | .bool b => .bl b
  | .ref a => .ref a
  | _ => .non
def s8Ok (s : Cs) : Bool := decide (s.length ≤ szL) && PyData.strOk (S8 s)
mutual
def conOk (K : PySem.W.Frag) (u : Value) : W → Bool
  | .non => decide (u = .none)
  | .bl b => decide (u = .bool b)
  | .int i => (match u with
    | .int j _ => decide (j = i)
    | _ => false)
  | .str s => (match u with
    | .str z _ => decide (z = S8 s) && s8Ok s
    | _ => false)
  | .tup ws => (match u with
    | .ref a => (match K.lookup a with
      | some ⟨.type "tuple", _, .seq its _, _⟩ => decide (its.size ≤ sizeLine) && consOk K its.toList ws
      | _ => false)
    | _ => false)
  | _ => false
def consOk (K : PySem.W.Frag) (us : List Value) : List W → Bool
  | [] => us.isEmpty
  | w :: ws => (match us with
    | u :: us => conOk K u w && consOk K us ws
    | [] => false)
end
mutual
theorem conOk_ok {K : PySem.W.Frag} {H : Hp} {F : Addr → Prop} : ∀ {w : W} {u : Value}, conOk K u w = true → HR K H F (vOf u) w ∧ RelV (vOf u) u
  | .non, u, h => by
    have e : u = .none := of_decide_eq_true h
    subst e; exact ⟨.non, rfl⟩
  | .bl b, u, h => by
    have e : u = .bool b := of_decide_eq_true h
    subst e; exact ⟨.bl b, rfl⟩
  | .int i, u, h => by
    cases u <;> first | (cases h; done) | skip
    rename_i j t
    have e : j = i := of_decide_eq_true h
    subst e; exact ⟨.int j, t, rfl⟩
  | .str s, u, h => by
    cases u <;> first | (cases h; done) | skip
    rename_i z t
    obtain ⟨e, h2⟩ := Bool.and_eq_true_iff.mp (show (decide (z = S8 s) && s8Ok s) = true from h)
    have e : z = S8 s := of_decide_eq_true e
    subst e
    obtain ⟨k1, k2⟩ := Bool.and_eq_true_iff.mp h2
    exact ⟨.str s (of_decide_eq_true k1) k2, t, rfl⟩
  | .tup ws, u, h => by
    cases u <;> first | (cases h; done) | skip
    rename_i a
    simp only [conOk] at h
    split at h
    · rename_i od its n sl e
      obtain ⟨k1, k2⟩ := Bool.and_eq_true_iff.mp h
      have k1 := of_decide_eq_true k1
      obtain ⟨r1, r2⟩ := consOk_ok (H := H) (F := F) k2
      refine ⟨.tup (.inr ⟨_, its, n, e, rfl, rfl, k1, r2⟩) ?_ r1, rfl⟩
      have := r2.length
      rw [this, Array.length_toList]
      exact k1
    · cases h
  | .lst _, u, h => by cases h
  | .dct _, u, h => by cases h
  | .st _, u, h => by cases h
theorem consOk_ok {K : PySem.W.Frag} {H : Hp} {F : Addr → Prop} : ∀ {ws : List W} {us : List Value}, consOk K us ws = true → HRs K H F (us.map vOf) ws ∧ Vals (us.map vOf) us
  | [], us, h => by
    cases us with
    | nil => exact ⟨.nil, .nil⟩
    | cons _ _ => cases h
  | w :: ws, us, h => by
    cases us with
    | nil => cases h
    | cons u us =>
      obtain ⟨k1, k2⟩ := Bool.and_eq_true_iff.mp (show (conOk K u w && consOk K us ws) = true from h)
      obtain ⟨a1, a2⟩ := conOk_ok (H := H) (F := F) k1
      obtain ⟨b1, b2⟩ := consOk_ok (H := H) (F := F) k2
      exact ⟨.cons a1 b1, .cons a2 b2⟩
end
def gconOk (K : PySem.W.Frag) (p : Str × W) : Bool := match PySem.W.nsIn K mainGlobals p.1 with
  | some (some u) => conOk K u p.2
  | _ => false
theorem gcon_ok {K : PySem.W.Frag} {h : Heap} {mg : Str → Option Value} {p : Str × W} (kh : K.In h) (G : h.Ns mainGlobals mg) (q : gconOk K p = true) : ∃ u, mg p.1 = some u ∧ conOk K u p.2 = true := by
  unfold gconOk at q
  split at q
  · rename_i u e
    exact ⟨u, PySem.W.mg_of kh G e, q⟩
  · cases q
theorem x_glob {w : W} {u : Value} (hc : c.K = X.K) (hg : Gl X x) (hm : X.mg x = some u) (h : conOk X.K u w = true) (hd : (x == ("__debug__" : Str)) = false) : PE X (.Name x pos) (tX c (.con w)) :=
  x_con (pe_glob hg hm (conOk_ok (H := fun _ => none) (F := fun _ => False) h).2 hd) fun H F => by rw [hc]; exact (conOk_ok h).1
end
end Py

namespace Py
open PySem PySem.Spec PyProof.Rows L2
variable [HW]
/-! ### the text's defs -/
structure Info where
  d : He.DefD
  ps : List Str
  N : List Str
  fd : FD
def Good (K : PySem.W.Frag) (I : Info) (fdat : FuncData) : Prop := FunD K I.d.name I.d.qual I.d.params I.d.body I.d.scope [] [] (He.ga K I.d.name) fdat ∧ Binds K fdat I.ps []
structure Wd where
  P : Program
  w : World
  K : PySem.W.Frag
  mg : Str → Option Value
  base : Heap
  tk : Tk
  cls : Nat → Value
  g : Nat
def Wd.fn (Z : Wd) (fs : List Info) (d : Nat) : Fn := run (fs.map Info.fd) Z.tk Z.g d
def Wd.cf (Z : Wd) (fs : List Info) (d : Nat) (E : XK) : Cf := { K := Z.K, cls := Z.cls, wx := fun cls d _ H => E cls d H, C := Z.fn fs d }
def Wd.X (Z : Wd) (I : Info) (cdv : Value) (A : Around) (outer : List PySem.Env) (s : Shared) (H : Hp) (E : XK) : Cx := cxOf (L2.CX Z.P Z.w) Z.P Z.w Z.K Z.mg Z.base I.N I.d.qual I.d.scope (He.ga Z.K I.d.name) cdv A outer s H E
structure Gs (fs : List Info) (Z : Wd) (bn : List Str) (cs : List (Str × W)) : Prop where
  f : ∀ (j : Nat) (I : Info), fs[j]? = some I → ∃ fdat, Good Z.K I fdat ∧ Z.mg I.d.name = some (.ref (He.ga Z.K I.d.name))
  b : ∀ x ∈ bn, Z.mg x = none
  h : HW.P = Z.P ∧ HW.w = Z.w
  c : ∀ p ∈ cs, ∃ u, Z.mg p.1 = some u ∧ conOk Z.K u p.2 = true
structure InfoOk (I : Info) : Prop where
  S : FnScope I.N I.ps I.d.scope
  n : I.N.length = I.fd.n
  m : I.fd.m.length = I.ps.length
  le : I.fd.m.length ≤ I.fd.n
def OkAt (fs : List Info) (Z : Wd) (d : Nat) : Prop := ∀ (j : Nat) (I : Info) fdat, fs[j]? = some I → Good Z.K I fdat →
  FnOk Z.P Z.w Z.K Z.mg Z.base (L2.CX Z.P Z.w) d (He.ga Z.K I.d.name) fdat I.ps (spF Z.K Z.cls (Z.fn fs d) I.fd I.N j)
structure Bd (fs : List Info) (Z : Wd) (bn : List Str) (cs : List (Str × W)) (d : Nat) (c : Cf) (X : Cx) : Prop where
  G : Gs fs Z bn cs
  O : OkAt fs Z d
  I : ∀ (j : Nat) (I : Info), fs[j]? = some I → InfoOk I
  eP : X.prog = Z.P
  ew : X.w = Z.w
  eK : X.K = Z.K
  em : X.mg = Z.mg
  eb : X.base = Z.base
  cK : c.K = Z.K
  cc : c.cls = Z.cls
  cC : c.C = Z.fn fs d
  room : Room d X.A
  tk : Takes X c.wx
  calm : X.calm = true
  nd : X.N.Nodup
  po : PassesOwn (model X.prog X.w) X.A X.env X.xe
section
variable {fs : List Info} {Z : Wd} {bn : List Str} {cs : List (Str × W)} {d : Nat} {c : Cf} {X : Cx}
theorem Bd.hc (B : Bd fs Z bn cs d c X) : c.K = X.K := B.cK.trans B.eK.symm
theorem Bd.hw (B : Bd fs Z bn cs d c X) : HW.P = X.prog ∧ HW.w = X.w := ⟨B.G.h.1.trans B.eP.symm, B.G.h.2.trans B.ew.symm⟩
theorem Bd.hu (B : Bd fs Z bn cs d c X) : X.A.units + 200 < cLine := by have := B.room.un; omega
theorem Bd.blk (B : Bd fs Z bn cs d c X) (s : Shared) (H : Hp) (scope : Scope) (cenv : PySem.Env) (fp : List Addr) : Bd fs Z bn cs d c.nox (X.blk s H scope cenv fp) :=
  ⟨B.G, B.O, B.I, B.eP, B.ew, B.eK, B.em, B.eb, B.cK, B.cc, B.cC, B.room, takes0, B.calm, B.nd, PassesOwn.never⟩
theorem Bd.mb (B : Bd fs Z bn cs d c X) {x : Str} (h : x ∈ bn) : X.mg x = none := by rw [B.em]; exact B.G.b x h
/-- f(..) -/
theorem b_call {e : Expr} {es : List Expr} {eas : E} {x : Str} {p pos : Pos} (B : Bd fs Z bn cs d c X) (j : Nat) {I : Info} (hI : fs[j]? = some I) (hx : I.d.name = x) (hg : Gl X x) (hdb : (x == ("__debug__" : Str)) = false)
    (hp : (e :: es).all plainE = true) (ha : PA X (e :: es) (tXL c eas)) : PE X (.Call (.Name x p) (e :: es) [] pos) (tX c (.call j I.fd.m eas)) := by
  obtain ⟨fdat, hG, hm⟩ := B.G.f j I hI
  have F := B.O j I fdat hI hG
  have ok := B.I j I hI
  have r := B.room
  have t := B.tk
  obtain ⟨P, w, K, mg, base, A⟩ := X
  obtain ⟨K', cls, wx, C⟩ := c
  obtain rfl := B.eP
  obtain rfl := B.ew
  obtain rfl := B.eK
  obtain rfl := B.em
  obtain rfl := B.eb
  have e1 := B.cK
  have e2 := B.cc
  have e3 := B.cC
  dsimp only at e1 e2 e3
  subst e1 e2 e3 hx
  exact x_call rfl t F r hg hm hG.1.kp hG.2 hdb ok.le ok.n hp ha
theorem env0_io {fd : FD} {ws : List W} {i : Nat} {w : W} {f : Fl} (e : (env0 fd ws)[i]? = some (some (w, f))) : f = .sh ∨ f = .io := by
  unfold env0 at e
  rcases Nat.lt_or_ge i ((ws.zip fd.m).map (fun p => some (p.1, if p.2 then Fl.io else Fl.sh))).length with h | h
  · rw [List.getElem?_append_left h, List.getElem?_map] at e
    obtain ⟨q, _, e⟩ := Option.map_eq_some_iff.mp e
    cases e
    split <;> simp
  · rw [List.getElem?_append_right h, List.getElem?_replicate] at e
    split at e <;> cases e
theorem body_start {I : Info} {j : Nat} {vs : List V} {H : Hp} {Q : VK} {E : XK} (hI : fs[j]? = some I) (hsp : spF Z.K Z.cls (Z.fn fs (d + 1)) I.fd I.N j vs H Q E) :
    tS (Z.cf fs d E) Z.tk Z.g I.fd.b { nx := fun _ H' => Q .non H', rt := Q } (start I.N vs) H := by
  obtain ⟨hl, A, F, ws, hw, sr, q⟩ := hsp
  have e : Z.fn fs (d + 1) j ws = ofS I.fd (xs (Z.fn fs d) Z.tk Z.g I.fd.b (env0 I.fd ws)) := by
    have e0 : (fs.map Info.fd)[j]? = some I.fd := by rw [List.getElem?_map, hI]; rfl
    show (match (fs.map Info.fd)[j]? with
      | none => CO.bad
      | some fd => if ws.length = fd.m.length then ofS fd (xs (run (fs.map Info.fd) Z.tk Z.g d) Z.tk Z.g fd.b (env0 fd ws)) else .bad) = _
    rw [e0]
    simp only [hw, if_true]
    rfl
  rw [e] at q
  refine ⟨A, env0 I.fd ws, F, [], sr, ?_⟩
  show RS (Z.cf fs d E) A (start I.N vs) (env0 I.fd ws) H F [] _ (xs (Z.fn fs d) Z.tk Z.g I.fd.b (env0 I.fd ws))
  cases e2 : xs (Z.fn fs d) Z.tk Z.g I.fd.b (env0 I.fd ws) with
  | nx ρ' =>
    rw [e2] at q
    simp only [ofS] at q
    cases e3 : ioE ρ' 0 I.fd.m with
    | none => rw [e3] at q; exact q.elim
    | some ios =>
      rw [e3] at q
      exact fun σ' H' F' st s => q .non H' F' σ' ρ' st (show SRel Z.K A σ' ρ' H' F' (pnd (.val .non false) .non) from s) e3 (fun h => nomatch h) fun _ => .non
  | rt w fr ρ' =>
    rw [e2] at q
    simp only [ofS] at q
    cases e3 : ioE ρ' 0 I.fd.m with
    | none => rw [e3] at q; exact q.elim
    | some ios =>
      rw [e3] at q
      refine fun v σ' H' F' st s a b => q v H' F' σ' ρ' st (by rw [List.append_nil] at s; exact s) e3 (fun h => ?_) b
      obtain ⟨a, ea, z⟩ := a h
      refine ⟨a, ea, z.resolve_right ?_⟩
      rintro ⟨i, w', f', e', n', _⟩
      rcases env0_io e' with rfl | rfl <;> rcases n' with n' | n' <;> cases n'
  | ex x p ρ' =>
    rw [e2] at q
    simp only [ofS] at q
    cases e3 : ioE ρ' 0 I.fd.m with
    | none => rw [e3] at q; exact q.elim
    | some ios =>
      rw [e3] at q
      exact fun σ' H' F' d st s a => q H' F' σ' ρ' d st s e3 a
  | bk ρ' => rw [e2] at q; exact q.elim
  | ct ρ' => rw [e2] at q; exact q.elim
  | bad => rw [e2] at q; exact q.elim
/-- every def keeps its promise -/
theorem okAt (G : Gs fs Z bn cs) (HI : ∀ (j : Nat) (I : Info), fs[j]? = some I → InfoOk I)
    (bodies : ∀ (j : Nat) (I : Info), fs[j]? = some I → ∀ d cdv A outer s H E, Bd fs Z bn cs d (Z.cf fs d E) (Z.X I cdv A outer s H E) → PSs (Z.X I cdv A outer s H E) I.d.body (tS (Z.cf fs d E) Z.tk Z.g I.fd.b)) : ∀ d, OkAt fs Z d
  | 0 => fun j I fdat hI hG => ⟨fun vs H Q E h => h.1.trans (HI j I hI).m, fun A outer s H args us vs Q E hr e0 hb r hsp => by
    obtain ⟨_, _, _, _, _, _, q⟩ := hsp
    exact q.elim⟩
  | d + 1 => fun j I fdat hI hG => FunD.ok hG.1 (HI j I hI).S (fun vs H Q E h => h.1.trans (HI j I hI).m) fun cdv A outer s H vs Q E hr hsp =>
    ⟨tS (Z.cf fs d E) Z.tk Z.g I.fd.b, bodies j I hI d cdv A outer s H E ⟨G, okAt G HI bodies d, HI, rfl, rfl, rfl, rfl, rfl, rfl, rfl, rfl, hr, takes_of rfl rfl rfl rfl, rfl, (HI j I hI).S.nd, passes_of (K := fun e s'' => L2.CX Z.P Z.w outer H s E e s'') rfl⟩, body_start hI hsp⟩
end
end Py

namespace Py
open PySem PySem.Spec PyProof.Rows L2
variable [HW]
/-! ### the rules in short -/
section
variable {fs : List Info} {Z : Wd} {bn : List Str} {cs : List (Str × W)} {d : Nat} {c : Cf} {X : Cx} {tk : Tk} {g : Nat}
variable {e a b tg iter elt : Expr} {ea eb eas ee et : E} {pos p p2 : Pos} {x : Str} {es : List Expr}
theorem t_var {i : Nat} (B : Bd fs Z bn cs d c X) (h : PE X (.Name x pos) (tX c (.var i))) : PT X (.Name x pos) (tXB c (.var i)) :=
  t_plain B.hc h (fun ρ => by
    show trO ((wOf ρ i).map (·.1)) ρ = (match wOf ρ i with | some _ => Out.ok (Arg.slot i) ρ | none => .bad).bind fun u ρ1 => trO (res ρ1 u) ρ1
    cases q : wOf ρ i with
    | none => rfl
    | some y => simp only [Out.bind_ok, res, q]) fun _ => rfl
theorem x_int {i : Int} {j} : PE X (.Constant (.int i) j pos) (tX c (.con (.int i))) := x_con pe_int fun _ _ => .int i
theorem x_bl {b : Bool} {j} : PE X (.Constant (.bool b) j pos) (tX c (.con (.bl b))) := x_con pe_bl fun _ _ => .bl b
theorem x_non {j} : PE X (.Constant .none j pos) (tX c (.con .non)) := x_con pe_non fun _ _ => .non
theorem x_str {z : Str} {s : Cs} {j} (h : (z == S8 s && s8Ok s) = true) : PE X (.Constant (.str z) j pos) (tX c (.con (.str s))) := by
  obtain ⟨h1, h2⟩ := Bool.and_eq_true_iff.mp h
  obtain rfl : z = S8 s := eq_of_beq h1
  obtain ⟨k1, k2⟩ := Bool.and_eq_true_iff.mp h2
  exact x_con pe_str fun _ _ => .str s (of_decide_eq_true k1) k2
theorem x_bad : PE X e (tX c .bad) := ⟨fun pins s σ H Q I ⟨A, ρ, F, Pn, hs, q⟩ => q.elim⟩
theorem t_bad : PT X e (tXB c .bad) := ⟨fun pins s σ H Q I ⟨A, ρ, F, Pn, hs, q⟩ => q.elim⟩
theorem pts_no : PTs X [] (tXB c .nil) := ⟨fun pins s σ H Q I ⟨A, ρ, F, Pn, hs, q⟩ => pts_nil.run pins s σ H Q I (q H F .refl hs)⟩
def blkB (N : List Str) (sc scope : Scope) (own : List (Str × Nat)) (p : Pt) : Bool :=
  (decide (scope.kind = .function) && (scope.names.all fun y => decide (scope.names.lookup y.1 = some y.2)) && (own.all fun q => decide (N[q.2]? = some q.1)) &&
    (scope.names.all fun y => !decide (y.2 = .free) || (decide (sc.names.lookup y.1 = some .cell) || decide (sc.names.lookup y.1 = some .free))) &&
    (scope.names.all fun y => !(decide (y.2 = .local) || decide (y.2 = .cell)) || (decide (y.1 ∈ own.map (·.1)) || decide (y.1 ∉ N)))) &&
  (decide (own.map (·.2)).Nodup && decide (∀ j ∈ p.ns, j ∈ own.map (·.2)))
theorem blkB_ok {N : List Str} {sc scope : Scope} {own : List (Str × Nat)} {p : Pt} (h : blkB N sc scope own p = true) : BlkOk N sc scope own ∧ (own.map (·.2)).Nodup ∧ ∀ j ∈ p.ns, j ∈ own.map (·.2) := by
  simp only [blkB, Bool.and_eq_true, decide_eq_true_eq, List.all_eq_true, Bool.or_eq_true, Bool.not_eq_true', decide_eq_false_iff_not] at h
  obtain ⟨⟨⟨⟨⟨h1, h2⟩, h3⟩, h4⟩, h5⟩, h6, h7⟩ := h
  exact ⟨⟨h1, h2, h3, fun y hy k => (h4 y hy).resolve_left fun z => z k, fun y hy k => (h5 y hy).resolve_left fun z => by simp at z; exact k.elim z.1 z.2⟩, h6, h7⟩
theorem b_lc {scope : Scope} {ownN : List (Str × Nat)} {k : IK} {p : Pt} {ifs : List Expr} (B : Bd fs Z bn cs d c X) (own : List Nat) (ho : ownN.map (·.2) = own) (hb : blkB X.N X.env.scope scope ownN p = true) (hi : PI X tg iter (tI c k eas))
    (hg : ∀ (s : Shared) (H : Hp) (C : Addr) (cl : List (Str × Addr)) (fp : List Addr), Bd fs Z bn cs d c.nox (X.blk s H scope (compEnvC scope cl C X.env) fp) → PG (X.blk s H scope (compEnvC scope cl C X.env) fp) tg (gP X.K p))
    (ht : ∀ (s : Shared) (H : Hp) (C : Addr) (cl : List (Str × Addr)) (fp : List Addr), Bd fs Z bn cs d c.nox (X.blk s H scope (compEnvC scope cl C X.env) fp) → PTs (X.blk s H scope (compEnvC scope cl C X.env) fp) ifs (tXB c.nox et))
    (he : ∀ (s : Shared) (H : Hp) (C : Addr) (cl : List (Str × Addr)) (fp : List Addr), Bd fs Z bn cs d c.nox (X.blk s H scope (compEnvC scope cl C X.env) fp) → PE (X.blk s H scope (compEnvC scope cl C X.env) fp) elt (tX c.nox ee)) (hf : ∀ x, foldedSetIterable iter X.env x = pure x) :
    PE X (.ListComp elt [⟨tg, iter, ifs, 0⟩] scope pos) (tX c (.lc ee p et k eas own)) := by
  subst ho
  obtain ⟨b1, b2, b3⟩ := blkB_ok hb
  exact x_lc B.hc B.calm B.nd hi b1 b2 b3 (fun s H C cl fp => hg s H C cl fp (B.blk ..)) (fun s H C cl fp => ht s H C cl fp (B.blk ..)) (fun s H C cl fp => he s H C cl fp (B.blk ..)) hf
theorem b_asnLc {i : Nat} {py : Pos} {scope : Scope} {ownN : List (Str × Nat)} {k : IK} {q : Pt} {ifs : List Expr} (B : Bd fs Z bn cs d c X) (own : List Nat) (ho : ownN.map (·.2) = own) (hb : blkB X.N X.env.scope scope ownN q = true)
    (hy : X.N[i]? = some x) (hyl : X.env.scope.names.lookup x = some .local) (hsw : swapsWith (.ListComp elt [⟨tg, iter, ifs, 0⟩] scope p) (some (.Name x py)) pos.line X.env = pure true) (hi : PI X tg iter (tI c k eas))
    (hg : ∀ (s : Shared) (H : Hp) (C : Addr) (cl : List (Str × Addr)) (fp : List Addr), Bd fs Z bn cs d c.nox (X.blk s H scope (compEnvC scope cl C X.env) fp) → PG (X.blk s H scope (compEnvC scope cl C X.env) fp) tg (gP X.K q))
    (ht : ∀ (s : Shared) (H : Hp) (C : Addr) (cl : List (Str × Addr)) (fp : List Addr), Bd fs Z bn cs d c.nox (X.blk s H scope (compEnvC scope cl C X.env) fp) → PTs (X.blk s H scope (compEnvC scope cl C X.env) fp) ifs (tXB c.nox et))
    (he : ∀ (s : Shared) (H : Hp) (C : Addr) (cl : List (Str × Addr)) (fp : List Addr), Bd fs Z bn cs d c.nox (X.blk s H scope (compEnvC scope cl C X.env) fp) → PE (X.blk s H scope (compEnvC scope cl C X.env) fp) elt (tX c.nox ee)) (hf : ∀ x, foldedSetIterable iter X.env x = pure x) :
    PS X (.Assign [.Name x py] (.ListComp elt [⟨tg, iter, ifs, 0⟩] scope p) pos) (tS c tk g (.asn i (.lc ee q et k eas own))) := by
  subst ho
  obtain ⟨b1, b2, b3⟩ := blkB_ok hb
  exact s_asnLc B.hc B.calm B.nd hy hyl hsw hi b1 b2 b3 (fun s H C cl fp => hg s H C cl fp (B.blk ..)) (fun s H C cl fp => ht s H C cl fp (B.blk ..)) (fun s H C cl fp => he s H C cl fp (B.blk ..)) hf
theorem b_lc2 {tg1 iter1 : Expr} {et1 es1 : E} {scope : Scope} {ownN : List (Str × Nat)} {k k1 : IK} {q p1 : Pt} {ifs ifs1 : List Expr} (B : Bd fs Z bn cs d c X) (own : List Nat) (ho : ownN.map (·.2) = own) (hb : (blkB X.N X.env.scope scope ownN q && (decide p1.ns.Nodup && decide (∀ j ∈ p1.ns, j ∈ ownN.map (·.2)))) = true)
    (hi : PI X tg iter (tI c k eas))
    (hg : ∀ (s : Shared) (H : Hp) (C : Addr) (cl : List (Str × Addr)) (fp : List Addr), Bd fs Z bn cs d c.nox (X.blk s H scope (compEnvC scope cl C X.env) fp) → PG (X.blk s H scope (compEnvC scope cl C X.env) fp) tg (gP X.K q))
    (ht : ∀ (s : Shared) (H : Hp) (C : Addr) (cl : List (Str × Addr)) (fp : List Addr), Bd fs Z bn cs d c.nox (X.blk s H scope (compEnvC scope cl C X.env) fp) → PTs (X.blk s H scope (compEnvC scope cl C X.env) fp) ifs (tXB c.nox et))
    (hi1 : ∀ (s : Shared) (H : Hp) (C : Addr) (cl : List (Str × Addr)) (fp : List Addr), Bd fs Z bn cs d c.nox (X.blk s H scope (compEnvC scope cl C X.env) fp) → PI (X.blk s H scope (compEnvC scope cl C X.env) fp) tg1 iter1 (tIF c.nox k1 es1))
    (hg1 : ∀ (s : Shared) (H : Hp) (C : Addr) (cl : List (Str × Addr)) (fp : List Addr), Bd fs Z bn cs d c.nox (X.blk s H scope (compEnvC scope cl C X.env) fp) → PG (X.blk s H scope (compEnvC scope cl C X.env) fp) tg1 (gP X.K p1))
    (ht1 : ∀ (s : Shared) (H : Hp) (C : Addr) (cl : List (Str × Addr)) (fp : List Addr), Bd fs Z bn cs d c.nox (X.blk s H scope (compEnvC scope cl C X.env) fp) → PTs (X.blk s H scope (compEnvC scope cl C X.env) fp) ifs1 (tXB c.nox et1))
    (he : ∀ (s : Shared) (H : Hp) (C : Addr) (cl : List (Str × Addr)) (fp : List Addr), Bd fs Z bn cs d c.nox (X.blk s H scope (compEnvC scope cl C X.env) fp) → PE (X.blk s H scope (compEnvC scope cl C X.env) fp) elt (tX c.nox ee)) (hf : ∀ x, foldedSetIterable iter X.env x = pure x) (hf1 : ∀ env x, foldedSetIterable iter1 env x = pure x) :
    PE X (.ListComp elt [⟨tg, iter, ifs, 0⟩, ⟨tg1, iter1, ifs1, 0⟩] scope pos) (tX c (.lc2 ee q et k eas p1 et1 k1 es1 own)) := by
  subst ho
  obtain ⟨hb, hb2⟩ := Bool.and_eq_true_iff.mp hb
  obtain ⟨hb2, hb3⟩ := Bool.and_eq_true_iff.mp hb2
  obtain ⟨b1, b2, b3⟩ := blkB_ok hb
  exact x_lc2 B.hc B.calm B.nd hi b1 b2 (of_decide_eq_true hb2) b3 (of_decide_eq_true hb3) (fun s H C cl fp => hg s H C cl fp (B.blk ..)) (fun s H C cl fp => ht s H C cl fp (B.blk ..)) (fun s H C cl fp => hi1 s H C cl fp (B.blk ..)) (fun s H C cl fp => hg1 s H C cl fp (B.blk ..)) (fun s H C cl fp => ht1 s H C cl fp (B.blk ..)) (fun s H C cl fp => he s H C cl fp (B.blk ..)) hf hf1
theorem b_asnLc2 {i : Nat} {py : Pos} {tg1 iter1 : Expr} {et1 es1 : E} {scope : Scope} {ownN : List (Str × Nat)} {k k1 : IK} {q p1 : Pt} {ifs ifs1 : List Expr} (B : Bd fs Z bn cs d c X) (own : List Nat) (ho : ownN.map (·.2) = own) (hb : (blkB X.N X.env.scope scope ownN q && (decide p1.ns.Nodup && decide (∀ j ∈ p1.ns, j ∈ ownN.map (·.2)))) = true)
    (hy : X.N[i]? = some x) (hyl : X.env.scope.names.lookup x = some .local) (hsw : swapsWith (.ListComp elt [⟨tg, iter, ifs, 0⟩, ⟨tg1, iter1, ifs1, 0⟩] scope p) (some (.Name x py)) pos.line X.env = pure true) (hi : PI X tg iter (tI c k eas))
    (hg : ∀ (s : Shared) (H : Hp) (C : Addr) (cl : List (Str × Addr)) (fp : List Addr), Bd fs Z bn cs d c.nox (X.blk s H scope (compEnvC scope cl C X.env) fp) → PG (X.blk s H scope (compEnvC scope cl C X.env) fp) tg (gP X.K q))
    (ht : ∀ (s : Shared) (H : Hp) (C : Addr) (cl : List (Str × Addr)) (fp : List Addr), Bd fs Z bn cs d c.nox (X.blk s H scope (compEnvC scope cl C X.env) fp) → PTs (X.blk s H scope (compEnvC scope cl C X.env) fp) ifs (tXB c.nox et))
    (hi1 : ∀ (s : Shared) (H : Hp) (C : Addr) (cl : List (Str × Addr)) (fp : List Addr), Bd fs Z bn cs d c.nox (X.blk s H scope (compEnvC scope cl C X.env) fp) → PI (X.blk s H scope (compEnvC scope cl C X.env) fp) tg1 iter1 (tIF c.nox k1 es1))
    (hg1 : ∀ (s : Shared) (H : Hp) (C : Addr) (cl : List (Str × Addr)) (fp : List Addr), Bd fs Z bn cs d c.nox (X.blk s H scope (compEnvC scope cl C X.env) fp) → PG (X.blk s H scope (compEnvC scope cl C X.env) fp) tg1 (gP X.K p1))
    (ht1 : ∀ (s : Shared) (H : Hp) (C : Addr) (cl : List (Str × Addr)) (fp : List Addr), Bd fs Z bn cs d c.nox (X.blk s H scope (compEnvC scope cl C X.env) fp) → PTs (X.blk s H scope (compEnvC scope cl C X.env) fp) ifs1 (tXB c.nox et1))
    (he : ∀ (s : Shared) (H : Hp) (C : Addr) (cl : List (Str × Addr)) (fp : List Addr), Bd fs Z bn cs d c.nox (X.blk s H scope (compEnvC scope cl C X.env) fp) → PE (X.blk s H scope (compEnvC scope cl C X.env) fp) elt (tX c.nox ee)) (hf : ∀ x, foldedSetIterable iter X.env x = pure x) (hf1 : ∀ env x, foldedSetIterable iter1 env x = pure x) :
    PS X (.Assign [.Name x py] (.ListComp elt [⟨tg, iter, ifs, 0⟩, ⟨tg1, iter1, ifs1, 0⟩] scope p) pos) (tS c tk g (.asn i (.lc2 ee q et k eas p1 et1 k1 es1 own))) := by
  subst ho
  obtain ⟨hb, hb2⟩ := Bool.and_eq_true_iff.mp hb
  obtain ⟨hb2, hb3⟩ := Bool.and_eq_true_iff.mp hb2
  obtain ⟨b1, b2, b3⟩ := blkB_ok hb
  exact s_asnLc2 B.hc B.calm B.nd hy hyl hsw hi b1 b2 (of_decide_eq_true hb2) b3 (of_decide_eq_true hb3) (fun s H C cl fp => hg s H C cl fp (B.blk ..)) (fun s H C cl fp => ht s H C cl fp (B.blk ..)) (fun s H C cl fp => hi1 s H C cl fp (B.blk ..)) (fun s H C cl fp => hg1 s H C cl fp (B.blk ..)) (fun s H C cl fp => ht1 s H C cl fp (B.blk ..)) (fun s H C cl fp => he s H C cl fp (B.blk ..)) hf hf1
theorem b_for {s : S} {k : IK} {q : Pt} {body : List Stmt} (B : Bd fs Z bn cs d c X) (hi : PI X tg iter (tI c k eas)) (hg : PG X tg (gP X.K q)) (hb : PSs X body (tS c tk g s)) (hf : ∀ x, foldedSetIterable iter X.env x = pure x) :
    PS X (.For tg iter body [] pos) (tS c tk g (.for_ q k eas s)) := s_for B.hc B.po B.calm hi hg hb hf
/-- lengths of argument lists -/
def arity : E → Nat
  | .cons _ b => arity b + 1
  | _ => 0
theorem arity_ok {C : Fn} : ∀ {e : E} {n : Nat}, arity e = n → (∀ ρ us ρ1, (ev C e).a ρ = .ok us ρ1 → us.length = n)
  | .nil, n, h => by
    intro ρ us ρ1 e
    cases e
    exact h
  | .cons a b, n, h => by
    intro ρ us ρ1 e
    have e : (((ev C a).x ρ).bind fun u ρ1 => ((ev C b).a ρ1).bind fun us ρ2 => Out.ok (u :: us) ρ2) = .ok us ρ1 := e
    obtain ⟨u, ρ2, e1, e⟩ := bind_ok e
    obtain ⟨us', ρ3, e2, e⟩ := bind_ok e
    cases e
    simp only [List.length_cons, arity_ok rfl _ _ _ e2]
    exact h
  | .bad, n, h => fun ρ us ρ1 e => by cases e
  | .var _, n, h => fun ρ us ρ1 e => by cases e
  | .con _, n, h => fun ρ us ρ1 e => by cases e
  | .op .., n, h => fun ρ us ρ1 e => by cases e
  | .neg .., n, h => fun ρ us ρ1 e => by cases e
  | .cmp .., n, h => fun ρ us ρ1 e => by cases e
  | .cmp2 .., n, h => fun ρ us ρ1 e => by cases e
  | .and .., n, h => fun ρ us ρ1 e => by cases e
  | .or .., n, h => fun ρ us ρ1 e => by cases e
  | .not .., n, h => fun ρ us ρ1 e => by cases e
  | .ite .., n, h => fun ρ us ρ1 e => by cases e
  | .tup .., n, h => fun ρ us ρ1 e => by cases e
  | .lst .., n, h => fun ρ us ρ1 e => by cases e
  | .dsp .., n, h => fun ρ us ρ1 e => by cases e
  | .ix .., n, h => fun ρ us ρ1 e => by cases e
  | .slc .., n, h => fun ρ us ρ1 e => by cases e
  | .call .., n, h => fun ρ us ρ1 e => by cases e
  | .bi .., n, h => fun ρ us ρ1 e => by cases e
  | .mth .., n, h => fun ρ us ρ1 e => by cases e
  | .isi .., n, h => fun ρ us ρ1 e => by cases e
  | .fst .., n, h => fun ρ us ρ1 e => by cases e
  | .lc .., n, h => fun ρ us ρ1 e => by cases e
  | .lc2 .., n, h => fun ρ us ρ1 e => by cases e
theorem pt_len {l : Pt} : ∀ {n : Nat}, (match l with | .nil => n = 0 | _ => True) → True := fun _ => trivial
def ptLen : Pt → Nat
  | .cons _ b => ptLen b + 1
  | _ => 0
def ptOk : Pt → Bool
  | .cons _ b => ptOk b
  | .nil => true
  | _ => false
theorem asP_len : ∀ {l : Pt} {w : List W} {ρ ρ' : Env}, ptOk l = true → asP l (.tup w) ρ = some ρ' → w.length = ptLen l
  | .nil, w, ρ, ρ', _, h => by
    cases w with
    | nil => rfl
    | cons _ _ => cases h
  | .cons a b, w, ρ, ρ', h, e => by
    cases w with
    | nil => cases e
    | cons x xs =>
      simp only [asP] at e
      cases q : asP a x ρ with
      | none => rw [q] at e; cases e
      | some ρ1 =>
        rw [q] at e
        simp only [List.length_cons, asP_len (l := b) h e]
        rfl
theorem g_tupB {k : Nat} {l : Pt} (B : Bd fs Z bn cs d c X) (hp : es.all plainE = true) (hl : (ptOk l && ptLen l == es.length) = true) (h : PGs X es (gPs X.K l)) : PG X (.Tuple es k pos) (gP X.K (.t l)) := by
  obtain ⟨h1, h2⟩ := Bool.and_eq_true_iff.mp hl
  exact g_tup B.calm hp (fun w ρ ρ' e => (asP_len h1 e).trans (eq_of_beq h2)) h
theorem b_glob {w : W} (B : Bd fs Z bn cs d c X) (hm : (x, w) ∈ cs) (hg : Gl X x) (hd : (x == ("__debug__" : Str)) = false) : PE X (.Name x pos) (tX c (.con w)) := by
  obtain ⟨u, h1, h2⟩ := B.G.c _ hm
  exact x_glob B.hc hg (by rw [B.em]; exact h1) (by rw [B.eK]; exact h2) hd
end
end Py

namespace Py
open PySem PySem.Spec PyProof.Rows L2
/-! ### the law's def, called with the script -/
/-- no list stands at the text's top -/
def noList (K : PySem.W.Frag) : Bool := K.all fun p => decide (p.2.cls ≠ .type "list")
theorem lookup_mem {K : PySem.W.Frag} {a : Addr} {o : Obj} (h : K.lookup a = some o) : (a, o) ∈ K := by
  induction K with
  | nil => cases h
  | cons p r ih =>
    rw [List.lookup_cons] at h
    split at h
    · rename_i e
      cases Option.some.inj h
      rw [eq_of_beq e]
      exact List.mem_cons_self
    · exact List.mem_cons_of_mem _ (ih h)
theorem noList_ok {K : PySem.W.Frag} (h : noList K = true) {a : Addr} {o : Obj} (e : K.lookup a = some o) : o.cls ≠ .type "list" := by
  have := List.all_eq_true.mp h _ (lookup_mem e)
  exact of_decide_eq_true this
theorem ints_hr {K : PySem.W.Frag} {H : Hp} {F : Addr → Prop} : ∀ ns : List Int, HRs K H F (ns.map V.int) (ns.map W.int)
  | [] => .nil
  | n :: ns => .cons (.int n) (ints_hr ns)
theorem spF_law [HW] {K : PySem.W.Frag} {cls : Nat → Value} {C : Fn} {fd : FD} {N : List Str} {j : Nat} {a : Addr} {H : Hp} {ns : List Int} (hm : fd.m = [false]) (hN : N.length = fd.n) (h1 : 1 ≤ fd.n) (hl : noList K = true) (hz : ns.length ≤ szL) (hS : SqL K H a (ns.map V.int)) (hC : C j [.lst (ns.map W.int)] = .ret (.bl true) false []) :
    spF K cls C fd N j [.ref a] H (fun v _ => v = .bl true) fun _ _ _ => False := by
  have hS : Rd H a (.lst (ns.map V.int)) := by
    rcases hS with h | ⟨o, its, n, h, hc, _⟩
    · exact h
    · exact absurd hc (noList_ok hl h)
  have e0 : env0 fd [.lst (ns.map W.int)] = some (.lst (ns.map W.int), .sh) :: List.replicate (fd.n - 1) none := by
    unfold env0; rw [hm]; rfl
  have get : ∀ {i : Nat} {w : W} {f : Fl}, (env0 fd [.lst (ns.map W.int)])[i]? = some (some (w, f)) → i = 0 ∧ w = .lst (ns.map W.int) ∧ f = .sh := fun {i w f} e => by
    rw [e0] at e
    cases i with
    | zero => simp at e; exact ⟨rfl, e.1.symm, e.2.symm⟩
    | succ i =>
      rw [List.getElem?_cons_succ, List.getElem?_replicate] at e
      split at e <;> cases e
  have nosl : ∀ i b, ¬ SlA (start N [.ref a]) (env0 fd [.lst (ns.map W.int)]) i b := fun i b ⟨w, f, e, n, _⟩ => n (get e).2.2
  refine ⟨by rw [hm]; rfl, fun _ => none, fun b => b = a, [.lst (ns.map W.int)], by rw [hm]; rfl, ⟨?_, fun i w e => ?_, fun i w f e n => absurd (get e).2.2 n, fun i w f e q => ?_, fun i j b h => absurd h (nosl i b), (fun p hp => nomatch hp), List.nodup_nil, fun b hb => ?_⟩, ?_⟩
  · rw [e0]
    unfold L2.start
    simp only [List.length_cons, List.length_replicate, List.map_cons, List.map_nil, List.length_append, List.length_nil]
    omega
  · obtain ⟨rfl, rfl, _⟩ := get e
    exact ⟨.ref a, rfl, .lst rfl hS (by simpa using hz) (ints_hr ns)⟩
  · obtain ⟨_, _, rfl⟩ := get e
    rcases q with q | q <;> cases q
  · rw [hb]
    rcases hS with h | ⟨o, h⟩
    · exact ⟨_, h⟩
    · exact ⟨_, h⟩
  · rw [hC]
    intro v H' F' σ' ρ' _ _ _ _ hr
    have hr := hr rfl
    cases hr
    rfl
/-- a promise with a number that is chosen at the call -/
def spE (sp : Nat → Sp) : Sp := fun vs H Q E => ∃ g, sp g vs H Q E
theorem fnOk_ex {P : Program} {w : World} {K : PySem.W.Frag} {mg : Str → Option Value} {base : Heap} {CX : CXT} {k : Nat} {f : Addr} {fd : FuncData} {ps : List Str} {sp : Nat → Sp} (h : ∀ g, FnOk P w K mg base CX k f fd ps (sp g)) : FnOk P w K mg base CX k f fd ps (spE sp) :=
  ⟨fun vs H Q E ⟨g, q⟩ => (h g).len vs H Q E q, fun A outer s H args us vs Q E hr e0 hb r ⟨g, q⟩ => (h g).run A outer s H args us vs Q E hr e0 hb r q⟩

theorem fnOk_0 {P : Program} {w : World} {K : PySem.W.Frag} {mg : Str → Option Value} {base : Heap} {k : Nat} {f : Addr} {fd : FuncData} {ps : List Str} {sp : Sp} (h : FnOk P w K mg base (L2.CX P w) k f fd ps sp) :
    FnOk P w K mg base CX0 k f fd ps fun vs H Q _ => sp vs H Q fun _ _ _ => False :=
  ⟨fun vs H Q E q => h.len _ _ _ _ q, fun A outer s H args us vs Q E hr e0 hb r q => codeAny_mono (h.run A outer s H args us vs Q _ hr e0 hb r q) fun r s' z => by
    cases r with
    | error e =>
      obtain ⟨_, _, _, _, _, _, _, _, _, _, _, _, z⟩ := z
      exact z.elim
    | ok fl => cases fl <;> exact z⟩
theorem all_get {α : Type} {P : α → Prop} {l : List α} (h : ∀ x ∈ l, P x) (j : Nat) (x : α) (e : l[j]? = some x) : P x := h x (List.mem_of_getElem? e)
theorem all_nil {α : Type} {P : α → Prop} : ∀ x ∈ ([] : List α), P x := fun x h => nomatch h
theorem all_cons {α : Type} {P : α → Prop} {a : α} {l : List α} (h : P a) (t : ∀ x ∈ l, P x) : ∀ x ∈ a :: l, P x := fun x m => by
  rcases List.mem_cons.mp m with rfl | m
  · exact h
  · exact t x m
/-! ### what the head tells -/
abbrev AlP : Type := He.AlD × Bool
def obsP (n : Nat) (fa : List He.Fa) (fn : List He.DefD) (ex : PySem.W.Frag → Bool) (g : Addr → Option Obj) : AlP := (He.obsD fa fn (He.frG g (He.asD g n)), ex (He.frG g (He.asD g n)))
def SaysP (fa : List He.Fa) (fn : List He.DefD) (ex : PySem.W.Frag → Bool) (K : PySem.W.Frag) : Prop := He.SaysD fa fn K ∧ ex K = true
theorem saysP_of {n : Nat} {fa : List He.Fa} {fn : List He.DefD} {ex : PySem.W.Frag → Bool} {g : Addr → Option Obj} (e : obsP n fa fn ex g = (He.valD fn, true)) : SaysP fa fn ex (He.frG g (He.asD g n)) :=
  ⟨congrArg (fun z : AlP => z.1) e, congrArg (fun z : AlP => z.2) e⟩
def hookP (n : Nat) (fa : List He.Fa) (fn : List He.DefD) (ex : PySem.W.Frag → Bool) : PySem.W.Hook where
  α := AlP
  obs := fun s => obsP n fa fn ex s.heap.get?
  val := fun _ => (He.valD fn, true)
  says := fun _ h => ∃ K : PySem.W.Frag, K.In h ∧ SaysP fa fn ex K
  of := fun _ _ e => ⟨_, He.frG_in, saysP_of e⟩
  keeps := fun _ _ _ ⟨K, hK, c⟩ k => ⟨K, PySem.W.Frag.In.keeps hK k, c⟩
theorem obsP_eq {n : Nat} {fa : List He.Fa} {fn : List He.DefD} {ex : PySem.W.Frag → Bool} {g : Addr → Option Obj} {s : Shared} (h : ∀ a, g a = s.heap.get? a) : obsP n fa fn ex g = (hookP n fa fn ex).obs s := by
  have e : g = s.heap.get? := funext h
  subst e
  rfl
end Py

namespace Py
open PySem PySem.Spec PyProof.Rows L2
@[simp] theorem isD_non : isD .non = false := rfl
@[simp] theorem isD_bl (b : Bool) : isD (.bl b) = false := rfl
@[simp] theorem isD_int (i : Int) : isD (.int i) = false := rfl
@[simp] theorem isD_str (s : Cs) : isD (.str s) = false := rfl
@[simp] theorem isD_tup (l : List W) : isD (.tup l) = false := rfl
@[simp] theorem isD_lst (l : List W) : isD (.lst l) = false := rfl
@[simp] theorem isD_dct (l : List (W × W)) : isD (.dct l) = true := rfl
/-! ### some calls by their values -/
def runO (fs : List FD) (tk : Tk) (g : Nat) (o : Nat → List W → Option CO) (d0 : Nat) : Nat → Fn
  | 0 => run fs tk g d0
  | d + 1 => fun f ws => match o f ws with
    | some r => r
    | none => match fs[f]? with
      | none => .bad
      | some fd => if ws.length = fd.m.length then ofS fd (xs (runO fs tk g o d0 d) tk g fd.b (env0 fd ws)) else .bad
theorem runO_eq {fs : List FD} {tk : Tk} {g : Nat} {o : Nat → List W → Option CO} {d0 : Nat} (h : ∀ d f ws r, o f ws = some r → run fs tk g (d0 + d + 1) f ws = r) : ∀ d, runO fs tk g o d0 d = run fs tk g (d0 + d)
  | 0 => rfl
  | d + 1 => by
    funext f ws
    have ih := runO_eq h d
    show (match o f ws with
      | some r => r
      | none => match fs[f]? with
        | none => CO.bad
        | some fd => if ws.length = fd.m.length then ofS fd (xs (runO fs tk g o d0 d) tk g fd.b (env0 fd ws)) else .bad) = run fs tk g (d0 + d + 1) f ws
    cases e : o f ws with
    | some r => exact (h d f ws r e).symm
    | none => rw [ih]; rfl
theorem run_at {fs : List FD} {tk : Tk} {g d f : Nat} {ws : List W} {fd : FD} (h : fs[f]? = some fd) (hl : ws.length = fd.m.length) : run fs tk g (d + 1) f ws = ofS fd (xs (run fs tk g d) tk g fd.b (env0 fd ws)) := by
  show (match fs[f]? with
    | none => CO.bad
    | some fd => if ws.length = fd.m.length then ofS fd (xs (run fs tk g d) tk g fd.b (env0 fd ws)) else .bad) = _
  rw [h]
  simp only [hl, if_true]

/-! ### the greatest common divisor -/
def S_cm : S := (.seq (.par [0, 1] (.cons (.bi .abs (.cons (.var 0) .nil)) (.cons (.bi .abs (.cons (.var 1) .nil)) .nil))) (.seq (.whl (.var 1) (.seq (.par [0, 1] (.cons (.var 1) (.cons (.op .md (.var 0) (.var 1)) .nil))) .nil)) (.seq (.ret (.var 0)) .nil)))
def FD_cm : FD := ⟨2, [false, false], S_cm⟩
def i2 (a b : Int) : Env := [some (.int a, .sh), some (.int b, .sh)]
theorem absW (a : Int) : (if a < 0 then -a else a) = (a.natAbs : Int) := by split <;> omega
theorem cm_step (C : Fn) (tk : Tk) (g : Nat) (a b : Nat) : xs C tk g (.seq (.par [0, 1] (.cons (.var 1) (.cons (.op .md (.var 0) (.var 1)) .nil))) .nil) (i2 a ((b + 1 : Nat) : Int)) = .nx (i2 ((b + 1 : Nat) : Int) ((a % (b + 1) : Nat) : Int)) := by
  have e : Int.fmod (a : Int) ((b + 1 : Nat) : Int) = ((a % (b + 1) : Nat) : Int) := by
    rw [Int.fmod_eq_emod_of_nonneg _ (by omega)]; rfl
  rw [← e]
  rfl
theorem cm_loop (C : Fn) (tk : Tk) (g : Nat) : ∀ (n a b : Nat), b < n → whlL (ev C (.var 1)).t (xs C tk g (.seq (.par [0, 1] (.cons (.var 1) (.cons (.op .md (.var 0) (.var 1)) .nil))) .nil)) n (i2 a b) = .nx (i2 (Nat.gcd a b) 0)
  | 0, a, b, h => by omega
  | n + 1, a, 0, h => by
    rw [Nat.gcd_zero_right]; rfl
  | n + 1, a, b + 1, h => by
    have h1 : whlL (ev C (.var 1)).t (xs C tk g (.seq (.par [0, 1] (.cons (.var 1) (.cons (.op .md (.var 0) (.var 1)) .nil))) .nil)) (n + 1) (i2 a ((b + 1 : Nat) : Int)) =
      match xs C tk g (.seq (.par [0, 1] (.cons (.var 1) (.cons (.op .md (.var 0) (.var 1)) .nil))) .nil) (i2 a ((b + 1 : Nat) : Int)) with
      | .nx ρ2 => whlL (ev C (.var 1)).t (xs C tk g (.seq (.par [0, 1] (.cons (.var 1) (.cons (.op .md (.var 0) (.var 1)) .nil))) .nil)) n ρ2
      | .ct ρ2 => whlL (ev C (.var 1)).t (xs C tk g (.seq (.par [0, 1] (.cons (.var 1) (.cons (.op .md (.var 0) (.var 1)) .nil))) .nil)) n ρ2
      | .bk ρ2 => .nx ρ2
      | o => o := rfl
    rw [h1, cm_step]
    show whlL _ _ n (i2 ((b + 1 : Nat) : Int) ((a % (b + 1) : Nat) : Int)) = _
    have hb : a % (b + 1) < b + 1 := Nat.mod_lt a (by omega)
    have eg : Nat.gcd (b + 1) (a % (b + 1)) = Nat.gcd a (b + 1) := by rw [Nat.gcd_comm a, Nat.gcd_rec (b + 1) a, Nat.gcd_comm]
    rw [cm_loop C tk g n (b + 1) (a % (b + 1)) (by omega), eg]
theorem cm_ok (C : Fn) (tk : Tk) (g : Nat) (a b : Int) (h : b.natAbs < g) : ofS FD_cm (xs C tk g S_cm (i2 a b)) = .ret (.int (Nat.gcd a.natAbs b.natAbs)) false [] := by
  have e1 : xs C tk g S_cm (i2 a b) = SO.thn (xs C tk g (.whl (.var 1) (.seq (.par [0, 1] (.cons (.var 1) (.cons (.op .md (.var 0) (.var 1)) .nil))) .nil)) (i2 (if a < 0 then -a else a) (if b < 0 then -b else b))) fun ρ => xs C tk g (.seq (.ret (.var 0)) .nil) ρ := rfl
  rw [e1, absW, absW]
  show ofS FD_cm (SO.thn (whlL (ev C (.var 1)).t (xs C tk g (.seq (.par [0, 1] (.cons (.var 1) (.cons (.op .md (.var 0) (.var 1)) .nil))) .nil)) g (i2 a.natAbs b.natAbs)) fun ρ => xs C tk g (.seq (.ret (.var 0)) .nil) ρ) = _
  rw [cm_loop C tk g g _ _ h]
  rfl

/-! ### lowest -/
def S_lw (jc : Nat) : S := (.seq (.asn 2 (.call jc [false, false] (.cons (.var 0) (.cons (.var 1) .nil)))) (.seq (.asn 3 (.ite (.cmp .gt (.var 1) (.con (.int 0))) (.con (.int 1)) (.neg (.con (.int 1))))) (.seq (.ret (.tup (.cons (.op .fdv (.op .mul (.var 3) (.var 0)) (.var 2)) (.cons (.op .fdv (.op .mul (.var 3) (.var 1)) (.var 2)) .nil)))) .nil)))
def FD_lw (jc : Nat) : FD := ⟨4, [false, false], S_lw jc⟩
/-- whole, of at most so many bits -/
def sm (k : Nat) (i : Int) : Bool := i.natAbs.log2 < k
def low (a b : Int) : Int × Int := if 0 < b then (a.fdiv (Nat.gcd a.natAbs b.natAbs), b.fdiv (Nat.gcd a.natAbs b.natAbs)) else ((-a).fdiv (Nat.gcd a.natAbs b.natAbs), (-b).fdiv (Nat.gcd a.natAbs b.natAbs))
def rt (p : Int × Int) : W := .tup [.int p.1, .int p.2]
theorem sm_bits {k : Nat} {i : Int} (h : sm k i = true) : bits i ≤ k + 1 := by
  have h : i.natAbs.log2 < k := of_decide_eq_true h
  unfold bits
  split <;> omega
theorem dvI_ok {i j : Int} (h0 : j ≠ 0) (h : sm 9000 j = true) : opW .fdv (.int i) (.int j) = some (.int (i.fdiv j), false) :=
  if_pos ⟨h0, PyProof.noPylong_of_log2 (of_decide_eq_true h)⟩
theorem mul_ok {i j : Int} (h : sm 100000000 i = true) (h' : sm 10000 j = true) : opW .mul (.int i) (.int j) = some (.int (i * j), false) := by
  have h1 := sm_bits h
  have h2 := sm_bits h'
  exact if_pos (by unfold bitL; omega)
theorem gcd_sm {a b : Int} (hb : b ≠ 0) (h : sm 9000 b = true) : sm 9000 (Nat.gcd a.natAbs b.natAbs : Int) = true ∧ (Nat.gcd a.natAbs b.natAbs : Int) ≠ 0 := by
  have hp : 0 < b.natAbs := by omega
  have h1 : Nat.gcd a.natAbs b.natAbs ≤ b.natAbs := Nat.gcd_le_right _ hp
  have h2 : 0 < Nat.gcd a.natAbs b.natAbs := Nat.gcd_pos_of_pos_right _ hp
  have h : b.natAbs.log2 < 9000 := of_decide_eq_true h
  refine ⟨decide_eq_true ?_, by omega⟩
  show (Nat.gcd a.natAbs b.natAbs).log2 < 9000
  have hlt := (Nat.log2_lt (by omega)).mp h
  exact (Nat.log2_lt (by omega)).mpr (Nat.lt_of_le_of_lt h1 hlt)
theorem lw_ok (C : Fn) (tk : Tk) (g jc : Nat) (a b : Int) (hb : b ≠ 0) (ha : sm 9000 a = true) (hs : sm 9000 b = true) (hC : C jc [.int a, .int b] = .ret (.int (Nat.gcd a.natAbs b.natAbs)) false []) :
    ofS (FD_lw jc) (xs C tk g (S_lw jc) [some (.int a, .sh), some (.int b, .sh), none, none]) = .ret (rt (low a b)) false [] := by
  have w : ∀ {k m : Nat} {i : Int}, sm k i = true → k ≤ m → sm m i = true := fun {k m i} h hk => decide_eq_true (Nat.lt_of_lt_of_le (of_decide_eq_true h) hk)
  obtain ⟨h1, h2⟩ := gcd_sm (a := a) hb (w hs (by decide))
  have m1 : ∀ z : Int, sm 9000 z = true → opW .mul (.int 1) (.int z) = some (.int (1 * z), false) := fun z hz => mul_ok (by decide) (w hz (by decide))
  have m2 : ∀ z : Int, sm 9000 z = true → opW .mul (.int (-1)) (.int z) = some (.int (-1 * z), false) := fun z hz => mul_ok (by decide) (w hz (by decide))
  have d1 : ∀ z : Int, opW .fdv (.int z) (.int (Nat.gcd a.natAbs b.natAbs)) = some (.int (z.fdiv (Nat.gcd a.natAbs b.natAbs)), false) := fun z => dvI_ok h2 h1
  unfold low
  by_cases hp : 0 < b
  · have c1 : cmpW .gt (.int b) (.int 0) = some true := by show some (decide (0 < b)) = _; rw [decide_eq_true hp]
    simp [S_lw, xs, ev, SO.thn, hC, callW, shM, ioW, ioB, shr, wOf, ofE, asA, setN, l2, l1, res, ofO, bW, c1, trO, truth, m1, m2, d1, ha, hs, hp, shrs, szL, retA, ofS, FD_lw, ioE, rt]
  · have c1 : cmpW .gt (.int b) (.int 0) = some false := by show some (decide (0 < b)) = _; rw [decide_eq_false hp]
    simp [S_lw, xs, ev, SO.thn, hC, callW, shM, ioW, ioB, shr, wOf, ofE, asA, setN, l2, l1, res, ofO, bW, c1, trO, truth, m1, m2, d1, ha, hs, hp, shrs, szL, retA, ofS, FD_lw, ioE, rt]

/-! ### the law's own lowest -/
def S_lwB : S := (.seq (.par [2, 3] (.cons (.var 3) (.cons (.op .sub (.var 2) (.op .mul (.var 3) (.op .fdv (.var 2) (.var 3)))) .nil))) .nil)
def S_lwl : S := (.seq (.par [2, 3] (.cons (.bi .abs (.cons (.var 0) .nil)) (.cons (.bi .abs (.cons (.var 1) .nil)) .nil))) (.seq (.whl (.cmp .ne (.var 3) (.con (.int 0))) S_lwB) (.seq (.ret (.ite (.cmp .gt (.var 1) (.con (.int 0))) (.tup (.cons (.op .fdv (.var 0) (.var 2)) (.cons (.op .fdv (.var 1) (.var 2)) .nil))) (.tup (.cons (.op .fdv (.neg (.var 0)) (.var 2)) (.cons (.op .fdv (.neg (.var 1)) (.var 2)) .nil))))) .nil)))
def FD_lwl : FD := ⟨4, [false, false], S_lwl⟩
def i4 (a b c d : Int) : Env := [some (.int a, .sh), some (.int b, .sh), some (.int c, .sh), some (.int d, .sh)]
theorem sm_le {k : Nat} {a b : Nat} (h : sm k (a : Int) = true) (hb : b ≤ a) (hk : 0 < k) : sm k (b : Int) = true := by
  have h : a.log2 < k := of_decide_eq_true h
  refine decide_eq_true ?_
  show b.log2 < k
  by_cases h0 : b = 0
  · subst h0; simpa using hk
  · have := (Nat.log2_lt (by omega)).mp h
    exact (Nat.log2_lt h0).mpr (Nat.lt_of_le_of_lt hb this)
theorem sm_up {k m : Nat} {i : Int} (h : sm k i = true) (hk : k ≤ m) : sm m i = true := decide_eq_true (Nat.lt_of_lt_of_le (of_decide_eq_true h) hk)
theorem lwl_step (C : Fn) (tk : Tk) (g : Nat) (a b : Int) (c d : Nat) (h1 : sm 9000 c = true) (h2 : sm 9000 ((d + 1 : Nat) : Int) = true) : xs C tk g S_lwB (i4 a b c ((d + 1 : Nat) : Int)) = .nx (i4 a b ((d + 1 : Nat) : Int) ((c % (d + 1) : Nat) : Int)) := by
  have e0 : Int.fdiv (c : Int) ((d + 1 : Nat) : Int) = ((c / (d + 1) : Nat) : Int) := by
    rw [Int.fdiv_eq_ediv_of_nonneg _ (by omega)]; rfl
  have e1 : opW .fdv (.int c) (.int ((d + 1 : Nat) : Int)) = some (.int ((c / (d + 1) : Nat) : Int), false) := by
    rw [← e0]; exact dvI_ok (by omega) (sm_up h2 (by decide))
  have e2 : opW .mul (.int ((d + 1 : Nat) : Int)) (.int ((c / (d + 1) : Nat) : Int)) = some (.int (((d + 1 : Nat) : Int) * ((c / (d + 1) : Nat) : Int)), false) :=
    mul_ok (sm_up h2 (by decide)) (sm_up (sm_le h1 (Nat.div_le_self _ _) (by decide)) (by decide))
  have e3 : (c : Int) - ((d + 1 : Nat) : Int) * ((c / (d + 1) : Nat) : Int) = ((c % (d + 1) : Nat) : Int) := by
    have := Nat.div_add_mod c (d + 1)
    have h := congrArg (Nat.cast : Nat → Int) this
    rw [Int.natCast_add, Int.natCast_mul] at h
    omega
  have e4 : opW .sub (.int c) (.int (((d + 1 : Nat) : Int) * ((c / (d + 1) : Nat) : Int))) = some (.int ((c % (d + 1) : Nat) : Int), false) := by rw [← e3]; rfl
  have s : xs C tk g S_lwB (i4 a b c ((d + 1 : Nat) : Int)) = SO.thn (SO.bnd (((ofO (opW .fdv (.int c) (.int ((d + 1 : Nat) : Int))) (i4 a b c ((d + 1 : Nat) : Int))).bind fun v ρ2 => l2 (opW .mul) (.slot 3) v ρ2).bind fun v ρ2 => (l2 (opW .sub) (.slot 2) v ρ2).bind fun u ρ3 => Out.ok [.slot 3, u] ρ3) fun as ρ1 => match fixA ρ1 as with
    | some (as', ρ2) => ofE (asAs [2, 3] as' ρ2)
    | none => .bad) fun ρ1 => .nx ρ1 := by
    show SO.thn (SO.bnd _ _) _ = _
    simp [ev, Out.bind, l2, res, wOf, i4]
    cases opW .fdv (.int c) (.int ((d : Int) + 1)) with
    | none => rfl
    | some q =>
      obtain ⟨q1, q2⟩ := q
      simp [ofO]
      cases opW .mul (.int ((d : Int) + 1)) q1 with
      | none => rfl
      | some q =>
        obtain ⟨q1, q2⟩ := q
        simp
        cases opW .sub (.int c) q1 <;> rfl
  rw [s, e1]
  show SO.thn (SO.bnd ((((ofO (opW .mul (.int ((d + 1 : Nat) : Int)) (.int ((c / (d + 1) : Nat) : Int))) (i4 a b c ((d + 1 : Nat) : Int)))).bind fun v ρ2 => (l2 (opW .sub) (.slot 2) v ρ2).bind fun u ρ3 => Out.ok [.slot 3, u] ρ3)) _) _ = _
  rw [e2]
  show SO.thn (SO.bnd ((ofO (opW .sub (.int c) (.int (((d + 1 : Nat) : Int) * ((c / (d + 1) : Nat) : Int)))) (i4 a b c ((d + 1 : Nat) : Int))).bind fun u ρ3 => Out.ok [.slot 3, u] ρ3) _) _ = _
  rw [e4]
  rfl

theorem lwl_loop (C : Fn) (tk : Tk) (g : Nat) (a b : Int) : ∀ (n c d : Nat), d < n → sm 9000 c = true → sm 9000 d = true → whlL (ev C (.cmp .ne (.var 3) (.con (.int 0)))).t (xs C tk g S_lwB) n (i4 a b c d) = .nx (i4 a b (Nat.gcd c d) 0)
  | 0, c, d, h, _, _ => by omega
  | n + 1, c, 0, h, _, _ => by
    rw [Nat.gcd_zero_right]; rfl
  | n + 1, c, d + 1, h, h1, h2 => by
    have e1 : whlL (ev C (.cmp .ne (.var 3) (.con (.int 0)))).t (xs C tk g S_lwB) (n + 1) (i4 a b c ((d + 1 : Nat) : Int)) =
      match xs C tk g S_lwB (i4 a b c ((d + 1 : Nat) : Int)) with
      | .nx ρ2 => whlL (ev C (.cmp .ne (.var 3) (.con (.int 0)))).t (xs C tk g S_lwB) n ρ2
      | .ct ρ2 => whlL (ev C (.cmp .ne (.var 3) (.con (.int 0)))).t (xs C tk g S_lwB) n ρ2
      | .bk ρ2 => .nx ρ2
      | o => o := rfl
    rw [e1, lwl_step C tk g a b c d h1 h2]
    have hb : c % (d + 1) < d + 1 := Nat.mod_lt c (by omega)
    show whlL _ _ n (i4 a b ((d + 1 : Nat) : Int) ((c % (d + 1) : Nat) : Int)) = _
    have eg : Nat.gcd (d + 1) (c % (d + 1)) = Nat.gcd c (d + 1) := by rw [Nat.gcd_comm c, Nat.gcd_rec (d + 1) c, Nat.gcd_comm]
    rw [lwl_loop C tk g a b n (d + 1) (c % (d + 1)) (by omega) h2 (sm_le h2 (by omega) (by decide)), eg]
theorem sm_abs {k : Nat} {a : Int} (h : sm k a = true) : sm k (a.natAbs : Int) = true := h
theorem sm_lt {k : Nat} {a : Int} (h : sm k a = true) : a.natAbs < 2 ^ k := by
  have h : a.natAbs.log2 < k := of_decide_eq_true h
  by_cases h0 : a.natAbs = 0
  · rw [h0]; exact Nat.two_pow_pos k
  · exact (Nat.log2_lt h0).mp h
theorem lwl_ok (C : Fn) (tk : Tk) (g : Nat) (a b : Int) (hb : b ≠ 0) (ha : sm 9000 a = true) (hs : sm 9000 b = true) (hg : 2 ^ 9000 ≤ g) :
    ofS FD_lwl (xs C tk g S_lwl [some (.int a, .sh), some (.int b, .sh), none, none]) = .ret (rt (low a b)) false [] := by
  obtain ⟨h1, h2⟩ := gcd_sm (a := a) hb (sm_up hs (by decide))
  have d1 : ∀ z : Int, opW .fdv (.int z) (.int (Nat.gcd a.natAbs b.natAbs)) = some (.int (z.fdiv (Nat.gcd a.natAbs b.natAbs)), false) := fun z => dvI_ok h2 h1
  have e1 : xs C tk g S_lwl [some (.int a, .sh), some (.int b, .sh), none, none] = SO.thn (whlL (ev C (.cmp .ne (.var 3) (.con (.int 0)))).t (xs C tk g S_lwB) g (i4 a b (if a < 0 then -a else a) (if b < 0 then -b else b))) fun ρ => xs C tk g (.seq (.ret (.ite (.cmp .gt (.var 1) (.con (.int 0))) (.tup (.cons (.op .fdv (.var 0) (.var 2)) (.cons (.op .fdv (.var 1) (.var 2)) .nil))) (.tup (.cons (.op .fdv (.neg (.var 0)) (.var 2)) (.cons (.op .fdv (.neg (.var 1)) (.var 2)) .nil))))) .nil) ρ := rfl
  rw [e1, absW, absW, lwl_loop C tk g a b g _ _ (by have := sm_lt hs; omega) (sm_abs ha) (sm_abs hs)]
  unfold low
  by_cases hp : 0 < b
  · have c1 : cmpW .gt (.int b) (.int 0) = some true := by show some (decide (0 < b)) = _; rw [decide_eq_true hp]
    simp [xs, ev, SO.thn, i4, wOf, l2, l1, res, ofO, bW, c1, trO, truth, d1, hp, shrs, shr, szL, retA, ofS, FD_lwl, ioE, rt]
  · have c1 : cmpW .gt (.int b) (.int 0) = some false := by show some (decide (0 < b)) = _; rw [decide_eq_false hp]
    simp [xs, ev, SO.thn, i4, wOf, l2, l1, res, ofO, bW, c1, trO, truth, d1, hp, shrs, shr, szL, retA, ofS, FD_lwl, ioE, rt]

/-- lowest by its value -/
def oR (js : List Nat) (f : Nat) (ws : List W) : Option CO := if js.contains f then (match ws with
  | [.int a, .int b] => if b ≠ 0 ∧ (sm 9000 a && sm 9000 b) = true then some (.ret (rt (low a b)) false []) else none
  | _ => none) else none
end Py

namespace Py
open PySem PySem.Spec PyProof.Rows L2
/-! ### the law's draws -/
def dV (cs : List Int) (i v sd : Int) : W := .lst [.lst (cs.map W.int), .int i, .int v, .int sd]
/-- a row of draws as it stands -/
def DW (w : W) : Prop := ∃ cs i v sd, w = dV cs i v sd ∧ -1 ≤ i ∧ 0 ≤ sd ∧ sd < 2147483647
def S_tkT : S := (.seq (.asn 2 (.op .md (.bi .int (.cons (.ix (.var 0) (.con (.int 2))) .nil)) (.var 1))) (.seq (.six 0 (.con (.int 2)) (.op .fdv (.ix (.var 0) (.con (.int 2))) (.var 1))) (.seq (.ret (.var 2)) .nil)))
def S_tk1 : S := (.seq (.six 0 (.con (.int 3)) (.op .md (.bi .int (.cons (.op .add (.op .mul (.ix (.var 0) (.con (.int 3))) (.con (.int 48271))) (.con (.int 11))) .nil)) (.con (.int 2147483647)))) (.seq (.six 0 (.con (.int 2)) (.ix (.var 0) (.con (.int 3)))) .nil))
def S_tk2 : S := (.seq (.ite (.cmp .eq (.ix (.var 0) (.con (.int 2))) (.con (.int 0))) S_tk1 .nil) .nil)
def S_tk3 : S := (.seq (.six 0 (.con (.int 1)) (.op .add (.ix (.var 0) (.con (.int 1))) (.con (.int 1)))) (.seq (.ite (.cmp .lt (.ix (.var 0) (.con (.int 1))) (.bi .len (.cons (.ix (.var 0) (.con (.int 0))) .nil))) (.seq (.six 0 (.con (.int 2)) (.ix (.ix (.var 0) (.con (.int 0))) (.ix (.var 0) (.con (.int 1))))) .nil) .nil) S_tk2))
def S_tk : S := (.seq (.ite (.cmp .eq (.ix (.var 0) (.con (.int 2))) (.con (.int 0))) S_tk3 .nil) S_tkT)
def FD_tk : FD := ⟨3, [true, false], S_tk⟩
def tE (w : W) (m : Int) : Env := [some (w, .io), some (.int m, .sh), none]
theorem ix0 (a b c d : W) : ixW (.lst [a, b, c, d]) (.int 0) = some (a, false) := rfl
theorem ix1 (a b c d : W) : ixW (.lst [a, b, c, d]) (.int 1) = some (b, false) := rfl
theorem ix2 (a b c d : W) : ixW (.lst [a, b, c, d]) (.int 2) = some (c, false) := rfl
theorem ix3 (a b c d : W) : ixW (.lst [a, b, c, d]) (.int 3) = some (d, false) := rfl
theorem put1 (a b c d v : W) : putW (.lst [a, b, c, d]) (.int 1) v = some (.lst [a, v, c, d]) := rfl
theorem put2 (a b c d v : W) : putW (.lst [a, b, c, d]) (.int 2) v = some (.lst [a, b, v, d]) := rfl
theorem put3 (a b c d v : W) : putW (.lst [a, b, c, d]) (.int 3) v = some (.lst [a, b, c, v]) := rfl
theorem md_ok {i j : Int} (h : j ≠ 0) : opW .md (.int i) (.int j) = some (.int (i.fmod j), false) := if_neg h
theorem eqI (i j : Int) : cmpW .eq (.int i) (.int j) = some (decide (i = j)) := by
  show (if eqOk (.int i) (.int j) then some (eqW (.int i) (.int j)) else none) = _
  rw [if_pos (show eqOk (.int i) (.int j) = true from rfl)]
  show some (i == j) = _
  congr 1
theorem tkT_ok (C : Fn) (tk : Tk) (g : Nat) (cs : List Int) (i v sd m : Int) (hm : 0 < m) (hs : sm 9000 m = true) : xs C tk g S_tkT (tE (dV cs i v sd) m) = .rt (.int (v.fmod m)) false [some (dV cs i (v.fdiv m) sd, .io), some (.int m, .sh), some (.int (v.fmod m), .sh)] := by
  have h1 : opW .md (.int v) (.int m) = some (.int (v.fmod m), false) := md_ok (by omega)
  have h2 : opW .fdv (.int v) (.int m) = some (.int (v.fdiv m), false) := dvI_ok (by omega) hs
  have h3 : biW .int [.int v] = some (.int v, false) := rfl
  simp [S_tkT, xs, ev, SO.thn, tE, dV, wOf, l2, lL, ress, res, ofO, h1, h2, h3, ix2, put2, ofE, asA, setN, sixE, shr, retA]
theorem tk1_ok (C : Fn) (tk : Tk) (g : Nat) (cs : List Int) (i v sd m : Int) (h0 : 0 ≤ sd) (hsd : sd < 2147483647) : ∃ sd', 0 ≤ sd' ∧ sd' < 2147483647 ∧ xs C tk g S_tk1 (tE (dV cs i v sd) m) = .nx (tE (dV cs i sd' sd') m) := by
  have h1 : opW .mul (.int sd) (.int 48271) = some (.int (sd * 48271), false) := by
    refine mul_ok (decide_eq_true ?_) (by decide)
    by_cases h : sd.natAbs = 0
    · rw [h]; decide
    · have : sd.natAbs.log2 < 31 := (Nat.log2_lt h).mpr (by omega)
      omega
  have h2 : opW .add (.int (sd * 48271)) (.int 11) = some (.int (sd * 48271 + 11), false) := rfl
  have h3 : biW .int [.int (sd * 48271 + 11)] = some (.int (sd * 48271 + 11), false) := rfl
  have h4 : opW .md (.int (sd * 48271 + 11)) (.int 2147483647) = some (.int ((sd * 48271 + 11).fmod 2147483647), false) := md_ok (by decide)
  refine ⟨(sd * 48271 + 11).fmod 2147483647, Int.fmod_nonneg_of_pos _ (by decide), Int.fmod_lt_of_pos _ (by decide), ?_⟩
  simp [S_tk1, xs, ev, SO.thn, tE, dV, wOf, l2, lL, ress, res, ofO, h1, h2, h3, h4, ix3, put2, put3, ofE, sixE, shr]
theorem tk2_ok (C : Fn) (tk : Tk) (g : Nat) (cs : List Int) (i v sd m : Int) (h0 : 0 ≤ sd) (hsd : sd < 2147483647) : ∃ v' sd', 0 ≤ sd' ∧ sd' < 2147483647 ∧ xs C tk g S_tk2 (tE (dV cs i v sd) m) = .nx (tE (dV cs i v' sd') m) := by
  obtain ⟨sd', a, b, e⟩ := tk1_ok C tk g cs i v sd m h0 hsd
  by_cases hv : v = 0
  · refine ⟨sd', sd', a, b, ?_⟩
    have h1 : cmpW .eq (.int v) (.int 0) = some true := by rw [eqI, decide_eq_true hv]
    have h2 : (ev C (.cmp .eq (.ix (.var 0) (.con (.int 2))) (.con (.int 0)))).t (tE (dV cs i v sd) m) = .ok true (tE (dV cs i v sd) m) := by
      simp [ev, tE, dV, wOf, l2, res, ofO, bW, h1, ix2, trO, truth]
    show SO.thn (SO.bnd ((ev C (.cmp .eq (.ix (.var 0) (.con (.int 2))) (.con (.int 0)))).t (tE (dV cs i v sd) m)) fun k ρ1 => if k then xs C tk g S_tk1 ρ1 else .nx ρ1) (fun ρ => .nx ρ) = _
    rw [h2]
    simp [SO.thn, e]
  · refine ⟨v, sd, h0, hsd, ?_⟩
    have h1 : cmpW .eq (.int v) (.int 0) = some false := by rw [eqI, decide_eq_false hv]
    have h2 : (ev C (.cmp .eq (.ix (.var 0) (.con (.int 2))) (.con (.int 0)))).t (tE (dV cs i v sd) m) = .ok false (tE (dV cs i v sd) m) := by
      simp [ev, tE, dV, wOf, l2, res, ofO, bW, h1, ix2, trO, truth]
    show SO.thn (SO.bnd ((ev C (.cmp .eq (.ix (.var 0) (.con (.int 2))) (.con (.int 0)))).t (tE (dV cs i v sd) m)) fun k ρ1 => if k then xs C tk g S_tk1 ρ1 else .nx ρ1) (fun ρ => .nx ρ) = _
    rw [h2]
    simp [SO.thn]
theorem at_map {cs : List Int} {j : Int} (h0 : 0 ≤ j) (h : j < cs.length) : ∃ z, ixW (.lst (cs.map W.int)) (.int j) = some (.int z, false) := by
  have e : L2.ixN (cs.map W.int).length j = some j.toNat := by
    unfold L2.ixN
    rw [List.length_map]
    split <;> rename_i q <;> first | rfl | (split <;> first | rfl | omega) | omega
  refine ⟨cs[j.toNat]'(by omega), ?_⟩
  show (L2.atI (cs.map W.int) j).map _ = _
  unfold L2.atI
  rw [e]
  simp
theorem tk3_ok (C : Fn) (tk : Tk) (g : Nat) (cs : List Int) (i v sd m : Int) (hi : -1 ≤ i) (h0 : 0 ≤ sd) (hsd : sd < 2147483647) : ∃ i' v' sd', -1 ≤ i' ∧ 0 ≤ sd' ∧ sd' < 2147483647 ∧ xs C tk g S_tk3 (tE (dV cs i v sd) m) = .nx (tE (dV cs i' v' sd') m) := by
  have a1 : opW .add (.int i) (.int 1) = some (.int (i + 1), false) := rfl
  have l1 : biW .len [.lst (cs.map W.int)] = some (.int cs.length, false) := by
    show some (W.int ((cs.map W.int).length : Nat), false) = _
    rw [List.length_map]
  by_cases hc : i + 1 < cs.length
  · have c1 : cmpW .lt (.int (i + 1)) (.int cs.length) = some true := by
      show some (decide _) = _; rw [decide_eq_true hc]
    obtain ⟨z, hz⟩ := at_map (cs := cs) (j := i + 1) (by omega) hc
    obtain ⟨v', sd', b1, b2, e⟩ := tk2_ok C tk g cs (i + 1) z sd m h0 hsd
    refine ⟨i + 1, v', sd', by omega, b1, b2, ?_⟩
    rw [← e]
    simp [S_tk3, xs, ev, SO.thn, tE, dV, wOf, l2, l1, lL, ress, res, ofO, a1, ix0, ix1, put1, put2, hz, c1, bW, trO, truth, ofE, sixE, shr]
  · have c1 : cmpW .lt (.int (i + 1)) (.int cs.length) = some false := by
      show some (decide _) = _; rw [decide_eq_false hc]
    obtain ⟨v', sd', b1, b2, e⟩ := tk2_ok C tk g cs (i + 1) v sd m h0 hsd
    refine ⟨i + 1, v', sd', by omega, b1, b2, ?_⟩
    rw [← e]
    simp [S_tk3, xs, ev, SO.thn, tE, dV, wOf, l2, l1, lL, ress, res, ofO, a1, ix0, ix1, put1, put2, c1, bW, trO, truth, ofE, sixE, shr]
theorem tk_ok (C : Fn) (tk : Tk) (g : Nat) {w : W} (hw : DW w) {m : Int} (hm : 0 < m) (hs : sm 9000 m = true) : ∃ r w', 0 ≤ r ∧ r < m ∧ DW w' ∧ ofS FD_tk (xs C tk g S_tk (tE w m)) = .ret (.int r) false [w'] := by
  obtain ⟨cs, i, v, sd, rfl, hi, h0, hsd⟩ := hw
  have fin : ∀ i v sd, -1 ≤ i → 0 ≤ sd → sd < 2147483647 → (xs C tk g S_tk (tE (dV cs i v sd) m) = xs C tk g S_tk (tE (dV cs i v sd) m)) → ∃ r w', 0 ≤ r ∧ r < m ∧ DW w' ∧ ofS FD_tk (xs C tk g S_tkT (tE (dV cs i v sd) m)) = .ret (.int r) false [w'] := fun i v sd a b c _ => by
    refine ⟨v.fmod m, dV cs i (v.fdiv m) sd, Int.fmod_nonneg_of_pos _ hm, Int.fmod_lt_of_pos _ hm, ⟨cs, i, _, sd, rfl, a, b, c⟩, ?_⟩
    rw [tkT_ok C tk g cs i v sd m hm hs]
    rfl
  by_cases hv : v = 0
  · have h1 : cmpW .eq (.int v) (.int 0) = some true := by rw [eqI, decide_eq_true hv]
    have h2 : (ev C (.cmp .eq (.ix (.var 0) (.con (.int 2))) (.con (.int 0)))).t (tE (dV cs i v sd) m) = .ok true (tE (dV cs i v sd) m) := by
      simp [ev, tE, dV, wOf, l2, res, ofO, bW, h1, ix2, trO, truth]
    obtain ⟨i', v', sd', b1, b2, b3, e⟩ := tk3_ok C tk g cs i v sd m hi h0 hsd
    have : xs C tk g S_tk (tE (dV cs i v sd) m) = xs C tk g S_tkT (tE (dV cs i' v' sd') m) := by
      show SO.thn (SO.bnd ((ev C (.cmp .eq (.ix (.var 0) (.con (.int 2))) (.con (.int 0)))).t (tE (dV cs i v sd) m)) fun k ρ1 => if k then xs C tk g S_tk3 ρ1 else .nx ρ1) (fun ρ => xs C tk g S_tkT ρ) = _
      rw [h2]
      simp [SO.thn, e]
    rw [this]
    exact fin i' v' sd' b1 b2 b3 rfl
  · have h1 : cmpW .eq (.int v) (.int 0) = some false := by rw [eqI, decide_eq_false hv]
    have h2 : (ev C (.cmp .eq (.ix (.var 0) (.con (.int 2))) (.con (.int 0)))).t (tE (dV cs i v sd) m) = .ok false (tE (dV cs i v sd) m) := by
      simp [ev, tE, dV, wOf, l2, res, ofO, bW, h1, ix2, trO, truth]
    have : xs C tk g S_tk (tE (dV cs i v sd) m) = xs C tk g S_tkT (tE (dV cs i v sd) m) := by
      show SO.thn (SO.bnd ((ev C (.cmp .eq (.ix (.var 0) (.con (.int 2))) (.con (.int 0)))).t (tE (dV cs i v sd) m)) fun k ρ1 => if k then xs C tk g S_tk3 ρ1 else .nx ρ1) (fun ρ => xs C tk g S_tkT ρ) = _
      rw [h2]
      simp [SO.thn]
    rw [this]
    exact fin i v sd hi h0 hsd rfl

/-! ### the draws' start -/
def S_drB : S := (.seq (.asn 1 (.op .md (.bi .int (.cons (.op .add (.op .add (.op .mul (.var 1) (.con (.int 48271))) (.op .md (.bi .abs (.cons (.bi .int (.cons (.var 2) .nil)) .nil)) (.con (.int 65521)))) (.con (.int 1))) .nil)) (.con (.int 2147483647)))) .nil)
def E_drC : E := (.lc (.bi .abs (.cons (.bi .int (.cons (.var 2) .nil)) .nil)) (.n 2) .nil .seq (.cons (.var 0) .nil) [2])
def S_dr : S := (.seq (.asn 1 (.con (.int 7))) (.seq (.for_ (.n 2) .seq (.cons (.var 0) .nil) S_drB) (.seq (.ret (.lst (.cons E_drC (.cons (.neg (.con (.int 1))) (.cons (.con (.int 0)) (.cons (.var 1) .nil)))))) .nil)))
def FD_dr : FD := ⟨3, [false], S_dr⟩
def dE (w : W) (sd : Int) (x : Option (W × Fl)) : Env := [some (w, .sh), some (.int sd, .sh), x]
def plainS : Option (W × Fl) → Bool
  | none => true
  | some (_, .sh) => true
  | _ => false
theorem drB_ok (C : Fn) (tk : Tk) (g : Nat) (w : W) (sd z : Int) (x : Option (W × Fl)) (hx : plainS x = true) (h0 : 0 ≤ sd) (hsd : sd < 2147483647) : ∃ sd', 0 ≤ sd' ∧ sd' < 2147483647 ∧ (match asP (.n 2) (.int z) (dE w sd x) with
    | none => SO.bad
    | some ρ1 => xs C tk g S_drB ρ1) = .nx (dE w sd' (some (.int z, .sh))) := by
  have e0 : asP (.n 2) (.int z) (dE w sd x) = some (dE w sd (some (.int z, .sh))) := by
    cases x with
    | none => rfl
    | some y => obtain ⟨u, f⟩ := y; cases f <;> first | rfl | cases hx
  have h1 : opW .mul (.int sd) (.int 48271) = some (.int (sd * 48271), false) := by
    refine mul_ok (decide_eq_true ?_) (by decide)
    by_cases h : sd.natAbs = 0
    · rw [h]; decide
    · have : sd.natAbs.log2 < 31 := (Nat.log2_lt h).mpr (by omega)
      omega
  have h3 : ∀ n : Int, biW .int [.int n] = some (.int n, false) := fun _ => rfl
  have h5 : biW .abs [.int z] = some (.int (if z < 0 then -z else z), false) := rfl
  have h4 : ∀ n k : Int, k ≠ 0 → opW .md (.int n) (.int k) = some (.int (n.fmod k), false) := fun n k => md_ok
  have h2 : ∀ n k : Int, opW .add (.int n) (.int k) = some (.int (n + k), false) := fun _ _ => rfl
  refine ⟨(sd * 48271 + (if z < 0 then -z else z).fmod 65521 + 1).fmod 2147483647, Int.fmod_nonneg_of_pos _ (by decide), Int.fmod_lt_of_pos _ (by decide), ?_⟩
  rw [e0]
  simp [S_drB, xs, ev, SO.thn, dE, wOf, l2, lL, ress, res, ofO, h1, h2, h3, h4, h5, ofE, asA, setN]
theorem dr_loop (C : Fn) (tk : Tk) (g : Nat) (w : W) : ∀ (ns : List Int) (sd : Int) (x : Option (W × Fl)), plainS x = true → 0 ≤ sd → sd < 2147483647 → ∃ sd' x', plainS x' = true ∧ 0 ≤ sd' ∧ sd' < 2147483647 ∧ forL (fun w ρ => match asP (.n 2) w ρ with
    | none => SO.bad
    | some ρ1 => xs C tk g S_drB ρ1) (ns.map W.int) (dE w sd x) = .nx (dE w sd' x')
  | [], sd, x, hx, h0, h1 => ⟨sd, x, hx, h0, h1, rfl⟩
  | z :: ns, sd, x, hx, h0, h1 => by
    obtain ⟨sd1, a, b, e⟩ := drB_ok C tk g w sd z x hx h0 h1
    obtain ⟨sd2, x2, c1, c2, c3, e2⟩ := dr_loop C tk g w ns sd1 (some (.int z, .sh)) rfl a b
    refine ⟨sd2, x2, c1, c2, c3, ?_⟩
    rw [← e2]
    simp only [List.map_cons, forL]
    rw [e]
theorem dr_comp (C : Fn) (w : W) (sd : Int) : ∀ (ns : List Int) (acc : List W) (x : Option (W × Fl)), ∃ x', lcL (stepE [2] (.n 2) (ev C .nil).t (ev C (.bi .abs (.cons (.bi .int (.cons (.var 2) .nil)) .nil))).x) (ns.map W.int) acc (dE w sd x) = .ok (acc ++ (ns.map fun z => if z < 0 then -z else z).map W.int) (dE w sd x')
  | [], acc, x => ⟨x, by simp [lcL]⟩
  | z :: ns, acc, x => by
    have e : stepE [2] (.n 2) (ev C .nil).t (ev C (.bi .abs (.cons (.bi .int (.cons (.var 2) .nil)) .nil))).x (.int z) (dE w sd x) = .ok (some (.int (if z < 0 then -z else z))) (dE w sd (some (.int z, .sh))) := rfl
    obtain ⟨x', e2⟩ := dr_comp C w sd ns (acc ++ [.int (if z < 0 then -z else z)]) (some (.int z, .sh))
    refine ⟨x', ?_⟩
    simp only [List.map_cons, lcL, e]
    rw [e2]
    simp
theorem dr_ok (C : Fn) (tk : Tk) (g : Nat) {ns : List Int} (hz : ns.length ≤ 63) : ∃ w, DW w ∧ ofS FD_dr (xs C tk g S_dr [some (.lst (ns.map W.int), .sh), none, none]) = .ret w true [] := by
  obtain ⟨sd, x, hx, h0, h1, e⟩ := dr_loop C tk g (.lst (ns.map W.int)) ns 7 none rfl (by decide) (by decide)
  obtain ⟨x', e2⟩ := dr_comp C (.lst (ns.map W.int)) sd ns [] x
  have hl : (ns.map W.int).length ≤ szL := by rw [List.length_map]; exact Nat.le_trans hz (by decide)
  have e3 : xs C tk g S_dr [some (.lst (ns.map W.int), .sh), none, none] = SO.thn ((forL (fun w ρ => match asP (.n 2) w ρ with
    | none => SO.bad
    | some ρ1 => xs C tk g S_drB ρ1) (ns.map W.int) (dE (.lst (ns.map W.int)) 7 none)).mapE fun ρ => ρ) fun ρ => xs C tk g (.seq (.ret (.lst (.cons E_drC (.cons (.neg (.con (.int 1))) (.cons (.con (.int 0)) (.cons (.var 1) .nil)))))) .nil) ρ := rfl
  have e4 : (ev C E_drC).x (dE (.lst (ns.map W.int)) sd x) = .ok (.val (.lst ((ns.map fun z => if z < 0 then -z else z).map W.int)) true) (dE (.lst (ns.map W.int)) sd x) := by
    show (match lcL (stepE [2] (.n 2) (ev C .nil).t (ev C (.bi .abs (.cons (.bi .int (.cons (.var 2) .nil)) .nil))).x) (ns.map W.int) [] (dE (.lst (ns.map W.int)) sd x) with
        | .ok acc ρ3 => if (ns.map W.int).length ≤ szL then Out.ok (Arg.val (.lst acc) true) (ulE (dE (.lst (ns.map W.int)) sd x) (rsE (dE (.lst (ns.map W.int)) sd x) ρ3 [2]) [.slot 0]) else .bad
        | _ => .bad) = _
    rw [e2]
    simp only [if_pos hl]
    rfl
  refine ⟨dV (ns.map fun z => if z < 0 then -z else z) (-1) 0 sd, ⟨_, -1, 0, sd, rfl, by decide, h0, h1⟩, ?_⟩
  rw [e3, e]
  show ofS FD_dr (SO.thn (SO.bnd ((((ev C E_drC).x (dE (.lst (ns.map W.int)) sd x)).bind fun u ρ1 => ((ev C (.cons (.neg (.con (.int 1))) (.cons (.con (.int 0)) (.cons (.var 1) .nil)))).a ρ1).bind fun us ρ2 => Out.ok (u :: us) ρ2).bind fun us ρ1 => match shrs ρ1 us with
      | some (ws, ρ2) => if ws.length ≤ szL then .ok (.val (.lst ws) true) ρ2 else .bad
      | none => .bad) fun a ρ1 => retA a ρ1) fun ρ => .nx ρ) = _
  rw [e4]
  rfl
end Py

namespace Py
open PySem PySem.Spec PyProof.Rows L2
/-! ### sums of ratios -/
def S_pl (jl : Nat) : S := (.seq (.ret (.call jl [false, false] (.cons (.op .add (.op .mul (.ix (.var 0) (.con (.int 0))) (.ix (.var 1) (.con (.int 1)))) (.op .mul (.ix (.var 1) (.con (.int 0))) (.ix (.var 0) (.con (.int 1))))) (.cons (.op .mul (.ix (.var 0) (.con (.int 1))) (.ix (.var 1) (.con (.int 1)))) .nil)))) .nil)
def FD_pl (jl : Nat) : FD := ⟨2, [false, false], S_pl jl⟩
def rpl (p q : Int × Int) : Int × Int := low (p.1 * q.2 + q.1 * p.2) (p.2 * q.2)
def gR (p : Int × Int) : Bool := sm 4490 p.1 && (sm 4490 p.2 && !(p.2 == 0))
theorem gR_ok {p : Int × Int} (h : gR p = true) : sm 4490 p.1 = true ∧ sm 4490 p.2 = true ∧ p.2 ≠ 0 := by
  obtain ⟨a, b⟩ := Bool.and_eq_true_iff.mp h
  obtain ⟨b, c⟩ := Bool.and_eq_true_iff.mp b
  refine ⟨a, b, fun e => ?_⟩
  rw [e] at c; cases c
theorem sm_of_lt {k : Nat} {i : Int} (h : i.natAbs < 2 ^ k) (hk : 0 < k) : sm k i = true := by
  refine decide_eq_true ?_
  by_cases h0 : i.natAbs = 0
  · rw [h0]; simpa using hk
  · exact (Nat.log2_lt h0).mpr h
theorem sm_mul {k m : Nat} {i j : Int} (h : sm k i = true) (h' : sm m j = true) : (i * j).natAbs < 2 ^ (k + m) := by
  rw [Int.natAbs_mul, Nat.pow_add]
  exact Nat.mul_lt_mul'' (sm_lt h) (sm_lt h')
theorem ixT0 (a b : W) : ixW (.tup [a, b]) (.int 0) = some (a, false) := rfl
theorem ixT1 (a b : W) : ixW (.tup [a, b]) (.int 1) = some (b, false) := rfl
theorem addI (i j : Int) : opW .add (.int i) (.int j) = some (.int (i + j), false) := rfl
theorem pl_ok (C : Fn) (tk : Tk) (g jl : Nat) (p q : Int × Int) (hp : gR p = true) (hq : gR q = true) (hC : C jl [.int (p.1 * q.2 + q.1 * p.2), .int (p.2 * q.2)] = .ret (rt (rpl p q)) false []) : ofS (FD_pl jl) (xs C tk g (S_pl jl) [some (rt p, .sh), some (rt q, .sh)]) = .ret (rt (rpl p q)) false [] := by
  obtain ⟨a1, a2, a3⟩ := gR_ok hp
  obtain ⟨b1, b2, b3⟩ := gR_ok hq
  have m1 : opW .mul (.int p.1) (.int q.2) = some (.int (p.1 * q.2), false) := mul_ok (sm_up a1 (by decide)) (sm_up b2 (by decide))
  have m2 : opW .mul (.int q.1) (.int p.2) = some (.int (q.1 * p.2), false) := mul_ok (sm_up b1 (by decide)) (sm_up a2 (by decide))
  have m3 : opW .mul (.int p.2) (.int q.2) = some (.int (p.2 * q.2), false) := mul_ok (sm_up a2 (by decide)) (sm_up b2 (by decide))
  simp [S_pl, xs, ev, SO.thn, rt, wOf, l2, res, ofO, ixT0, ixT1, m1, m2, m3, addI, callW, shM, shr, ioW, ioB, retA, ofS, FD_pl, ioE]
  rw [hC]
  rfl
theorem rpl_g {p q : Int × Int} (hp : gR p = true) (hq : gR q = true) : p.2 * q.2 ≠ 0 ∧ sm 9000 (p.1 * q.2 + q.1 * p.2) = true ∧ sm 9000 (p.2 * q.2) = true := by
  obtain ⟨a1, a2, a3⟩ := gR_ok hp
  obtain ⟨b1, b2, b3⟩ := gR_ok hq
  refine ⟨Int.mul_ne_zero a3 b3, sm_of_lt ?_ (by decide), sm_of_lt ?_ (by decide)⟩
  · have h1 := sm_mul a1 b2
    have h2 := sm_mul b1 a2
    have h3 := Int.natAbs_add_le (p.1 * q.2) (q.1 * p.2)
    have h4 : (2 : Nat) ^ (4490 + 4490) + 2 ^ (4490 + 4490) ≤ 2 ^ 9000 := by decide +kernel
    omega
  · have h1 := sm_mul a2 b2
    exact Nat.lt_of_lt_of_le h1 (by decide +kernel)
/-- lowest, plus at their places -/
structure RL (fs : List FD) (g jl jp : Nat) (d : Nat) (tk : Tk) : Prop where
  lw : ∀ e a b, d ≤ e → b ≠ 0 → sm 9000 a = true → sm 9000 b = true → run fs tk g (e + 1) jl [.int a, .int b] = .ret (rt (low a b)) false []
  pl : fs[jp]? = some (FD_pl jl)
theorem RL.plus {fs : List FD} {g jl jp d : Nat} {tk : Tk} (R : RL fs g jl jp d tk) {e : Nat} (he : d + 1 ≤ e) {p q : Int × Int} (hp : gR p = true) (hq : gR q = true) : run fs tk g (e + 1) jp [rt p, rt q] = .ret (rt (rpl p q)) false [] := by
  obtain ⟨k, rfl⟩ : ∃ k, e = k + 1 := ⟨e - 1, by omega⟩
  rw [run_at R.pl rfl]
  obtain ⟨h1, h2, h3⟩ := rpl_g hp hq
  exact pl_ok _ _ _ _ p q hp hq (R.lw k _ _ (by omega) h1 h2 h3)
/-! ### a whole row's -/
def sumR : Int × Int → List (Int × Int) → Int × Int
  | a, [] => a
  | a, p :: r => sumR (rpl a p) r
def sumG : Int × Int → List (Int × Int) → Bool
  | a, [] => true
  | a, p :: r => gR a && (gR p && sumG (rpl a p) r)
def S_sb (jp : Nat) : S := (.seq (.asn 1 (.call jp [false, false] (.cons (.var 1) (.cons (.var 2) .nil)))) .nil)
def S_sr (jp : Nat) (z : E) : S := (.seq (.asn 1 z) (.seq (.for_ (.n 2) .seq (.cons (.var 0) .nil) (S_sb jp)) (.seq (.ret (.var 1)) .nil)))
def FD_sr (jp : Nat) (z : E) : FD := ⟨3, [false], S_sr jp z⟩
theorem sr_loop (C : Fn) (tk : Tk) (g jp : Nat) (w : W) (hC : ∀ p q, gR p = true → gR q = true → C jp [rt p, rt q] = .ret (rt (rpl p q)) false []) : ∀ (l : List (Int × Int)) (a : Int × Int) (x : Option (W × Fl)), plainS x = true → sumG a l = true → ∃ x', forL (fun w ρ => match asP (.n 2) w ρ with
    | none => SO.bad
    | some ρ1 => xs C tk g (S_sb jp) ρ1) (l.map rt) [some (w, .sh), some (rt a, .sh), x] = .nx [some (w, .sh), some (rt (sumR a l), .sh), x']
  | [], a, x, _, _ => ⟨x, rfl⟩
  | p :: l, a, x, hx, hg => by
    obtain ⟨g1, g2⟩ := Bool.and_eq_true_iff.mp hg
    obtain ⟨g2, g3⟩ := Bool.and_eq_true_iff.mp g2
    obtain ⟨x', e⟩ := sr_loop C tk g jp w hC l (rpl a p) (some (rt p, .sh)) rfl g3
    refine ⟨x', ?_⟩
    have e0 : asP (.n 2) (rt p) [some (w, .sh), some (rt a, .sh), x] = some [some (w, .sh), some (rt a, .sh), some (rt p, .sh)] := by
      cases x with
      | none => rfl
      | some y => obtain ⟨u, f⟩ := y; cases f <;> first | rfl | cases hx
    have e1 : xs C tk g (S_sb jp) [some (w, .sh), some (rt a, .sh), some (rt p, .sh)] = .nx [some (w, .sh), some (rt (rpl a p), .sh), some (rt p, .sh)] := by
      have h := hC a p g1 g2
      show SO.thn (SO.bnd (match C jp [rt a, rt p] with
        | .bad => Out.bad
        | .ret w' fr ios => match ioB [some (w, .sh), some (rt a, .sh), some (rt p, .sh)] [false, false] [.slot 1, .slot 2] ios with
          | some ρ2 => .ok (.val w' fr) ρ2
          | none => .bad
        | .ex x p' ios => match ioB [some (w, .sh), some (rt a, .sh), some (rt p, .sh)] [false, false] [.slot 1, .slot 2] ios with
          | some ρ2 => .ex x p' ρ2
          | none => .bad) fun a ρ1 => ofE (asA 1 a ρ1)) (fun ρ => .nx ρ) = _
      rw [h]; rfl
    simp only [List.map_cons, forL, e0, e1]
    exact e
theorem sr_ok (C : Fn) (tk : Tk) (g jp : Nat) (z : E) (l : List (Int × Int)) (hz : ∀ ρ, (ev C z).x ρ = .ok (.val (rt (0, 1)) false) ρ) (hg : sumG (0, 1) l = true) (hC : ∀ p q, gR p = true → gR q = true → C jp [rt p, rt q] = .ret (rt (rpl p q)) false []) :
    ofS (FD_sr jp z) (xs C tk g (S_sr jp z) [some (.lst (l.map rt), .sh), none, none]) = .ret (rt (sumR (0, 1) l)) false [] := by
  obtain ⟨x', e⟩ := sr_loop C tk g jp (.lst (l.map rt)) hC l (0, 1) none rfl hg
  show ofS (FD_sr jp z) (SO.thn (SO.bnd ((ev C z).x [some (.lst (l.map rt), .sh), none, none]) fun a ρ1 => ofE (asA 1 a ρ1)) fun ρ1 => xs C tk g (.seq (.for_ (.n 2) .seq (.cons (.var 0) .nil) (S_sb jp)) (.seq (.ret (.var 1)) .nil)) ρ1) = _
  rw [hz]
  show ofS (FD_sr jp z) (SO.thn ((forL (fun w ρ => match asP (.n 2) w ρ with
    | none => SO.bad
    | some ρ1 => xs C tk g (S_sb jp) ρ1) (l.map rt) [some (.lst (l.map rt), .sh), some (rt (0, 1), .sh), none]).mapE fun ρ => ρ) fun ρ => xs C tk g (.seq (.ret (.var 1)) .nil) ρ) = _
  rw [e]
  rfl
/-- a row of ratios -/
def toR : W → Option (Int × Int)
  | .tup [.int a, .int b] => some (a, b)
  | _ => none
def toRs : List W → Option (List (Int × Int))
  | [] => some []
  | w :: r => match toR w, toRs r with
    | some p, some l => some (p :: l)
    | _, _ => none
theorem toR_ok {w : W} {p : Int × Int} (h : toR w = some p) : w = rt p := by
  unfold toR at h
  split at h
  · cases h; rfl
  · cases h
theorem toRs_ok : ∀ {ws : List W} {l : List (Int × Int)}, toRs ws = some l → ws = l.map rt
  | [], l, h => by cases h; rfl
  | w :: r, l, h => by
    simp only [toRs] at h
    split at h
    · rename_i p l' e1 e2
      cases h
      rw [toR_ok e1, toRs_ok e2]; rfl
    · cases h
end Py

namespace Py
open PySem PySem.Spec PyProof.Rows L2
def sumO : Int × Int → List (Int × Int) → Option (Int × Int)
  | a, [] => some a
  | a, p :: r => if (gR a && gR p) = true then sumO (rpl a p) r else none
theorem sumO_ok : ∀ {l : List (Int × Int)} {a r : Int × Int}, sumO a l = some r → sumG a l = true ∧ sumR a l = r
  | [], a, r, h => by cases h; exact ⟨rfl, rfl⟩
  | p :: l, a, r, h => by
    simp only [sumO] at h
    split at h
    · rename_i q
      obtain ⟨q1, q2⟩ := Bool.and_eq_true_iff.mp q
      obtain ⟨h1, h2⟩ := sumO_ok h
      exact ⟨by simp only [sumG, q1, q2, h1, Bool.and_self], h2⟩
    · cases h
/-- lowest, plus, sum by their values -/
def oQ (jl jp js : List Nat) (f : Nat) (ws : List W) : Option CO :=
  if jl.contains f then oR jl f ws
  else if jp.contains f then (match ws with
    | [u, v] => match toR u, toR v with
      | some p, some q => if (gR p && gR q) = true then some (.ret (rt (rpl p q)) false []) else none
      | _, _ => none
    | _ => none)
  else if js.contains f then (match ws with
    | [.lst us] => match toRs us with
      | some l => match sumO (0, 1) l with
        | some r => some (.ret (rt r) false [])
        | none => none
      | none => none
    | _ => none)
  else none
theorem oR_inv {js : List Nat} {f : Nat} {ws : List W} {r : CO} (h : oR js f ws = some r) : ∃ a b, ws = [.int a, .int b] ∧ b ≠ 0 ∧ sm 9000 a = true ∧ sm 9000 b = true ∧ r = .ret (rt (low a b)) false [] ∧ f ∈ js := by
  unfold oR at h
  split at h
  · rename_i hf
    split at h
    · rename_i a b
      split at h
      · rename_i q
        obtain ⟨h1, h2⟩ := Bool.and_eq_true_iff.mp q.2
        exact ⟨a, b, rfl, q.1, h1, h2, (Option.some.inj h).symm, List.contains_iff_mem.mp hf⟩
      · cases h
    · cases h
  · cases h
theorem oQ_inv {jl jp js : List Nat} {f : Nat} {ws : List W} {r : CO} (h : oQ jl jp js f ws = some r) :
    (∃ a b, ws = [.int a, .int b] ∧ b ≠ 0 ∧ sm 9000 a = true ∧ sm 9000 b = true ∧ r = .ret (rt (low a b)) false [] ∧ f ∈ jl) ∨
    (∃ p q, ws = [rt p, rt q] ∧ gR p = true ∧ gR q = true ∧ r = .ret (rt (rpl p q)) false [] ∧ f ∈ jp) ∨
    ∃ l, ws = [.lst (l.map rt)] ∧ sumG (0, 1) l = true ∧ r = .ret (rt (sumR (0, 1) l)) false [] ∧ f ∈ js := by
  unfold oQ at h
  split at h
  · exact .inl (oR_inv h)
  · split at h
    · rename_i hf
      split at h
      · rename_i u v
        split at h
        · rename_i p q e1 e2
          split at h
          · rename_i k
            obtain ⟨k1, k2⟩ := Bool.and_eq_true_iff.mp k
            exact .inr (.inl ⟨p, q, by rw [toR_ok e1, toR_ok e2], k1, k2, (Option.some.inj h).symm, List.contains_iff_mem.mp hf⟩)
          · cases h
        · cases h
      · cases h
    · split at h
      · rename_i hf
        split at h
        · rename_i us
          split at h
          · rename_i l e1
            split at h
            · rename_i r' e2
              obtain ⟨k1, k2⟩ := sumO_ok e2
              exact .inr (.inr ⟨l, by rw [toRs_ok e1], k1, by rw [k2]; exact (Option.some.inj h).symm, List.contains_iff_mem.mp hf⟩)
            · cases h
          · cases h
        · cases h
      · cases h
/-- such a def, where it stands -/
inductive RD (fs : List FD) : Nat → Nat → Nat → Prop
  | lw {jc jl : Nat} : fs[jc]? = some FD_cm → fs[jl]? = some (FD_lw jc) → RD fs 0 jl 0
  | lwl {jl : Nat} : fs[jl]? = some FD_lwl → RD fs 0 jl 0
  | pl {jl jp : Nat} : RD fs 0 jl 0 → fs[jp]? = some (FD_pl jl) → RD fs 1 jp 0
  | sr {jp js : Nat} {z : E} : RD fs 1 jp 0 → (∀ C ρ, (ev C z).x ρ = .ok (.val (rt (0, 1)) false) ρ) → fs[js]? = some (FD_sr jp z) → RD fs 2 js 0
theorem RD.low {fs : List FD} {tk : Tk} {g jl : Nat} (hg : 2 ^ 9000 ≤ g) (h : RD fs 0 jl 0) {d : Nat} {a b : Int} (hb : b ≠ 0) (h1 : sm 9000 a = true) (h2 : sm 9000 b = true) : run fs tk g (d + 2) jl [.int a, .int b] = .ret (rt (low a b)) false [] := by
  cases h with
  | lw e1 e2 =>
    rw [run_at e2 rfl]
    refine lw_ok _ _ _ _ a b hb h1 h2 ?_
    rw [run_at e1 rfl]
    exact cm_ok _ _ _ a b (Nat.lt_of_lt_of_le (sm_lt h2) hg)
  | lwl e =>
    rw [run_at e rfl]
    exact lwl_ok _ _ _ a b hb h1 h2 hg
theorem RD.plus {fs : List FD} {tk : Tk} {g jp : Nat} (hg : 2 ^ 9000 ≤ g) (h : RD fs 1 jp 0) {d : Nat} {p q : Int × Int} (hp : gR p = true) (hq : gR q = true) : run fs tk g (d + 3) jp [rt p, rt q] = .ret (rt (rpl p q)) false [] := by
  cases h with
  | pl e1 e2 =>
    rw [run_at e2 rfl]
    obtain ⟨h1, h2, h3⟩ := rpl_g hp hq
    exact pl_ok _ _ _ _ p q hp hq (e1.low hg h1 h2 h3)
theorem RD.sum {fs : List FD} {tk : Tk} {g js : Nat} (hg : 2 ^ 9000 ≤ g) (h : RD fs 2 js 0) {d : Nat} {l : List (Int × Int)} (hl : sumG (0, 1) l = true) : run fs tk g (d + 4) js [.lst (l.map rt)] = .ret (rt (sumR (0, 1) l)) false [] := by
  cases h with
  | sr e1 hz e2 =>
    rw [run_at e2 rfl]
    exact sr_ok _ _ _ _ _ l (fun ρ => hz _ ρ) hl fun p q hp hq => e1.plus hg hp hq
theorem oQ_ok {fs : List FD} {tk : Tk} {g : Nat} {jl jp js : List Nat} (hg : 2 ^ 9000 ≤ g) (hl : ∀ j ∈ jl, RD fs 0 j 0) (hp : ∀ j ∈ jp, RD fs 1 j 0) (hs : ∀ j ∈ js, RD fs 2 j 0) (d f : Nat) (ws : List W) (r : CO) (h : oQ jl jp js f ws = some r) : run fs tk g (5 + d + 1) f ws = r := by
  rcases oQ_inv h with ⟨a, b, rfl, hb, h1, h2, rfl, hf⟩ | ⟨p, q, rfl, h1, h2, rfl, hf⟩ | ⟨l, rfl, h1, rfl, hf⟩
  · rw [show 5 + d + 1 = (d + 4) + 2 by omega]; exact (hl f hf).low hg hb h1 h2
  · rw [show 5 + d + 1 = (d + 3) + 3 by omega]; exact (hp f hf).plus hg h1 h2
  · rw [show 5 + d + 1 = (d + 2) + 4 by omega]; exact (hs f hf).sum hg h1
end Py

namespace Py
open PySem PySem.Spec PyProof.Rows L2
/-! ### ratios as numbers -/
def rmi (p q : Int × Int) : Int × Int := low (p.1 * q.2 - q.1 * p.2) (p.2 * q.2)
def rtm (p q : Int × Int) : Int × Int := low (p.1 * q.1) (p.2 * q.2)
def rdv (p q : Int × Int) : Int × Int := low (p.1 * q.2) (p.2 * q.1)
def rls (p q : Int × Int) : Bool := decide (p.1 * q.2 < q.1 * p.2)
/-- in lowest terms by what -/
theorem low_by (a b : Int) (hb : b ≠ 0) : ∃ g a' b' : Int, 0 < g ∧ a = g * a' ∧ b = g * b' ∧ ((0 < b ∧ 0 < b' ∧ low a b = (a', b')) ∨ (b < 0 ∧ b' < 0 ∧ low a b = (-a', -b'))) := by
  have hg : 0 < Nat.gcd a.natAbs b.natAbs := Nat.gcd_pos_of_pos_right _ (by omega)
  have h1 : ((Nat.gcd a.natAbs b.natAbs : Nat) : Int) ∣ a := Int.ofNat_dvd_left.2 (Nat.gcd_dvd_left _ _)
  have h2 : ((Nat.gcd a.natAbs b.natAbs : Nat) : Int) ∣ b := Int.ofNat_dvd_left.2 (Nat.gcd_dvd_right _ _)
  obtain ⟨a', ha'⟩ := h1
  obtain ⟨b', hb'⟩ := h2
  have hgi : (0 : Int) < ((Nat.gcd a.natAbs b.natAbs : Nat) : Int) := by omega
  have dv : ∀ x : Int, Int.fdiv (((Nat.gcd a.natAbs b.natAbs : Nat) : Int) * x) ((Nat.gcd a.natAbs b.natAbs : Nat) : Int) = x := fun x => by
    rw [Int.mul_comm, Int.mul_fdiv_cancel _ (by omega)]
  have ea : Int.fdiv a ((Nat.gcd a.natAbs b.natAbs : Nat) : Int) = a' := (congrArg (fun t => Int.fdiv t ((Nat.gcd a.natAbs b.natAbs : Nat) : Int)) ha').trans (dv a')
  have eb : Int.fdiv b ((Nat.gcd a.natAbs b.natAbs : Nat) : Int) = b' := (congrArg (fun t => Int.fdiv t ((Nat.gcd a.natAbs b.natAbs : Nat) : Int)) hb').trans (dv b')
  have na : Int.fdiv (-a) ((Nat.gcd a.natAbs b.natAbs : Nat) : Int) = -a' := (congrArg (fun t => Int.fdiv (-t) ((Nat.gcd a.natAbs b.natAbs : Nat) : Int)) ha').trans (by rw [← Int.mul_neg]; exact dv _)
  have nb : Int.fdiv (-b) ((Nat.gcd a.natAbs b.natAbs : Nat) : Int) = -b' := (congrArg (fun t => Int.fdiv (-t) ((Nat.gcd a.natAbs b.natAbs : Nat) : Int)) hb').trans (by rw [← Int.mul_neg]; exact dv _)
  refine ⟨_, a', b', hgi, ha', hb', ?_⟩
  unfold low
  by_cases hp : 0 < b
  · refine .inl ⟨hp, ?_, ?_⟩
    · refine Int.pos_of_mul_pos_right ?_ hgi
      exact hb' ▸ hp
    · rw [if_pos hp, ea, eb]
  · have hn : b < 0 := by omega
    refine .inr ⟨hn, ?_, ?_⟩
    · by_cases h0 : b' < 0
      · exact h0
      · have := Int.mul_nonneg (Int.le_of_lt hgi) (show 0 ≤ b' by omega)
        rw [← hb'] at this; omega
    · rw [if_neg hp, na, nb]

/-- at most so many bits, a positive denominator -/
def bd (k : Nat) (p : Int × Int) : Prop := p.1.natAbs < 2 ^ k ∧ 0 < p.2 ∧ p.2.natAbs < 2 ^ k
theorem natAbs_le_mul {g x : Int} (h : 0 < g) : x.natAbs ≤ (g * x).natAbs := by
  rw [Int.natAbs_mul]
  exact Nat.le_mul_of_pos_left _ (by omega)
theorem low_bd {k : Nat} {a b : Int} (hb : b ≠ 0) (h1 : a.natAbs < 2 ^ k) (h2 : b.natAbs < 2 ^ k) : bd k (low a b) := by
  obtain ⟨g, a', b', hg, rfl, rfl, ⟨_, h3, e⟩ | ⟨_, h3, e⟩⟩ := low_by a b hb
  · rw [e]
    exact ⟨Nat.lt_of_le_of_lt (natAbs_le_mul hg) h1, h3, Nat.lt_of_le_of_lt (natAbs_le_mul hg) h2⟩
  · rw [e]
    have h4 : (-a').natAbs = a'.natAbs := Int.natAbs_neg a'
    have h5 : (-b').natAbs = b'.natAbs := Int.natAbs_neg b'
    refine ⟨?_, show 0 < -b' by omega, ?_⟩
    · show (-a').natAbs < _
      rw [h4]; exact Nat.lt_of_le_of_lt (natAbs_le_mul hg) h1
    · show (-b').natAbs < _
      rw [h5]; exact Nat.lt_of_le_of_lt (natAbs_le_mul hg) h2
theorem bd.up {k m : Nat} {p : Int × Int} (h : bd k p) (hk : k ≤ m) : bd m p := by
  have := Nat.pow_le_pow_right (n := 2) (by decide) hk
  exact ⟨Nat.lt_of_lt_of_le h.1 this, h.2.1, Nat.lt_of_lt_of_le h.2.2 this⟩
theorem mul_lt2 {k m : Nat} {i j : Int} (h : i.natAbs < 2 ^ k) (h' : j.natAbs < 2 ^ m) : (i * j).natAbs < 2 ^ (k + m) := by
  rw [Int.natAbs_mul, Nat.pow_add]
  exact Nat.mul_lt_mul'' h h'
theorem rpl_bd {k m : Nat} {p q : Int × Int} (hp : bd k p) (hq : bd m q) : bd (k + m + 1) (rpl p q) := by
  have h1 := mul_lt2 hp.1 hq.2.2
  have h2 := mul_lt2 hq.1 hp.2.2
  have h3 := mul_lt2 hp.2.2 hq.2.2
  have h4 := Int.natAbs_add_le (p.1 * q.2) (q.1 * p.2)
  have h5 : 2 ^ (m + k) = 2 ^ (k + m) := by rw [Nat.add_comm]
  have h6 : 2 ^ (k + m + 1) = 2 ^ (k + m) * 2 := Nat.pow_succ ..
  have h7 := Int.mul_pos hp.2.1 hq.2.1
  exact low_bd (by omega) (by omega) (by omega)
theorem rmi_bd {k m : Nat} {p q : Int × Int} (hp : bd k p) (hq : bd m q) : bd (k + m + 1) (rmi p q) := by
  have h1 := mul_lt2 hp.1 hq.2.2
  have h2 := mul_lt2 hq.1 hp.2.2
  have h3 := mul_lt2 hp.2.2 hq.2.2
  have h4 := Int.natAbs_sub_le (p.1 * q.2) (q.1 * p.2)
  have h5 : 2 ^ (m + k) = 2 ^ (k + m) := by rw [Nat.add_comm]
  have h6 : 2 ^ (k + m + 1) = 2 ^ (k + m) * 2 := Nat.pow_succ ..
  have h7 := Int.mul_pos hp.2.1 hq.2.1
  exact low_bd (by omega) (by omega) (by omega)
theorem rtm_bd {k m : Nat} {p q : Int × Int} (hp : bd k p) (hq : bd m q) : bd (k + m) (rtm p q) := by
  have h1 := mul_lt2 hp.1 hq.1
  have h3 := mul_lt2 hp.2.2 hq.2.2
  have h7 := Int.mul_pos hp.2.1 hq.2.1
  exact low_bd (by omega) h1 h3
theorem bd.g {k : Nat} {p : Int × Int} (h : bd k p) (hk : k ≤ 4490) : gR p = true := by
  have h := h.up hk
  have h1 := sm_of_lt h.1 (by decide)
  have h2 := sm_of_lt h.2.2 (by decide)
  unfold gR
  rw [h1, h2]
  have : (p.2 == 0) = false := by
    have := h.2.1
    simp; omega
  rw [this]; rfl

/-! ### by their values -/
def qv (p : Int × Int) : Rat := (p.1 : Rat) / (p.2 : Rat)
theorem low_qv {a b : Int} (hb : b ≠ 0) : qv (low a b) = (a : Rat) / (b : Rat) := by
  obtain ⟨g, a', b', hg, rfl, rfl, ⟨_, h3, e⟩ | ⟨_, h3, e⟩⟩ := low_by a b hb
  · rw [e]
    show (a' : Rat) / (b' : Rat) = _
    have h1 : (g : Rat) ≠ 0 := by simpa using (show g ≠ 0 by omega)
    have h2 : (b' : Rat) ≠ 0 := by simpa using (show b' ≠ 0 by omega)
    rw [Rat.intCast_mul, Rat.intCast_mul]
    grind
  · rw [e]
    show ((-a' : Int) : Rat) / ((-b' : Int) : Rat) = _
    have h1 : (g : Rat) ≠ 0 := by simpa using (show g ≠ 0 by omega)
    have h2 : (b' : Rat) ≠ 0 := by simpa using (show b' ≠ 0 by omega)
    rw [Rat.intCast_mul, Rat.intCast_mul, Rat.intCast_neg, Rat.intCast_neg]
    grind
theorem rat_ne {b : Int} (h : b ≠ 0) : (b : Rat) ≠ 0 := by simpa using h
theorem rpl_qv {p q : Int × Int} (hp : p.2 ≠ 0) (hq : q.2 ≠ 0) : qv (rpl p q) = qv p + qv q := by
  unfold rpl
  rw [low_qv (Int.mul_ne_zero hp hq)]
  unfold qv
  have h1 := rat_ne hp
  have h2 := rat_ne hq
  rw [Rat.intCast_add, Rat.intCast_mul, Rat.intCast_mul, Rat.intCast_mul]
  grind
theorem rmi_qv {p q : Int × Int} (hp : p.2 ≠ 0) (hq : q.2 ≠ 0) : qv (rmi p q) = qv p - qv q := by
  unfold rmi
  rw [low_qv (Int.mul_ne_zero hp hq)]
  unfold qv
  have h1 := rat_ne hp
  have h2 := rat_ne hq
  rw [Rat.intCast_sub, Rat.intCast_mul, Rat.intCast_mul, Rat.intCast_mul]
  grind
theorem rtm_qv {p q : Int × Int} (hp : p.2 ≠ 0) (hq : q.2 ≠ 0) : qv (rtm p q) = qv p * qv q := by
  unfold rtm
  rw [low_qv (Int.mul_ne_zero hp hq)]
  unfold qv
  have h1 := rat_ne hp
  have h2 := rat_ne hq
  rw [Rat.intCast_mul, Rat.intCast_mul]
  grind
theorem rls_qv {p q : Int × Int} (hp : 0 < p.2) (hq : 0 < q.2) : rls p q = true ↔ qv p < qv q := by
  unfold rls qv
  rw [decide_eq_true_iff]
  have h1 : (0 : Rat) < (p.2 : Rat) := Rat.intCast_pos.mpr hp
  have h2 : (0 : Rat) < (q.2 : Rat) := Rat.intCast_pos.mpr hq
  rw [← Rat.intCast_lt_intCast, Rat.intCast_mul, Rat.intCast_mul]
  rw [Rat.div_lt_iff h1]
  have e : (q.1 : Rat) / (q.2 : Rat) * (p.2 : Rat) = (q.1 : Rat) * (p.2 : Rat) / (q.2 : Rat) := by grind
  rw [e, Rat.lt_div_iff h2]
end Py

namespace Py
open PySem PySem.Spec PyProof.Rows L2
/-! ### minus, times, divided, less, greatest -/
def S_mi (jl : Nat) : S := (.seq (.ret (.call jl [false, false] (.cons (.op .sub (.op .mul (.ix (.var 0) (.con (.int 0))) (.ix (.var 1) (.con (.int 1)))) (.op .mul (.ix (.var 1) (.con (.int 0))) (.ix (.var 0) (.con (.int 1))))) (.cons (.op .mul (.ix (.var 0) (.con (.int 1))) (.ix (.var 1) (.con (.int 1)))) .nil)))) .nil)
def FD_mi (jl : Nat) : FD := ⟨2, [false, false], S_mi jl⟩
def S_tm (jl : Nat) : S := (.seq (.ret (.call jl [false, false] (.cons (.op .mul (.ix (.var 0) (.con (.int 0))) (.ix (.var 1) (.con (.int 0)))) (.cons (.op .mul (.ix (.var 0) (.con (.int 1))) (.ix (.var 1) (.con (.int 1)))) .nil)))) .nil)
def FD_tm (jl : Nat) : FD := ⟨2, [false, false], S_tm jl⟩
def S_dv (jl : Nat) : S := (.seq (.ret (.call jl [false, false] (.cons (.op .mul (.ix (.var 0) (.con (.int 0))) (.ix (.var 1) (.con (.int 1)))) (.cons (.op .mul (.ix (.var 0) (.con (.int 1))) (.ix (.var 1) (.con (.int 0)))) .nil)))) .nil)
def FD_dv (jl : Nat) : FD := ⟨2, [false, false], S_dv jl⟩
def S_ls : S := (.seq (.ret (.cmp .lt (.op .mul (.ix (.var 0) (.con (.int 0))) (.ix (.var 1) (.con (.int 1)))) (.op .mul (.ix (.var 1) (.con (.int 0))) (.ix (.var 0) (.con (.int 1)))))) .nil)
def FD_ls : FD := ⟨2, [false, false], S_ls⟩
/-- the law's minus, by its plus -/
def S_ml (jp : Nat) : S := (.seq (.ret (.call jp [false, false] (.cons (.var 0) (.cons (.tup (.cons (.neg (.ix (.var 1) (.con (.int 0)))) (.cons (.ix (.var 1) (.con (.int 1))) .nil))) .nil)))) .nil)
def FD_ml (jp : Nat) : FD := ⟨2, [false, false], S_ml jp⟩
theorem subI (i j : Int) : opW .sub (.int i) (.int j) = some (.int (i - j), false) := rfl
theorem mi_ok (C : Fn) (tk : Tk) (g jl : Nat) (p q : Int × Int) (hp : gR p = true) (hq : gR q = true) (hC : C jl [.int (p.1 * q.2 - q.1 * p.2), .int (p.2 * q.2)] = .ret (rt (rmi p q)) false []) : ofS (FD_mi jl) (xs C tk g (S_mi jl) [some (rt p, .sh), some (rt q, .sh)]) = .ret (rt (rmi p q)) false [] := by
  obtain ⟨a1, a2, a3⟩ := gR_ok hp
  obtain ⟨b1, b2, b3⟩ := gR_ok hq
  have m1 : opW .mul (.int p.1) (.int q.2) = some (.int (p.1 * q.2), false) := mul_ok (sm_up a1 (by decide)) (sm_up b2 (by decide))
  have m2 : opW .mul (.int q.1) (.int p.2) = some (.int (q.1 * p.2), false) := mul_ok (sm_up b1 (by decide)) (sm_up a2 (by decide))
  have m3 : opW .mul (.int p.2) (.int q.2) = some (.int (p.2 * q.2), false) := mul_ok (sm_up a2 (by decide)) (sm_up b2 (by decide))
  simp [S_mi, xs, ev, SO.thn, rt, wOf, l2, res, ofO, ixT0, ixT1, m1, m2, m3, subI, callW, shM, shr, ioW, ioB, retA, ofS, FD_mi, ioE]
  rw [hC]
  rfl
theorem tm_ok (C : Fn) (tk : Tk) (g jl : Nat) (p q : Int × Int) (hp : gR p = true) (hq : gR q = true) (hC : C jl [.int (p.1 * q.1), .int (p.2 * q.2)] = .ret (rt (rtm p q)) false []) : ofS (FD_tm jl) (xs C tk g (S_tm jl) [some (rt p, .sh), some (rt q, .sh)]) = .ret (rt (rtm p q)) false [] := by
  obtain ⟨a1, a2, a3⟩ := gR_ok hp
  obtain ⟨b1, b2, b3⟩ := gR_ok hq
  have m1 : opW .mul (.int p.1) (.int q.1) = some (.int (p.1 * q.1), false) := mul_ok (sm_up a1 (by decide)) (sm_up b1 (by decide))
  have m3 : opW .mul (.int p.2) (.int q.2) = some (.int (p.2 * q.2), false) := mul_ok (sm_up a2 (by decide)) (sm_up b2 (by decide))
  simp [S_tm, xs, ev, SO.thn, rt, wOf, l2, res, ofO, ixT0, ixT1, m1, m3, callW, shM, shr, ioW, ioB, retA, ofS, FD_tm, ioE]
  rw [hC]
  rfl
theorem dv_ok (C : Fn) (tk : Tk) (g jl : Nat) (p q : Int × Int) (hp : gR p = true) (hq : gR q = true) (hC : C jl [.int (p.1 * q.2), .int (p.2 * q.1)] = .ret (rt (rdv p q)) false []) : ofS (FD_dv jl) (xs C tk g (S_dv jl) [some (rt p, .sh), some (rt q, .sh)]) = .ret (rt (rdv p q)) false [] := by
  obtain ⟨a1, a2, a3⟩ := gR_ok hp
  obtain ⟨b1, b2, b3⟩ := gR_ok hq
  have m1 : opW .mul (.int p.1) (.int q.2) = some (.int (p.1 * q.2), false) := mul_ok (sm_up a1 (by decide)) (sm_up b2 (by decide))
  have m3 : opW .mul (.int p.2) (.int q.1) = some (.int (p.2 * q.1), false) := mul_ok (sm_up a2 (by decide)) (sm_up b1 (by decide))
  simp [S_dv, xs, ev, SO.thn, rt, wOf, l2, res, ofO, ixT0, ixT1, m1, m3, callW, shM, shr, ioW, ioB, retA, ofS, FD_dv, ioE]
  rw [hC]
  rfl
/-- of so many bits that they may be multiplied -/
def gM (p : Int × Int) : Bool := sm 9000 p.1 && sm 9000 p.2
theorem gM_ok {p : Int × Int} (h : gM p = true) : sm 9000 p.1 = true ∧ sm 9000 p.2 = true := Bool.and_eq_true_iff.mp h
theorem bd.m {k : Nat} {p : Int × Int} (h : bd k p) (hk : k ≤ 9000) : gM p = true := by
  have h := h.up hk
  have h1 := sm_of_lt h.1 (by decide)
  have h2 := sm_of_lt h.2.2 (by decide)
  unfold gM
  rw [h1, h2]; rfl
theorem gM_of {p : Int × Int} (h : gR p = true) : gM p = true := by
  obtain ⟨a, b, _⟩ := gR_ok h
  unfold gM
  rw [sm_up a (by decide), sm_up b (by decide)]; rfl
theorem ls_ok (C : Fn) (tk : Tk) (g : Nat) (p q : Int × Int) (hp : gM p = true) (hq : gM q = true) : ofS FD_ls (xs C tk g S_ls [some (rt p, .sh), some (rt q, .sh)]) = .ret (.bl (rls p q)) false [] := by
  obtain ⟨a1, a2⟩ := gM_ok hp
  obtain ⟨b1, b2⟩ := gM_ok hq
  have m1 : opW .mul (.int p.1) (.int q.2) = some (.int (p.1 * q.2), false) := mul_ok (sm_up a1 (by decide)) (sm_up b2 (by decide))
  have m2 : opW .mul (.int q.1) (.int p.2) = some (.int (q.1 * p.2), false) := mul_ok (sm_up b1 (by decide)) (sm_up a2 (by decide))
  have c1 : cmpW .lt (.int (p.1 * q.2)) (.int (q.1 * p.2)) = some (rls p q) := rfl
  simp [S_ls, xs, ev, SO.thn, rt, wOf, l2, res, ofO, ixT0, ixT1, m1, m2, c1, bW, retA, ofS, FD_ls, ioE]
theorem ml_ok (C : Fn) (tk : Tk) (g jp : Nat) (p q : Int × Int) (hC : C jp [rt p, rt (-q.1, q.2)] = .ret (rt (rmi p q)) false []) : ofS (FD_ml jp) (xs C tk g (S_ml jp) [some (rt p, .sh), some (rt q, .sh)]) = .ret (rt (rmi p q)) false [] := by
  have hC : C jp [.tup [.int p.1, .int p.2], .tup [.int (-q.1), .int q.2]] = .ret (rt (rmi p q)) false [] := hC
  simp [S_ml, xs, ev, SO.thn, rt, wOf, l1, l2, res, ofO, ixT0, ixT1, shrs, szL, callW, shM, shr, ioW, ioB, retA, ofS, FD_ml, ioE]
  rw [hC]
  rfl
theorem rmi_rpl (p q : Int × Int) : rpl p (-q.1, q.2) = rmi p q := by
  unfold rpl rmi
  show low (p.1 * q.2 + -q.1 * p.2) (p.2 * q.2) = _
  rw [Int.neg_mul, ← Int.sub_eq_add_neg]
theorem gR_neg {q : Int × Int} (h : gR q = true) : gR (-q.1, q.2) = true := by
  unfold gR sm at h ⊢
  show (decide ((-q.1).natAbs.log2 < 4490) && (decide (q.2.natAbs.log2 < 4490) && !(q.2 == 0))) = true
  rw [Int.natAbs_neg]; exact h
section
variable {fs : List FD} {tk : Tk} {g : Nat}
theorem mi_at {jl j d : Nat} (hg : 2 ^ 9000 ≤ g) (R : RD fs 0 jl 0) (e : fs[j]? = some (FD_mi jl)) (hd : 3 ≤ d) {p q : Int × Int} (hp : gR p = true) (hq : gR q = true) : run fs tk g d j [rt p, rt q] = .ret (rt (rmi p q)) false [] := by
  obtain ⟨k, rfl⟩ : ∃ k, d = k + 3 := ⟨d - 3, by omega⟩
  rw [run_at e rfl]
  obtain ⟨a1, a2, a3⟩ := gR_ok hp
  obtain ⟨b1, b2, b3⟩ := gR_ok hq
  refine mi_ok _ _ _ _ p q hp hq (R.low hg (Int.mul_ne_zero a3 b3) (sm_of_lt ?_ (by decide)) (sm_of_lt ?_ (by decide)))
  · have h1 := sm_mul a1 b2
    have h2 := sm_mul b1 a2
    have h3 := Int.natAbs_sub_le (p.1 * q.2) (q.1 * p.2)
    have h4 : (2 : Nat) ^ (4490 + 4490) + 2 ^ (4490 + 4490) ≤ 2 ^ 9000 := by decide +kernel
    omega
  · have h1 := sm_mul a2 b2
    exact Nat.lt_of_lt_of_le h1 (by decide +kernel)
theorem tm_at {jl j d : Nat} (hg : 2 ^ 9000 ≤ g) (R : RD fs 0 jl 0) (e : fs[j]? = some (FD_tm jl)) (hd : 3 ≤ d) {p q : Int × Int} (hp : gR p = true) (hq : gR q = true) : run fs tk g d j [rt p, rt q] = .ret (rt (rtm p q)) false [] := by
  obtain ⟨k, rfl⟩ : ∃ k, d = k + 3 := ⟨d - 3, by omega⟩
  rw [run_at e rfl]
  obtain ⟨a1, a2, a3⟩ := gR_ok hp
  obtain ⟨b1, b2, b3⟩ := gR_ok hq
  exact tm_ok _ _ _ _ p q hp hq (R.low hg (Int.mul_ne_zero a3 b3) (sm_of_lt (Nat.lt_of_lt_of_le (sm_mul a1 b1) (by decide +kernel)) (by decide)) (sm_of_lt (Nat.lt_of_lt_of_le (sm_mul a2 b2) (by decide +kernel)) (by decide)))
theorem dv_at {jl j d : Nat} (hg : 2 ^ 9000 ≤ g) (R : RD fs 0 jl 0) (e : fs[j]? = some (FD_dv jl)) (hd : 3 ≤ d) {p q : Int × Int} (hp : gR p = true) (hq : gR q = true) (h0 : q.1 ≠ 0) : run fs tk g d j [rt p, rt q] = .ret (rt (rdv p q)) false [] := by
  obtain ⟨k, rfl⟩ : ∃ k, d = k + 3 := ⟨d - 3, by omega⟩
  rw [run_at e rfl]
  obtain ⟨a1, a2, a3⟩ := gR_ok hp
  obtain ⟨b1, b2, b3⟩ := gR_ok hq
  exact dv_ok _ _ _ _ p q hp hq (R.low hg (Int.mul_ne_zero a3 h0) (sm_of_lt (Nat.lt_of_lt_of_le (sm_mul a1 b2) (by decide +kernel)) (by decide)) (sm_of_lt (Nat.lt_of_lt_of_le (sm_mul a2 b1) (by decide +kernel)) (by decide)))
theorem pl_at {j d : Nat} (hg : 2 ^ 9000 ≤ g) (R : RD fs 1 j 0) (hd : 3 ≤ d) {p q : Int × Int} (hp : gR p = true) (hq : gR q = true) : run fs tk g d j [rt p, rt q] = .ret (rt (rpl p q)) false [] := by
  obtain ⟨k, rfl⟩ : ∃ k, d = k + 3 := ⟨d - 3, by omega⟩
  exact R.plus hg hp hq
theorem lw_at {j d : Nat} (hg : 2 ^ 9000 ≤ g) (R : RD fs 0 j 0) (hd : 2 ≤ d) {a b : Int} (hb : b ≠ 0) (h1 : sm 9000 a = true) (h2 : sm 9000 b = true) : run fs tk g d j [.int a, .int b] = .ret (rt (low a b)) false [] := by
  obtain ⟨k, rfl⟩ : ∃ k, d = k + 2 := ⟨d - 2, by omega⟩
  exact R.low hg hb h1 h2
theorem ml_at {jp j d : Nat} (hg : 2 ^ 9000 ≤ g) (R : RD fs 1 jp 0) (e : fs[j]? = some (FD_ml jp)) (hd : 4 ≤ d) {p q : Int × Int} (hp : gR p = true) (hq : gR q = true) : run fs tk g d j [rt p, rt q] = .ret (rt (rmi p q)) false [] := by
  obtain ⟨k, rfl⟩ : ∃ k, d = k + 4 := ⟨d - 4, by omega⟩
  rw [run_at e rfl]
  refine ml_ok _ _ _ _ p q ?_
  rw [← rmi_rpl]
  exact R.plus hg hp (gR_neg hq)
theorem ls_at {j d : Nat} (e : fs[j]? = some FD_ls) (hd : 1 ≤ d) {p q : Int × Int} (hp : gM p = true) (hq : gM q = true) : run fs tk g d j [rt p, rt q] = .ret (.bl (rls p q)) false [] := by
  obtain ⟨k, rfl⟩ : ∃ k, d = k + 1 := ⟨d - 1, by omega⟩
  rw [run_at e rfl]
  exact ls_ok _ _ _ p q hp hq
end
/-! ### the greater of two -/
def rgr (p q : Int × Int) : Int × Int := if rls p q then q else p
theorem rls_self (p : Int × Int) : rls p p = false := decide_eq_false (Int.lt_irrefl _)
def S_gr (j : Nat) : S := (.seq (.asn 1 (.ix (.var 0) (.con (.int 0)))) (.seq (.for_ (.n 2) .seq (.cons (.var 0) .nil) (.seq (.ite (.call j [false, false] (.cons (.var 1) (.cons (.var 2) .nil))) (.seq (.asn 1 (.var 2)) .nil) .nil) .nil)) (.seq (.ret (.var 1)) .nil)))
def FD_gr (j : Nat) : FD := ⟨3, [false], S_gr j⟩
theorem gr2_ok (C : Fn) (tk : Tk) (g j : Nat) (p q : W) (b : Bool) (h1 : C j [p, p] = .ret (.bl false) false []) (h2 : C j [p, q] = .ret (.bl b) false []) : ofS (FD_gr j) (xs C tk g (S_gr j) [some (.lst [p, q], .sh), none, none]) = .ret (if b then q else p) false [] := by
  have ix : ixW (.lst [p, q]) (.int 0) = some (p, false) := rfl
  cases b <;> simp [S_gr, xs, ev, SO.thn, SO.mapE, wOf, l2, lL, ress, res, ofO, ix, itW, lkE, lkE1, ulE, ulE1, forL, asP, setN, h1, h2, callW, shM, shr, ioW, ioB, trO, truth, ofE, asA, retA, ofS, FD_gr, ioE]
theorem gr2_at {fs : List FD} {tk : Tk} {g j jls d : Nat} (e : fs[j]? = some (FD_gr jls)) (el : fs[jls]? = some FD_ls) (hd : 2 ≤ d) {p q : Int × Int} (hp : gM p = true) (hq : gM q = true) : run fs tk g d j [.lst [rt p, rt q]] = .ret (rt (rgr p q)) false [] := by
  obtain ⟨k, rfl⟩ : ∃ k, d = k + 1 := ⟨d - 1, by omega⟩
  rw [run_at e rfl]
  have h := gr2_ok (run fs tk g k) tk g jls (rt p) (rt q) (rls p q) (by rw [ls_at el (by omega) hp hp, rls_self]) (ls_at el (by omega) hp hq)
  refine Eq.trans h ?_
  unfold rgr
  cases rls p q <;> rfl
/-- the law's best of two -/
def S_bs (j : Nat) : S := (.seq (.asn 2 (.ix (.var 0) (.con (.int 0)))) (.seq (.for_ (.n 3) .seq (.cons (.var 0) .nil) (.seq (.ite (.or (.and (.call j [false, false] (.cons (.var 2) (.cons (.var 3) .nil))) (.cmp .eq (.var 1) (.con (.int 1)))) (.and (.call j [false, false] (.cons (.var 3) (.cons (.var 2) .nil))) (.cmp .eq (.var 1) (.neg (.con (.int 1)))))) (.seq (.asn 2 (.var 3)) .nil) .nil) .nil)) (.seq (.ret (.var 2)) .nil)))
def FD_bs (j : Nat) : FD := ⟨4, [false, false], S_bs j⟩
theorem bs2_ok (C : Fn) (tk : Tk) (g j : Nat) (p q : W) (b b' : Bool) (h1 : C j [p, p] = .ret (.bl false) false []) (h2 : C j [p, q] = .ret (.bl b) false []) (h3 : C j [q, p] = .ret (.bl b') false []) : ofS (FD_bs j) (xs C tk g (S_bs j) [some (.lst [p, q], .sh), some (.int 1, .sh), none, none]) = .ret (if b then q else p) false [] := by
  have ix : ixW (.lst [p, q]) (.int 0) = some (p, false) := rfl
  have e1 : cmpW .eq (.int 1) (.int 1) = some true := rfl
  have e2 : cmpW .eq (.int 1) (.int (-1)) = some false := rfl
  cases b <;> cases b' <;> simp [S_bs, xs, ev, SO.thn, SO.mapE, wOf, l1, l2, lL, ress, res, ofO, ix, itW, lkE, lkE1, ulE, ulE1, forL, asP, setN, h1, h2, h3, e1, e2, bW, callW, shM, shr, ioW, ioB, trO, truth, ofE, asA, retA, ofS, FD_bs, ioE]
theorem bs2_at {fs : List FD} {tk : Tk} {g j jls d : Nat} (e : fs[j]? = some (FD_bs jls)) (el : fs[jls]? = some FD_ls) (hd : 2 ≤ d) {p q : Int × Int} (hp : gM p = true) (hq : gM q = true) : run fs tk g d j [.lst [rt p, rt q], .int 1] = .ret (rt (rgr p q)) false [] := by
  obtain ⟨k, rfl⟩ : ∃ k, d = k + 1 := ⟨d - 1, by omega⟩
  rw [run_at e rfl]
  have h := bs2_ok (run fs tk g k) tk g jls (rt p) (rt q) (rls p q) (rls q p) (by rw [ls_at el (by omega) hp hp, rls_self]) (ls_at el (by omega) hp hq) (ls_at el (by omega) hq hp)
  refine Eq.trans h ?_
  unfold rgr
  cases rls p q <;> rfl
end Py

namespace Py
open PySem PySem.Spec PyProof.Rows L2
/-! ### the first best of a row -/
def bsF (cond : Int × Int → Int × Int → Bool) : Int × Int → List (Int × Int) → Int × Int
  | a, [] => a
  | a, p :: r => bsF cond (if cond a p then p else a) r
def gMs (l : List (Int × Int)) : Bool := l.all gM
section
variable {C : Fn} {tk : Tk} {g : Nat}
def grB (j : Nat) : S := (.seq (.ite (.call j [false, false] (.cons (.var 1) (.cons (.var 2) .nil))) (.seq (.asn 1 (.var 2)) .nil) .nil) .nil)
def leB (j : Nat) : S := (.seq (.ite (.call j [false, false] (.cons (.var 2) (.cons (.var 1) .nil))) (.seq (.asn 1 (.var 2)) .nil) .nil) .nil)
def bsB (j : Nat) : S := (.seq (.ite (.or (.and (.call j [false, false] (.cons (.var 2) (.cons (.var 3) .nil))) (.cmp .eq (.var 1) (.con (.int 1)))) (.and (.call j [false, false] (.cons (.var 3) (.cons (.var 2) .nil))) (.cmp .eq (.var 1) (.neg (.con (.int 1)))))) (.seq (.asn 2 (.var 3)) .nil) .nil) .nil)
def S_le (j : Nat) : S := (.seq (.asn 1 (.ix (.var 0) (.con (.int 0)))) (.seq (.for_ (.n 2) .seq (.cons (.var 0) .nil) (leB j)) (.seq (.ret (.var 1)) .nil)))
def FD_le (j : Nat) : FD := ⟨3, [false], S_le j⟩
theorem grB_ok (j : Nat) (w p q : W) (b : Bool) (h : C j [p, q] = .ret (.bl b) false []) : xs C tk g (grB j) [some (w, .sh), some (p, .sh), some (q, .sh)] = .nx [some (w, .sh), some (if b then q else p, .sh), some (q, .sh)] := by
  cases b <;> simp [grB, xs, ev, SO.thn, wOf, res, h, callW, shM, shr, ioW, ioB, trO, truth, ofE, asA, setN]
theorem leB_ok (j : Nat) (w p q : W) (b : Bool) (h : C j [q, p] = .ret (.bl b) false []) : xs C tk g (leB j) [some (w, .sh), some (p, .sh), some (q, .sh)] = .nx [some (w, .sh), some (if b then q else p, .sh), some (q, .sh)] := by
  cases b <;> simp [leB, xs, ev, SO.thn, wOf, res, h, callW, shM, shr, ioW, ioB, trO, truth, ofE, asA, setN]
theorem bsB_ok (j : Nat) (w p q : W) (b b' : Bool) (h : C j [p, q] = .ret (.bl b) false []) (h' : C j [q, p] = .ret (.bl b') false []) : xs C tk g (bsB j) [some (w, .sh), some (.int 1, .sh), some (p, .sh), some (q, .sh)] = .nx [some (w, .sh), some (.int 1, .sh), some (if b then q else p, .sh), some (q, .sh)] := by
  have e1 : cmpW .eq (.int 1) (.int 1) = some true := rfl
  have e2 : cmpW .eq (.int 1) (.int (-1)) = some false := rfl
  cases b <;> cases b' <;> simp [bsB, xs, ev, SO.thn, wOf, l1, l2, res, ofO, h, h', e1, e2, bW, callW, shM, shr, ioW, ioB, trO, truth, ofE, asA, setN]
theorem bsB_ok' (j : Nat) (w p q : W) (b b' : Bool) (h : C j [p, q] = .ret (.bl b') false []) (h' : C j [q, p] = .ret (.bl b) false []) : xs C tk g (bsB j) [some (w, .sh), some (.int (-1), .sh), some (p, .sh), some (q, .sh)] = .nx [some (w, .sh), some (.int (-1), .sh), some (if b then q else p, .sh), some (q, .sh)] := by
  have e1 : cmpW .eq (.int (-1)) (.int 1) = some false := rfl
  have e2 : cmpW .eq (.int (-1)) (.int (-1)) = some true := rfl
  cases b <;> cases b' <;> simp [bsB, xs, ev, SO.thn, wOf, l1, l2, res, ofO, h, h', e1, e2, bW, callW, shM, shr, ioW, ioB, trO, truth, ofE, asA, setN]
theorem asP2 {w u : W} {v q : W} {x : Option (W × Fl)} (hx : plainS x = true) : asP (.n 2) q [some (w, .sh), some (v, .sh), x] = some [some (w, .sh), some (v, .sh), some (q, .sh)] := by
  cases x with
  | none => rfl
  | some y => obtain ⟨u, f⟩ := y; cases f <;> first | rfl | cases hx
theorem asP3 {w v u q : W} {x : Option (W × Fl)} (hx : plainS x = true) : asP (.n 3) q [some (w, .sh), some (v, .sh), some (u, .sh), x] = some [some (w, .sh), some (v, .sh), some (u, .sh), some (q, .sh)] := by
  cases x with
  | none => rfl
  | some y => obtain ⟨u, f⟩ := y; cases f <;> first | rfl | cases hx
theorem row_loop (cond : Int × Int → Int × Int → Bool) (B : S) (w : W) (hB : ∀ p q, gM p = true → gM q = true → xs C tk g B [some (w, .sh), some (rt p, .sh), some (rt q, .sh)] = .nx [some (w, .sh), some (if cond p q then rt q else rt p, .sh), some (rt q, .sh)]) :
    ∀ (l : List (Int × Int)) (a : Int × Int) (x : Option (W × Fl)), plainS x = true → gM a = true → gMs l = true → ∃ x', forL (fun w ρ => match asP (.n 2) w ρ with
    | none => SO.bad
    | some ρ1 => xs C tk g B ρ1) (l.map rt) [some (w, .sh), some (rt a, .sh), x] = .nx [some (w, .sh), some (rt (bsF cond a l), .sh), x']
  | [], a, x, _, _, _ => ⟨x, rfl⟩
  | p :: l, a, x, hx, ha, hl => by
    obtain ⟨g1, g2⟩ := Bool.and_eq_true_iff.mp (show (gM p && gMs l) = true from hl)
    have ha' : gM (if cond a p then p else a) = true := by split <;> assumption
    obtain ⟨x', e⟩ := row_loop cond B w hB l (if cond a p then p else a) (some (rt p, .sh)) rfl ha' g2
    refine ⟨x', ?_⟩
    have e2 : (if cond a p then rt p else rt a) = rt (if cond a p then p else a) := by split <;> rfl
    simp only [List.map_cons, forL, asP2 (u := .non) hx, hB a p ha g1, e2]
    exact e
theorem row_loop3 (cond : Int × Int → Int × Int → Bool) (B : S) (w u : W) (hB : ∀ p q, gM p = true → gM q = true → xs C tk g B [some (w, .sh), some (u, .sh), some (rt p, .sh), some (rt q, .sh)] = .nx [some (w, .sh), some (u, .sh), some (if cond p q then rt q else rt p, .sh), some (rt q, .sh)]) :
    ∀ (l : List (Int × Int)) (a : Int × Int) (x : Option (W × Fl)), plainS x = true → gM a = true → gMs l = true → ∃ x', forL (fun w ρ => match asP (.n 3) w ρ with
    | none => SO.bad
    | some ρ1 => xs C tk g B ρ1) (l.map rt) [some (w, .sh), some (u, .sh), some (rt a, .sh), x] = .nx [some (w, .sh), some (u, .sh), some (rt (bsF cond a l), .sh), x']
  | [], a, x, _, _, _ => ⟨x, rfl⟩
  | p :: l, a, x, hx, ha, hl => by
    obtain ⟨g1, g2⟩ := Bool.and_eq_true_iff.mp (show (gM p && gMs l) = true from hl)
    have ha' : gM (if cond a p then p else a) = true := by split <;> assumption
    obtain ⟨x', e⟩ := row_loop3 cond B w u hB l (if cond a p then p else a) (some (rt p, .sh)) rfl ha' g2
    refine ⟨x', ?_⟩
    have e2 : (if cond a p then rt p else rt a) = rt (if cond a p then p else a) := by split <;> rfl
    simp only [List.map_cons, forL, asP3 hx, hB a p ha g1, e2]
    exact e
end
theorem ix_hd (x : W) (r : List W) : ixW (.lst (x :: r)) (.int 0) = some (x, false) := by
  have e : L2.ixN (x :: r).length 0 = some 0 := by
    unfold L2.ixN
    rw [List.length_cons]
    split <;> rename_i q <;> first | rfl | (split <;> first | rfl | omega) | omega
  show (L2.atI (x :: r) 0).map _ = _
  unfold L2.atI
  rw [e]
  rfl
def rgt (p q : Int × Int) : Bool := rls q p
/-- the first greatest, the first least of a row -/
def grR (l : List (Int × Int)) : Int × Int := match l with
  | [] => (0, 1)
  | a :: _ => bsF rls a l
def leR (l : List (Int × Int)) : Int × Int := match l with
  | [] => (0, 1)
  | a :: _ => bsF rgt a l
section
variable {fs : List FD} {tk : Tk} {g : Nat}
theorem grR_at {j jls d : Nat} (e : fs[j]? = some (FD_gr jls)) (el : fs[jls]? = some FD_ls) (hd : 2 ≤ d) {l : List (Int × Int)} (hl : gMs l = true) (h0 : l ≠ []) : run fs tk g d j [.lst (l.map rt)] = .ret (rt (grR l)) false [] := by
  obtain ⟨k, rfl⟩ : ∃ k, d = k + 1 := ⟨d - 1, by omega⟩
  rw [run_at e rfl]
  cases l with
  | nil => exact absurd rfl h0
  | cons a r =>
    obtain ⟨g1, g2⟩ := Bool.and_eq_true_iff.mp (show (gM a && gMs r) = true from hl)
    obtain ⟨x', e2⟩ := row_loop (C := run fs tk g k) (tk := tk) (g := g) rls (grB jls) (.lst ((a :: r).map rt)) (fun p q hp hq => by rw [grB_ok jls _ (rt p) (rt q) (rls p q) (ls_at el (by omega) hp hq)]) (a :: r) a none rfl g1 hl
    show ofS (FD_gr jls) (SO.thn (SO.bnd (ofO (ixW (.lst (rt a :: r.map rt)) (.int 0)) [some (.lst ((a :: r).map rt), .sh), none, none]) fun a ρ1 => ofE (asA 1 a ρ1)) fun ρ => xs (run fs tk g k) tk g (.seq (.for_ (.n 2) .seq (.cons (.var 0) .nil) (grB jls)) (.seq (.ret (.var 1)) .nil)) ρ) = _
    rw [ix_hd]
    show ofS (FD_gr jls) (SO.thn ((forL (fun w ρ => match asP (.n 2) w ρ with
      | none => SO.bad
      | some ρ1 => xs (run fs tk g k) tk g (grB jls) ρ1) ((a :: r).map rt) [some (.lst ((a :: r).map rt), .sh), some (rt a, .sh), none]).mapE fun ρ => ρ) fun ρ => xs (run fs tk g k) tk g (.seq (.ret (.var 1)) .nil) ρ) = _
    rw [e2]
    rfl
theorem leR_at {j jls d : Nat} (e : fs[j]? = some (FD_le jls)) (el : fs[jls]? = some FD_ls) (hd : 2 ≤ d) {l : List (Int × Int)} (hl : gMs l = true) (h0 : l ≠ []) : run fs tk g d j [.lst (l.map rt)] = .ret (rt (leR l)) false [] := by
  obtain ⟨k, rfl⟩ : ∃ k, d = k + 1 := ⟨d - 1, by omega⟩
  rw [run_at e rfl]
  cases l with
  | nil => exact absurd rfl h0
  | cons a r =>
    obtain ⟨g1, g2⟩ := Bool.and_eq_true_iff.mp (show (gM a && gMs r) = true from hl)
    obtain ⟨x', e2⟩ := row_loop (C := run fs tk g k) (tk := tk) (g := g) rgt (leB jls) (.lst ((a :: r).map rt)) (fun p q hp hq => by rw [leB_ok jls _ (rt p) (rt q) (rls q p) (ls_at el (by omega) hq hp)]; rfl) (a :: r) a none rfl g1 hl
    show ofS (FD_le jls) (SO.thn (SO.bnd (ofO (ixW (.lst (rt a :: r.map rt)) (.int 0)) [some (.lst ((a :: r).map rt), .sh), none, none]) fun a ρ1 => ofE (asA 1 a ρ1)) fun ρ => xs (run fs tk g k) tk g (.seq (.for_ (.n 2) .seq (.cons (.var 0) .nil) (leB jls)) (.seq (.ret (.var 1)) .nil)) ρ) = _
    rw [ix_hd]
    show ofS (FD_le jls) (SO.thn ((forL (fun w ρ => match asP (.n 2) w ρ with
      | none => SO.bad
      | some ρ1 => xs (run fs tk g k) tk g (leB jls) ρ1) ((a :: r).map rt) [some (.lst ((a :: r).map rt), .sh), some (rt a, .sh), none]).mapE fun ρ => ρ) fun ρ => xs (run fs tk g k) tk g (.seq (.ret (.var 1)) .nil) ρ) = _
    rw [e2]
    rfl
theorem bsR_at {j jls d : Nat} (e : fs[j]? = some (FD_bs jls)) (el : fs[jls]? = some FD_ls) (hd : 2 ≤ d) {l : List (Int × Int)} (hl : gMs l = true) (h0 : l ≠ []) : run fs tk g d j [.lst (l.map rt), .int 1] = .ret (rt (grR l)) false [] := by
  obtain ⟨k, rfl⟩ : ∃ k, d = k + 1 := ⟨d - 1, by omega⟩
  rw [run_at e rfl]
  cases l with
  | nil => exact absurd rfl h0
  | cons a r =>
    obtain ⟨g1, g2⟩ := Bool.and_eq_true_iff.mp (show (gM a && gMs r) = true from hl)
    obtain ⟨x', e2⟩ := row_loop3 (C := run fs tk g k) (tk := tk) (g := g) rls (bsB jls) (.lst ((a :: r).map rt)) (.int 1) (fun p q hp hq => by rw [bsB_ok jls _ (rt p) (rt q) (rls p q) (rls q p) (ls_at el (by omega) hp hq) (ls_at el (by omega) hq hp)]) (a :: r) a none rfl g1 hl
    show ofS (FD_bs jls) (SO.thn (SO.bnd (ofO (ixW (.lst (rt a :: r.map rt)) (.int 0)) [some (.lst ((a :: r).map rt), .sh), some (.int 1, .sh), none, none]) fun a ρ1 => ofE (asA 2 a ρ1)) fun ρ => xs (run fs tk g k) tk g (.seq (.for_ (.n 3) .seq (.cons (.var 0) .nil) (bsB jls)) (.seq (.ret (.var 2)) .nil)) ρ) = _
    rw [ix_hd]
    show ofS (FD_bs jls) (SO.thn ((forL (fun w ρ => match asP (.n 3) w ρ with
      | none => SO.bad
      | some ρ1 => xs (run fs tk g k) tk g (bsB jls) ρ1) ((a :: r).map rt) [some (.lst ((a :: r).map rt), .sh), some (.int 1, .sh), some (rt a, .sh), none]).mapE fun ρ => ρ) fun ρ => xs (run fs tk g k) tk g (.seq (.ret (.var 2)) .nil) ρ) = _
    rw [e2]
    rfl
theorem bsL_at {j jls d : Nat} (e : fs[j]? = some (FD_bs jls)) (el : fs[jls]? = some FD_ls) (hd : 2 ≤ d) {l : List (Int × Int)} (hl : gMs l = true) (h0 : l ≠ []) : run fs tk g d j [.lst (l.map rt), .int (-1)] = .ret (rt (leR l)) false [] := by
  obtain ⟨k, rfl⟩ : ∃ k, d = k + 1 := ⟨d - 1, by omega⟩
  rw [run_at e rfl]
  cases l with
  | nil => exact absurd rfl h0
  | cons a r =>
    obtain ⟨g1, g2⟩ := Bool.and_eq_true_iff.mp (show (gM a && gMs r) = true from hl)
    obtain ⟨x', e2⟩ := row_loop3 (C := run fs tk g k) (tk := tk) (g := g) rgt (bsB jls) (.lst ((a :: r).map rt)) (.int (-1)) (fun p q hp hq => by rw [bsB_ok' jls _ (rt p) (rt q) (rls q p) (rls p q) (ls_at el (by omega) hp hq) (ls_at el (by omega) hq hp)]; rfl) (a :: r) a none rfl g1 hl
    show ofS (FD_bs jls) (SO.thn (SO.bnd (ofO (ixW (.lst (rt a :: r.map rt)) (.int 0)) [some (.lst ((a :: r).map rt), .sh), some (.int (-1), .sh), none, none]) fun a ρ1 => ofE (asA 2 a ρ1)) fun ρ => xs (run fs tk g k) tk g (.seq (.for_ (.n 3) .seq (.cons (.var 0) .nil) (bsB jls)) (.seq (.ret (.var 2)) .nil)) ρ) = _
    rw [ix_hd]
    show ofS (FD_bs jls) (SO.thn ((forL (fun w ρ => match asP (.n 3) w ρ with
      | none => SO.bad
      | some ρ1 => xs (run fs tk g k) tk g (bsB jls) ρ1) ((a :: r).map rt) [some (.lst ((a :: r).map rt), .sh), some (.int (-1), .sh), some (rt a, .sh), none]).mapE fun ρ => ρ) fun ρ => xs (run fs tk g k) tk g (.seq (.ret (.var 2)) .nil) ρ) = _
    rw [e2]
    rfl
end

/-! ### calls by their values, by a table -/
inductive Kd | lw | pl | mi | tm | dv | ls | sr | gr | le | bs
  deriving DecidableEq
def kv2 (o : Int × Int → Int × Int → Option (Int × Int)) : List W → Option CO
  | [u, v] => match toR u, toR v with
    | some p, some q => (o p q).map fun r => .ret (rt r) false []
    | _, _ => none
  | _ => none
def kvL (o : List (Int × Int) → Option (Int × Int)) : List W → Option CO
  | [.lst us] => match toRs us with
    | some l => (o l).map fun r => .ret (rt r) false []
    | none => none
  | _ => none
def gR2 (f : Int × Int → Int × Int → Int × Int) (p q : Int × Int) : Option (Int × Int) := if (gR p && gR q) = true then some (f p q) else none
def kvB (ws : List W) : Option CO := match ws with
  | [u, v] => match toR u, toR v with
    | some p, some q => if (gM p && gM q) = true then some (.ret (.bl (rls p q)) false []) else none
    | _, _ => none
  | _ => none
def kvS (ws : List W) : Option CO := match ws with
  | [u, .int i] => if i == 1 then kvL (fun l => if (gMs l && !l.isEmpty) = true then some (grR l) else none) [u] else if i == -1 then kvL (fun l => if (gMs l && !l.isEmpty) = true then some (leR l) else none) [u] else none
  | _ => none
def kvV (k : Kd) (ws : List W) : Option CO := match k with
  | .lw => oR [0] 0 ws
  | .pl => kv2 (gR2 rpl) ws
  | .mi => kv2 (gR2 rmi) ws
  | .tm => kv2 (gR2 rtm) ws
  | .dv => kv2 (fun p q => if (gR p && (gR q && !(q.1 == 0))) = true then some (rdv p q) else none) ws
  | .ls => kvB ws
  | .sr => kvL (sumO (0, 1)) ws
  | .gr => kvL (fun l => if (gMs l && !l.isEmpty) = true then some (grR l) else none) ws
  | .le => kvL (fun l => if (gMs l && !l.isEmpty) = true then some (leR l) else none) ws
  | .bs => kvS ws
def oK (kd : List (Option Kd)) (f : Nat) (ws : List W) : Option CO := match kd[f]? with
  | some (some k) => kvV k ws
  | _ => none
/-- where such a def stands -/
inductive RK (fs : List FD) : Kd → Nat → Prop
  | lw {j : Nat} : RD fs 0 j 0 → RK fs .lw j
  | pl {j : Nat} : RD fs 1 j 0 → RK fs .pl j
  | mi {jl j : Nat} : RD fs 0 jl 0 → fs[j]? = some (FD_mi jl) → RK fs .mi j
  | ml {jp j : Nat} : RD fs 1 jp 0 → fs[j]? = some (FD_ml jp) → RK fs .mi j
  | tm {jl j : Nat} : RD fs 0 jl 0 → fs[j]? = some (FD_tm jl) → RK fs .tm j
  | dv {jl j : Nat} : RD fs 0 jl 0 → fs[j]? = some (FD_dv jl) → RK fs .dv j
  | ls {j : Nat} : fs[j]? = some FD_ls → RK fs .ls j
  | sr {j : Nat} : RD fs 2 j 0 → RK fs .sr j
  | gr {jls j : Nat} : fs[jls]? = some FD_ls → fs[j]? = some (FD_gr jls) → RK fs .gr j
  | le {jls j : Nat} : fs[jls]? = some FD_ls → fs[j]? = some (FD_le jls) → RK fs .le j
  | bs {jls j : Nat} : fs[jls]? = some FD_ls → fs[j]? = some (FD_bs jls) → RK fs .bs j
theorem kv2_inv {o : Int × Int → Int × Int → Option (Int × Int)} {ws : List W} {r : CO} (h : kv2 o ws = some r) : ∃ p q v, ws = [rt p, rt q] ∧ o p q = some v ∧ r = .ret (rt v) false [] := by
  unfold kv2 at h
  split at h
  · rename_i u v
    split at h
    · rename_i p q e1 e2
      obtain ⟨x, e3, e4⟩ := Option.map_eq_some_iff.mp h
      exact ⟨p, q, x, by rw [toR_ok e1, toR_ok e2], e3, e4.symm⟩
    · cases h
  · cases h
theorem kvL_inv {o : List (Int × Int) → Option (Int × Int)} {ws : List W} {r : CO} (h : kvL o ws = some r) : ∃ l v, ws = [.lst (l.map rt)] ∧ o l = some v ∧ r = .ret (rt v) false [] := by
  unfold kvL at h
  split at h
  · rename_i us
    split at h
    · rename_i l e1
      obtain ⟨x, e3, e4⟩ := Option.map_eq_some_iff.mp h
      exact ⟨l, x, by rw [toRs_ok e1], e3, e4.symm⟩
    · cases h
  · cases h
theorem gR2_inv {f : Int × Int → Int × Int → Int × Int} {p q v : Int × Int} (h : gR2 f p q = some v) : gR p = true ∧ gR q = true ∧ v = f p q := by
  unfold gR2 at h
  split at h
  · rename_i k
    obtain ⟨k1, k2⟩ := Bool.and_eq_true_iff.mp k
    exact ⟨k1, k2, (Option.some.inj h).symm⟩
  · cases h
theorem row_inv {f : List (Int × Int) → Int × Int} {l : List (Int × Int)} {v : Int × Int} (h : (if (gMs l && !l.isEmpty) = true then some (f l) else none) = some v) : gMs l = true ∧ l ≠ [] ∧ v = f l := by
  split at h
  · rename_i k
    obtain ⟨k1, k2⟩ := Bool.and_eq_true_iff.mp k
    refine ⟨k1, ?_, (Option.some.inj h).symm⟩
    rintro rfl
    cases k2
  · cases h
theorem kv_ok {fs : List FD} {tk : Tk} {g : Nat} (hg : 2 ^ 9000 ≤ g) {k : Kd} {f : Nat} (R : RK fs k f) (d : Nat) (ws : List W) (r : CO) (h : kvV k ws = some r) : run fs tk g (5 + d + 1) f ws = r := by
  cases R with
  | lw R =>
    obtain ⟨a, b, rfl, hb, h1, h2, rfl, _⟩ := oR_inv h
    exact lw_at hg R (by omega) hb h1 h2
  | pl R =>
    obtain ⟨p, q, v, rfl, e, rfl⟩ := kv2_inv h
    obtain ⟨h1, h2, rfl⟩ := gR2_inv e
    exact pl_at hg R (by omega) h1 h2
  | mi R e0 =>
    obtain ⟨p, q, v, rfl, e, rfl⟩ := kv2_inv h
    obtain ⟨h1, h2, rfl⟩ := gR2_inv e
    exact mi_at hg R e0 (by omega) h1 h2
  | ml R e0 =>
    obtain ⟨p, q, v, rfl, e, rfl⟩ := kv2_inv h
    obtain ⟨h1, h2, rfl⟩ := gR2_inv e
    exact ml_at hg R e0 (by omega) h1 h2
  | tm R e0 =>
    obtain ⟨p, q, v, rfl, e, rfl⟩ := kv2_inv h
    obtain ⟨h1, h2, rfl⟩ := gR2_inv e
    exact tm_at hg R e0 (by omega) h1 h2
  | dv R e0 =>
    obtain ⟨p, q, v, rfl, e, rfl⟩ := kv2_inv h
    split at e
    · rename_i k
      obtain ⟨k1, k2⟩ := Bool.and_eq_true_iff.mp k
      obtain ⟨k2, k3⟩ := Bool.and_eq_true_iff.mp k2
      cases e
      refine dv_at hg R e0 (by omega) k1 k2 fun z => ?_
      rw [z] at k3; cases k3
    · cases e
  | ls e0 =>
    have h : kvB ws = some r := h
    unfold kvB at h
    split at h
    · rename_i u v
      split at h
      · rename_i p q e1 e2
        split at h
        · rename_i k
          obtain ⟨k1, k2⟩ := Bool.and_eq_true_iff.mp k
          cases h
          rw [toR_ok e1, toR_ok e2]
          exact ls_at e0 (by omega) k1 k2
        · cases h
      · cases h
    · cases h
  | sr R =>
    obtain ⟨l, v, rfl, e, rfl⟩ := kvL_inv h
    obtain ⟨k1, rfl⟩ := sumO_ok e
    rw [show 5 + d + 1 = (d + 2) + 4 by omega]
    exact R.sum hg k1
  | gr e1 e0 =>
    obtain ⟨l, v, rfl, e, rfl⟩ := kvL_inv h
    obtain ⟨h1, h2, rfl⟩ := row_inv e
    exact grR_at e0 e1 (by omega) h1 h2
  | le e1 e0 =>
    obtain ⟨l, v, rfl, e, rfl⟩ := kvL_inv h
    obtain ⟨h1, h2, rfl⟩ := row_inv e
    exact leR_at e0 e1 (by omega) h1 h2
  | bs e1 e0 =>
    have h : kvS ws = some r := h
    unfold kvS at h
    split at h
    · rename_i u i _
      split at h
      · rename_i k
        obtain rfl : i = 1 := eq_of_beq k
        obtain ⟨l, v, e2, e, rfl⟩ := kvL_inv h
        obtain rfl : u = .lst (l.map rt) := by simpa using e2
        obtain ⟨h1, h2, rfl⟩ := row_inv e
        exact bsR_at e0 e1 (by omega) h1 h2
      · split at h
        · rename_i k
          obtain rfl : i = -1 := eq_of_beq k
          obtain ⟨l, v, e2, e, rfl⟩ := kvL_inv h
          obtain rfl : u = .lst (l.map rt) := by simpa using e2
          obtain ⟨h1, h2, rfl⟩ := row_inv e
          exact bsL_at e0 e1 (by omega) h1 h2
        · cases h
    · cases h
theorem oK_ok {fs : List FD} {tk : Tk} {g : Nat} (hg : 2 ^ 9000 ≤ g) {kd : List (Option Kd)} (R : ∀ f k, kd[f]? = some (some k) → RK fs k f) (d f : Nat) (ws : List W) (r : CO) (h : oK kd f ws = some r) : run fs tk g (5 + d + 1) f ws = r := by
  unfold oK at h
  split at h
  · rename_i k e
    exact kv_ok hg (R f k e) d ws r h
  · cases h
end Py

namespace Py
open PySem PySem.Spec PyProof.Rows L2
/-! ### loops by what stays -/
theorem lcL_map {step : W → Env → Out (Option W)} {f : W → W} {I : Env → Prop} : ∀ {its acc : List W} {ρ : Env}, (∀ w ∈ its, ∀ ρ, I ρ → ∃ ρ', step w ρ = .ok (some (f w)) ρ' ∧ I ρ') → I ρ → ∃ ρ', lcL step its acc ρ = .ok (acc ++ its.map f) ρ' ∧ I ρ'
  | [], acc, ρ, _, hi => ⟨ρ, by simp [lcL], hi⟩
  | w :: r, acc, ρ, hs, hi => by
    obtain ⟨ρ1, e1, i1⟩ := hs w List.mem_cons_self ρ hi
    obtain ⟨ρ2, e2, i2⟩ := lcL_map (its := r) (acc := acc ++ [f w]) (fun w h => hs w (List.mem_cons_of_mem _ h)) i1
    refine ⟨ρ2, ?_, i2⟩
    simp only [lcL, e1]
    rw [e2]
    simp
theorem lcL_ex {step : W → Env → Out (Option W)} {I : Env → Prop} {P : W → Prop} : ∀ {its acc : List W} {ρ : Env}, (∀ w ∈ its, ∀ ρ, I ρ → ∃ y ρ', step w ρ = .ok (some y) ρ' ∧ I ρ' ∧ P y) → I ρ → ∃ ys ρ', lcL step its acc ρ = .ok (acc ++ ys) ρ' ∧ I ρ' ∧ ys.length = its.length ∧ ∀ y ∈ ys, P y
  | [], acc, ρ, _, hi => ⟨[], ρ, by simp [lcL], hi, rfl, fun y h => nomatch h⟩
  | w :: r, acc, ρ, hs, hi => by
    obtain ⟨y, ρ1, e1, i1, p1⟩ := hs w List.mem_cons_self ρ hi
    obtain ⟨ys, ρ2, e2, i2, l2, p2⟩ := lcL_ex (its := r) (acc := acc ++ [y]) (fun w h => hs w (List.mem_cons_of_mem _ h)) i1
    refine ⟨y :: ys, ρ2, ?_, i2, by simp [l2], fun z hz => ?_⟩
    · simp only [lcL, e1]
      rw [e2]
      simp
    · rcases List.mem_cons.mp hz with rfl | hz
      · exact p1
      · exact p2 z hz
theorem forL_all {step : W → Env → SO} {I : List W → Env → Prop} : ∀ {its done : List W} {ρ : Env}, (∀ d w r, done ++ its = d ++ w :: r → done.length ≤ d.length → ∀ ρ, I d ρ → ∃ ρ', step w ρ = .nx ρ' ∧ I (d ++ [w]) ρ') → I done ρ → ∃ ρ', forL step its ρ = .nx ρ' ∧ I (done ++ its) ρ'
  | [], done, ρ, _, hi => ⟨ρ, rfl, by simpa using hi⟩
  | w :: r, done, ρ, hs, hi => by
    obtain ⟨ρ1, e1, i1⟩ := hs done w r rfl (Nat.le_refl _) ρ hi
    obtain ⟨ρ2, e2, i2⟩ := forL_all (its := r) (done := done ++ [w]) (fun d w' r' e hd => hs d w' r' (by simpa using e) (by simp at hd; omega)) i1
    refine ⟨ρ2, ?_, by simpa using i2⟩
    simp only [forL, e1]
    exact e2
theorem forL_rng {step : W → Env → SO} {I : Int → Env → Prop} : ∀ (n : Nat) {a : Int} {ρ : Env}, (∀ i ρ, a ≤ i → i < a + n → I i ρ → ∃ ρ', step (.int i) ρ = .nx ρ' ∧ I (i + 1) ρ') → I a ρ → ∃ ρ', forL step (rngL n a) ρ = .nx ρ' ∧ I (a + n) ρ'
  | 0, a, ρ, _, hi => ⟨ρ, rfl, by simpa using hi⟩
  | n + 1, a, ρ, hs, hi => by
    obtain ⟨ρ1, e1, i1⟩ := hs a ρ (Int.le_refl _) (by omega) hi
    obtain ⟨ρ2, e2, i2⟩ := forL_rng n (a := a + 1) (fun i ρ h1 h2 => hs i ρ (by omega) (by omega)) i1
    refine ⟨ρ2, ?_, by rw [show a + ((n + 1 : Nat) : Int) = a + 1 + n by omega]; exact i2⟩
    simp only [rngL, forL, e1]
    exact e2
/-! ### small things about values -/
theorem isD_rt (p : Int × Int) : isD (rt p) = false := rfl
theorem ne_rt (p : Int × Int) : cmpW .ne (rt p) (rt p) = some false := by
  show (if eqOk (rt p) (rt p) then some (!eqW (rt p) (rt p)) else none) = _
  rw [if_pos (show eqOk (rt p) (rt p) = true from rfl)]
  simp [rt, eqW, eqWs]
theorem neI (i : Int) : cmpW .ne (.int i) (.int i) = some false := by
  show (if eqOk (.int i) (.int i) then some (!eqW (.int i) (.int i)) else none) = _
  rw [if_pos (show eqOk (.int i) (.int i) = true from rfl)]
  simp [eqW]
theorem lk_mem {k v : W} : ∀ {kvs : List (W × W)}, lkW k kvs = some v → ∃ k', (k', v) ∈ kvs ∧ eqW k' k = true
  | [], h => by cases h
  | (a, u) :: r, h => by
    simp only [lkW] at h
    by_cases e : eqW a k = true
    · rw [if_pos e] at h
      cases h
      exact ⟨a, List.mem_cons_self, e⟩
    · rw [if_neg e] at h
      obtain ⟨k', m, e'⟩ := lk_mem h
      exact ⟨k', List.mem_cons_of_mem _ m, e'⟩
theorem pt_lk {k v : W} (hk : eqW k k = true) : ∀ (kvs : List (W × W)), lkW k (ptW k v kvs) = some v
  | [] => by simp [ptW, lkW, hk]
  | (a, u) :: r => by
    by_cases e : eqW a k = true
    · simp [ptW, lkW, e]
    · simp [ptW, lkW, e, pt_lk hk r]
theorem pt_ne {k k' v : W} (h0 : eqW k k' = false) : ∀ (kvs : List (W × W)), (∀ p ∈ kvs, ¬ (eqW p.1 k = true ∧ eqW p.1 k' = true)) → lkW k' (ptW k v kvs) = lkW k' kvs
  | [], _ => by simp [ptW, lkW, h0]
  | (a, u) :: r, h => by
    have ha : ¬ (eqW a k = true ∧ eqW a k' = true) := h (a, u) List.mem_cons_self
    by_cases e : eqW a k = true
    · have e' : eqW a k' = false := by
        cases q : eqW a k' with
        | false => rfl
        | true => exact absurd ⟨e, q⟩ ha
      simp [ptW, lkW, e, e']
    · have ih := pt_ne (k := k) (k' := k') (v := v) h0 r (fun p hp => h p (List.mem_cons_of_mem _ hp))
      show lkW k' (if eqW a k = true then (a, v) :: r else (a, u) :: ptW k v r) = _
      rw [if_neg e]
      simp only [lkW, ih]
theorem ptw_len (k v : W) : ∀ (kvs : List (W × W)), (ptW k v kvs).length ≤ kvs.length + 1
  | [] => by simp [ptW]
  | (a, u) :: r => by
    by_cases e : eqW a k = true
    · simp [ptW, e]
    · have := ptw_len k v r
      simp [ptW, e]; omega
theorem pt_key {k v : W} {p : W × W} : ∀ {kvs : List (W × W)}, p ∈ ptW k v kvs → p.1 = k ∨ ∃ q ∈ kvs, q.1 = p.1
  | [], h => by
    simp only [ptW, List.mem_singleton] at h
    subst h
    exact .inl rfl
  | (a, u) :: r, h => by
    by_cases e : eqW a k = true
    · simp only [ptW, e, if_true, List.mem_cons] at h
      rcases h with h | h
      · subst h; exact .inr ⟨(a, u), List.mem_cons_self, rfl⟩
      · exact .inr ⟨p, List.mem_cons_of_mem _ h, rfl⟩
    · rw [show ptW k v ((a, u) :: r) = (a, u) :: ptW k v r from if_neg e] at h
      rcases List.mem_cons.mp h with h | h
      · subst h; exact .inr ⟨(a, u), List.mem_cons_self, rfl⟩
      · exact (pt_key h).imp id fun ⟨q, h1, h2⟩ => ⟨q, List.mem_cons_of_mem _ h1, h2⟩
/-! ### bits -/
theorem bd.z {k : Nat} {p : Int × Int} (h : bd k p) : p.2 ≠ 0 := by have := h.2.1; omega
theorem one_bd : bd 1 (1, 1) := ⟨by decide, by decide, by decide⟩
theorem bsF_P {P : Int × Int → Prop} (cond : Int × Int → Int × Int → Bool) : ∀ (l : List (Int × Int)) (a : Int × Int), P a → (∀ p ∈ l, P p) → P (bsF cond a l)
  | [], a, ha, _ => ha
  | p :: l, a, ha, hl => by
    refine bsF_P cond l _ ?_ fun q hq => hl q (List.mem_cons_of_mem _ hq)
    split
    · exact hl p List.mem_cons_self
    · exact ha
theorem gMs_of {l : List (Int × Int)} (h : ∀ p ∈ l, gM p = true) : gMs l = true := List.all_eq_true.mpr h
/-- in a row, by the place of the first -/
theorem idx_some {y : W} : ∀ {l : List W}, (∃ w ∈ l, eqW w y = true) → ∃ n, idxW y l = some n
  | [], h => by obtain ⟨w, h, _⟩ := h; cases h
  | a :: r, h => by
    by_cases e : eqW a y = true
    · exact ⟨0, by simp [idxW, e]⟩
    · obtain ⟨w, hw, q⟩ := h
      rcases List.mem_cons.mp hw with rfl | hw
      · exact absurd q e
      · obtain ⟨n, hn⟩ := idx_some ⟨w, hw, q⟩
        exact ⟨n + 1, by simp [idxW, e, hn]⟩
theorem deps_rt : ∀ (l : List (Int × Int)), deps (l.map rt) ≤ 1
  | [] => by simp [deps]
  | p :: l => by
    have := deps_rt l
    have h : dep (rt p) = 1 := rfl
    simp only [List.map_cons, deps, h]
    omega
theorem eq_rt (p : Int × Int) : eqW (rt p) (rt p) = true := by simp [rt, eqW, eqWs]
theorem sz1 : 1 ≤ szL := by have : szL = 16777216 := rfl; omega
theorem sz2 : 2 ≤ szL := by have : szL = 16777216 := rfl; omega
theorem sz3 : 3 ≤ szL := by have : szL = 16777216 := rfl; omega
theorem sz4 : 4 ≤ szL := by have : szL = 16777216 := rfl; omega
theorem if_sz1 {α : Type} (a b : α) (w : W) : (if [w].length ≤ szL then a else b) = a := if_pos sz1
/-! ### a comprehension, a loop -/
theorem lc_ok {C : Fn} {elt t es : E} {p : Pt} {k : IK} {own : List Nat} {ρ ρ1 ρ3 : Env} {us : List Arg} {its outs : List W} (ha : (ev C es).a ρ = .ok us ρ1) (hb : (ress ρ1 us).bind (itW k) = some its) (hz : its.length ≤ szL) (hl : lcL (stepE own p (ev C t).t (ev C elt).x) its [] (lkE ρ1 us) = .ok outs ρ3) :
    (ev C (.lc elt p t k es own)).x ρ = .ok (.val (.lst outs) true) (ulE ρ1 (rsE (lkE ρ1 us) ρ3 own) us) := by
  have e : (ev C (.lc elt p t k es own)).x ρ = ((ev C es).a ρ).bind fun us ρ1 => match (ress ρ1 us).bind (itW k) with
      | none => .bad
      | some its => match lcL (stepE own p (ev C t).t (ev C elt).x) its [] (lkE ρ1 us) with
        | .ok acc ρ3 => if its.length ≤ szL then .ok (.val (.lst acc) true) (ulE ρ1 (rsE (lkE ρ1 us) ρ3 own) us) else .bad
        | _ => .bad := rfl
  rw [e, ha]
  simp only [Out.bind_ok, hb, hl, if_pos hz]
def stF (C : Fn) (tk : Tk) (g : Nat) (p : Pt) (b : S) (w : W) (ρ : Env) : SO := match asP p w ρ with
  | none => .bad
  | some ρ1 => xs C tk g b ρ1
theorem stF_ok {C : Fn} {tk : Tk} {g : Nat} {p : Pt} {b : S} {w : W} {ρ ρ1 : Env} (h : asP p w ρ = some ρ1) : stF C tk g p b w ρ = xs C tk g b ρ1 := by
  unfold stF
  rw [h]
theorem for_ok {C : Fn} {tk : Tk} {g : Nat} {es : E} {p : Pt} {k : IK} {b : S} {ρ ρ1 : Env} {us : List Arg} {its : List W} (ha : (ev C es).a ρ = .ok us ρ1) (hb : (ress ρ1 us).bind (itW k) = some its) :
    xs C tk g (.for_ p k es b) ρ = (forL (stF C tk g p b) its (lkE ρ1 us)).mapE fun ρ3 => ulE ρ1 ρ3 us := by
  have e : xs C tk g (.for_ p k es b) ρ = SO.bnd ((ev C es).a ρ) fun us ρ1 => match (ress ρ1 us).bind (itW k) with
    | none => .bad
    | some its => (forL (stF C tk g p b) its (lkE ρ1 us)).mapE fun ρ3 => ulE ρ1 ρ3 us := rfl
  rw [e, ha]
  simp only [SO.bnd_ok, hb]
/-- a comprehension's turn without a test -/
theorem step_ok {C : Fn} {elt : E} {p : Pt} {own : List Nat} {w y : W} {ρ ρ1 ρ2 : Env} (h1 : asP p w (wpE ρ own) = some ρ1) (h2 : stepV (ev C elt).x ρ1 = .ok (some y) ρ2) : stepE own p (ev C .nil).t (ev C elt).x w ρ = .ok (some y) ρ2 := by
  unfold stepE
  rw [h1]
  exact h2
theorem seq_nx {C : Fn} {tk : Tk} {g : Nat} {s r : S} {ρ ρ1 : Env} (h : xs C tk g s ρ = .nx ρ1) : xs C tk g (.seq s r) ρ = xs C tk g r ρ1 := by
  show SO.thn (xs C tk g s ρ) (fun ρ => xs C tk g r ρ) = _
  rw [h]
  rfl
theorem seq_rt {C : Fn} {tk : Tk} {g : Nat} {s r : S} {ρ ρ1 : Env} {w : W} {f : Bool} (h : xs C tk g s ρ = .rt w f ρ1) : xs C tk g (.seq s r) ρ = .rt w f ρ1 := by
  show SO.thn (xs C tk g s ρ) (fun ρ => xs C tk g r ρ) = _
  rw [h]
  rfl
end Py

namespace K37
open PySem PySem.Spec PyProof.Rows L2 Py
def top (i : Nat) : Stmt := PySem.Challenge.pw_worthstopping_k37_draws_prices_and_rents.main.body.getD i (.Pass ⟨0, 0, 0, 0⟩)
def dd (i : Nat) (n : Str) : He.DefD := ⟨(n, none), n, n, defArgs (top i), defBody (top i), defScope (top i), [], []⟩
def S_common : S := (.seq (.par [0, 1] (.cons (.bi .abs (.cons (.var 0) .nil)) (.cons (.bi .abs (.cons (.var 1) .nil)) .nil))) (.seq (.whl (.var 1) (.seq (.par [0, 1] (.cons (.var 1) (.cons (.op .md (.var 0) (.var 1)) .nil))) .nil)) (.seq (.ret (.var 0)) .nil)))
def I_common : Info := ⟨dd 3 "common", ["a", "b"], ["a", "b"], ⟨2, [false, false], S_common⟩⟩
def S_lowest : S := (.seq (.asn 2 (.call 0 [false, false] (.cons (.var 0) (.cons (.var 1) .nil)))) (.seq (.asn 3 (.ite (.cmp .gt (.var 1) (.con (.int 0))) (.con (.int 1)) (.neg (.con (.int 1))))) (.seq (.ret (.tup (.cons (.op .fdv (.op .mul (.var 3) (.var 0)) (.var 2)) (.cons (.op .fdv (.op .mul (.var 3) (.var 1)) (.var 2)) .nil)))) .nil)))
def I_lowest : Info := ⟨dd 4 "lowest", ["a", "b"], ["a", "b", "divisor", "sign"], ⟨4, [false, false], S_lowest⟩⟩
def S_plus : S := (.seq (.ret (.call 1 [false, false] (.cons (.op .add (.op .mul (.ix (.var 0) (.con (.int 0))) (.ix (.var 1) (.con (.int 1)))) (.op .mul (.ix (.var 1) (.con (.int 0))) (.ix (.var 0) (.con (.int 1))))) (.cons (.op .mul (.ix (.var 0) (.con (.int 1))) (.ix (.var 1) (.con (.int 1)))) .nil)))) .nil)
def I_plus : Info := ⟨dd 5 "plus", ["p", "q"], ["p", "q"], ⟨2, [false, false], S_plus⟩⟩
def S_minus : S := (.seq (.ret (.call 1 [false, false] (.cons (.op .sub (.op .mul (.ix (.var 0) (.con (.int 0))) (.ix (.var 1) (.con (.int 1)))) (.op .mul (.ix (.var 1) (.con (.int 0))) (.ix (.var 0) (.con (.int 1))))) (.cons (.op .mul (.ix (.var 0) (.con (.int 1))) (.ix (.var 1) (.con (.int 1)))) .nil)))) .nil)
def I_minus : Info := ⟨dd 6 "minus", ["p", "q"], ["p", "q"], ⟨2, [false, false], S_minus⟩⟩
def S_times : S := (.seq (.ret (.call 1 [false, false] (.cons (.op .mul (.ix (.var 0) (.con (.int 0))) (.ix (.var 1) (.con (.int 0)))) (.cons (.op .mul (.ix (.var 0) (.con (.int 1))) (.ix (.var 1) (.con (.int 1)))) .nil)))) .nil)
def I_times : Info := ⟨dd 7 "times", ["p", "q"], ["p", "q"], ⟨2, [false, false], S_times⟩⟩
def S_divided : S := (.seq (.ret (.call 1 [false, false] (.cons (.op .mul (.ix (.var 0) (.con (.int 0))) (.ix (.var 1) (.con (.int 1)))) (.cons (.op .mul (.ix (.var 0) (.con (.int 1))) (.ix (.var 1) (.con (.int 0)))) .nil)))) .nil)
def I_divided : Info := ⟨dd 8 "divided", ["p", "q"], ["p", "q"], ⟨2, [false, false], S_divided⟩⟩
def S_less : S := (.seq (.ret (.cmp .lt (.op .mul (.ix (.var 0) (.con (.int 0))) (.ix (.var 1) (.con (.int 1)))) (.op .mul (.ix (.var 1) (.con (.int 0))) (.ix (.var 0) (.con (.int 1)))))) .nil)
def I_less : Info := ⟨dd 9 "less", ["p", "q"], ["p", "q"], ⟨2, [false, false], S_less⟩⟩
def S_greatest : S := (.seq (.asn 1 (.ix (.var 0) (.con (.int 0)))) (.seq (.for_ (.n 2) .seq (.cons (.var 0) .nil) (.seq (.ite (.call 6 [false, false] (.cons (.var 1) (.cons (.var 2) .nil))) (.seq (.asn 1 (.var 2)) .nil) .nil) .nil)) (.seq (.ret (.var 1)) .nil)))
def I_greatest : Info := ⟨dd 10 "greatest", ["ratios"], ["ratios", "best", "one"], ⟨3, [false], S_greatest⟩⟩
def S_least : S := (.seq (.asn 1 (.ix (.var 0) (.con (.int 0)))) (.seq (.for_ (.n 2) .seq (.cons (.var 0) .nil) (.seq (.ite (.call 6 [false, false] (.cons (.var 2) (.cons (.var 1) .nil))) (.seq (.asn 1 (.var 2)) .nil) .nil) .nil)) (.seq (.ret (.var 1)) .nil)))
def I_least : Info := ⟨dd 11 "least", ["ratios"], ["ratios", "best", "one"], ⟨3, [false], S_least⟩⟩
def S_sum_of : S := (.seq (.asn 1 (.con (.tup [(.int 0), (.int 1)]))) (.seq (.for_ (.n 2) .seq (.cons (.var 0) .nil) (.seq (.asn 1 (.call 2 [false, false] (.cons (.var 1) (.cons (.var 2) .nil)))) .nil)) (.seq (.ret (.var 1)) .nil)))
def I_sum_of : Info := ⟨dd 12 "sum_of", ["ratios"], ["ratios", "found", "one"], ⟨3, [false], S_sum_of⟩⟩
def S_scaled : S := (.seq (.ret (.lc (.call 4 [false, false] (.cons (.var 2) (.cons (.var 1) .nil))) (.n 2) .nil .seq (.cons (.var 0) .nil) [2])) .nil)
def I_scaled : Info := ⟨dd 13 "scaled", ["row", "factor"], ["row", "factor", "one"], ⟨3, [false, false], S_scaled⟩⟩
def S_less_row : S := (.seq (.ret (.lc (.call 3 [false, false] (.cons (.var 3) (.cons (.call 4 [false, false] (.cons (.var 4) (.cons (.var 2) .nil))) .nil))) (.t (.cons (.n 3) (.cons (.n 4) .nil))) .nil .zip (.cons (.var 0) (.cons (.var 1) .nil)) [3, 4])) .nil)
def I_less_row : Info := ⟨dd 14 "less_row", ["row", "other", "factor"], ["row", "other", "factor", "a", "b"], ⟨5, [false, false, false], S_less_row⟩⟩
def S_draws_worth : S := (.seq (.asn 1 (.tup (.cons (.con (.int 1)) (.cons (.con (.int 2)) .nil)))) (.seq (.for_ (.n 2) .rng (.cons (.op .sub (.var 0) (.con (.int 1))) .nil) (.seq (.asn 1 (.call 4 [false, false] (.cons (.tup (.cons (.con (.int 1)) (.cons (.con (.int 2)) .nil))) (.cons (.call 2 [false, false] (.cons (.con (.tup [(.int 1), (.int 1)])) (.cons (.call 4 [false, false] (.cons (.var 1) (.cons (.var 1) .nil))) .nil))) .nil)))) .nil)) (.seq (.ret (.var 1)) .nil)))
def I_draws_worth : Info := ⟨dd 16 "draws_worth", ["n"], ["n", "found", "_"], ⟨3, [false], S_draws_worth⟩⟩
def S_taking_above : S := (.seq (.asn 3 (.call 4 [false, false] (.cons (.call 4 [false, false] (.cons (.tup (.cons (.con (.int 1)) (.cons (.con (.int 2)) .nil))) (.cons (.call 3 [false, false] (.cons (.con (.tup [(.int 1), (.int 1)])) (.cons (.call 4 [false, false] (.cons (.var 0) (.cons (.var 0) .nil))) .nil))) .nil))) (.cons (.con (.tup [(.int 1), (.int 1)])) .nil)))) (.seq (.asn 4 (.call 3 [false, false] (.cons (.con (.tup [(.int 1), (.int 1)])) (.cons (.var 0) .nil)))) (.seq (.ret (.call 9 [false] (.cons (.lst (.cons (.var 3) (.cons (.call 4 [false, false] (.cons (.var 4) (.cons (.var 1) .nil))) (.cons (.call 4 [false, false] (.cons (.var 0) (.cons (.var 2) .nil))) .nil)))) .nil))) .nil)))
def I_taking_above : Info := ⟨dd 17 "taking_above", ["low", "more", "less_more"], ["low", "more", "less_more", "taken", "above"], ⟨5, [false, false, false], S_taking_above⟩⟩
def S_two_draws_worth : S := (.seq (.asn 1 (.con (.tup [(.int 1), (.int 1)]))) (.seq (.for_ (.n 2) .rng (.cons (.con (.int 3)) (.cons (.op .add (.var 0) (.con (.int 1))) .nil)) (.seq (.asn 3 (.call 12 [false] (.cons (.op .sub (.var 2) (.con (.int 1))) .nil))) (.seq (.asn 4 (.call 3 [false, false] (.cons (.var 1) (.cons (.var 3) .nil)))) (.seq (.asn 5 (.call 7 [false] (.cons (.lst (.cons (.con (.tup [(.int 0), (.int 1)])) (.cons (.call 8 [false] (.cons (.lst (.cons (.con (.tup [(.int 1), (.int 1)])) (.cons (.var 4) .nil))) .nil)) .nil))) .nil))) (.seq (.asn 1 (.call 13 [false, false, false] (.cons (.var 5) (.cons (.var 3) (.cons (.var 1) .nil))))) .nil))))) (.seq (.ret (.var 1)) .nil)))
def I_two_draws_worth : Info := ⟨dd 18 "two_draws_worth", ["n"], ["n", "found", "left", "one", "level", "low"], ⟨6, [false], S_two_draws_worth⟩⟩
def S_after_offer : S := (.seq (.asp (.t (.cons (.n 4) (.cons (.n 5) .nil))) (.var 0)) (.seq (.asn 6 (.call 2 [false, false] (.cons (.var 4) (.cons (.call 16 [false, false, true] (.cons (.op .sub (.var 1) (.con (.int 1))) (.cons (.op .sub (.var 2) (.con (.int 1))) (.cons (.var 3) .nil)))) .nil)))) (.seq (.ret (.call 2 [false, false] (.cons (.call 4 [false, false] (.cons (.var 5) (.cons (.var 6) .nil))) (.cons (.call 4 [false, false] (.cons (.call 3 [false, false] (.cons (.con (.tup [(.int 1), (.int 1)])) (.cons (.var 5) .nil))) (.cons (.call 16 [false, false, true] (.cons (.op .sub (.var 1) (.con (.int 1))) (.cons (.var 2) (.cons (.var 3) .nil)))) .nil))) .nil)))) .nil)))
def I_after_offer : Info := ⟨dd 19 "after_offer", ["offer", "n", "things", "known"], ["offer", "n", "things", "known", "price", "chance", "sold"], ⟨7, [false, false, false, true], S_after_offer⟩⟩
def S_told_worth : S := (.seq (.ret (.ix (.var 2) (.tup (.cons (.var 0) (.cons (.var 1) .nil))))) .nil)
def I_told_worth : Info := ⟨dd 20 "told_worth", ["n", "things", "known"], ["n", "things", "known"], ⟨3, [false, false, true], S_told_worth⟩⟩
def S_price_table : S := (.seq (.asn 3 (.dsp .nil)) (.seq (.for_ (.n 4) .rng (.cons (.op .add (.var 1) (.con (.int 1))) .nil) (.seq (.for_ (.n 5) .rng (.cons (.op .add (.var 2) (.con (.int 1))) .nil) (.seq (.asn 6 (.ite (.cmp .gt (.var 4) (.con (.int 0))) (.lst (.cons (.ix (.var 3) (.tup (.cons (.op .sub (.var 4) (.con (.int 1))) (.cons (.var 5) .nil)))) .nil)) (.lst (.cons (.con (.tup [(.int 0), (.int 1)])) .nil)))) (.seq (.ite (.and (.cmp .gt (.var 4) (.con (.int 0))) (.cmp .gt (.var 5) (.con (.int 0)))) (.seq (.mut .extend 6 (.cons (.lc (.call 15 [false, false, false, true] (.cons (.var 7) (.cons (.var 4) (.cons (.var 5) (.cons (.var 3) .nil))))) (.n 7) .nil .seq (.cons (.var 0) .nil) [7]) .nil)) .nil) .nil) (.seq (.six 3 (.tup (.cons (.var 4) (.cons (.var 5) .nil))) (.call 7 [false] (.cons (.var 6) .nil))) .nil)))) .nil)) (.seq (.ret (.var 3)) .nil)))
def I_price_table : Info := ⟨dd 21 "price_table", ["offers", "n", "things"], ["offers", "n", "things", "known", "k", "left", "told", "offer"], ⟨8, [false, false, false], S_price_table⟩⟩
def S_price_worth : S := (.seq (.ret (.ix (.call 17 [false, false, false] (.cons (.var 0) (.cons (.var 1) (.cons (.var 2) .nil)))) (.tup (.cons (.var 1) (.cons (.var 2) .nil))))) .nil)
def I_price_worth : Info := ⟨dd 22 "price_worth", ["offers", "n", "things"], ["offers", "n", "things"], ⟨3, [false, false, false], S_price_worth⟩⟩
def S_price_next : S := (.seq (.asn 3 (.call 17 [false, false, false] (.cons (.var 0) (.cons (.var 1) (.cons (.var 2) .nil))))) (.seq (.ite (.or (.cmp .eq (.var 1) (.con (.int 0))) (.or (.cmp .eq (.var 2) (.con (.int 0))) (.not (.call 6 [false, false] (.cons (.ix (.var 3) (.tup (.cons (.op .sub (.var 1) (.con (.int 1))) (.cons (.var 2) .nil)))) (.cons (.ix (.var 3) (.tup (.cons (.var 1) (.cons (.var 2) .nil)))) .nil)))))) (.seq (.ret (.con .non)) .nil) .nil) (.seq (.ret (.mth .index (.lc (.call 15 [false, false, false, true] (.cons (.var 4) (.cons (.var 1) (.cons (.var 2) (.cons (.var 3) .nil))))) (.n 4) .nil .seq (.cons (.var 0) .nil) [4]) (.cons (.ix (.var 3) (.tup (.cons (.var 1) (.cons (.var 2) .nil)))) .nil))) .nil)))
def I_price_next : Info := ⟨dd 23 "price_next", ["offers", "n", "things"], ["offers", "n", "things", "known", "offer"], ⟨5, [false, false, false], S_price_next⟩⟩
def S_rent_cost : S := (.seq (.ret (.ite (.cmp .lt (.var 2) (.var 1)) (.var 2) (.op .add (.op .sub (.var 1) (.con (.int 1))) (.var 0)))) .nil)
def I_rent_cost : Info := ⟨dd 24 "rent_cost", ["price", "day", "days"], ["price", "day", "days"], ⟨3, [false, false, false], S_rent_cost⟩⟩
def S_rent_ratio : S := (.seq (.ret (.call 7 [false] (.cons (.lc (.call 1 [false, false] (.cons (.call 20 [false, false, false] (.cons (.var 0) (.cons (.var 1) (.cons (.var 2) .nil)))) (.cons (.bi .min (.cons (.var 2) (.cons (.var 0) .nil))) .nil))) (.n 2) .nil .rng (.cons (.con (.int 1)) (.cons (.op .add (.op .add (.var 1) (.var 0)) (.con (.int 1))) .nil)) [2]) .nil))) .nil)
def I_rent_ratio : Info := ⟨dd 25 "rent_ratio", ["price", "day"], ["price", "day", "days"], ⟨3, [false, false], S_rent_ratio⟩⟩
def S_best_rent_ratio : S := (.seq (.ret (.call 8 [false] (.cons (.lc (.call 21 [false, false] (.cons (.var 0) (.cons (.var 1) .nil))) (.n 1) .nil .rng (.cons (.con (.int 1)) (.cons (.op .add (.op .mul (.con (.int 2)) (.var 0)) (.con (.int 1))) .nil)) [1]) .nil))) .nil)
def I_best_rent_ratio : Info := ⟨dd 26 "best_rent_ratio", ["price"], ["price", "day"], ⟨2, [false], S_best_rent_ratio⟩⟩
def S_mixed_rent : S := (.seq (.asn 1 (.lst .nil)) (.seq (.for_ (.n 2) .rng (.cons (.con (.int 1)) (.cons (.op .add (.var 0) (.con (.int 1))) .nil)) (.seq (.asn 3 (.con (.tup [(.int 1), (.int 1)]))) (.seq (.for_ (.n 4) .rng (.cons (.op .sub (.var 0) (.var 2)) .nil) (.seq (.asn 3 (.call 4 [false, false] (.cons (.var 3) (.cons (.call 1 [false, false] (.cons (.op .sub (.var 0) (.con (.int 1))) (.cons (.var 0) .nil))) .nil)))) .nil)) (.seq (.mut .append 1 (.cons (.var 3) .nil)) .nil)))) (.seq (.asn 5 (.call 9 [false] (.cons (.var 1) .nil))) (.seq (.asn 6 (.bi .tuple (.cons (.lc (.call 5 [false, false] (.cons (.var 10) (.cons (.var 5) .nil))) (.n 10) .nil .seq (.cons (.var 1) .nil) [10]) .nil))) (.seq (.asn 7 (.lst .nil)) (.seq (.for_ (.n 8) .rng (.cons (.con (.int 1)) (.cons (.op .add (.var 0) (.con (.int 1))) .nil)) (.seq (.asn 9 (.call 9 [false] (.cons (.lc (.call 4 [false, false] (.cons (.var 10) (.cons (.tup (.cons (.call 20 [false, false, false] (.cons (.var 0) (.cons (.op .add (.var 2) (.con (.int 1))) (.cons (.var 8) .nil)))) (.cons (.con (.int 1)) .nil))) .nil))) (.t (.cons (.n 2) (.cons (.n 10) .nil))) .nil .enu (.cons (.var 6) .nil) [2, 10]) .nil))) (.seq (.mut .append 7 (.cons (.call 5 [false, false] (.cons (.var 9) (.cons (.tup (.cons (.var 8) (.cons (.con (.int 1)) .nil))) .nil))) .nil)) .nil))) (.seq (.ret (.tup (.cons (.var 6) (.cons (.call 7 [false] (.cons (.var 7) .nil)) .nil)))) .nil)))))))
def I_mixed_rent : Info := ⟨dd 27 "mixed_rent", ["price"], ["price", "weights", "day", "told", "_", "whole", "mix", "costs", "days", "cost", "one"], ⟨11, [false], S_mixed_rent⟩⟩
def S_best_sum : S := (.seq (.asn 1 (.bi .len (.cons (.ix (.var 0) (.con (.int 0))) .nil))) (.seq (.asn 2 (.lst .nil)) (.seq (.for_ (.t (.cons (.n 3) (.cons (.n 4) .nil))) .enu (.cons (.var 0) .nil) (.seq (.mut .append 2 (.cons (.op .add (.op .add (.bi .list (.cons (.var 4) .nil)) (.lc (.ite (.cmp .eq (.var 9) (.var 3)) (.con (.tup [(.int 1), (.int 1)])) (.con (.tup [(.int 0), (.int 1)]))) (.n 9) .nil .rng (.cons (.bi .len (.cons (.var 0) .nil)) .nil) [9])) (.lst (.cons (.con (.tup [(.int 1), (.int 1)])) .nil))) .nil)) .nil)) (.seq (.asn 5 (.op .add (.op .mul (.lst (.cons (.call 3 [false, false] (.cons (.con (.tup [(.int 0), (.int 1)])) (.cons (.con (.tup [(.int 1), (.int 1)])) .nil))) .nil)) (.var 1)) (.op .mul (.lst (.cons (.con (.tup [(.int 0), (.int 1)])) .nil)) (.op .add (.bi .len (.cons (.var 0) .nil)) (.con (.int 1)))))) (.seq (.asn 6 (.lc (.op .add (.var 1) (.var 3)) (.n 3) .nil .rng (.cons (.bi .len (.cons (.var 0) .nil)) .nil) [3])) (.seq (.whl (.con (.bl true)) (.seq (.asn 7 (.lc (.var 9) (.n 9) (.call 6 [false, false] (.cons (.ix (.var 5) (.var 9)) (.cons (.con (.tup [(.int 0), (.int 1)])) .nil))) .rng (.cons (.op .sub (.bi .len (.cons (.var 5) .nil)) (.con (.int 1))) .nil) [9])) (.seq (.ite (.not (.var 7)) (.seq (.ret (.tup (.cons (.var 2) (.cons (.var 6) (.cons (.var 5) .nil))))) .nil) .nil) (.seq (.asn 8 (.ix (.var 7) (.con (.int 0)))) (.seq (.asn 3 (.call 25 [true, true, false] (.cons (.var 2) (.cons (.var 6) (.cons (.var 8) .nil))))) (.seq (.six 6 (.var 3) (.var 8)) (.seq (.six 2 (.var 3) (.call 10 [false, false] (.cons (.ix (.var 2) (.var 3)) (.cons (.call 5 [false, false] (.cons (.con (.tup [(.int 1), (.int 1)])) (.cons (.ix (.ix (.var 2) (.var 3)) (.var 8)) .nil))) .nil)))) (.seq (.for_ (.n 9) .rng (.cons (.bi .len (.cons (.var 2) .nil)) .nil) (.seq (.ite (.cmp .ne (.var 9) (.var 3)) (.seq (.six 2 (.var 9) (.call 11 [false, false, false] (.cons (.ix (.var 2) (.var 9)) (.cons (.ix (.var 2) (.var 3)) (.cons (.ix (.ix (.var 2) (.var 9)) (.var 8)) .nil))))) .nil) .nil) .nil)) (.seq (.asn 5 (.call 11 [false, false, false] (.cons (.var 5) (.cons (.ix (.var 2) (.var 3)) (.cons (.ix (.var 5) (.var 8)) .nil))))) .nil))))))))) .nil))))))
def I_best_sum : Info := ⟨dd 29 "best_sum", ["rows"], ["rows", "many", "table", "k", "row", "goal", "base", "fits", "at", "j"], ⟨10, [false], S_best_sum⟩⟩
def S_leaving : S := (.seq (.asn 3 (.con .non)) (.seq (.for_ (.t (.cons (.n 4) (.cons (.n 5) .nil))) .enu (.cons (.var 0) .nil) (.seq (.ite (.call 6 [false, false] (.cons (.con (.tup [(.int 0), (.int 1)])) (.cons (.ix (.var 5) (.var 2)) .nil))) (.seq (.asn 6 (.call 5 [false, false] (.cons (.ix (.var 5) (.neg (.con (.int 1)))) (.cons (.ix (.var 5) (.var 2)) .nil)))) (.seq (.ite (.or (.cmp .is (.var 3) (.con .non)) (.or (.call 6 [false, false] (.cons (.var 6) (.cons (.ix (.var 3) (.con (.int 0))) .nil))) (.and (.cmp .eq (.var 6) (.ix (.var 3) (.con (.int 0)))) (.cmp .lt (.ix (.var 1) (.var 4)) (.ix (.var 1) (.ix (.var 3) (.con (.int 1)))))))) (.seq (.asn 3 (.tup (.cons (.var 6) (.cons (.var 4) .nil)))) .nil) .nil) .nil)) .nil) .nil)) (.seq (.ret (.ix (.var 3) (.con (.int 1)))) .nil)))
def I_leaving : Info := ⟨dd 30 "leaving", ["table", "base", "at"], ["table", "base", "at", "best", "k", "row", "told"], ⟨7, [true, true, false], S_leaving⟩⟩
def S_lifted : S := (.seq (.asn 1 (.call 8 [false] (.cons (.lc2 (.var 3) (.n 4) .nil .seq (.cons (.var 0) .nil) (.n 3) .nil .seq (.cons (.var 4) .nil) [4, 3]) .nil))) (.seq (.asn 2 (.ite (.call 6 [false, false] (.cons (.var 1) (.cons (.con (.tup [(.int 1), (.int 1)])) .nil))) (.call 3 [false, false] (.cons (.con (.tup [(.int 1), (.int 1)])) (.cons (.var 1) .nil))) (.con (.tup [(.int 0), (.int 1)])))) (.seq (.ret (.tup (.cons (.lc (.lc (.call 2 [false, false] (.cons (.var 3) (.cons (.var 2) .nil))) (.n 3) .nil .seq (.cons (.var 4) .nil) [3]) (.n 4) .nil .seq (.cons (.var 0) .nil) [4]) (.cons (.var 2) .nil)))) .nil)))
def I_lifted : Info := ⟨dd 31 "lifted", ["table"], ["table", "low", "more", "one", "row"], ⟨5, [false], S_lifted⟩⟩
def S_solved : S := (.seq (.asp (.t (.cons (.n 1) (.cons (.n 2) .nil))) (.call 26 [false] (.cons (.var 0) .nil))) (.seq (.asp (.t (.cons (.n 3) (.cons (.n 4) (.cons (.n 5) .nil)))) (.call 24 [false] (.cons (.var 1) .nil))) (.seq (.asn 6 (.bi .len (.cons (.ix (.var 1) (.con (.int 0))) .nil))) (.seq (.asn 7 (.ix (.var 5) (.neg (.con (.int 1))))) (.seq (.asn 8 (.op .mul (.lst (.cons (.con (.tup [(.int 0), (.int 1)])) .nil)) (.var 6))) (.seq (.for_ (.t (.cons (.n 9) (.cons (.n 10) .nil))) .enu (.cons (.var 4) .nil) (.seq (.ite (.cmp .lt (.var 10) (.var 6)) (.seq (.six 8 (.var 10) (.call 5 [false, false] (.cons (.ix (.ix (.var 3) (.var 9)) (.neg (.con (.int 1)))) (.cons (.var 7) .nil)))) .nil) .nil) .nil)) (.seq (.asn 11 (.lc (.call 5 [false, false] (.cons (.ix (.var 5) (.op .add (.var 6) (.var 9))) (.cons (.var 7) .nil))) (.n 9) .nil .rng (.cons (.bi .len (.cons (.var 1) .nil)) .nil) [9])) (.seq (.ret (.tup (.cons (.call 3 [false, false] (.cons (.call 5 [false, false] (.cons (.con (.tup [(.int 1), (.int 1)])) (.cons (.var 7) .nil))) (.cons (.var 2) .nil))) (.cons (.bi .tuple (.cons (.var 11) .nil)) (.cons (.bi .tuple (.cons (.var 8) .nil)) .nil))))) .nil))))))))
def I_solved : Info := ⟨dd 32 "solved", ["table"], ["table", "rows", "more", "done", "base", "goal", "many", "whole", "columns", "k", "j", "mix"], ⟨12, [false], S_solved⟩⟩
def S_table_worth : S := (.seq (.ret (.ix (.call 27 [false] (.cons (.var 0) .nil)) (.con (.int 0)))) .nil)
def I_table_worth : Info := ⟨dd 33 "table_worth", ["table"], ["table"], ⟨1, [false], S_table_worth⟩⟩
def S__law_draw : S := (.seq (.asn 1 (.con (.int 7))) (.seq (.for_ (.n 2) .seq (.cons (.var 0) .nil) (.seq (.asn 1 (.op .md (.bi .int (.cons (.op .add (.op .add (.op .mul (.var 1) (.con (.int 48271))) (.op .md (.bi .abs (.cons (.bi .int (.cons (.var 2) .nil)) .nil)) (.con (.int 65521)))) (.con (.int 1))) .nil)) (.con (.int 2147483647)))) .nil)) (.seq (.ret (.lst (.cons (.lc (.bi .abs (.cons (.bi .int (.cons (.var 2) .nil)) .nil)) (.n 2) .nil .seq (.cons (.var 0) .nil) [2]) (.cons (.neg (.con (.int 1))) (.cons (.con (.int 0)) (.cons (.var 1) .nil)))))) .nil)))
def I__law_draw : Info := ⟨dd 35 "_law_draw", ["script"], ["script", "seed", "cell"], ⟨3, [false], S__law_draw⟩⟩
def S__law_take : S := (.seq (.ite (.cmp .eq (.ix (.var 0) (.con (.int 2))) (.con (.int 0))) (.seq (.six 0 (.con (.int 1)) (.op .add (.ix (.var 0) (.con (.int 1))) (.con (.int 1)))) (.seq (.ite (.cmp .lt (.ix (.var 0) (.con (.int 1))) (.bi .len (.cons (.ix (.var 0) (.con (.int 0))) .nil))) (.seq (.six 0 (.con (.int 2)) (.ix (.ix (.var 0) (.con (.int 0))) (.ix (.var 0) (.con (.int 1))))) .nil) .nil) (.seq (.ite (.cmp .eq (.ix (.var 0) (.con (.int 2))) (.con (.int 0))) (.seq (.six 0 (.con (.int 3)) (.op .md (.bi .int (.cons (.op .add (.op .mul (.ix (.var 0) (.con (.int 3))) (.con (.int 48271))) (.con (.int 11))) .nil)) (.con (.int 2147483647)))) (.seq (.six 0 (.con (.int 2)) (.ix (.var 0) (.con (.int 3)))) .nil)) .nil) .nil))) .nil) (.seq (.asn 2 (.op .md (.bi .int (.cons (.ix (.var 0) (.con (.int 2))) .nil)) (.var 1))) (.seq (.six 0 (.con (.int 2)) (.op .fdv (.ix (.var 0) (.con (.int 2))) (.var 1))) (.seq (.ret (.var 2)) .nil))))
def I__law_take : Info := ⟨dd 36 "_law_take", ["draw", "many"], ["draw", "many", "found"], ⟨3, [true, false], S__law_take⟩⟩
def S__law_lowest : S := (.seq (.par [2, 3] (.cons (.bi .abs (.cons (.var 0) .nil)) (.cons (.bi .abs (.cons (.var 1) .nil)) .nil))) (.seq (.whl (.cmp .ne (.var 3) (.con (.int 0))) (.seq (.par [2, 3] (.cons (.var 3) (.cons (.op .sub (.var 2) (.op .mul (.var 3) (.op .fdv (.var 2) (.var 3)))) .nil))) .nil)) (.seq (.ret (.ite (.cmp .gt (.var 1) (.con (.int 0))) (.tup (.cons (.op .fdv (.var 0) (.var 2)) (.cons (.op .fdv (.var 1) (.var 2)) .nil))) (.tup (.cons (.op .fdv (.neg (.var 0)) (.var 2)) (.cons (.op .fdv (.neg (.var 1)) (.var 2)) .nil))))) .nil)))
def I__law_lowest : Info := ⟨dd 37 "_law_lowest", ["a", "b"], ["a", "b", "c", "d"], ⟨4, [false, false], S__law_lowest⟩⟩
def S__law_plus : S := (.seq (.ret (.call 31 [false, false] (.cons (.op .add (.op .mul (.ix (.var 0) (.con (.int 0))) (.ix (.var 1) (.con (.int 1)))) (.op .mul (.ix (.var 1) (.con (.int 0))) (.ix (.var 0) (.con (.int 1))))) (.cons (.op .mul (.ix (.var 0) (.con (.int 1))) (.ix (.var 1) (.con (.int 1)))) .nil)))) .nil)
def I__law_plus : Info := ⟨dd 38 "_law_plus", ["p", "q"], ["p", "q"], ⟨2, [false, false], S__law_plus⟩⟩
def S__law_times : S := (.seq (.ret (.call 31 [false, false] (.cons (.op .mul (.ix (.var 0) (.con (.int 0))) (.ix (.var 1) (.con (.int 0)))) (.cons (.op .mul (.ix (.var 0) (.con (.int 1))) (.ix (.var 1) (.con (.int 1)))) .nil)))) .nil)
def I__law_times : Info := ⟨dd 39 "_law_times", ["p", "q"], ["p", "q"], ⟨2, [false, false], S__law_times⟩⟩
def S__law_minus : S := (.seq (.ret (.call 32 [false, false] (.cons (.var 0) (.cons (.tup (.cons (.neg (.ix (.var 1) (.con (.int 0)))) (.cons (.ix (.var 1) (.con (.int 1))) .nil))) .nil)))) .nil)
def I__law_minus : Info := ⟨dd 40 "_law_minus", ["p", "q"], ["p", "q"], ⟨2, [false, false], S__law_minus⟩⟩
def S__law_over : S := (.seq (.ret (.call 31 [false, false] (.cons (.op .mul (.ix (.var 0) (.con (.int 0))) (.ix (.var 1) (.con (.int 1)))) (.cons (.op .mul (.ix (.var 0) (.con (.int 1))) (.ix (.var 1) (.con (.int 0)))) .nil)))) .nil)
def I__law_over : Info := ⟨dd 41 "_law_over", ["p", "q"], ["p", "q"], ⟨2, [false, false], S__law_over⟩⟩
def S__law_less : S := (.seq (.ret (.cmp .lt (.op .mul (.ix (.var 0) (.con (.int 0))) (.ix (.var 1) (.con (.int 1)))) (.op .mul (.ix (.var 1) (.con (.int 0))) (.ix (.var 0) (.con (.int 1)))))) .nil)
def I__law_less : Info := ⟨dd 42 "_law_less", ["p", "q"], ["p", "q"], ⟨2, [false, false], S__law_less⟩⟩
def S__law_sum : S := (.seq (.asn 1 (.tup (.cons (.con (.int 0)) (.cons (.con (.int 1)) .nil)))) (.seq (.for_ (.n 2) .seq (.cons (.var 0) .nil) (.seq (.asn 1 (.call 32 [false, false] (.cons (.var 1) (.cons (.var 2) .nil)))) .nil)) (.seq (.ret (.var 1)) .nil)))
def I__law_sum : Info := ⟨dd 43 "_law_sum", ["row"], ["row", "found", "one"], ⟨3, [false], S__law_sum⟩⟩
def S__law_best : S := (.seq (.asn 2 (.ix (.var 0) (.con (.int 0)))) (.seq (.for_ (.n 3) .seq (.cons (.var 0) .nil) (.seq (.ite (.or (.and (.call 36 [false, false] (.cons (.var 2) (.cons (.var 3) .nil))) (.cmp .eq (.var 1) (.con (.int 1)))) (.and (.call 36 [false, false] (.cons (.var 3) (.cons (.var 2) .nil))) (.cmp .eq (.var 1) (.neg (.con (.int 1)))))) (.seq (.asn 2 (.var 3)) .nil) .nil) .nil)) (.seq (.ret (.var 2)) .nil)))
def I__law_best : Info := ⟨dd 44 "_law_best", ["row", "sign"], ["row", "sign", "found", "one"], ⟨4, [false, false], S__law_best⟩⟩
def S__law_gain : S := (.seq (.ret (.call 31 [false, false] (.cons (.op .sub (.call 30 [true, false] (.cons (.var 0) (.cons (.con (.int 13)) .nil))) (.con (.int 6))) (.cons (.op .add (.con (.int 1)) (.call 30 [true, false] (.cons (.var 0) (.cons (.con (.int 3)) .nil)))) .nil)))) .nil)
def I__law_gain : Info := ⟨dd 45 "_law_gain", ["draw"], ["draw"], ⟨1, [true], S__law_gain⟩⟩
def S__law_offer : S := (.seq (.asp (.t (.cons (.n 4) (.cons (.n 5) .nil))) (.ix (.var 0) (.var 3))) (.seq (.asn 6 (.call 32 [false, false] (.cons (.var 4) (.cons (.call 41 [false, false, false] (.cons (.var 0) (.cons (.op .sub (.var 1) (.con (.int 1))) (.cons (.op .sub (.var 2) (.con (.int 1))) .nil)))) .nil)))) (.seq (.ret (.call 32 [false, false] (.cons (.call 33 [false, false] (.cons (.var 5) (.cons (.var 6) .nil))) (.cons (.call 33 [false, false] (.cons (.call 34 [false, false] (.cons (.tup (.cons (.con (.int 1)) (.cons (.con (.int 1)) .nil))) (.cons (.var 5) .nil))) (.cons (.call 41 [false, false, false] (.cons (.var 0) (.cons (.op .sub (.var 1) (.con (.int 1))) (.cons (.var 2) .nil)))) .nil))) .nil)))) .nil)))
def I__law_offer : Info := ⟨dd 46 "_law_offer", ["offers", "n", "things", "k"], ["offers", "n", "things", "k", "price", "chance", "sold"], ⟨7, [false, false, false, false], S__law_offer⟩⟩
def S__law_price : S := (.seq (.ite (.or (.cmp .eq (.var 1) (.con (.int 0))) (.cmp .eq (.var 2) (.con (.int 0)))) (.seq (.ret (.tup (.cons (.con (.int 0)) (.cons (.con (.int 1)) .nil)))) .nil) .nil) (.seq (.ret (.call 38 [false, false] (.cons (.op .add (.lst (.cons (.call 41 [false, false, false] (.cons (.var 0) (.cons (.op .sub (.var 1) (.con (.int 1))) (.cons (.var 2) .nil)))) .nil)) (.lc (.call 40 [false, false, false, false] (.cons (.var 0) (.cons (.var 1) (.cons (.var 2) (.cons (.var 3) .nil))))) (.n 3) .nil .rng (.cons (.bi .len (.cons (.var 0) .nil)) .nil) [3])) (.cons (.con (.int 1)) .nil)))) .nil))
def I__law_price : Info := ⟨dd 47 "_law_price", ["offers", "n", "things"], ["offers", "n", "things", "k"], ⟨4, [false, false, false], S__law_price⟩⟩
def S_law : S := (.seq (.asn 1 (.call 29 [false] (.cons (.var 0) .nil))) (.seq (.par [2, 3] (.cons (.tup (.cons (.con (.int 1)) (.cons (.con (.int 2)) .nil))) (.cons (.lst (.cons (.con .non) (.cons (.tup (.cons (.con (.int 1)) (.cons (.con (.int 2)) .nil))) .nil))) .nil))) (.seq (.for_ (.n 4) .rng (.cons (.con (.int 2)) (.cons (.con (.int 7)) .nil)) (.seq (.mut .append 3 (.cons (.call 33 [false, false] (.cons (.var 2) (.cons (.call 32 [false, false] (.cons (.tup (.cons (.con (.int 1)) (.cons (.con (.int 1)) .nil))) (.cons (.call 33 [false, false] (.cons (.ix (.var 3) (.neg (.con (.int 1)))) (.cons (.ix (.var 3) (.neg (.con (.int 1)))) .nil))) .nil))) .nil))) .nil)) .nil)) (.seq (.asn 5 (.lst (.cons (.con .non) (.cons (.con .non) (.cons (.tup (.cons (.con (.int 1)) (.cons (.con (.int 1)) .nil))) .nil))))) (.seq (.for_ (.n 4) .rng (.cons (.con (.int 3)) (.cons (.con (.int 7)) .nil)) (.seq (.asn 6 (.call 38 [false, false] (.cons (.lst (.cons (.tup (.cons (.con (.int 0)) (.cons (.con (.int 1)) .nil))) (.cons (.call 38 [false, false] (.cons (.lst (.cons (.tup (.cons (.con (.int 1)) (.cons (.con (.int 1)) .nil))) (.cons (.call 34 [false, false] (.cons (.ix (.var 5) (.op .sub (.var 4) (.con (.int 1)))) (.cons (.ix (.var 3) (.op .sub (.var 4) (.con (.int 1)))) .nil))) .nil))) (.cons (.neg (.con (.int 1))) .nil))) .nil))) (.cons (.con (.int 1)) .nil)))) (.seq (.asn 7 (.call 33 [false, false] (.cons (.var 2) (.cons (.call 34 [false, false] (.cons (.tup (.cons (.con (.int 1)) (.cons (.con (.int 1)) .nil))) (.cons (.call 33 [false, false] (.cons (.var 6) (.cons (.var 6) .nil))) .nil))) .nil)))) (.seq (.mut .append 5 (.cons (.call 37 [false] (.cons (.lst (.cons (.var 7) (.cons (.call 33 [false, false] (.cons (.call 34 [false, false] (.cons (.tup (.cons (.con (.int 1)) (.cons (.con (.int 1)) .nil))) (.cons (.var 6) .nil))) (.cons (.ix (.var 3) (.op .sub (.var 4) (.con (.int 1)))) .nil))) (.cons (.call 33 [false, false] (.cons (.var 6) (.cons (.ix (.var 5) (.op .sub (.var 4) (.con (.int 1)))) .nil))) .nil)))) .nil)) .nil)) .nil)))) (.seq (.asn 4 (.op .add (.con (.int 1)) (.call 30 [true, false] (.cons (.var 1) (.cons (.con (.int 6)) .nil))))) (.seq (.ite (.or (.cmp .ne (.call 12 [false] (.cons (.var 4) .nil)) (.ix (.var 3) (.var 4))) (.or (.and (.cmp .gt (.var 4) (.con (.int 1))) (.cmp .ne (.call 14 [false] (.cons (.var 4) .nil)) (.ix (.var 5) (.var 4)))) (.not (.isi (.call 12 [false] (.cons (.var 4) .nil)) .tuple)))) (.seq (.ret (.con (.bl false))) .nil) .nil) (.seq (.asn 8 (.bi .tuple (.cons (.lc (.tup (.cons (.call 39 [true] (.cons (.var 1) .nil)) (.cons (.ix (.lst (.cons (.tup (.cons (.con (.int 1)) (.cons (.con (.int 2)) .nil))) (.cons (.tup (.cons (.con (.int 1)) (.cons (.con (.int 3)) .nil))) (.cons (.tup (.cons (.con (.int 2)) (.cons (.con (.int 3)) .nil))) (.cons (.tup (.cons (.con (.int 1)) (.cons (.con (.int 1)) .nil))) (.cons (.tup (.cons (.con (.int 0)) (.cons (.con (.int 1)) .nil))) .nil)))))) (.call 30 [true, false] (.cons (.var 1) (.cons (.con (.int 5)) .nil)))) .nil))) (.n 21) .nil .rng (.cons (.op .add (.con (.int 1)) (.call 30 [true, false] (.cons (.var 1) (.cons (.con (.int 3)) .nil)))) .nil) [21]) .nil))) (.seq (.par [4, 9] (.cons (.call 30 [true, false] (.cons (.var 1) (.cons (.con (.int 5)) .nil))) (.cons (.call 30 [true, false] (.cons (.var 1) (.cons (.con (.int 4)) .nil))) .nil))) (.seq (.asn 10 (.call 41 [false, false, false] (.cons (.var 8) (.cons (.var 4) (.cons (.var 9) .nil))))) (.seq (.ite (.cmp .ne (.call 18 [false, false, false] (.cons (.var 8) (.cons (.var 4) (.cons (.var 9) .nil)))) (.var 10)) (.seq (.ret (.con (.bl false))) .nil) .nil) (.seq (.asn 11 (.call 19 [false, false, false] (.cons (.var 8) (.cons (.var 4) (.cons (.var 9) .nil))))) (.seq (.ite (.or (.cmp .eq (.var 4) (.con (.int 0))) (.or (.cmp .eq (.var 9) (.con (.int 0))) (.not (.call 36 [false, false] (.cons (.call 41 [false, false, false] (.cons (.var 8) (.cons (.op .sub (.var 4) (.con (.int 1))) (.cons (.var 9) .nil)))) (.cons (.var 10) .nil)))))) (.seq (.ite (.cmp .isnt (.var 11) (.con .non)) (.seq (.ret (.con (.bl false))) .nil) .nil) .nil) (.seq (.ite (.cmp .ne (.var 11) (.mth .index (.lc (.call 40 [false, false, false, false] (.cons (.var 8) (.cons (.var 4) (.cons (.var 9) (.cons (.var 21) .nil))))) (.n 21) .nil .rng (.cons (.bi .len (.cons (.var 8) .nil)) .nil) [21]) (.cons (.var 10) .nil))) (.seq (.ret (.con (.bl false))) .nil) .nil) .nil)) (.seq (.par [12, 13, 14] (.cons (.op .add (.con (.int 1)) (.call 30 [true, false] (.cons (.var 1) (.cons (.con (.int 4)) .nil)))) (.cons (.op .add (.con (.int 1)) (.call 30 [true, false] (.cons (.var 1) (.cons (.con (.int 6)) .nil)))) (.cons (.op .add (.con (.int 1)) (.call 30 [true, false] (.cons (.var 1) (.cons (.con (.int 12)) .nil)))) .nil)))) (.seq (.ite (.cmp .ne (.call 20 [false, false, false] (.cons (.var 12) (.cons (.var 13) (.cons (.var 14) .nil)))) (.ite (.cmp .lt (.var 14) (.var 13)) (.var 14) (.op .add (.op .sub (.var 13) (.con (.int 1))) (.var 12)))) (.seq (.ret (.con (.bl false))) .nil) .nil) (.seq (.asn 15 (.lst .nil)) (.seq (.for_ (.n 16) .rng (.cons (.con (.int 1)) (.cons (.con (.int 15)) .nil)) (.seq (.asn 17 (.lc (.tup (.cons (.ite (.cmp .lt (.var 21) (.var 16)) (.var 21) (.op .add (.op .sub (.var 16) (.con (.int 1))) (.var 12))) (.cons (.bi .min (.cons (.var 21) (.cons (.var 12) .nil))) .nil))) (.n 21) .nil .rng (.cons (.con (.int 1)) (.cons (.con (.int 30)) .nil)) [21])) (.seq (.mut .append 15 (.cons (.call 38 [false, false] (.cons (.lc (.call 31 [false, false] (.cons (.var 24) (.cons (.var 25) .nil))) (.t (.cons (.n 24) (.cons (.n 25) .nil))) .nil .seq (.cons (.var 17) .nil) [24, 25]) (.cons (.con (.int 1)) .nil))) .nil)) .nil))) (.seq (.ite (.or (.cmp .ne (.call 21 [false, false] (.cons (.var 12) (.cons (.var 13) .nil))) (.ix (.var 15) (.op .sub (.var 13) (.con (.int 1))))) (.or (.cmp .ne (.call 22 [false] (.cons (.var 12) .nil)) (.call 38 [false, false] (.cons (.var 15) (.cons (.neg (.con (.int 1))) .nil)))) (.cmp .ne (.call 22 [false] (.cons (.var 12) .nil)) (.call 34 [false, false] (.cons (.tup (.cons (.con (.int 2)) (.cons (.con (.int 1)) .nil))) (.cons (.tup (.cons (.con (.int 1)) (.cons (.var 12) .nil))) .nil)))))) (.seq (.ret (.con (.bl false))) .nil) .nil) (.seq (.asp (.t (.cons (.n 18) (.cons (.n 19) .nil))) (.call 23 [false] (.cons (.var 12) .nil))) (.seq (.ite (.or (.cmp .ne (.bi .len (.cons (.var 18) .nil)) (.var 12)) (.or (.cmp .ne (.call 37 [false] (.cons (.var 18) .nil)) (.tup (.cons (.con (.int 1)) (.cons (.con (.int 1)) .nil)))) (.cmp .ne (.lc (.var 26) (.n 26) (.call 36 [false, false] (.cons (.var 26) (.cons (.tup (.cons (.con (.int 0)) (.cons (.con (.int 1)) .nil))) .nil))) .seq (.cons (.var 18) .nil) [26]) (.lst .nil)))) (.seq (.ret (.con (.bl false))) .nil) .nil) (.seq (.asn 20 (.lst .nil)) (.seq (.for_ (.n 21) .rng (.cons (.con (.int 1)) (.cons (.con (.int 20)) .nil)) (.seq (.asn 22 (.call 37 [false] (.cons (.lc (.call 33 [false, false] (.cons (.ix (.var 18) (.op .sub (.var 27) (.con (.int 1)))) (.cons (.tup (.cons (.ite (.cmp .lt (.var 21) (.var 27)) (.var 21) (.op .add (.op .sub (.var 27) (.con (.int 1))) (.var 12))) (.cons (.con (.int 1)) .nil))) .nil))) (.n 27) .nil .rng (.cons (.con (.int 1)) (.cons (.op .add (.var 12) (.con (.int 1))) .nil)) [27]) .nil))) (.seq (.mut .append 20 (.cons (.call 35 [false, false] (.cons (.var 22) (.cons (.tup (.cons (.bi .min (.cons (.var 21) (.cons (.var 12) .nil))) (.cons (.con (.int 1)) .nil))) .nil))) .nil)) .nil))) (.seq (.ite (.cmp .ne (.var 19) (.call 38 [false, false] (.cons (.var 20) (.cons (.con (.int 1)) .nil)))) (.seq (.ret (.con (.bl false))) .nil) .nil) (.seq (.asn 23 (.bi .tuple (.cons (.lc (.bi .tuple (.cons (.lc (.call 31 [false, false] (.cons (.neg (.ite (.cmp .lt (.var 21) (.var 27)) (.var 21) (.op .add (.op .sub (.var 27) (.con (.int 1))) (.var 12)))) (.cons (.bi .min (.cons (.var 21) (.cons (.var 12) .nil))) .nil))) (.n 21) .nil .rng (.cons (.con (.int 1)) (.cons (.con (.int 5)) .nil)) [21]) .nil)) (.n 27) .nil .rng (.cons (.con (.int 1)) (.cons (.con (.int 5)) .nil)) [27]) .nil))) (.seq (.ret (.or (.cmp .gt (.var 12) (.con (.int 4))) (.cmp .eq (.var 19) (.call 34 [false, false] (.cons (.tup (.cons (.con (.int 0)) (.cons (.con (.int 1)) .nil))) (.cons (.call 28 [false] (.cons (.var 23) .nil)) .nil)))))) .nil)))))))))))))))))))))))))
def I_law : Info := ⟨dd 48 "law", ["script"], ["script", "draw", "half", "one", "n", "two", "low", "taken", "offers", "things", "worth", "told", "price", "day", "days", "ratios", "one_day", "costs", "mix", "ratio", "sums", "k", "cost", "table", "a", "b", "x", "d"], ⟨28, [false], S_law⟩⟩
abbrev fsL : List Info := [I_common, I_lowest, I_plus, I_minus, I_times, I_divided, I_less, I_greatest, I_least, I_sum_of, I_scaled, I_less_row, I_draws_worth, I_taking_above, I_two_draws_worth, I_after_offer, I_told_worth, I_price_table, I_price_worth, I_price_next, I_rent_cost, I_rent_ratio, I_best_rent_ratio, I_mixed_rent, I_best_sum, I_leaving, I_lifted, I_solved, I_table_worth, I__law_draw, I__law_take, I__law_lowest, I__law_plus, I__law_times, I__law_minus, I__law_over, I__law_less, I__law_sum, I__law_best, I__law_gain, I__law_offer, I__law_price, I_law]
abbrev bnL : List Str := ["abs", "enumerate", "int", "isinstance", "len", "list", "min", "range", "tuple", "zip"]
abbrev csL : List (Str × W) := [("ZERO", (.tup [(.int 0), (.int 1)])), ("ONE", (.tup [(.int 1), (.int 1)]))]
theorem m_abs : ("abs" : Str) ∈ bnL := .head _
theorem m_enumerate : ("enumerate" : Str) ∈ bnL := .tail _ (.head _)
theorem m_int : ("int" : Str) ∈ bnL := .tail _ (.tail _ (.head _))
theorem m_isinstance : ("isinstance" : Str) ∈ bnL := .tail _ (.tail _ (.tail _ (.head _)))
theorem m_len : ("len" : Str) ∈ bnL := .tail _ (.tail _ (.tail _ (.tail _ (.head _))))
theorem m_list : ("list" : Str) ∈ bnL := .tail _ (.tail _ (.tail _ (.tail _ (.tail _ (.head _)))))
theorem m_min : ("min" : Str) ∈ bnL := .tail _ (.tail _ (.tail _ (.tail _ (.tail _ (.tail _ (.head _))))))
theorem m_range : ("range" : Str) ∈ bnL := .tail _ (.tail _ (.tail _ (.tail _ (.tail _ (.tail _ (.tail _ (.head _)))))))
theorem m_tuple : ("tuple" : Str) ∈ bnL := .tail _ (.tail _ (.tail _ (.tail _ (.tail _ (.tail _ (.tail _ (.tail _ (.head _))))))))
theorem m_zip : ("zip" : Str) ∈ bnL := .tail _ (.tail _ (.tail _ (.tail _ (.tail _ (.tail _ (.tail _ (.tail _ (.tail _ (.head _)))))))))
theorem mc_ZERO : (("ZERO" : Str), (((.tup [(.int 0), (.int 1)])) : W)) ∈ csL := .head _
theorem mc_ONE : (("ONE" : Str), (((.tup [(.int 1), (.int 1)])) : W)) ∈ csL := .tail _ (.head _)
section
variable [HW]
theorem B_common {Z : Wd} (d : Nat) (cdv : Value) (A : Around) (outer : List PySem.Env) (s : Shared) (H : Hp) (E : XK) (B : Bd fsL Z bnL csL d (Z.cf fsL d E) (Z.X I_common cdv A outer s H E)) : PSs (Z.X I_common cdv A outer s H E) I_common.d.body (tS (Z.cf fsL d E) Z.tk Z.g I_common.fd.b) :=
  (s_cons (s_par2 B.calm B.nd rfl rfl rfl rfl (a_cons rfl (x_bi B.hc B.calm rfl rfl (B.mb m_abs) rfl (a_cons rfl (x_var (pv 0)) a_nil)) (a_cons rfl (x_bi B.hc B.calm rfl rfl (B.mb m_abs) rfl (a_cons rfl (x_var (pv 1)) a_nil)) a_nil)) rfl (by decide)) (s_cons (s_whl B.po (t_var B (x_var (pv 1))) (s_cons (s_par2 B.calm B.nd rfl rfl rfl rfl (a_cons rfl (x_var (pv 1)) (a_cons rfl (x_op B.hc rfl (x_var (pv 0)) (x_var (pv 1))) a_nil)) rfl (by decide)) s_nil)) (s_cons (s_ret (x_var (pv 0))) s_nil)))
theorem B_lowest {Z : Wd} (d : Nat) (cdv : Value) (A : Around) (outer : List PySem.Env) (s : Shared) (H : Hp) (E : XK) (B : Bd fsL Z bnL csL d (Z.cf fsL d E) (Z.X I_lowest cdv A outer s H E)) : PSs (Z.X I_lowest cdv A outer s H E) I_lowest.d.body (tS (Z.cf fsL d E) Z.tk Z.g I_lowest.fd.b) :=
  (s_cons (s_asn B.nd rfl (by first | exact Or.inl rfl | exact Or.inr rfl) (Or.inl rfl) (b_call B 0 rfl rfl rfl rfl rfl (a_cons rfl (x_var (pv 0)) (a_cons rfl (x_var (pv 1)) a_nil))) rfl) (s_cons (s_asn B.nd rfl (by first | exact Or.inl rfl | exact Or.inr rfl) (Or.inl rfl) (x_ite (t_cmp B.hc B.hw B.hu rfl rfl (x_var (pv 1)) x_int) x_int (x_neg B.hc x_int)) rfl) (s_cons (s_ret (x_tup (a_cons rfl (x_op B.hc rfl (x_op B.hc rfl (x_var (pv 3)) (x_var (pv 0))) (x_var (pv 2))) (a_cons rfl (x_op B.hc rfl (x_op B.hc rfl (x_var (pv 3)) (x_var (pv 1))) (x_var (pv 2))) a_nil)))) s_nil)))
theorem B_plus {Z : Wd} (d : Nat) (cdv : Value) (A : Around) (outer : List PySem.Env) (s : Shared) (H : Hp) (E : XK) (B : Bd fsL Z bnL csL d (Z.cf fsL d E) (Z.X I_plus cdv A outer s H E)) : PSs (Z.X I_plus cdv A outer s H E) I_plus.d.body (tS (Z.cf fsL d E) Z.tk Z.g I_plus.fd.b) :=
  (s_cons (s_ret (b_call B 1 rfl rfl rfl rfl rfl (a_cons rfl (x_op B.hc rfl (x_op B.hc rfl (x_ix B.hc B.hw B.hu (fun _ _ => rfl) (x_var (pv 0)) x_int) (x_ix B.hc B.hw B.hu (fun _ _ => rfl) (x_var (pv 1)) x_int)) (x_op B.hc rfl (x_ix B.hc B.hw B.hu (fun _ _ => rfl) (x_var (pv 1)) x_int) (x_ix B.hc B.hw B.hu (fun _ _ => rfl) (x_var (pv 0)) x_int))) (a_cons rfl (x_op B.hc rfl (x_ix B.hc B.hw B.hu (fun _ _ => rfl) (x_var (pv 0)) x_int) (x_ix B.hc B.hw B.hu (fun _ _ => rfl) (x_var (pv 1)) x_int)) a_nil)))) s_nil)
theorem B_minus {Z : Wd} (d : Nat) (cdv : Value) (A : Around) (outer : List PySem.Env) (s : Shared) (H : Hp) (E : XK) (B : Bd fsL Z bnL csL d (Z.cf fsL d E) (Z.X I_minus cdv A outer s H E)) : PSs (Z.X I_minus cdv A outer s H E) I_minus.d.body (tS (Z.cf fsL d E) Z.tk Z.g I_minus.fd.b) :=
  (s_cons (s_ret (b_call B 1 rfl rfl rfl rfl rfl (a_cons rfl (x_op B.hc rfl (x_op B.hc rfl (x_ix B.hc B.hw B.hu (fun _ _ => rfl) (x_var (pv 0)) x_int) (x_ix B.hc B.hw B.hu (fun _ _ => rfl) (x_var (pv 1)) x_int)) (x_op B.hc rfl (x_ix B.hc B.hw B.hu (fun _ _ => rfl) (x_var (pv 1)) x_int) (x_ix B.hc B.hw B.hu (fun _ _ => rfl) (x_var (pv 0)) x_int))) (a_cons rfl (x_op B.hc rfl (x_ix B.hc B.hw B.hu (fun _ _ => rfl) (x_var (pv 0)) x_int) (x_ix B.hc B.hw B.hu (fun _ _ => rfl) (x_var (pv 1)) x_int)) a_nil)))) s_nil)
theorem B_times {Z : Wd} (d : Nat) (cdv : Value) (A : Around) (outer : List PySem.Env) (s : Shared) (H : Hp) (E : XK) (B : Bd fsL Z bnL csL d (Z.cf fsL d E) (Z.X I_times cdv A outer s H E)) : PSs (Z.X I_times cdv A outer s H E) I_times.d.body (tS (Z.cf fsL d E) Z.tk Z.g I_times.fd.b) :=
  (s_cons (s_ret (b_call B 1 rfl rfl rfl rfl rfl (a_cons rfl (x_op B.hc rfl (x_ix B.hc B.hw B.hu (fun _ _ => rfl) (x_var (pv 0)) x_int) (x_ix B.hc B.hw B.hu (fun _ _ => rfl) (x_var (pv 1)) x_int)) (a_cons rfl (x_op B.hc rfl (x_ix B.hc B.hw B.hu (fun _ _ => rfl) (x_var (pv 0)) x_int) (x_ix B.hc B.hw B.hu (fun _ _ => rfl) (x_var (pv 1)) x_int)) a_nil)))) s_nil)
theorem B_divided {Z : Wd} (d : Nat) (cdv : Value) (A : Around) (outer : List PySem.Env) (s : Shared) (H : Hp) (E : XK) (B : Bd fsL Z bnL csL d (Z.cf fsL d E) (Z.X I_divided cdv A outer s H E)) : PSs (Z.X I_divided cdv A outer s H E) I_divided.d.body (tS (Z.cf fsL d E) Z.tk Z.g I_divided.fd.b) :=
  (s_cons (s_ret (b_call B 1 rfl rfl rfl rfl rfl (a_cons rfl (x_op B.hc rfl (x_ix B.hc B.hw B.hu (fun _ _ => rfl) (x_var (pv 0)) x_int) (x_ix B.hc B.hw B.hu (fun _ _ => rfl) (x_var (pv 1)) x_int)) (a_cons rfl (x_op B.hc rfl (x_ix B.hc B.hw B.hu (fun _ _ => rfl) (x_var (pv 0)) x_int) (x_ix B.hc B.hw B.hu (fun _ _ => rfl) (x_var (pv 1)) x_int)) a_nil)))) s_nil)
theorem B_less {Z : Wd} (d : Nat) (cdv : Value) (A : Around) (outer : List PySem.Env) (s : Shared) (H : Hp) (E : XK) (B : Bd fsL Z bnL csL d (Z.cf fsL d E) (Z.X I_less cdv A outer s H E)) : PSs (Z.X I_less cdv A outer s H E) I_less.d.body (tS (Z.cf fsL d E) Z.tk Z.g I_less.fd.b) :=
  (s_cons (s_ret (x_cmp B.hc B.hw B.hu rfl rfl (x_op B.hc rfl (x_ix B.hc B.hw B.hu (fun _ _ => rfl) (x_var (pv 0)) x_int) (x_ix B.hc B.hw B.hu (fun _ _ => rfl) (x_var (pv 1)) x_int)) (x_op B.hc rfl (x_ix B.hc B.hw B.hu (fun _ _ => rfl) (x_var (pv 1)) x_int) (x_ix B.hc B.hw B.hu (fun _ _ => rfl) (x_var (pv 0)) x_int)))) s_nil)
theorem B_greatest {Z : Wd} (d : Nat) (cdv : Value) (A : Around) (outer : List PySem.Env) (s : Shared) (H : Hp) (E : XK) (B : Bd fsL Z bnL csL d (Z.cf fsL d E) (Z.X I_greatest cdv A outer s H E)) : PSs (Z.X I_greatest cdv A outer s H E) I_greatest.d.body (tS (Z.cf fsL d E) Z.tk Z.g I_greatest.fd.b) :=
  (s_cons (s_asn B.nd rfl (by first | exact Or.inl rfl | exact Or.inr rfl) (Or.inl rfl) (x_ix B.hc B.hw B.hu (fun _ _ => rfl) (x_var (pv 0)) x_int) rfl) (s_cons (b_for B (i_seq B.hc (x_var (pv 0))) (g_name B.nd rfl (by first | exact Or.inl rfl | exact Or.inr rfl) (by first | exact Or.inl rfl | exact Or.inr rfl)) (s_cons (s_ite (t_plain B.hc (b_call B 6 rfl rfl rfl rfl rfl (a_cons rfl (x_var (pv 1)) (a_cons rfl (x_var (pv 2)) a_nil))) (fun _ => rfl) (fun _ => rfl)) (s_cons (s_asn B.nd rfl (by first | exact Or.inl rfl | exact Or.inr rfl) (Or.inl rfl) (x_var (pv 2)) rfl) s_nil) s_nil) s_nil) (fun _ => rfl)) (s_cons (s_ret (x_var (pv 1))) s_nil)))
theorem B_least {Z : Wd} (d : Nat) (cdv : Value) (A : Around) (outer : List PySem.Env) (s : Shared) (H : Hp) (E : XK) (B : Bd fsL Z bnL csL d (Z.cf fsL d E) (Z.X I_least cdv A outer s H E)) : PSs (Z.X I_least cdv A outer s H E) I_least.d.body (tS (Z.cf fsL d E) Z.tk Z.g I_least.fd.b) :=
  (s_cons (s_asn B.nd rfl (by first | exact Or.inl rfl | exact Or.inr rfl) (Or.inl rfl) (x_ix B.hc B.hw B.hu (fun _ _ => rfl) (x_var (pv 0)) x_int) rfl) (s_cons (b_for B (i_seq B.hc (x_var (pv 0))) (g_name B.nd rfl (by first | exact Or.inl rfl | exact Or.inr rfl) (by first | exact Or.inl rfl | exact Or.inr rfl)) (s_cons (s_ite (t_plain B.hc (b_call B 6 rfl rfl rfl rfl rfl (a_cons rfl (x_var (pv 2)) (a_cons rfl (x_var (pv 1)) a_nil))) (fun _ => rfl) (fun _ => rfl)) (s_cons (s_asn B.nd rfl (by first | exact Or.inl rfl | exact Or.inr rfl) (Or.inl rfl) (x_var (pv 2)) rfl) s_nil) s_nil) s_nil) (fun _ => rfl)) (s_cons (s_ret (x_var (pv 1))) s_nil)))
theorem B_sum_of {Z : Wd} (d : Nat) (cdv : Value) (A : Around) (outer : List PySem.Env) (s : Shared) (H : Hp) (E : XK) (B : Bd fsL Z bnL csL d (Z.cf fsL d E) (Z.X I_sum_of cdv A outer s H E)) : PSs (Z.X I_sum_of cdv A outer s H E) I_sum_of.d.body (tS (Z.cf fsL d E) Z.tk Z.g I_sum_of.fd.b) :=
  (s_cons (s_asn B.nd rfl (by first | exact Or.inl rfl | exact Or.inr rfl) (Or.inl rfl) (b_glob B mc_ZERO rfl rfl) rfl) (s_cons (b_for B (i_seq B.hc (x_var (pv 0))) (g_name B.nd rfl (by first | exact Or.inl rfl | exact Or.inr rfl) (by first | exact Or.inl rfl | exact Or.inr rfl)) (s_cons (s_asn B.nd rfl (by first | exact Or.inl rfl | exact Or.inr rfl) (Or.inl rfl) (b_call B 2 rfl rfl rfl rfl rfl (a_cons rfl (x_var (pv 1)) (a_cons rfl (x_var (pv 2)) a_nil))) rfl) s_nil) (fun _ => rfl)) (s_cons (s_ret (x_var (pv 1))) s_nil)))
theorem B_scaled {Z : Wd} (d : Nat) (cdv : Value) (A : Around) (outer : List PySem.Env) (s : Shared) (H : Hp) (E : XK) (B : Bd fsL Z bnL csL d (Z.cf fsL d E) (Z.X I_scaled cdv A outer s H E)) : PSs (Z.X I_scaled cdv A outer s H E) I_scaled.d.body (tS (Z.cf fsL d E) Z.tk Z.g I_scaled.fd.b) :=
  (s_cons (s_ret (b_lc (ownN := [("one", 2)]) B [2] rfl (by kernel_rfl) (i_seq B.hc (x_var (pv 0))) (fun s H C cl fp B => (g_name B.nd rfl (by first | exact Or.inl rfl | exact Or.inr rfl) (by first | exact Or.inl rfl | exact Or.inr rfl))) (fun s H C cl fp B => pts_no) (fun s H C cl fp B => (b_call B 4 rfl rfl rfl rfl rfl (a_cons rfl (x_var (pv 2)) (a_cons rfl (x_var (pv 1)) a_nil)))) (fun _ => rfl))) s_nil)
theorem B_less_row {Z : Wd} (d : Nat) (cdv : Value) (A : Around) (outer : List PySem.Env) (s : Shared) (H : Hp) (E : XK) (B : Bd fsL Z bnL csL d (Z.cf fsL d E) (Z.X I_less_row cdv A outer s H E)) : PSs (Z.X I_less_row cdv A outer s H E) I_less_row.d.body (tS (Z.cf fsL d E) Z.tk Z.g I_less_row.fd.b) :=
  (s_cons (s_ret (b_lc (ownN := [("a", 3), ("b", 4)]) B [3, 4] rfl (by kernel_rfl) (i_zip B.hc rfl (B.mb m_zip) rfl rfl (a_cons rfl (x_var (pv 0)) (a_cons rfl (x_var (pv 1)) a_nil))) (fun s H C cl fp B => (g_tupB B rfl rfl (g_cons rfl (g_name B.nd rfl (by first | exact Or.inl rfl | exact Or.inr rfl) (by first | exact Or.inl rfl | exact Or.inr rfl)) (g_cons rfl (g_name B.nd rfl (by first | exact Or.inl rfl | exact Or.inr rfl) (by first | exact Or.inl rfl | exact Or.inr rfl)) g_nil)))) (fun s H C cl fp B => pts_no) (fun s H C cl fp B => (b_call B 3 rfl rfl rfl rfl rfl (a_cons rfl (x_var (pv 3)) (a_cons rfl (b_call B 4 rfl rfl rfl rfl rfl (a_cons rfl (x_var (pv 4)) (a_cons rfl (x_var (pv 2)) a_nil))) a_nil)))) (fun _ => rfl))) s_nil)
theorem B_draws_worth {Z : Wd} (d : Nat) (cdv : Value) (A : Around) (outer : List PySem.Env) (s : Shared) (H : Hp) (E : XK) (B : Bd fsL Z bnL csL d (Z.cf fsL d E) (Z.X I_draws_worth cdv A outer s H E)) : PSs (Z.X I_draws_worth cdv A outer s H E) I_draws_worth.d.body (tS (Z.cf fsL d E) Z.tk Z.g I_draws_worth.fd.b) :=
  (s_cons (s_asn B.nd rfl (by first | exact Or.inl rfl | exact Or.inr rfl) (Or.inl rfl) (x_tup (a_cons rfl x_int (a_cons rfl x_int a_nil))) rfl) (s_cons (b_for B (i_rng1 rfl (B.mb m_range) rfl (a_cons rfl (x_op B.hc rfl (x_var (pv 0)) x_int) a_nil) (arity_ok rfl)) (g_name B.nd rfl (by first | exact Or.inl rfl | exact Or.inr rfl) (by first | exact Or.inl rfl | exact Or.inr rfl)) (s_cons (s_asn B.nd rfl (by first | exact Or.inl rfl | exact Or.inr rfl) (Or.inl rfl) (b_call B 4 rfl rfl rfl rfl rfl (a_cons rfl (x_tup (a_cons rfl x_int (a_cons rfl x_int a_nil))) (a_cons rfl (b_call B 2 rfl rfl rfl rfl rfl (a_cons rfl (b_glob B mc_ONE rfl rfl) (a_cons rfl (b_call B 4 rfl rfl rfl rfl rfl (a_cons rfl (x_var (pv 1)) (a_cons rfl (x_var (pv 1)) a_nil))) a_nil))) a_nil))) rfl) s_nil) (fun _ => rfl)) (s_cons (s_ret (x_var (pv 1))) s_nil)))
theorem B_taking_above {Z : Wd} (d : Nat) (cdv : Value) (A : Around) (outer : List PySem.Env) (s : Shared) (H : Hp) (E : XK) (B : Bd fsL Z bnL csL d (Z.cf fsL d E) (Z.X I_taking_above cdv A outer s H E)) : PSs (Z.X I_taking_above cdv A outer s H E) I_taking_above.d.body (tS (Z.cf fsL d E) Z.tk Z.g I_taking_above.fd.b) :=
  (s_cons (s_asn B.nd rfl (by first | exact Or.inl rfl | exact Or.inr rfl) (Or.inl rfl) (b_call B 4 rfl rfl rfl rfl rfl (a_cons rfl (b_call B 4 rfl rfl rfl rfl rfl (a_cons rfl (x_tup (a_cons rfl x_int (a_cons rfl x_int a_nil))) (a_cons rfl (b_call B 3 rfl rfl rfl rfl rfl (a_cons rfl (b_glob B mc_ONE rfl rfl) (a_cons rfl (b_call B 4 rfl rfl rfl rfl rfl (a_cons rfl (x_var (pv 0)) (a_cons rfl (x_var (pv 0)) a_nil))) a_nil))) a_nil))) (a_cons rfl (b_glob B mc_ONE rfl rfl) a_nil))) rfl) (s_cons (s_asn B.nd rfl (by first | exact Or.inl rfl | exact Or.inr rfl) (Or.inl rfl) (b_call B 3 rfl rfl rfl rfl rfl (a_cons rfl (b_glob B mc_ONE rfl rfl) (a_cons rfl (x_var (pv 0)) a_nil))) rfl) (s_cons (s_ret (b_call B 9 rfl rfl rfl rfl rfl (a_cons rfl (x_lst (a_cons rfl (x_var (pv 3)) (a_cons rfl (b_call B 4 rfl rfl rfl rfl rfl (a_cons rfl (x_var (pv 4)) (a_cons rfl (x_var (pv 1)) a_nil))) (a_cons rfl (b_call B 4 rfl rfl rfl rfl rfl (a_cons rfl (x_var (pv 0)) (a_cons rfl (x_var (pv 2)) a_nil))) a_nil)))) a_nil))) s_nil)))
theorem B_two_draws_worth {Z : Wd} (d : Nat) (cdv : Value) (A : Around) (outer : List PySem.Env) (s : Shared) (H : Hp) (E : XK) (B : Bd fsL Z bnL csL d (Z.cf fsL d E) (Z.X I_two_draws_worth cdv A outer s H E)) : PSs (Z.X I_two_draws_worth cdv A outer s H E) I_two_draws_worth.d.body (tS (Z.cf fsL d E) Z.tk Z.g I_two_draws_worth.fd.b) :=
  (s_cons (s_asn B.nd rfl (by first | exact Or.inl rfl | exact Or.inr rfl) (Or.inl rfl) (b_glob B mc_ONE rfl rfl) rfl) (s_cons (b_for B (i_rng2 rfl (B.mb m_range) rfl rfl (a_cons rfl x_int (a_cons rfl (x_op B.hc rfl (x_var (pv 0)) x_int) a_nil)) (arity_ok rfl)) (g_name B.nd rfl (by first | exact Or.inl rfl | exact Or.inr rfl) (by first | exact Or.inl rfl | exact Or.inr rfl)) (s_cons (s_asn B.nd rfl (by first | exact Or.inl rfl | exact Or.inr rfl) (Or.inl rfl) (b_call B 12 rfl rfl rfl rfl rfl (a_cons rfl (x_op B.hc rfl (x_var (pv 2)) x_int) a_nil)) rfl) (s_cons (s_asn B.nd rfl (by first | exact Or.inl rfl | exact Or.inr rfl) (Or.inl rfl) (b_call B 3 rfl rfl rfl rfl rfl (a_cons rfl (x_var (pv 1)) (a_cons rfl (x_var (pv 3)) a_nil))) rfl) (s_cons (s_asn B.nd rfl (by first | exact Or.inl rfl | exact Or.inr rfl) (Or.inl rfl) (b_call B 7 rfl rfl rfl rfl rfl (a_cons rfl (x_lst (a_cons rfl (b_glob B mc_ZERO rfl rfl) (a_cons rfl (b_call B 8 rfl rfl rfl rfl rfl (a_cons rfl (x_lst (a_cons rfl (b_glob B mc_ONE rfl rfl) (a_cons rfl (x_var (pv 4)) a_nil))) a_nil)) a_nil))) a_nil)) rfl) (s_cons (s_asn B.nd rfl (by first | exact Or.inl rfl | exact Or.inr rfl) (Or.inl rfl) (b_call B 13 rfl rfl rfl rfl rfl (a_cons rfl (x_var (pv 5)) (a_cons rfl (x_var (pv 3)) (a_cons rfl (x_var (pv 1)) a_nil)))) rfl) s_nil)))) (fun _ => rfl)) (s_cons (s_ret (x_var (pv 1))) s_nil)))
theorem B_after_offer {Z : Wd} (d : Nat) (cdv : Value) (A : Around) (outer : List PySem.Env) (s : Shared) (H : Hp) (E : XK) (B : Bd fsL Z bnL csL d (Z.cf fsL d E) (Z.X I_after_offer cdv A outer s H E)) : PSs (Z.X I_after_offer cdv A outer s H E) I_after_offer.d.body (tS (Z.cf fsL d E) Z.tk Z.g I_after_offer.fd.b) :=
  (s_cons (s_asp (g_tupB B rfl rfl (g_cons rfl (g_name B.nd rfl (by first | exact Or.inl rfl | exact Or.inr rfl) (by first | exact Or.inl rfl | exact Or.inr rfl)) (g_cons rfl (g_name B.nd rfl (by first | exact Or.inl rfl | exact Or.inr rfl) (by first | exact Or.inl rfl | exact Or.inr rfl)) g_nil))) B.hc (x_var (pv 0)) rfl rfl rfl) (s_cons (s_asn B.nd rfl (by first | exact Or.inl rfl | exact Or.inr rfl) (Or.inl rfl) (b_call B 2 rfl rfl rfl rfl rfl (a_cons rfl (x_var (pv 4)) (a_cons rfl (b_call B 16 rfl rfl rfl rfl rfl (a_cons rfl (x_op B.hc rfl (x_var (pv 1)) x_int) (a_cons rfl (x_op B.hc rfl (x_var (pv 2)) x_int) (a_cons rfl (x_var (pv 3)) a_nil)))) a_nil))) rfl) (s_cons (s_ret (b_call B 2 rfl rfl rfl rfl rfl (a_cons rfl (b_call B 4 rfl rfl rfl rfl rfl (a_cons rfl (x_var (pv 5)) (a_cons rfl (x_var (pv 6)) a_nil))) (a_cons rfl (b_call B 4 rfl rfl rfl rfl rfl (a_cons rfl (b_call B 3 rfl rfl rfl rfl rfl (a_cons rfl (b_glob B mc_ONE rfl rfl) (a_cons rfl (x_var (pv 5)) a_nil))) (a_cons rfl (b_call B 16 rfl rfl rfl rfl rfl (a_cons rfl (x_op B.hc rfl (x_var (pv 1)) x_int) (a_cons rfl (x_var (pv 2)) (a_cons rfl (x_var (pv 3)) a_nil)))) a_nil))) a_nil)))) s_nil)))
theorem B_told_worth {Z : Wd} (d : Nat) (cdv : Value) (A : Around) (outer : List PySem.Env) (s : Shared) (H : Hp) (E : XK) (B : Bd fsL Z bnL csL d (Z.cf fsL d E) (Z.X I_told_worth cdv A outer s H E)) : PSs (Z.X I_told_worth cdv A outer s H E) I_told_worth.d.body (tS (Z.cf fsL d E) Z.tk Z.g I_told_worth.fd.b) :=
  (s_cons (s_ret (x_ix B.hc B.hw B.hu (fun _ _ => rfl) (x_var (pv 2)) (x_tup (a_cons rfl (x_var (pv 0)) (a_cons rfl (x_var (pv 1)) a_nil))))) s_nil)
theorem B_price_table {Z : Wd} (d : Nat) (cdv : Value) (A : Around) (outer : List PySem.Env) (s : Shared) (H : Hp) (E : XK) (B : Bd fsL Z bnL csL d (Z.cf fsL d E) (Z.X I_price_table cdv A outer s H E)) : PSs (Z.X I_price_table cdv A outer s H E) I_price_table.d.body (tS (Z.cf fsL d E) Z.tk Z.g I_price_table.fd.b) :=
  (s_cons (s_asn B.nd rfl (by first | exact Or.inl rfl | exact Or.inr rfl) (Or.inl rfl) x_dnw rfl) (s_cons (b_for B (i_rng1 rfl (B.mb m_range) rfl (a_cons rfl (x_op B.hc rfl (x_var (pv 1)) x_int) a_nil) (arity_ok rfl)) (g_name B.nd rfl (by first | exact Or.inl rfl | exact Or.inr rfl) (by first | exact Or.inl rfl | exact Or.inr rfl)) (s_cons (b_for B (i_rng1 rfl (B.mb m_range) rfl (a_cons rfl (x_op B.hc rfl (x_var (pv 2)) x_int) a_nil) (arity_ok rfl)) (g_name B.nd rfl (by first | exact Or.inl rfl | exact Or.inr rfl) (by first | exact Or.inl rfl | exact Or.inr rfl)) (s_cons (s_asn B.nd rfl (by first | exact Or.inl rfl | exact Or.inr rfl) (Or.inl rfl) (x_ite (t_cmp B.hc B.hw B.hu rfl rfl (x_var (pv 4)) x_int) (x_lst (a_cons rfl (x_ix B.hc B.hw B.hu (fun _ _ => rfl) (x_var (pv 3)) (x_tup (a_cons rfl (x_op B.hc rfl (x_var (pv 4)) x_int) (a_cons rfl (x_var (pv 5)) a_nil)))) a_nil)) (x_lst (a_cons rfl (b_glob B mc_ZERO rfl rfl) a_nil))) rfl) (s_cons (s_ite (PW.pt (t_and (t_cmp B.hc B.hw B.hu rfl rfl (x_var (pv 4)) x_int) (t_and1 (t_cmp B.hc B.hw B.hu rfl rfl (x_var (pv 5)) x_int)))) (s_cons (s_extend B.hc (pv 6) rfl (a_cons rfl (b_lc (ownN := [("offer", 7)]) B [7] rfl (by kernel_rfl) (i_seq B.hc (x_var (pv 0))) (fun s H C cl fp B => (g_name B.nd rfl (by first | exact Or.inl rfl | exact Or.inr rfl) (by first | exact Or.inl rfl | exact Or.inr rfl))) (fun s H C cl fp B => pts_no) (fun s H C cl fp B => (b_call B 15 rfl rfl rfl rfl rfl (a_cons rfl (x_var (pv 7)) (a_cons rfl (x_var (pv 4)) (a_cons rfl (x_var (pv 5)) (a_cons rfl (x_var (pv 3)) a_nil)))))) (fun _ => rfl)) a_nil) rfl rfl) s_nil) s_nil) (s_cons (s_six B.hc B.hw B.hu (pv 3) (x_tup (a_cons rfl (x_var (pv 4)) (a_cons rfl (x_var (pv 5)) a_nil))) (b_call B 7 rfl rfl rfl rfl rfl (a_cons rfl (x_var (pv 6)) a_nil)) rfl rfl (fun _ => rfl)) s_nil))) (fun _ => rfl)) s_nil) (fun _ => rfl)) (s_cons (s_ret (x_var (pv 3))) s_nil)))
theorem B_price_worth {Z : Wd} (d : Nat) (cdv : Value) (A : Around) (outer : List PySem.Env) (s : Shared) (H : Hp) (E : XK) (B : Bd fsL Z bnL csL d (Z.cf fsL d E) (Z.X I_price_worth cdv A outer s H E)) : PSs (Z.X I_price_worth cdv A outer s H E) I_price_worth.d.body (tS (Z.cf fsL d E) Z.tk Z.g I_price_worth.fd.b) :=
  (s_cons (s_ret (x_ix B.hc B.hw B.hu (fun _ _ => rfl) (b_call B 17 rfl rfl rfl rfl rfl (a_cons rfl (x_var (pv 0)) (a_cons rfl (x_var (pv 1)) (a_cons rfl (x_var (pv 2)) a_nil)))) (x_tup (a_cons rfl (x_var (pv 1)) (a_cons rfl (x_var (pv 2)) a_nil))))) s_nil)
theorem B_price_next {Z : Wd} (d : Nat) (cdv : Value) (A : Around) (outer : List PySem.Env) (s : Shared) (H : Hp) (E : XK) (B : Bd fsL Z bnL csL d (Z.cf fsL d E) (Z.X I_price_next cdv A outer s H E)) : PSs (Z.X I_price_next cdv A outer s H E) I_price_next.d.body (tS (Z.cf fsL d E) Z.tk Z.g I_price_next.fd.b) :=
  (s_cons (s_asn B.nd rfl (by first | exact Or.inl rfl | exact Or.inr rfl) (Or.inl rfl) (b_call B 17 rfl rfl rfl rfl rfl (a_cons rfl (x_var (pv 0)) (a_cons rfl (x_var (pv 1)) (a_cons rfl (x_var (pv 2)) a_nil)))) rfl) (s_cons (s_ite (PW.pt (t_or (t_cmp B.hc B.hw B.hu rfl rfl (x_var (pv 1)) x_int) (t_or (t_cmp B.hc B.hw B.hu rfl rfl (x_var (pv 2)) x_int) (t_or1 (t_not (t_plain B.hc (b_call B 6 rfl rfl rfl rfl rfl (a_cons rfl (x_ix B.hc B.hw B.hu (fun _ _ => rfl) (x_var (pv 3)) (x_tup (a_cons rfl (x_op B.hc rfl (x_var (pv 1)) x_int) (a_cons rfl (x_var (pv 2)) a_nil)))) (a_cons rfl (x_ix B.hc B.hw B.hu (fun _ _ => rfl) (x_var (pv 3)) (x_tup (a_cons rfl (x_var (pv 1)) (a_cons rfl (x_var (pv 2)) a_nil)))) a_nil))) (fun _ => rfl) (fun _ => rfl))))))) (s_cons (s_ret x_non) s_nil) s_nil) (s_cons (s_ret (x_mth B.hc B.hu rfl (fun _ _ _ h => nomatch h) rfl rfl (by decide) (b_lc (ownN := [("offer", 4)]) B [4] rfl (by kernel_rfl) (i_seq B.hc (x_var (pv 0))) (fun s H C cl fp B => (g_name B.nd rfl (by first | exact Or.inl rfl | exact Or.inr rfl) (by first | exact Or.inl rfl | exact Or.inr rfl))) (fun s H C cl fp B => pts_no) (fun s H C cl fp B => (b_call B 15 rfl rfl rfl rfl rfl (a_cons rfl (x_var (pv 4)) (a_cons rfl (x_var (pv 1)) (a_cons rfl (x_var (pv 2)) (a_cons rfl (x_var (pv 3)) a_nil)))))) (fun _ => rfl)) (a_cons rfl (x_ix B.hc B.hw B.hu (fun _ _ => rfl) (x_var (pv 3)) (x_tup (a_cons rfl (x_var (pv 1)) (a_cons rfl (x_var (pv 2)) a_nil)))) a_nil))) s_nil)))
theorem B_rent_cost {Z : Wd} (d : Nat) (cdv : Value) (A : Around) (outer : List PySem.Env) (s : Shared) (H : Hp) (E : XK) (B : Bd fsL Z bnL csL d (Z.cf fsL d E) (Z.X I_rent_cost cdv A outer s H E)) : PSs (Z.X I_rent_cost cdv A outer s H E) I_rent_cost.d.body (tS (Z.cf fsL d E) Z.tk Z.g I_rent_cost.fd.b) :=
  (s_cons (s_ret (x_ite (t_cmp B.hc B.hw B.hu rfl rfl (x_var (pv 2)) (x_var (pv 1))) (x_var (pv 2)) (x_op B.hc rfl (x_op B.hc rfl (x_var (pv 1)) x_int) (x_var (pv 0))))) s_nil)
theorem B_rent_ratio {Z : Wd} (d : Nat) (cdv : Value) (A : Around) (outer : List PySem.Env) (s : Shared) (H : Hp) (E : XK) (B : Bd fsL Z bnL csL d (Z.cf fsL d E) (Z.X I_rent_ratio cdv A outer s H E)) : PSs (Z.X I_rent_ratio cdv A outer s H E) I_rent_ratio.d.body (tS (Z.cf fsL d E) Z.tk Z.g I_rent_ratio.fd.b) :=
  (s_cons (s_ret (b_call B 7 rfl rfl rfl rfl rfl (a_cons rfl (b_lc (ownN := [("days", 2)]) B [2] rfl (by kernel_rfl) (i_rng2 rfl (B.mb m_range) rfl rfl (a_cons rfl x_int (a_cons rfl (x_op B.hc rfl (x_op B.hc rfl (x_var (pv 1)) (x_var (pv 0))) x_int) a_nil)) (arity_ok rfl)) (fun s H C cl fp B => (g_name B.nd rfl (by first | exact Or.inl rfl | exact Or.inr rfl) (by first | exact Or.inl rfl | exact Or.inr rfl))) (fun s H C cl fp B => pts_no) (fun s H C cl fp B => (b_call B 1 rfl rfl rfl rfl rfl (a_cons rfl (b_call B 20 rfl rfl rfl rfl rfl (a_cons rfl (x_var (pv 0)) (a_cons rfl (x_var (pv 1)) (a_cons rfl (x_var (pv 2)) a_nil)))) (a_cons rfl (x_bi B.hc B.calm rfl rfl (B.mb m_min) rfl (a_cons rfl (x_var (pv 2)) (a_cons rfl (x_var (pv 0)) a_nil))) a_nil)))) (fun _ => rfl)) a_nil))) s_nil)
theorem B_best_rent_ratio {Z : Wd} (d : Nat) (cdv : Value) (A : Around) (outer : List PySem.Env) (s : Shared) (H : Hp) (E : XK) (B : Bd fsL Z bnL csL d (Z.cf fsL d E) (Z.X I_best_rent_ratio cdv A outer s H E)) : PSs (Z.X I_best_rent_ratio cdv A outer s H E) I_best_rent_ratio.d.body (tS (Z.cf fsL d E) Z.tk Z.g I_best_rent_ratio.fd.b) :=
  (s_cons (s_ret (b_call B 8 rfl rfl rfl rfl rfl (a_cons rfl (b_lc (ownN := [("day", 1)]) B [1] rfl (by kernel_rfl) (i_rng2 rfl (B.mb m_range) rfl rfl (a_cons rfl x_int (a_cons rfl (x_op B.hc rfl (x_op B.hc rfl x_int (x_var (pv 0))) x_int) a_nil)) (arity_ok rfl)) (fun s H C cl fp B => (g_name B.nd rfl (by first | exact Or.inl rfl | exact Or.inr rfl) (by first | exact Or.inl rfl | exact Or.inr rfl))) (fun s H C cl fp B => pts_no) (fun s H C cl fp B => (b_call B 21 rfl rfl rfl rfl rfl (a_cons rfl (x_var (pv 0)) (a_cons rfl (x_var (pv 1)) a_nil)))) (fun _ => rfl)) a_nil))) s_nil)
theorem B_mixed_rent {Z : Wd} (d : Nat) (cdv : Value) (A : Around) (outer : List PySem.Env) (s : Shared) (H : Hp) (E : XK) (B : Bd fsL Z bnL csL d (Z.cf fsL d E) (Z.X I_mixed_rent cdv A outer s H E)) : PSs (Z.X I_mixed_rent cdv A outer s H E) I_mixed_rent.d.body (tS (Z.cf fsL d E) Z.tk Z.g I_mixed_rent.fd.b) :=
  (s_cons (s_asn B.nd rfl (by first | exact Or.inl rfl | exact Or.inr rfl) (Or.inl rfl) (x_lst a_nil) rfl) (s_cons (b_for B (i_rng2 rfl (B.mb m_range) rfl rfl (a_cons rfl x_int (a_cons rfl (x_op B.hc rfl (x_var (pv 0)) x_int) a_nil)) (arity_ok rfl)) (g_name B.nd rfl (by first | exact Or.inl rfl | exact Or.inr rfl) (by first | exact Or.inl rfl | exact Or.inr rfl)) (s_cons (s_asn B.nd rfl (by first | exact Or.inl rfl | exact Or.inr rfl) (Or.inl rfl) (b_glob B mc_ONE rfl rfl) rfl) (s_cons (b_for B (i_rng1 rfl (B.mb m_range) rfl (a_cons rfl (x_op B.hc rfl (x_var (pv 0)) (x_var (pv 2))) a_nil) (arity_ok rfl)) (g_name B.nd rfl (by first | exact Or.inl rfl | exact Or.inr rfl) (by first | exact Or.inl rfl | exact Or.inr rfl)) (s_cons (s_asn B.nd rfl (by first | exact Or.inl rfl | exact Or.inr rfl) (Or.inl rfl) (b_call B 4 rfl rfl rfl rfl rfl (a_cons rfl (x_var (pv 3)) (a_cons rfl (b_call B 1 rfl rfl rfl rfl rfl (a_cons rfl (x_op B.hc rfl (x_var (pv 0)) x_int) (a_cons rfl (x_var (pv 0)) a_nil))) a_nil))) rfl) s_nil) (fun _ => rfl)) (s_cons (s_append B.hc (pv 1) rfl (a_cons rfl (x_var (pv 3)) a_nil) rfl rfl) s_nil))) (fun _ => rfl)) (s_cons (s_asn B.nd rfl (by first | exact Or.inl rfl | exact Or.inr rfl) (Or.inl rfl) (b_call B 9 rfl rfl rfl rfl rfl (a_cons rfl (x_var (pv 1)) a_nil)) rfl) (s_cons (s_asn B.nd rfl (by first | exact Or.inl rfl | exact Or.inr rfl) (Or.inl rfl) (x_bi B.hc B.calm rfl rfl (B.mb m_tuple) rfl (a_cons rfl (b_lc (ownN := [("one", 10)]) B [10] rfl (by kernel_rfl) (i_seq B.hc (x_var (pv 1))) (fun s H C cl fp B => (g_name B.nd rfl (by first | exact Or.inl rfl | exact Or.inr rfl) (by first | exact Or.inl rfl | exact Or.inr rfl))) (fun s H C cl fp B => pts_no) (fun s H C cl fp B => (b_call B 5 rfl rfl rfl rfl rfl (a_cons rfl (x_var (pv 10)) (a_cons rfl (x_var (pv 5)) a_nil)))) (fun _ => rfl)) a_nil)) rfl) (s_cons (s_asn B.nd rfl (by first | exact Or.inl rfl | exact Or.inr rfl) (Or.inl rfl) (x_lst a_nil) rfl) (s_cons (b_for B (i_rng2 rfl (B.mb m_range) rfl rfl (a_cons rfl x_int (a_cons rfl (x_op B.hc rfl (x_var (pv 0)) x_int) a_nil)) (arity_ok rfl)) (g_name B.nd rfl (by first | exact Or.inl rfl | exact Or.inr rfl) (by first | exact Or.inl rfl | exact Or.inr rfl)) (s_cons (s_asn B.nd rfl (by first | exact Or.inl rfl | exact Or.inr rfl) (Or.inl rfl) (b_call B 9 rfl rfl rfl rfl rfl (a_cons rfl (b_lc (ownN := [("day", 2), ("one", 10)]) B [2, 10] rfl (by kernel_rfl) (i_enu B.hc rfl (B.mb m_enumerate) rfl (a_cons rfl (x_var (pv 6)) a_nil)) (fun s H C cl fp B => (g_tupB B rfl rfl (g_cons rfl (g_name B.nd rfl (by first | exact Or.inl rfl | exact Or.inr rfl) (by first | exact Or.inl rfl | exact Or.inr rfl)) (g_cons rfl (g_name B.nd rfl (by first | exact Or.inl rfl | exact Or.inr rfl) (by first | exact Or.inl rfl | exact Or.inr rfl)) g_nil)))) (fun s H C cl fp B => pts_no) (fun s H C cl fp B => (b_call B 4 rfl rfl rfl rfl rfl (a_cons rfl (x_var (pv 10)) (a_cons rfl (x_tup (a_cons rfl (b_call B 20 rfl rfl rfl rfl rfl (a_cons rfl (x_var (pv 0)) (a_cons rfl (x_op B.hc rfl (x_var (pv 2)) x_int) (a_cons rfl (x_var (pv 8)) a_nil)))) (a_cons rfl x_int a_nil))) a_nil)))) (fun _ => rfl)) a_nil)) rfl) (s_cons (s_append B.hc (pv 7) rfl (a_cons rfl (b_call B 5 rfl rfl rfl rfl rfl (a_cons rfl (x_var (pv 9)) (a_cons rfl (x_tup (a_cons rfl (x_var (pv 8)) (a_cons rfl x_int a_nil))) a_nil))) a_nil) rfl rfl) s_nil)) (fun _ => rfl)) (s_cons (s_ret (x_tup (a_cons rfl (x_var (pv 6)) (a_cons rfl (b_call B 7 rfl rfl rfl rfl rfl (a_cons rfl (x_var (pv 7)) a_nil)) a_nil)))) s_nil)))))))
theorem B_best_sum {Z : Wd} (d : Nat) (cdv : Value) (A : Around) (outer : List PySem.Env) (s : Shared) (H : Hp) (E : XK) (B : Bd fsL Z bnL csL d (Z.cf fsL d E) (Z.X I_best_sum cdv A outer s H E)) : PSs (Z.X I_best_sum cdv A outer s H E) I_best_sum.d.body (tS (Z.cf fsL d E) Z.tk Z.g I_best_sum.fd.b) :=
  (s_cons (s_asn B.nd rfl (by first | exact Or.inl rfl | exact Or.inr rfl) (Or.inl rfl) (x_bi B.hc B.calm rfl rfl (B.mb m_len) rfl (a_cons rfl (x_ix B.hc B.hw B.hu (fun _ _ => rfl) (x_var (pv 0)) x_int) a_nil)) rfl) (s_cons (s_asn B.nd rfl (by first | exact Or.inl rfl | exact Or.inr rfl) (Or.inl rfl) (x_lst a_nil) rfl) (s_cons (b_for B (i_enu B.hc rfl (B.mb m_enumerate) rfl (a_cons rfl (x_var (pv 0)) a_nil)) (g_tupB B rfl rfl (g_cons rfl (g_name B.nd rfl (by first | exact Or.inl rfl | exact Or.inr rfl) (by first | exact Or.inl rfl | exact Or.inr rfl)) (g_cons rfl (g_name B.nd rfl (by first | exact Or.inl rfl | exact Or.inr rfl) (by first | exact Or.inl rfl | exact Or.inr rfl)) g_nil))) (s_cons (s_append B.hc (pv 2) rfl (a_cons rfl (x_op B.hc rfl (x_op B.hc rfl (x_bi B.hc B.calm rfl rfl (B.mb m_list) rfl (a_cons rfl (x_var (pv 4)) a_nil)) (b_lc (ownN := [("j", 9)]) B [9] rfl (by kernel_rfl) (i_rng1 rfl (B.mb m_range) rfl (a_cons rfl (x_bi B.hc B.calm rfl rfl (B.mb m_len) rfl (a_cons rfl (x_var (pv 0)) a_nil)) a_nil) (arity_ok rfl)) (fun s H C cl fp B => (g_name B.nd rfl (by first | exact Or.inl rfl | exact Or.inr rfl) (by first | exact Or.inl rfl | exact Or.inr rfl))) (fun s H C cl fp B => pts_no) (fun s H C cl fp B => (x_ite (t_cmp B.hc B.hw B.hu rfl rfl (x_var (pv 9)) (x_var (pv 3))) (b_glob B mc_ONE rfl rfl) (b_glob B mc_ZERO rfl rfl))) (fun _ => rfl))) (x_lst (a_cons rfl (b_glob B mc_ONE rfl rfl) a_nil))) a_nil) rfl rfl) s_nil) (fun _ => rfl)) (s_cons (s_asn B.nd rfl (by first | exact Or.inl rfl | exact Or.inr rfl) (Or.inl rfl) (x_op B.hc rfl (x_op B.hc rfl (x_lst (a_cons rfl (b_call B 3 rfl rfl rfl rfl rfl (a_cons rfl (b_glob B mc_ZERO rfl rfl) (a_cons rfl (b_glob B mc_ONE rfl rfl) a_nil))) a_nil)) (x_var (pv 1))) (x_op B.hc rfl (x_lst (a_cons rfl (b_glob B mc_ZERO rfl rfl) a_nil)) (x_op B.hc rfl (x_bi B.hc B.calm rfl rfl (B.mb m_len) rfl (a_cons rfl (x_var (pv 0)) a_nil)) x_int))) rfl) (s_cons (b_asnLc (ownN := [("k", 3)]) B [3] rfl (by kernel_rfl) rfl rfl rfl (i_rng1 rfl (B.mb m_range) rfl (a_cons rfl (x_bi B.hc B.calm rfl rfl (B.mb m_len) rfl (a_cons rfl (x_var (pv 0)) a_nil)) a_nil) (arity_ok rfl)) (fun s H C cl fp B => (g_name B.nd rfl (by first | exact Or.inl rfl | exact Or.inr rfl) (by first | exact Or.inl rfl | exact Or.inr rfl))) (fun s H C cl fp B => pts_no) (fun s H C cl fp B => (x_op B.hc rfl (x_var (pv 1)) (x_var (pv 3)))) (fun _ => rfl)) (s_cons (s_whl B.po (t_plain B.hc x_bl (fun _ => rfl) (fun _ => rfl)) (s_cons (b_asnLc (ownN := [("j", 9)]) B [9] rfl (by kernel_rfl) rfl rfl rfl (i_rng1 rfl (B.mb m_range) rfl (a_cons rfl (x_op B.hc rfl (x_bi B.hc B.calm rfl rfl (B.mb m_len) rfl (a_cons rfl (x_var (pv 5)) a_nil)) x_int) a_nil) (arity_ok rfl)) (fun s H C cl fp B => (g_name B.nd rfl (by first | exact Or.inl rfl | exact Or.inr rfl) (by first | exact Or.inl rfl | exact Or.inr rfl))) (fun s H C cl fp B => L2.pts_one (t_plain B.hc (b_call B 6 rfl rfl rfl rfl rfl (a_cons rfl (x_ix B.hc B.hw B.hu (fun _ _ => rfl) (x_var (pv 5)) (x_var (pv 9))) (a_cons rfl (b_glob B mc_ZERO rfl rfl) a_nil))) (fun _ => rfl) (fun _ => rfl))) (fun s H C cl fp B => (x_var (pv 9))) (fun _ => rfl)) (s_cons (s_ite (t_not (t_var B (x_var (pv 7)))) (s_cons (s_ret (x_tup (a_cons rfl (x_var (pv 2)) (a_cons rfl (x_var (pv 6)) (a_cons rfl (x_var (pv 5)) a_nil))))) s_nil) s_nil) (s_cons (s_asn B.nd rfl (by first | exact Or.inl rfl | exact Or.inr rfl) (Or.inl rfl) (x_ix B.hc B.hw B.hu (fun _ _ => rfl) (x_var (pv 7)) x_int) rfl) (s_cons (s_asn B.nd rfl (by first | exact Or.inl rfl | exact Or.inr rfl) (Or.inl rfl) (b_call B 25 rfl rfl rfl rfl rfl (a_cons rfl (x_var (pv 2)) (a_cons rfl (x_var (pv 6)) (a_cons rfl (x_var (pv 8)) a_nil)))) rfl) (s_cons (s_six B.hc B.hw B.hu (pv 6) (x_var (pv 3)) (x_var (pv 8)) rfl rfl (fun _ => rfl)) (s_cons (s_six B.hc B.hw B.hu (pv 2) (x_var (pv 3)) (b_call B 10 rfl rfl rfl rfl rfl (a_cons rfl (x_ix B.hc B.hw B.hu (fun _ _ => rfl) (x_var (pv 2)) (x_var (pv 3))) (a_cons rfl (b_call B 5 rfl rfl rfl rfl rfl (a_cons rfl (b_glob B mc_ONE rfl rfl) (a_cons rfl (x_ix B.hc B.hw B.hu (fun _ _ => rfl) (x_ix B.hc B.hw B.hu (fun _ _ => rfl) (x_var (pv 2)) (x_var (pv 3))) (x_var (pv 8))) a_nil))) a_nil))) rfl rfl (fun _ => rfl)) (s_cons (b_for B (i_rng1 rfl (B.mb m_range) rfl (a_cons rfl (x_bi B.hc B.calm rfl rfl (B.mb m_len) rfl (a_cons rfl (x_var (pv 2)) a_nil)) a_nil) (arity_ok rfl)) (g_name B.nd rfl (by first | exact Or.inl rfl | exact Or.inr rfl) (by first | exact Or.inl rfl | exact Or.inr rfl)) (s_cons (s_ite (t_cmp B.hc B.hw B.hu rfl rfl (x_var (pv 9)) (x_var (pv 3))) (s_cons (s_six B.hc B.hw B.hu (pv 2) (x_var (pv 9)) (b_call B 11 rfl rfl rfl rfl rfl (a_cons rfl (x_ix B.hc B.hw B.hu (fun _ _ => rfl) (x_var (pv 2)) (x_var (pv 9))) (a_cons rfl (x_ix B.hc B.hw B.hu (fun _ _ => rfl) (x_var (pv 2)) (x_var (pv 3))) (a_cons rfl (x_ix B.hc B.hw B.hu (fun _ _ => rfl) (x_ix B.hc B.hw B.hu (fun _ _ => rfl) (x_var (pv 2)) (x_var (pv 9))) (x_var (pv 8))) a_nil)))) rfl rfl (fun _ => rfl)) s_nil) s_nil) s_nil) (fun _ => rfl)) (s_cons (s_asn B.nd rfl (by first | exact Or.inl rfl | exact Or.inr rfl) (Or.inl rfl) (b_call B 11 rfl rfl rfl rfl rfl (a_cons rfl (x_var (pv 5)) (a_cons rfl (x_ix B.hc B.hw B.hu (fun _ _ => rfl) (x_var (pv 2)) (x_var (pv 3))) (a_cons rfl (x_ix B.hc B.hw B.hu (fun _ _ => rfl) (x_var (pv 5)) (x_var (pv 8))) a_nil)))) rfl) s_nil))))))))) s_nil))))))
theorem B_leaving {Z : Wd} (d : Nat) (cdv : Value) (A : Around) (outer : List PySem.Env) (s : Shared) (H : Hp) (E : XK) (B : Bd fsL Z bnL csL d (Z.cf fsL d E) (Z.X I_leaving cdv A outer s H E)) : PSs (Z.X I_leaving cdv A outer s H E) I_leaving.d.body (tS (Z.cf fsL d E) Z.tk Z.g I_leaving.fd.b) :=
  (s_cons (s_asn B.nd rfl (by first | exact Or.inl rfl | exact Or.inr rfl) (Or.inl rfl) x_non rfl) (s_cons (b_for B (i_enu B.hc rfl (B.mb m_enumerate) rfl (a_cons rfl (x_var (pv 0)) a_nil)) (g_tupB B rfl rfl (g_cons rfl (g_name B.nd rfl (by first | exact Or.inl rfl | exact Or.inr rfl) (by first | exact Or.inl rfl | exact Or.inr rfl)) (g_cons rfl (g_name B.nd rfl (by first | exact Or.inl rfl | exact Or.inr rfl) (by first | exact Or.inl rfl | exact Or.inr rfl)) g_nil))) (s_cons (s_ite (t_plain B.hc (b_call B 6 rfl rfl rfl rfl rfl (a_cons rfl (b_glob B mc_ZERO rfl rfl) (a_cons rfl (x_ix B.hc B.hw B.hu (fun _ _ => rfl) (x_var (pv 5)) (x_var (pv 2))) a_nil))) (fun _ => rfl) (fun _ => rfl)) (s_cons (s_asn B.nd rfl (by first | exact Or.inl rfl | exact Or.inr rfl) (Or.inl rfl) (b_call B 5 rfl rfl rfl rfl rfl (a_cons rfl (x_ix B.hc B.hw B.hu (fun _ _ => rfl) (x_var (pv 5)) (x_neg B.hc x_int)) (a_cons rfl (x_ix B.hc B.hw B.hu (fun _ _ => rfl) (x_var (pv 5)) (x_var (pv 2))) a_nil))) rfl) (s_cons (s_ite (PW.pt (t_or (t_cmp B.hc B.hw B.hu rfl rfl (x_var (pv 3)) x_non) (t_or (t_plain B.hc (b_call B 6 rfl rfl rfl rfl rfl (a_cons rfl (x_var (pv 6)) (a_cons rfl (x_ix B.hc B.hw B.hu (fun _ _ => rfl) (x_var (pv 3)) x_int) a_nil))) (fun _ => rfl) (fun _ => rfl)) (t_or1 (PW.pt (t_and (t_cmp B.hc B.hw B.hu rfl rfl (x_var (pv 6)) (x_ix B.hc B.hw B.hu (fun _ _ => rfl) (x_var (pv 3)) x_int)) (t_and1 (t_cmp B.hc B.hw B.hu rfl rfl (x_ix B.hc B.hw B.hu (fun _ _ => rfl) (x_var (pv 1)) (x_var (pv 4))) (x_ix B.hc B.hw B.hu (fun _ _ => rfl) (x_var (pv 1)) (x_ix B.hc B.hw B.hu (fun _ _ => rfl) (x_var (pv 3)) x_int)))))))))) (s_cons (s_asn B.nd rfl (by first | exact Or.inl rfl | exact Or.inr rfl) (Or.inl rfl) (x_tup (a_cons rfl (x_var (pv 6)) (a_cons rfl (x_var (pv 4)) a_nil))) rfl) s_nil) s_nil) s_nil)) s_nil) s_nil) (fun _ => rfl)) (s_cons (s_ret (x_ix B.hc B.hw B.hu (fun _ _ => rfl) (x_var (pv 3)) x_int)) s_nil)))
theorem B_lifted {Z : Wd} (d : Nat) (cdv : Value) (A : Around) (outer : List PySem.Env) (s : Shared) (H : Hp) (E : XK) (B : Bd fsL Z bnL csL d (Z.cf fsL d E) (Z.X I_lifted cdv A outer s H E)) : PSs (Z.X I_lifted cdv A outer s H E) I_lifted.d.body (tS (Z.cf fsL d E) Z.tk Z.g I_lifted.fd.b) :=
  (s_cons (s_asn B.nd rfl (by first | exact Or.inl rfl | exact Or.inr rfl) (Or.inl rfl) (b_call B 8 rfl rfl rfl rfl rfl (a_cons rfl (b_lc2 (ownN := [("row", 4), ("one", 3)]) B [4, 3] rfl (by kernel_rfl) (i_seq B.hc (x_var (pv 0))) (fun s H C cl fp B => (g_name B.nd rfl (by first | exact Or.inl rfl | exact Or.inr rfl) (by first | exact Or.inl rfl | exact Or.inr rfl))) (fun s H C cl fp B => pts_no) (fun s H C cl fp B => i_seqF B.hc (x_var (pv 4))) (fun s H C cl fp B => (g_name B.nd rfl (by first | exact Or.inl rfl | exact Or.inr rfl) (by first | exact Or.inl rfl | exact Or.inr rfl))) (fun s H C cl fp B => pts_no) (fun s H C cl fp B => (x_var (pv 3))) (fun _ => rfl) (fun _ _ => rfl)) a_nil)) rfl) (s_cons (s_asn B.nd rfl (by first | exact Or.inl rfl | exact Or.inr rfl) (Or.inl rfl) (x_ite (t_plain B.hc (b_call B 6 rfl rfl rfl rfl rfl (a_cons rfl (x_var (pv 1)) (a_cons rfl (b_glob B mc_ONE rfl rfl) a_nil))) (fun _ => rfl) (fun _ => rfl)) (b_call B 3 rfl rfl rfl rfl rfl (a_cons rfl (b_glob B mc_ONE rfl rfl) (a_cons rfl (x_var (pv 1)) a_nil))) (b_glob B mc_ZERO rfl rfl)) rfl) (s_cons (s_ret (x_tup (a_cons rfl (b_lc (ownN := [("row", 4)]) B [4] rfl (by kernel_rfl) (i_seq B.hc (x_var (pv 0))) (fun s H C cl fp B => (g_name B.nd rfl (by first | exact Or.inl rfl | exact Or.inr rfl) (by first | exact Or.inl rfl | exact Or.inr rfl))) (fun s H C cl fp B => pts_no) (fun s H C cl fp B => (b_lc (ownN := [("one", 3)]) B [3] rfl (by kernel_rfl) (i_seq B.hc (x_var (pv 4))) (fun s H C cl fp B => (g_name B.nd rfl (by first | exact Or.inl rfl | exact Or.inr rfl) (by first | exact Or.inl rfl | exact Or.inr rfl))) (fun s H C cl fp B => pts_no) (fun s H C cl fp B => (b_call B 2 rfl rfl rfl rfl rfl (a_cons rfl (x_var (pv 3)) (a_cons rfl (x_var (pv 2)) a_nil)))) (fun _ => rfl))) (fun _ => rfl)) (a_cons rfl (x_var (pv 2)) a_nil)))) s_nil)))
theorem B_solved {Z : Wd} (d : Nat) (cdv : Value) (A : Around) (outer : List PySem.Env) (s : Shared) (H : Hp) (E : XK) (B : Bd fsL Z bnL csL d (Z.cf fsL d E) (Z.X I_solved cdv A outer s H E)) : PSs (Z.X I_solved cdv A outer s H E) I_solved.d.body (tS (Z.cf fsL d E) Z.tk Z.g I_solved.fd.b) :=
  (s_cons (s_asp (g_tupB B rfl rfl (g_cons rfl (g_name B.nd rfl (by first | exact Or.inl rfl | exact Or.inr rfl) (by first | exact Or.inl rfl | exact Or.inr rfl)) (g_cons rfl (g_name B.nd rfl (by first | exact Or.inl rfl | exact Or.inr rfl) (by first | exact Or.inl rfl | exact Or.inr rfl)) g_nil))) B.hc (b_call B 26 rfl rfl rfl rfl rfl (a_cons rfl (x_var (pv 0)) a_nil)) rfl rfl rfl) (s_cons (s_asp (g_tupB B rfl rfl (g_cons rfl (g_name B.nd rfl (by first | exact Or.inl rfl | exact Or.inr rfl) (by first | exact Or.inl rfl | exact Or.inr rfl)) (g_cons rfl (g_name B.nd rfl (by first | exact Or.inl rfl | exact Or.inr rfl) (by first | exact Or.inl rfl | exact Or.inr rfl)) (g_cons rfl (g_name B.nd rfl (by first | exact Or.inl rfl | exact Or.inr rfl) (by first | exact Or.inl rfl | exact Or.inr rfl)) g_nil)))) B.hc (b_call B 24 rfl rfl rfl rfl rfl (a_cons rfl (x_var (pv 1)) a_nil)) rfl rfl rfl) (s_cons (s_asn B.nd rfl (by first | exact Or.inl rfl | exact Or.inr rfl) (Or.inl rfl) (x_bi B.hc B.calm rfl rfl (B.mb m_len) rfl (a_cons rfl (x_ix B.hc B.hw B.hu (fun _ _ => rfl) (x_var (pv 1)) x_int) a_nil)) rfl) (s_cons (s_asn B.nd rfl (by first | exact Or.inl rfl | exact Or.inr rfl) (Or.inl rfl) (x_ix B.hc B.hw B.hu (fun _ _ => rfl) (x_var (pv 5)) (x_neg B.hc x_int)) rfl) (s_cons (s_asn B.nd rfl (by first | exact Or.inl rfl | exact Or.inr rfl) (Or.inl rfl) (x_op B.hc rfl (x_lst (a_cons rfl (b_glob B mc_ZERO rfl rfl) a_nil)) (x_var (pv 6))) rfl) (s_cons (b_for B (i_enu B.hc rfl (B.mb m_enumerate) rfl (a_cons rfl (x_var (pv 4)) a_nil)) (g_tupB B rfl rfl (g_cons rfl (g_name B.nd rfl (by first | exact Or.inl rfl | exact Or.inr rfl) (by first | exact Or.inl rfl | exact Or.inr rfl)) (g_cons rfl (g_name B.nd rfl (by first | exact Or.inl rfl | exact Or.inr rfl) (by first | exact Or.inl rfl | exact Or.inr rfl)) g_nil))) (s_cons (s_ite (t_cmp B.hc B.hw B.hu rfl rfl (x_var (pv 10)) (x_var (pv 6))) (s_cons (s_six B.hc B.hw B.hu (pv 8) (x_var (pv 10)) (b_call B 5 rfl rfl rfl rfl rfl (a_cons rfl (x_ix B.hc B.hw B.hu (fun _ _ => rfl) (x_ix B.hc B.hw B.hu (fun _ _ => rfl) (x_var (pv 3)) (x_var (pv 9))) (x_neg B.hc x_int)) (a_cons rfl (x_var (pv 7)) a_nil))) rfl rfl (fun _ => rfl)) s_nil) s_nil) s_nil) (fun _ => rfl)) (s_cons (b_asnLc (ownN := [("k", 9)]) B [9] rfl (by kernel_rfl) rfl rfl rfl (i_rng1 rfl (B.mb m_range) rfl (a_cons rfl (x_bi B.hc B.calm rfl rfl (B.mb m_len) rfl (a_cons rfl (x_var (pv 1)) a_nil)) a_nil) (arity_ok rfl)) (fun s H C cl fp B => (g_name B.nd rfl (by first | exact Or.inl rfl | exact Or.inr rfl) (by first | exact Or.inl rfl | exact Or.inr rfl))) (fun s H C cl fp B => pts_no) (fun s H C cl fp B => (b_call B 5 rfl rfl rfl rfl rfl (a_cons rfl (x_ix B.hc B.hw B.hu (fun _ _ => rfl) (x_var (pv 5)) (x_op B.hc rfl (x_var (pv 6)) (x_var (pv 9)))) (a_cons rfl (x_var (pv 7)) a_nil)))) (fun _ => rfl)) (s_cons (s_ret (x_tup (a_cons rfl (b_call B 3 rfl rfl rfl rfl rfl (a_cons rfl (b_call B 5 rfl rfl rfl rfl rfl (a_cons rfl (b_glob B mc_ONE rfl rfl) (a_cons rfl (x_var (pv 7)) a_nil))) (a_cons rfl (x_var (pv 2)) a_nil))) (a_cons rfl (x_bi B.hc B.calm rfl rfl (B.mb m_tuple) rfl (a_cons rfl (x_var (pv 11)) a_nil)) (a_cons rfl (x_bi B.hc B.calm rfl rfl (B.mb m_tuple) rfl (a_cons rfl (x_var (pv 8)) a_nil)) a_nil))))) s_nil))))))))
theorem B_table_worth {Z : Wd} (d : Nat) (cdv : Value) (A : Around) (outer : List PySem.Env) (s : Shared) (H : Hp) (E : XK) (B : Bd fsL Z bnL csL d (Z.cf fsL d E) (Z.X I_table_worth cdv A outer s H E)) : PSs (Z.X I_table_worth cdv A outer s H E) I_table_worth.d.body (tS (Z.cf fsL d E) Z.tk Z.g I_table_worth.fd.b) :=
  (s_cons (s_ret (x_ix B.hc B.hw B.hu (fun _ _ => rfl) (b_call B 27 rfl rfl rfl rfl rfl (a_cons rfl (x_var (pv 0)) a_nil)) x_int)) s_nil)
theorem B__law_draw {Z : Wd} (d : Nat) (cdv : Value) (A : Around) (outer : List PySem.Env) (s : Shared) (H : Hp) (E : XK) (B : Bd fsL Z bnL csL d (Z.cf fsL d E) (Z.X I__law_draw cdv A outer s H E)) : PSs (Z.X I__law_draw cdv A outer s H E) I__law_draw.d.body (tS (Z.cf fsL d E) Z.tk Z.g I__law_draw.fd.b) :=
  (s_cons (s_asn B.nd rfl (by first | exact Or.inl rfl | exact Or.inr rfl) (Or.inl rfl) x_int rfl) (s_cons (b_for B (i_seq B.hc (x_var (pv 0))) (g_name B.nd rfl (by first | exact Or.inl rfl | exact Or.inr rfl) (by first | exact Or.inl rfl | exact Or.inr rfl)) (s_cons (s_asn B.nd rfl (by first | exact Or.inl rfl | exact Or.inr rfl) (Or.inl rfl) (x_op B.hc rfl (x_bi B.hc B.calm rfl rfl (B.mb m_int) rfl (a_cons rfl (x_op B.hc rfl (x_op B.hc rfl (x_op B.hc rfl (x_var (pv 1)) x_int) (x_op B.hc rfl (x_bi B.hc B.calm rfl rfl (B.mb m_abs) rfl (a_cons rfl (x_bi B.hc B.calm rfl rfl (B.mb m_int) rfl (a_cons rfl (x_var (pv 2)) a_nil)) a_nil)) x_int)) x_int) a_nil)) x_int) rfl) s_nil) (fun _ => rfl)) (s_cons (s_ret (x_lst (a_cons rfl (b_lc (ownN := [("cell", 2)]) B [2] rfl (by kernel_rfl) (i_seq B.hc (x_var (pv 0))) (fun s H C cl fp B => (g_name B.nd rfl (by first | exact Or.inl rfl | exact Or.inr rfl) (by first | exact Or.inl rfl | exact Or.inr rfl))) (fun s H C cl fp B => pts_no) (fun s H C cl fp B => (x_bi B.hc B.calm rfl rfl (B.mb m_abs) rfl (a_cons rfl (x_bi B.hc B.calm rfl rfl (B.mb m_int) rfl (a_cons rfl (x_var (pv 2)) a_nil)) a_nil))) (fun _ => rfl)) (a_cons rfl (x_neg B.hc x_int) (a_cons rfl x_int (a_cons rfl (x_var (pv 1)) a_nil)))))) s_nil)))
theorem B__law_take {Z : Wd} (d : Nat) (cdv : Value) (A : Around) (outer : List PySem.Env) (s : Shared) (H : Hp) (E : XK) (B : Bd fsL Z bnL csL d (Z.cf fsL d E) (Z.X I__law_take cdv A outer s H E)) : PSs (Z.X I__law_take cdv A outer s H E) I__law_take.d.body (tS (Z.cf fsL d E) Z.tk Z.g I__law_take.fd.b) :=
  (s_cons (s_ite (t_cmp B.hc B.hw B.hu rfl rfl (x_ix B.hc B.hw B.hu (fun _ _ => rfl) (x_var (pv 0)) x_int) x_int) (s_cons (s_six B.hc B.hw B.hu (pv 0) x_int (x_op B.hc rfl (x_ix B.hc B.hw B.hu (fun _ _ => rfl) (x_var (pv 0)) x_int) x_int) rfl rfl (fun _ => rfl)) (s_cons (s_ite (t_cmp B.hc B.hw B.hu rfl rfl (x_ix B.hc B.hw B.hu (fun _ _ => rfl) (x_var (pv 0)) x_int) (x_bi B.hc B.calm rfl rfl (B.mb m_len) rfl (a_cons rfl (x_ix B.hc B.hw B.hu (fun _ _ => rfl) (x_var (pv 0)) x_int) a_nil))) (s_cons (s_six B.hc B.hw B.hu (pv 0) x_int (x_ix B.hc B.hw B.hu (fun _ _ => rfl) (x_ix B.hc B.hw B.hu (fun _ _ => rfl) (x_var (pv 0)) x_int) (x_ix B.hc B.hw B.hu (fun _ _ => rfl) (x_var (pv 0)) x_int)) rfl rfl (fun _ => rfl)) s_nil) s_nil) (s_cons (s_ite (t_cmp B.hc B.hw B.hu rfl rfl (x_ix B.hc B.hw B.hu (fun _ _ => rfl) (x_var (pv 0)) x_int) x_int) (s_cons (s_six B.hc B.hw B.hu (pv 0) x_int (x_op B.hc rfl (x_bi B.hc B.calm rfl rfl (B.mb m_int) rfl (a_cons rfl (x_op B.hc rfl (x_op B.hc rfl (x_ix B.hc B.hw B.hu (fun _ _ => rfl) (x_var (pv 0)) x_int) x_int) x_int) a_nil)) x_int) rfl rfl (fun _ => rfl)) (s_cons (s_six B.hc B.hw B.hu (pv 0) x_int (x_ix B.hc B.hw B.hu (fun _ _ => rfl) (x_var (pv 0)) x_int) rfl rfl (fun _ => rfl)) s_nil)) s_nil) s_nil))) s_nil) (s_cons (s_asn B.nd rfl (by first | exact Or.inl rfl | exact Or.inr rfl) (Or.inl rfl) (x_op B.hc rfl (x_bi B.hc B.calm rfl rfl (B.mb m_int) rfl (a_cons rfl (x_ix B.hc B.hw B.hu (fun _ _ => rfl) (x_var (pv 0)) x_int) a_nil)) (x_var (pv 1))) rfl) (s_cons (s_six B.hc B.hw B.hu (pv 0) x_int (x_op B.hc rfl (x_ix B.hc B.hw B.hu (fun _ _ => rfl) (x_var (pv 0)) x_int) (x_var (pv 1))) rfl rfl (fun _ => rfl)) (s_cons (s_ret (x_var (pv 2))) s_nil))))
theorem B__law_lowest {Z : Wd} (d : Nat) (cdv : Value) (A : Around) (outer : List PySem.Env) (s : Shared) (H : Hp) (E : XK) (B : Bd fsL Z bnL csL d (Z.cf fsL d E) (Z.X I__law_lowest cdv A outer s H E)) : PSs (Z.X I__law_lowest cdv A outer s H E) I__law_lowest.d.body (tS (Z.cf fsL d E) Z.tk Z.g I__law_lowest.fd.b) :=
  (s_cons (s_par2 B.calm B.nd rfl rfl rfl rfl (a_cons rfl (x_bi B.hc B.calm rfl rfl (B.mb m_abs) rfl (a_cons rfl (x_var (pv 0)) a_nil)) (a_cons rfl (x_bi B.hc B.calm rfl rfl (B.mb m_abs) rfl (a_cons rfl (x_var (pv 1)) a_nil)) a_nil)) rfl (by decide)) (s_cons (s_whl B.po (t_cmp B.hc B.hw B.hu rfl rfl (x_var (pv 3)) x_int) (s_cons (s_par2 B.calm B.nd rfl rfl rfl rfl (a_cons rfl (x_var (pv 3)) (a_cons rfl (x_op B.hc rfl (x_var (pv 2)) (x_op B.hc rfl (x_var (pv 3)) (x_op B.hc rfl (x_var (pv 2)) (x_var (pv 3))))) a_nil)) rfl (by decide)) s_nil)) (s_cons (s_ret (x_ite (t_cmp B.hc B.hw B.hu rfl rfl (x_var (pv 1)) x_int) (x_tup (a_cons rfl (x_op B.hc rfl (x_var (pv 0)) (x_var (pv 2))) (a_cons rfl (x_op B.hc rfl (x_var (pv 1)) (x_var (pv 2))) a_nil))) (x_tup (a_cons rfl (x_op B.hc rfl (x_neg B.hc (x_var (pv 0))) (x_var (pv 2))) (a_cons rfl (x_op B.hc rfl (x_neg B.hc (x_var (pv 1))) (x_var (pv 2))) a_nil))))) s_nil)))
theorem B__law_plus {Z : Wd} (d : Nat) (cdv : Value) (A : Around) (outer : List PySem.Env) (s : Shared) (H : Hp) (E : XK) (B : Bd fsL Z bnL csL d (Z.cf fsL d E) (Z.X I__law_plus cdv A outer s H E)) : PSs (Z.X I__law_plus cdv A outer s H E) I__law_plus.d.body (tS (Z.cf fsL d E) Z.tk Z.g I__law_plus.fd.b) :=
  (s_cons (s_ret (b_call B 31 rfl rfl rfl rfl rfl (a_cons rfl (x_op B.hc rfl (x_op B.hc rfl (x_ix B.hc B.hw B.hu (fun _ _ => rfl) (x_var (pv 0)) x_int) (x_ix B.hc B.hw B.hu (fun _ _ => rfl) (x_var (pv 1)) x_int)) (x_op B.hc rfl (x_ix B.hc B.hw B.hu (fun _ _ => rfl) (x_var (pv 1)) x_int) (x_ix B.hc B.hw B.hu (fun _ _ => rfl) (x_var (pv 0)) x_int))) (a_cons rfl (x_op B.hc rfl (x_ix B.hc B.hw B.hu (fun _ _ => rfl) (x_var (pv 0)) x_int) (x_ix B.hc B.hw B.hu (fun _ _ => rfl) (x_var (pv 1)) x_int)) a_nil)))) s_nil)
theorem B__law_times {Z : Wd} (d : Nat) (cdv : Value) (A : Around) (outer : List PySem.Env) (s : Shared) (H : Hp) (E : XK) (B : Bd fsL Z bnL csL d (Z.cf fsL d E) (Z.X I__law_times cdv A outer s H E)) : PSs (Z.X I__law_times cdv A outer s H E) I__law_times.d.body (tS (Z.cf fsL d E) Z.tk Z.g I__law_times.fd.b) :=
  (s_cons (s_ret (b_call B 31 rfl rfl rfl rfl rfl (a_cons rfl (x_op B.hc rfl (x_ix B.hc B.hw B.hu (fun _ _ => rfl) (x_var (pv 0)) x_int) (x_ix B.hc B.hw B.hu (fun _ _ => rfl) (x_var (pv 1)) x_int)) (a_cons rfl (x_op B.hc rfl (x_ix B.hc B.hw B.hu (fun _ _ => rfl) (x_var (pv 0)) x_int) (x_ix B.hc B.hw B.hu (fun _ _ => rfl) (x_var (pv 1)) x_int)) a_nil)))) s_nil)
theorem B__law_minus {Z : Wd} (d : Nat) (cdv : Value) (A : Around) (outer : List PySem.Env) (s : Shared) (H : Hp) (E : XK) (B : Bd fsL Z bnL csL d (Z.cf fsL d E) (Z.X I__law_minus cdv A outer s H E)) : PSs (Z.X I__law_minus cdv A outer s H E) I__law_minus.d.body (tS (Z.cf fsL d E) Z.tk Z.g I__law_minus.fd.b) :=
  (s_cons (s_ret (b_call B 32 rfl rfl rfl rfl rfl (a_cons rfl (x_var (pv 0)) (a_cons rfl (x_tup (a_cons rfl (x_neg B.hc (x_ix B.hc B.hw B.hu (fun _ _ => rfl) (x_var (pv 1)) x_int)) (a_cons rfl (x_ix B.hc B.hw B.hu (fun _ _ => rfl) (x_var (pv 1)) x_int) a_nil))) a_nil)))) s_nil)
theorem B__law_over {Z : Wd} (d : Nat) (cdv : Value) (A : Around) (outer : List PySem.Env) (s : Shared) (H : Hp) (E : XK) (B : Bd fsL Z bnL csL d (Z.cf fsL d E) (Z.X I__law_over cdv A outer s H E)) : PSs (Z.X I__law_over cdv A outer s H E) I__law_over.d.body (tS (Z.cf fsL d E) Z.tk Z.g I__law_over.fd.b) :=
  (s_cons (s_ret (b_call B 31 rfl rfl rfl rfl rfl (a_cons rfl (x_op B.hc rfl (x_ix B.hc B.hw B.hu (fun _ _ => rfl) (x_var (pv 0)) x_int) (x_ix B.hc B.hw B.hu (fun _ _ => rfl) (x_var (pv 1)) x_int)) (a_cons rfl (x_op B.hc rfl (x_ix B.hc B.hw B.hu (fun _ _ => rfl) (x_var (pv 0)) x_int) (x_ix B.hc B.hw B.hu (fun _ _ => rfl) (x_var (pv 1)) x_int)) a_nil)))) s_nil)
theorem B__law_less {Z : Wd} (d : Nat) (cdv : Value) (A : Around) (outer : List PySem.Env) (s : Shared) (H : Hp) (E : XK) (B : Bd fsL Z bnL csL d (Z.cf fsL d E) (Z.X I__law_less cdv A outer s H E)) : PSs (Z.X I__law_less cdv A outer s H E) I__law_less.d.body (tS (Z.cf fsL d E) Z.tk Z.g I__law_less.fd.b) :=
  (s_cons (s_ret (x_cmp B.hc B.hw B.hu rfl rfl (x_op B.hc rfl (x_ix B.hc B.hw B.hu (fun _ _ => rfl) (x_var (pv 0)) x_int) (x_ix B.hc B.hw B.hu (fun _ _ => rfl) (x_var (pv 1)) x_int)) (x_op B.hc rfl (x_ix B.hc B.hw B.hu (fun _ _ => rfl) (x_var (pv 1)) x_int) (x_ix B.hc B.hw B.hu (fun _ _ => rfl) (x_var (pv 0)) x_int)))) s_nil)
theorem B__law_sum {Z : Wd} (d : Nat) (cdv : Value) (A : Around) (outer : List PySem.Env) (s : Shared) (H : Hp) (E : XK) (B : Bd fsL Z bnL csL d (Z.cf fsL d E) (Z.X I__law_sum cdv A outer s H E)) : PSs (Z.X I__law_sum cdv A outer s H E) I__law_sum.d.body (tS (Z.cf fsL d E) Z.tk Z.g I__law_sum.fd.b) :=
  (s_cons (s_asn B.nd rfl (by first | exact Or.inl rfl | exact Or.inr rfl) (Or.inl rfl) (x_tup (a_cons rfl x_int (a_cons rfl x_int a_nil))) rfl) (s_cons (b_for B (i_seq B.hc (x_var (pv 0))) (g_name B.nd rfl (by first | exact Or.inl rfl | exact Or.inr rfl) (by first | exact Or.inl rfl | exact Or.inr rfl)) (s_cons (s_asn B.nd rfl (by first | exact Or.inl rfl | exact Or.inr rfl) (Or.inl rfl) (b_call B 32 rfl rfl rfl rfl rfl (a_cons rfl (x_var (pv 1)) (a_cons rfl (x_var (pv 2)) a_nil))) rfl) s_nil) (fun _ => rfl)) (s_cons (s_ret (x_var (pv 1))) s_nil)))
theorem B__law_best {Z : Wd} (d : Nat) (cdv : Value) (A : Around) (outer : List PySem.Env) (s : Shared) (H : Hp) (E : XK) (B : Bd fsL Z bnL csL d (Z.cf fsL d E) (Z.X I__law_best cdv A outer s H E)) : PSs (Z.X I__law_best cdv A outer s H E) I__law_best.d.body (tS (Z.cf fsL d E) Z.tk Z.g I__law_best.fd.b) :=
  (s_cons (s_asn B.nd rfl (by first | exact Or.inl rfl | exact Or.inr rfl) (Or.inl rfl) (x_ix B.hc B.hw B.hu (fun _ _ => rfl) (x_var (pv 0)) x_int) rfl) (s_cons (b_for B (i_seq B.hc (x_var (pv 0))) (g_name B.nd rfl (by first | exact Or.inl rfl | exact Or.inr rfl) (by first | exact Or.inl rfl | exact Or.inr rfl)) (s_cons (s_ite (PW.pt (t_or (PW.pt (t_and (t_plain B.hc (b_call B 36 rfl rfl rfl rfl rfl (a_cons rfl (x_var (pv 2)) (a_cons rfl (x_var (pv 3)) a_nil))) (fun _ => rfl) (fun _ => rfl)) (t_and1 (t_cmp B.hc B.hw B.hu rfl rfl (x_var (pv 1)) x_int)))) (t_or1 (PW.pt (t_and (t_plain B.hc (b_call B 36 rfl rfl rfl rfl rfl (a_cons rfl (x_var (pv 3)) (a_cons rfl (x_var (pv 2)) a_nil))) (fun _ => rfl) (fun _ => rfl)) (t_and1 (t_cmp B.hc B.hw B.hu rfl rfl (x_var (pv 1)) (x_neg B.hc x_int)))))))) (s_cons (s_asn B.nd rfl (by first | exact Or.inl rfl | exact Or.inr rfl) (Or.inl rfl) (x_var (pv 3)) rfl) s_nil) s_nil) s_nil) (fun _ => rfl)) (s_cons (s_ret (x_var (pv 2))) s_nil)))
theorem B__law_gain {Z : Wd} (d : Nat) (cdv : Value) (A : Around) (outer : List PySem.Env) (s : Shared) (H : Hp) (E : XK) (B : Bd fsL Z bnL csL d (Z.cf fsL d E) (Z.X I__law_gain cdv A outer s H E)) : PSs (Z.X I__law_gain cdv A outer s H E) I__law_gain.d.body (tS (Z.cf fsL d E) Z.tk Z.g I__law_gain.fd.b) :=
  (s_cons (s_ret (b_call B 31 rfl rfl rfl rfl rfl (a_cons rfl (x_op B.hc rfl (b_call B 30 rfl rfl rfl rfl rfl (a_cons rfl (x_var (pv 0)) (a_cons rfl x_int a_nil))) x_int) (a_cons rfl (x_op B.hc rfl x_int (b_call B 30 rfl rfl rfl rfl rfl (a_cons rfl (x_var (pv 0)) (a_cons rfl x_int a_nil)))) a_nil)))) s_nil)
theorem B__law_offer {Z : Wd} (d : Nat) (cdv : Value) (A : Around) (outer : List PySem.Env) (s : Shared) (H : Hp) (E : XK) (B : Bd fsL Z bnL csL d (Z.cf fsL d E) (Z.X I__law_offer cdv A outer s H E)) : PSs (Z.X I__law_offer cdv A outer s H E) I__law_offer.d.body (tS (Z.cf fsL d E) Z.tk Z.g I__law_offer.fd.b) :=
  (s_cons (s_asp (g_tupB B rfl rfl (g_cons rfl (g_name B.nd rfl (by first | exact Or.inl rfl | exact Or.inr rfl) (by first | exact Or.inl rfl | exact Or.inr rfl)) (g_cons rfl (g_name B.nd rfl (by first | exact Or.inl rfl | exact Or.inr rfl) (by first | exact Or.inl rfl | exact Or.inr rfl)) g_nil))) B.hc (x_ix B.hc B.hw B.hu (fun _ _ => rfl) (x_var (pv 0)) (x_var (pv 3))) rfl rfl rfl) (s_cons (s_asn B.nd rfl (by first | exact Or.inl rfl | exact Or.inr rfl) (Or.inl rfl) (b_call B 32 rfl rfl rfl rfl rfl (a_cons rfl (x_var (pv 4)) (a_cons rfl (b_call B 41 rfl rfl rfl rfl rfl (a_cons rfl (x_var (pv 0)) (a_cons rfl (x_op B.hc rfl (x_var (pv 1)) x_int) (a_cons rfl (x_op B.hc rfl (x_var (pv 2)) x_int) a_nil)))) a_nil))) rfl) (s_cons (s_ret (b_call B 32 rfl rfl rfl rfl rfl (a_cons rfl (b_call B 33 rfl rfl rfl rfl rfl (a_cons rfl (x_var (pv 5)) (a_cons rfl (x_var (pv 6)) a_nil))) (a_cons rfl (b_call B 33 rfl rfl rfl rfl rfl (a_cons rfl (b_call B 34 rfl rfl rfl rfl rfl (a_cons rfl (x_tup (a_cons rfl x_int (a_cons rfl x_int a_nil))) (a_cons rfl (x_var (pv 5)) a_nil))) (a_cons rfl (b_call B 41 rfl rfl rfl rfl rfl (a_cons rfl (x_var (pv 0)) (a_cons rfl (x_op B.hc rfl (x_var (pv 1)) x_int) (a_cons rfl (x_var (pv 2)) a_nil)))) a_nil))) a_nil)))) s_nil)))
theorem B__law_price {Z : Wd} (d : Nat) (cdv : Value) (A : Around) (outer : List PySem.Env) (s : Shared) (H : Hp) (E : XK) (B : Bd fsL Z bnL csL d (Z.cf fsL d E) (Z.X I__law_price cdv A outer s H E)) : PSs (Z.X I__law_price cdv A outer s H E) I__law_price.d.body (tS (Z.cf fsL d E) Z.tk Z.g I__law_price.fd.b) :=
  (s_cons (s_ite (PW.pt (t_or (t_cmp B.hc B.hw B.hu rfl rfl (x_var (pv 1)) x_int) (t_or1 (t_cmp B.hc B.hw B.hu rfl rfl (x_var (pv 2)) x_int)))) (s_cons (s_ret (x_tup (a_cons rfl x_int (a_cons rfl x_int a_nil)))) s_nil) s_nil) (s_cons (s_ret (b_call B 38 rfl rfl rfl rfl rfl (a_cons rfl (x_op B.hc rfl (x_lst (a_cons rfl (b_call B 41 rfl rfl rfl rfl rfl (a_cons rfl (x_var (pv 0)) (a_cons rfl (x_op B.hc rfl (x_var (pv 1)) x_int) (a_cons rfl (x_var (pv 2)) a_nil)))) a_nil)) (b_lc (ownN := [("k", 3)]) B [3] rfl (by kernel_rfl) (i_rng1 rfl (B.mb m_range) rfl (a_cons rfl (x_bi B.hc B.calm rfl rfl (B.mb m_len) rfl (a_cons rfl (x_var (pv 0)) a_nil)) a_nil) (arity_ok rfl)) (fun s H C cl fp B => (g_name B.nd rfl (by first | exact Or.inl rfl | exact Or.inr rfl) (by first | exact Or.inl rfl | exact Or.inr rfl))) (fun s H C cl fp B => pts_no) (fun s H C cl fp B => (b_call B 40 rfl rfl rfl rfl rfl (a_cons rfl (x_var (pv 0)) (a_cons rfl (x_var (pv 1)) (a_cons rfl (x_var (pv 2)) (a_cons rfl (x_var (pv 3)) a_nil)))))) (fun _ => rfl))) (a_cons rfl x_int a_nil)))) s_nil))
theorem B_law {Z : Wd} (d : Nat) (cdv : Value) (A : Around) (outer : List PySem.Env) (s : Shared) (H : Hp) (E : XK) (B : Bd fsL Z bnL csL d (Z.cf fsL d E) (Z.X I_law cdv A outer s H E)) : PSs (Z.X I_law cdv A outer s H E) I_law.d.body (tS (Z.cf fsL d E) Z.tk Z.g I_law.fd.b) :=
  (s_cons (s_asn B.nd rfl (by first | exact Or.inl rfl | exact Or.inr rfl) (Or.inl rfl) (b_call B 29 rfl rfl rfl rfl rfl (a_cons rfl (x_var (pv 0)) a_nil)) rfl) (s_cons (s_par2 B.calm B.nd rfl rfl rfl rfl (a_cons rfl (x_tup (a_cons rfl x_int (a_cons rfl x_int a_nil))) (a_cons rfl (x_lst (a_cons rfl x_non (a_cons rfl (x_tup (a_cons rfl x_int (a_cons rfl x_int a_nil))) a_nil))) a_nil)) rfl (by decide)) (s_cons (b_for B (i_rng2 rfl (B.mb m_range) rfl rfl (a_cons rfl x_int (a_cons rfl x_int a_nil)) (arity_ok rfl)) (g_name B.nd rfl (by first | exact Or.inl rfl | exact Or.inr rfl) (by first | exact Or.inl rfl | exact Or.inr rfl)) (s_cons (s_append B.hc (pv 3) rfl (a_cons rfl (b_call B 33 rfl rfl rfl rfl rfl (a_cons rfl (x_var (pv 2)) (a_cons rfl (b_call B 32 rfl rfl rfl rfl rfl (a_cons rfl (x_tup (a_cons rfl x_int (a_cons rfl x_int a_nil))) (a_cons rfl (b_call B 33 rfl rfl rfl rfl rfl (a_cons rfl (x_ix B.hc B.hw B.hu (fun _ _ => rfl) (x_var (pv 3)) (x_neg B.hc x_int)) (a_cons rfl (x_ix B.hc B.hw B.hu (fun _ _ => rfl) (x_var (pv 3)) (x_neg B.hc x_int)) a_nil))) a_nil))) a_nil))) a_nil) rfl rfl) s_nil) (fun _ => rfl)) (s_cons (s_asn B.nd rfl (by first | exact Or.inl rfl | exact Or.inr rfl) (Or.inl rfl) (x_lst (a_cons rfl x_non (a_cons rfl x_non (a_cons rfl (x_tup (a_cons rfl x_int (a_cons rfl x_int a_nil))) a_nil)))) rfl) (s_cons (b_for B (i_rng2 rfl (B.mb m_range) rfl rfl (a_cons rfl x_int (a_cons rfl x_int a_nil)) (arity_ok rfl)) (g_name B.nd rfl (by first | exact Or.inl rfl | exact Or.inr rfl) (by first | exact Or.inl rfl | exact Or.inr rfl)) (s_cons (s_asn B.nd rfl (by first | exact Or.inl rfl | exact Or.inr rfl) (Or.inl rfl) (b_call B 38 rfl rfl rfl rfl rfl (a_cons rfl (x_lst (a_cons rfl (x_tup (a_cons rfl x_int (a_cons rfl x_int a_nil))) (a_cons rfl (b_call B 38 rfl rfl rfl rfl rfl (a_cons rfl (x_lst (a_cons rfl (x_tup (a_cons rfl x_int (a_cons rfl x_int a_nil))) (a_cons rfl (b_call B 34 rfl rfl rfl rfl rfl (a_cons rfl (x_ix B.hc B.hw B.hu (fun _ _ => rfl) (x_var (pv 5)) (x_op B.hc rfl (x_var (pv 4)) x_int)) (a_cons rfl (x_ix B.hc B.hw B.hu (fun _ _ => rfl) (x_var (pv 3)) (x_op B.hc rfl (x_var (pv 4)) x_int)) a_nil))) a_nil))) (a_cons rfl (x_neg B.hc x_int) a_nil))) a_nil))) (a_cons rfl x_int a_nil))) rfl) (s_cons (s_asn B.nd rfl (by first | exact Or.inl rfl | exact Or.inr rfl) (Or.inl rfl) (b_call B 33 rfl rfl rfl rfl rfl (a_cons rfl (x_var (pv 2)) (a_cons rfl (b_call B 34 rfl rfl rfl rfl rfl (a_cons rfl (x_tup (a_cons rfl x_int (a_cons rfl x_int a_nil))) (a_cons rfl (b_call B 33 rfl rfl rfl rfl rfl (a_cons rfl (x_var (pv 6)) (a_cons rfl (x_var (pv 6)) a_nil))) a_nil))) a_nil))) rfl) (s_cons (s_append B.hc (pv 5) rfl (a_cons rfl (b_call B 37 rfl rfl rfl rfl rfl (a_cons rfl (x_lst (a_cons rfl (x_var (pv 7)) (a_cons rfl (b_call B 33 rfl rfl rfl rfl rfl (a_cons rfl (b_call B 34 rfl rfl rfl rfl rfl (a_cons rfl (x_tup (a_cons rfl x_int (a_cons rfl x_int a_nil))) (a_cons rfl (x_var (pv 6)) a_nil))) (a_cons rfl (x_ix B.hc B.hw B.hu (fun _ _ => rfl) (x_var (pv 3)) (x_op B.hc rfl (x_var (pv 4)) x_int)) a_nil))) (a_cons rfl (b_call B 33 rfl rfl rfl rfl rfl (a_cons rfl (x_var (pv 6)) (a_cons rfl (x_ix B.hc B.hw B.hu (fun _ _ => rfl) (x_var (pv 5)) (x_op B.hc rfl (x_var (pv 4)) x_int)) a_nil))) a_nil)))) a_nil)) a_nil) rfl rfl) s_nil))) (fun _ => rfl)) (s_cons (s_asn B.nd rfl (by first | exact Or.inl rfl | exact Or.inr rfl) (Or.inl rfl) (x_op B.hc rfl x_int (b_call B 30 rfl rfl rfl rfl rfl (a_cons rfl (x_var (pv 1)) (a_cons rfl x_int a_nil)))) rfl) (s_cons (s_ite (PW.pt (t_or (t_cmp B.hc B.hw B.hu rfl rfl (b_call B 12 rfl rfl rfl rfl rfl (a_cons rfl (x_var (pv 4)) a_nil)) (x_ix B.hc B.hw B.hu (fun _ _ => rfl) (x_var (pv 3)) (x_var (pv 4)))) (t_or (PW.pt (t_and (t_cmp B.hc B.hw B.hu rfl rfl (x_var (pv 4)) x_int) (t_and1 (t_cmp B.hc B.hw B.hu rfl rfl (b_call B 14 rfl rfl rfl rfl rfl (a_cons rfl (x_var (pv 4)) a_nil)) (x_ix B.hc B.hw B.hu (fun _ _ => rfl) (x_var (pv 5)) (x_var (pv 4))))))) (t_or1 (t_not (t_plain B.hc (x_isi (t := .tuple) B.hc rfl (B.mb m_isinstance) rfl (B.mb m_tuple) rfl (b_call B 12 rfl rfl rfl rfl rfl (a_cons rfl (x_var (pv 4)) a_nil))) (fun _ => rfl) (fun _ => rfl))))))) (s_cons (s_ret x_bl) s_nil) s_nil) (s_cons (s_asn B.nd rfl (by first | exact Or.inl rfl | exact Or.inr rfl) (Or.inl rfl) (x_bi B.hc B.calm rfl rfl (B.mb m_tuple) rfl (a_cons rfl (b_lc (ownN := [("k", 21)]) B [21] rfl (by kernel_rfl) (i_rng1 rfl (B.mb m_range) rfl (a_cons rfl (x_op B.hc rfl x_int (b_call B 30 rfl rfl rfl rfl rfl (a_cons rfl (x_var (pv 1)) (a_cons rfl x_int a_nil)))) a_nil) (arity_ok rfl)) (fun s H C cl fp B => (g_name B.nd rfl (by first | exact Or.inl rfl | exact Or.inr rfl) (by first | exact Or.inl rfl | exact Or.inr rfl))) (fun s H C cl fp B => pts_no) (fun s H C cl fp B => (x_tup (a_cons rfl (b_call B 39 rfl rfl rfl rfl rfl (a_cons rfl (x_var (pv 1)) a_nil)) (a_cons rfl (x_ix B.hc B.hw B.hu (fun _ _ => rfl) (x_lst (a_cons rfl (x_tup (a_cons rfl x_int (a_cons rfl x_int a_nil))) (a_cons rfl (x_tup (a_cons rfl x_int (a_cons rfl x_int a_nil))) (a_cons rfl (x_tup (a_cons rfl x_int (a_cons rfl x_int a_nil))) (a_cons rfl (x_tup (a_cons rfl x_int (a_cons rfl x_int a_nil))) (a_cons rfl (x_tup (a_cons rfl x_int (a_cons rfl x_int a_nil))) a_nil)))))) (b_call B 30 rfl rfl rfl rfl rfl (a_cons rfl (x_var (pv 1)) (a_cons rfl x_int a_nil)))) a_nil)))) (fun _ => rfl)) a_nil)) rfl) (s_cons (s_parN B.calm B.nd (.cons rfl (by first | exact Or.inl rfl | exact Or.inr rfl) (Or.inl rfl) (.cons rfl (by first | exact Or.inl rfl | exact Or.inr rfl) (Or.inl rfl) .nil)) (a_cons rfl (b_call B 30 rfl rfl rfl rfl rfl (a_cons rfl (x_var (pv 1)) (a_cons rfl x_int a_nil))) (a_cons rfl (b_call B 30 rfl rfl rfl rfl rfl (a_cons rfl (x_var (pv 1)) (a_cons rfl x_int a_nil))) a_nil)) (by decide) rfl) (s_cons (s_asn B.nd rfl (by first | exact Or.inl rfl | exact Or.inr rfl) (Or.inl rfl) (b_call B 41 rfl rfl rfl rfl rfl (a_cons rfl (x_var (pv 8)) (a_cons rfl (x_var (pv 4)) (a_cons rfl (x_var (pv 9)) a_nil)))) rfl) (s_cons (s_ite (t_cmp B.hc B.hw B.hu rfl rfl (b_call B 18 rfl rfl rfl rfl rfl (a_cons rfl (x_var (pv 8)) (a_cons rfl (x_var (pv 4)) (a_cons rfl (x_var (pv 9)) a_nil)))) (x_var (pv 10))) (s_cons (s_ret x_bl) s_nil) s_nil) (s_cons (s_asn B.nd rfl (by first | exact Or.inl rfl | exact Or.inr rfl) (Or.inl rfl) (b_call B 19 rfl rfl rfl rfl rfl (a_cons rfl (x_var (pv 8)) (a_cons rfl (x_var (pv 4)) (a_cons rfl (x_var (pv 9)) a_nil)))) rfl) (s_cons (s_ite (PW.pt (t_or (t_cmp B.hc B.hw B.hu rfl rfl (x_var (pv 4)) x_int) (t_or (t_cmp B.hc B.hw B.hu rfl rfl (x_var (pv 9)) x_int) (t_or1 (t_not (t_plain B.hc (b_call B 36 rfl rfl rfl rfl rfl (a_cons rfl (b_call B 41 rfl rfl rfl rfl rfl (a_cons rfl (x_var (pv 8)) (a_cons rfl (x_op B.hc rfl (x_var (pv 4)) x_int) (a_cons rfl (x_var (pv 9)) a_nil)))) (a_cons rfl (x_var (pv 10)) a_nil))) (fun _ => rfl) (fun _ => rfl))))))) (s_cons (s_ite (t_cmp B.hc B.hw B.hu rfl rfl (x_var (pv 11)) x_non) (s_cons (s_ret x_bl) s_nil) s_nil) s_nil) (s_cons (s_ite (t_cmp B.hc B.hw B.hu rfl rfl (x_var (pv 11)) (x_mth B.hc B.hu rfl (fun _ _ _ h => nomatch h) rfl rfl (by decide) (b_lc (ownN := [("k", 21)]) B [21] rfl (by kernel_rfl) (i_rng1 rfl (B.mb m_range) rfl (a_cons rfl (x_bi B.hc B.calm rfl rfl (B.mb m_len) rfl (a_cons rfl (x_var (pv 8)) a_nil)) a_nil) (arity_ok rfl)) (fun s H C cl fp B => (g_name B.nd rfl (by first | exact Or.inl rfl | exact Or.inr rfl) (by first | exact Or.inl rfl | exact Or.inr rfl))) (fun s H C cl fp B => pts_no) (fun s H C cl fp B => (b_call B 40 rfl rfl rfl rfl rfl (a_cons rfl (x_var (pv 8)) (a_cons rfl (x_var (pv 4)) (a_cons rfl (x_var (pv 9)) (a_cons rfl (x_var (pv 21)) a_nil)))))) (fun _ => rfl)) (a_cons rfl (x_var (pv 10)) a_nil))) (s_cons (s_ret x_bl) s_nil) s_nil) s_nil)) (s_cons (s_parN B.calm B.nd (.cons rfl (by first | exact Or.inl rfl | exact Or.inr rfl) (Or.inl rfl) (.cons rfl (by first | exact Or.inl rfl | exact Or.inr rfl) (Or.inl rfl) (.cons rfl (by first | exact Or.inl rfl | exact Or.inr rfl) (Or.inl rfl) .nil))) (a_cons rfl (x_op B.hc rfl x_int (b_call B 30 rfl rfl rfl rfl rfl (a_cons rfl (x_var (pv 1)) (a_cons rfl x_int a_nil)))) (a_cons rfl (x_op B.hc rfl x_int (b_call B 30 rfl rfl rfl rfl rfl (a_cons rfl (x_var (pv 1)) (a_cons rfl x_int a_nil)))) (a_cons rfl (x_op B.hc rfl x_int (b_call B 30 rfl rfl rfl rfl rfl (a_cons rfl (x_var (pv 1)) (a_cons rfl x_int a_nil)))) a_nil))) (by decide) rfl) (s_cons (s_ite (t_cmp B.hc B.hw B.hu rfl rfl (b_call B 20 rfl rfl rfl rfl rfl (a_cons rfl (x_var (pv 12)) (a_cons rfl (x_var (pv 13)) (a_cons rfl (x_var (pv 14)) a_nil)))) (x_ite (t_cmp B.hc B.hw B.hu rfl rfl (x_var (pv 14)) (x_var (pv 13))) (x_var (pv 14)) (x_op B.hc rfl (x_op B.hc rfl (x_var (pv 13)) x_int) (x_var (pv 12))))) (s_cons (s_ret x_bl) s_nil) s_nil) (s_cons (s_asn B.nd rfl (by first | exact Or.inl rfl | exact Or.inr rfl) (Or.inl rfl) (x_lst a_nil) rfl) (s_cons (b_for B (i_rng2 rfl (B.mb m_range) rfl rfl (a_cons rfl x_int (a_cons rfl x_int a_nil)) (arity_ok rfl)) (g_name B.nd rfl (by first | exact Or.inl rfl | exact Or.inr rfl) (by first | exact Or.inl rfl | exact Or.inr rfl)) (s_cons (b_asnLc (ownN := [("k", 21)]) B [21] rfl (by kernel_rfl) rfl rfl rfl (i_rng2 rfl (B.mb m_range) rfl rfl (a_cons rfl x_int (a_cons rfl x_int a_nil)) (arity_ok rfl)) (fun s H C cl fp B => (g_name B.nd rfl (by first | exact Or.inl rfl | exact Or.inr rfl) (by first | exact Or.inl rfl | exact Or.inr rfl))) (fun s H C cl fp B => pts_no) (fun s H C cl fp B => (x_tup (a_cons rfl (x_ite (t_cmp B.hc B.hw B.hu rfl rfl (x_var (pv 21)) (x_var (pv 16))) (x_var (pv 21)) (x_op B.hc rfl (x_op B.hc rfl (x_var (pv 16)) x_int) (x_var (pv 12)))) (a_cons rfl (x_bi B.hc B.calm rfl rfl (B.mb m_min) rfl (a_cons rfl (x_var (pv 21)) (a_cons rfl (x_var (pv 12)) a_nil))) a_nil)))) (fun _ => rfl)) (s_cons (s_append B.hc (pv 15) rfl (a_cons rfl (b_call B 38 rfl rfl rfl rfl rfl (a_cons rfl (b_lc (ownN := [("a", 24), ("b", 25)]) B [24, 25] rfl (by kernel_rfl) (i_seq B.hc (x_var (pv 17))) (fun s H C cl fp B => (g_tupB B rfl rfl (g_cons rfl (g_name B.nd rfl (by first | exact Or.inl rfl | exact Or.inr rfl) (by first | exact Or.inl rfl | exact Or.inr rfl)) (g_cons rfl (g_name B.nd rfl (by first | exact Or.inl rfl | exact Or.inr rfl) (by first | exact Or.inl rfl | exact Or.inr rfl)) g_nil)))) (fun s H C cl fp B => pts_no) (fun s H C cl fp B => (b_call B 31 rfl rfl rfl rfl rfl (a_cons rfl (x_var (pv 24)) (a_cons rfl (x_var (pv 25)) a_nil)))) (fun _ => rfl)) (a_cons rfl x_int a_nil))) a_nil) rfl rfl) s_nil)) (fun _ => rfl)) (s_cons (s_ite (PW.pt (t_or (t_cmp B.hc B.hw B.hu rfl rfl (b_call B 21 rfl rfl rfl rfl rfl (a_cons rfl (x_var (pv 12)) (a_cons rfl (x_var (pv 13)) a_nil))) (x_ix B.hc B.hw B.hu (fun _ _ => rfl) (x_var (pv 15)) (x_op B.hc rfl (x_var (pv 13)) x_int))) (t_or (t_cmp B.hc B.hw B.hu rfl rfl (b_call B 22 rfl rfl rfl rfl rfl (a_cons rfl (x_var (pv 12)) a_nil)) (b_call B 38 rfl rfl rfl rfl rfl (a_cons rfl (x_var (pv 15)) (a_cons rfl (x_neg B.hc x_int) a_nil)))) (t_or1 (t_cmp B.hc B.hw B.hu rfl rfl (b_call B 22 rfl rfl rfl rfl rfl (a_cons rfl (x_var (pv 12)) a_nil)) (b_call B 34 rfl rfl rfl rfl rfl (a_cons rfl (x_tup (a_cons rfl x_int (a_cons rfl x_int a_nil))) (a_cons rfl (x_tup (a_cons rfl x_int (a_cons rfl (x_var (pv 12)) a_nil))) a_nil)))))))) (s_cons (s_ret x_bl) s_nil) s_nil) (s_cons (s_asp (g_tupB B rfl rfl (g_cons rfl (g_name B.nd rfl (by first | exact Or.inl rfl | exact Or.inr rfl) (by first | exact Or.inl rfl | exact Or.inr rfl)) (g_cons rfl (g_name B.nd rfl (by first | exact Or.inl rfl | exact Or.inr rfl) (by first | exact Or.inl rfl | exact Or.inr rfl)) g_nil))) B.hc (b_call B 23 rfl rfl rfl rfl rfl (a_cons rfl (x_var (pv 12)) a_nil)) rfl rfl rfl) (s_cons (s_ite (PW.pt (t_or (t_cmp B.hc B.hw B.hu rfl rfl (x_bi B.hc B.calm rfl rfl (B.mb m_len) rfl (a_cons rfl (x_var (pv 18)) a_nil)) (x_var (pv 12))) (t_or (t_cmp B.hc B.hw B.hu rfl rfl (b_call B 37 rfl rfl rfl rfl rfl (a_cons rfl (x_var (pv 18)) a_nil)) (x_tup (a_cons rfl x_int (a_cons rfl x_int a_nil)))) (t_or1 (t_cmp B.hc B.hw B.hu rfl rfl (b_lc (ownN := [("x", 26)]) B [26] rfl (by kernel_rfl) (i_seq B.hc (x_var (pv 18))) (fun s H C cl fp B => (g_name B.nd rfl (by first | exact Or.inl rfl | exact Or.inr rfl) (by first | exact Or.inl rfl | exact Or.inr rfl))) (fun s H C cl fp B => L2.pts_one (t_plain B.hc (b_call B 36 rfl rfl rfl rfl rfl (a_cons rfl (x_var (pv 26)) (a_cons rfl (x_tup (a_cons rfl x_int (a_cons rfl x_int a_nil))) a_nil))) (fun _ => rfl) (fun _ => rfl))) (fun s H C cl fp B => (x_var (pv 26))) (fun _ => rfl)) (x_lst a_nil)))))) (s_cons (s_ret x_bl) s_nil) s_nil) (s_cons (s_asn B.nd rfl (by first | exact Or.inl rfl | exact Or.inr rfl) (Or.inl rfl) (x_lst a_nil) rfl) (s_cons (b_for B (i_rng2 rfl (B.mb m_range) rfl rfl (a_cons rfl x_int (a_cons rfl x_int a_nil)) (arity_ok rfl)) (g_name B.nd rfl (by first | exact Or.inl rfl | exact Or.inr rfl) (by first | exact Or.inl rfl | exact Or.inr rfl)) (s_cons (s_asn B.nd rfl (by first | exact Or.inl rfl | exact Or.inr rfl) (Or.inl rfl) (b_call B 37 rfl rfl rfl rfl rfl (a_cons rfl (b_lc (ownN := [("d", 27)]) B [27] rfl (by kernel_rfl) (i_rng2 rfl (B.mb m_range) rfl rfl (a_cons rfl x_int (a_cons rfl (x_op B.hc rfl (x_var (pv 12)) x_int) a_nil)) (arity_ok rfl)) (fun s H C cl fp B => (g_name B.nd rfl (by first | exact Or.inl rfl | exact Or.inr rfl) (by first | exact Or.inl rfl | exact Or.inr rfl))) (fun s H C cl fp B => pts_no) (fun s H C cl fp B => (b_call B 33 rfl rfl rfl rfl rfl (a_cons rfl (x_ix B.hc B.hw B.hu (fun _ _ => rfl) (x_var (pv 18)) (x_op B.hc rfl (x_var (pv 27)) x_int)) (a_cons rfl (x_tup (a_cons rfl (x_ite (t_cmp B.hc B.hw B.hu rfl rfl (x_var (pv 21)) (x_var (pv 27))) (x_var (pv 21)) (x_op B.hc rfl (x_op B.hc rfl (x_var (pv 27)) x_int) (x_var (pv 12)))) (a_cons rfl x_int a_nil))) a_nil)))) (fun _ => rfl)) a_nil)) rfl) (s_cons (s_append B.hc (pv 20) rfl (a_cons rfl (b_call B 35 rfl rfl rfl rfl rfl (a_cons rfl (x_var (pv 22)) (a_cons rfl (x_tup (a_cons rfl (x_bi B.hc B.calm rfl rfl (B.mb m_min) rfl (a_cons rfl (x_var (pv 21)) (a_cons rfl (x_var (pv 12)) a_nil))) (a_cons rfl x_int a_nil))) a_nil))) a_nil) rfl rfl) s_nil)) (fun _ => rfl)) (s_cons (s_ite (t_cmp B.hc B.hw B.hu rfl rfl (x_var (pv 19)) (b_call B 38 rfl rfl rfl rfl rfl (a_cons rfl (x_var (pv 20)) (a_cons rfl x_int a_nil)))) (s_cons (s_ret x_bl) s_nil) s_nil) (s_cons (s_asn B.nd rfl (by first | exact Or.inl rfl | exact Or.inr rfl) (Or.inl rfl) (x_bi B.hc B.calm rfl rfl (B.mb m_tuple) rfl (a_cons rfl (b_lc (ownN := [("d", 27)]) B [27] rfl (by kernel_rfl) (i_rng2 rfl (B.mb m_range) rfl rfl (a_cons rfl x_int (a_cons rfl x_int a_nil)) (arity_ok rfl)) (fun s H C cl fp B => (g_name B.nd rfl (by first | exact Or.inl rfl | exact Or.inr rfl) (by first | exact Or.inl rfl | exact Or.inr rfl))) (fun s H C cl fp B => pts_no) (fun s H C cl fp B => (x_bi B.hc B.calm rfl rfl (B.mb m_tuple) rfl (a_cons rfl (b_lc (ownN := [("k", 21)]) B [21] rfl (by kernel_rfl) (i_rng2 rfl (B.mb m_range) rfl rfl (a_cons rfl x_int (a_cons rfl x_int a_nil)) (arity_ok rfl)) (fun s H C cl fp B => (g_name B.nd rfl (by first | exact Or.inl rfl | exact Or.inr rfl) (by first | exact Or.inl rfl | exact Or.inr rfl))) (fun s H C cl fp B => pts_no) (fun s H C cl fp B => (b_call B 31 rfl rfl rfl rfl rfl (a_cons rfl (x_neg B.hc (x_ite (t_cmp B.hc B.hw B.hu rfl rfl (x_var (pv 21)) (x_var (pv 27))) (x_var (pv 21)) (x_op B.hc rfl (x_op B.hc rfl (x_var (pv 27)) x_int) (x_var (pv 12))))) (a_cons rfl (x_bi B.hc B.calm rfl rfl (B.mb m_min) rfl (a_cons rfl (x_var (pv 21)) (a_cons rfl (x_var (pv 12)) a_nil))) a_nil)))) (fun _ => rfl)) a_nil))) (fun _ => rfl)) a_nil)) rfl) (s_cons (s_ret (x_or B.hc (x_cmp B.hc B.hw B.hu rfl rfl (x_var (pv 12)) x_int) (x_or1 (x_cmp B.hc B.hw B.hu rfl rfl (x_var (pv 19)) (b_call B 34 rfl rfl rfl rfl rfl (a_cons rfl (x_tup (a_cons rfl x_int (a_cons rfl x_int a_nil))) (a_cons rfl (b_call B 28 rfl rfl rfl rfl rfl (a_cons rfl (x_var (pv 23)) a_nil)) a_nil))))))) s_nil)))))))))))))))))))))))))
end
theorem K_common : InfoOk I_common := ⟨⟨rfl, rfl, rfl, by decide +kernel, rfl, by decide +kernel, by decide +kernel⟩, rfl, rfl, by decide⟩
theorem N_common {K : PySem.W.Frag} {f : Addr} {fd : FuncData} (F : FunD K I_common.d.name I_common.d.qual I_common.d.params I_common.d.body I_common.d.scope [] [] f fd) : Binds K fd I_common.ps [] := F.bindsN fun _ _ _ _ _ _ us hl => match us, hl with | [_, _], _ => rfl
theorem K_lowest : InfoOk I_lowest := ⟨⟨rfl, rfl, rfl, by decide +kernel, rfl, by decide +kernel, by decide +kernel⟩, rfl, rfl, by decide⟩
theorem N_lowest {K : PySem.W.Frag} {f : Addr} {fd : FuncData} (F : FunD K I_lowest.d.name I_lowest.d.qual I_lowest.d.params I_lowest.d.body I_lowest.d.scope [] [] f fd) : Binds K fd I_lowest.ps [] := F.bindsN fun _ _ _ _ _ _ us hl => match us, hl with | [_, _], _ => rfl
theorem K_plus : InfoOk I_plus := ⟨⟨rfl, rfl, rfl, by decide +kernel, rfl, by decide +kernel, by decide +kernel⟩, rfl, rfl, by decide⟩
theorem N_plus {K : PySem.W.Frag} {f : Addr} {fd : FuncData} (F : FunD K I_plus.d.name I_plus.d.qual I_plus.d.params I_plus.d.body I_plus.d.scope [] [] f fd) : Binds K fd I_plus.ps [] := F.bindsN fun _ _ _ _ _ _ us hl => match us, hl with | [_, _], _ => rfl
theorem K_minus : InfoOk I_minus := ⟨⟨rfl, rfl, rfl, by decide +kernel, rfl, by decide +kernel, by decide +kernel⟩, rfl, rfl, by decide⟩
theorem N_minus {K : PySem.W.Frag} {f : Addr} {fd : FuncData} (F : FunD K I_minus.d.name I_minus.d.qual I_minus.d.params I_minus.d.body I_minus.d.scope [] [] f fd) : Binds K fd I_minus.ps [] := F.bindsN fun _ _ _ _ _ _ us hl => match us, hl with | [_, _], _ => rfl
theorem K_times : InfoOk I_times := ⟨⟨rfl, rfl, rfl, by decide +kernel, rfl, by decide +kernel, by decide +kernel⟩, rfl, rfl, by decide⟩
theorem N_times {K : PySem.W.Frag} {f : Addr} {fd : FuncData} (F : FunD K I_times.d.name I_times.d.qual I_times.d.params I_times.d.body I_times.d.scope [] [] f fd) : Binds K fd I_times.ps [] := F.bindsN fun _ _ _ _ _ _ us hl => match us, hl with | [_, _], _ => rfl
theorem K_divided : InfoOk I_divided := ⟨⟨rfl, rfl, rfl, by decide +kernel, rfl, by decide +kernel, by decide +kernel⟩, rfl, rfl, by decide⟩
theorem N_divided {K : PySem.W.Frag} {f : Addr} {fd : FuncData} (F : FunD K I_divided.d.name I_divided.d.qual I_divided.d.params I_divided.d.body I_divided.d.scope [] [] f fd) : Binds K fd I_divided.ps [] := F.bindsN fun _ _ _ _ _ _ us hl => match us, hl with | [_, _], _ => rfl
theorem K_less : InfoOk I_less := ⟨⟨rfl, rfl, rfl, by decide +kernel, rfl, by decide +kernel, by decide +kernel⟩, rfl, rfl, by decide⟩
theorem N_less {K : PySem.W.Frag} {f : Addr} {fd : FuncData} (F : FunD K I_less.d.name I_less.d.qual I_less.d.params I_less.d.body I_less.d.scope [] [] f fd) : Binds K fd I_less.ps [] := F.bindsN fun _ _ _ _ _ _ us hl => match us, hl with | [_, _], _ => rfl
theorem K_greatest : InfoOk I_greatest := ⟨⟨rfl, rfl, rfl, by decide +kernel, rfl, by decide +kernel, by decide +kernel⟩, rfl, rfl, by decide⟩
theorem N_greatest {K : PySem.W.Frag} {f : Addr} {fd : FuncData} (F : FunD K I_greatest.d.name I_greatest.d.qual I_greatest.d.params I_greatest.d.body I_greatest.d.scope [] [] f fd) : Binds K fd I_greatest.ps [] := F.bindsN fun _ _ _ _ _ _ us hl => match us, hl with | [_], _ => rfl
theorem K_least : InfoOk I_least := ⟨⟨rfl, rfl, rfl, by decide +kernel, rfl, by decide +kernel, by decide +kernel⟩, rfl, rfl, by decide⟩
theorem N_least {K : PySem.W.Frag} {f : Addr} {fd : FuncData} (F : FunD K I_least.d.name I_least.d.qual I_least.d.params I_least.d.body I_least.d.scope [] [] f fd) : Binds K fd I_least.ps [] := F.bindsN fun _ _ _ _ _ _ us hl => match us, hl with | [_], _ => rfl
theorem K_sum_of : InfoOk I_sum_of := ⟨⟨rfl, rfl, rfl, by decide +kernel, rfl, by decide +kernel, by decide +kernel⟩, rfl, rfl, by decide⟩
theorem N_sum_of {K : PySem.W.Frag} {f : Addr} {fd : FuncData} (F : FunD K I_sum_of.d.name I_sum_of.d.qual I_sum_of.d.params I_sum_of.d.body I_sum_of.d.scope [] [] f fd) : Binds K fd I_sum_of.ps [] := F.bindsN fun _ _ _ _ _ _ us hl => match us, hl with | [_], _ => rfl
theorem K_scaled : InfoOk I_scaled := ⟨⟨rfl, rfl, rfl, by decide +kernel, rfl, by decide +kernel, by decide +kernel⟩, rfl, rfl, by decide⟩
theorem N_scaled {K : PySem.W.Frag} {f : Addr} {fd : FuncData} (F : FunD K I_scaled.d.name I_scaled.d.qual I_scaled.d.params I_scaled.d.body I_scaled.d.scope [] [] f fd) : Binds K fd I_scaled.ps [] := F.bindsN fun _ _ _ _ _ _ us hl => match us, hl with | [_, _], _ => rfl
theorem K_less_row : InfoOk I_less_row := ⟨⟨rfl, rfl, rfl, by decide +kernel, rfl, by decide +kernel, by decide +kernel⟩, rfl, rfl, by decide⟩
theorem N_less_row {K : PySem.W.Frag} {f : Addr} {fd : FuncData} (F : FunD K I_less_row.d.name I_less_row.d.qual I_less_row.d.params I_less_row.d.body I_less_row.d.scope [] [] f fd) : Binds K fd I_less_row.ps [] := F.bindsN fun _ _ _ _ _ _ us hl => match us, hl with | [_, _, _], _ => rfl
theorem K_draws_worth : InfoOk I_draws_worth := ⟨⟨rfl, rfl, rfl, by decide +kernel, rfl, by decide +kernel, by decide +kernel⟩, rfl, rfl, by decide⟩
theorem N_draws_worth {K : PySem.W.Frag} {f : Addr} {fd : FuncData} (F : FunD K I_draws_worth.d.name I_draws_worth.d.qual I_draws_worth.d.params I_draws_worth.d.body I_draws_worth.d.scope [] [] f fd) : Binds K fd I_draws_worth.ps [] := F.bindsN fun _ _ _ _ _ _ us hl => match us, hl with | [_], _ => rfl
theorem K_taking_above : InfoOk I_taking_above := ⟨⟨rfl, rfl, rfl, by decide +kernel, rfl, by decide +kernel, by decide +kernel⟩, rfl, rfl, by decide⟩
theorem N_taking_above {K : PySem.W.Frag} {f : Addr} {fd : FuncData} (F : FunD K I_taking_above.d.name I_taking_above.d.qual I_taking_above.d.params I_taking_above.d.body I_taking_above.d.scope [] [] f fd) : Binds K fd I_taking_above.ps [] := F.bindsN fun _ _ _ _ _ _ us hl => match us, hl with | [_, _, _], _ => rfl
theorem K_two_draws_worth : InfoOk I_two_draws_worth := ⟨⟨rfl, rfl, rfl, by decide +kernel, rfl, by decide +kernel, by decide +kernel⟩, rfl, rfl, by decide⟩
theorem N_two_draws_worth {K : PySem.W.Frag} {f : Addr} {fd : FuncData} (F : FunD K I_two_draws_worth.d.name I_two_draws_worth.d.qual I_two_draws_worth.d.params I_two_draws_worth.d.body I_two_draws_worth.d.scope [] [] f fd) : Binds K fd I_two_draws_worth.ps [] := F.bindsN fun _ _ _ _ _ _ us hl => match us, hl with | [_], _ => rfl
theorem K_after_offer : InfoOk I_after_offer := ⟨⟨rfl, rfl, rfl, by decide +kernel, rfl, by decide +kernel, by decide +kernel⟩, rfl, rfl, by decide⟩
theorem N_after_offer {K : PySem.W.Frag} {f : Addr} {fd : FuncData} (F : FunD K I_after_offer.d.name I_after_offer.d.qual I_after_offer.d.params I_after_offer.d.body I_after_offer.d.scope [] [] f fd) : Binds K fd I_after_offer.ps [] := F.bindsN fun _ _ _ _ _ _ us hl => match us, hl with | [_, _, _, _], _ => rfl
theorem K_told_worth : InfoOk I_told_worth := ⟨⟨rfl, rfl, rfl, by decide +kernel, rfl, by decide +kernel, by decide +kernel⟩, rfl, rfl, by decide⟩
theorem N_told_worth {K : PySem.W.Frag} {f : Addr} {fd : FuncData} (F : FunD K I_told_worth.d.name I_told_worth.d.qual I_told_worth.d.params I_told_worth.d.body I_told_worth.d.scope [] [] f fd) : Binds K fd I_told_worth.ps [] := F.bindsN fun _ _ _ _ _ _ us hl => match us, hl with | [_, _, _], _ => rfl
theorem K_price_table : InfoOk I_price_table := ⟨⟨rfl, rfl, rfl, by decide +kernel, rfl, by decide +kernel, by decide +kernel⟩, rfl, rfl, by decide⟩
theorem N_price_table {K : PySem.W.Frag} {f : Addr} {fd : FuncData} (F : FunD K I_price_table.d.name I_price_table.d.qual I_price_table.d.params I_price_table.d.body I_price_table.d.scope [] [] f fd) : Binds K fd I_price_table.ps [] := F.bindsN fun _ _ _ _ _ _ us hl => match us, hl with | [_, _, _], _ => rfl
theorem K_price_worth : InfoOk I_price_worth := ⟨⟨rfl, rfl, rfl, by decide +kernel, rfl, by decide +kernel, by decide +kernel⟩, rfl, rfl, by decide⟩
theorem N_price_worth {K : PySem.W.Frag} {f : Addr} {fd : FuncData} (F : FunD K I_price_worth.d.name I_price_worth.d.qual I_price_worth.d.params I_price_worth.d.body I_price_worth.d.scope [] [] f fd) : Binds K fd I_price_worth.ps [] := F.bindsN fun _ _ _ _ _ _ us hl => match us, hl with | [_, _, _], _ => rfl
theorem K_price_next : InfoOk I_price_next := ⟨⟨rfl, rfl, rfl, by decide +kernel, rfl, by decide +kernel, by decide +kernel⟩, rfl, rfl, by decide⟩
theorem N_price_next {K : PySem.W.Frag} {f : Addr} {fd : FuncData} (F : FunD K I_price_next.d.name I_price_next.d.qual I_price_next.d.params I_price_next.d.body I_price_next.d.scope [] [] f fd) : Binds K fd I_price_next.ps [] := F.bindsN fun _ _ _ _ _ _ us hl => match us, hl with | [_, _, _], _ => rfl
theorem K_rent_cost : InfoOk I_rent_cost := ⟨⟨rfl, rfl, rfl, by decide +kernel, rfl, by decide +kernel, by decide +kernel⟩, rfl, rfl, by decide⟩
theorem N_rent_cost {K : PySem.W.Frag} {f : Addr} {fd : FuncData} (F : FunD K I_rent_cost.d.name I_rent_cost.d.qual I_rent_cost.d.params I_rent_cost.d.body I_rent_cost.d.scope [] [] f fd) : Binds K fd I_rent_cost.ps [] := F.bindsN fun _ _ _ _ _ _ us hl => match us, hl with | [_, _, _], _ => rfl
theorem K_rent_ratio : InfoOk I_rent_ratio := ⟨⟨rfl, rfl, rfl, by decide +kernel, rfl, by decide +kernel, by decide +kernel⟩, rfl, rfl, by decide⟩
theorem N_rent_ratio {K : PySem.W.Frag} {f : Addr} {fd : FuncData} (F : FunD K I_rent_ratio.d.name I_rent_ratio.d.qual I_rent_ratio.d.params I_rent_ratio.d.body I_rent_ratio.d.scope [] [] f fd) : Binds K fd I_rent_ratio.ps [] := F.bindsN fun _ _ _ _ _ _ us hl => match us, hl with | [_, _], _ => rfl
theorem K_best_rent_ratio : InfoOk I_best_rent_ratio := ⟨⟨rfl, rfl, rfl, by decide +kernel, rfl, by decide +kernel, by decide +kernel⟩, rfl, rfl, by decide⟩
theorem N_best_rent_ratio {K : PySem.W.Frag} {f : Addr} {fd : FuncData} (F : FunD K I_best_rent_ratio.d.name I_best_rent_ratio.d.qual I_best_rent_ratio.d.params I_best_rent_ratio.d.body I_best_rent_ratio.d.scope [] [] f fd) : Binds K fd I_best_rent_ratio.ps [] := F.bindsN fun _ _ _ _ _ _ us hl => match us, hl with | [_], _ => rfl
theorem K_mixed_rent : InfoOk I_mixed_rent := ⟨⟨rfl, rfl, rfl, by decide +kernel, rfl, by decide +kernel, by decide +kernel⟩, rfl, rfl, by decide⟩
theorem N_mixed_rent {K : PySem.W.Frag} {f : Addr} {fd : FuncData} (F : FunD K I_mixed_rent.d.name I_mixed_rent.d.qual I_mixed_rent.d.params I_mixed_rent.d.body I_mixed_rent.d.scope [] [] f fd) : Binds K fd I_mixed_rent.ps [] := F.bindsN fun _ _ _ _ _ _ us hl => match us, hl with | [_], _ => rfl
theorem K_best_sum : InfoOk I_best_sum := ⟨⟨rfl, rfl, rfl, by decide +kernel, rfl, by decide +kernel, by decide +kernel⟩, rfl, rfl, by decide⟩
theorem N_best_sum {K : PySem.W.Frag} {f : Addr} {fd : FuncData} (F : FunD K I_best_sum.d.name I_best_sum.d.qual I_best_sum.d.params I_best_sum.d.body I_best_sum.d.scope [] [] f fd) : Binds K fd I_best_sum.ps [] := F.bindsN fun _ _ _ _ _ _ us hl => match us, hl with | [_], _ => rfl
theorem K_leaving : InfoOk I_leaving := ⟨⟨rfl, rfl, rfl, by decide +kernel, rfl, by decide +kernel, by decide +kernel⟩, rfl, rfl, by decide⟩
theorem N_leaving {K : PySem.W.Frag} {f : Addr} {fd : FuncData} (F : FunD K I_leaving.d.name I_leaving.d.qual I_leaving.d.params I_leaving.d.body I_leaving.d.scope [] [] f fd) : Binds K fd I_leaving.ps [] := F.bindsN fun _ _ _ _ _ _ us hl => match us, hl with | [_, _, _], _ => rfl
theorem K_lifted : InfoOk I_lifted := ⟨⟨rfl, rfl, rfl, by decide +kernel, rfl, by decide +kernel, by decide +kernel⟩, rfl, rfl, by decide⟩
theorem N_lifted {K : PySem.W.Frag} {f : Addr} {fd : FuncData} (F : FunD K I_lifted.d.name I_lifted.d.qual I_lifted.d.params I_lifted.d.body I_lifted.d.scope [] [] f fd) : Binds K fd I_lifted.ps [] := F.bindsN fun _ _ _ _ _ _ us hl => match us, hl with | [_], _ => rfl
theorem K_solved : InfoOk I_solved := ⟨⟨rfl, rfl, rfl, by decide +kernel, rfl, by decide +kernel, by decide +kernel⟩, rfl, rfl, by decide⟩
theorem N_solved {K : PySem.W.Frag} {f : Addr} {fd : FuncData} (F : FunD K I_solved.d.name I_solved.d.qual I_solved.d.params I_solved.d.body I_solved.d.scope [] [] f fd) : Binds K fd I_solved.ps [] := F.bindsN fun _ _ _ _ _ _ us hl => match us, hl with | [_], _ => rfl
theorem K_table_worth : InfoOk I_table_worth := ⟨⟨rfl, rfl, rfl, by decide +kernel, rfl, by decide +kernel, by decide +kernel⟩, rfl, rfl, by decide⟩
theorem N_table_worth {K : PySem.W.Frag} {f : Addr} {fd : FuncData} (F : FunD K I_table_worth.d.name I_table_worth.d.qual I_table_worth.d.params I_table_worth.d.body I_table_worth.d.scope [] [] f fd) : Binds K fd I_table_worth.ps [] := F.bindsN fun _ _ _ _ _ _ us hl => match us, hl with | [_], _ => rfl
theorem K__law_draw : InfoOk I__law_draw := ⟨⟨rfl, rfl, rfl, by decide +kernel, rfl, by decide +kernel, by decide +kernel⟩, rfl, rfl, by decide⟩
theorem N__law_draw {K : PySem.W.Frag} {f : Addr} {fd : FuncData} (F : FunD K I__law_draw.d.name I__law_draw.d.qual I__law_draw.d.params I__law_draw.d.body I__law_draw.d.scope [] [] f fd) : Binds K fd I__law_draw.ps [] := F.bindsN fun _ _ _ _ _ _ us hl => match us, hl with | [_], _ => rfl
theorem K__law_take : InfoOk I__law_take := ⟨⟨rfl, rfl, rfl, by decide +kernel, rfl, by decide +kernel, by decide +kernel⟩, rfl, rfl, by decide⟩
theorem N__law_take {K : PySem.W.Frag} {f : Addr} {fd : FuncData} (F : FunD K I__law_take.d.name I__law_take.d.qual I__law_take.d.params I__law_take.d.body I__law_take.d.scope [] [] f fd) : Binds K fd I__law_take.ps [] := F.bindsN fun _ _ _ _ _ _ us hl => match us, hl with | [_, _], _ => rfl
theorem K__law_lowest : InfoOk I__law_lowest := ⟨⟨rfl, rfl, rfl, by decide +kernel, rfl, by decide +kernel, by decide +kernel⟩, rfl, rfl, by decide⟩
theorem N__law_lowest {K : PySem.W.Frag} {f : Addr} {fd : FuncData} (F : FunD K I__law_lowest.d.name I__law_lowest.d.qual I__law_lowest.d.params I__law_lowest.d.body I__law_lowest.d.scope [] [] f fd) : Binds K fd I__law_lowest.ps [] := F.bindsN fun _ _ _ _ _ _ us hl => match us, hl with | [_, _], _ => rfl
theorem K__law_plus : InfoOk I__law_plus := ⟨⟨rfl, rfl, rfl, by decide +kernel, rfl, by decide +kernel, by decide +kernel⟩, rfl, rfl, by decide⟩
theorem N__law_plus {K : PySem.W.Frag} {f : Addr} {fd : FuncData} (F : FunD K I__law_plus.d.name I__law_plus.d.qual I__law_plus.d.params I__law_plus.d.body I__law_plus.d.scope [] [] f fd) : Binds K fd I__law_plus.ps [] := F.bindsN fun _ _ _ _ _ _ us hl => match us, hl with | [_, _], _ => rfl
theorem K__law_times : InfoOk I__law_times := ⟨⟨rfl, rfl, rfl, by decide +kernel, rfl, by decide +kernel, by decide +kernel⟩, rfl, rfl, by decide⟩
theorem N__law_times {K : PySem.W.Frag} {f : Addr} {fd : FuncData} (F : FunD K I__law_times.d.name I__law_times.d.qual I__law_times.d.params I__law_times.d.body I__law_times.d.scope [] [] f fd) : Binds K fd I__law_times.ps [] := F.bindsN fun _ _ _ _ _ _ us hl => match us, hl with | [_, _], _ => rfl
theorem K__law_minus : InfoOk I__law_minus := ⟨⟨rfl, rfl, rfl, by decide +kernel, rfl, by decide +kernel, by decide +kernel⟩, rfl, rfl, by decide⟩
theorem N__law_minus {K : PySem.W.Frag} {f : Addr} {fd : FuncData} (F : FunD K I__law_minus.d.name I__law_minus.d.qual I__law_minus.d.params I__law_minus.d.body I__law_minus.d.scope [] [] f fd) : Binds K fd I__law_minus.ps [] := F.bindsN fun _ _ _ _ _ _ us hl => match us, hl with | [_, _], _ => rfl
theorem K__law_over : InfoOk I__law_over := ⟨⟨rfl, rfl, rfl, by decide +kernel, rfl, by decide +kernel, by decide +kernel⟩, rfl, rfl, by decide⟩
theorem N__law_over {K : PySem.W.Frag} {f : Addr} {fd : FuncData} (F : FunD K I__law_over.d.name I__law_over.d.qual I__law_over.d.params I__law_over.d.body I__law_over.d.scope [] [] f fd) : Binds K fd I__law_over.ps [] := F.bindsN fun _ _ _ _ _ _ us hl => match us, hl with | [_, _], _ => rfl
theorem K__law_less : InfoOk I__law_less := ⟨⟨rfl, rfl, rfl, by decide +kernel, rfl, by decide +kernel, by decide +kernel⟩, rfl, rfl, by decide⟩
theorem N__law_less {K : PySem.W.Frag} {f : Addr} {fd : FuncData} (F : FunD K I__law_less.d.name I__law_less.d.qual I__law_less.d.params I__law_less.d.body I__law_less.d.scope [] [] f fd) : Binds K fd I__law_less.ps [] := F.bindsN fun _ _ _ _ _ _ us hl => match us, hl with | [_, _], _ => rfl
theorem K__law_sum : InfoOk I__law_sum := ⟨⟨rfl, rfl, rfl, by decide +kernel, rfl, by decide +kernel, by decide +kernel⟩, rfl, rfl, by decide⟩
theorem N__law_sum {K : PySem.W.Frag} {f : Addr} {fd : FuncData} (F : FunD K I__law_sum.d.name I__law_sum.d.qual I__law_sum.d.params I__law_sum.d.body I__law_sum.d.scope [] [] f fd) : Binds K fd I__law_sum.ps [] := F.bindsN fun _ _ _ _ _ _ us hl => match us, hl with | [_], _ => rfl
theorem K__law_best : InfoOk I__law_best := ⟨⟨rfl, rfl, rfl, by decide +kernel, rfl, by decide +kernel, by decide +kernel⟩, rfl, rfl, by decide⟩
theorem N__law_best {K : PySem.W.Frag} {f : Addr} {fd : FuncData} (F : FunD K I__law_best.d.name I__law_best.d.qual I__law_best.d.params I__law_best.d.body I__law_best.d.scope [] [] f fd) : Binds K fd I__law_best.ps [] := F.bindsN fun _ _ _ _ _ _ us hl => match us, hl with | [_, _], _ => rfl
theorem K__law_gain : InfoOk I__law_gain := ⟨⟨rfl, rfl, rfl, by decide +kernel, rfl, by decide +kernel, by decide +kernel⟩, rfl, rfl, by decide⟩
theorem N__law_gain {K : PySem.W.Frag} {f : Addr} {fd : FuncData} (F : FunD K I__law_gain.d.name I__law_gain.d.qual I__law_gain.d.params I__law_gain.d.body I__law_gain.d.scope [] [] f fd) : Binds K fd I__law_gain.ps [] := F.bindsN fun _ _ _ _ _ _ us hl => match us, hl with | [_], _ => rfl
theorem K__law_offer : InfoOk I__law_offer := ⟨⟨rfl, rfl, rfl, by decide +kernel, rfl, by decide +kernel, by decide +kernel⟩, rfl, rfl, by decide⟩
theorem N__law_offer {K : PySem.W.Frag} {f : Addr} {fd : FuncData} (F : FunD K I__law_offer.d.name I__law_offer.d.qual I__law_offer.d.params I__law_offer.d.body I__law_offer.d.scope [] [] f fd) : Binds K fd I__law_offer.ps [] := F.bindsN fun _ _ _ _ _ _ us hl => match us, hl with | [_, _, _, _], _ => rfl
theorem K__law_price : InfoOk I__law_price := ⟨⟨rfl, rfl, rfl, by decide +kernel, rfl, by decide +kernel, by decide +kernel⟩, rfl, rfl, by decide⟩
theorem N__law_price {K : PySem.W.Frag} {f : Addr} {fd : FuncData} (F : FunD K I__law_price.d.name I__law_price.d.qual I__law_price.d.params I__law_price.d.body I__law_price.d.scope [] [] f fd) : Binds K fd I__law_price.ps [] := F.bindsN fun _ _ _ _ _ _ us hl => match us, hl with | [_, _, _], _ => rfl
theorem K_law : InfoOk I_law := ⟨⟨rfl, rfl, rfl, by decide +kernel, rfl, by decide +kernel, by decide +kernel⟩, rfl, rfl, by decide⟩
theorem N_law {K : PySem.W.Frag} {f : Addr} {fd : FuncData} (F : FunD K I_law.d.name I_law.d.qual I_law.d.params I_law.d.body I_law.d.scope [] [] f fd) : Binds K fd I_law.ps [] := F.bindsN fun _ _ _ _ _ _ us hl => match us, hl with | [_], _ => rfl
end K37

namespace K37
open PySem PySem.Spec PyProof.Rows L2 Py
abbrev R : PySem.W.OpenRow := PySem.W.OpenLaw.row PySem.Challenge.rw_worthstopping_k37_draws_prices_and_rents
def faL : List He.Fa := [.glo "common", .glo "lowest", .glo "plus", .glo "minus", .glo "times", .glo "divided", .glo "less", .glo "greatest", .glo "least", .glo "sum_of", .glo "scaled", .glo "less_row", .glo "draws_worth", .glo "taking_above", .glo "two_draws_worth", .glo "after_offer", .glo "told_worth", .glo "price_table", .glo "price_worth", .glo "price_next", .glo "rent_cost", .glo "rent_ratio", .glo "best_rent_ratio", .glo "mixed_rent", .glo "best_sum", .glo "leaving", .glo "lifted", .glo "solved", .glo "table_worth", .glo "_law_draw", .glo "_law_take", .glo "_law_lowest", .glo "_law_plus", .glo "_law_times", .glo "_law_minus", .glo "_law_over", .glo "_law_less", .glo "_law_sum", .glo "_law_best", .glo "_law_gain", .glo "_law_offer", .glo "_law_price", .glo "law"] ++ [.free "abs", .free "enumerate", .free "int", .free "isinstance", .free "len", .free "list", .free "min", .free "range", .free "tuple", .free "zip"]
def fnL : List He.DefD := [I_common.d, I_lowest.d, I_plus.d, I_minus.d, I_times.d, I_divided.d, I_less.d, I_greatest.d, I_least.d, I_sum_of.d, I_scaled.d, I_less_row.d, I_draws_worth.d, I_taking_above.d, I_two_draws_worth.d, I_after_offer.d, I_told_worth.d, I_price_table.d, I_price_worth.d, I_price_next.d, I_rent_cost.d, I_rent_ratio.d, I_best_rent_ratio.d, I_mixed_rent.d, I_best_sum.d, I_leaving.d, I_lifted.d, I_solved.d, I_table_worth.d, I__law_draw.d, I__law_take.d, I__law_lowest.d, I__law_plus.d, I__law_times.d, I__law_minus.d, I__law_over.d, I__law_less.d, I__law_sum.d, I__law_best.d, I__law_gain.d, I__law_offer.d, I__law_price.d, I_law.d]
def exK (K : PySem.W.Frag) : Bool := noList K && csL.all (gconOk K)
abbrev hk : PySem.W.Hook := hookP 4 faL fnL exK
def ob (s : PySem.W.SharedT) : AlP := obsP 4 faL fnL exK (HandSHeadRun.getT s)
theorem ob_eq (s : PySem.W.SharedT) : ob s = hk.obs s.abs := obsP_eq (HandSHeadRun.getT_eq s)
def loose0 : List Str := ["ZERO", "ONE", "common", "lowest", "plus", "minus", "times", "divided", "less", "greatest", "least", "sum_of", "scaled", "less_row", "draws_worth", "taking_above", "two_draws_worth", "after_offer", "told_worth", "price_table", "price_worth", "price_next", "rent_cost", "rent_ratio", "best_rent_ratio", "mixed_rent", "best_sum", "leaving", "lifted", "solved"]
def loose1 : List Str := ["table_worth", "_law_draw", "_law_take", "_law_lowest", "_law_plus", "_law_times", "_law_minus", "_law_over", "_law_less", "_law_sum", "_law_best", "_law_gain", "_law_offer", "_law_price"]
def looseL : List Str := loose0 ++ loose1
theorem runs (w : World) : HandSHeadRun.RunEq R (PySem.W.view R.prog [48]) hk ob 3000 looseL w := by
  intro os
  kernel_rfl
abbrev ZZ (P : Program) (w : World) (K : PySem.W.Frag) (mg : Str → Option Value) (base : Heap) (g : Nat) : Wd := ⟨P, w, K, mg, base, fun _ _ => false, fun _ => .none, g⟩
theorem G_common {K : PySem.W.Frag} {mg : Str → Option Value} {h : Heap} (X : K.In h) (G : h.Ns mainGlobals mg) (c : SaysP faL fnL exK K) : ∃ fdat, Good K I_common fdat ∧ mg I_common.d.name = some (.ref (He.ga K I_common.d.name)) := by
  obtain ⟨fd, F⟩ := c.1.def_ 0 (d := I_common.d) rfl
  exact ⟨fd, ⟨F, N_common F⟩, He.glo_ok X G (c.1.fact 0 (f := .glo "common") rfl)⟩
theorem G_lowest {K : PySem.W.Frag} {mg : Str → Option Value} {h : Heap} (X : K.In h) (G : h.Ns mainGlobals mg) (c : SaysP faL fnL exK K) : ∃ fdat, Good K I_lowest fdat ∧ mg I_lowest.d.name = some (.ref (He.ga K I_lowest.d.name)) := by
  obtain ⟨fd, F⟩ := c.1.def_ 1 (d := I_lowest.d) rfl
  exact ⟨fd, ⟨F, N_lowest F⟩, He.glo_ok X G (c.1.fact 1 (f := .glo "lowest") rfl)⟩
theorem G_plus {K : PySem.W.Frag} {mg : Str → Option Value} {h : Heap} (X : K.In h) (G : h.Ns mainGlobals mg) (c : SaysP faL fnL exK K) : ∃ fdat, Good K I_plus fdat ∧ mg I_plus.d.name = some (.ref (He.ga K I_plus.d.name)) := by
  obtain ⟨fd, F⟩ := c.1.def_ 2 (d := I_plus.d) rfl
  exact ⟨fd, ⟨F, N_plus F⟩, He.glo_ok X G (c.1.fact 2 (f := .glo "plus") rfl)⟩
theorem G_minus {K : PySem.W.Frag} {mg : Str → Option Value} {h : Heap} (X : K.In h) (G : h.Ns mainGlobals mg) (c : SaysP faL fnL exK K) : ∃ fdat, Good K I_minus fdat ∧ mg I_minus.d.name = some (.ref (He.ga K I_minus.d.name)) := by
  obtain ⟨fd, F⟩ := c.1.def_ 3 (d := I_minus.d) rfl
  exact ⟨fd, ⟨F, N_minus F⟩, He.glo_ok X G (c.1.fact 3 (f := .glo "minus") rfl)⟩
theorem G_times {K : PySem.W.Frag} {mg : Str → Option Value} {h : Heap} (X : K.In h) (G : h.Ns mainGlobals mg) (c : SaysP faL fnL exK K) : ∃ fdat, Good K I_times fdat ∧ mg I_times.d.name = some (.ref (He.ga K I_times.d.name)) := by
  obtain ⟨fd, F⟩ := c.1.def_ 4 (d := I_times.d) rfl
  exact ⟨fd, ⟨F, N_times F⟩, He.glo_ok X G (c.1.fact 4 (f := .glo "times") rfl)⟩
theorem G_divided {K : PySem.W.Frag} {mg : Str → Option Value} {h : Heap} (X : K.In h) (G : h.Ns mainGlobals mg) (c : SaysP faL fnL exK K) : ∃ fdat, Good K I_divided fdat ∧ mg I_divided.d.name = some (.ref (He.ga K I_divided.d.name)) := by
  obtain ⟨fd, F⟩ := c.1.def_ 5 (d := I_divided.d) rfl
  exact ⟨fd, ⟨F, N_divided F⟩, He.glo_ok X G (c.1.fact 5 (f := .glo "divided") rfl)⟩
theorem G_less {K : PySem.W.Frag} {mg : Str → Option Value} {h : Heap} (X : K.In h) (G : h.Ns mainGlobals mg) (c : SaysP faL fnL exK K) : ∃ fdat, Good K I_less fdat ∧ mg I_less.d.name = some (.ref (He.ga K I_less.d.name)) := by
  obtain ⟨fd, F⟩ := c.1.def_ 6 (d := I_less.d) rfl
  exact ⟨fd, ⟨F, N_less F⟩, He.glo_ok X G (c.1.fact 6 (f := .glo "less") rfl)⟩
theorem G_greatest {K : PySem.W.Frag} {mg : Str → Option Value} {h : Heap} (X : K.In h) (G : h.Ns mainGlobals mg) (c : SaysP faL fnL exK K) : ∃ fdat, Good K I_greatest fdat ∧ mg I_greatest.d.name = some (.ref (He.ga K I_greatest.d.name)) := by
  obtain ⟨fd, F⟩ := c.1.def_ 7 (d := I_greatest.d) rfl
  exact ⟨fd, ⟨F, N_greatest F⟩, He.glo_ok X G (c.1.fact 7 (f := .glo "greatest") rfl)⟩
theorem G_least {K : PySem.W.Frag} {mg : Str → Option Value} {h : Heap} (X : K.In h) (G : h.Ns mainGlobals mg) (c : SaysP faL fnL exK K) : ∃ fdat, Good K I_least fdat ∧ mg I_least.d.name = some (.ref (He.ga K I_least.d.name)) := by
  obtain ⟨fd, F⟩ := c.1.def_ 8 (d := I_least.d) rfl
  exact ⟨fd, ⟨F, N_least F⟩, He.glo_ok X G (c.1.fact 8 (f := .glo "least") rfl)⟩
theorem G_sum_of {K : PySem.W.Frag} {mg : Str → Option Value} {h : Heap} (X : K.In h) (G : h.Ns mainGlobals mg) (c : SaysP faL fnL exK K) : ∃ fdat, Good K I_sum_of fdat ∧ mg I_sum_of.d.name = some (.ref (He.ga K I_sum_of.d.name)) := by
  obtain ⟨fd, F⟩ := c.1.def_ 9 (d := I_sum_of.d) rfl
  exact ⟨fd, ⟨F, N_sum_of F⟩, He.glo_ok X G (c.1.fact 9 (f := .glo "sum_of") rfl)⟩
theorem G_scaled {K : PySem.W.Frag} {mg : Str → Option Value} {h : Heap} (X : K.In h) (G : h.Ns mainGlobals mg) (c : SaysP faL fnL exK K) : ∃ fdat, Good K I_scaled fdat ∧ mg I_scaled.d.name = some (.ref (He.ga K I_scaled.d.name)) := by
  obtain ⟨fd, F⟩ := c.1.def_ 10 (d := I_scaled.d) rfl
  exact ⟨fd, ⟨F, N_scaled F⟩, He.glo_ok X G (c.1.fact 10 (f := .glo "scaled") rfl)⟩
theorem G_less_row {K : PySem.W.Frag} {mg : Str → Option Value} {h : Heap} (X : K.In h) (G : h.Ns mainGlobals mg) (c : SaysP faL fnL exK K) : ∃ fdat, Good K I_less_row fdat ∧ mg I_less_row.d.name = some (.ref (He.ga K I_less_row.d.name)) := by
  obtain ⟨fd, F⟩ := c.1.def_ 11 (d := I_less_row.d) rfl
  exact ⟨fd, ⟨F, N_less_row F⟩, He.glo_ok X G (c.1.fact 11 (f := .glo "less_row") rfl)⟩
theorem G_draws_worth {K : PySem.W.Frag} {mg : Str → Option Value} {h : Heap} (X : K.In h) (G : h.Ns mainGlobals mg) (c : SaysP faL fnL exK K) : ∃ fdat, Good K I_draws_worth fdat ∧ mg I_draws_worth.d.name = some (.ref (He.ga K I_draws_worth.d.name)) := by
  obtain ⟨fd, F⟩ := c.1.def_ 12 (d := I_draws_worth.d) rfl
  exact ⟨fd, ⟨F, N_draws_worth F⟩, He.glo_ok X G (c.1.fact 12 (f := .glo "draws_worth") rfl)⟩
theorem G_taking_above {K : PySem.W.Frag} {mg : Str → Option Value} {h : Heap} (X : K.In h) (G : h.Ns mainGlobals mg) (c : SaysP faL fnL exK K) : ∃ fdat, Good K I_taking_above fdat ∧ mg I_taking_above.d.name = some (.ref (He.ga K I_taking_above.d.name)) := by
  obtain ⟨fd, F⟩ := c.1.def_ 13 (d := I_taking_above.d) rfl
  exact ⟨fd, ⟨F, N_taking_above F⟩, He.glo_ok X G (c.1.fact 13 (f := .glo "taking_above") rfl)⟩
theorem G_two_draws_worth {K : PySem.W.Frag} {mg : Str → Option Value} {h : Heap} (X : K.In h) (G : h.Ns mainGlobals mg) (c : SaysP faL fnL exK K) : ∃ fdat, Good K I_two_draws_worth fdat ∧ mg I_two_draws_worth.d.name = some (.ref (He.ga K I_two_draws_worth.d.name)) := by
  obtain ⟨fd, F⟩ := c.1.def_ 14 (d := I_two_draws_worth.d) rfl
  exact ⟨fd, ⟨F, N_two_draws_worth F⟩, He.glo_ok X G (c.1.fact 14 (f := .glo "two_draws_worth") rfl)⟩
theorem G_after_offer {K : PySem.W.Frag} {mg : Str → Option Value} {h : Heap} (X : K.In h) (G : h.Ns mainGlobals mg) (c : SaysP faL fnL exK K) : ∃ fdat, Good K I_after_offer fdat ∧ mg I_after_offer.d.name = some (.ref (He.ga K I_after_offer.d.name)) := by
  obtain ⟨fd, F⟩ := c.1.def_ 15 (d := I_after_offer.d) rfl
  exact ⟨fd, ⟨F, N_after_offer F⟩, He.glo_ok X G (c.1.fact 15 (f := .glo "after_offer") rfl)⟩
theorem G_told_worth {K : PySem.W.Frag} {mg : Str → Option Value} {h : Heap} (X : K.In h) (G : h.Ns mainGlobals mg) (c : SaysP faL fnL exK K) : ∃ fdat, Good K I_told_worth fdat ∧ mg I_told_worth.d.name = some (.ref (He.ga K I_told_worth.d.name)) := by
  obtain ⟨fd, F⟩ := c.1.def_ 16 (d := I_told_worth.d) rfl
  exact ⟨fd, ⟨F, N_told_worth F⟩, He.glo_ok X G (c.1.fact 16 (f := .glo "told_worth") rfl)⟩
theorem G_price_table {K : PySem.W.Frag} {mg : Str → Option Value} {h : Heap} (X : K.In h) (G : h.Ns mainGlobals mg) (c : SaysP faL fnL exK K) : ∃ fdat, Good K I_price_table fdat ∧ mg I_price_table.d.name = some (.ref (He.ga K I_price_table.d.name)) := by
  obtain ⟨fd, F⟩ := c.1.def_ 17 (d := I_price_table.d) rfl
  exact ⟨fd, ⟨F, N_price_table F⟩, He.glo_ok X G (c.1.fact 17 (f := .glo "price_table") rfl)⟩
theorem G_price_worth {K : PySem.W.Frag} {mg : Str → Option Value} {h : Heap} (X : K.In h) (G : h.Ns mainGlobals mg) (c : SaysP faL fnL exK K) : ∃ fdat, Good K I_price_worth fdat ∧ mg I_price_worth.d.name = some (.ref (He.ga K I_price_worth.d.name)) := by
  obtain ⟨fd, F⟩ := c.1.def_ 18 (d := I_price_worth.d) rfl
  exact ⟨fd, ⟨F, N_price_worth F⟩, He.glo_ok X G (c.1.fact 18 (f := .glo "price_worth") rfl)⟩
theorem G_price_next {K : PySem.W.Frag} {mg : Str → Option Value} {h : Heap} (X : K.In h) (G : h.Ns mainGlobals mg) (c : SaysP faL fnL exK K) : ∃ fdat, Good K I_price_next fdat ∧ mg I_price_next.d.name = some (.ref (He.ga K I_price_next.d.name)) := by
  obtain ⟨fd, F⟩ := c.1.def_ 19 (d := I_price_next.d) rfl
  exact ⟨fd, ⟨F, N_price_next F⟩, He.glo_ok X G (c.1.fact 19 (f := .glo "price_next") rfl)⟩
theorem G_rent_cost {K : PySem.W.Frag} {mg : Str → Option Value} {h : Heap} (X : K.In h) (G : h.Ns mainGlobals mg) (c : SaysP faL fnL exK K) : ∃ fdat, Good K I_rent_cost fdat ∧ mg I_rent_cost.d.name = some (.ref (He.ga K I_rent_cost.d.name)) := by
  obtain ⟨fd, F⟩ := c.1.def_ 20 (d := I_rent_cost.d) rfl
  exact ⟨fd, ⟨F, N_rent_cost F⟩, He.glo_ok X G (c.1.fact 20 (f := .glo "rent_cost") rfl)⟩
theorem G_rent_ratio {K : PySem.W.Frag} {mg : Str → Option Value} {h : Heap} (X : K.In h) (G : h.Ns mainGlobals mg) (c : SaysP faL fnL exK K) : ∃ fdat, Good K I_rent_ratio fdat ∧ mg I_rent_ratio.d.name = some (.ref (He.ga K I_rent_ratio.d.name)) := by
  obtain ⟨fd, F⟩ := c.1.def_ 21 (d := I_rent_ratio.d) rfl
  exact ⟨fd, ⟨F, N_rent_ratio F⟩, He.glo_ok X G (c.1.fact 21 (f := .glo "rent_ratio") rfl)⟩
theorem G_best_rent_ratio {K : PySem.W.Frag} {mg : Str → Option Value} {h : Heap} (X : K.In h) (G : h.Ns mainGlobals mg) (c : SaysP faL fnL exK K) : ∃ fdat, Good K I_best_rent_ratio fdat ∧ mg I_best_rent_ratio.d.name = some (.ref (He.ga K I_best_rent_ratio.d.name)) := by
  obtain ⟨fd, F⟩ := c.1.def_ 22 (d := I_best_rent_ratio.d) rfl
  exact ⟨fd, ⟨F, N_best_rent_ratio F⟩, He.glo_ok X G (c.1.fact 22 (f := .glo "best_rent_ratio") rfl)⟩
theorem G_mixed_rent {K : PySem.W.Frag} {mg : Str → Option Value} {h : Heap} (X : K.In h) (G : h.Ns mainGlobals mg) (c : SaysP faL fnL exK K) : ∃ fdat, Good K I_mixed_rent fdat ∧ mg I_mixed_rent.d.name = some (.ref (He.ga K I_mixed_rent.d.name)) := by
  obtain ⟨fd, F⟩ := c.1.def_ 23 (d := I_mixed_rent.d) rfl
  exact ⟨fd, ⟨F, N_mixed_rent F⟩, He.glo_ok X G (c.1.fact 23 (f := .glo "mixed_rent") rfl)⟩
theorem G_best_sum {K : PySem.W.Frag} {mg : Str → Option Value} {h : Heap} (X : K.In h) (G : h.Ns mainGlobals mg) (c : SaysP faL fnL exK K) : ∃ fdat, Good K I_best_sum fdat ∧ mg I_best_sum.d.name = some (.ref (He.ga K I_best_sum.d.name)) := by
  obtain ⟨fd, F⟩ := c.1.def_ 24 (d := I_best_sum.d) rfl
  exact ⟨fd, ⟨F, N_best_sum F⟩, He.glo_ok X G (c.1.fact 24 (f := .glo "best_sum") rfl)⟩
theorem G_leaving {K : PySem.W.Frag} {mg : Str → Option Value} {h : Heap} (X : K.In h) (G : h.Ns mainGlobals mg) (c : SaysP faL fnL exK K) : ∃ fdat, Good K I_leaving fdat ∧ mg I_leaving.d.name = some (.ref (He.ga K I_leaving.d.name)) := by
  obtain ⟨fd, F⟩ := c.1.def_ 25 (d := I_leaving.d) rfl
  exact ⟨fd, ⟨F, N_leaving F⟩, He.glo_ok X G (c.1.fact 25 (f := .glo "leaving") rfl)⟩
theorem G_lifted {K : PySem.W.Frag} {mg : Str → Option Value} {h : Heap} (X : K.In h) (G : h.Ns mainGlobals mg) (c : SaysP faL fnL exK K) : ∃ fdat, Good K I_lifted fdat ∧ mg I_lifted.d.name = some (.ref (He.ga K I_lifted.d.name)) := by
  obtain ⟨fd, F⟩ := c.1.def_ 26 (d := I_lifted.d) rfl
  exact ⟨fd, ⟨F, N_lifted F⟩, He.glo_ok X G (c.1.fact 26 (f := .glo "lifted") rfl)⟩
theorem G_solved {K : PySem.W.Frag} {mg : Str → Option Value} {h : Heap} (X : K.In h) (G : h.Ns mainGlobals mg) (c : SaysP faL fnL exK K) : ∃ fdat, Good K I_solved fdat ∧ mg I_solved.d.name = some (.ref (He.ga K I_solved.d.name)) := by
  obtain ⟨fd, F⟩ := c.1.def_ 27 (d := I_solved.d) rfl
  exact ⟨fd, ⟨F, N_solved F⟩, He.glo_ok X G (c.1.fact 27 (f := .glo "solved") rfl)⟩
theorem G_table_worth {K : PySem.W.Frag} {mg : Str → Option Value} {h : Heap} (X : K.In h) (G : h.Ns mainGlobals mg) (c : SaysP faL fnL exK K) : ∃ fdat, Good K I_table_worth fdat ∧ mg I_table_worth.d.name = some (.ref (He.ga K I_table_worth.d.name)) := by
  obtain ⟨fd, F⟩ := c.1.def_ 28 (d := I_table_worth.d) rfl
  exact ⟨fd, ⟨F, N_table_worth F⟩, He.glo_ok X G (c.1.fact 28 (f := .glo "table_worth") rfl)⟩
theorem G__law_draw {K : PySem.W.Frag} {mg : Str → Option Value} {h : Heap} (X : K.In h) (G : h.Ns mainGlobals mg) (c : SaysP faL fnL exK K) : ∃ fdat, Good K I__law_draw fdat ∧ mg I__law_draw.d.name = some (.ref (He.ga K I__law_draw.d.name)) := by
  obtain ⟨fd, F⟩ := c.1.def_ 29 (d := I__law_draw.d) rfl
  exact ⟨fd, ⟨F, N__law_draw F⟩, He.glo_ok X G (c.1.fact 29 (f := .glo "_law_draw") rfl)⟩
theorem G__law_take {K : PySem.W.Frag} {mg : Str → Option Value} {h : Heap} (X : K.In h) (G : h.Ns mainGlobals mg) (c : SaysP faL fnL exK K) : ∃ fdat, Good K I__law_take fdat ∧ mg I__law_take.d.name = some (.ref (He.ga K I__law_take.d.name)) := by
  obtain ⟨fd, F⟩ := c.1.def_ 30 (d := I__law_take.d) rfl
  exact ⟨fd, ⟨F, N__law_take F⟩, He.glo_ok X G (c.1.fact 30 (f := .glo "_law_take") rfl)⟩
theorem G__law_lowest {K : PySem.W.Frag} {mg : Str → Option Value} {h : Heap} (X : K.In h) (G : h.Ns mainGlobals mg) (c : SaysP faL fnL exK K) : ∃ fdat, Good K I__law_lowest fdat ∧ mg I__law_lowest.d.name = some (.ref (He.ga K I__law_lowest.d.name)) := by
  obtain ⟨fd, F⟩ := c.1.def_ 31 (d := I__law_lowest.d) rfl
  exact ⟨fd, ⟨F, N__law_lowest F⟩, He.glo_ok X G (c.1.fact 31 (f := .glo "_law_lowest") rfl)⟩
theorem G__law_plus {K : PySem.W.Frag} {mg : Str → Option Value} {h : Heap} (X : K.In h) (G : h.Ns mainGlobals mg) (c : SaysP faL fnL exK K) : ∃ fdat, Good K I__law_plus fdat ∧ mg I__law_plus.d.name = some (.ref (He.ga K I__law_plus.d.name)) := by
  obtain ⟨fd, F⟩ := c.1.def_ 32 (d := I__law_plus.d) rfl
  exact ⟨fd, ⟨F, N__law_plus F⟩, He.glo_ok X G (c.1.fact 32 (f := .glo "_law_plus") rfl)⟩
theorem G__law_times {K : PySem.W.Frag} {mg : Str → Option Value} {h : Heap} (X : K.In h) (G : h.Ns mainGlobals mg) (c : SaysP faL fnL exK K) : ∃ fdat, Good K I__law_times fdat ∧ mg I__law_times.d.name = some (.ref (He.ga K I__law_times.d.name)) := by
  obtain ⟨fd, F⟩ := c.1.def_ 33 (d := I__law_times.d) rfl
  exact ⟨fd, ⟨F, N__law_times F⟩, He.glo_ok X G (c.1.fact 33 (f := .glo "_law_times") rfl)⟩
theorem G__law_minus {K : PySem.W.Frag} {mg : Str → Option Value} {h : Heap} (X : K.In h) (G : h.Ns mainGlobals mg) (c : SaysP faL fnL exK K) : ∃ fdat, Good K I__law_minus fdat ∧ mg I__law_minus.d.name = some (.ref (He.ga K I__law_minus.d.name)) := by
  obtain ⟨fd, F⟩ := c.1.def_ 34 (d := I__law_minus.d) rfl
  exact ⟨fd, ⟨F, N__law_minus F⟩, He.glo_ok X G (c.1.fact 34 (f := .glo "_law_minus") rfl)⟩
theorem G__law_over {K : PySem.W.Frag} {mg : Str → Option Value} {h : Heap} (X : K.In h) (G : h.Ns mainGlobals mg) (c : SaysP faL fnL exK K) : ∃ fdat, Good K I__law_over fdat ∧ mg I__law_over.d.name = some (.ref (He.ga K I__law_over.d.name)) := by
  obtain ⟨fd, F⟩ := c.1.def_ 35 (d := I__law_over.d) rfl
  exact ⟨fd, ⟨F, N__law_over F⟩, He.glo_ok X G (c.1.fact 35 (f := .glo "_law_over") rfl)⟩
theorem G__law_less {K : PySem.W.Frag} {mg : Str → Option Value} {h : Heap} (X : K.In h) (G : h.Ns mainGlobals mg) (c : SaysP faL fnL exK K) : ∃ fdat, Good K I__law_less fdat ∧ mg I__law_less.d.name = some (.ref (He.ga K I__law_less.d.name)) := by
  obtain ⟨fd, F⟩ := c.1.def_ 36 (d := I__law_less.d) rfl
  exact ⟨fd, ⟨F, N__law_less F⟩, He.glo_ok X G (c.1.fact 36 (f := .glo "_law_less") rfl)⟩
theorem G__law_sum {K : PySem.W.Frag} {mg : Str → Option Value} {h : Heap} (X : K.In h) (G : h.Ns mainGlobals mg) (c : SaysP faL fnL exK K) : ∃ fdat, Good K I__law_sum fdat ∧ mg I__law_sum.d.name = some (.ref (He.ga K I__law_sum.d.name)) := by
  obtain ⟨fd, F⟩ := c.1.def_ 37 (d := I__law_sum.d) rfl
  exact ⟨fd, ⟨F, N__law_sum F⟩, He.glo_ok X G (c.1.fact 37 (f := .glo "_law_sum") rfl)⟩
theorem G__law_best {K : PySem.W.Frag} {mg : Str → Option Value} {h : Heap} (X : K.In h) (G : h.Ns mainGlobals mg) (c : SaysP faL fnL exK K) : ∃ fdat, Good K I__law_best fdat ∧ mg I__law_best.d.name = some (.ref (He.ga K I__law_best.d.name)) := by
  obtain ⟨fd, F⟩ := c.1.def_ 38 (d := I__law_best.d) rfl
  exact ⟨fd, ⟨F, N__law_best F⟩, He.glo_ok X G (c.1.fact 38 (f := .glo "_law_best") rfl)⟩
theorem G__law_gain {K : PySem.W.Frag} {mg : Str → Option Value} {h : Heap} (X : K.In h) (G : h.Ns mainGlobals mg) (c : SaysP faL fnL exK K) : ∃ fdat, Good K I__law_gain fdat ∧ mg I__law_gain.d.name = some (.ref (He.ga K I__law_gain.d.name)) := by
  obtain ⟨fd, F⟩ := c.1.def_ 39 (d := I__law_gain.d) rfl
  exact ⟨fd, ⟨F, N__law_gain F⟩, He.glo_ok X G (c.1.fact 39 (f := .glo "_law_gain") rfl)⟩
theorem G__law_offer {K : PySem.W.Frag} {mg : Str → Option Value} {h : Heap} (X : K.In h) (G : h.Ns mainGlobals mg) (c : SaysP faL fnL exK K) : ∃ fdat, Good K I__law_offer fdat ∧ mg I__law_offer.d.name = some (.ref (He.ga K I__law_offer.d.name)) := by
  obtain ⟨fd, F⟩ := c.1.def_ 40 (d := I__law_offer.d) rfl
  exact ⟨fd, ⟨F, N__law_offer F⟩, He.glo_ok X G (c.1.fact 40 (f := .glo "_law_offer") rfl)⟩
theorem G__law_price {K : PySem.W.Frag} {mg : Str → Option Value} {h : Heap} (X : K.In h) (G : h.Ns mainGlobals mg) (c : SaysP faL fnL exK K) : ∃ fdat, Good K I__law_price fdat ∧ mg I__law_price.d.name = some (.ref (He.ga K I__law_price.d.name)) := by
  obtain ⟨fd, F⟩ := c.1.def_ 41 (d := I__law_price.d) rfl
  exact ⟨fd, ⟨F, N__law_price F⟩, He.glo_ok X G (c.1.fact 41 (f := .glo "_law_price") rfl)⟩
theorem G_law {K : PySem.W.Frag} {mg : Str → Option Value} {h : Heap} (X : K.In h) (G : h.Ns mainGlobals mg) (c : SaysP faL fnL exK K) : ∃ fdat, Good K I_law fdat ∧ mg I_law.d.name = some (.ref (He.ga K I_law.d.name)) := by
  obtain ⟨fd, F⟩ := c.1.def_ 42 (d := I_law.d) rfl
  exact ⟨fd, ⟨F, N_law F⟩, He.glo_ok X G (c.1.fact 42 (f := .glo "law") rfl)⟩
theorem gsL [HW] {P : Program} {w : World} {K : PySem.W.Frag} {mg : Str → Option Value} {base h : Heap} {g : Nat} (hw : HW.P = P ∧ HW.w = w) (X : K.In h) (G : h.Ns mainGlobals mg) (c : SaysP faL fnL exK K) : Gs fsL (ZZ P w K mg base g) bnL csL :=
  have c2 := Bool.and_eq_true_iff.mp (show (noList K && csL.all (gconOk K)) = true from c.2)
  ⟨all_get (P := fun I => ∃ fdat, Good K I fdat ∧ mg I.d.name = some (.ref (He.ga K I.d.name))) (all_cons (G_common X G c) (all_cons (G_lowest X G c) (all_cons (G_plus X G c) (all_cons (G_minus X G c) (all_cons (G_times X G c) (all_cons (G_divided X G c) (all_cons (G_less X G c) (all_cons (G_greatest X G c) (all_cons (G_least X G c) (all_cons (G_sum_of X G c) (all_cons (G_scaled X G c) (all_cons (G_less_row X G c) (all_cons (G_draws_worth X G c) (all_cons (G_taking_above X G c) (all_cons (G_two_draws_worth X G c) (all_cons (G_after_offer X G c) (all_cons (G_told_worth X G c) (all_cons (G_price_table X G c) (all_cons (G_price_worth X G c) (all_cons (G_price_next X G c) (all_cons (G_rent_cost X G c) (all_cons (G_rent_ratio X G c) (all_cons (G_best_rent_ratio X G c) (all_cons (G_mixed_rent X G c) (all_cons (G_best_sum X G c) (all_cons (G_leaving X G c) (all_cons (G_lifted X G c) (all_cons (G_solved X G c) (all_cons (G_table_worth X G c) (all_cons (G__law_draw X G c) (all_cons (G__law_take X G c) (all_cons (G__law_lowest X G c) (all_cons (G__law_plus X G c) (all_cons (G__law_times X G c) (all_cons (G__law_minus X G c) (all_cons (G__law_over X G c) (all_cons (G__law_less X G c) (all_cons (G__law_sum X G c) (all_cons (G__law_best X G c) (all_cons (G__law_gain X G c) (all_cons (G__law_offer X G c) (all_cons (G__law_price X G c) (all_cons (G_law X G c) (all_nil)))))))))))))))))))))))))))))))))))))))))))), all_cons (He.free_ok X G (c.1.fact 43 (f := .free "abs") rfl)) (all_cons (He.free_ok X G (c.1.fact 44 (f := .free "enumerate") rfl)) (all_cons (He.free_ok X G (c.1.fact 45 (f := .free "int") rfl)) (all_cons (He.free_ok X G (c.1.fact 46 (f := .free "isinstance") rfl)) (all_cons (He.free_ok X G (c.1.fact 47 (f := .free "len") rfl)) (all_cons (He.free_ok X G (c.1.fact 48 (f := .free "list") rfl)) (all_cons (He.free_ok X G (c.1.fact 49 (f := .free "min") rfl)) (all_cons (He.free_ok X G (c.1.fact 50 (f := .free "range") rfl)) (all_cons (He.free_ok X G (c.1.fact 51 (f := .free "tuple") rfl)) (all_cons (He.free_ok X G (c.1.fact 52 (f := .free "zip") rfl)) (all_nil)))))))))), hw, fun p hp => gcon_ok X G (List.all_eq_true.mp c2.2 p hp)⟩
theorem okL : ∀ (j : Nat) (I : Info), fsL[j]? = some I → InfoOk I := all_get (all_cons K_common (all_cons K_lowest (all_cons K_plus (all_cons K_minus (all_cons K_times (all_cons K_divided (all_cons K_less (all_cons K_greatest (all_cons K_least (all_cons K_sum_of (all_cons K_scaled (all_cons K_less_row (all_cons K_draws_worth (all_cons K_taking_above (all_cons K_two_draws_worth (all_cons K_after_offer (all_cons K_told_worth (all_cons K_price_table (all_cons K_price_worth (all_cons K_price_next (all_cons K_rent_cost (all_cons K_rent_ratio (all_cons K_best_rent_ratio (all_cons K_mixed_rent (all_cons K_best_sum (all_cons K_leaving (all_cons K_lifted (all_cons K_solved (all_cons K_table_worth (all_cons K__law_draw (all_cons K__law_take (all_cons K__law_lowest (all_cons K__law_plus (all_cons K__law_times (all_cons K__law_minus (all_cons K__law_over (all_cons K__law_less (all_cons K__law_sum (all_cons K__law_best (all_cons K__law_gain (all_cons K__law_offer (all_cons K__law_price (all_cons K_law (all_nil))))))))))))))))))))))))))))))))))))))))))))
theorem bodL [HW] {Z : Wd} : ∀ (j : Nat) (I : Info), fsL[j]? = some I → ∀ d cdv A outer s H E, Bd fsL Z bnL csL d (Z.cf fsL d E) (Z.X I cdv A outer s H E) → PSs (Z.X I cdv A outer s H E) I.d.body (tS (Z.cf fsL d E) Z.tk Z.g I.fd.b) :=
  all_get (P := fun I => ∀ d cdv A outer s H E, Bd fsL Z bnL csL d (Z.cf fsL d E) (Z.X I cdv A outer s H E) → PSs (Z.X I cdv A outer s H E) I.d.body (tS (Z.cf fsL d E) Z.tk Z.g I.fd.b)) (all_cons (fun d cdv A outer s H E B => B_common d cdv A outer s H E B) (all_cons (fun d cdv A outer s H E B => B_lowest d cdv A outer s H E B) (all_cons (fun d cdv A outer s H E B => B_plus d cdv A outer s H E B) (all_cons (fun d cdv A outer s H E B => B_minus d cdv A outer s H E B) (all_cons (fun d cdv A outer s H E B => B_times d cdv A outer s H E B) (all_cons (fun d cdv A outer s H E B => B_divided d cdv A outer s H E B) (all_cons (fun d cdv A outer s H E B => B_less d cdv A outer s H E B) (all_cons (fun d cdv A outer s H E B => B_greatest d cdv A outer s H E B) (all_cons (fun d cdv A outer s H E B => B_least d cdv A outer s H E B) (all_cons (fun d cdv A outer s H E B => B_sum_of d cdv A outer s H E B) (all_cons (fun d cdv A outer s H E B => B_scaled d cdv A outer s H E B) (all_cons (fun d cdv A outer s H E B => B_less_row d cdv A outer s H E B) (all_cons (fun d cdv A outer s H E B => B_draws_worth d cdv A outer s H E B) (all_cons (fun d cdv A outer s H E B => B_taking_above d cdv A outer s H E B) (all_cons (fun d cdv A outer s H E B => B_two_draws_worth d cdv A outer s H E B) (all_cons (fun d cdv A outer s H E B => B_after_offer d cdv A outer s H E B) (all_cons (fun d cdv A outer s H E B => B_told_worth d cdv A outer s H E B) (all_cons (fun d cdv A outer s H E B => B_price_table d cdv A outer s H E B) (all_cons (fun d cdv A outer s H E B => B_price_worth d cdv A outer s H E B) (all_cons (fun d cdv A outer s H E B => B_price_next d cdv A outer s H E B) (all_cons (fun d cdv A outer s H E B => B_rent_cost d cdv A outer s H E B) (all_cons (fun d cdv A outer s H E B => B_rent_ratio d cdv A outer s H E B) (all_cons (fun d cdv A outer s H E B => B_best_rent_ratio d cdv A outer s H E B) (all_cons (fun d cdv A outer s H E B => B_mixed_rent d cdv A outer s H E B) (all_cons (fun d cdv A outer s H E B => B_best_sum d cdv A outer s H E B) (all_cons (fun d cdv A outer s H E B => B_leaving d cdv A outer s H E B) (all_cons (fun d cdv A outer s H E B => B_lifted d cdv A outer s H E B) (all_cons (fun d cdv A outer s H E B => B_solved d cdv A outer s H E B) (all_cons (fun d cdv A outer s H E B => B_table_worth d cdv A outer s H E B) (all_cons (fun d cdv A outer s H E B => B__law_draw d cdv A outer s H E B) (all_cons (fun d cdv A outer s H E B => B__law_take d cdv A outer s H E B) (all_cons (fun d cdv A outer s H E B => B__law_lowest d cdv A outer s H E B) (all_cons (fun d cdv A outer s H E B => B__law_plus d cdv A outer s H E B) (all_cons (fun d cdv A outer s H E B => B__law_times d cdv A outer s H E B) (all_cons (fun d cdv A outer s H E B => B__law_minus d cdv A outer s H E B) (all_cons (fun d cdv A outer s H E B => B__law_over d cdv A outer s H E B) (all_cons (fun d cdv A outer s H E B => B__law_less d cdv A outer s H E B) (all_cons (fun d cdv A outer s H E B => B__law_sum d cdv A outer s H E B) (all_cons (fun d cdv A outer s H E B => B__law_best d cdv A outer s H E B) (all_cons (fun d cdv A outer s H E B => B__law_gain d cdv A outer s H E B) (all_cons (fun d cdv A outer s H E B => B__law_offer d cdv A outer s H E B) (all_cons (fun d cdv A outer s H E B => B__law_price d cdv A outer s H E B) (all_cons (fun d cdv A outer s H E B => B_law d cdv A outer s H E B) (all_nil))))))))))))))))))))))))))))))))))))))))))))
abbrev lawFn (g : Nat) : Fn := run (fsL.map Info.fd) (fun _ _ => false) g 40
abbrev spLaw [HW] (K : PySem.W.Frag) : Sp := fun vs H Q _ => spE (fun g => spF K (fun _ => .none) (lawFn g) I_law.fd I_law.N 42) vs H Q fun _ _ _ => False
theorem facts [HW] {P : Program} {w : World} {K : PySem.W.Frag} {h : Heap} {mg : Str → Option Value} {f : Addr} (hw : HW.P = P ∧ HW.w = w) (X : K.In h) (G : h.Ns mainGlobals mg) (hfa : mg ("law" : Str) = some (.ref f)) (c : SaysP faL fnL exK K) :
    noList K = true ∧ ∃ fd : FuncData, (∀ (s : Shared) (v : Value), BindsTo s fd ⟨[v], []⟩ [("script", v)]) ∧ ∀ base : Heap, K.In base → base.Ns mainGlobals mg → FnOk P w K mg base CX0 40 f fd ["script"] (spLaw K) := by
  have c2 := Bool.and_eq_true_iff.mp (show (noList K && csL.all (gconOk K)) = true from c.2)
  obtain ⟨fd, F⟩ := c.1.def_ 42 (d := I_law.d) rfl
  have e := hfa.symm.trans (He.glo_ok X G (c.1.fact 42 (f := .glo "law") rfl))
  cases e
  have b := FunD.bindsA (ps := ["script"]) F fun _ _ _ _ _ _ us hl => match us, hl with | [_], _ => rfl
  exact ⟨c2.1, fd, fun s v => b s [v] rfl, fun base _ _ => fnOk_0 (fnOk_ex fun g => okAt (Z := ZZ P w K mg base g) (gsL hw X G c) okL bodL 40 42 I_law fd rfl ⟨F, N_law F⟩)⟩
end K37

set_option exponentiation.threshold 10000
namespace K37
open PySem PySem.Spec PyProof.Rows L2 Py
abbrev fsd : List FD := fsL.map Info.fd
abbrev tk0 : Tk := fun _ _ => false
def gg : Nat := 2 ^ 9000
theorem lgg : 2 ^ 9000 ≤ gg := Nat.le_refl _
abbrev rn (d : Nat) : Fn := run fsd tk0 gg d
theorem rd1 : RD fsd 0 1 0 := .lw (jc := 0) rfl rfl
theorem rd31 : RD fsd 0 31 0 := .lwl rfl
theorem rd2 : RD fsd 1 2 0 := .pl rd1 rfl
theorem rd32 : RD fsd 1 32 0 := .pl rd31 rfl
theorem rd9 : RD fsd 2 9 0 := .sr (z := .con (.tup [.int 0, .int 1])) rd2 (fun _ _ => rfl) rfl
theorem rd37 : RD fsd 2 37 0 := .sr (z := .tup (.cons (.con (.int 0)) (.cons (.con (.int 1)) .nil))) rd32 (fun _ _ => rfl) rfl
def kdL : List (Option Kd) := [none, some .lw, some .pl, some .mi, some .tm, some .dv, some .ls, some .gr, some .le, some .sr, none, none, none, none, none, none, none, none, none, none, none, none, none, none, none, none, none, none, none, none, none, some .lw, some .pl, some .tm, some .mi, some .dv, some .ls, some .sr, some .bs, none, none, none, none]
theorem rkL : ∀ (f : Nat) (k : Kd), kdL[f]? = some (some k) → RK fsd k f
  | 0, k, h => nomatch h
  | 1, k, h => by cases h; exact .lw rd1
  | 2, k, h => by cases h; exact .pl rd2
  | 3, k, h => by cases h; exact .mi rd1 rfl
  | 4, k, h => by cases h; exact .tm rd1 rfl
  | 5, k, h => by cases h; exact .dv rd1 rfl
  | 6, k, h => by cases h; exact .ls rfl
  | 7, k, h => by cases h; exact .gr (jls := 6) rfl rfl
  | 8, k, h => by cases h; exact .le (jls := 6) rfl rfl
  | 9, k, h => by cases h; exact .sr rd9
  | 10, k, h => nomatch h
  | 11, k, h => nomatch h
  | 12, k, h => nomatch h
  | 13, k, h => nomatch h
  | 14, k, h => nomatch h
  | 15, k, h => nomatch h
  | 16, k, h => nomatch h
  | 17, k, h => nomatch h
  | 18, k, h => nomatch h
  | 19, k, h => nomatch h
  | 20, k, h => nomatch h
  | 21, k, h => nomatch h
  | 22, k, h => nomatch h
  | 23, k, h => nomatch h
  | 24, k, h => nomatch h
  | 25, k, h => nomatch h
  | 26, k, h => nomatch h
  | 27, k, h => nomatch h
  | 28, k, h => nomatch h
  | 29, k, h => nomatch h
  | 30, k, h => nomatch h
  | 31, k, h => by cases h; exact .lw rd31
  | 32, k, h => by cases h; exact .pl rd32
  | 33, k, h => by cases h; exact .tm rd31 rfl
  | 34, k, h => by cases h; exact .ml rd32 rfl
  | 35, k, h => by cases h; exact .dv rd31 rfl
  | 36, k, h => by cases h; exact .ls rfl
  | 37, k, h => by cases h; exact .sr rd37
  | 38, k, h => by cases h; exact .bs (jls := 36) rfl rfl
  | 39, k, h => nomatch h
  | 40, k, h => nomatch h
  | 41, k, h => nomatch h
  | 42, k, h => nomatch h
  | n + 43, k, h => by rw [List.getElem?_eq_none (by show 43 ≤ n + 43; omega)] at h; cases h
def CC : Fn := runO fsd tk0 gg (oK kdL) 5 34
theorem CC_eq : rn 39 = CC := (runO_eq (oK_ok lgg rkL) 34).symm
/-! ### prices -/
abbrev Qr : Type := Int × Int
def oW (o : Qr × Qr) : W := .tup [rt o.1, rt o.2]
def ofv (a b : Qr) (o : Qr × Qr) : Qr := rpl (rtm o.2 (rpl o.1 a)) (rtm (rmi (1, 1) o.2) b)
def PV (ps : List (Qr × Qr)) : Nat → Nat → Qr
  | 0 => fun _ => (0, 1)
  | n + 1 => fun t => match t with
    | 0 => (0, 1)
    | t + 1 => grR (PV ps n (t + 1) :: ps.map (ofv (PV ps n t) (PV ps n (t + 1))))
def BB : Nat → Nat
  | 0 => 1
  | n + 1 => 2 * BB n + 11
theorem BB_le : ∀ {n : Nat}, n ≤ 4 → BB n ≤ 200
  | 0, _ => by decide
  | 1, _ => by decide
  | 2, _ => by decide
  | 3, _ => by decide
  | 4, _ => by decide
  | n + 5, h => by omega
/-- drawn offers -/
def Of (ps : List (Qr × Qr)) : Prop := (ps.length ≤ 3 ∧ 0 < ps.length) ∧ ∀ o ∈ ps, bd 3 o.1 ∧ bd 2 o.2
theorem ofv_bd {k : Nat} {a b : Qr} {o : Qr × Qr} (ha : bd k a) (hb : bd k b) (h1 : bd 3 o.1) (h2 : bd 2 o.2) : bd (k + 4) (rpl o.1 a) ∧ bd (k + 6) (rtm o.2 (rpl o.1 a)) ∧ bd 4 (rmi (1, 1) o.2) ∧ bd (k + 4) (rtm (rmi (1, 1) o.2) b) ∧ bd (2 * k + 11) (ofv a b o) := by
  have e1 := (rpl_bd h1 ha).up (m := k + 4) (by omega)
  have e2 := (rtm_bd h2 e1).up (m := k + 6) (by omega)
  have e3 := (rmi_bd one_bd h2).up (m := 4) (by omega)
  have e4 := (rtm_bd e3 hb).up (m := k + 4) (by omega)
  exact ⟨e1, e2, e3, e4, (rpl_bd e2 e4).up (by omega)⟩
theorem PV_bd {ps : List (Qr × Qr)} (h : Of ps) : ∀ (n t : Nat), bd (BB n) (PV ps n t)
  | 0, t => ⟨show 0 < 2 by decide, show (0 : Int) < 1 by decide, show 1 < 2 by decide⟩
  | n + 1, 0 => by
    have : bd 1 (0, 1) := ⟨by decide, by decide, by decide⟩
    exact this.up (by show 1 ≤ 2 * BB n + 11; omega)
  | n + 1, t + 1 => by
    have h1 := PV_bd h n (t + 1)
    have h0 := PV_bd h n t
    have h2 : bd (BB (n + 1)) (PV ps n (t + 1)) := h1.up (by show BB n ≤ 2 * BB n + 11; omega)
    refine bsF_P rls _ _ h2 fun p hp => ?_
    rcases List.mem_cons.mp hp with rfl | hp
    · exact h2
    · obtain ⟨o, ho, rfl⟩ := List.mem_map.mp hp
      exact (ofv_bd h0 h1 (h.2 o ho).1 (h.2 o ho).2).2.2.2.2
theorem row_bd {ps : List (Qr × Qr)} (h : Of ps) (n t : Nat) : ∀ p ∈ PV ps n (t + 1) :: ps.map (ofv (PV ps n t) (PV ps n (t + 1))), bd (BB (n + 1)) p := fun p hp => by
  have h1 := PV_bd h n (t + 1)
  have h0 := PV_bd h n t
  rcases List.mem_cons.mp hp with rfl | hp
  · exact h1.up (by show BB n ≤ 2 * BB n + 11; omega)
  · obtain ⟨o, ho, rfl⟩ := List.mem_map.mp hp
    exact (ofv_bd h0 h1 (h.2 o ho).1 (h.2 o ho).2).2.2.2.2
theorem PV_0 (ps : List (Qr × Qr)) : ∀ n, PV ps n 0 = (0, 1)
  | 0 => rfl
  | n + 1 => rfl
theorem lcL_at {step : W → Py.Env → Out (Option W)} {I : Py.Env → Prop} : ∀ {its outs acc : List W} {ρ : Py.Env}, its.length = outs.length → (∀ (i : Nat) w y, its[i]? = some w → outs[i]? = some y → ∀ ρ, I ρ → ∃ ρ', step w ρ = .ok (some y) ρ' ∧ I ρ') → I ρ → ∃ ρ', lcL step its acc ρ = .ok (acc ++ outs) ρ' ∧ I ρ'
  | [], [], acc, ρ, _, _, hi => ⟨ρ, by simp [lcL], hi⟩
  | w :: r, y :: ys, acc, ρ, hl, hs, hi => by
    obtain ⟨ρ1, e1, i1⟩ := hs 0 w y rfl rfl ρ hi
    obtain ⟨ρ2, e2, i2⟩ := lcL_at (its := r) (outs := ys) (acc := acc ++ [y]) (by simpa using hl) (fun i w' y' h1 h2 => hs (i + 1) w' y' (by simpa using h1) (by simpa using h2)) i1
    refine ⟨ρ2, ?_, i2⟩
    simp only [lcL, e1]
    rw [e2]
    simp
  | [], _ :: _, _, _, hl, _, _ => by simp at hl
  | _ :: _, [], _, _, hl, _, _ => by simp at hl
theorem ix_at {l : List W} {k : Nat} {w : W} (h : l[k]? = some w) : ixW (.tup l) (.int (k : Int)) = some (w, false) := by
  have hk := (List.getElem?_eq_some_iff.mp h).1
  have e : L2.ixN l.length (k : Int) = some k := by
    unfold L2.ixN
    split <;> rename_i q <;> first | rfl | (split <;> first | rfl | omega) | omega
  show (L2.atI l (k : Int)).map _ = _
  unfold L2.atI
  rw [e]
  simp [h]
theorem rng_nat {k : Nat} (h : k ≤ 1000) : itW .rng [.int (k : Int)] = some (rngL k 0) := by
  show (if okR (k : Int) = true ∧ (k : Int) ≤ szL then some (rngL (k : Int).toNat 0) else none) = _
  rw [if_pos ⟨decide_eq_true ⟨by omega, by omega⟩, by unfold szL; omega⟩]
  rfl
theorem rngL_at : ∀ (n : Nat) (a : Int) (i : Nat) (w : W), (rngL n a)[i]? = some w → w = .int (a + i) ∧ i < n
  | 0, a, i, w, h => by simp [rngL] at h
  | n + 1, a, 0, w, h => by simp [rngL] at h; exact ⟨by simp [h], by omega⟩
  | n + 1, a, i + 1, w, h => by
    simp only [rngL, List.getElem?_cons_succ] at h
    obtain ⟨h1, h2⟩ := rngL_at n (a + 1) i w h
    exact ⟨by rw [h1]; congr 1; omega, by omega⟩
theorem rngL_len : ∀ (n : Nat) (a : Int), (rngL n a).length = n
  | 0, _ => rfl
  | n + 1, a => by simp [rngL, rngL_len n (a + 1)]
/-! the law's -/
theorem lo_ok (C : Fn) (ow : W) (N T K : Int) (o : Qr × Qr) (a b s t1 m t2 r : Qr) (how : isD ow = false) (h0 : ixW ow (.int K) = some (oW o, false))
    (h1 : C 41 [ow, .int (N - 1), .int (T - 1)] = .ret (rt a) false []) (h2 : C 32 [rt o.1, rt a] = .ret (rt s) false []) (h3 : C 33 [rt o.2, rt s] = .ret (rt t1) false []) (h4 : C 34 [.tup [.int 1, .int 1], rt o.2] = .ret (rt m) false [])
    (h5 : C 41 [ow, .int (N - 1), .int T] = .ret (rt b) false []) (h6 : C 33 [rt m, rt b] = .ret (rt t2) false []) (h7 : C 32 [rt t1, rt t2] = .ret (rt r) false []) :
    ofS I__law_offer.fd (xs C tk0 gg S__law_offer [some (ow, .sh), some (.int N, .sh), some (.int T, .sh), some (.int K, .sh), none, none, none]) = .ret (rt r) false [] := by
  have h0' : ixW ow (.int K) = some (.tup [rt o.1, rt o.2], false) := h0
  simp [S__law_offer, xs, ev, SO.thn, wOf, l2, res, ofO, subI, how, h0', asP, isD_rt, h1, h2, h3, h4, h5, h6, h7, shrs, szL, callW, shM, shr, ioW, ioB, ofE, asA, setN, retA, ofS, I__law_offer, ioE]

def LC41 : E := (.lc (.call 40 [false, false, false, false] (.cons (.var 0) (.cons (.var 1) (.cons (.var 2) (.cons (.var 3) .nil))))) (.n 3) .nil .rng (.cons (.bi .len (.cons (.var 0) .nil)) .nil) [3])
def S41 (e : E) : S := (.seq (.ite (.or (.cmp .eq (.var 1) (.con (.int 0))) (.cmp .eq (.var 2) (.con (.int 0)))) (.seq (.ret (.tup (.cons (.con (.int 0)) (.cons (.con (.int 1)) .nil)))) .nil) .nil) (.seq (.ret (.call 38 [false, false] (.cons (.op .add (.lst (.cons (.call 41 [false, false, false] (.cons (.var 0) (.cons (.op .sub (.var 1) (.con (.int 1))) (.cons (.var 2) .nil)))) .nil)) e) (.cons (.con (.int 1)) .nil)))) .nil))
theorem is41 : S__law_price = S41 LC41 := rfl
theorem lc41_ok (C : Fn) (l : List W) (N T : Int) (outs : List W) (hl : l.length ≤ 1000) (ho : outs.length = l.length) (h : ∀ (k : Nat) y, outs[k]? = some y → isD y = false ∧ C 40 [.tup l, .int N, .int T, .int (k : Int)] = .ret y false []) :
    (ev C LC41).x [some (.tup l, .sh), some (.int N, .sh), some (.int T, .sh), none] = .ok (.val (.lst outs) true) [some (.tup l, .sh), some (.int N, .sh), some (.int T, .sh), none] := by
  obtain ⟨ρ', e, x, rfl⟩ := lcL_at (I := fun ρ => ∃ x, ρ = [some (.tup l, .sh), some (.int N, .sh), some (.int T, .sh), x]) (its := rngL l.length 0) (outs := outs) (acc := []) (step := stepE [3] (.n 3) (ev C .nil).t (ev C (.call 40 [false, false, false, false] (.cons (.var 0) (.cons (.var 1) (.cons (.var 2) (.cons (.var 3) .nil)))))).x) (ρ := [some (.tup l, .sh), some (.int N, .sh), some (.int T, .sh), none])
    (by rw [rngL_len, ho]) (fun i w y h1 h2 ρ ⟨x, hρ⟩ => by
      obtain ⟨rfl, _⟩ := rngL_at _ _ _ _ h1
      obtain ⟨d, e⟩ := h i y h2
      rw [show (0 : Int) + (i : Int) = i by omega]
      subst hρ
      refine ⟨_, step_ok (ρ1 := [some (.tup l, .sh), some (.int N, .sh), some (.int T, .sh), some (.int (i : Int), .sh)]) rfl ?_, some (.int i, .sh), rfl⟩
      simp [stepV, ev, wOf, callW, shM, ioW, ioB, shr, e, d]) ⟨none, rfl⟩
  have ha : (ev C (.cons (.bi .len (.cons (.var 0) .nil)) .nil)).a [some (.tup l, .sh), some (.int N, .sh), some (.int T, .sh), none] = .ok [.val (.int (l.length : Int)) false] [some (.tup l, .sh), some (.int N, .sh), some (.int T, .sh), none] := rfl
  have hb : (ress [some (.tup l, .sh), some (.int N, .sh), some (.int T, .sh), none] [.val (.int (l.length : Int)) false]).bind (itW .rng) = some (rngL l.length 0) := by
    rw [show ress [some (.tup l, .sh), some (.int N, .sh), some (.int T, .sh), none] [.val (.int (l.length : Int)) false] = some [.int (l.length : Int)] from rfl, Option.bind_some]
    exact rng_nat hl
  unfold LC41
  exact (lc_ok ha hb (by rw [rngL_len]; have : szL = 16777216 := rfl; omega) e).trans rfl

theorem lp_ok (C : Fn) (e : E) (l : List W) (N T : Int) (p r : Qr) (outs : List Qr) (hN : N ≠ 0) (hT : T ≠ 0) (hz : outs.length ≤ 1000) (h1 : C 41 [.tup l, .int (N - 1), .int T] = .ret (rt p) false [])
    (h2 : (ev C e).x [some (.tup l, .sh), some (.int N, .sh), some (.int T, .sh), none] = .ok (.val (.lst (outs.map rt)) true) [some (.tup l, .sh), some (.int N, .sh), some (.int T, .sh), none])
    (h3 : C 38 [.lst ((p :: outs).map rt), .int 1] = .ret (rt r) false []) : ofS I__law_price.fd (xs C tk0 gg (S41 e) [some (.tup l, .sh), some (.int N, .sh), some (.int T, .sh), none]) = .ret (rt r) false [] := by
  have e1 : cmpW .eq (.int N) (.int 0) = some false := by rw [eqI, decide_eq_false hN]
  have e2 : cmpW .eq (.int T) (.int 0) = some false := by rw [eqI, decide_eq_false hT]
  have e3 : opW .add (.lst [rt p]) (.lst (outs.map rt)) = some (.lst (rt p :: outs.map rt), true) := by
    show (if [rt p].length + (outs.map rt).length ≤ szL then some (W.lst ([rt p] ++ outs.map rt), true) else none) = _
    rw [if_pos]
    · rfl
    · rw [List.length_map, List.length_singleton]
      have : szL = 16777216 := rfl
      omega
  have h3' : C 38 [.lst (rt p :: outs.map rt), .int 1] = .ret (rt r) false [] := h3
  simp [S41, xs, ev, SO.thn, wOf, l2, res, ofO, bW, trO, truth, subI, e1, e2, isD_rt, h1, shrs, ↓if_sz1, callW, shM, shr, ioW, ioB]
  rw [h2]
  simp [e3, h3', res, ofO, shM, shr, ioW, ioB, retA, ofS, I__law_price, ioE]
theorem lp_z (C : Fn) (e : E) (ow : W) (N : Int) (hN : N ≠ 0) : ofS I__law_price.fd (xs C tk0 gg (S41 e) [some (ow, .sh), some (.int N, .sh), some (.int 0, .sh), none]) = .ret (rt (0, 1)) false [] := by
  have e1 : cmpW .eq (.int N) (.int 0) = some false := by rw [eqI, decide_eq_false hN]
  have e2 : cmpW .eq (.int 0) (.int 0) = some true := rfl
  simp [S41, xs, ev, SO.thn, wOf, l2, res, ofO, bW, trO, truth, e1, e2, shrs, shr, szL, retA, ofS, I__law_price, ioE, rt]
def Lp (ps : List (Qr × Qr)) (n : Nat) : Prop := ∀ (D t : Nat), 3 * n + 6 ≤ D → rn D 41 [.tup (ps.map oW), .int (n : Int), .int (t : Int)] = .ret (rt (PV ps n t)) false []
theorem lo_at {ps : List (Qr × Qr)} (h : Of ps) {n : Nat} (hn : n ≤ 3) (L : Lp ps n) {D t k : Nat} {o : Qr × Qr} (hD : 3 * n + 7 ≤ D) (hk : ps[k]? = some o) : rn D 40 [.tup (ps.map oW), .int ((n + 1 : Nat) : Int), .int ((t + 1 : Nat) : Int), .int (k : Int)] = .ret (rt (ofv (PV ps n t) (PV ps n (t + 1)) o)) false [] := by
  obtain ⟨d, rfl⟩ : ∃ d, D = d + 1 := ⟨D - 1, by omega⟩
  have hb := BB_le (n := n) (by omega)
  have ho := h.2 o (List.mem_of_getElem? hk)
  have a1 := PV_bd h n t
  have a2 := PV_bd h n (t + 1)
  obtain ⟨b1, b2, b3, b4, b5⟩ := ofv_bd a1 a2 ho.1 ho.2
  rw [show rn (d + 1) 40 _ = _ from run_at (fd := I__law_offer.fd) rfl rfl]
  refine lo_ok (rn d) (.tup (ps.map oW)) _ _ _ o _ _ _ _ _ _ _ rfl (ix_at (by rw [List.getElem?_map, hk]; rfl)) ?_ (pl_at lgg rd32 (by omega) (ho.1.g (by decide)) (a1.g (by omega))) (tm_at lgg rd31 rfl (by omega) (ho.2.g (by decide)) (b1.g (by omega))) (ml_at lgg rd32 rfl (p := (1, 1)) (by omega) (one_bd.g (by decide)) (ho.2.g (by decide))) ?_ (tm_at lgg rd31 rfl (by omega) (b3.g (by decide)) (a2.g (by omega))) (pl_at lgg rd32 (by omega) (b2.g (by omega)) (b4.g (by omega)))
  · rw [show ((n + 1 : Nat) : Int) - 1 = n by omega, show ((t + 1 : Nat) : Int) - 1 = t by omega]
    exact L d t (by omega)
  · rw [show ((n + 1 : Nat) : Int) - 1 = n by omega]
    exact L d (t + 1) (by omega)
theorem lp_at {ps : List (Qr × Qr)} (h : Of ps) : ∀ n, n ≤ 4 → Lp ps n
  | 0, _ => fun D t hD => by
    obtain ⟨d, rfl⟩ : ∃ d, D = d + 1 := ⟨D - 1, by omega⟩
    rw [show rn (d + 1) 41 _ = _ from run_at (fd := I__law_price.fd) rfl rfl]
    rfl
  | n + 1, hn => fun D t hD => by
    obtain ⟨d, rfl⟩ : ∃ d, D = d + 1 := ⟨D - 1, by omega⟩
    rw [show rn (d + 1) 41 _ = _ from run_at (fd := I__law_price.fd) rfl rfl]
    cases t with
    | zero =>
      exact lp_z (rn d) LC41 (.tup (ps.map oW)) _ (by omega)
    | succ t =>
      have L := lp_at h n (by omega)
      have hb := BB_le (n := n + 1) (by omega)
      have row := row_bd h n t
      have hlen : ps.length ≤ 1000 := Nat.le_trans h.1.1 (by decide)
      refine lp_ok (rn d) LC41 (ps.map oW) _ _ _ _ (ps.map (ofv (PV ps n t) (PV ps n (t + 1)))) (by omega) (by omega) (by rw [List.length_map]; exact hlen) ?_ (lc41_ok (rn d) _ _ _ _ (by rw [List.length_map]; exact hlen) (by simp) fun k y hy => ?_) (bsR_at rfl rfl (by omega) (gMs_of fun p hp => (row p hp).m (by omega)) (by simp))
      · rw [show ((n + 1 : Nat) : Int) - 1 = n by omega]
        exact L d (t + 1) (by omega)
      · rw [List.getElem?_map, List.getElem?_map] at hy
        cases hk : ps[k]? with
        | none => rw [hk] at hy; cases hy
        | some o =>
          rw [hk] at hy
          obtain rfl : rt (ofv (PV ps n t) (PV ps n (t + 1)) o) = y := by simpa using hy
          exact ⟨rfl, lo_at h (by omega) L (by omega) hk⟩
end K37

set_option exponentiation.threshold 10000
namespace K37
open PySem PySem.Spec PyProof.Rows L2 Py
def T0 : S := (.asn 1 (.call 29 [false] (.cons (.var 0) .nil)))
def T1 : S := (.par [2, 3] (.cons (.tup (.cons (.con (.int 1)) (.cons (.con (.int 2)) .nil))) (.cons (.lst (.cons (.con .non) (.cons (.tup (.cons (.con (.int 1)) (.cons (.con (.int 2)) .nil))) .nil))) .nil)))
def T2 : S := (.for_ (.n 4) .rng (.cons (.con (.int 2)) (.cons (.con (.int 7)) .nil)) (.seq (.mut .append 3 (.cons (.call 33 [false, false] (.cons (.var 2) (.cons (.call 32 [false, false] (.cons (.tup (.cons (.con (.int 1)) (.cons (.con (.int 1)) .nil))) (.cons (.call 33 [false, false] (.cons (.ix (.var 3) (.neg (.con (.int 1)))) (.cons (.ix (.var 3) (.neg (.con (.int 1)))) .nil))) .nil))) .nil))) .nil)) .nil))
def T3 : S := (.asn 5 (.lst (.cons (.con .non) (.cons (.con .non) (.cons (.tup (.cons (.con (.int 1)) (.cons (.con (.int 1)) .nil))) .nil)))))
def T4 : S := (.for_ (.n 4) .rng (.cons (.con (.int 3)) (.cons (.con (.int 7)) .nil)) (.seq (.asn 6 (.call 38 [false, false] (.cons (.lst (.cons (.tup (.cons (.con (.int 0)) (.cons (.con (.int 1)) .nil))) (.cons (.call 38 [false, false] (.cons (.lst (.cons (.tup (.cons (.con (.int 1)) (.cons (.con (.int 1)) .nil))) (.cons (.call 34 [false, false] (.cons (.ix (.var 5) (.op .sub (.var 4) (.con (.int 1)))) (.cons (.ix (.var 3) (.op .sub (.var 4) (.con (.int 1)))) .nil))) .nil))) (.cons (.neg (.con (.int 1))) .nil))) .nil))) (.cons (.con (.int 1)) .nil)))) (.seq (.asn 7 (.call 33 [false, false] (.cons (.var 2) (.cons (.call 34 [false, false] (.cons (.tup (.cons (.con (.int 1)) (.cons (.con (.int 1)) .nil))) (.cons (.call 33 [false, false] (.cons (.var 6) (.cons (.var 6) .nil))) .nil))) .nil)))) (.seq (.mut .append 5 (.cons (.call 37 [false] (.cons (.lst (.cons (.var 7) (.cons (.call 33 [false, false] (.cons (.call 34 [false, false] (.cons (.tup (.cons (.con (.int 1)) (.cons (.con (.int 1)) .nil))) (.cons (.var 6) .nil))) (.cons (.ix (.var 3) (.op .sub (.var 4) (.con (.int 1)))) .nil))) (.cons (.call 33 [false, false] (.cons (.var 6) (.cons (.ix (.var 5) (.op .sub (.var 4) (.con (.int 1)))) .nil))) .nil)))) .nil)) .nil)) .nil))))
def T5 : S := (.asn 4 (.op .add (.con (.int 1)) (.call 30 [true, false] (.cons (.var 1) (.cons (.con (.int 6)) .nil)))))
def T6 : S := (.ite (.or (.cmp .ne (.call 12 [false] (.cons (.var 4) .nil)) (.ix (.var 3) (.var 4))) (.or (.and (.cmp .gt (.var 4) (.con (.int 1))) (.cmp .ne (.call 14 [false] (.cons (.var 4) .nil)) (.ix (.var 5) (.var 4)))) (.not (.isi (.call 12 [false] (.cons (.var 4) .nil)) .tuple)))) (.seq (.ret (.con (.bl false))) .nil) .nil)
def T7 : S := (.asn 8 (.bi .tuple (.cons (.lc (.tup (.cons (.call 39 [true] (.cons (.var 1) .nil)) (.cons (.ix (.lst (.cons (.tup (.cons (.con (.int 1)) (.cons (.con (.int 2)) .nil))) (.cons (.tup (.cons (.con (.int 1)) (.cons (.con (.int 3)) .nil))) (.cons (.tup (.cons (.con (.int 2)) (.cons (.con (.int 3)) .nil))) (.cons (.tup (.cons (.con (.int 1)) (.cons (.con (.int 1)) .nil))) (.cons (.tup (.cons (.con (.int 0)) (.cons (.con (.int 1)) .nil))) .nil)))))) (.call 30 [true, false] (.cons (.var 1) (.cons (.con (.int 5)) .nil)))) .nil))) (.n 21) .nil .rng (.cons (.op .add (.con (.int 1)) (.call 30 [true, false] (.cons (.var 1) (.cons (.con (.int 3)) .nil)))) .nil) [21]) .nil)))
def T8 : S := (.par [4, 9] (.cons (.call 30 [true, false] (.cons (.var 1) (.cons (.con (.int 5)) .nil))) (.cons (.call 30 [true, false] (.cons (.var 1) (.cons (.con (.int 4)) .nil))) .nil)))
def T9 : S := (.asn 10 (.call 41 [false, false, false] (.cons (.var 8) (.cons (.var 4) (.cons (.var 9) .nil)))))
def T10 : S := (.ite (.cmp .ne (.call 18 [false, false, false] (.cons (.var 8) (.cons (.var 4) (.cons (.var 9) .nil)))) (.var 10)) (.seq (.ret (.con (.bl false))) .nil) .nil)
def T11 : S := (.asn 11 (.call 19 [false, false, false] (.cons (.var 8) (.cons (.var 4) (.cons (.var 9) .nil)))))
def T12 : S := (.ite (.or (.cmp .eq (.var 4) (.con (.int 0))) (.or (.cmp .eq (.var 9) (.con (.int 0))) (.not (.call 36 [false, false] (.cons (.call 41 [false, false, false] (.cons (.var 8) (.cons (.op .sub (.var 4) (.con (.int 1))) (.cons (.var 9) .nil)))) (.cons (.var 10) .nil)))))) (.seq (.ite (.cmp .isnt (.var 11) (.con .non)) (.seq (.ret (.con (.bl false))) .nil) .nil) .nil) (.seq (.ite (.cmp .ne (.var 11) (.mth .index (.lc (.call 40 [false, false, false, false] (.cons (.var 8) (.cons (.var 4) (.cons (.var 9) (.cons (.var 21) .nil))))) (.n 21) .nil .rng (.cons (.bi .len (.cons (.var 8) .nil)) .nil) [21]) (.cons (.var 10) .nil))) (.seq (.ret (.con (.bl false))) .nil) .nil) .nil))
def T13 : S := (.par [12, 13, 14] (.cons (.op .add (.con (.int 1)) (.call 30 [true, false] (.cons (.var 1) (.cons (.con (.int 4)) .nil)))) (.cons (.op .add (.con (.int 1)) (.call 30 [true, false] (.cons (.var 1) (.cons (.con (.int 6)) .nil)))) (.cons (.op .add (.con (.int 1)) (.call 30 [true, false] (.cons (.var 1) (.cons (.con (.int 12)) .nil)))) .nil))))
def T14 : S := (.ite (.cmp .ne (.call 20 [false, false, false] (.cons (.var 12) (.cons (.var 13) (.cons (.var 14) .nil)))) (.ite (.cmp .lt (.var 14) (.var 13)) (.var 14) (.op .add (.op .sub (.var 13) (.con (.int 1))) (.var 12)))) (.seq (.ret (.con (.bl false))) .nil) .nil)
def T15 : S := (.asn 15 (.lst .nil))
def T16 : S := (.for_ (.n 16) .rng (.cons (.con (.int 1)) (.cons (.con (.int 15)) .nil)) (.seq (.asn 17 (.lc (.tup (.cons (.ite (.cmp .lt (.var 21) (.var 16)) (.var 21) (.op .add (.op .sub (.var 16) (.con (.int 1))) (.var 12))) (.cons (.bi .min (.cons (.var 21) (.cons (.var 12) .nil))) .nil))) (.n 21) .nil .rng (.cons (.con (.int 1)) (.cons (.con (.int 30)) .nil)) [21])) (.seq (.mut .append 15 (.cons (.call 38 [false, false] (.cons (.lc (.call 31 [false, false] (.cons (.var 24) (.cons (.var 25) .nil))) (.t (.cons (.n 24) (.cons (.n 25) .nil))) .nil .seq (.cons (.var 17) .nil) [24, 25]) (.cons (.con (.int 1)) .nil))) .nil)) .nil)))
def T17 : S := (.ite (.or (.cmp .ne (.call 21 [false, false] (.cons (.var 12) (.cons (.var 13) .nil))) (.ix (.var 15) (.op .sub (.var 13) (.con (.int 1))))) (.or (.cmp .ne (.call 22 [false] (.cons (.var 12) .nil)) (.call 38 [false, false] (.cons (.var 15) (.cons (.neg (.con (.int 1))) .nil)))) (.cmp .ne (.call 22 [false] (.cons (.var 12) .nil)) (.call 34 [false, false] (.cons (.tup (.cons (.con (.int 2)) (.cons (.con (.int 1)) .nil))) (.cons (.tup (.cons (.con (.int 1)) (.cons (.var 12) .nil))) .nil)))))) (.seq (.ret (.con (.bl false))) .nil) .nil)
def T18 : S := (.asp (.t (.cons (.n 18) (.cons (.n 19) .nil))) (.call 23 [false] (.cons (.var 12) .nil)))
def T19 : S := (.ite (.or (.cmp .ne (.bi .len (.cons (.var 18) .nil)) (.var 12)) (.or (.cmp .ne (.call 37 [false] (.cons (.var 18) .nil)) (.tup (.cons (.con (.int 1)) (.cons (.con (.int 1)) .nil)))) (.cmp .ne (.lc (.var 26) (.n 26) (.call 36 [false, false] (.cons (.var 26) (.cons (.tup (.cons (.con (.int 0)) (.cons (.con (.int 1)) .nil))) .nil))) .seq (.cons (.var 18) .nil) [26]) (.lst .nil)))) (.seq (.ret (.con (.bl false))) .nil) .nil)
def T20 : S := (.asn 20 (.lst .nil))
def T21 : S := (.for_ (.n 21) .rng (.cons (.con (.int 1)) (.cons (.con (.int 20)) .nil)) (.seq (.asn 22 (.call 37 [false] (.cons (.lc (.call 33 [false, false] (.cons (.ix (.var 18) (.op .sub (.var 27) (.con (.int 1)))) (.cons (.tup (.cons (.ite (.cmp .lt (.var 21) (.var 27)) (.var 21) (.op .add (.op .sub (.var 27) (.con (.int 1))) (.var 12))) (.cons (.con (.int 1)) .nil))) .nil))) (.n 27) .nil .rng (.cons (.con (.int 1)) (.cons (.op .add (.var 12) (.con (.int 1))) .nil)) [27]) .nil))) (.seq (.mut .append 20 (.cons (.call 35 [false, false] (.cons (.var 22) (.cons (.tup (.cons (.bi .min (.cons (.var 21) (.cons (.var 12) .nil))) (.cons (.con (.int 1)) .nil))) .nil))) .nil)) .nil)))
def T22 : S := (.ite (.cmp .ne (.var 19) (.call 38 [false, false] (.cons (.var 20) (.cons (.con (.int 1)) .nil)))) (.seq (.ret (.con (.bl false))) .nil) .nil)
def T23 : S := (.asn 23 (.bi .tuple (.cons (.lc (.bi .tuple (.cons (.lc (.call 31 [false, false] (.cons (.neg (.ite (.cmp .lt (.var 21) (.var 27)) (.var 21) (.op .add (.op .sub (.var 27) (.con (.int 1))) (.var 12)))) (.cons (.bi .min (.cons (.var 21) (.cons (.var 12) .nil))) .nil))) (.n 21) .nil .rng (.cons (.con (.int 1)) (.cons (.con (.int 5)) .nil)) [21]) .nil)) (.n 27) .nil .rng (.cons (.con (.int 1)) (.cons (.con (.int 5)) .nil)) [27]) .nil)))
def T24 : S := (.ret (.or (.cmp .gt (.var 12) (.con (.int 4))) (.cmp .eq (.var 19) (.call 34 [false, false] (.cons (.tup (.cons (.con (.int 0)) (.cons (.con (.int 1)) .nil))) (.cons (.call 28 [false] (.cons (.var 23) .nil)) .nil))))))
theorem law_is : S_law = .seq T0 (.seq T1 (.seq T2 (.seq T3 (.seq T4 (.seq T5 (.seq T6 (.seq T7 (.seq T8 (.seq T9 (.seq T10 (.seq T11 (.seq T12 (.seq T13 (.seq T14 (.seq T15 (.seq T16 (.seq T17 (.seq T18 (.seq T19 (.seq T20 (.seq T21 (.seq T22 (.seq T23 (.seq T24 .nil)))))))))))))))))))))))) := rfl
def hW : W := (.tup [(.int 1), (.int 2)])
def oneW : W := (.lst [.non, (.tup [(.int 1), (.int 2)]), (.tup [(.int 5), (.int 8)]), (.tup [(.int 89), (.int 128)]), (.tup [(.int 24305), (.int 32768)]), (.tup [(.int 1664474849), (.int 2147483648)]), (.tup [(.int 7382162541380960705), (.int 9223372036854775808)])])
def twoW : W := (.lst [.non, .non, (.tup [(.int 1), (.int 1)]), (.tup [(.int 153), (.int 128)]), (.tup [(.int 169), (.int 128)]), (.tup [(.int 3026037985), (.int 2147483648)]), (.tup [(.int 51934834416241), (.int 35184372088832)])])
def lowW : W := (.tup [(.int 2659303), (.int 4194304)])
def takW : W := (.tup [(.int 10520293598607), (.int 35184372088832)])

abbrev Y := Option (W × Fl)
def sq : List S → S → S
  | [], r => r
  | s :: l, r => .seq s (sq l r)
theorem stA (s dr : W) : xs CC tk0 gg (sq [T1, T2, T3, T4] .nil) [some (s, .sh), some (dr, .own), none, none, none, none, none, none, none, none, none, none, none, none, none, none, none, none, none, none, none, none, none, none, none, none, none, none] = .nx [some (s, .sh), some (dr, .own), some (hW, .sh), some (oneW, .own), some (.int 6, .sh), some (twoW, .own), some (lowW, .sh), some (takW, .sh), none, none, none, none, none, none, none, none, none, none, none, none, none, none, none, none, none, none, none, none] := by kernel_rfl
theorem stC1 (s dr : W) : xs CC tk0 gg T6 [some (s, .sh), some (dr, .own), some (hW, .sh), some (oneW, .own), some (.int 1, .sh), some (twoW, .own), some (lowW, .sh), some (takW, .sh), none, none, none, none, none, none, none, none, none, none, none, none, none, none, none, none, none, none, none, none] = .nx [some (s, .sh), some (dr, .own), some (hW, .sh), some (oneW, .own), some (.int 1, .sh), some (twoW, .own), some (lowW, .sh), some (takW, .sh), none, none, none, none, none, none, none, none, none, none, none, none, none, none, none, none, none, none, none, none] := by kernel_rfl
theorem stC2 (s dr : W) : xs CC tk0 gg T6 [some (s, .sh), some (dr, .own), some (hW, .sh), some (oneW, .own), some (.int 2, .sh), some (twoW, .own), some (lowW, .sh), some (takW, .sh), none, none, none, none, none, none, none, none, none, none, none, none, none, none, none, none, none, none, none, none] = .nx [some (s, .sh), some (dr, .own), some (hW, .sh), some (oneW, .own), some (.int 2, .sh), some (twoW, .own), some (lowW, .sh), some (takW, .sh), none, none, none, none, none, none, none, none, none, none, none, none, none, none, none, none, none, none, none, none] := by kernel_rfl
theorem stC3 (s dr : W) : xs CC tk0 gg T6 [some (s, .sh), some (dr, .own), some (hW, .sh), some (oneW, .own), some (.int 3, .sh), some (twoW, .own), some (lowW, .sh), some (takW, .sh), none, none, none, none, none, none, none, none, none, none, none, none, none, none, none, none, none, none, none, none] = .nx [some (s, .sh), some (dr, .own), some (hW, .sh), some (oneW, .own), some (.int 3, .sh), some (twoW, .own), some (lowW, .sh), some (takW, .sh), none, none, none, none, none, none, none, none, none, none, none, none, none, none, none, none, none, none, none, none] := by kernel_rfl
theorem stC4 (s dr : W) : xs CC tk0 gg T6 [some (s, .sh), some (dr, .own), some (hW, .sh), some (oneW, .own), some (.int 4, .sh), some (twoW, .own), some (lowW, .sh), some (takW, .sh), none, none, none, none, none, none, none, none, none, none, none, none, none, none, none, none, none, none, none, none] = .nx [some (s, .sh), some (dr, .own), some (hW, .sh), some (oneW, .own), some (.int 4, .sh), some (twoW, .own), some (lowW, .sh), some (takW, .sh), none, none, none, none, none, none, none, none, none, none, none, none, none, none, none, none, none, none, none, none] := by kernel_rfl
theorem stC5 (s dr : W) : xs CC tk0 gg T6 [some (s, .sh), some (dr, .own), some (hW, .sh), some (oneW, .own), some (.int 5, .sh), some (twoW, .own), some (lowW, .sh), some (takW, .sh), none, none, none, none, none, none, none, none, none, none, none, none, none, none, none, none, none, none, none, none] = .nx [some (s, .sh), some (dr, .own), some (hW, .sh), some (oneW, .own), some (.int 5, .sh), some (twoW, .own), some (lowW, .sh), some (takW, .sh), none, none, none, none, none, none, none, none, none, none, none, none, none, none, none, none, none, none, none, none] := by kernel_rfl
theorem stC6 (s dr : W) : xs CC tk0 gg T6 [some (s, .sh), some (dr, .own), some (hW, .sh), some (oneW, .own), some (.int 6, .sh), some (twoW, .own), some (lowW, .sh), some (takW, .sh), none, none, none, none, none, none, none, none, none, none, none, none, none, none, none, none, none, none, none, none] = .nx [some (s, .sh), some (dr, .own), some (hW, .sh), some (oneW, .own), some (.int 6, .sh), some (twoW, .own), some (lowW, .sh), some (takW, .sh), none, none, none, none, none, none, none, none, none, none, none, none, none, none, none, none, none, none, none, none] := by kernel_rfl
end K37

set_option exponentiation.threshold 10000
namespace K37
open PySem PySem.Spec PyProof.Rows L2 Py
def kk (i j : Int) : W := .tup [.int i, .int j]
theorem kk_eq {i j i' j' : Int} : eqW (kk i j) (kk i' j') = true ↔ i = i' ∧ j = j' := by simp [kk, eqW, eqWs]
theorem kk_hk (i j : Int) : hkW (kk i j) = true := rfl
theorem ixd {kvs : List (W × W)} {i j : Int} {v : W} (h : lkW (kk i j) kvs = some v) : ixW (.dct kvs) (.tup [.int i, .int j]) = some (v, false) := by
  show (if hkW (kk i j) = true then (lkW (kk i j) kvs).map _ else none) = _
  rw [if_pos (kk_hk i j), h]; rfl
theorem putd {kvs : List (W × W)} {i j : Int} {v : W} (h : kvs.length < szL) : putW (.dct kvs) (.tup [.int i, .int j]) v = some (.dct (ptW (kk i j) v kvs)) := if_pos ⟨rfl, h⟩
theorem tw_ok (C : Fn) (N T : Int) (kvs : List (W × W)) (v : Qr) (h : lkW (kk N T) kvs = some (rt v)) : ofS I_told_worth.fd (xs C tk0 gg S_told_worth [some (.int N, .sh), some (.int T, .sh), some (.dct kvs, .io)]) = .ret (rt v) false [.dct kvs] := by
  have e := ixd h
  simp [S_told_worth, xs, ev, SO.thn, wOf, l1, l2, lL, ress, res, ofO, bW, trO, truth, subI, addI, isD_rt, shrs, ↓if_sz1, callW, shM, shr, ioW, ioB, ofE, asA, setN, sz2, e, retA, ofS, I_told_worth, ioE]
theorem tw_at {D : Nat} (hD : 1 ≤ D) {N T : Int} {kvs : List (W × W)} {v : Qr} (h : lkW (kk N T) kvs = some (rt v)) : rn D 16 [.int N, .int T, .dct kvs] = .ret (rt v) false [.dct kvs] := by
  obtain ⟨d, rfl⟩ : ∃ d, D = d + 1 := ⟨D - 1, by omega⟩
  rw [show rn (d + 1) 16 _ = _ from run_at (fd := I_told_worth.fd) rfl rfl]
  exact tw_ok (rn d) N T kvs v h
theorem ao_ok (C : Fn) (N T : Int) (o : Qr × Qr) (kvs : List (W × W)) (a b s t1 m t2 r : Qr)
    (h1 : C 16 [.int (N - 1), .int (T - 1), .dct kvs] = .ret (rt a) false [.dct kvs]) (h2 : C 2 [rt o.1, rt a] = .ret (rt s) false []) (h3 : C 4 [rt o.2, rt s] = .ret (rt t1) false []) (h4 : C 3 [.tup [.int 1, .int 1], rt o.2] = .ret (rt m) false [])
    (h5 : C 16 [.int (N - 1), .int T, .dct kvs] = .ret (rt b) false [.dct kvs]) (h6 : C 4 [rt m, rt b] = .ret (rt t2) false []) (h7 : C 2 [rt t1, rt t2] = .ret (rt r) false []) :
    ofS I_after_offer.fd (xs C tk0 gg S_after_offer [some (.tup [rt o.1, rt o.2], .sh), some (.int N, .sh), some (.int T, .sh), some (.dct kvs, .io), none, none, none]) = .ret (rt r) false [.dct kvs] := by
  simp [S_after_offer, xs, ev, SO.thn, wOf, l1, l2, lL, ress, res, ofO, bW, trO, truth, subI, addI, isD_rt, shrs, ↓if_sz1, callW, shM, shr, ioW, ioB, ofE, asA, setN, asP, h1, h2, h3, h4, h5, h6, h7, retA, ofS, I_after_offer, ioE]
theorem ao_at {ps : List (Qr × Qr)} (h : Of ps) {n t D : Nat} (hn : n ≤ 3) (hD : 4 ≤ D) {o : Qr × Qr} (ho : o ∈ ps) {kvs : List (W × W)} (h1 : lkW (kk n t) kvs = some (rt (PV ps n t))) (h2 : lkW (kk n ((t + 1 : Nat) : Int)) kvs = some (rt (PV ps n (t + 1)))) :
    rn D 15 [oW o, .int ((n + 1 : Nat) : Int), .int ((t + 1 : Nat) : Int), .dct kvs] = .ret (rt (ofv (PV ps n t) (PV ps n (t + 1)) o)) false [.dct kvs] := by
  obtain ⟨d, rfl⟩ : ∃ d, D = d + 1 := ⟨D - 1, by omega⟩
  have hb := BB_le (n := n) (by omega)
  have hoo := h.2 o ho
  have a1 := PV_bd h n t
  have a2 := PV_bd h n (t + 1)
  obtain ⟨b1, b2, b3, b4, b5⟩ := ofv_bd a1 a2 hoo.1 hoo.2
  rw [show rn (d + 1) 15 _ = _ from run_at (fd := I_after_offer.fd) rfl rfl]
  refine ao_ok (rn d) _ _ o kvs _ _ _ _ _ _ _ ?_ (pl_at lgg rd2 (by omega) (hoo.1.g (by decide)) (a1.g (by omega))) (tm_at lgg rd1 rfl (by omega) (hoo.2.g (by decide)) (b1.g (by omega))) (mi_at lgg rd1 rfl (p := (1, 1)) (by omega) (one_bd.g (by decide)) (hoo.2.g (by decide))) ?_ (tm_at lgg rd1 rfl (by omega) (b3.g (by decide)) (a2.g (by omega))) (pl_at lgg rd2 (by omega) (b2.g (by omega)) (b4.g (by omega)))
  · rw [show ((n + 1 : Nat) : Int) - 1 = n by omega, show ((t + 1 : Nat) : Int) - 1 = t by omega]
    exact tw_at (by omega) h1
  · rw [show ((n + 1 : Nat) : Int) - 1 = n by omega]
    exact tw_at (by omega) h2
/-! the table -/
def I1 : S := (.asn 6 (.ite (.cmp .gt (.var 4) (.con (.int 0))) (.lst (.cons (.ix (.var 3) (.tup (.cons (.op .sub (.var 4) (.con (.int 1))) (.cons (.var 5) .nil)))) .nil)) (.lst (.cons (.con (.tup [(.int 0), (.int 1)])) .nil))))
def I2 (e : E) : S := (.ite (.and (.cmp .gt (.var 4) (.con (.int 0))) (.cmp .gt (.var 5) (.con (.int 0)))) (.seq (.mut .extend 6 (.cons e .nil)) .nil) .nil)
def I3 : S := (.six 3 (.tup (.cons (.var 4) (.cons (.var 5) .nil))) (.call 7 [false] (.cons (.var 6) .nil)))
def IB (e : E) : S := .seq I1 (.seq (I2 e) (.seq I3 .nil))
def LC17 : E := (.lc (.call 15 [false, false, false, true] (.cons (.var 7) (.cons (.var 4) (.cons (.var 5) (.cons (.var 3) .nil))))) (.n 7) .nil .seq (.cons (.var 0) .nil) [7])
def OB : S := .seq (.for_ (.n 5) .rng (.cons (.op .add (.var 2) (.con (.int 1))) .nil) (IB LC17)) .nil
theorem pt_is : S_price_table = .seq (.asn 3 (.dsp .nil)) (.seq (.for_ (.n 4) .rng (.cons (.op .add (.var 1) (.con (.int 1))) .nil) OB) (.seq (.ret (.var 3)) .nil)) := rfl
def Yp (y : Y) : Prop := y = none ∨ ∃ w, y = some (w, .sh)
theorem if_len {α : Type} (a b : α) (x : W) (l : List W) (h : l.length ≤ 1000) : (if [x].length + l.length ≤ szL then a else b) = a := if_pos (by
  rw [List.length_singleton]
  have : szL = 16777216 := rfl
  omega)
theorem ib_0 (C : Fn) (e : E) (ow : W) (N T L : Int) (kvs : List (W × W)) (y6 : Y) (hy : Yp y6) (hz : kvs.length < szL) (h1 : C 7 [.lst [rt (0, 1)]] = .ret (rt (0, 1)) false []) :
    xs C tk0 gg (IB e) [some (ow, .sh), some (.int N, .sh), some (.int T, .sh), some (.dct kvs, .own), some (.int 0, .sh), some (.int L, .sh), y6, none] = .nx [some (ow, .sh), some (.int N, .sh), some (.int T, .sh), some (.dct (ptW (kk 0 L) (rt (0, 1)) kvs), .own), some (.int 0, .sh), some (.int L, .sh), some (.lst [rt (0, 1)], .sh), none] := by
  have e1 : cmpW .gt (.int 0) (.int 0) = some false := rfl
  have e2 := putd (i := 0) (j := L) (v := rt (0, 1)) hz
  have h1 : C 7 [.lst [.tup [.int 0, .int 1]]] = .ret (rt (0, 1)) false [] := h1
  have e3 : rt (0, 1) = .tup [.int 0, .int 1] := rfl
  rcases hy with rfl | ⟨w, rfl⟩ <;> simp [IB, I1, I2, I3, xs, ev, SO.thn, wOf, l1, l2, lL, ress, res, ofO, bW, trO, truth, subI, addI, isD_rt, shrs, ↓if_sz1, callW, shM, shr, ioW, ioB, ofE, asA, setN, e1, e2, h1, e3, sz2, sixE]
  all_goals (simp [← e3, e2])
theorem ib_1 (C : Fn) (e : E) (ow : W) (N T K : Int) (hK : 0 < K) (kvs : List (W × W)) (p r : Qr) (y6 : Y) (hy : Yp y6) (hz : kvs.length < szL) (h0 : lkW (kk (K - 1) 0) kvs = some (rt p)) (h1 : C 7 [.lst [rt p]] = .ret (rt r) false []) :
    xs C tk0 gg (IB e) [some (ow, .sh), some (.int N, .sh), some (.int T, .sh), some (.dct kvs, .own), some (.int K, .sh), some (.int 0, .sh), y6, none] = .nx [some (ow, .sh), some (.int N, .sh), some (.int T, .sh), some (.dct (ptW (kk K 0) (rt r) kvs), .own), some (.int K, .sh), some (.int 0, .sh), some (.lst [rt p], .sh), none] := by
  have e0 : cmpW .gt (.int K) (.int 0) = some true := by show some (decide (0 < K)) = _; rw [decide_eq_true hK]
  have e1 : cmpW .gt (.int 0) (.int 0) = some false := rfl
  have e2 := putd (i := K) (j := 0) (v := rt r) hz
  have e3 := ixd h0
  rcases hy with rfl | ⟨w, rfl⟩ <;> simp [IB, I1, I2, I3, xs, ev, SO.thn, wOf, l1, l2, lL, ress, res, ofO, bW, trO, truth, subI, addI, isD_rt, shrs, ↓if_sz1, callW, shM, shr, ioW, ioB, ofE, asA, setN, e0, e1, e2, h1, e3, sz2, sixE]
theorem ib_2 (C : Fn) (e : E) (ow : W) (N T K L : Int) (hK : 0 < K) (hL : 0 < L) (kvs : List (W × W)) (p r : Qr) (outs : List W) (y6 : Y) (hy : Yp y6) (hz : kvs.length < szL) (ho : outs.length ≤ 1000) (h0 : lkW (kk (K - 1) L) kvs = some (rt p))
    (he : (ev C e).x [some (ow, .sh), some (.int N, .sh), some (.int T, .sh), some (.dct kvs, .own), some (.int K, .sh), some (.int L, .sh), some (.lst [rt p], .own), none] = .ok (.val (.lst outs) true) [some (ow, .sh), some (.int N, .sh), some (.int T, .sh), some (.dct kvs, .own), some (.int K, .sh), some (.int L, .sh), some (.lst [rt p], .own), none])
    (h1 : C 7 [.lst (rt p :: outs)] = .ret (rt r) false []) :
    xs C tk0 gg (IB e) [some (ow, .sh), some (.int N, .sh), some (.int T, .sh), some (.dct kvs, .own), some (.int K, .sh), some (.int L, .sh), y6, none] = .nx [some (ow, .sh), some (.int N, .sh), some (.int T, .sh), some (.dct (ptW (kk K L) (rt r) kvs), .own), some (.int K, .sh), some (.int L, .sh), some (.lst (rt p :: outs), .sh), none] := by
  have e0 : cmpW .gt (.int K) (.int 0) = some true := by show some (decide (0 < K)) = _; rw [decide_eq_true hK]
  have e1 : cmpW .gt (.int L) (.int 0) = some true := by show some (decide (0 < L)) = _; rw [decide_eq_true hL]
  have e2 := putd (i := K) (j := L) (v := rt r) hz
  have e3 := ixd h0
  have e4 : mutW .extend (.lst [rt p]) [.lst outs] = some (.lst (rt p :: outs)) := (if_len _ _ _ _ ho).trans rfl
  rcases hy with rfl | ⟨w, rfl⟩ <;> simp [IB, I1, I2, I3, xs, ev, SO.thn, wOf, l1, l2, lL, ress, res, ofO, bW, trO, truth, subI, addI, isD_rt, shrs, ↓if_sz1, callW, shM, shr, ioW, ioB, ofE, asA, setN, e0, e1, e2, e4, h1, e3, he, mutOk, mutE, sz2, sixE]
/-- the table while it grows -/
structure DI (ps : List (Qr × Qr)) (t K L : Nat) (kvs : List (W × W)) : Prop where
  ks : ∀ p ∈ kvs, ∃ i j : Int, p.1 = kk i j
  ln : kvs.length ≤ K * 10 + L
  get : ∀ k l : Nat, l ≤ t → (k < K ∨ (k = K ∧ l < L)) → lkW (kk k l) kvs = some (rt (PV ps k l))
theorem DI.put {ps : List (Qr × Qr)} {t K L : Nat} {kvs : List (W × W)} (h : DI ps t K L kvs) : DI ps t K (L + 1) (ptW (kk K L) (rt (PV ps K L)) kvs) := by
  refine ⟨fun p hp => ?_, by have := ptw_len (kk K L) (rt (PV ps K L)) kvs; have := h.ln; omega, fun k l hl hk => ?_⟩
  · rcases pt_key hp with e | ⟨q, hq, e⟩
    · exact ⟨_, _, e⟩
    · rw [← e]; exact h.ks q hq
  · by_cases e : k = K ∧ l = L
    · obtain ⟨rfl, rfl⟩ := e
      exact pt_lk (kk_eq.mpr ⟨rfl, rfl⟩) kvs
    · rw [pt_ne]
      · refine h.get k l hl ?_
        rcases hk with hk | ⟨rfl, hk⟩
        · exact .inl hk
        · exact .inr ⟨rfl, by omega⟩
      · cases q : eqW (kk K L) (kk k l) with
        | false => rfl
        | true =>
          obtain ⟨a, b⟩ := kk_eq.mp q
          exact absurd ⟨by omega, by omega⟩ e
      · rintro p hp ⟨h1, h2⟩
        obtain ⟨i, j, ep⟩ := h.ks p hp
        rw [ep, kk_eq] at h1 h2
        exact e ⟨by omega, by omega⟩
theorem DI.row {ps : List (Qr × Qr)} {t K : Nat} {kvs : List (W × W)} (h : DI ps t K (t + 1) kvs) (ht : t ≤ 9) : DI ps t (K + 1) 0 kvs :=
  ⟨h.ks, by have := h.ln; omega, fun k l hl hk => h.get k l hl (by rcases hk with hk | ⟨_, hk⟩ <;> omega)⟩
abbrev Et (ps : List (Qr × Qr)) (n t : Nat) (kvs : List (W × W)) (y4 y5 y6 : Y) : Py.Env := [some (.tup (ps.map oW), .sh), some (.int (n : Int), .sh), some (.int (t : Int), .sh), some (.dct kvs, .own), y4, y5, y6, none]
theorem lc17_ok {ps : List (Qr × Qr)} (h : Of ps) {n K L t d : Nat} (hK : K ≤ 3) (hd : 4 ≤ d) {kvs : List (W × W)} {y6 : Y} (h1 : lkW (kk K L) kvs = some (rt (PV ps K L))) (h2 : lkW (kk K ((L + 1 : Nat) : Int)) kvs = some (rt (PV ps K (L + 1)))) :
    (ev (rn d) LC17).x (Et ps n t kvs (some (.int ((K + 1 : Nat) : Int), .sh)) (some (.int ((L + 1 : Nat) : Int), .sh)) y6) = .ok (.val (.lst ((ps.map (ofv (PV ps K L) (PV ps K (L + 1)))).map rt)) true) (Et ps n t kvs (some (.int ((K + 1 : Nat) : Int), .sh)) (some (.int ((L + 1 : Nat) : Int), .sh)) y6) := by
  obtain ⟨ρ', e, x, rfl⟩ := lcL_at (I := fun ρ => ∃ x, ρ = [some (.tup (ps.map oW), .sh), some (.int (n : Int), .sh), some (.int (t : Int), .sh), some (.dct kvs, .own), some (.int ((K + 1 : Nat) : Int), .sh), some (.int ((L + 1 : Nat) : Int), .sh), y6, x]) (its := ps.map oW) (outs := (ps.map (ofv (PV ps K L) (PV ps K (L + 1)))).map rt) (acc := []) (step := stepE [7] (.n 7) (ev (rn d) .nil).t (ev (rn d) (.call 15 [false, false, false, true] (.cons (.var 7) (.cons (.var 4) (.cons (.var 5) (.cons (.var 3) .nil)))))).x)
    (ρ := Et ps n t kvs (some (.int ((K + 1 : Nat) : Int), .sh)) (some (.int ((L + 1 : Nat) : Int), .sh)) y6) (by simp) (fun i w y e1 e2 ρ ⟨x, hρ⟩ => by
      rw [List.getElem?_map] at e1
      rw [List.getElem?_map, List.getElem?_map] at e2
      cases ek : ps[i]? with
      | none => rw [ek] at e1; cases e1
      | some o =>
        rw [ek] at e1 e2
        obtain rfl : oW o = w := by simpa using e1
        obtain rfl : rt (ofv (PV ps K L) (PV ps K (L + 1)) o) = y := by simpa using e2
        have c := ao_at h hK hd (List.mem_of_getElem? ek) h1 h2
        subst hρ
        generalize ((K + 1 : Nat) : Int) = K1 at c ⊢
        generalize ((L + 1 : Nat) : Int) = L1 at c ⊢
        refine ⟨_, step_ok (ρ1 := [some (.tup (ps.map oW), .sh), some (.int (n : Int), .sh), some (.int (t : Int), .sh), some (.dct kvs, .own), some (.int K1, .sh), some (.int L1, .sh), y6, some (oW o, .sh)]) rfl ?_, some (oW o, .sh), rfl⟩
        have di : isD (oW o) = false := rfl
        simp [stepV, ev, wOf, callW, shM, ioW, ioB, shr, c, di, isD_rt]) ⟨none, rfl⟩
  have hb : (ress (Et ps n t kvs (some (.int ((K + 1 : Nat) : Int), .sh)) (some (.int ((L + 1 : Nat) : Int), .sh)) y6) [.slot 0]).bind (itW .seq) = some (ps.map oW) := rfl
  unfold LC17
  exact (lc_ok (us := [.slot 0]) rfl hb (by rw [List.length_map]; have := h.1.1; have : szL = 16777216 := rfl; omega) e).trans rfl
theorem gr_at {D : Nat} (hD : 2 ≤ D) {l : List Qr} (h0 : l ≠ []) (hl : ∀ p ∈ l, gM p = true) : rn D 7 [.lst (l.map rt)] = .ret (rt (grR l)) false [] := grR_at rfl rfl hD (gMs_of hl) h0
theorem ib_at {ps : List (Qr × Qr)} (h : Of ps) {n t K L d : Nat} (hn : K ≤ 4) (ht : t ≤ 9) (hL : L ≤ t) (hd : 4 ≤ d) {kvs : List (W × W)} {y6 : Y} (hy : Yp y6) (D : DI ps t K L kvs) :
    ∃ y6', Yp y6' ∧ xs (rn d) tk0 gg (IB LC17) (Et ps n t kvs (some (.int (K : Int), .sh)) (some (.int (L : Int), .sh)) y6) = .nx (Et ps n t (ptW (kk K L) (rt (PV ps K L)) kvs) (some (.int (K : Int), .sh)) (some (.int (L : Int), .sh)) y6') := by
  have hz : kvs.length < szL := by have := D.ln; have : szL = 16777216 := rfl; omega
  cases K with
  | zero =>
    have r := ib_0 (rn d) LC17 (.tup (ps.map oW)) n t L kvs y6 hy hz (gr_at (by omega) (l := [(0, 1)]) (by simp) (by intro p hp; simp at hp; subst hp; decide +kernel))
    exact ⟨_, .inr ⟨_, rfl⟩, r⟩
  | succ K =>
    have eK : ((K + 1 : Nat) : Int) - 1 = K := by omega
    have hb := BB_le (n := K + 1) (by omega)
    cases L with
    | zero =>
      have a := D.get K 0 (by omega) (.inl (by omega))
      have r := ib_1 (rn d) LC17 (.tup (ps.map oW)) n t ((K + 1 : Nat) : Int) (by omega) kvs (PV ps K 0) (0, 1) y6 hy hz (by rw [eK]; exact a) (by
        have z := gr_at (D := d) (by omega) (l := [(0, 1)]) (by simp) (by intro p hp; simp at hp; subst hp; decide +kernel)
        rw [PV_0]
        exact z)
      exact ⟨_, .inr ⟨_, rfl⟩, r⟩
    | succ L =>
      have a := D.get K L (by omega) (.inl (by omega))
      have b := D.get K (L + 1) (by omega) (.inl (by omega))
      have row := row_bd h K L
      have r := ib_2 (rn d) LC17 (.tup (ps.map oW)) n t ((K + 1 : Nat) : Int) ((L + 1 : Nat) : Int) (by omega) (by omega) kvs (PV ps K (L + 1)) (PV ps (K + 1) (L + 1)) _ y6 hy hz (by rw [List.length_map, List.length_map]; have := h.1.1; omega) (by rw [eK]; exact b) (lc17_ok h (by omega) hd a b)
        (gr_at (by omega) (l := PV ps K (L + 1) :: ps.map (ofv (PV ps K L) (PV ps K (L + 1)))) (by simp) fun p hp => (row p hp).m (by omega))
      exact ⟨_, .inr ⟨_, rfl⟩, r⟩
theorem asP5 {ps : List (Qr × Qr)} {n t : Nat} {kvs : List (W × W)} {y4 y5 y6 : Y} (hy : Yp y5) (w : W) : asP (.n 5) w (Et ps n t kvs y4 y5 y6) = some (Et ps n t kvs y4 (some (w, .sh)) y6) := by
  rcases hy with rfl | ⟨u, rfl⟩ <;> rfl
theorem asP4 {ps : List (Qr × Qr)} {n t : Nat} {kvs : List (W × W)} {y4 y5 y6 : Y} (hy : Yp y4) (w : W) : asP (.n 4) w (Et ps n t kvs y4 y5 y6) = some (Et ps n t kvs (some (w, .sh)) y5 y6) := by
  rcases hy with rfl | ⟨u, rfl⟩ <;> rfl
theorem ob_at {ps : List (Qr × Qr)} (h : Of ps) {n t K d : Nat} (hn : K ≤ 4) (ht : t ≤ 9) (hd : 4 ≤ d) {kvs : List (W × W)} {y5 y6 : Y} (h5 : Yp y5) (h6 : Yp y6) (D : DI ps t K 0 kvs) :
    ∃ kvs' y5' y6', Yp y5' ∧ Yp y6' ∧ DI ps t (K + 1) 0 kvs' ∧ xs (rn d) tk0 gg OB (Et ps n t kvs (some (.int (K : Int), .sh)) y5 y6) = .nx (Et ps n t kvs' (some (.int (K : Int), .sh)) y5' y6') := by
  obtain ⟨ρ', e, kvs', y5', y6', q5, q6, rfl, D'⟩ := forL_rng (I := fun i ρ => ∃ kvs y5 y6, Yp y5 ∧ Yp y6 ∧ ρ = Et ps n t kvs (some (.int (K : Int), .sh)) y5 y6 ∧ DI ps t K i.toNat kvs) (step := stF (rn d) tk0 gg (.n 5) (IB LC17)) (t + 1) (a := 0) (ρ := Et ps n t kvs (some (.int (K : Int), .sh)) y5 y6)
    (fun i ρ h1 h2 ⟨kvs, y5, y6, q5, q6, hρ, Di⟩ => by
      subst hρ
      obtain ⟨L, rfl⟩ : ∃ L : Nat, i = L := ⟨i.toNat, by omega⟩
      obtain ⟨y6', q6', e⟩ := ib_at h (n := n) hn ht (L := L) (by omega) hd q6 (by simpa using Di)
      refine ⟨_, ?_, _, some (.int (L : Int), .sh), _, .inr ⟨.int (L : Int), rfl⟩, q6', rfl, by
        have := DI.put (by simpa using Di : DI ps t K L kvs)
        rw [show ((L : Int) + 1).toNat = L + 1 by omega]
        exact this⟩
      rw [stF_ok (asP5 q5 _)]
      exact e) ⟨kvs, y5, y6, h5, h6, rfl, D⟩
  refine ⟨kvs', y5', y6', q5, q6, DI.row (by simpa using D') ht, ?_⟩
  have ha : (ev (rn d) (.cons (.op .add (.var 2) (.con (.int 1))) .nil)).a (Et ps n t kvs (some (.int (K : Int), .sh)) y5 y6) = .ok [.val (.int ((t : Int) + 1)) false] (Et ps n t kvs (some (.int (K : Int), .sh)) y5 y6) := rfl
  have hb : (ress (Et ps n t kvs (some (.int (K : Int), .sh)) y5 y6) [.val (.int ((t : Int) + 1)) false]).bind (itW .rng) = some (rngL (t + 1) 0) := by
    rw [show ress (Et ps n t kvs (some (.int (K : Int), .sh)) y5 y6) [.val (.int ((t : Int) + 1)) false] = some [.int ((t : Int) + 1)] from rfl, Option.bind_some]
    exact rng_nat (k := t + 1) (by omega)
  unfold OB
  show SO.thn (xs (rn d) tk0 gg (.for_ (.n 5) .rng (.cons (.op .add (.var 2) (.con (.int 1))) .nil) (IB LC17)) (Et ps n t kvs (some (.int (K : Int), .sh)) y5 y6)) (fun ρ => .nx ρ) = _
  rw [for_ok ha hb, show lkE (Et ps n t kvs (some (.int (K : Int), .sh)) y5 y6) [.val (.int ((t : Int) + 1)) false] = Et ps n t kvs (some (.int (K : Int), .sh)) y5 y6 from rfl, e]
  rfl
theorem pt_at {ps : List (Qr × Qr)} (h : Of ps) {n t D : Nat} (hn : n ≤ 4) (ht : t ≤ 9) (hD : 5 ≤ D) : ∃ kvs, (∀ k l : Nat, k ≤ n → l ≤ t → lkW (kk k l) kvs = some (rt (PV ps k l))) ∧ rn D 17 [.tup (ps.map oW), .int (n : Int), .int (t : Int)] = .ret (.dct kvs) true [] := by
  obtain ⟨d, rfl⟩ : ∃ d, D = d + 1 := ⟨D - 1, by omega⟩
  obtain ⟨ρ', e, kvs', y4', y5', y6', q4, q5, q6, rfl, D'⟩ := forL_rng (I := fun i ρ => ∃ kvs y4 y5 y6, Yp y4 ∧ Yp y5 ∧ Yp y6 ∧ ρ = Et ps n t kvs y4 y5 y6 ∧ DI ps t i.toNat 0 kvs) (step := stF (rn d) tk0 gg (.n 4) OB) (n + 1) (a := 0) (ρ := Et ps n t [] none none none)
    (fun i ρ h1 h2 ⟨kvs, y4, y5, y6, q4, q5, q6, hρ, Di⟩ => by
      subst hρ
      obtain ⟨K, rfl⟩ : ∃ K : Nat, i = K := ⟨i.toNat, by omega⟩
      obtain ⟨kvs', y5', y6', r5, r6, D', e⟩ := ob_at h (n := n) (K := K) (by omega) ht (d := d) (by omega) q5 q6 (by simpa using Di)
      refine ⟨_, ?_, kvs', some (.int (K : Int), .sh), y5', y6', .inr ⟨.int (K : Int), rfl⟩, r5, r6, rfl, by rw [show ((K : Int) + 1).toNat = K + 1 by omega]; exact D'⟩
      rw [stF_ok (asP4 q4 _)]
      exact e) ⟨[], none, none, none, .inl rfl, .inl rfl, .inl rfl, rfl, ⟨fun p hp => (nomatch hp), Nat.zero_le _, fun k l _ hk => by simp at hk⟩⟩
  refine ⟨kvs', fun k l hk hl => D'.get k l hl (.inl (by simp; omega)), ?_⟩
  rw [show rn (d + 1) 17 _ = _ from run_at (fd := I_price_table.fd) rfl rfl]
  show ofS I_price_table.fd (xs (rn d) tk0 gg S_price_table [some (.tup (ps.map oW), .sh), some (.int (n : Int), .sh), some (.int (t : Int), .sh), none, none, none, none, none]) = _
  have ha : (ev (rn d) (.cons (.op .add (.var 1) (.con (.int 1))) .nil)).a (Et ps n t [] none none none) = .ok [.val (.int ((n : Int) + 1)) false] (Et ps n t [] none none none) := rfl
  have hb : (ress (Et ps n t [] none none none) [.val (.int ((n : Int) + 1)) false]).bind (itW .rng) = some (rngL (n + 1) 0) := by
    rw [show ress (Et ps n t [] none none none) [.val (.int ((n : Int) + 1)) false] = some [.int ((n : Int) + 1)] from rfl, Option.bind_some]
    exact rng_nat (k := n + 1) (by omega)
  rw [pt_is]
  have s0 : xs (rn d) tk0 gg (.asn 3 (.dsp .nil)) [some (.tup (ps.map oW), .sh), some (.int (n : Int), .sh), some (.int (t : Int), .sh), none, none, none, none, none] = .nx (Et ps n t [] none none none) := rfl
  have s1 : xs (rn d) tk0 gg (.for_ (.n 4) .rng (.cons (.op .add (.var 1) (.con (.int 1))) .nil) OB) (Et ps n t [] none none none) = .nx (Et ps n t kvs' y4' y5' y6') := by
    rw [for_ok ha hb, show lkE (Et ps n t [] none none none) [.val (.int ((n : Int) + 1)) false] = Et ps n t [] none none none from rfl, e]
    rfl
  rw [seq_nx s0, seq_nx s1]
  rfl
theorem pw_ok (C : Fn) (ow : W) (N T : Int) (how : isD ow = false) (kvs : List (W × W)) (v : Qr) (h : C 17 [ow, .int N, .int T] = .ret (.dct kvs) true []) (h1 : lkW (kk N T) kvs = some (rt v)) :
    ofS I_price_worth.fd (xs C tk0 gg S_price_worth [some (ow, .sh), some (.int N, .sh), some (.int T, .sh)]) = .ret (rt v) false [] := by
  have e := ixd h1
  simp [S_price_worth, xs, ev, SO.thn, wOf, l1, l2, lL, ress, res, ofO, bW, trO, truth, subI, addI, isD_rt, shrs, ↓if_sz1, callW, shM, shr, ioW, ioB, ofE, asA, setN, how, h, e, sz2, retA, ofS, I_price_worth, ioE]
theorem pw_at {ps : List (Qr × Qr)} (h : Of ps) {n t D : Nat} (hn : n ≤ 4) (ht : t ≤ 9) (hD : 6 ≤ D) : rn D 18 [.tup (ps.map oW), .int (n : Int), .int (t : Int)] = .ret (rt (PV ps n t)) false [] := by
  obtain ⟨d, rfl⟩ : ∃ d, D = d + 1 := ⟨D - 1, by omega⟩
  obtain ⟨kvs, hk, e⟩ := pt_at h hn ht (D := d) (by omega)
  rw [show rn (d + 1) 18 _ = _ from run_at (fd := I_price_worth.fd) rfl rfl]
  exact pw_ok (rn d) _ _ _ rfl kvs _ e (hk n t (Nat.le_refl _) (Nat.le_refl _))
end K37

set_option exponentiation.threshold 10000
namespace K37
open PySem PySem.Spec PyProof.Rows L2 Py
theorem if_sz2 {α : Type} (a b : α) (w u : W) : (if [w, u].length ≤ szL then a else b) = a := if_pos sz2
/-! ### price_next -/
def LC19 : E := (.lc (.call 15 [false, false, false, true] (.cons (.var 4) (.cons (.var 1) (.cons (.var 2) (.cons (.var 3) .nil))))) (.n 4) .nil .seq (.cons (.var 0) .nil) [4])
def P19 (e : E) : S := (.ret (.mth .index e (.cons (.ix (.var 3) (.tup (.cons (.var 1) (.cons (.var 2) .nil)))) .nil)))
def Q19 : S := (.ite (.or (.cmp .eq (.var 1) (.con (.int 0))) (.or (.cmp .eq (.var 2) (.con (.int 0))) (.not (.call 6 [false, false] (.cons (.ix (.var 3) (.tup (.cons (.op .sub (.var 1) (.con (.int 1))) (.cons (.var 2) .nil)))) (.cons (.ix (.var 3) (.tup (.cons (.var 1) (.cons (.var 2) .nil)))) .nil)))))) (.seq (.ret (.con .non)) .nil) .nil)
def R19 : S := (.asn 3 (.call 17 [false, false, false] (.cons (.var 0) (.cons (.var 1) (.cons (.var 2) .nil)))))
theorem pn_is : S_price_next = .seq R19 (.seq Q19 (.seq (P19 LC19) .nil)) := rfl
theorem r19 (C : Fn) (ow : W) (N T : Int) (how : isD ow = false) (kvs : List (W × W)) (h : C 17 [ow, .int N, .int T] = .ret (.dct kvs) true []) : xs C tk0 gg R19 [some (ow, .sh), some (.int N, .sh), some (.int T, .sh), none, none] = .nx [some (ow, .sh), some (.int N, .sh), some (.int T, .sh), some (.dct kvs, .own), none] := by
  simp [R19, xs, ev, SO.thn, wOf, l1, l2, lL, ress, res, ofO, bW, trO, truth, subI, addI, isD_rt, shrs, ↓if_sz1, ↓if_sz2, callW, shM, shr, ioW, ioB, ofE, asA, setN, how, h]
theorem q19_n (C : Fn) (ow : W) (T : Int) (kvs : List (W × W)) : xs C tk0 gg Q19 [some (ow, .sh), some (.int 0, .sh), some (.int T, .sh), some (.dct kvs, .own), none] = .rt .non false [some (ow, .sh), some (.int 0, .sh), some (.int T, .sh), some (.dct kvs, .own), none] := by
  have e1 : cmpW .eq (.int 0) (.int 0) = some true := rfl
  simp [Q19, xs, ev, SO.thn, wOf, l1, l2, lL, ress, res, ofO, bW, trO, truth, subI, addI, isD_rt, shrs, ↓if_sz1, ↓if_sz2, callW, shM, shr, ioW, ioB, ofE, asA, setN, e1, retA]
theorem q19_t (C : Fn) (ow : W) (N : Int) (hN : N ≠ 0) (kvs : List (W × W)) : xs C tk0 gg Q19 [some (ow, .sh), some (.int N, .sh), some (.int 0, .sh), some (.dct kvs, .own), none] = .rt .non false [some (ow, .sh), some (.int N, .sh), some (.int 0, .sh), some (.dct kvs, .own), none] := by
  have e0 : cmpW .eq (.int N) (.int 0) = some false := by rw [eqI, decide_eq_false hN]
  have e1 : cmpW .eq (.int 0) (.int 0) = some true := rfl
  simp [Q19, xs, ev, SO.thn, wOf, l1, l2, lL, ress, res, ofO, bW, trO, truth, subI, addI, isD_rt, shrs, ↓if_sz1, ↓if_sz2, callW, shM, shr, ioW, ioB, ofE, asA, setN, e0, e1, retA]
theorem q19_f (C : Fn) (ow : W) (N T : Int) (hN : N ≠ 0) (hT : T ≠ 0) (kvs : List (W × W)) (a b : Qr) (k : Bool) (h1 : lkW (kk (N - 1) T) kvs = some (rt a)) (h2 : lkW (kk N T) kvs = some (rt b)) (h3 : C 6 [rt a, rt b] = .ret (.bl k) false []) :
    xs C tk0 gg Q19 [some (ow, .sh), some (.int N, .sh), some (.int T, .sh), some (.dct kvs, .own), none] = (if k then .nx [some (ow, .sh), some (.int N, .sh), some (.int T, .sh), some (.dct kvs, .own), none] else .rt .non false [some (ow, .sh), some (.int N, .sh), some (.int T, .sh), some (.dct kvs, .own), none]) := by
  have e0 : cmpW .eq (.int N) (.int 0) = some false := by rw [eqI, decide_eq_false hN]
  have e1 : cmpW .eq (.int T) (.int 0) = some false := by rw [eqI, decide_eq_false hT]
  have i1 := ixd h1
  have i2 := ixd h2
  cases k <;> simp [Q19, xs, ev, SO.thn, wOf, l1, l2, lL, ress, res, ofO, bW, trO, truth, subI, addI, isD_rt, shrs, ↓if_sz1, ↓if_sz2, callW, shM, shr, ioW, ioB, ofE, asA, setN, e0, e1, i1, i2, h3, retA]
theorem p19 (C : Fn) (e : E) (ow : W) (N T : Int) (kvs : List (W × W)) (b : Qr) (outs : List W) (i : Nat) (h2 : lkW (kk N T) kvs = some (rt b))
    (he : (ev C e).x [some (ow, .sh), some (.int N, .sh), some (.int T, .sh), some (.dct kvs, .own), none] = .ok (.val (.lst outs) true) [some (ow, .sh), some (.int N, .sh), some (.int T, .sh), some (.dct kvs, .own), none]) (hm : mthW .index (.lst outs) [rt b] = some (.int (i : Int), false)) :
    xs C tk0 gg (P19 e) [some (ow, .sh), some (.int N, .sh), some (.int T, .sh), some (.dct kvs, .own), none] = .rt (.int (i : Int)) false [some (ow, .sh), some (.int N, .sh), some (.int T, .sh), some (.dct kvs, .own), none] := by
  have i2 := ixd h2
  have mt : ∀ l, mTy .index (.lst l) = some () := fun _ => rfl
  simp [P19, xs, ev, SO.thn, wOf, l1, l2, lL, ress, res, ofO, bW, trO, truth, subI, addI, isD_rt, shrs, ↓if_sz1, ↓if_sz2, callW, shM, shr, ioW, ioB, ofE, asA, setN, i2, he, mt, hm, retA]
theorem mth_at (l : List Qr) (b : Qr) {i : Nat} (h : idxW (rt b) (l.map rt) = some i) : mthW .index (.lst (l.map rt)) [rt b] = some (.int (i : Int), false) := by
  show (if dep (rt b) ≤ 64 ∧ deps (l.map rt) ≤ 60 then (idxW (rt b) (l.map rt)).map _ else none) = _
  rw [if_pos ⟨by have : dep (rt b) = 1 := rfl
                 omega, by have := deps_rt l; omega⟩, h]
  rfl
theorem bsF_mem (cond : Qr → Qr → Bool) : ∀ (l : List Qr) (a : Qr), bsF cond a l = a ∨ bsF cond a l ∈ l
  | [], a => .inl rfl
  | p :: l, a => by
    rcases bsF_mem cond l (if cond a p then p else a) with h | h
    · by_cases c : cond a p = true
      · rw [if_pos c] at h
        exact .inr (by show bsF cond (if cond a p then p else a) l ∈ _; rw [if_pos c, h]; exact List.mem_cons_self)
      · rw [if_neg c] at h
        exact .inl (by show bsF cond (if cond a p then p else a) l = a; rw [if_neg c, h])
    · exact .inr (List.mem_cons_of_mem _ h)
/-- the place of the worth among the offers -/
theorem place {ps : List (Qr × Qr)} {n t : Nat} (h : rls (PV ps n (t + 1)) (PV ps (n + 1) (t + 1)) = true) : ∃ i, idxW (rt (PV ps (n + 1) (t + 1))) ((ps.map (ofv (PV ps n t) (PV ps n (t + 1)))).map rt) = some i := by
  refine idx_some ⟨rt (PV ps (n + 1) (t + 1)), List.mem_map_of_mem ?_, eq_rt _⟩
  have e : PV ps (n + 1) (t + 1) = bsF rls (PV ps n (t + 1)) (PV ps n (t + 1) :: ps.map (ofv (PV ps n t) (PV ps n (t + 1)))) := rfl
  rcases bsF_mem rls (PV ps n (t + 1) :: ps.map (ofv (PV ps n t) (PV ps n (t + 1)))) (PV ps n (t + 1)) with q | q
  · rw [← e] at q
    rw [q, rls_self] at h; cases h
  · rw [← e] at q
    rcases List.mem_cons.mp q with q | q
    · rw [q, rls_self] at h; cases h
    · exact q
theorem lc19_ok {ps : List (Qr × Qr)} (h : Of ps) {K L d : Nat} (hK : K ≤ 3) (hd : 4 ≤ d) {kvs : List (W × W)} (h1 : lkW (kk K L) kvs = some (rt (PV ps K L))) (h2 : lkW (kk K ((L + 1 : Nat) : Int)) kvs = some (rt (PV ps K (L + 1)))) :
    (ev (rn d) LC19).x [some (.tup (ps.map oW), .sh), some (.int ((K + 1 : Nat) : Int), .sh), some (.int ((L + 1 : Nat) : Int), .sh), some (.dct kvs, .own), none] = .ok (.val (.lst ((ps.map (ofv (PV ps K L) (PV ps K (L + 1)))).map rt)) true) [some (.tup (ps.map oW), .sh), some (.int ((K + 1 : Nat) : Int), .sh), some (.int ((L + 1 : Nat) : Int), .sh), some (.dct kvs, .own), none] := by
  obtain ⟨ρ', e, x, rfl⟩ := lcL_at (I := fun ρ => ∃ x, ρ = [some (.tup (ps.map oW), .sh), some (.int ((K + 1 : Nat) : Int), .sh), some (.int ((L + 1 : Nat) : Int), .sh), some (.dct kvs, .own), x]) (its := ps.map oW) (outs := (ps.map (ofv (PV ps K L) (PV ps K (L + 1)))).map rt) (acc := []) (step := stepE [4] (.n 4) (ev (rn d) .nil).t (ev (rn d) (.call 15 [false, false, false, true] (.cons (.var 4) (.cons (.var 1) (.cons (.var 2) (.cons (.var 3) .nil)))))).x)
    (ρ := [some (.tup (ps.map oW), .sh), some (.int ((K + 1 : Nat) : Int), .sh), some (.int ((L + 1 : Nat) : Int), .sh), some (.dct kvs, .own), none]) (by simp) (fun i w y e1 e2 ρ ⟨x, hρ⟩ => by
      rw [List.getElem?_map] at e1
      rw [List.getElem?_map, List.getElem?_map] at e2
      cases ek : ps[i]? with
      | none => rw [ek] at e1; cases e1
      | some o =>
        rw [ek] at e1 e2
        obtain rfl : oW o = w := by simpa using e1
        obtain rfl : rt (ofv (PV ps K L) (PV ps K (L + 1)) o) = y := by simpa using e2
        have c := ao_at h hK hd (List.mem_of_getElem? ek) h1 h2
        subst hρ
        generalize ((K + 1 : Nat) : Int) = K1 at c ⊢
        generalize ((L + 1 : Nat) : Int) = L1 at c ⊢
        refine ⟨_, step_ok (ρ1 := [some (.tup (ps.map oW), .sh), some (.int K1, .sh), some (.int L1, .sh), some (.dct kvs, .own), some (oW o, .sh)]) rfl ?_, some (oW o, .sh), rfl⟩
        have di : isD (oW o) = false := rfl
        simp [stepV, ev, wOf, callW, shM, ioW, ioB, shr, c, di, isD_rt]) ⟨none, rfl⟩
  have hb : (ress [some (.tup (ps.map oW), .sh), some (.int ((K + 1 : Nat) : Int), .sh), some (.int ((L + 1 : Nat) : Int), .sh), some (.dct kvs, .own), none] [.slot 0]).bind (itW .seq) = some (ps.map oW) := rfl
  unfold LC19
  exact (lc_ok (us := [.slot 0]) rfl hb (by rw [List.length_map]; have := h.1.1; have : szL = 16777216 := rfl; omega) e).trans rfl
/-- what price_next gives -/
def PN (ps : List (Qr × Qr)) (n t : Nat) (w : W) : Prop := (w = .non ∧ (n = 0 ∨ t = 0 ∨ rls (PV ps (n - 1) t) (PV ps n t) = false)) ∨
  ∃ m l i, n = m + 1 ∧ t = l + 1 ∧ rls (PV ps m t) (PV ps n t) = true ∧ w = .int ((i : Nat) : Int) ∧ idxW (rt (PV ps n t)) ((ps.map (ofv (PV ps m l) (PV ps m (l + 1)))).map rt) = some i
theorem pn_at {ps : List (Qr × Qr)} (h : Of ps) {n t D : Nat} (hn : n ≤ 4) (ht : t ≤ 9) (hD : 6 ≤ D) : ∃ w, PN ps n t w ∧ rn D 19 [.tup (ps.map oW), .int (n : Int), .int (t : Int)] = .ret w false [] := by
  obtain ⟨d, rfl⟩ : ∃ d, D = d + 1 := ⟨D - 1, by omega⟩
  obtain ⟨kvs, hk, e⟩ := pt_at h hn ht (D := d) (by omega)
  rw [show rn (d + 1) 19 _ = _ from run_at (fd := I_price_next.fd) rfl rfl]
  have key : ∀ w, (∃ ρ, xs (rn d) tk0 gg (.seq R19 (.seq Q19 (.seq (P19 LC19) .nil))) [some (.tup (ps.map oW), .sh), some (.int (n : Int), .sh), some (.int (t : Int), .sh), none, none] = .rt w false ρ) → ofS I_price_next.fd (xs (rn d) tk0 gg S_price_next [some (.tup (ps.map oW), .sh), some (.int (n : Int), .sh), some (.int (t : Int), .sh), none, none]) = .ret w false [] := fun w ⟨ρ, e⟩ => by
    rw [pn_is, e]; rfl
  have h0 := r19 (rn d) (.tup (ps.map oW)) n t rfl kvs e
  cases n with
  | zero => exact ⟨.non, .inl ⟨rfl, .inl rfl⟩, key _ ⟨_, by rw [seq_nx h0]; exact seq_rt (q19_n (rn d) _ _ kvs)⟩⟩
  | succ n =>
    cases t with
    | zero => exact ⟨.non, .inl ⟨rfl, .inr (.inl rfl)⟩, key _ ⟨_, by rw [seq_nx h0]; exact seq_rt (q19_t (rn d) _ _ (by omega) kvs)⟩⟩
    | succ t =>
      have a1 := hk n (t + 1) (by omega) (Nat.le_refl _)
      have a2 := hk (n + 1) (t + 1) (Nat.le_refl _) (Nat.le_refl _)
      have a0 := hk n t (by omega) (by omega)
      have b1 := PV_bd h n (t + 1)
      have b2 := PV_bd h (n + 1) (t + 1)
      have z1 := BB_le (n := n) (by omega)
      have z2 := BB_le (n := n + 1) (by omega)
      have q := q19_f (rn d) (.tup (ps.map oW)) ((n + 1 : Nat) : Int) ((t + 1 : Nat) : Int) (by omega) (by omega) kvs (PV ps n (t + 1)) (PV ps (n + 1) (t + 1)) (rls (PV ps n (t + 1)) (PV ps (n + 1) (t + 1))) (by rw [show ((n + 1 : Nat) : Int) - 1 = n by omega]; exact a1) a2 (ls_at rfl (by omega) (b1.m (by omega)) (b2.m (by omega)))
      cases k : rls (PV ps n (t + 1)) (PV ps (n + 1) (t + 1)) with
      | false =>
        rw [k] at q
        exact ⟨.non, .inl ⟨rfl, .inr (.inr k)⟩, key _ ⟨_, by rw [seq_nx h0]; exact seq_rt q⟩⟩
      | true =>
        rw [k] at q
        obtain ⟨i, hi⟩ := place k
        have p := p19 (rn d) LC19 (.tup (ps.map oW)) ((n + 1 : Nat) : Int) ((t + 1 : Nat) : Int) kvs (PV ps (n + 1) (t + 1)) _ i a2 (lc19_ok h (by omega) (by omega) a0 a1) (mth_at _ _ hi)
        exact ⟨.int (i : Int), .inr ⟨n, t, i, rfl, rfl, k, rfl, hi⟩, key _ ⟨_, by rw [seq_nx h0, seq_nx q]; exact seq_rt p⟩⟩

/-! ### the law's steps -/
theorem t0_ok (C : Fn) (s d : W) (hs : isD s = false) (h : C 29 [s] = .ret d true []) : xs C tk0 gg T0 ([some (s, .sh)] ++ List.replicate 27 none) = .nx ([some (s, .sh), some (d, .own)] ++ List.replicate 26 none) := by
  simp [T0, xs, ev, SO.thn, wOf, l1, l2, lL, ress, res, ofO, bW, trO, truth, subI, addI, isD_rt, shrs, ↓if_sz1, ↓if_sz2, callW, shM, shr, ioW, ioB, ofE, asA, setN, hs, h]
theorem t5_ok (C : Fn) (s dr dr' : W) (y2 y3 y5 y6 y7 : Y) (w : W) (r : Int) (h : C 30 [dr, .int 6] = .ret (.int r) false [dr']) : xs C tk0 gg T5 [some (s, .sh), some (dr, .own), y2, y3, some (w, .sh), y5, y6, y7, none, none, none, none, none, none, none, none, none, none, none, none, none, none, none, none, none, none, none, none] = .nx [some (s, .sh), some (dr', .own), y2, y3, some (.int (1 + r), .sh), y5, y6, y7, none, none, none, none, none, none, none, none, none, none, none, none, none, none, none, none, none, none, none, none] := by
  simp [T5, xs, ev, SO.thn, wOf, l1, l2, lL, ress, res, ofO, bW, trO, truth, subI, addI, isD_rt, shrs, ↓if_sz1, ↓if_sz2, callW, shM, shr, ioW, ioB, ofE, asA, setN, h]
def CL : W := .lst [rt (1, 2), rt (1, 3), rt (2, 3), rt (1, 1), rt (0, 1)]
def ELT7 (e : E) : E := (.tup (.cons (.call 39 [true] (.cons (.var 1) .nil)) (.cons (.ix e (.call 30 [true, false] (.cons (.var 1) (.cons (.con (.int 5)) .nil)))) .nil)))
def LS7 : E := (.lst (.cons (.tup (.cons (.con (.int 1)) (.cons (.con (.int 2)) .nil))) (.cons (.tup (.cons (.con (.int 1)) (.cons (.con (.int 3)) .nil))) (.cons (.tup (.cons (.con (.int 2)) (.cons (.con (.int 3)) .nil))) (.cons (.tup (.cons (.con (.int 1)) (.cons (.con (.int 1)) .nil))) (.cons (.tup (.cons (.con (.int 0)) (.cons (.con (.int 1)) .nil))) .nil))))))
theorem ls7 (C : Fn) (ρ : Py.Env) : (ev C LS7).x ρ = .ok (.val CL true) ρ := rfl
theorem cl_at {r : Int} (h0 : 0 ≤ r) (h1 : r < 5) : ∃ c : Qr, ixW CL (.int r) = some (rt c, false) ∧ bd 2 c := by
  have : r = 0 ∨ r = 1 ∨ r = 2 ∨ r = 3 ∨ r = 4 := by omega
  rcases this with rfl | rfl | rfl | rfl | rfl
  · exact ⟨(1, 2), rfl, by decide, by decide, by decide⟩
  · exact ⟨(1, 3), rfl, by decide, by decide, by decide⟩
  · exact ⟨(2, 3), rfl, by decide, by decide, by decide⟩
  · exact ⟨(1, 1), rfl, by decide, by decide, by decide⟩
  · exact ⟨(0, 1), rfl, by decide, by decide, by decide⟩
theorem el7 (C : Fn) (e : E) (he : ∀ ρ, (ev C e).x ρ = .ok (.val CL true) ρ) (s dr dr1 dr2 : W) (y2 y3 y5 y6 y7 : Y) (y4 y21 : Y) (g c : Qr) (r : Int) (h1 : C 39 [dr] = .ret (rt g) false [dr1]) (h2 : C 30 [dr1, .int 5] = .ret (.int r) false [dr2]) (h3 : ixW CL (.int r) = some (rt c, false)) :
    stepV (ev C (ELT7 e)).x [some (s, .sh), some (dr, .own), y2, y3, y4, y5, y6, y7, none, none, none, none, none, none, none, none, none, none, none, none, none, y21, none, none, none, none, none, none] = .ok (some (oW (g, c))) [some (s, .sh), some (dr2, .own), y2, y3, y4, y5, y6, y7, none, none, none, none, none, none, none, none, none, none, none, none, none, y21, none, none, none, none, none, none] := by
  have ho : oW (g, c) = .tup [rt g, rt c] := rfl
  simp [ELT7, stepV, xs, ev, SO.thn, wOf, l1, l2, lL, ress, res, ofO, bW, trO, truth, subI, addI, isD_rt, shrs, ↓if_sz1, ↓if_sz2, callW, shM, shr, ioW, ioB, ofE, asA, setN, he, h1, h2, h3, ho]
theorem take_at {D : Nat} (hD : 1 ≤ D) {w : W} (hw : DW w) {m : Int} (hm : 0 < m) (hs : sm 9000 m = true) : ∃ r w', 0 ≤ r ∧ r < m ∧ DW w' ∧ rn D 30 [w, .int m] = .ret (.int r) false [w'] := by
  obtain ⟨d, rfl⟩ : ∃ d, D = d + 1 := ⟨D - 1, by omega⟩
  obtain ⟨r, w', a, b, c, e⟩ := tk_ok (rn d) tk0 gg hw hm hs
  refine ⟨r, w', a, b, c, ?_⟩
  rw [show rn (d + 1) 30 _ = _ from run_at (fd := FD_tk) rfl rfl]
  exact e
theorem draw_at {D : Nat} (hD : 1 ≤ D) {ns : List Int} (h : ns.length ≤ 63) : ∃ w, DW w ∧ rn D 29 [.lst (ns.map W.int)] = .ret w true [] := by
  obtain ⟨d, rfl⟩ : ∃ d, D = d + 1 := ⟨D - 1, by omega⟩
  obtain ⟨w, a, e⟩ := dr_ok (rn d) tk0 gg h
  refine ⟨w, a, ?_⟩
  rw [show rn (d + 1) 29 _ = _ from run_at (fd := FD_dr) rfl rfl]
  exact e
theorem gn_ok (C : Fn) (dr dr1 dr2 : W) (a b : Int) (g : Qr) (h1 : C 30 [dr, .int 13] = .ret (.int a) false [dr1]) (h2 : C 30 [dr1, .int 3] = .ret (.int b) false [dr2]) (h3 : C 31 [.int (a - 6), .int (1 + b)] = .ret (rt g) false []) :
    ofS I__law_gain.fd (xs C tk0 gg S__law_gain [some (dr, .io)]) = .ret (rt g) false [dr2] := by
  simp [S__law_gain, xs, ev, SO.thn, wOf, l1, l2, lL, ress, res, ofO, bW, trO, truth, subI, addI, isD_rt, shrs, ↓if_sz1, ↓if_sz2, callW, shM, shr, ioW, ioB, ofE, asA, setN, h1, h2, h3, retA, ofS, I__law_gain, ioE]
theorem gn_at {D : Nat} (hD : 4 ≤ D) {w : W} (hw : DW w) : ∃ g w', bd 3 g ∧ DW w' ∧ rn D 39 [w] = .ret (rt g) false [w'] := by
  obtain ⟨d, rfl⟩ : ∃ d, D = d + 1 := ⟨D - 1, by omega⟩
  obtain ⟨a, w1, a1, a2, q1, e1⟩ := take_at (D := d) (by omega) hw (m := 13) (by decide) (by decide)
  obtain ⟨b, w2, b1, b2, q2, e2⟩ := take_at (D := d) (by omega) q1 (m := 3) (by decide) (by decide)
  refine ⟨low (a - 6) (1 + b), w2, low_bd (by omega) (by omega) (by omega), q2, ?_⟩
  rw [show rn (d + 1) 39 _ = _ from run_at (fd := I__law_gain.fd) rfl rfl]
  refine gn_ok (rn d) w w1 w2 a b _ e1 e2 (lw_at lgg rd31 (by omega) (by omega) (sm_of_lt (Nat.lt_of_lt_of_le (show (a - 6).natAbs < 2 ^ 5 by omega) (by decide +kernel)) (by decide)) (sm_of_lt (Nat.lt_of_lt_of_le (show (1 + b).natAbs < 2 ^ 5 by omega) (by decide +kernel)) (by decide)))
def LC7 (e : E) : E := .lc (ELT7 e) (.n 21) .nil .rng (.cons (.op .add (.con (.int 1)) (.call 30 [true, false] (.cons (.var 1) (.cons (.con (.int 3)) .nil)))) .nil) [21]
theorem t7_is : T7 = .asn 8 (.bi .tuple (.cons (LC7 LS7) .nil)) := rfl
theorem offs : ∀ {ys : List W}, (∀ y ∈ ys, ∃ o : Qr × Qr, y = oW o ∧ bd 3 o.1 ∧ bd 2 o.2) → ∃ ps : List (Qr × Qr), ys = ps.map oW ∧ ∀ o ∈ ps, bd 3 o.1 ∧ bd 2 o.2
  | [], _ => ⟨[], rfl, fun o h => nomatch h⟩
  | y :: ys, h => by
    obtain ⟨o, rfl, ho⟩ := h y List.mem_cons_self
    obtain ⟨ps, rfl, hp⟩ := offs (ys := ys) fun y hy => h y (List.mem_cons_of_mem _ hy)
    refine ⟨o :: ps, rfl, fun q hq => ?_⟩
    rcases List.mem_cons.mp hq with rfl | hq
    · exact ho
    · exact hp q hq
theorem lc7_ok {d : Nat} (hd : 4 ≤ d) (e : E) (he : ∀ ρ, (ev (rn d) e).x ρ = .ok (.val CL true) ρ) (s : W) {dr : W} (hw : DW dr) (y2 y3 y5 y6 y7 : Y) (y4 : Y) : ∃ ps dr', Of ps ∧ DW dr' ∧ (ev (rn d) (LC7 e)).x [some (s, .sh), some (dr, .own), y2, y3, y4, y5, y6, y7, none, none, none, none, none, none, none, none, none, none, none, none, none, none, none, none, none, none, none, none] = .ok (.val (.lst (ps.map oW)) true) [some (s, .sh), some (dr', .own), y2, y3, y4, y5, y6, y7, none, none, none, none, none, none, none, none, none, none, none, none, none, none, none, none, none, none, none, none] := by
  obtain ⟨r, dr1, r0, r1, q1, e1⟩ := take_at (D := d) (by omega) hw (m := 3) (by decide) (by decide)
  obtain ⟨k, hk⟩ : ∃ k : Nat, 1 + r = k := ⟨(1 + r).toNat, by omega⟩
  obtain ⟨ys, ρ', e2, ⟨dr', x, q2, rfl⟩, hl, hP⟩ := lcL_ex (I := fun ρ => ∃ dr x, DW dr ∧ ρ = [some (s, .sh), some (dr, .own), y2, y3, y4, y5, y6, y7, none, none, none, none, none, none, none, none, none, none, none, none, none, x, none, none, none, none, none, none]) (P := fun y => ∃ o : Qr × Qr, y = oW o ∧ bd 3 o.1 ∧ bd 2 o.2) (its := rngL k 0) (acc := []) (step := stepE [21] (.n 21) (ev (rn d) .nil).t (ev (rn d) (ELT7 e)).x) (ρ := [some (s, .sh), some (dr1, .own), y2, y3, y4, y5, y6, y7, none, none, none, none, none, none, none, none, none, none, none, none, none, none, none, none, none, none, none, none])
    (fun w hw ρ ⟨dr, x, q, hρ⟩ => by
      obtain ⟨g, d1, gb, p1, c1⟩ := gn_at (D := d) hd q
      obtain ⟨r, d2, r0, r1, p2, c2⟩ := take_at (D := d) (by omega) p1 (m := 5) (by decide) (by decide)
      obtain ⟨c, c3, cb⟩ := cl_at r0 r1
      subst hρ
      exact ⟨_, _, step_ok (ρ1 := [some (s, .sh), some (dr, .own), y2, y3, y4, y5, y6, y7, none, none, none, none, none, none, none, none, none, none, none, none, none, some (w, .sh), none, none, none, none, none, none]) rfl (el7 (rn d) e he s dr d1 d2 y2 y3 y5 y6 y7 y4 (some (w, .sh)) g c r c1 c2 c3), ⟨d2, some (w, .sh), p2, rfl⟩, (g, c), rfl, gb, cb⟩) ⟨dr1, none, q1, rfl⟩
  obtain ⟨ps, rfl, hps⟩ := offs hP
  have hlen : ps.length = k := by rw [List.length_map, rngL_len] at hl; exact hl
  refine ⟨ps, dr', ⟨⟨by omega, by omega⟩, hps⟩, q2, ?_⟩
  have ha : (ev (rn d) (.cons (.op .add (.con (.int 1)) (.call 30 [true, false] (.cons (.var 1) (.cons (.con (.int 3)) .nil)))) .nil)).a [some (s, .sh), some (dr, .own), y2, y3, y4, y5, y6, y7, none, none, none, none, none, none, none, none, none, none, none, none, none, none, none, none, none, none, none, none] = .ok [.val (.int (1 + r)) false] [some (s, .sh), some (dr1, .own), y2, y3, y4, y5, y6, y7, none, none, none, none, none, none, none, none, none, none, none, none, none, none, none, none, none, none, none, none] := by
    simp [xs, ev, SO.thn, wOf, l1, l2, lL, ress, res, ofO, bW, trO, truth, subI, addI, isD_rt, shrs, ↓if_sz1, ↓if_sz2, callW, shM, shr, ioW, ioB, ofE, asA, setN, e1]
  have hb : (ress [some (s, .sh), some (dr1, .own), y2, y3, y4, y5, y6, y7, none, none, none, none, none, none, none, none, none, none, none, none, none, none, none, none, none, none, none, none] [.val (.int (1 + r)) false]).bind (itW .rng) = some (rngL k 0) := by
    rw [show ress [some (s, .sh), some (dr1, .own), y2, y3, y4, y5, y6, y7, none, none, none, none, none, none, none, none, none, none, none, none, none, none, none, none, none, none, none, none] [.val (.int (1 + r)) false] = some [.int (1 + r)] from rfl, Option.bind_some, hk]
    exact rng_nat (by omega)
  unfold LC7
  exact (lc_ok ha hb (by rw [rngL_len]; have : szL = 16777216 := rfl; omega) e2).trans rfl
theorem t7_ok (C : Fn) (e : E) (s dr dr' : W) (y2 y3 y5 y6 y7 : Y) (y4 : Y) (l : List W) (he : (ev C e).x [some (s, .sh), some (dr, .own), y2, y3, y4, y5, y6, y7, none, none, none, none, none, none, none, none, none, none, none, none, none, none, none, none, none, none, none, none] = .ok (.val (.lst l) true) [some (s, .sh), some (dr', .own), y2, y3, y4, y5, y6, y7, none, none, none, none, none, none, none, none, none, none, none, none, none, none, none, none, none, none, none, none]) : xs C tk0 gg (.asn 8 (.bi .tuple (.cons e .nil))) [some (s, .sh), some (dr, .own), y2, y3, y4, y5, y6, y7, none, none, none, none, none, none, none, none, none, none, none, none, none, none, none, none, none, none, none, none] = .nx [some (s, .sh), some (dr', .own), y2, y3, y4, y5, y6, y7, some (.tup l, .sh), none, none, none, none, none, none, none, none, none, none, none, none, none, none, none, none, none, none, none] := by
  have hb : biW .tuple [.lst l] = some (.tup l, false) := rfl
  simp [xs, ev, SO.thn, wOf, l1, l2, lL, ress, res, ofO, bW, trO, truth, subI, addI, isD_rt, shrs, ↓if_sz1, ↓if_sz2, callW, shM, shr, ioW, ioB, ofE, asA, setN, he, hb]
theorem t8_ok (C : Fn) (s dr dr1 dr2 : W) (y2 y3 y5 y6 y7 : Y) (w v8 : W) (n t : Int) (h1 : C 30 [dr, .int 5] = .ret (.int n) false [dr1]) (h2 : C 30 [dr1, .int 4] = .ret (.int t) false [dr2]) : xs C tk0 gg T8 [some (s, .sh), some (dr, .own), y2, y3, some (w, .sh), y5, y6, y7, some (v8, .sh), none, none, none, none, none, none, none, none, none, none, none, none, none, none, none, none, none, none, none] = .nx [some (s, .sh), some (dr2, .own), y2, y3, some (.int n, .sh), y5, y6, y7, some (v8, .sh), some (.int t, .sh), none, none, none, none, none, none, none, none, none, none, none, none, none, none, none, none, none, none] := by
  simp [T8, xs, ev, SO.thn, wOf, l1, l2, lL, ress, res, ofO, bW, trO, truth, subI, addI, isD_rt, shrs, ↓if_sz1, ↓if_sz2, callW, shM, shr, ioW, ioB, ofE, asA, setN, h1, h2, fixA, asAs]
theorem t9_ok (C : Fn) (s dr : W) (y2 y3 y5 y6 y7 : Y) (v8 : W) (hv : isD v8 = false) (n t : Int) (p : Qr) (h : C 41 [v8, .int n, .int t] = .ret (rt p) false []) : xs C tk0 gg T9 [some (s, .sh), some (dr, .own), y2, y3, some (.int n, .sh), y5, y6, y7, some (v8, .sh), some (.int t, .sh), none, none, none, none, none, none, none, none, none, none, none, none, none, none, none, none, none, none] = .nx [some (s, .sh), some (dr, .own), y2, y3, some (.int n, .sh), y5, y6, y7, some (v8, .sh), some (.int t, .sh), some (rt p, .sh), none, none, none, none, none, none, none, none, none, none, none, none, none, none, none, none, none] := by
  simp [T9, xs, ev, SO.thn, wOf, l1, l2, lL, ress, res, ofO, bW, trO, truth, subI, addI, isD_rt, shrs, ↓if_sz1, ↓if_sz2, callW, shM, shr, ioW, ioB, ofE, asA, setN, hv, h]
theorem t10_ok (C : Fn) (s dr : W) (y2 y3 y5 y6 y7 : Y) (v8 : W) (hv : isD v8 = false) (n t : Int) (p : Qr) (h : C 18 [v8, .int n, .int t] = .ret (rt p) false []) : xs C tk0 gg T10 [some (s, .sh), some (dr, .own), y2, y3, some (.int n, .sh), y5, y6, y7, some (v8, .sh), some (.int t, .sh), some (rt p, .sh), none, none, none, none, none, none, none, none, none, none, none, none, none, none, none, none, none] = .nx [some (s, .sh), some (dr, .own), y2, y3, some (.int n, .sh), y5, y6, y7, some (v8, .sh), some (.int t, .sh), some (rt p, .sh), none, none, none, none, none, none, none, none, none, none, none, none, none, none, none, none, none] := by
  simp [T10, xs, ev, SO.thn, wOf, l1, l2, lL, ress, res, ofO, bW, trO, truth, subI, addI, isD_rt, shrs, ↓if_sz1, ↓if_sz2, callW, shM, shr, ioW, ioB, ofE, asA, setN, hv, h, ne_rt]
theorem t11_ok (C : Fn) (s dr : W) (y2 y3 y5 y6 y7 : Y) (v8 w v10 : W) (hv : isD v8 = false) (n t : Int) (h : C 19 [v8, .int n, .int t] = .ret w false []) : xs C tk0 gg T11 [some (s, .sh), some (dr, .own), y2, y3, some (.int n, .sh), y5, y6, y7, some (v8, .sh), some (.int t, .sh), some (v10, .sh), none, none, none, none, none, none, none, none, none, none, none, none, none, none, none, none, none] = .nx [some (s, .sh), some (dr, .own), y2, y3, some (.int n, .sh), y5, y6, y7, some (v8, .sh), some (.int t, .sh), some (v10, .sh), some (w, .sh), none, none, none, none, none, none, none, none, none, none, none, none, none, none, none, none] := by
  simp [T11, xs, ev, SO.thn, wOf, l1, l2, lL, ress, res, ofO, bW, trO, truth, subI, addI, isD_rt, shrs, ↓if_sz1, ↓if_sz2, callW, shM, shr, ioW, ioB, ofE, asA, setN, hv, h]
def LC12 : E := (.lc (.call 40 [false, false, false, false] (.cons (.var 8) (.cons (.var 4) (.cons (.var 9) (.cons (.var 21) .nil))))) (.n 21) .nil .rng (.cons (.bi .len (.cons (.var 8) .nil)) .nil) [21])
def Q12 : E := (.or (.cmp .eq (.var 4) (.con (.int 0))) (.or (.cmp .eq (.var 9) (.con (.int 0))) (.not (.call 36 [false, false] (.cons (.call 41 [false, false, false] (.cons (.var 8) (.cons (.op .sub (.var 4) (.con (.int 1))) (.cons (.var 9) .nil)))) (.cons (.var 10) .nil))))))
def A12 : S := (.seq (.ite (.cmp .isnt (.var 11) (.con .non)) (.seq (.ret (.con (.bl false))) .nil) .nil) .nil)
def B12 (e : E) : S := (.seq (.ite (.cmp .ne (.var 11) (.mth .index e (.cons (.var 10) .nil))) (.seq (.ret (.con (.bl false))) .nil) .nil) .nil)
theorem t12_is : T12 = .ite Q12 A12 (B12 LC12) := rfl
theorem t12_n (C : Fn) (e : E) (s dr : W) (y2 y3 y5 y6 y7 : Y) (v8 v9 v10 : W) : xs C tk0 gg (.ite Q12 A12 (B12 e)) [some (s, .sh), some (dr, .own), y2, y3, some (.int 0, .sh), y5, y6, y7, some (v8, .sh), some (v9, .sh), some (v10, .sh), some (.non, .sh), none, none, none, none, none, none, none, none, none, none, none, none, none, none, none, none] = .nx [some (s, .sh), some (dr, .own), y2, y3, some (.int 0, .sh), y5, y6, y7, some (v8, .sh), some (v9, .sh), some (v10, .sh), some (.non, .sh), none, none, none, none, none, none, none, none, none, none, none, none, none, none, none, none] := by
  have e1 : cmpW .eq (.int 0) (.int 0) = some true := rfl
  have e2 : cmpW .isnt .non .non = some false := rfl
  simp [Q12, A12, xs, ev, SO.thn, wOf, l1, l2, lL, ress, res, ofO, bW, trO, truth, subI, addI, isD_rt, shrs, ↓if_sz1, ↓if_sz2, callW, shM, shr, ioW, ioB, ofE, asA, setN, e1, e2]
theorem t12_t (C : Fn) (e : E) (s dr : W) (y2 y3 y5 y6 y7 : Y) (v8 v10 : W) (n : Int) (hn : n ≠ 0) : xs C tk0 gg (.ite Q12 A12 (B12 e)) [some (s, .sh), some (dr, .own), y2, y3, some (.int n, .sh), y5, y6, y7, some (v8, .sh), some (.int 0, .sh), some (v10, .sh), some (.non, .sh), none, none, none, none, none, none, none, none, none, none, none, none, none, none, none, none] = .nx [some (s, .sh), some (dr, .own), y2, y3, some (.int n, .sh), y5, y6, y7, some (v8, .sh), some (.int 0, .sh), some (v10, .sh), some (.non, .sh), none, none, none, none, none, none, none, none, none, none, none, none, none, none, none, none] := by
  have e0 : cmpW .eq (.int n) (.int 0) = some false := by rw [eqI, decide_eq_false hn]
  have e1 : cmpW .eq (.int 0) (.int 0) = some true := rfl
  have e2 : cmpW .isnt .non .non = some false := rfl
  simp [Q12, A12, xs, ev, SO.thn, wOf, l1, l2, lL, ress, res, ofO, bW, trO, truth, subI, addI, isD_rt, shrs, ↓if_sz1, ↓if_sz2, callW, shM, shr, ioW, ioB, ofE, asA, setN, e0, e1, e2]
theorem t12_f (C : Fn) (e : E) (s dr : W) (y2 y3 y5 y6 y7 : Y) (v8 : W) (hv : isD v8 = false) (n t : Int) (hn : n ≠ 0) (ht : t ≠ 0) (a b : Qr) (h1 : C 41 [v8, .int (n - 1), .int t] = .ret (rt a) false []) (h2 : C 36 [rt a, rt b] = .ret (.bl false) false []) : xs C tk0 gg (.ite Q12 A12 (B12 e)) [some (s, .sh), some (dr, .own), y2, y3, some (.int n, .sh), y5, y6, y7, some (v8, .sh), some (.int t, .sh), some (rt b, .sh), some (.non, .sh), none, none, none, none, none, none, none, none, none, none, none, none, none, none, none, none] = .nx [some (s, .sh), some (dr, .own), y2, y3, some (.int n, .sh), y5, y6, y7, some (v8, .sh), some (.int t, .sh), some (rt b, .sh), some (.non, .sh), none, none, none, none, none, none, none, none, none, none, none, none, none, none, none, none] := by
  have e0 : cmpW .eq (.int n) (.int 0) = some false := by rw [eqI, decide_eq_false hn]
  have e1 : cmpW .eq (.int t) (.int 0) = some false := by rw [eqI, decide_eq_false ht]
  have e2 : cmpW .isnt .non .non = some false := rfl
  simp [Q12, A12, xs, ev, SO.thn, wOf, l1, l2, lL, ress, res, ofO, bW, trO, truth, subI, addI, isD_rt, shrs, ↓if_sz1, ↓if_sz2, callW, shM, shr, ioW, ioB, ofE, asA, setN, hv, e0, e1, e2, h1, h2]
theorem t12_i (C : Fn) (e : E) (s dr : W) (y2 y3 y5 y6 y7 : Y) (v8 : W) (hv : isD v8 = false) (n t i : Int) (hn : n ≠ 0) (ht : t ≠ 0) (a b : Qr) (outs : List W) (h1 : C 41 [v8, .int (n - 1), .int t] = .ret (rt a) false []) (h2 : C 36 [rt a, rt b] = .ret (.bl true) false [])
    (he : (ev C e).x [some (s, .sh), some (dr, .own), y2, y3, some (.int n, .sh), y5, y6, y7, some (v8, .sh), some (.int t, .sh), some (rt b, .sh), some (.int i, .sh), none, none, none, none, none, none, none, none, none, none, none, none, none, none, none, none] = .ok (.val (.lst outs) true) [some (s, .sh), some (dr, .own), y2, y3, some (.int n, .sh), y5, y6, y7, some (v8, .sh), some (.int t, .sh), some (rt b, .sh), some (.int i, .sh), none, none, none, none, none, none, none, none, none, none, none, none, none, none, none, none]) (hm : mthW .index (.lst outs) [rt b] = some (.int i, false)) :
    xs C tk0 gg (.ite Q12 A12 (B12 e)) [some (s, .sh), some (dr, .own), y2, y3, some (.int n, .sh), y5, y6, y7, some (v8, .sh), some (.int t, .sh), some (rt b, .sh), some (.int i, .sh), none, none, none, none, none, none, none, none, none, none, none, none, none, none, none, none] = .nx [some (s, .sh), some (dr, .own), y2, y3, some (.int n, .sh), y5, y6, y7, some (v8, .sh), some (.int t, .sh), some (rt b, .sh), some (.int i, .sh), none, none, none, none, none, none, none, none, none, none, none, none, none, none, none, none] := by
  have e0 : cmpW .eq (.int n) (.int 0) = some false := by rw [eqI, decide_eq_false hn]
  have e1 : cmpW .eq (.int t) (.int 0) = some false := by rw [eqI, decide_eq_false ht]
  have mt : ∀ l, mTy .index (.lst l) = some () := fun _ => rfl
  simp [Q12, B12, xs, ev, SO.thn, wOf, l1, l2, lL, ress, res, ofO, bW, trO, truth, subI, addI, isD_rt, shrs, ↓if_sz1, ↓if_sz2, callW, shM, shr, ioW, ioB, ofE, asA, setN, hv, e0, e1, h1, h2, he, mt, hm, neI]
theorem lc12_ok (C : Fn) (s dr : W) (y2 y3 y5 y6 y7 : Y) (l : List W) (N T : Int) (v10 v11 : W) (outs : List W) (hl : l.length ≤ 1000) (ho : outs.length = l.length) (h : ∀ (k : Nat) y, outs[k]? = some y → isD y = false ∧ C 40 [.tup l, .int N, .int T, .int (k : Int)] = .ret y false []) :
    (ev C LC12).x [some (s, .sh), some (dr, .own), y2, y3, some (.int N, .sh), y5, y6, y7, some (.tup l, .sh), some (.int T, .sh), some (v10, .sh), some (v11, .sh), none, none, none, none, none, none, none, none, none, none, none, none, none, none, none, none] = .ok (.val (.lst outs) true) [some (s, .sh), some (dr, .own), y2, y3, some (.int N, .sh), y5, y6, y7, some (.tup l, .sh), some (.int T, .sh), some (v10, .sh), some (v11, .sh), none, none, none, none, none, none, none, none, none, none, none, none, none, none, none, none] := by
  obtain ⟨ρ', e, x, rfl⟩ := lcL_at (I := fun ρ => ∃ x, ρ = [some (s, .sh), some (dr, .own), y2, y3, some (.int N, .sh), y5, y6, y7, some (.tup l, .sh), some (.int T, .sh), some (v10, .sh), some (v11, .sh), none, none, none, none, none, none, none, none, none, x, none, none, none, none, none, none]) (its := rngL l.length 0) (outs := outs) (acc := []) (step := stepE [21] (.n 21) (ev C .nil).t (ev C (.call 40 [false, false, false, false] (.cons (.var 8) (.cons (.var 4) (.cons (.var 9) (.cons (.var 21) .nil)))))).x) (ρ := [some (s, .sh), some (dr, .own), y2, y3, some (.int N, .sh), y5, y6, y7, some (.tup l, .sh), some (.int T, .sh), some (v10, .sh), some (v11, .sh), none, none, none, none, none, none, none, none, none, none, none, none, none, none, none, none])
    (by rw [rngL_len, ho]) (fun i w y h1 h2 ρ ⟨x, hρ⟩ => by
      obtain ⟨rfl, _⟩ := rngL_at _ _ _ _ h1
      obtain ⟨di, e⟩ := h i y h2
      rw [show (0 : Int) + (i : Int) = i by omega]
      subst hρ
      refine ⟨_, step_ok (ρ1 := [some (s, .sh), some (dr, .own), y2, y3, some (.int N, .sh), y5, y6, y7, some (.tup l, .sh), some (.int T, .sh), some (v10, .sh), some (v11, .sh), none, none, none, none, none, none, none, none, none, some (.int (i : Int), .sh), none, none, none, none, none, none]) rfl ?_, some (.int (i : Int), .sh), rfl⟩
      simp [stepV, ev, wOf, callW, shM, ioW, ioB, shr, e, di]) ⟨none, rfl⟩
  have ha : (ev C (.cons (.bi .len (.cons (.var 8) .nil)) .nil)).a [some (s, .sh), some (dr, .own), y2, y3, some (.int N, .sh), y5, y6, y7, some (.tup l, .sh), some (.int T, .sh), some (v10, .sh), some (v11, .sh), none, none, none, none, none, none, none, none, none, none, none, none, none, none, none, none] = .ok [.val (.int (l.length : Int)) false] [some (s, .sh), some (dr, .own), y2, y3, some (.int N, .sh), y5, y6, y7, some (.tup l, .sh), some (.int T, .sh), some (v10, .sh), some (v11, .sh), none, none, none, none, none, none, none, none, none, none, none, none, none, none, none, none] := rfl
  have hb : (ress [some (s, .sh), some (dr, .own), y2, y3, some (.int N, .sh), y5, y6, y7, some (.tup l, .sh), some (.int T, .sh), some (v10, .sh), some (v11, .sh), none, none, none, none, none, none, none, none, none, none, none, none, none, none, none, none] [.val (.int (l.length : Int)) false]).bind (itW .rng) = some (rngL l.length 0) := by
    rw [show ress [some (s, .sh), some (dr, .own), y2, y3, some (.int N, .sh), y5, y6, y7, some (.tup l, .sh), some (.int T, .sh), some (v10, .sh), some (v11, .sh), none, none, none, none, none, none, none, none, none, none, none, none, none, none, none, none] [.val (.int (l.length : Int)) false] = some [.int (l.length : Int)] from rfl, Option.bind_some]
    exact rng_nat hl
  unfold LC12
  exact (lc_ok ha hb (by rw [rngL_len]; have : szL = 16777216 := rfl; omega) e).trans rfl
theorem t13_ok (C : Fn) (s dr dr1 dr2 dr3 : W) (y2 y3 y5 y6 y7 : Y) (y4 v8 v9 v10 v11 : Y) (a b c : Int) (h1 : C 30 [dr, .int 4] = .ret (.int a) false [dr1]) (h2 : C 30 [dr1, .int 6] = .ret (.int b) false [dr2]) (h3 : C 30 [dr2, .int 12] = .ret (.int c) false [dr3]) :
    xs C tk0 gg T13 [some (s, .sh), some (dr, .own), y2, y3, y4, y5, y6, y7, v8, v9, v10, v11, none, none, none, none, none, none, none, none, none, none, none, none, none, none, none, none] = .nx [some (s, .sh), some (dr3, .own), y2, y3, y4, y5, y6, y7, v8, v9, v10, v11, some (.int (1 + a), .sh), some (.int (1 + b), .sh), some (.int (1 + c), .sh), none, none, none, none, none, none, none, none, none, none, none, none, none] := by
  simp [T13, xs, ev, SO.thn, wOf, l1, l2, lL, ress, res, ofO, bW, trO, truth, subI, addI, isD_rt, shrs, ↓if_sz1, ↓if_sz2, callW, shM, shr, ioW, ioB, ofE, asA, setN, h1, h2, h3, fixA, asAs]
theorem rc_ok (C : Fn) (p d k : Int) : ofS I_rent_cost.fd (xs C tk0 gg S_rent_cost [some (.int p, .sh), some (.int d, .sh), some (.int k, .sh)]) = .ret (.int (if k < d then k else d - 1 + p)) false [] := by
  have c1 : cmpW .lt (.int k) (.int d) = some (decide (k < d)) := rfl
  by_cases h : k < d
  · rw [decide_eq_true h] at c1
    simp [S_rent_cost, xs, ev, SO.thn, wOf, l1, l2, lL, ress, res, ofO, bW, trO, truth, subI, addI, isD_rt, shrs, ↓if_sz1, ↓if_sz2, callW, shM, shr, ioW, ioB, ofE, asA, setN, c1, h, retA, ofS, I_rent_cost, ioE]
  · rw [decide_eq_false h] at c1
    simp [S_rent_cost, xs, ev, SO.thn, wOf, l1, l2, lL, ress, res, ofO, bW, trO, truth, subI, addI, isD_rt, shrs, ↓if_sz1, ↓if_sz2, callW, shM, shr, ioW, ioB, ofE, asA, setN, c1, h, retA, ofS, I_rent_cost, ioE]
theorem t14_ok (C : Fn) (s dr : W) (y2 y3 y5 y6 y7 : Y) (y4 v8 v9 v10 v11 : Y) (p d k : Int) (h : C 20 [.int p, .int d, .int k] = .ret (.int (if k < d then k else d - 1 + p)) false []) :
    xs C tk0 gg T14 [some (s, .sh), some (dr, .own), y2, y3, y4, y5, y6, y7, v8, v9, v10, v11, some (.int p, .sh), some (.int d, .sh), some (.int k, .sh), none, none, none, none, none, none, none, none, none, none, none, none, none] = .nx [some (s, .sh), some (dr, .own), y2, y3, y4, y5, y6, y7, v8, v9, v10, v11, some (.int p, .sh), some (.int d, .sh), some (.int k, .sh), none, none, none, none, none, none, none, none, none, none, none, none, none] := by
  have c1 : cmpW .lt (.int k) (.int d) = some (decide (k < d)) := rfl
  by_cases q : k < d
  · rw [decide_eq_true q] at c1
    rw [if_pos q] at h
    simp [T14, xs, ev, SO.thn, wOf, l1, l2, lL, ress, res, ofO, bW, trO, truth, subI, addI, isD_rt, shrs, ↓if_sz1, ↓if_sz2, callW, shM, shr, ioW, ioB, ofE, asA, setN, c1, h, neI]
  · rw [decide_eq_false q] at c1
    rw [if_neg q] at h
    simp [T14, xs, ev, SO.thn, wOf, l1, l2, lL, ress, res, ofO, bW, trO, truth, subI, addI, isD_rt, shrs, ↓if_sz1, ↓if_sz2, callW, shM, shr, ioW, ioB, ofE, asA, setN, c1, h, neI]
end K37

set_option exponentiation.threshold 10000
namespace K37
open PySem PySem.Spec PyProof.Rows L2 Py
def rtW1 : W := (.lst [(.tup [(.int 1), (.int 1)]), (.tup [(.int 2), (.int 1)]), (.tup [(.int 3), (.int 1)]), (.tup [(.int 4), (.int 1)]), (.tup [(.int 5), (.int 1)]), (.tup [(.int 6), (.int 1)]), (.tup [(.int 7), (.int 1)]), (.tup [(.int 8), (.int 1)]), (.tup [(.int 9), (.int 1)]), (.tup [(.int 10), (.int 1)]), (.tup [(.int 11), (.int 1)]), (.tup [(.int 12), (.int 1)]), (.tup [(.int 13), (.int 1)]), (.tup [(.int 14), (.int 1)])])
def coW1 : W := (.lst [(.tup [(.int 1), (.int 1)]), (.tup [(.int 2), (.int 1)]), (.tup [(.int 3), (.int 1)]), (.tup [(.int 4), (.int 1)]), (.tup [(.int 5), (.int 1)]), (.tup [(.int 6), (.int 1)]), (.tup [(.int 7), (.int 1)]), (.tup [(.int 8), (.int 1)]), (.tup [(.int 9), (.int 1)]), (.tup [(.int 10), (.int 1)]), (.tup [(.int 11), (.int 1)]), (.tup [(.int 12), (.int 1)]), (.tup [(.int 13), (.int 1)]), (.tup [(.int 14), (.int 1)]), (.tup [(.int 14), (.int 1)]), (.tup [(.int 14), (.int 1)]), (.tup [(.int 14), (.int 1)]), (.tup [(.int 14), (.int 1)]), (.tup [(.int 14), (.int 1)]), (.tup [(.int 14), (.int 1)]), (.tup [(.int 14), (.int 1)]), (.tup [(.int 14), (.int 1)]), (.tup [(.int 14), (.int 1)]), (.tup [(.int 14), (.int 1)]), (.tup [(.int 14), (.int 1)]), (.tup [(.int 14), (.int 1)]), (.tup [(.int 14), (.int 1)]), (.tup [(.int 14), (.int 1)]), (.tup [(.int 14), (.int 1)])])
theorem stI1 (y0 y1 y2 y3 y4 y5 y6 y7 y8 y9 y10 y11 y13 y14 : Y) : xs CC tk0 gg (sq [T15, T16] .nil) [y0, y1, y2, y3, y4, y5, y6, y7, y8, y9, y10, y11, some (.int 1, .sh), y13, y14, none, none, none, none, none, none, none, none, none, none, none, none, none] = .nx [y0, y1, y2, y3, y4, y5, y6, y7, y8, y9, y10, y11, some (.int 1, .sh), y13, y14, some (rtW1, .own), some (.int 14, .sh), some (coW1, .own), none, none, none, none, none, none, none, none, none, none] := by kernel_rfl
def rtW2 : W := (.lst [(.tup [(.int 2), (.int 1)]), (.tup [(.int 3), (.int 2)]), (.tup [(.int 2), (.int 1)]), (.tup [(.int 5), (.int 2)]), (.tup [(.int 3), (.int 1)]), (.tup [(.int 7), (.int 2)]), (.tup [(.int 4), (.int 1)]), (.tup [(.int 9), (.int 2)]), (.tup [(.int 5), (.int 1)]), (.tup [(.int 11), (.int 2)]), (.tup [(.int 6), (.int 1)]), (.tup [(.int 13), (.int 2)]), (.tup [(.int 7), (.int 1)]), (.tup [(.int 15), (.int 2)])])
def coW2 : W := (.lst [(.tup [(.int 1), (.int 1)]), (.tup [(.int 2), (.int 2)]), (.tup [(.int 3), (.int 2)]), (.tup [(.int 4), (.int 2)]), (.tup [(.int 5), (.int 2)]), (.tup [(.int 6), (.int 2)]), (.tup [(.int 7), (.int 2)]), (.tup [(.int 8), (.int 2)]), (.tup [(.int 9), (.int 2)]), (.tup [(.int 10), (.int 2)]), (.tup [(.int 11), (.int 2)]), (.tup [(.int 12), (.int 2)]), (.tup [(.int 13), (.int 2)]), (.tup [(.int 15), (.int 2)]), (.tup [(.int 15), (.int 2)]), (.tup [(.int 15), (.int 2)]), (.tup [(.int 15), (.int 2)]), (.tup [(.int 15), (.int 2)]), (.tup [(.int 15), (.int 2)]), (.tup [(.int 15), (.int 2)]), (.tup [(.int 15), (.int 2)]), (.tup [(.int 15), (.int 2)]), (.tup [(.int 15), (.int 2)]), (.tup [(.int 15), (.int 2)]), (.tup [(.int 15), (.int 2)]), (.tup [(.int 15), (.int 2)]), (.tup [(.int 15), (.int 2)]), (.tup [(.int 15), (.int 2)]), (.tup [(.int 15), (.int 2)])])
theorem stI2 (y0 y1 y2 y3 y4 y5 y6 y7 y8 y9 y10 y11 y13 y14 : Y) : xs CC tk0 gg (sq [T15, T16] .nil) [y0, y1, y2, y3, y4, y5, y6, y7, y8, y9, y10, y11, some (.int 2, .sh), y13, y14, none, none, none, none, none, none, none, none, none, none, none, none, none] = .nx [y0, y1, y2, y3, y4, y5, y6, y7, y8, y9, y10, y11, some (.int 2, .sh), y13, y14, some (rtW2, .own), some (.int 14, .sh), some (coW2, .own), none, none, none, none, none, none, none, none, none, none] := by kernel_rfl
def rtW3 : W := (.lst [(.tup [(.int 3), (.int 1)]), (.tup [(.int 2), (.int 1)]), (.tup [(.int 5), (.int 3)]), (.tup [(.int 2), (.int 1)]), (.tup [(.int 7), (.int 3)]), (.tup [(.int 8), (.int 3)]), (.tup [(.int 3), (.int 1)]), (.tup [(.int 10), (.int 3)]), (.tup [(.int 11), (.int 3)]), (.tup [(.int 4), (.int 1)]), (.tup [(.int 13), (.int 3)]), (.tup [(.int 14), (.int 3)]), (.tup [(.int 5), (.int 1)]), (.tup [(.int 16), (.int 3)])])
def coW3 : W := (.lst [(.tup [(.int 1), (.int 1)]), (.tup [(.int 2), (.int 2)]), (.tup [(.int 3), (.int 3)]), (.tup [(.int 4), (.int 3)]), (.tup [(.int 5), (.int 3)]), (.tup [(.int 6), (.int 3)]), (.tup [(.int 7), (.int 3)]), (.tup [(.int 8), (.int 3)]), (.tup [(.int 9), (.int 3)]), (.tup [(.int 10), (.int 3)]), (.tup [(.int 11), (.int 3)]), (.tup [(.int 12), (.int 3)]), (.tup [(.int 13), (.int 3)]), (.tup [(.int 16), (.int 3)]), (.tup [(.int 16), (.int 3)]), (.tup [(.int 16), (.int 3)]), (.tup [(.int 16), (.int 3)]), (.tup [(.int 16), (.int 3)]), (.tup [(.int 16), (.int 3)]), (.tup [(.int 16), (.int 3)]), (.tup [(.int 16), (.int 3)]), (.tup [(.int 16), (.int 3)]), (.tup [(.int 16), (.int 3)]), (.tup [(.int 16), (.int 3)]), (.tup [(.int 16), (.int 3)]), (.tup [(.int 16), (.int 3)]), (.tup [(.int 16), (.int 3)]), (.tup [(.int 16), (.int 3)]), (.tup [(.int 16), (.int 3)])])
theorem stI3 (y0 y1 y2 y3 y4 y5 y6 y7 y8 y9 y10 y11 y13 y14 : Y) : xs CC tk0 gg (sq [T15, T16] .nil) [y0, y1, y2, y3, y4, y5, y6, y7, y8, y9, y10, y11, some (.int 3, .sh), y13, y14, none, none, none, none, none, none, none, none, none, none, none, none, none] = .nx [y0, y1, y2, y3, y4, y5, y6, y7, y8, y9, y10, y11, some (.int 3, .sh), y13, y14, some (rtW3, .own), some (.int 14, .sh), some (coW3, .own), none, none, none, none, none, none, none, none, none, none] := by kernel_rfl
def rtW4 : W := (.lst [(.tup [(.int 4), (.int 1)]), (.tup [(.int 5), (.int 2)]), (.tup [(.int 2), (.int 1)]), (.tup [(.int 7), (.int 4)]), (.tup [(.int 2), (.int 1)]), (.tup [(.int 9), (.int 4)]), (.tup [(.int 5), (.int 2)]), (.tup [(.int 11), (.int 4)]), (.tup [(.int 3), (.int 1)]), (.tup [(.int 13), (.int 4)]), (.tup [(.int 7), (.int 2)]), (.tup [(.int 15), (.int 4)]), (.tup [(.int 4), (.int 1)]), (.tup [(.int 17), (.int 4)])])
def coW4 : W := (.lst [(.tup [(.int 1), (.int 1)]), (.tup [(.int 2), (.int 2)]), (.tup [(.int 3), (.int 3)]), (.tup [(.int 4), (.int 4)]), (.tup [(.int 5), (.int 4)]), (.tup [(.int 6), (.int 4)]), (.tup [(.int 7), (.int 4)]), (.tup [(.int 8), (.int 4)]), (.tup [(.int 9), (.int 4)]), (.tup [(.int 10), (.int 4)]), (.tup [(.int 11), (.int 4)]), (.tup [(.int 12), (.int 4)]), (.tup [(.int 13), (.int 4)]), (.tup [(.int 17), (.int 4)]), (.tup [(.int 17), (.int 4)]), (.tup [(.int 17), (.int 4)]), (.tup [(.int 17), (.int 4)]), (.tup [(.int 17), (.int 4)]), (.tup [(.int 17), (.int 4)]), (.tup [(.int 17), (.int 4)]), (.tup [(.int 17), (.int 4)]), (.tup [(.int 17), (.int 4)]), (.tup [(.int 17), (.int 4)]), (.tup [(.int 17), (.int 4)]), (.tup [(.int 17), (.int 4)]), (.tup [(.int 17), (.int 4)]), (.tup [(.int 17), (.int 4)]), (.tup [(.int 17), (.int 4)]), (.tup [(.int 17), (.int 4)])])
theorem stI4 (y0 y1 y2 y3 y4 y5 y6 y7 y8 y9 y10 y11 y13 y14 : Y) : xs CC tk0 gg (sq [T15, T16] .nil) [y0, y1, y2, y3, y4, y5, y6, y7, y8, y9, y10, y11, some (.int 4, .sh), y13, y14, none, none, none, none, none, none, none, none, none, none, none, none, none] = .nx [y0, y1, y2, y3, y4, y5, y6, y7, y8, y9, y10, y11, some (.int 4, .sh), y13, y14, some (rtW4, .own), some (.int 14, .sh), some (coW4, .own), none, none, none, none, none, none, none, none, none, none] := by kernel_rfl
end K37

set_option exponentiation.threshold 10000
namespace K37
open PySem PySem.Spec PyProof.Rows L2 Py
theorem stJ1_1 (y0 y1 y2 y3 y4 y5 y6 y7 y8 y9 y10 y11 y14 y17 : Y) : xs CC tk0 gg T17 [y0, y1, y2, y3, y4, y5, y6, y7, y8, y9, y10, y11, some (.int 1, .sh), some (.int 1, .sh), y14, some (rtW1, .own), some (.int 14, .sh), y17, none, none, none, none, none, none, none, none, none, none] = .nx [y0, y1, y2, y3, y4, y5, y6, y7, y8, y9, y10, y11, some (.int 1, .sh), some (.int 1, .sh), y14, some (rtW1, .sh), some (.int 14, .sh), y17, none, none, none, none, none, none, none, none, none, none] := by kernel_rfl
theorem stJ1_2 (y0 y1 y2 y3 y4 y5 y6 y7 y8 y9 y10 y11 y14 y17 : Y) : xs CC tk0 gg T17 [y0, y1, y2, y3, y4, y5, y6, y7, y8, y9, y10, y11, some (.int 1, .sh), some (.int 2, .sh), y14, some (rtW1, .own), some (.int 14, .sh), y17, none, none, none, none, none, none, none, none, none, none] = .nx [y0, y1, y2, y3, y4, y5, y6, y7, y8, y9, y10, y11, some (.int 1, .sh), some (.int 2, .sh), y14, some (rtW1, .sh), some (.int 14, .sh), y17, none, none, none, none, none, none, none, none, none, none] := by kernel_rfl
theorem stJ1_3 (y0 y1 y2 y3 y4 y5 y6 y7 y8 y9 y10 y11 y14 y17 : Y) : xs CC tk0 gg T17 [y0, y1, y2, y3, y4, y5, y6, y7, y8, y9, y10, y11, some (.int 1, .sh), some (.int 3, .sh), y14, some (rtW1, .own), some (.int 14, .sh), y17, none, none, none, none, none, none, none, none, none, none] = .nx [y0, y1, y2, y3, y4, y5, y6, y7, y8, y9, y10, y11, some (.int 1, .sh), some (.int 3, .sh), y14, some (rtW1, .sh), some (.int 14, .sh), y17, none, none, none, none, none, none, none, none, none, none] := by kernel_rfl
theorem stJ1_4 (y0 y1 y2 y3 y4 y5 y6 y7 y8 y9 y10 y11 y14 y17 : Y) : xs CC tk0 gg T17 [y0, y1, y2, y3, y4, y5, y6, y7, y8, y9, y10, y11, some (.int 1, .sh), some (.int 4, .sh), y14, some (rtW1, .own), some (.int 14, .sh), y17, none, none, none, none, none, none, none, none, none, none] = .nx [y0, y1, y2, y3, y4, y5, y6, y7, y8, y9, y10, y11, some (.int 1, .sh), some (.int 4, .sh), y14, some (rtW1, .sh), some (.int 14, .sh), y17, none, none, none, none, none, none, none, none, none, none] := by kernel_rfl
theorem stJ1_5 (y0 y1 y2 y3 y4 y5 y6 y7 y8 y9 y10 y11 y14 y17 : Y) : xs CC tk0 gg T17 [y0, y1, y2, y3, y4, y5, y6, y7, y8, y9, y10, y11, some (.int 1, .sh), some (.int 5, .sh), y14, some (rtW1, .own), some (.int 14, .sh), y17, none, none, none, none, none, none, none, none, none, none] = .nx [y0, y1, y2, y3, y4, y5, y6, y7, y8, y9, y10, y11, some (.int 1, .sh), some (.int 5, .sh), y14, some (rtW1, .sh), some (.int 14, .sh), y17, none, none, none, none, none, none, none, none, none, none] := by kernel_rfl
theorem stJ1_6 (y0 y1 y2 y3 y4 y5 y6 y7 y8 y9 y10 y11 y14 y17 : Y) : xs CC tk0 gg T17 [y0, y1, y2, y3, y4, y5, y6, y7, y8, y9, y10, y11, some (.int 1, .sh), some (.int 6, .sh), y14, some (rtW1, .own), some (.int 14, .sh), y17, none, none, none, none, none, none, none, none, none, none] = .nx [y0, y1, y2, y3, y4, y5, y6, y7, y8, y9, y10, y11, some (.int 1, .sh), some (.int 6, .sh), y14, some (rtW1, .sh), some (.int 14, .sh), y17, none, none, none, none, none, none, none, none, none, none] := by kernel_rfl
end K37

set_option exponentiation.threshold 10000
namespace K37
open PySem PySem.Spec PyProof.Rows L2 Py
theorem stJ2_1 (y0 y1 y2 y3 y4 y5 y6 y7 y8 y9 y10 y11 y14 y17 : Y) : xs CC tk0 gg T17 [y0, y1, y2, y3, y4, y5, y6, y7, y8, y9, y10, y11, some (.int 2, .sh), some (.int 1, .sh), y14, some (rtW2, .own), some (.int 14, .sh), y17, none, none, none, none, none, none, none, none, none, none] = .nx [y0, y1, y2, y3, y4, y5, y6, y7, y8, y9, y10, y11, some (.int 2, .sh), some (.int 1, .sh), y14, some (rtW2, .sh), some (.int 14, .sh), y17, none, none, none, none, none, none, none, none, none, none] := by kernel_rfl
theorem stJ2_2 (y0 y1 y2 y3 y4 y5 y6 y7 y8 y9 y10 y11 y14 y17 : Y) : xs CC tk0 gg T17 [y0, y1, y2, y3, y4, y5, y6, y7, y8, y9, y10, y11, some (.int 2, .sh), some (.int 2, .sh), y14, some (rtW2, .own), some (.int 14, .sh), y17, none, none, none, none, none, none, none, none, none, none] = .nx [y0, y1, y2, y3, y4, y5, y6, y7, y8, y9, y10, y11, some (.int 2, .sh), some (.int 2, .sh), y14, some (rtW2, .sh), some (.int 14, .sh), y17, none, none, none, none, none, none, none, none, none, none] := by kernel_rfl
theorem stJ2_3 (y0 y1 y2 y3 y4 y5 y6 y7 y8 y9 y10 y11 y14 y17 : Y) : xs CC tk0 gg T17 [y0, y1, y2, y3, y4, y5, y6, y7, y8, y9, y10, y11, some (.int 2, .sh), some (.int 3, .sh), y14, some (rtW2, .own), some (.int 14, .sh), y17, none, none, none, none, none, none, none, none, none, none] = .nx [y0, y1, y2, y3, y4, y5, y6, y7, y8, y9, y10, y11, some (.int 2, .sh), some (.int 3, .sh), y14, some (rtW2, .sh), some (.int 14, .sh), y17, none, none, none, none, none, none, none, none, none, none] := by kernel_rfl
theorem stJ2_4 (y0 y1 y2 y3 y4 y5 y6 y7 y8 y9 y10 y11 y14 y17 : Y) : xs CC tk0 gg T17 [y0, y1, y2, y3, y4, y5, y6, y7, y8, y9, y10, y11, some (.int 2, .sh), some (.int 4, .sh), y14, some (rtW2, .own), some (.int 14, .sh), y17, none, none, none, none, none, none, none, none, none, none] = .nx [y0, y1, y2, y3, y4, y5, y6, y7, y8, y9, y10, y11, some (.int 2, .sh), some (.int 4, .sh), y14, some (rtW2, .sh), some (.int 14, .sh), y17, none, none, none, none, none, none, none, none, none, none] := by kernel_rfl
theorem stJ2_5 (y0 y1 y2 y3 y4 y5 y6 y7 y8 y9 y10 y11 y14 y17 : Y) : xs CC tk0 gg T17 [y0, y1, y2, y3, y4, y5, y6, y7, y8, y9, y10, y11, some (.int 2, .sh), some (.int 5, .sh), y14, some (rtW2, .own), some (.int 14, .sh), y17, none, none, none, none, none, none, none, none, none, none] = .nx [y0, y1, y2, y3, y4, y5, y6, y7, y8, y9, y10, y11, some (.int 2, .sh), some (.int 5, .sh), y14, some (rtW2, .sh), some (.int 14, .sh), y17, none, none, none, none, none, none, none, none, none, none] := by kernel_rfl
theorem stJ2_6 (y0 y1 y2 y3 y4 y5 y6 y7 y8 y9 y10 y11 y14 y17 : Y) : xs CC tk0 gg T17 [y0, y1, y2, y3, y4, y5, y6, y7, y8, y9, y10, y11, some (.int 2, .sh), some (.int 6, .sh), y14, some (rtW2, .own), some (.int 14, .sh), y17, none, none, none, none, none, none, none, none, none, none] = .nx [y0, y1, y2, y3, y4, y5, y6, y7, y8, y9, y10, y11, some (.int 2, .sh), some (.int 6, .sh), y14, some (rtW2, .sh), some (.int 14, .sh), y17, none, none, none, none, none, none, none, none, none, none] := by kernel_rfl
end K37

set_option exponentiation.threshold 10000
namespace K37
open PySem PySem.Spec PyProof.Rows L2 Py
theorem stJ3_1 (y0 y1 y2 y3 y4 y5 y6 y7 y8 y9 y10 y11 y14 y17 : Y) : xs CC tk0 gg T17 [y0, y1, y2, y3, y4, y5, y6, y7, y8, y9, y10, y11, some (.int 3, .sh), some (.int 1, .sh), y14, some (rtW3, .own), some (.int 14, .sh), y17, none, none, none, none, none, none, none, none, none, none] = .nx [y0, y1, y2, y3, y4, y5, y6, y7, y8, y9, y10, y11, some (.int 3, .sh), some (.int 1, .sh), y14, some (rtW3, .sh), some (.int 14, .sh), y17, none, none, none, none, none, none, none, none, none, none] := by kernel_rfl
theorem stJ3_2 (y0 y1 y2 y3 y4 y5 y6 y7 y8 y9 y10 y11 y14 y17 : Y) : xs CC tk0 gg T17 [y0, y1, y2, y3, y4, y5, y6, y7, y8, y9, y10, y11, some (.int 3, .sh), some (.int 2, .sh), y14, some (rtW3, .own), some (.int 14, .sh), y17, none, none, none, none, none, none, none, none, none, none] = .nx [y0, y1, y2, y3, y4, y5, y6, y7, y8, y9, y10, y11, some (.int 3, .sh), some (.int 2, .sh), y14, some (rtW3, .sh), some (.int 14, .sh), y17, none, none, none, none, none, none, none, none, none, none] := by kernel_rfl
theorem stJ3_3 (y0 y1 y2 y3 y4 y5 y6 y7 y8 y9 y10 y11 y14 y17 : Y) : xs CC tk0 gg T17 [y0, y1, y2, y3, y4, y5, y6, y7, y8, y9, y10, y11, some (.int 3, .sh), some (.int 3, .sh), y14, some (rtW3, .own), some (.int 14, .sh), y17, none, none, none, none, none, none, none, none, none, none] = .nx [y0, y1, y2, y3, y4, y5, y6, y7, y8, y9, y10, y11, some (.int 3, .sh), some (.int 3, .sh), y14, some (rtW3, .sh), some (.int 14, .sh), y17, none, none, none, none, none, none, none, none, none, none] := by kernel_rfl
theorem stJ3_4 (y0 y1 y2 y3 y4 y5 y6 y7 y8 y9 y10 y11 y14 y17 : Y) : xs CC tk0 gg T17 [y0, y1, y2, y3, y4, y5, y6, y7, y8, y9, y10, y11, some (.int 3, .sh), some (.int 4, .sh), y14, some (rtW3, .own), some (.int 14, .sh), y17, none, none, none, none, none, none, none, none, none, none] = .nx [y0, y1, y2, y3, y4, y5, y6, y7, y8, y9, y10, y11, some (.int 3, .sh), some (.int 4, .sh), y14, some (rtW3, .sh), some (.int 14, .sh), y17, none, none, none, none, none, none, none, none, none, none] := by kernel_rfl
theorem stJ3_5 (y0 y1 y2 y3 y4 y5 y6 y7 y8 y9 y10 y11 y14 y17 : Y) : xs CC tk0 gg T17 [y0, y1, y2, y3, y4, y5, y6, y7, y8, y9, y10, y11, some (.int 3, .sh), some (.int 5, .sh), y14, some (rtW3, .own), some (.int 14, .sh), y17, none, none, none, none, none, none, none, none, none, none] = .nx [y0, y1, y2, y3, y4, y5, y6, y7, y8, y9, y10, y11, some (.int 3, .sh), some (.int 5, .sh), y14, some (rtW3, .sh), some (.int 14, .sh), y17, none, none, none, none, none, none, none, none, none, none] := by kernel_rfl
theorem stJ3_6 (y0 y1 y2 y3 y4 y5 y6 y7 y8 y9 y10 y11 y14 y17 : Y) : xs CC tk0 gg T17 [y0, y1, y2, y3, y4, y5, y6, y7, y8, y9, y10, y11, some (.int 3, .sh), some (.int 6, .sh), y14, some (rtW3, .own), some (.int 14, .sh), y17, none, none, none, none, none, none, none, none, none, none] = .nx [y0, y1, y2, y3, y4, y5, y6, y7, y8, y9, y10, y11, some (.int 3, .sh), some (.int 6, .sh), y14, some (rtW3, .sh), some (.int 14, .sh), y17, none, none, none, none, none, none, none, none, none, none] := by kernel_rfl
end K37

set_option exponentiation.threshold 10000
namespace K37
open PySem PySem.Spec PyProof.Rows L2 Py
theorem stJ4_1 (y0 y1 y2 y3 y4 y5 y6 y7 y8 y9 y10 y11 y14 y17 : Y) : xs CC tk0 gg T17 [y0, y1, y2, y3, y4, y5, y6, y7, y8, y9, y10, y11, some (.int 4, .sh), some (.int 1, .sh), y14, some (rtW4, .own), some (.int 14, .sh), y17, none, none, none, none, none, none, none, none, none, none] = .nx [y0, y1, y2, y3, y4, y5, y6, y7, y8, y9, y10, y11, some (.int 4, .sh), some (.int 1, .sh), y14, some (rtW4, .sh), some (.int 14, .sh), y17, none, none, none, none, none, none, none, none, none, none] := by kernel_rfl
theorem stJ4_2 (y0 y1 y2 y3 y4 y5 y6 y7 y8 y9 y10 y11 y14 y17 : Y) : xs CC tk0 gg T17 [y0, y1, y2, y3, y4, y5, y6, y7, y8, y9, y10, y11, some (.int 4, .sh), some (.int 2, .sh), y14, some (rtW4, .own), some (.int 14, .sh), y17, none, none, none, none, none, none, none, none, none, none] = .nx [y0, y1, y2, y3, y4, y5, y6, y7, y8, y9, y10, y11, some (.int 4, .sh), some (.int 2, .sh), y14, some (rtW4, .sh), some (.int 14, .sh), y17, none, none, none, none, none, none, none, none, none, none] := by kernel_rfl
theorem stJ4_3 (y0 y1 y2 y3 y4 y5 y6 y7 y8 y9 y10 y11 y14 y17 : Y) : xs CC tk0 gg T17 [y0, y1, y2, y3, y4, y5, y6, y7, y8, y9, y10, y11, some (.int 4, .sh), some (.int 3, .sh), y14, some (rtW4, .own), some (.int 14, .sh), y17, none, none, none, none, none, none, none, none, none, none] = .nx [y0, y1, y2, y3, y4, y5, y6, y7, y8, y9, y10, y11, some (.int 4, .sh), some (.int 3, .sh), y14, some (rtW4, .sh), some (.int 14, .sh), y17, none, none, none, none, none, none, none, none, none, none] := by kernel_rfl
theorem stJ4_4 (y0 y1 y2 y3 y4 y5 y6 y7 y8 y9 y10 y11 y14 y17 : Y) : xs CC tk0 gg T17 [y0, y1, y2, y3, y4, y5, y6, y7, y8, y9, y10, y11, some (.int 4, .sh), some (.int 4, .sh), y14, some (rtW4, .own), some (.int 14, .sh), y17, none, none, none, none, none, none, none, none, none, none] = .nx [y0, y1, y2, y3, y4, y5, y6, y7, y8, y9, y10, y11, some (.int 4, .sh), some (.int 4, .sh), y14, some (rtW4, .sh), some (.int 14, .sh), y17, none, none, none, none, none, none, none, none, none, none] := by kernel_rfl
theorem stJ4_5 (y0 y1 y2 y3 y4 y5 y6 y7 y8 y9 y10 y11 y14 y17 : Y) : xs CC tk0 gg T17 [y0, y1, y2, y3, y4, y5, y6, y7, y8, y9, y10, y11, some (.int 4, .sh), some (.int 5, .sh), y14, some (rtW4, .own), some (.int 14, .sh), y17, none, none, none, none, none, none, none, none, none, none] = .nx [y0, y1, y2, y3, y4, y5, y6, y7, y8, y9, y10, y11, some (.int 4, .sh), some (.int 5, .sh), y14, some (rtW4, .sh), some (.int 14, .sh), y17, none, none, none, none, none, none, none, none, none, none] := by kernel_rfl
theorem stJ4_6 (y0 y1 y2 y3 y4 y5 y6 y7 y8 y9 y10 y11 y14 y17 : Y) : xs CC tk0 gg T17 [y0, y1, y2, y3, y4, y5, y6, y7, y8, y9, y10, y11, some (.int 4, .sh), some (.int 6, .sh), y14, some (rtW4, .own), some (.int 14, .sh), y17, none, none, none, none, none, none, none, none, none, none] = .nx [y0, y1, y2, y3, y4, y5, y6, y7, y8, y9, y10, y11, some (.int 4, .sh), some (.int 6, .sh), y14, some (rtW4, .sh), some (.int 14, .sh), y17, none, none, none, none, none, none, none, none, none, none] := by kernel_rfl
end K37

set_option exponentiation.threshold 10000
namespace K37
open PySem PySem.Spec PyProof.Rows L2 Py
def fR : SO → Bool
  | .rt (.bl true) false _ => true
  | _ => false
theorem stK1 (y0 y1 y2 y3 y4 y5 y6 y7 y8 y9 y10 y11 y13 y14 y15 y16 y17 : Y) : fR (xs CC tk0 gg (sq [T18, T19, T20, T21, T22, T23, T24] .nil) [y0, y1, y2, y3, y4, y5, y6, y7, y8, y9, y10, y11, some (.int 1, .sh), y13, y14, y15, y16, y17, none, none, none, none, none, none, none, none, none, none]) = true := by kernel_rfl
theorem stK2 (y0 y1 y2 y3 y4 y5 y6 y7 y8 y9 y10 y11 y13 y14 y15 y16 y17 : Y) : fR (xs CC tk0 gg (sq [T18, T19, T20, T21, T22, T23, T24] .nil) [y0, y1, y2, y3, y4, y5, y6, y7, y8, y9, y10, y11, some (.int 2, .sh), y13, y14, y15, y16, y17, none, none, none, none, none, none, none, none, none, none]) = true := by kernel_rfl
theorem stK3 (y0 y1 y2 y3 y4 y5 y6 y7 y8 y9 y10 y11 y13 y14 y15 y16 y17 : Y) : fR (xs CC tk0 gg (sq [T18, T19, T20, T21, T22, T23, T24] .nil) [y0, y1, y2, y3, y4, y5, y6, y7, y8, y9, y10, y11, some (.int 3, .sh), y13, y14, y15, y16, y17, none, none, none, none, none, none, none, none, none, none]) = true := by kernel_rfl
theorem stK4 (y0 y1 y2 y3 y4 y5 y6 y7 y8 y9 y10 y11 y13 y14 y15 y16 y17 : Y) : fR (xs CC tk0 gg (sq [T18, T19, T20, T21, T22, T23, T24] .nil) [y0, y1, y2, y3, y4, y5, y6, y7, y8, y9, y10, y11, some (.int 4, .sh), y13, y14, y15, y16, y17, none, none, none, none, none, none, none, none, none, none]) = true := by kernel_rfl
end K37

set_option exponentiation.threshold 10000
namespace K37
open PySem PySem.Spec PyProof.Rows L2 Py
theorem xs_sq {C : Fn} : ∀ (l : List S) (r : S) (ρ : Py.Env), xs C tk0 gg (sq l r) ρ = SO.thn (xs C tk0 gg (sq l .nil) ρ) fun ρ => xs C tk0 gg r ρ
  | [], r, ρ => rfl
  | s :: l, r, ρ => by
    show SO.thn (xs C tk0 gg s ρ) (fun ρ => xs C tk0 gg (sq l r) ρ) = SO.thn (SO.thn (xs C tk0 gg s ρ) fun ρ => xs C tk0 gg (sq l .nil) ρ) fun ρ => xs C tk0 gg r ρ
    cases xs C tk0 gg s ρ with
    | nx ρ1 => exact xs_sq l r ρ1
    | _ => rfl
theorem sq_nx {C : Fn} {l : List S} {r : S} {ρ ρ1 : Py.Env} (h : xs C tk0 gg (sq l .nil) ρ = .nx ρ1) : xs C tk0 gg (sq l r) ρ = xs C tk0 gg r ρ1 := by
  rw [xs_sq, h]
  rfl
def TL : S := sq [T15, T16] (.seq T17 (sq [T18, T19, T20, T21, T22, T23, T24] .nil))
theorem whole : S_law = .seq T0 (sq [T1, T2, T3, T4] (.seq T5 (.seq T6 (.seq T7 (.seq T8 (.seq T9 (.seq T10 (.seq T11 (.seq T12 (.seq T13 (.seq T14 TL))))))))))) := rfl
theorem fR_ok {o : SO} (h : fR o = true) : ∃ ρ, o = .rt (.bl true) false ρ := by
  unfold fR at h
  split at h
  · rename_i ρ; exact ⟨ρ, rfl⟩
  · cases h
theorem tail1 {C : Fn} {ρ0 ρ1 ρ2 : Py.Env} (h1 : xs C tk0 gg (sq [T15, T16] .nil) ρ0 = .nx ρ1) (h2 : xs C tk0 gg T17 ρ1 = .nx ρ2) (h3 : fR (xs C tk0 gg (sq [T18, T19, T20, T21, T22, T23, T24] .nil) ρ2) = true) : ∃ ρ, xs C tk0 gg TL ρ0 = .rt (.bl true) false ρ := by
  obtain ⟨ρ, e⟩ := fR_ok h3
  refine ⟨ρ, ?_⟩
  unfold TL
  rw [sq_nx h1, seq_nx h2, e]
theorem tail (p d : Int) (p0 : 1 ≤ p) (p1 : p ≤ 4) (d0 : 1 ≤ d) (d1 : d ≤ 6) (y0 y1 y2 y3 y4 y5 y6 y7 y8 y9 y10 y11 y14 : Y) : ∃ ρ, xs CC tk0 gg TL [y0, y1, y2, y3, y4, y5, y6, y7, y8, y9, y10, y11, some (.int p, .sh), some (.int d, .sh), y14, none, none, none, none, none, none, none, none, none, none, none, none, none] = .rt (.bl true) false ρ := by
  have hp : p = 1 ∨ p = 2 ∨ p = 3 ∨ p = 4 := by omega
  have hd : d = 1 ∨ d = 2 ∨ d = 3 ∨ d = 4 ∨ d = 5 ∨ d = 6 := by omega
  rcases hp with rfl | rfl | rfl | rfl
  · rcases hd with rfl | rfl | rfl | rfl | rfl | rfl
    · exact tail1 (stI1 y0 y1 y2 y3 y4 y5 y6 y7 y8 y9 y10 y11 (some (.int 1, .sh)) y14) (stJ1_1 y0 y1 y2 y3 y4 y5 y6 y7 y8 y9 y10 y11 y14 _) (stK1 y0 y1 y2 y3 y4 y5 y6 y7 y8 y9 y10 y11 (some (.int 1, .sh)) y14 _ _ _)
    · exact tail1 (stI1 y0 y1 y2 y3 y4 y5 y6 y7 y8 y9 y10 y11 (some (.int 2, .sh)) y14) (stJ1_2 y0 y1 y2 y3 y4 y5 y6 y7 y8 y9 y10 y11 y14 _) (stK1 y0 y1 y2 y3 y4 y5 y6 y7 y8 y9 y10 y11 (some (.int 2, .sh)) y14 _ _ _)
    · exact tail1 (stI1 y0 y1 y2 y3 y4 y5 y6 y7 y8 y9 y10 y11 (some (.int 3, .sh)) y14) (stJ1_3 y0 y1 y2 y3 y4 y5 y6 y7 y8 y9 y10 y11 y14 _) (stK1 y0 y1 y2 y3 y4 y5 y6 y7 y8 y9 y10 y11 (some (.int 3, .sh)) y14 _ _ _)
    · exact tail1 (stI1 y0 y1 y2 y3 y4 y5 y6 y7 y8 y9 y10 y11 (some (.int 4, .sh)) y14) (stJ1_4 y0 y1 y2 y3 y4 y5 y6 y7 y8 y9 y10 y11 y14 _) (stK1 y0 y1 y2 y3 y4 y5 y6 y7 y8 y9 y10 y11 (some (.int 4, .sh)) y14 _ _ _)
    · exact tail1 (stI1 y0 y1 y2 y3 y4 y5 y6 y7 y8 y9 y10 y11 (some (.int 5, .sh)) y14) (stJ1_5 y0 y1 y2 y3 y4 y5 y6 y7 y8 y9 y10 y11 y14 _) (stK1 y0 y1 y2 y3 y4 y5 y6 y7 y8 y9 y10 y11 (some (.int 5, .sh)) y14 _ _ _)
    · exact tail1 (stI1 y0 y1 y2 y3 y4 y5 y6 y7 y8 y9 y10 y11 (some (.int 6, .sh)) y14) (stJ1_6 y0 y1 y2 y3 y4 y5 y6 y7 y8 y9 y10 y11 y14 _) (stK1 y0 y1 y2 y3 y4 y5 y6 y7 y8 y9 y10 y11 (some (.int 6, .sh)) y14 _ _ _)
  · rcases hd with rfl | rfl | rfl | rfl | rfl | rfl
    · exact tail1 (stI2 y0 y1 y2 y3 y4 y5 y6 y7 y8 y9 y10 y11 (some (.int 1, .sh)) y14) (stJ2_1 y0 y1 y2 y3 y4 y5 y6 y7 y8 y9 y10 y11 y14 _) (stK2 y0 y1 y2 y3 y4 y5 y6 y7 y8 y9 y10 y11 (some (.int 1, .sh)) y14 _ _ _)
    · exact tail1 (stI2 y0 y1 y2 y3 y4 y5 y6 y7 y8 y9 y10 y11 (some (.int 2, .sh)) y14) (stJ2_2 y0 y1 y2 y3 y4 y5 y6 y7 y8 y9 y10 y11 y14 _) (stK2 y0 y1 y2 y3 y4 y5 y6 y7 y8 y9 y10 y11 (some (.int 2, .sh)) y14 _ _ _)
    · exact tail1 (stI2 y0 y1 y2 y3 y4 y5 y6 y7 y8 y9 y10 y11 (some (.int 3, .sh)) y14) (stJ2_3 y0 y1 y2 y3 y4 y5 y6 y7 y8 y9 y10 y11 y14 _) (stK2 y0 y1 y2 y3 y4 y5 y6 y7 y8 y9 y10 y11 (some (.int 3, .sh)) y14 _ _ _)
    · exact tail1 (stI2 y0 y1 y2 y3 y4 y5 y6 y7 y8 y9 y10 y11 (some (.int 4, .sh)) y14) (stJ2_4 y0 y1 y2 y3 y4 y5 y6 y7 y8 y9 y10 y11 y14 _) (stK2 y0 y1 y2 y3 y4 y5 y6 y7 y8 y9 y10 y11 (some (.int 4, .sh)) y14 _ _ _)
    · exact tail1 (stI2 y0 y1 y2 y3 y4 y5 y6 y7 y8 y9 y10 y11 (some (.int 5, .sh)) y14) (stJ2_5 y0 y1 y2 y3 y4 y5 y6 y7 y8 y9 y10 y11 y14 _) (stK2 y0 y1 y2 y3 y4 y5 y6 y7 y8 y9 y10 y11 (some (.int 5, .sh)) y14 _ _ _)
    · exact tail1 (stI2 y0 y1 y2 y3 y4 y5 y6 y7 y8 y9 y10 y11 (some (.int 6, .sh)) y14) (stJ2_6 y0 y1 y2 y3 y4 y5 y6 y7 y8 y9 y10 y11 y14 _) (stK2 y0 y1 y2 y3 y4 y5 y6 y7 y8 y9 y10 y11 (some (.int 6, .sh)) y14 _ _ _)
  · rcases hd with rfl | rfl | rfl | rfl | rfl | rfl
    · exact tail1 (stI3 y0 y1 y2 y3 y4 y5 y6 y7 y8 y9 y10 y11 (some (.int 1, .sh)) y14) (stJ3_1 y0 y1 y2 y3 y4 y5 y6 y7 y8 y9 y10 y11 y14 _) (stK3 y0 y1 y2 y3 y4 y5 y6 y7 y8 y9 y10 y11 (some (.int 1, .sh)) y14 _ _ _)
    · exact tail1 (stI3 y0 y1 y2 y3 y4 y5 y6 y7 y8 y9 y10 y11 (some (.int 2, .sh)) y14) (stJ3_2 y0 y1 y2 y3 y4 y5 y6 y7 y8 y9 y10 y11 y14 _) (stK3 y0 y1 y2 y3 y4 y5 y6 y7 y8 y9 y10 y11 (some (.int 2, .sh)) y14 _ _ _)
    · exact tail1 (stI3 y0 y1 y2 y3 y4 y5 y6 y7 y8 y9 y10 y11 (some (.int 3, .sh)) y14) (stJ3_3 y0 y1 y2 y3 y4 y5 y6 y7 y8 y9 y10 y11 y14 _) (stK3 y0 y1 y2 y3 y4 y5 y6 y7 y8 y9 y10 y11 (some (.int 3, .sh)) y14 _ _ _)
    · exact tail1 (stI3 y0 y1 y2 y3 y4 y5 y6 y7 y8 y9 y10 y11 (some (.int 4, .sh)) y14) (stJ3_4 y0 y1 y2 y3 y4 y5 y6 y7 y8 y9 y10 y11 y14 _) (stK3 y0 y1 y2 y3 y4 y5 y6 y7 y8 y9 y10 y11 (some (.int 4, .sh)) y14 _ _ _)
    · exact tail1 (stI3 y0 y1 y2 y3 y4 y5 y6 y7 y8 y9 y10 y11 (some (.int 5, .sh)) y14) (stJ3_5 y0 y1 y2 y3 y4 y5 y6 y7 y8 y9 y10 y11 y14 _) (stK3 y0 y1 y2 y3 y4 y5 y6 y7 y8 y9 y10 y11 (some (.int 5, .sh)) y14 _ _ _)
    · exact tail1 (stI3 y0 y1 y2 y3 y4 y5 y6 y7 y8 y9 y10 y11 (some (.int 6, .sh)) y14) (stJ3_6 y0 y1 y2 y3 y4 y5 y6 y7 y8 y9 y10 y11 y14 _) (stK3 y0 y1 y2 y3 y4 y5 y6 y7 y8 y9 y10 y11 (some (.int 6, .sh)) y14 _ _ _)
  · rcases hd with rfl | rfl | rfl | rfl | rfl | rfl
    · exact tail1 (stI4 y0 y1 y2 y3 y4 y5 y6 y7 y8 y9 y10 y11 (some (.int 1, .sh)) y14) (stJ4_1 y0 y1 y2 y3 y4 y5 y6 y7 y8 y9 y10 y11 y14 _) (stK4 y0 y1 y2 y3 y4 y5 y6 y7 y8 y9 y10 y11 (some (.int 1, .sh)) y14 _ _ _)
    · exact tail1 (stI4 y0 y1 y2 y3 y4 y5 y6 y7 y8 y9 y10 y11 (some (.int 2, .sh)) y14) (stJ4_2 y0 y1 y2 y3 y4 y5 y6 y7 y8 y9 y10 y11 y14 _) (stK4 y0 y1 y2 y3 y4 y5 y6 y7 y8 y9 y10 y11 (some (.int 2, .sh)) y14 _ _ _)
    · exact tail1 (stI4 y0 y1 y2 y3 y4 y5 y6 y7 y8 y9 y10 y11 (some (.int 3, .sh)) y14) (stJ4_3 y0 y1 y2 y3 y4 y5 y6 y7 y8 y9 y10 y11 y14 _) (stK4 y0 y1 y2 y3 y4 y5 y6 y7 y8 y9 y10 y11 (some (.int 3, .sh)) y14 _ _ _)
    · exact tail1 (stI4 y0 y1 y2 y3 y4 y5 y6 y7 y8 y9 y10 y11 (some (.int 4, .sh)) y14) (stJ4_4 y0 y1 y2 y3 y4 y5 y6 y7 y8 y9 y10 y11 y14 _) (stK4 y0 y1 y2 y3 y4 y5 y6 y7 y8 y9 y10 y11 (some (.int 4, .sh)) y14 _ _ _)
    · exact tail1 (stI4 y0 y1 y2 y3 y4 y5 y6 y7 y8 y9 y10 y11 (some (.int 5, .sh)) y14) (stJ4_5 y0 y1 y2 y3 y4 y5 y6 y7 y8 y9 y10 y11 y14 _) (stK4 y0 y1 y2 y3 y4 y5 y6 y7 y8 y9 y10 y11 (some (.int 5, .sh)) y14 _ _ _)
    · exact tail1 (stI4 y0 y1 y2 y3 y4 y5 y6 y7 y8 y9 y10 y11 (some (.int 6, .sh)) y14) (stJ4_6 y0 y1 y2 y3 y4 y5 y6 y7 y8 y9 y10 y11 y14 _) (stK4 y0 y1 y2 y3 y4 y5 y6 y7 y8 y9 y10 y11 (some (.int 6, .sh)) y14 _ _ _)
theorem stC (m : Int) (h0 : 1 ≤ m) (h1 : m ≤ 6) (s dr : W) : xs CC tk0 gg T6 [some (s, .sh), some (dr, .own), some (hW, .sh), some (oneW, .own), some (.int m, .sh), some (twoW, .own), some (lowW, .sh), some (takW, .sh), none, none, none, none, none, none, none, none, none, none, none, none, none, none, none, none, none, none, none, none] = .nx [some (s, .sh), some (dr, .own), some (hW, .sh), some (oneW, .own), some (.int m, .sh), some (twoW, .own), some (lowW, .sh), some (takW, .sh), none, none, none, none, none, none, none, none, none, none, none, none, none, none, none, none, none, none, none, none] := by
  have : m = 1 ∨ m = 2 ∨ m = 3 ∨ m = 4 ∨ m = 5 ∨ m = 6 := by omega
  rcases this with rfl | rfl | rfl | rfl | rfl | rfl
  · exact stC1 s dr
  · exact stC2 s dr
  · exact stC3 s dr
  · exact stC4 s dr
  · exact stC5 s dr
  · exact stC6 s dr
theorem law_gen {C : Fn} {ρ0 ρ1 ρ2 ρ3 ρ4 ρ5 ρ6 ρ7 ρ8 ρ9 ρ10 ρ11 ρ12 ρ13 : Py.Env} {w : W} (h0 : xs C tk0 gg T0 ρ0 = .nx ρ1) (hA : xs C tk0 gg (sq [T1, T2, T3, T4] .nil) ρ1 = .nx ρ2) (h5 : xs C tk0 gg T5 ρ2 = .nx ρ3) (h6 : xs C tk0 gg T6 ρ3 = .nx ρ4) (h7 : xs C tk0 gg T7 ρ4 = .nx ρ5) (h8 : xs C tk0 gg T8 ρ5 = .nx ρ6) (h9 : xs C tk0 gg T9 ρ6 = .nx ρ7)
    (h10 : xs C tk0 gg T10 ρ7 = .nx ρ8) (h11 : xs C tk0 gg T11 ρ8 = .nx ρ9) (h12 : xs C tk0 gg T12 ρ9 = .nx ρ10) (h13 : xs C tk0 gg T13 ρ10 = .nx ρ11) (h14 : xs C tk0 gg T14 ρ11 = .nx ρ12) (hT : xs C tk0 gg TL ρ12 = .rt w false ρ13) : ofS I_law.fd (xs C tk0 gg S_law ρ0) = .ret w false [] := by
  rw [whole, seq_nx h0, sq_nx hA, seq_nx h5, seq_nx h6, seq_nx h7, seq_nx h8, seq_nx h9, seq_nx h10, seq_nx h11, seq_nx h12, seq_nx h13, seq_nx h14, hT]
  rfl
/-- the offers' part -/
theorem t12_at {ps : List (Qr × Qr)} (h : Of ps) (s dr : W) (y2 y3 y5 y6 y7 : Y) {n t : Nat} (hn : n ≤ 4) {w : W} (hw : PN ps n t w) :
    xs (rn 39) tk0 gg T12 [some (s, .sh), some (dr, .own), y2, y3, some (.int (n : Int), .sh), y5, y6, y7, some (.tup (ps.map oW), .sh), some (.int (t : Int), .sh), some (rt (PV ps n t), .sh), some (w, .sh), none, none, none, none, none, none, none, none, none, none, none, none, none, none, none, none] = .nx [some (s, .sh), some (dr, .own), y2, y3, some (.int (n : Int), .sh), y5, y6, y7, some (.tup (ps.map oW), .sh), some (.int (t : Int), .sh), some (rt (PV ps n t), .sh), some (w, .sh), none, none, none, none, none, none, none, none, none, none, none, none, none, none, none, none] := by
  rw [t12_is]
  cases n with
  | zero =>
    rcases hw with ⟨rfl, _⟩ | ⟨m, l, i, e, _⟩
    · exact t12_n (rn 39) LC12 s dr y2 y3 y5 y6 y7 _ _ _
    · omega
  | succ n =>
    cases t with
    | zero =>
      rcases hw with ⟨rfl, _⟩ | ⟨m, l, i, _, e, _⟩
      · exact t12_t (rn 39) LC12 s dr y2 y3 y5 y6 y7 _ _ _ (by omega)
      · omega
    | succ t =>
      have b1 := PV_bd h n (t + 1)
      have b2 := PV_bd h (n + 1) (t + 1)
      have z1 := BB_le (n := n) (by omega)
      have z2 := BB_le (n := n + 1) (by omega)
      have l1 : rn 39 41 [.tup (ps.map oW), .int (((n + 1 : Nat) : Int) - 1), .int ((t + 1 : Nat) : Int)] = .ret (rt (PV ps n (t + 1))) false [] := by
        rw [show ((n + 1 : Nat) : Int) - 1 = n by omega]
        exact lp_at h n (by omega) 39 (t + 1) (by omega)
      have l2 : rn 39 36 [rt (PV ps n (t + 1)), rt (PV ps (n + 1) (t + 1))] = .ret (.bl (rls (PV ps n (t + 1)) (PV ps (n + 1) (t + 1)))) false [] := ls_at rfl (by omega) (b1.m (by omega)) (b2.m (by omega))
      rcases hw with ⟨rfl, e⟩ | ⟨m, l, i, e1, e2, e3, rfl, e5⟩
      · have k : rls (PV ps n (t + 1)) (PV ps (n + 1) (t + 1)) = false := by
          rcases e with e | e | e
          · omega
          · omega
          · exact e
        rw [k] at l2
        exact t12_f (rn 39) LC12 s dr y2 y3 y5 y6 y7 _ rfl _ _ (by omega) (by omega) _ _ l1 l2
      · obtain rfl : m = n := by omega
        obtain rfl : l = t := by omega
        rw [e3] at l2
        refine t12_i (rn 39) LC12 s dr y2 y3 y5 y6 y7 _ rfl _ _ _ (by omega) (by omega) _ _ _ l1 l2 (lc12_ok (rn 39) s dr y2 y3 y5 y6 y7 _ _ _ _ _ _ (by rw [List.length_map]; have := h.1.1; omega) (by simp) fun k y hy => ?_) (mth_at _ _ e5)
        rw [List.getElem?_map, List.getElem?_map] at hy
        cases hk : ps[k]? with
        | none => rw [hk] at hy; cases hy
        | some q =>
          rw [hk] at hy
          obtain rfl : rt (ofv (PV ps m l) (PV ps m (l + 1)) q) = y := by simpa using hy
          exact ⟨rfl, lo_at h (by omega) (lp_at h m (by omega)) (by omega) hk⟩
theorem law_true (ns : List Int) (h : ns.length ≤ 63) : ∃ g, lawFn g 42 [.lst (ns.map W.int)] = .ret (.bl true) false [] := by
  refine ⟨gg, ?_⟩
  show run fsd tk0 gg 40 42 [.lst (ns.map W.int)] = _
  rw [run_at (fd := I_law.fd) rfl rfl]
  obtain ⟨d0, w0, e0⟩ := draw_at (D := 39) (by decide) h
  obtain ⟨r, d1, r0, r1, w1, e1⟩ := take_at (D := 39) (by decide) w0 (m := 6) (by decide) (by decide)
  obtain ⟨ps, d2, hO, w2, e2⟩ := lc7_ok (d := 39) (by decide) LS7 (fun ρ => ls7 _ ρ) (.lst (ns.map W.int)) w1 (some (hW, .sh)) (some (oneW, .own)) (some (twoW, .own)) (some (lowW, .sh)) (some (takW, .sh)) (some (.int (1 + r), .sh))
  obtain ⟨n, d3, n0, n1, w3, e3⟩ := take_at (D := 39) (by decide) w2 (m := 5) (by decide) (by decide)
  obtain ⟨t, d4, t0, t1, w4, e4⟩ := take_at (D := 39) (by decide) w3 (m := 4) (by decide) (by decide)
  obtain ⟨n, rfl⟩ : ∃ k : Nat, n = k := ⟨n.toNat, by omega⟩
  obtain ⟨t, rfl⟩ : ∃ k : Nat, t = k := ⟨t.toNat, by omega⟩
  obtain ⟨w, hw, e5⟩ := pn_at hO (n := n) (t := t) (D := 39) (by omega) (by omega) (by decide)
  obtain ⟨a, d5, a0, a1, w5, e6⟩ := take_at (D := 39) (by decide) w4 (m := 4) (by decide) (by decide)
  obtain ⟨b, d6, b0, b1, w6, e7⟩ := take_at (D := 39) (by decide) w5 (m := 6) (by decide) (by decide)
  obtain ⟨c, d7, c0, c1, w7, e8⟩ := take_at (D := 39) (by decide) w6 (m := 12) (by decide) (by decide)
  have l9 := lp_at hO n (by omega) 39 t (by omega)
  have l10 := pw_at hO (n := n) (t := t) (D := 39) (by omega) (by omega) (by decide)
  have rc : rn 39 20 [.int (1 + a), .int (1 + b), .int (1 + c)] = .ret (.int (if 1 + c < 1 + b then 1 + c else 1 + b - 1 + (1 + a))) false [] := by
    rw [show rn 39 20 _ = _ from run_at (fd := I_rent_cost.fd) rfl rfl]
    exact rc_ok (rn 38) (1 + a) (1 + b) (1 + c)
  obtain ⟨ρF, tl⟩ := tail (1 + a) (1 + b) (by omega) (by omega) (by omega) (by omega) (some (.lst (ns.map W.int), .sh)) (some (d7, .own)) (some (hW, .sh)) (some (oneW, .own)) (some (.int (n : Int), .sh)) (some (twoW, .own)) (some (lowW, .sh)) (some (takW, .sh)) (some (.tup (ps.map oW), .sh)) (some (.int (t : Int), .sh)) (some (rt (PV ps n t), .sh)) (some (w, .sh)) (some (.int (1 + c), .sh))
  have di : isD w = false := by
    rcases hw with ⟨rfl, _⟩ | ⟨_, _, _, _, _, _, rfl, _⟩ <;> rfl
  have hA := stA (.lst (ns.map W.int)) d0
  rw [← CC_eq] at hA tl
  have hC := stC (1 + r) (by omega) (by omega) (.lst (ns.map W.int)) d1
  rw [← CC_eq] at hC
  exact law_gen (t0_ok (rn 39) _ d0 rfl e0) hA (t5_ok (rn 39) _ d0 d1 _ _ _ _ _ (.int 6) r e1) hC
    (by rw [t7_is]; exact t7_ok (rn 39) (LC7 LS7) _ d1 d2 _ _ _ _ _ _ (ps.map oW) e2) (t8_ok (rn 39) _ d2 d3 d4 _ _ _ _ _ _ _ _ _ e3 e4) (t9_ok (rn 39) _ d4 _ _ _ _ _ _ rfl _ _ _ l9) (t10_ok (rn 39) _ d4 _ _ _ _ _ _ rfl _ _ _ l10) (t11_ok (rn 39) _ d4 _ _ _ _ _ _ w _ rfl _ _ e5)
    (t12_at hO _ d4 _ _ _ _ _ (by omega) hw) (t13_ok (rn 39) _ d4 d5 d6 d7 _ _ _ _ _ _ _ _ _ _ a b c e6 e7 e8) (t14_ok (rn 39) _ d7 _ _ _ _ _ _ _ _ _ _ _ _ _ rc) tl
end K37

open PySem PySem.W PySem.Calls PyProof.Rows
theorem PySem.Challenge.cw_worthstopping_k37_draws_prices_and_rents_holds : PySem.Challenge.rw_worthstopping_k37_draws_prices_and_rents.Holds := by
  w_on; o_law
  refine HandSHeadRun.head_any (r := OpenLaw.row PySem.Challenge.rw_worthstopping_k37_draws_prices_and_rents) (q := view (OpenLaw.row PySem.Challenge.rw_worthstopping_k37_draws_prices_and_rents).prog [48]) (H := K37.hk) (ob := K37.ob) (M := 3000) (loose := K37.looseL) (d := HandSHeadRun.topDef (OpenLaw.row PySem.Challenge.rw_worthstopping_k37_draws_prices_and_rents).prog 48) (kwd := []) K37.ob_eq
    (by kernel_rfl) (fun s => by kernel_rfl) K37.runs (by kernel_rfl) (by kernel_rfl) (by kernel_rfl) (by rfl) (by first | assumption | decide +kernel) (by decide +kernel) ⟨rfl, rfl, rfl, rfl, rfl, by decide +kernel⟩ ?hw ?hc
  case hw => w_witness2
  case hc =>
    refine L2.walk_ofE (l := PySem.Challenge.rw_worthstopping_k37_draws_prices_and_rents) (n := 63) (k := 40) (x := "script") (CX := L2.CX0) rfl (by decide) (by kernel_rfl) ⟨rfl, by decide, by decide⟩ ?F (fun _ _ _ _ z => z)
    intro w mg fa h Y G hm0
    obtain ⟨K, KX, c⟩ := Y
    have hm : mg ("law" : PySem.Str) = some (.ref fa) := by
      have e : (HandSHeadRun.topDef (OpenLaw.row PySem.Challenge.rw_worthstopping_k37_draws_prices_and_rents).prog 48).name = ("law" : PySem.Str) := by kernel_rfl
      rw [← e]
      exact hm0
    letI : Py.HW := ⟨(PySem.Challenge.rw_worthstopping_k37_draws_prices_and_rents).prog, w⟩
    obtain ⟨hl, fd, hb, hF⟩ := K37.facts (P := (PySem.Challenge.rw_worthstopping_k37_draws_prices_and_rents).prog) (w := w) ⟨rfl, rfl⟩ KX G hm c
    refine ⟨K, fd, K37.spLaw K, KX, hb, fun H a ns hn _ hS => ?_, hF⟩
    obtain ⟨g, hg⟩ := K37.law_true ns hn
    exact ⟨g, Py.spF_law rfl rfl (by decide) hl (Nat.le_trans hn (by decide)) hS hg⟩

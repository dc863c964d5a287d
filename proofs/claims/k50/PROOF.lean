import PyProof.Rows.All
import Wide.All
import OpenK.AllK
import Wide.FinOn
import KE.DataAny
import KE.LtData
import HandS.List
import PyProof.ReprReads
import HandS.ForMost
import HandS.Dict
import HandS.ForExc
import HandS.Flow
import HandS.Deep
import HandS.Walk
import HandS.TupAny
import HandS.TupMul
import HandS.Wide
import KE.SortData
import KE.DataCmp
import KE.DataIsa
import KE.DataEq
import PyProof.MaxThree
import PyProof.ListRange
import KE.KRevSl
import HandS.Zip
import KE.GoesEnum
import KE.GoesMore
import HandS.Conv
import HandS.Comp
import HandS.TryOnly
import HandS.RaiseMore
import HandS.Style
import KE.KExcSuper
import KE.KSuper
import HandS.TryMany
import HandS.ExcField
import HandS.DictTup
import HandS.TupSets
import KE.KDictCopyH
import HandS.DictComp
import HandS.Words
import HandS.Codes
import HandS.ExcIs
import PySem.Challenge.RW_patternkinds_k50_whole_weights_and_prefi
section
set_option autoImplicit false
/-! PkSem: a small language of expressions and statements over plain data (PyData), with its evaluation: lists and dicts that a def changes
stand in its own slots (mu), all else are values. Nothing of the machine is in sight here. -/
namespace PK
open PySem (PyData Str)

inductive Bop | add | sub | mul | fdiv | mod | pow | shl | shr | bor | band
  deriving DecidableEq
inductive Cop | eq | ne | lt | le | gt | ge | inn | nin | is | isn
  deriving DecidableEq
inductive Ty | int | bool | str | tuple | list | dict
  deriving DecidableEq
inductive Bi | abs | all | any | bool | int | len | list | max | min | repr | set | sorted | str | sum | tuple | dict | ord | chr
  deriving DecidableEq
/-- the target of a for -/
inductive Tg | one (i : Nat) | many (is : List Nat)
/-- a changeable thing in a slot: the def's own, the caller's, locked by a walk over it -/
inductive Mk | ow | io | lk
  deriving DecidableEq
inductive Slot
  | un
  | va (d : PyData)
  | mu (k : Mk) (d : PyData)
  | ex (c : Nat) (d : PyData)
abbrev Env := List Slot
/-- an expression's value: data, a fresh changeable thing, the thing in a slot -/
inductive EV
  | val (d : PyData)
  | nw (d : PyData)
  | loc (i : Nat)
inductive Res (α : Type)
  | ok (a : α)
  | exc (c : Nat) (d : PyData) (g : Env)
  | bad
def Res.bind {α β : Type} (r : Res α) (f : α → Res β) : Res β := match r with
  | .ok a => f a
  | .exc c d g => .exc c d g
  | .bad => .bad
def Res.quiet {α : Type} (r : Res α) : Res α := match r with
  | .exc _ _ _ => .bad
  | r => r
def Res.of {α : Type} (o : Option α) : Res α := match o with
  | some a => .ok a
  | none => .bad
@[simp] theorem Res.bind_ok {α β : Type} (a : α) (f : α → Res β) : (Res.ok a).bind f = f a := rfl
@[simp] theorem Res.bind_bad {α β : Type} (f : α → Res β) : (Res.bad : Res α).bind f = .bad := rfl
@[simp] theorem Res.bind_exc {α β : Type} (c : Nat) (d : PyData) (g : Env) (f : α → Res β) : (Res.exc c d g : Res α).bind f = .exc c d g := rfl
@[simp] theorem Res.quiet_ok {α : Type} (a : α) : (Res.ok a).quiet = .ok a := rfl
@[simp] theorem Res.of_some {α : Type} (a : α) : Res.of (some a) = .ok a := rfl
@[simp] theorem Res.of_none {α : Type} : Res.of (none : Option α) = .bad := rfl
/-- a call's end: its value (fresh or not), what the thing that was handed over to be changed holds now -/
inductive CR
  | ok (fresh : Bool) (d : PyData) (out : Option PyData)
  | exc (c : Nat) (d : PyData)
  | bad
structure Calls where
  call : Nat → List PyData → CR
  io : Nat → Bool
  fuel : Nat
  glob : Nat → Option PyData

mutual
inductive E
  | lit (d : PyData)
  | glb (k : Nat)
  | var (i : Nat)
  | bop (o : Bop) (a b : E)
  | neg (a : E)
  | nt (a : E)
  | and (es : Es)
  | or (es : Es)
  | cmp (o : Cop) (a b : E)
  | cmp2 (o p : Cop) (a b c : E)
  | ife (c a b : E)
  | call (f : Nat) (es : Es)
  | cio (f i : Nat) (es : Es)
  | bi (b : Bi) (es : Es)
  | isa (a : E) (t : Ty)
  | lrg (es : Es)
  | rep (a k : E)
  | idx (a i : E)
  | slc (a : E) (lo hi : Oe)
  | rev (a : E)
  | tup (es : Es)
  | lst (es : Es)
  | att (i : Nat)
  | comp (e : E) (t : Tg) (it : It) (c : Oe) (own : List Nat)
  | dnew
  | dcomp (k v : E) (t : Tg) (it : It) (c : Oe) (own : List Nat)
  | din (neg : Bool) (a : E) (i : Nat)
  | dgt (i : Nat) (a : E)
  | dgo (i : Nat) (a : E) (x : Oe)
  | dso (i : Nat)
  | sset (a : E)
  | slen (a : E)
  | lzip (a b : E)
  | comp2 (e : E) (t : Tg) (it : It) (c : Oe) (t1 : Tg) (it1 : It) (c1 : Oe) (own own1 : List Nat)
inductive Es
  | nil
  | cons (a : E) (es : Es)
inductive Oe
  | none
  | some (a : E)
inductive It
  | of (a : E)
  | rng (es : Es)
  | enum (a : E)
  | zip (a b : E)
end
mutual
inductive S
  | asg (i : Nat) (own : Bool) (e : E)
  | unp (is : List Nat) (e : E)
  | par (is : List (Nat × Bool)) (es : Es)
  | setI (i : Nat) (k e : E)
  | setD (i : Nat) (k e : E)
  | aug (o : Bop) (i : Nat) (e : E)
  | app (i : Nat) (e : E)
  | ext (i : Nat) (e : E)
  | ex (e : E)
  | ite (c : E) (a b : Ss)
  | whl (c : E) (b : Ss)
  | fr (t : Tg) (it : It) (b : Ss)
  | ret (e : E)
  | retN
  | raise0 (c : Nat)
  | raise1 (c : Nat) (e : E)
  | raiseF (c : Nat) (e : E)
  | tr (b : Ss) (hs : Hs)
  | pass
  | brk
  | cnt
inductive Ss
  | nil
  | cons (s : S) (ss : Ss)
inductive Hs
  | nil
  | cons (c : Nat) (i : Option Nat) (b : Ss) (hs : Hs)
end

/-! ### slots -/
/-- a value that is no dict: dicts are read by their own rules alone -/
def ndc : PyData → Option PyData
  | .dict _ => none
  | d => some d
def Slot.get : Slot → Option PyData
  | .va d => some d
  | .mu _ d => ndc d
  | _ => none
/-- a slot's dict -/
def Slot.dic : Slot → Option (List (PyData × PyData))
  | .mu _ (.dict kvs) => some kvs
  | _ => none
/-- what a value is just now -/
def EV.get (g : Env) : EV → Option PyData
  | .val d => some d
  | .nw d => ndc d
  | .loc i => (g[i]?).bind Slot.get
/-- a value handed on for good: a thing of a slot is never changed again -/
def EV.fz (g : Env) : EV → Option (PyData × Env)
  | .val d => some (d, g)
  | .nw d => (ndc d).map fun d => (d, g)
  | .loc i => match g[i]? with
    | some (.va d) => some (d, g)
    | some (.mu .ow d) => (ndc d).map fun d => (d, g.set i (.va d))
    | _ => none
/-- a slot is stored -/
def Env.put (g : Env) (i : Nat) (s : Slot) : Option Env := match g[i]? with
  | some (.mu .io _) => none
  | some (.mu .lk _) => none
  | some _ => some (g.set i s)
  | none => none
/-- the content of a slot's own thing changes -/
def Env.chg (g : Env) (i : Nat) (f : PyData → Option PyData) : Option Env := match g[i]? with
  | some (.mu .ow d) => (f d).map fun d' => g.set i (.mu .ow d')
  | some (.mu .io d) => (f d).map fun d' => g.set i (.mu .io d')
  | _ => none
def wipe (g : Env) : List Nat → Env
  | [] => g
  | v :: vs => (wipe g vs).set v .un
/-- the slots vs as they stand in g0 -/
def back (g0 g : Env) : List Nat → Env
  | [] => g
  | v :: vs => match g0[v]? with
    | some s => (back g0 g vs).set v s
    | none => back g0 g vs
mutual
def noList : PyData → Bool
  | .list _ => false
  | .dict _ => false
  | .tuple ds => noLists ds
  | _ => true
def noLists : List PyData → Bool
  | [] => true
  | d :: ds => noList d && noLists ds
end

/-! ### operations upon data -/
def line : Nat := 16777216
def isWide (i : Int) : Bool := decide (i.natAbs.log2 < 64)
def isSmall (i : Int) : Bool := decide (i.natAbs.log2 < 62)
theorem log_lt {i : Int} {k : Nat} (h : i.natAbs.log2 < k) (hk : 0 < k) : i.natAbs < 2 ^ k := by
  by_cases h0 : i.natAbs = 0
  · rw [h0]; exact Nat.pow_pos (by decide)
  · exact (Nat.log2_lt h0).mp h
theorem isWide_of {i : Int} (h : isWide i = true) : -(2 ^ 64) < i ∧ i < 2 ^ 64 := by
  have := log_lt (of_decide_eq_true h) (by decide)
  omega
theorem isSmall_of {i : Int} (h : isSmall i = true) : -(2 ^ 62) ≤ i ∧ i < 2 ^ 62 := by
  have := log_lt (of_decide_eq_true h) (by decide)
  omega
theorem wide_ok {i : Int} (h1 : -1000000 < i) (h2 : i < 1000000) : isWide i = true := by
  apply decide_eq_true
  by_cases h0 : i.natAbs = 0
  · rw [h0]; decide
  · exact (Nat.log2_lt h0).mpr (by omega)
theorem small_ok {i : Int} (h1 : -1000000 < i) (h2 : i < 1000000) : isSmall i = true := by
  apply decide_eq_true
  by_cases h0 : i.natAbs = 0
  · rw [h0]; decide
  · exact (Nat.log2_lt h0).mpr (by omega)
def bopI (o : Bop) (i j : Int) : Option PyData := match o with
  | .add => some (.int (i + j))
  | .sub => some (.int (i - j))
  | .mul => if isWide i || isWide j then some (.int (i * j)) else none
  | .fdiv => if 0 < j ∧ j.natAbs.log2 < 30 then some (.int (i / j)) else none
  | .mod => if 0 < j then some (.int (i % j)) else none
  | _ => none
/-- the value, and whether it is a fresh list -/
def bop (o : Bop) (a b : PyData) : Option (Bool × PyData) := match a, b with
  | .int i, .int j => (bopI o i j).map fun d => (false, d)
  | .str x, .str y => if o = .add then (if x.length + y.length ≤ line then some (false, .str (x ++ y)) else none) else none
  | .tuple xs, .tuple ys => if o = .add then (if xs.length + ys.length ≤ line then some (false, .tuple (xs ++ ys)) else none) else none
  | .list xs, .list ys => if o = .add then (if xs.length + ys.length ≤ line then some (true, .list (xs ++ ys)) else none) else none
  | .tuple xs, .int k => if o = .mul then (if xs.isEmpty = false ∧ 2 ≤ k ∧ k ≤ 1000 ∧ xs.length ≤ 1000 then some (false, .tuple (List.replicate k.toNat xs).flatten) else none) else none
  | _, _ => none
def shap (d : PyData) : Bool := d.plain && decide (d.depth ≤ 60)
/-- a value's truth -/
def tru : PyData → Option Bool
  | .none => some false
  | .bool b => some b
  | .int i => some (i != 0)
  | .str z => if z.length ≤ line then some ((z.length : Int) != 0) else none
  | .list xs => some (!xs.isEmpty)
  | .tuple xs => some (!xs.isEmpty)
  | .dict _ => none
def isNone : PyData → Bool
  | .none => true
  | _ => false
def items : PyData → Option (List PyData)
  | .list xs => some xs
  | .tuple xs => some xs
  | _ => none
def cop (o : Cop) (a b : PyData) : Option Bool := match o with
  | .eq => if shap a && shap b then some (PyData.eqv a b) else none
  | .ne => if shap a && shap b then some (!PyData.eqv a b) else none
  | .lt => if PySem.W.alike a b && shap a && shap b && !isNone a then some (PySem.W.dataLt a b) else none
  | .gt => if PySem.W.alike a b && shap a && shap b && !isNone a then some (PySem.W.dataLt b a) else none
  | .le => if PySem.W.alike a b && shap a && shap b && !isNone a then some (!PySem.W.dataLt b a) else none
  | .ge => if PySem.W.alike a b && shap a && shap b && !isNone a then some (!PySem.W.dataLt a b) else none
  | .inn => match items b with
    | some xs => if shap a && shap b then some (xs.any fun y => PyData.eqv y a) else none
    | none => none
  | .nin => match items b with
    | some xs => if shap a && shap b then some (!xs.any fun y => PyData.eqv y a) else none
    | none => none
  | .is => if isNone b then some (isNone a) else none
  | .isn => if isNone b then some (!isNone a) else none
def Ty.has : Ty → PyData → Bool
  | .int, .int _ => true
  | .int, .bool _ => true
  | .bool, .bool _ => true
  | .str, .str _ => true
  | .tuple, .tuple _ => true
  | .list, .list _ => true
  | .dict, .dict _ => true
  | _, _ => false
def ix (a i : PyData) : Option PyData := match a, i with
  | .list xs, .int k => (L2.ixN xs.length k).bind fun j => xs[j]?
  | .tuple xs, .int k => (L2.ixN xs.length k).bind fun j => xs[j]?
  | .str z, .int k => if z.length ≤ line then (L2.ixN z.cps.size k).bind fun j => (z.cps[j]?).map fun c => .str ⟨#[c]⟩ else none
  | _, _ => none
def cut {α : Type} (xs : List α) (lo hi : Option Int) : List α := (xs.drop (HT.sIx xs.length 0 lo)).take (HT.sIx xs.length xs.length hi - HT.sIx xs.length 0 lo)
def optI : Option PyData → Option (Option Int)
  | none => some none
  | some (.int i) => some (some i)
  | _ => none
def anInt : PyData → Option PyData
  | .int i => some (.int i)
  | _ => none
def slc (a : PyData) (lo hi : Option PyData) : Option (Bool × PyData) := match optI lo, optI hi with
  | some l, some h => match a with
    | .list xs => some (true, .list (cut xs l h))
    | .tuple xs => some (false, .tuple (cut xs l h))
    | .str z => if z.length ≤ line then some (false, .str ⟨(cut z.cps.toList l h).toArray⟩) else none
    | _ => none
  | _, _ => none
def rev (a : PyData) : Option (Bool × PyData) := match a with
  | .list xs => some (true, .list xs.reverse)
  | .tuple xs => some (false, .tuple xs.reverse)
  | _ => none
def intsD : List PyData → Option (List Int)
  | [] => some []
  | .int i :: ds => (intsD ds).map (i :: ·)
  | _ => none
def boolsD : List PyData → Option (List Bool)
  | [] => some []
  | .bool i :: ds => (boolsD ds).map (i :: ·)
  | _ => none
def minL (x : Int) : List Int → Int
  | [] => x
  | y :: ys => minL (if y < x then y else x) ys
def maxL (x : Int) : List Int → Int
  | [] => x
  | y :: ys => maxL (if y > x then y else x) ys
def rangeL (lo : Int) (n : Nat) : List PyData := (List.range n).map fun (k : Nat) => .int (lo + k)
/-- lo and the number of turns -/
def rng : List PyData → Option (Int × Nat)
  | [.int j] => if isSmall j then some (0, j.toNat) else none
  | [.int i, .int j] => if isSmall i && isSmall j then some (i, (j - i).toNat) else none
  | _ => none
def alikeAll2 (ds : List PyData) : Bool := ds.all fun d => ds.all fun e => PySem.W.alike d e
def isTupC : PyData → Bool
  | .tuple (_ :: _) => true
  | _ => false
def notTupN : PyData → Bool
  | .tuple _ => false
  | .none => false
  | _ => true
def sortedD (ds : List PyData) : Option (List PyData) :=
  if alikeAll2 ds && ds.all shap && (ds.all isTupC || ds.all notTupN) then some (ds.mergeSort fun a b => !PySem.W.dataLt b a) else none
/-- a built-in's value, and whether it is a fresh thing -/
def bi (b : Bi) (as : List PyData) : Option (Bool × PyData) := match b, as with
  | .abs, [.int i] => some (false, .int (if i < 0 then -i else i))
  | .all, [.list ds] => (boolsD ds).map fun bs => (false, .bool (bs.all id))
  | .any, [.list ds] => (boolsD ds).map fun bs => (false, .bool (bs.any id))
  | .bool, [.bool b] => some (false, .bool b)
  | .bool, [.int i] => some (false, .bool (i != 0))
  | .int, [.int i] => some (false, .int i)
  | .int, [.bool b] => some (false, .int (if b then 1 else 0))
  | .len, [.list ds] => some (false, .int ds.length)
  | .len, [.tuple ds] => some (false, .int ds.length)
  | .len, [.str z] => if z.length ≤ line then some (false, .int z.length) else none
  | .list, [.list ds] => some (true, .list ds)
  | .list, [.tuple ds] => some (true, .list ds)
  | .tuple, [.list ds] => some (false, .tuple ds)
  | .tuple, [.tuple ds] => some (false, .tuple ds)
  | .min, [.int i, .int j] => some (false, .int (if j < i then j else i))
  | .max, [.int i, .int j] => some (false, .int (if j > i then j else i))
  | .min, [.int i, .int j, .int k] => some (false, .int (minL i [j, k]))
  | .max, [.int i, .int j, .int k] => some (false, .int (maxL i [j, k]))
  | .min, [.list ds] => match intsD ds with
    | some (x :: xs) => some (false, .int (minL x xs))
    | _ => none
  | .max, [.list ds] => match intsD ds with
    | some (x :: xs) => some (false, .int (maxL x xs))
    | _ => none
  | .sum, [.list ds] => (intsD ds).map fun is => (false, .int is.sum)
  | .sorted, [.list ds] => (sortedD ds).map fun r => (true, .list r)
  | .repr, [d] => if d.showable && !d.hasDict && decide (d.depth ≤ 60) && decide (d.shown.length ≤ line) then some (false, .str d.shown) else none
  | _, _ => none
def mk (p : Bool × PyData) : EV := if p.1 then .nw p.2 else .val p.2
/-- a dict's key: a tuple of whole numbers and texts -/
def keyLs : List PyData → Option (List L2.Key)
  | [] => some []
  | .int i :: ds => (keyLs ds).map (Sum.inl i :: ·)
  | .str x :: ds => (keyLs ds).map (Sum.inr x :: ·)
  | _ => none
def keyL : PyData → Option (List L2.Key)
  | .tuple ds => keyLs ds
  | _ => none
def dval (kvs : List (PyData × PyData)) (k : List L2.Key) : Option PyData := (kvs.find? fun p => decide (keyL p.1 = some k)).map (·.2)
def dput (kvs : List (PyData × PyData)) (k v : PyData) : List (PyData × PyData) :=
  if kvs.any fun p => decide (keyL p.1 = keyL k) then kvs.map fun p => if keyL p.1 = keyL k then (p.1, v) else p else kvs ++ [(k, v)]
/-- d[k] = v -/
def setDx (k v : PyData) : PyData → Option PyData
  | .dict kvs => match keyL k with
    | some _ => if kvs.length < line then some (.dict (dput kvs k v)) else none
    | none => none
  | _ => none
def dicOf (g : Env) (i : Nat) : Option (List (PyData × PyData)) := (g[i]?).bind Slot.dic
/-- the first ones of equal tuples of whole numbers -/
def isInts : PyData → Option (List Int)
  | .tuple ds => intsD ds
  | _ => none
def firsts (xs : List PyData) : List PyData := xs.foldl (fun acc x => if acc.any fun y => decide (isInts y = isInts x) then acc else acc ++ [x]) []
def setOk (xs : List PyData) : Bool := xs.all (fun x => (isInts x).isSome) && decide (xs.length < 64)
/-- sorted(set(xs)): tuples of whole numbers, or whole numbers -/
def ssetD (d : PyData) : Option PyData := match d with
  | .list xs => if setOk xs then (sortedD (firsts xs)).map .list else none
  | _ => none
def slenD (d : PyData) : Option PyData := match d with
  | .list xs => if setOk xs then some (.int (firsts xs).length) else none
  | _ => none
def lzipD (a b : PyData) : Option PyData := match items a, items b with
  | some xs, some ys => some (.list (xs.zipWith (fun x y => .tuple [x, y]) ys))
  | _, _ => none

/-! ### evaluation -/
/-- what is walked: the items, the slots that are locked meanwhile (newest first) -/
structure Walk where
  its : List PyData
  env : Env
  lks : List (Nat × Mk)
/-- a walk over a value: the items, the slot locked -/
def lock1 (g : Env) (x : EV) : Option (List PyData × Env × List (Nat × Mk)) := match x with
  | .val d => (items d).map fun xs => (xs, g, [])
  | .nw d => (items d).map fun xs => (xs, g, [])
  | .loc i => match g[i]? with
    | some (.va d) => (items d).map fun xs => (xs, g, [])
    | some (.mu k d) => (items d).map fun xs => (xs, g.set i (.mu .lk d), [(i, k)])
    | _ => none
def unlock (g : Env) : List (Nat × Mk) → Env
  | [] => g
  | (i, k) :: l => unlock (match g[i]? with | some (.mu _ d) => g.set i (.mu k d) | _ => g) l
def enumD (xs : List PyData) : List PyData := (List.range xs.length).zipWith (fun (k : Nat) x => .tuple [.int k, x]) xs
def sameK : PyData → PyData → Option Unit
  | .list _, .list _ => some ()
  | .tuple _, .tuple _ => some ()
  | _, _ => none
def zipD (xs ys : List PyData) : List PyData := xs.zipWith (fun x y => .tuple [x, y]) ys
def putAll (g : Env) : List Nat → List PyData → Option Env
  | [], [] => some g
  | i :: is, d :: ds => (g.put i (.va d)).bind fun g' => putAll g' is ds
  | _, _ => none
def bindT (g : Env) (t : Tg) (d : PyData) : Option Env := match t with
  | .one i => g.put i (.va d)
  | .many is => match d with
    | .tuple ds => putAll g is ds
    | _ => none
def gets (g : Env) : List EV → Option (List PyData)
  | [] => some []
  | x :: xs => (x.get g).bind fun d => (gets g xs).map (d :: ·)
/-- the things lent out are never changed again -/
def frzAll (g : Env) : List EV → Option Env
  | [] => some g
  | x :: xs => (x.fz g).bind fun p => frzAll p.2 xs
def inner (fresh : Bool) (d : PyData) : Bool := if fresh then (match d with | .list xs => noLists xs | _ => false) else noList d
def callE (C : Calls) (f : Nat) (xs : List EV) (g : Env) : Res (EV × Env) := match gets g xs with
  | none => .bad
  | some ds => if C.io f then .bad else match C.call f ds with
    | .bad => .bad
    | .exc c d => .exc c d g
    | .ok fr d _ => if inner fr d then .ok (mk (fr, d), g) else match frzAll g xs with
        | none => .bad
        | some g2 => .ok (mk (fr, d), g2)
/-- a call that may change the thing in slot i -/
def callIO (C : Calls) (f i : Nat) (ds : List PyData) (g : Env) : Res (EV × Env) := if C.io f then (match g[i]? with
    | some (.mu .ow d) => (match C.call f (d :: ds) with
      | .ok fr r (some d') => .ok (mk (fr, r), g.set i (.mu .ow d'))
      | _ => .bad)
    | some (.mu .io d) => (match C.call f (d :: ds) with
      | .ok fr r (some d') => .ok (mk (fr, r), g.set i (.mu .io d'))
      | _ => .bad)
    | _ => .bad) else .bad
/-- a comprehension's loop -/
def compL (own : List Nat) (turn : Env → PyData → Res (Option PyData × Env)) : List PyData → List PyData → Env → Res (List PyData × Env)
  | [], acc, g => .ok (acc, g)
  | x :: xs, acc, g => (turn (wipe g own) x).bind fun p => match p.1 with
    | none => compL own turn xs acc p.2
    | some y => if acc.length < line then compL own turn xs (acc ++ [y]) p.2 else .bad
/-- .. with a second source -/
def comp2L (own own1 : List Nat) (turn : Env → PyData → Res (Option (List PyData) × Env)) (turn1 : Env → PyData → Res (Option PyData × Env)) : List PyData → List PyData → Env → Res (List PyData × Env)
  | [], acc, g => .ok (acc, g)
  | x :: xs, acc, g => (turn (wipe g own) x).bind fun p => match p.1 with
    | none => comp2L own own1 turn turn1 xs acc p.2
    | some its => (compL own1 turn1 its acc p.2).bind fun q => comp2L own own1 turn turn1 xs q.1 q.2

/-- an evaluation whose value is handed on for good -/
def fzF (f : Env → Res (EV × Env)) (g : Env) : Res (PyData × Env) := (f g).bind fun p => Res.of (p.1.fz p.2)
/-- an evaluation as a test -/
def tstF (f : Env → Res (EV × Env)) (g : Env) : Res (Bool × Env) := (f g).bind fun p => (Res.of ((p.1.get p.2).bind tru)).bind fun k => .ok (k, p.2)

/-- one turn of a comprehension -/
def turnF (t : Tg) (fc : Env → Res (Bool × Env)) (fe : Env → Res (EV × Env)) (g : Env) (x : PyData) : Res (Option PyData × Env) :=
  (Res.of (bindT g t x)).bind fun g1 => (fc g1).bind fun p => if p.1 then (fzF fe p.2).bind fun r => .ok (some r.1, r.2) else .ok (none, p.2)
def turn2F (t : Tg) (fc : Env → Res (Bool × Env)) (fi : Env → Res (List PyData × Env)) (g : Env) (x : PyData) : Res (Option (List PyData) × Env) :=
  (Res.of (bindT g t x)).bind fun g1 => (fc g1).bind fun p => if p.1 then (fi p.2).bind fun w1 => .ok (some w1.1, w1.2) else .ok (none, p.2)
def compF (own : List Nat) (t : Tg) (fi : Env → Res Walk) (fc : Env → Res (Bool × Env)) (fe : Env → Res (EV × Env)) (g : Env) : Res (EV × Env) :=
  (fi g).bind fun w => (compL own (turnF t fc fe) w.its [] w.env).quiet.bind fun q => .ok (.nw (.list q.1), unlock (back w.env q.2 own) w.lks)
def comp2F (own own1 : List Nat) (t t1 : Tg) (fi : Env → Res Walk) (fi1 : Env → Res (List PyData × Env)) (fc fc1 : Env → Res (Bool × Env)) (fe : Env → Res (EV × Env)) (g : Env) : Res (EV × Env) :=
  (fi g).bind fun w => (comp2L own own1 (turn2F t fc fi1) (turnF t1 fc1 fe) w.its [] w.env).quiet.bind fun q => .ok (.nw (.list q.1), unlock (back w.env q.2 own) w.lks)

/-- a dict comprehension -/
def dcompL (own : List Nat) (turn : Env → PyData → Res (Option (PyData × PyData) × Env)) : List PyData → List (PyData × PyData) → Env → Res (List (PyData × PyData) × Env)
  | [], acc, g => .ok (acc, g)
  | x :: xs, acc, g => (turn (wipe g own) x).bind fun p => match p.1 with
    | none => dcompL own turn xs acc p.2
    | some y => match keyL y.1 with
      | some _ => if acc.length < line then dcompL own turn xs (dput acc y.1 y.2) p.2 else .bad
      | none => .bad
def dturnF (t : Tg) (fc : Env → Res (Bool × Env)) (fk fv : Env → Res (EV × Env)) (g : Env) (x : PyData) : Res (Option (PyData × PyData) × Env) :=
  (Res.of (bindT g t x)).bind fun g1 => (fc g1).bind fun p => if p.1 then (fzF fk p.2).bind fun r => (fzF fv r.2).bind fun s => .ok (some (r.1, s.1), s.2) else .ok (none, p.2)
def dcompF (own : List Nat) (t : Tg) (fi : Env → Res Walk) (fc : Env → Res (Bool × Env)) (fk fv : Env → Res (EV × Env)) (g : Env) : Res (EV × Env) :=
  (fi g).bind fun w => (dcompL own (dturnF t fc fk fv) w.its [] w.env).quiet.bind fun q => .ok (.nw (.dict q.1), unlock (back w.env q.2 own) w.lks)

mutual
def evE (C : Calls) : E → Env → Res (EV × Env)
  | .lit d, g => .ok (.val d, g)
  | .glb k, g => (Res.of (C.glob k)).bind fun d => .ok (.val d, g)
  | .var i, g => match g[i]? with
    | some (.va d) => .ok (.val d, g)
    | some (.mu _ _) => .ok (.loc i, g)
    | _ => .bad
  | .bop o a b, g => (evE C a g).bind fun p => (evE C b p.2).bind fun q =>
      (Res.of ((p.1.get q.2).bind fun x => (q.1.get q.2).bind fun y => bop o x y)).bind fun r => .ok (mk r, q.2)
  | .neg a, g => (evE C a g).bind fun p => match p.1.get p.2 with
    | some (.int i) => .ok (.val (.int (-i)), p.2)
    | _ => .bad
  | .nt a, g => (tstF (evE C a) g).bind fun p => .ok (.val (.bool (!p.1)), p.2)
  | .and es, g => evAnd C es g
  | .or es, g => evOr C es g
  | .cmp o a b, g => (evE C a g).bind fun p => (evE C b p.2).bind fun q =>
      (Res.of ((p.1.get q.2).bind fun x => (q.1.get q.2).bind fun y => cop o x y)).bind fun r => .ok (.val (.bool r), q.2)
  | .cmp2 o o2 a b c, g => (evE C a g).bind fun p => (evE C b p.2).bind fun q =>
      (Res.of ((p.1.get q.2).bind fun x => (q.1.get q.2).bind fun y => cop o x y)).bind fun r =>
        if r then (evE C c q.2).bind fun s => (Res.of ((q.1.get s.2).bind fun x => (s.1.get s.2).bind fun y => cop o2 x y)).bind fun r2 => .ok (.val (.bool r2), s.2)
        else .ok (.val (.bool false), q.2)
  | .ife c a b, g => (tstF (evE C c) g).bind fun p => if p.1 then evE C a p.2 else evE C b p.2
  | .call f es, g => (evEs C es g).bind fun p => callE C f p.1 p.2
  | .cio f i es, g => match g[i]? with
    | some (.mu _ _) => (evFs C es g).bind fun p => callIO C f i p.1 p.2
    | _ => .bad
  | .bi b es, g => (evEs C es g).bind fun p => (Res.of ((gets p.2 p.1).bind (bi b))).bind fun r => .ok (mk r, p.2)
  | .isa a t, g => (evE C a g).bind fun p => (Res.of (p.1.get p.2)).bind fun d => .ok (.val (.bool (t.has d)), p.2)
  | .lrg es, g => (evEs C es g).bind fun p => (Res.of ((gets p.2 p.1).bind rng)).bind fun r => if r.2 ≤ line then .ok (.nw (.list (rangeL r.1 r.2)), p.2) else .bad
  | .rep a k, g => (evE C a g).bind fun p => (evE C k p.2).bind fun q => match p.1, q.1.get q.2 with
    | .nw (.list xs), some (.int k) => if k ≤ 1000 ∧ -1000 ≤ k ∧ xs.length * k.toNat ≤ line then .ok (.nw (.list (List.replicate k.toNat xs).flatten), q.2) else .bad
    | _, _ => .bad
  | .idx a i, g => (evE C a g).bind fun p => (evE C i p.2).bind fun q =>
      (Res.of ((p.1.get q.2).bind fun x => (q.1.get q.2).bind fun y => ix x y)).bind fun r => .ok (.val r, q.2)
  | .slc a lo hi, g => (evE C a g).bind fun p => (evO C lo p.2).bind fun q => (evO C hi q.2).bind fun r =>
      (Res.of ((p.1.get r.2).bind fun x => slc x q.1 r.1)).bind fun s => .ok (mk s, r.2)
  | .rev a, g => (evE C a g).bind fun p => (Res.of ((p.1.get p.2).bind rev)).bind fun s => .ok (mk s, p.2)
  | .tup es, g => (evFs C es g).bind fun p => .ok (.val (.tuple p.1), p.2)
  | .lst es, g => (evFs C es g).bind fun p => .ok (.nw (.list p.1), p.2)
  | .att i, g => match g[i]? with
    | some (.ex _ d) => .ok (.val d, g)
    | _ => .bad
  | .comp e t it c own, g => compF own t (evI C it) (evT C c) (evE C e) g
  | .dnew, g => .ok (.nw (.dict []), g)
  | .dcomp k v t it c own, g => dcompF own t (evI C it) (evT C c) (evE C k) (evE C v) g
  | .din neg a i, g => (fzF (evE C a) g).bind fun p => (Res.of ((dicOf p.2 i).bind fun kvs => (keyL p.1).map fun k => (dval kvs k).isSome)).bind fun b => .ok (.val (.bool (if neg then !b else b)), p.2)
  | .dgt i a, g => match g[i]? with
    | some (.mu _ (.dict _)) => (fzF (evE C a) g).bind fun p => (Res.of ((dicOf p.2 i).bind fun kvs => (keyL p.1).bind fun k => dval kvs k)).bind fun v => .ok (.val v, p.2)
    | _ => .bad
  | .dgo i a x, g => match g[i]? with
    | some (.mu _ (.dict _)) => (fzF (evE C a) g).bind fun p => (fzF (evX C x) p.2).bind fun r => (Res.of ((dicOf r.2 i).bind fun kvs => (keyL p.1).map fun k => (dval kvs k).getD r.1)).bind fun v => .ok (.val v, r.2)
    | _ => .bad
  | .dso i, g => (Res.of ((dicOf g i).bind fun kvs => sortedD (kvs.map (·.1)))).bind fun ds => .ok (.nw (.list ds), g)
  | .sset a, g => (evE C a g).bind fun p => (Res.of ((p.1.get p.2).bind ssetD)).bind fun d => .ok (.nw d, p.2)
  | .slen a, g => (evE C a g).bind fun p => (Res.of ((p.1.get p.2).bind slenD)).bind fun d => .ok (.val d, p.2)
  | .lzip a b, g => (evE C a g).bind fun p => (evE C b p.2).bind fun q => (Res.of ((p.1.get q.2).bind fun x => (q.1.get q.2).bind fun y => lzipD x y)).bind fun d => .ok (.nw d, q.2)
  | .comp2 e t it c t1 it1 c1 own own1, g => comp2F own own1 t t1 (evI C it) (evI1 C it1) (evT C c) (evT C c1) (evE C e) g
def evEs (C : Calls) : Es → Env → Res (List EV × Env)
  | .nil, g => .ok ([], g)
  | .cons a es, g => (evE C a g).bind fun p => (evEs C es p.2).bind fun q => .ok (p.1 :: q.1, q.2)
def evFs (C : Calls) : Es → Env → Res (List PyData × Env)
  | .nil, g => .ok ([], g)
  | .cons a es, g => (fzF (evE C a) g).bind fun p => (evFs C es p.2).bind fun q => .ok (p.1 :: q.1, q.2)
def evAnd (C : Calls) : Es → Env → Res (EV × Env)
  | .nil, _ => .bad
  | .cons a .nil, g => evE C a g
  | .cons a (.cons b es), g => (evE C a g).bind fun p => (Res.of ((p.1.get p.2).bind tru)).bind fun k => if k then evAnd C (.cons b es) p.2 else .ok p
def evOr (C : Calls) : Es → Env → Res (EV × Env)
  | .nil, _ => .bad
  | .cons a .nil, g => evE C a g
  | .cons a (.cons b es), g => (evE C a g).bind fun p => (Res.of ((p.1.get p.2).bind tru)).bind fun k => if k then .ok p else evOr C (.cons b es) p.2
/-- a default -/
def evX (C : Calls) : Oe → Env → Res (EV × Env)
  | .none, g => .ok (.val .none, g)
  | .some a, g => evE C a g
def evO (C : Calls) : Oe → Env → Res (Option PyData × Env)
  | .none, g => .ok (none, g)
  | .some a, g => (evE C a g).bind fun p => (Res.of ((p.1.get p.2).bind anInt)).bind fun d => .ok (some d, p.2)
/-- a comprehension's test -/
def evT (C : Calls) : Oe → Env → Res (Bool × Env)
  | .none, g => .ok (true, g)
  | .some a, g => tstF (evE C a) g
/-- a second source: its things are handed on for good -/
def evI1 (C : Calls) : It → Env → Res (List PyData × Env)
  | .of a, g => (fzF (evE C a) g).bind fun p => (Res.of (items p.1)).bind fun xs => .ok (xs, p.2)
  | .rng es, g => (evEs C es g).bind fun p => (Res.of ((gets p.2 p.1).bind rng)).bind fun r => .ok (rangeL r.1 r.2, p.2)
  | .enum a, g => (fzF (evE C a) g).bind fun p => (Res.of (items p.1)).bind fun xs => .ok (enumD xs, p.2)
  | .zip _ _, _ => .bad
def evI (C : Calls) : It → Env → Res Walk
  | .of a, g => (evE C a g).bind fun p => (Res.of (lock1 p.2 p.1)).bind fun q => .ok ⟨q.1, q.2.1, q.2.2⟩
  | .rng es, g => (evEs C es g).bind fun p => (Res.of ((gets p.2 p.1).bind rng)).bind fun r => .ok ⟨rangeL r.1 r.2, p.2, []⟩
  | .enum a, g => (evE C a g).bind fun p => (Res.of (lock1 p.2 p.1)).bind fun q => .ok ⟨enumD q.1, q.2.1, q.2.2⟩
  | .zip a b, g => (evE C a g).bind fun p => (evE C b p.2).bind fun r => (Res.of ((p.1.get r.2).bind fun x => (r.1.get r.2).bind fun y => sameK x y)).bind fun _ => (Res.of (lock1 r.2 p.1)).bind fun q => (Res.of (lock1 q.2.1 r.1)).bind fun s =>
      .ok ⟨zipD q.1 s.1, s.2.1, s.2.2 ++ q.2.2⟩
end

/-! ### statements -/
inductive Out
  | nx (g : Env)
  | rt (fresh : Bool) (d : PyData) (g : Env)
  | bk (g : Env)
  | ct (g : Env)
  | exc (c : Nat) (d : PyData) (g : Env)
  | bad
def Out.map (f : Env → Env) : Out → Out
  | .nx g => .nx (f g)
  | .rt b d g => .rt b d (f g)
  | .bk g => .bk (f g)
  | .ct g => .ct (f g)
  | .exc c d g => .exc c d (f g)
  | .bad => .bad
def Res.out {α : Type} (r : Res α) (f : α → Out) : Out := match r with
  | .ok a => f a
  | .exc c d g => .exc c d g
  | .bad => .bad
@[simp] theorem Res.out_ok {α : Type} (a : α) (f : α → Out) : (Res.ok a).out f = f a := rfl
@[simp] theorem Res.out_bad {α : Type} (f : α → Out) : (Res.bad : Res α).out f = .bad := rfl
@[simp] theorem Res.out_exc {α : Type} (c : Nat) (d : PyData) (g : Env) (f : α → Out) : (Res.exc c d g : Res α).out f = .exc c d g := rfl
def Out.quiet : Out → Out
  | .exc _ _ _ => .bad
  | o => o
def Out.seq (o : Out) (f : Env → Out) : Out := match o with
  | .nx g => f g
  | o => o
@[simp] theorem Out.seq_nx (g : Env) (f : Env → Out) : (Out.nx g).seq f = f g := rfl
@[simp] theorem Out.seq_rt (b : Bool) (d : PyData) (g : Env) (f : Env → Out) : (Out.rt b d g).seq f = .rt b d g := rfl
@[simp] theorem Out.seq_bad (f : Env → Out) : Out.bad.seq f = .bad := rfl
@[simp] theorem Out.seq_exc (c : Nat) (d : PyData) (g : Env) (f : Env → Out) : (Out.exc c d g).seq f = .exc c d g := rfl
@[simp] theorem Out.seq_bk (g : Env) (f : Env → Out) : (Out.bk g).seq f = .bk g := rfl
@[simp] theorem Out.seq_ct (g : Env) (f : Env → Out) : (Out.ct g).seq f = .ct g := rfl
def forL (turn : Env → PyData → Out) : List PyData → Env → Out
  | [], g => .nx g
  | x :: xs, g => match turn g x with
    | .nx g' => forL turn xs g'
    | .ct g' => forL turn xs g'
    | .bk g' => .nx g'
    | o => o
def whlL (tst : Env → Res (Bool × Env)) (body : Env → Out) : Nat → Env → Out
  | 0, _ => .bad
  | n + 1, g => (tst g).out fun p => if p.1 then (match body p.2 with
    | .nx g' => whlL tst body n g'
    | .ct g' => whlL tst body n g'
    | .bk g' => .nx g'
    | o => o) else .nx p.2
/-- the values of a, b, .. = e1, e2, ..: fresh things for those that will be changed, data for the others -/
def evPs (C : Calls) : List (Nat × Bool) → Es → Env → Res (List PyData × Env)
  | [], .nil, g => .ok ([], g)
  | (_, true) :: is, .cons e es, g => (evE C e g).bind fun p => match p.1 with
    | .nw d => (evPs C is es p.2).bind fun q => .ok (d :: q.1, q.2)
    | _ => .bad
  | (_, false) :: is, .cons e es, g => (fzF (evE C e) g).bind fun p => (evPs C is es p.2).bind fun q => .ok (p.1 :: q.1, q.2)
  | _, _, _ => .bad
def parAll (g : Env) : List (Nat × Bool) → List PyData → Option Env
  | [], [] => some g
  | (i, own) :: is, d :: ds => (g.put i (if own then .mu .ow d else .va d)).bind fun g' => parAll g' is ds
  | _, _ => none
def augI (o : Bop) : PyData → PyData → Option PyData
  | .int i, .int j => match o with
    | .add => some (.int (i + j))
    | .sub => some (.int (i - j))
    | _ => none
  | _, _ => none
def setIx (k v : PyData) : PyData → Option PyData
  | .list xs => match k with
    | .int i => (L2.ixN xs.length i).map fun j => .list (xs.set j v)
    | _ => none
  | _ => none
def appD (v : PyData) : PyData → Option PyData
  | .list xs => if xs.length < line then some (.list (xs ++ [v])) else none
  | _ => none
def extD (v : PyData) : PyData → Option PyData
  | .list xs => match v with
    | .list ys => if xs.length + ys.length ≤ line then some (.list (xs ++ ys)) else none
    | _ => none
  | _ => none
/-- what an error may keep in its field -/
def simD : PyData → Bool
  | .int _ => true
  | .str _ => true
  | _ => false
/-- which class a clause takes: the same one -/
def retO (x : EV) (g : Env) : Out := match x with
  | .val d => .rt false d g
  | .nw d => .rt true d g
  | .loc i => match g[i]? with
    | some (.va d) => .rt false d g
    | some (.mu .ow d) => .rt true d g
    | _ => .bad

mutual
def exS (C : Calls) : S → Env → Out
  | .asg i own e, g => (evE C e g).out fun p => if own then (match p.1 with
      | .nw d => (Res.of (p.2.put i (.mu .ow d))).out .nx
      | _ => .bad) else (Res.of (p.1.fz p.2)).out fun q => (Res.of (q.2.put i (.va q.1))).out .nx
  | .unp is e, g => (evE C e g).out fun p => match p.1 with
      | .val (.tuple ds) => (Res.of (putAll p.2 is ds)).out .nx
      | _ => .bad
  | .par is es, g => (evPs C is es g).out fun p => (Res.of (parAll p.2 is p.1)).out .nx
  | .setI i k e, g => match g[i]? with
      | some (.mu _ _) => (fzF (evE C e) g).out fun q => (evE C k q.2).out fun r => (Res.of (r.1.get r.2)).out fun kd => (Res.of (r.2.chg i (setIx kd q.1))).out .nx
      | _ => .bad
  | .setD i k e, g => match g[i]? with
      | some (.mu _ (.dict _)) => (fzF (evE C e) g).out fun q => (fzF (evE C k) q.2).out fun r => (Res.of (r.2.chg i (setDx r.1 q.1))).out .nx
      | _ => .bad
  | .aug o i e, g => match g[i]? with
      | some (.va x) => (evE C e g).out fun p => (Res.of ((p.1.get p.2).bind fun y => augI o x y)).out fun r => (Res.of (p.2.put i (.va r))).out .nx
      | _ => .bad
  | .app i e, g => match g[i]? with
      | some (.mu _ (.list _)) => (fzF (evE C e) g).out fun q => (Res.of (q.2.chg i (appD q.1))).out .nx
      | _ => .bad
  | .ext i e, g => match g[i]? with
      | some (.mu _ (.list _)) => (evE C e g).out fun p => match p.1 with
        | .nw d => (Res.of (p.2.chg i (extD d))).out .nx
        | _ => .bad
      | _ => .bad
  | .ex e, g => (evE C e g).out fun p => .nx p.2
  | .ite c a b, g => (tstF (evE C c) g).out fun p => if p.1 then exSs C a p.2 else exSs C b p.2
  | .whl c b, g => whlL (tstF (evE C c)) (exSs C b) C.fuel g
  | .fr t it b, g => (evI C it g).out fun w => (forL (fun g x => (Res.of (bindT g t x)).out fun g1 => exSs C b g1) w.its w.env).map fun g => unlock g w.lks
  | .ret e, g => (evE C e g).out fun p => retO p.1 p.2
  | .retN, g => .rt false .none g
  | .raise0 c, g => .exc c .none g
  | .raise1 c e, g => (fzF (evE C e) g).out fun q => .exc c q.1 q.2
  | .raiseF c e, g => (fzF (evE C e) g).out fun q => if simD q.1 then .exc c q.1 q.2 else .bad
  | .tr b hs, g => match exSs C b g with
      | .exc c d g1 => hnd C hs c d g1
      | o => o
  | .pass, g => .nx g
  | .brk, g => .bk g
  | .cnt, g => .ct g
def exSs (C : Calls) : Ss → Env → Out
  | .nil, g => .nx g
  | .cons s ss, g => (exS C s g).seq (exSs C ss)
def hnd (C : Calls) : Hs → Nat → PyData → Env → Out
  | .nil, c, d, g => .exc c d g
  | .cons c1 i b hs, c, d, g => if c = c1 then (match i with
      | none => (exSs C b g).quiet
      | some i => (Res.of (g.put i (.ex c d))).out fun g1 => (exSs C b g1).quiet.map fun g2 => g2.set i .un)
    else hnd C hs c d g
end

/-! ### programs -/
/-- io: the first parameter is a thing that the def may change -/
structure Def where
  np : Nat
  io : Bool
  ns : Nat
  body : Ss
structure Prog where
  defs : List Def
  glob : Nat → Option PyData
  fuel : Nat
def startE (d : Def) (as : List PyData) : Env := (match d.io, as with
  | true, x :: xs => Slot.mu .io x :: xs.map Slot.va
  | _, xs => xs.map Slot.va) ++ List.replicate (d.ns - d.np) Slot.un
def endD (d : Def) (b : Bool) (x : PyData) (g : Env) : CR := if d.io then (match g[(0 : Nat)]? with
  | some (Slot.mu .io y) => .ok b x (some y)
  | _ => .bad) else .ok b x none
def Out.cr (d : Def) : Out → CR
  | .nx g => endD d false .none g
  | .rt b x g => endD d b x g
  | .exc c x _ => if d.io then .bad else .exc c x
  | _ => .bad
def ioOf (P : Prog) (f : Nat) : Bool := match P.defs[f]? with
  | some d => d.io
  | none => false
def callAt (P : Prog) : Nat → Nat → List PyData → CR
  | 0, _, _ => .bad
  | n + 1, f, as => match P.defs[f]? with
    | some d => if as.length = d.np then (exSs ⟨callAt P n, ioOf P, P.fuel, P.glob⟩ d.body (startE d as)).cr d else .bad
    | none => .bad
def Prog.calls (P : Prog) (n : Nat) : Calls := ⟨callAt P n, ioOf P, P.fuel, P.glob⟩
end PK
end

section
set_option Elab.async false
set_option linter.all false
set_option maxRecDepth 100000
set_option maxHeartbeats 4000000
/-! PkRel: how the evaluator's data stand in HandS' abstract heap. -/
namespace PK
open PySem PySem.Spec PyProof.Rows L2
open PySem (PyData)

/-! ### data in the heap; Z: the lists that nobody changes any more -/
mutual
inductive Rep (K : PySem.W.Frag) (Z : Addr → Prop) (H : Hp) : V → PyData → Prop
  | non : Rep K Z H .non .none
  | bl (b : Bool) : Rep K Z H (.bl b) (.bool b)
  | int (i : Int) : Rep K Z H (.int i) (.int i)
  | str (x : Str) : Rep K Z H (.str x) (.str x)
  | tup {a : Addr} {vs : List V} {ds : List PyData} : H a = some (.tup vs) → Reps K Z H vs ds → Rep K Z H (.ref a) (.tuple ds)
  | lst {a : Addr} {vs : List V} {ds : List PyData} : SqL K H a vs → Z a → Reps K Z H vs ds → Rep K Z H (.ref a) (.list ds)
  | cst {a : Addr} {vs : List V} {ds : List PyData} : SqL K (fun _ => none) a vs → Reps K Z H vs ds → Rep K Z H (.ref a) (.list ds)
inductive Reps (K : PySem.W.Frag) (Z : Addr → Prop) (H : Hp) : List V → List PyData → Prop
  | nil : Reps K Z H [] []
  | cons {v : V} {vs : List V} {d : PyData} {ds : List PyData} : Rep K Z H v d → Reps K Z H vs ds → Reps K Z H (v :: vs) (d :: ds)
end
/-- what may be read now: a list need not be frozen at its top -/
inductive Rd1 (K : PySem.W.Frag) (Z : Addr → Prop) (H : Hp) : V → PyData → Prop
  | of {v : V} {d : PyData} : Rep K Z H v d → Rd1 K Z H v d
  | lst {a : Addr} {vs : List V} {ds : List PyData} : SqL K H a vs → Reps K Z H vs ds → Rd1 K Z H (.ref a) (.list ds)
inductive Rds (K : PySem.W.Frag) (Z : Addr → Prop) (H : Hp) : List V → List PyData → Prop
  | nil : Rds K Z H [] []
  | cons {v : V} {vs : List V} {d : PyData} {ds : List PyData} : Rd1 K Z H v d → Rds K Z H vs ds → Rds K Z H (v :: vs) (d :: ds)
/-- a dict's entries -/
inductive DReps (K : PySem.W.Frag) (Z : Addr → Prop) (H : Hp) : List (List Key × V) → List (PyData × PyData) → Prop
  | nil : DReps K Z H [] []
  | cons {k : List Key} {v : V} {ks : List (List Key × V)} {x d : PyData} {ds : List (PyData × PyData)} : keyL x = some k → Rep K Z H v d → DReps K Z H ks ds → DReps K Z H ((k, v) :: ks) ((x, d) :: ds)
/-- a changeable thing -/
inductive Ct (K : PySem.W.Frag) (Z : Addr → Prop) (H : Hp) (a : Addr) : PyData → Prop
  | lst {vs : List V} {ds : List PyData} : H a = some (.lst vs) → Reps K Z H vs ds → Ct K Z H a (.list ds)
  | dct {ks : List (List Key × V)} {ds : List (PyData × PyData)} : H a = some (.dT ks) → DReps K Z H ks ds → Ct K Z H a (.dict ds)

section
variable {K : PySem.W.Frag} {Z Z' : Addr → Prop} {H H' : Hp}
theorem SqT.mv {a : Addr} {xs : List V} (h : SqT K H a xs) (k : ∀ o, H a = some o → H' a = some o) : SqT K H' a xs := by
  rcases h with (h | ⟨o, h⟩) | h
  · exact .inl (.inl (k _ h))
  · exact .inl (.inr ⟨o, k _ h⟩)
  · exact .inr h
theorem SqL.mv {a : Addr} {xs : List V} (h : SqL K H a xs) (k : ∀ o, H a = some o → H' a = some o) : SqL K H' a xs := by
  rcases h with (h | ⟨o, h⟩) | h
  · exact .inl (.inl (k _ h))
  · exact .inl (.inr ⟨o, k _ h⟩)
  · exact .inr h
/-- the tuples and the frozen lists stay -/
structure Keeps (Z : Addr → Prop) (H : Hp) (Z' : Addr → Prop) (H' : Hp) : Prop where
  tup : ∀ a xs, H a = some (.tup xs) → H' a = some (.tup xs)
  frz : ∀ a o u, H a = some (.frz o u) → H' a = some (.frz o u)
  zs : ∀ a o, Z a → H a = some o → H' a = some o
  up : ∀ a, Z a → Z' a
theorem Keeps.sqT {a : Addr} {xs : List V} (k : Keeps Z H Z' H') (h : SqT K H a xs) : SqT K H' a xs := by
  rcases h with (h | ⟨o, h⟩) | h
  · exact .inl (.inl (k.tup _ _ h))
  · exact .inl (.inr ⟨o, k.frz _ _ _ h⟩)
  · exact .inr h
mutual
theorem Rep.mv (k : Keeps Z H Z' H') : ∀ (d : PyData) (v : V), Rep K Z H v d → Rep K Z' H' v d
  | .none, _, h => by cases h; exact .non
  | .bool b, _, h => by cases h; exact .bl b
  | .int i, _, h => by cases h; exact .int i
  | .str x, _, h => by cases h; exact .str x
  | .list ds, _, h => by
    cases h with
    | lst h1 h2 h3 => exact .lst (SqL.mv h1 fun o e => k.zs _ o h2 e) (k.up _ h2) (Reps.mv k ds _ h3)
    | cst h1 h3 => exact .cst h1 (Reps.mv k ds _ h3)
  | .tuple ds, _, h => by
    cases h with
    | tup h1 h3 => exact .tup (k.tup _ _ h1) (Reps.mv k ds _ h3)
  | .dict _, _, h => by cases h
theorem Reps.mv (k : Keeps Z H Z' H') : ∀ (ds : List PyData) (vs : List V), Reps K Z H vs ds → Reps K Z' H' vs ds
  | [], _, h => by cases h; exact .nil
  | d :: ds, _, h => by
    cases h with
    | cons h1 h2 => exact .cons (Rep.mv k d _ h1) (Reps.mv k ds _ h2)
end
mutual
theorem Rep.dp : ∀ (d : PyData) (v : V), Rep K Z H v d → Dp K H v d
  | .none, _, h => by cases h; exact .non
  | .bool b, _, h => by cases h; exact .bl b
  | .int i, _, h => by cases h; exact .int i
  | .str x, _, h => by cases h; exact .str x
  | .list ds, _, h => by
    cases h with
    | lst h1 h2 h3 => exact .lst h1 (Reps.dp ds _ h3)
    | cst h1 h3 => exact .lst (SqL.mv h1 fun o e => by cases e) (Reps.dp ds _ h3)
  | .tuple ds, _, h => by
    cases h with
    | tup h1 h3 => exact .tup (SqT.of h1) (Reps.dp ds _ h3)
  | .dict _, _, h => by cases h
theorem Reps.dp : ∀ (ds : List PyData) (vs : List V), Reps K Z H vs ds → DpAll K H vs ds
  | [], _, h => by cases h; exact .nil
  | d :: ds, _, h => by
    cases h with
    | cons h1 h2 => exact .cons (Rep.dp d _ h1) (Reps.dp ds _ h2)
end
theorem Rd1.dp {v : V} {d : PyData} (h : Rd1 K Z H v d) : Dp K H v d := by
  cases h with
  | of h => exact h.dp
  | lst h1 h3 => exact .lst h1 h3.dp
theorem Reps.len : ∀ {vs : List V} {ds : List PyData}, Reps K Z H vs ds → vs.length = ds.length
  | _, _, .nil => rfl
  | _, _, .cons _ t => congrArg (· + 1) (Reps.len t)
theorem Reps.at : ∀ {vs : List V} {ds : List PyData} {i : Nat} {v : V} {d : PyData}, Reps K Z H vs ds → vs[i]? = some v → ds[i]? = some d → Rep K Z H v d
  | _, _, _, _, _, .nil, h, _ => by simp at h
  | _, _, 0, _, _, .cons r _, h, h' => by simp at h h'; subst h; subst h'; exact r
  | _, _, i + 1, _, _, .cons _ t, h, h' => Reps.at (i := i) t (by simpa using h) (by simpa using h')
theorem Reps.get : ∀ {vs : List V} {ds : List PyData} {i : Nat} {d : PyData}, Reps K Z H vs ds → ds[i]? = some d → ∃ v, vs[i]? = some v ∧ Rep K Z H v d
  | _, _, _, _, .nil, h => by simp at h
  | _, _, 0, _, .cons r _, h => by simp at h; subst h; exact ⟨_, rfl, r⟩
  | _, _, i + 1, _, .cons _ t, h => by
    obtain ⟨v, h1, h2⟩ := Reps.get (i := i) t (by simpa using h)
    exact ⟨v, by simpa using h1, h2⟩
theorem Reps.app : ∀ {vs ws : List V} {ds es : List PyData}, Reps K Z H vs ds → Reps K Z H ws es → Reps K Z H (vs ++ ws) (ds ++ es)
  | _, _, _, _, .nil, s => s
  | _, _, _, _, .cons r t, s => .cons r (Reps.app t s)
theorem Reps.take : ∀ {vs : List V} {ds : List PyData} (n : Nat), Reps K Z H vs ds → Reps K Z H (vs.take n) (ds.take n)
  | _, _, 0, _ => .nil
  | _, _, _ + 1, .nil => .nil
  | _, _, n + 1, .cons r t => .cons r (Reps.take n t)
theorem Reps.drop : ∀ {vs : List V} {ds : List PyData} (n : Nat), Reps K Z H vs ds → Reps K Z H (vs.drop n) (ds.drop n)
  | _, _, 0, r => r
  | _, _, _ + 1, .nil => .nil
  | _, _, n + 1, .cons _ t => Reps.drop n t
theorem Reps.set {v : V} {d : PyData} (r : Rep K Z H v d) : ∀ {vs : List V} {ds : List PyData} (n : Nat), Reps K Z H vs ds → Reps K Z H (vs.set n v) (ds.set n d)
  | _, _, _, .nil => .nil
  | _, _, 0, .cons _ t => .cons r t
  | _, _, n + 1, .cons q t => .cons q (Reps.set r n t)
theorem Reps.rev {vs : List V} {ds : List PyData} (h : Reps K Z H vs ds) : Reps K Z H vs.reverse ds.reverse := by
  induction vs generalizing ds with
  | nil => cases h; exact .nil
  | cons v vs ih =>
    cases h with
    | cons r t =>
      rw [List.reverse_cons, List.reverse_cons]
      exact (ih t).app (.cons r .nil)
theorem DReps.mv (k : Keeps Z H Z' H') : ∀ (ds : List (PyData × PyData)) (ks : List (List Key × V)), DReps K Z H ks ds → DReps K Z' H' ks ds
  | [], _, h => by cases h; exact .nil
  | d :: ds, _, h => by
    cases h with
    | cons h0 h1 h2 => exact .cons h0 (Rep.mv k _ _ h1) (DReps.mv k ds _ h2)
theorem DReps.len : ∀ {ks : List (List Key × V)} {ds : List (PyData × PyData)}, DReps K Z H ks ds → ks.length = ds.length
  | _, _, .nil => rfl
  | _, _, .cons _ _ t => congrArg (· + 1) (DReps.len t)
theorem DReps.any (k : List Key) : ∀ {ks : List (List Key × V)} {ds : List (PyData × PyData)}, DReps K Z H ks ds → (ks.any fun kv => decide (kv.1 = k)) = ds.any fun p => decide (keyL p.1 = some k)
  | _, _, .nil => rfl
  | _, _, .cons (k := k') h0 _ t => by
    rw [List.any_cons, List.any_cons, DReps.any k t, h0]
    congr 1
    simp
/-- d[k] -/
theorem DReps.val (k : List Key) : ∀ {ks : List (List Key × V)} {ds : List (PyData × PyData)}, DReps K Z H ks ds → (∃ v d, valV ks k = some v ∧ dval ds k = some d ∧ Rep K Z H v d) ∨ (valV ks k = none ∧ dval ds k = none)
  | _, _, .nil => .inr ⟨rfl, rfl⟩
  | _, _, .cons (k := k') (v := v) (ks := ks) (x := x) (d := d) (ds := ds) h0 r t => by
    by_cases e : k' = k
    · subst e
      refine .inl ⟨v, d, valV_pos rfl, ?_, r⟩
      simp [dval, List.find?_cons, h0]
    · have e2 : dval ((x, d) :: ds) k = dval ds k := by simp [dval, List.find?_cons, h0, e]
      rw [valV_neg (p := (k', v)) (r := ks) e, e2]
      exact DReps.val k t
theorem DReps.map {v : V} {d : PyData} (k : List Key) (r : Rep K Z H v d) : ∀ {ks : List (List Key × V)} {ds : List (PyData × PyData)}, DReps K Z H ks ds →
    DReps K Z H (ks.map fun kv => if kv.1 = k then (kv.1, v) else kv) (ds.map fun p => if keyL p.1 = some k then (p.1, d) else p)
  | _, _, .nil => .nil
  | _, _, .cons (k := k') (v := v') (x := x) (d := d') h0 q t => by
    rw [List.map_cons, List.map_cons]
    by_cases e : k' = k
    · subst e
      rw [if_pos rfl, if_pos h0]
      exact .cons h0 r (DReps.map _ r t)
    · rw [if_neg e, if_neg (by rw [h0]; simpa using e)]
      exact .cons h0 q (DReps.map _ r t)
theorem DReps.app : ∀ {ks ls : List (List Key × V)} {ds es : List (PyData × PyData)}, DReps K Z H ks ds → DReps K Z H ls es → DReps K Z H (ks ++ ls) (ds ++ es)
  | _, _, _, _, .nil, s => s
  | _, _, _, _, .cons h r t, s => .cons h r (DReps.app t s)
theorem DReps.put {v : V} {x d : PyData} {k : List Key} (hk : keyL x = some k) (r : Rep K Z H v d) {ks : List (List Key × V)} {ds : List (PyData × PyData)} (h : DReps K Z H ks ds) : DReps K Z H (putK ks k v) (dput ds x d) := by
  unfold putK dput
  rw [h.any k, hk]
  split
  · exact h.map k r
  · exact h.app (.cons hk r .nil)
theorem keyLs_of : ∀ {ds : List PyData} {vs : List V} {k : List Key}, Reps K Z H vs ds → keyLs ds = some k → vs = k.map kV
  | [], _, _, .nil, e => by cases e; rfl
  | d :: ds, _, k, .cons r t, e => by
    cases d with
    | int i =>
      simp only [keyLs] at e
      cases h : keyLs ds with
      | none => rw [h] at e; cases e
      | some js => rw [h] at e; cases e; rw [keyLs_of t h]; cases r; rfl
    | str i =>
      simp only [keyLs] at e
      cases h : keyLs ds with
      | none => rw [h] at e; cases e
      | some js => rw [h] at e; cases e; rw [keyLs_of t h]; cases r; rfl
    | _ => cases e
/-- a key's tuple -/
theorem Rep.key {v : V} {x : PyData} {k : List Key} (r : Rep K Z H v x) (e : keyL x = some k) : ∃ b, v = .ref b ∧ H b = some (.tup (k.map kV)) := by
  cases r with
  | tup h t => exact ⟨_, rfl, by rw [← keyLs_of t e]; exact h⟩
  | _ => cases e
theorem Ct.there {a : Addr} {d : PyData} (c : Ct K Z H a d) : ∃ o, H a = some o ∧ (∀ vs, o ≠ HO.tup vs) ∧ (∀ p u, o ≠ HO.frz p u) := by
  cases c with
  | lst h _ => exact ⟨_, h, (fun _ z => by cases z), (fun _ _ z => by cases z)⟩
  | dct h _ => exact ⟨_, h, (fun _ z => by cases z), (fun _ _ z => by cases z)⟩
theorem Ct.list {a : Addr} {d : PyData} {ds : List PyData} (c : Ct K Z H a d) (e : d = .list ds) : ∃ vs, H a = some (.lst vs) ∧ Reps K Z H vs ds := by
  subst e
  cases c with
  | lst h r => exact ⟨_, h, r⟩
theorem Ct.dict {a : Addr} {d : PyData} {ds : List (PyData × PyData)} (c : Ct K Z H a d) (e : d = .dict ds) : ∃ ks, H a = some (.dT ks) ∧ DReps K Z H ks ds := by
  subst e
  cases c with
  | dct h r => exact ⟨_, h, r⟩
/-- a readable thing is a list -/
theorem Ct.ndc {a : Addr} {d d' : PyData} (c : Ct K Z H a d) (e : PK.ndc d = some d') : ∃ vs ds, d' = .list ds ∧ d = .list ds ∧ H a = some (.lst vs) ∧ Reps K Z H vs ds := by
  cases c with
  | lst h r => cases e; exact ⟨_, _, rfl, rfl, h, r⟩
  | dct h r => cases e
theorem Reps.rep {vs : List V} {ds : List PyData} (h : Reps K Z H vs ds) : ∀ k : Nat, Reps K Z H (List.replicate k vs).flatten (List.replicate k ds).flatten
  | 0 => .nil
  | k + 1 => by
    rw [List.replicate_succ, List.replicate_succ, List.flatten_cons, List.flatten_cons]
    exact h.app (Reps.rep h k)
end
end PK
end

section
set_option Elab.async false
set_option linter.all false
set_option maxRecDepth 100000
set_option maxHeartbeats 4000000
/-! PkTR: slots and the heap; what an evaluation leaves; the canonical readings. -/
namespace PK
open PySem PySem.Spec PyProof.Rows L2
open PySem (PyData)

abbrev St := L2.St
/-- slot i holds a changeable thing at a -/
def Own (g : Env) (σ : St) (i : Nat) (a : Addr) : Prop := (∃ k d, g[i]? = some (.mu k d)) ∧ σ[i]? = some (some (.ref a))
def O (g : Env) (σ : St) (a : Addr) : Prop := ∃ i, Own g σ i a
def SlotR (K : PySem.W.Frag) (Z : Addr → Prop) (H : Hp) (v : Option V) : Slot → Prop
  | .un => True
  | .va d => ∃ x, v = some x ∧ Rep K Z H x d
  | .mu _ d => ∃ a, v = some (.ref a) ∧ ¬ Z a ∧ Ct K Z H a d
  | .ex _ _ => ∃ a, v = some (.ref a)
structure Rel (K : PySem.W.Frag) (Z : Addr → Prop) (g : Env) (σ : St) (H : Hp) : Prop where
  len : σ.length = g.length
  sl : ∀ (i : Nat) (s : Slot), g[i]? = some s → SlotR K Z H (σ[i]?.join) s
  ds : ∀ (i j : Nat) (a : Addr), Own g σ i a → Own g σ j a → i = j
  ex : ∀ a, Z a → H a ≠ none
/-- from one state to a later one -/
structure Ext (g : Env) (σ : St) (Z : Addr → Prop) (H : Hp) (g' : Env) (σ' : St) (Z' : Addr → Prop) (H' : Hp) : Prop where
  pres : ∀ a o, H a = some o → ¬ O g σ a → H' a = some o
  up : ∀ a, Z a → Z' a
  zn : ∀ a, Z' a → Z a ∨ H a = none ∨ O g σ a
  on : ∀ a, O g' σ' a → O g σ a ∨ H a = none
  th : ∀ a, H' a = none → H a = none
  lk : ∀ (i : Nat) (d : PyData), g[i]? = some (Slot.mu .lk d) → g'[i]? = some (Slot.mu .lk d) ∧ σ'[i]? = σ[i]?
  io : ∀ (i : Nat) (d : PyData), g[i]? = some (Slot.mu .io d) → (∃ d', g'[i]? = some (Slot.mu .io d')) ∧ σ'[i]? = σ[i]?
def EVR (K : PySem.W.Frag) (Z : Addr → Prop) (g : Env) (σ : St) (H : Hp) (v : V) : EV → Prop
  | .val d => Rep K Z H v d
  | .nw d => ∃ a, v = .ref a ∧ ¬ Z a ∧ ¬ O g σ a ∧ Ct K Z H a d
  | .loc i => σ[i]? = some (some v)
def Fr0 (H : Hp) (v : V) : EV → Prop
  | .nw _ => ∃ a, v = .ref a ∧ H a = none
  | _ => True

section
variable {K : PySem.W.Frag} {Z Z' Z1 Z2 : Addr → Prop} {g g' g1 g2 : Env} {σ σ' σ1 σ2 : St} {H H' H1 H2 : Hp}
theorem join_some {v : V} {i : Nat} (h : σ[i]?.join = some v) : σ[i]? = some (some v) := by
  cases e : σ[i]? with
  | none => rw [e] at h; cases h
  | some x => rw [e] at h; exact congrArg some h
theorem Rel.mu (R : Rel K Z g σ H) {i : Nat} {k : Mk} {d : PyData} (h : g[i]? = some (.mu k d)) : ∃ a, σ[i]? = some (some (.ref a)) ∧ ¬ Z a ∧ Ct K Z H a d ∧ Own g σ i a := by
  obtain ⟨a, e, z, c⟩ := R.sl i _ h
  exact ⟨a, join_some e, z, c, ⟨k, d, h⟩, join_some e⟩
theorem Rel.va (R : Rel K Z g σ H) {i : Nat} {d : PyData} (h : g[i]? = some (.va d)) : ∃ v, σ[i]? = some (some v) ∧ Rep K Z H v d := by
  obtain ⟨a, e, c⟩ := R.sl i _ h
  exact ⟨a, join_some e, c⟩
theorem Rel.own (R : Rel K Z g σ H) {i : Nat} {a : Addr} (h : Own g σ i a) : ∃ k d, g[i]? = some (.mu k d) ∧ ¬ Z a ∧ Ct K Z H a d := by
  obtain ⟨⟨k, d, e⟩, es⟩ := h
  obtain ⟨b, e1, z, c, _⟩ := R.mu e
  rw [es] at e1; cases e1
  exact ⟨k, d, e, z, c⟩
theorem Rel.oz (R : Rel K Z g σ H) {a : Addr} (z : Z a) : ¬ O g σ a := fun ⟨_, h⟩ => let ⟨_, _, _, n, _⟩ := R.own h; n z
theorem Rel.ol (R : Rel K Z g σ H) {a : Addr} (h : O g σ a) : ∃ o, H a = some o ∧ (∀ vs, o ≠ HO.tup vs) ∧ (∀ p u, o ≠ HO.frz p u) := by
  obtain ⟨i, h⟩ := h
  obtain ⟨_, _, _, _, c⟩ := R.own h
  exact c.there
theorem Rel.keeps (R : Rel K Z g σ H) (x : Ext g σ Z H g' σ' Z' H') : Keeps Z H Z' H' where
  tup := fun a xs e => x.pres a _ e fun o => by obtain ⟨u, e', n, _⟩ := R.ol o; rw [e] at e'; cases e'; exact n xs rfl
  frz := fun a o u e => x.pres a _ e fun o => by obtain ⟨u, e', _, n⟩ := R.ol o; rw [e] at e'; cases e'; exact n _ _ rfl
  zs := fun a o z e => x.pres a _ e (R.oz z)
  up := x.up
theorem Ext.refl : Ext g σ Z H g σ Z H := ⟨fun _ _ e _ => e, fun _ z => z, fun _ z => .inl z, fun _ o => .inl o, fun _ e => e, fun _ _ e => ⟨e, rfl⟩, fun _ d e => ⟨⟨d, e⟩, rfl⟩⟩
theorem Ext.trans (a : Ext g σ Z H g1 σ1 Z1 H1) (b : Ext g1 σ1 Z1 H1 g2 σ2 Z2 H2) : Ext g σ Z H g2 σ2 Z2 H2 where
  pres := fun c o e n => b.pres c o (a.pres c o e n) fun q => (a.on c q).elim n fun z => by rw [e] at z; cases z
  up := fun c z => b.up c (a.up c z)
  zn := fun c z => by
    rcases b.zn c z with q | q | q
    · exact a.zn c q
    · exact .inr (.inl (a.th c q))
    · exact (a.on c q).elim (fun q => .inr (.inr q)) fun q => .inr (.inl q)
  on := fun c q => by
    rcases b.on c q with q | q
    · exact a.on c q
    · exact .inr (a.th c q)
  th := fun c e => a.th c (b.th c e)
  lk := fun i d e => by
    obtain ⟨h1, h2⟩ := a.lk i d e
    obtain ⟨h3, h4⟩ := b.lk i d h1
    exact ⟨h3, h4.trans h2⟩
  io := fun i d e => by
    obtain ⟨⟨d', h1⟩, h2⟩ := a.io i d e
    obtain ⟨h3, h4⟩ := b.io i d' h1
    exact ⟨h3, h4.trans h2⟩
/-- the heap grows, all that stood stands -/
def HX (H H' : Hp) : Prop := ∀ a o, H a = some o → H' a = some o
theorem HX.refl : HX H H := fun _ _ e => e
theorem HX.new {p : Addr} {o : HO} (h : H p = none) : HX H (upd H p o) := fun a u e => by rw [upd_ne (ne_of_none e h)]; exact e
theorem HX.trans (a : HX H H1) (b : HX H1 H2) : HX H H2 := fun c o e => b c o (a c o e)
theorem HX.th (h : HX H H') {a : Addr} (e : H' a = none) : H a = none := by
  cases q : H a with
  | none => rfl
  | some o => rw [h a o q] at e; cases e
theorem HX.ext (h : HX H H') : Ext g σ Z H g σ Z H' := ⟨fun a o e _ => h a o e, fun _ z => z, fun _ z => .inl z, fun _ o => .inl o, fun a e => h.th e, fun _ _ e => ⟨e, rfl⟩, fun _ d e => ⟨⟨d, e⟩, rfl⟩⟩
theorem HX.keeps (h : HX H H') : Keeps Z H Z H' := ⟨fun a _ e => h a _ e, fun a _ _ e => h a _ e, fun a o _ e => h a o e, fun _ z => z⟩
theorem Ct.mv {a : Addr} {d : PyData} (c : Ct K Z H a d) (k : Keeps Z H Z' H') (e : ∀ o, H a = some o → H' a = some o) : Ct K Z' H' a d := by
  cases c with
  | lst h r => exact .lst (e _ h) (r.mv k)
  | dct h r => exact .dct (e _ h) (r.mv k)
theorem SlotR.mv {v : Option V} {s : Slot} (k : Keeps Z H Z' H') (h : SlotR K Z H v s) (z : ∀ a, v = some (.ref a) → (∃ m d, s = .mu m d) → ¬ Z' a ∧ ∀ o, H a = some o → H' a = some o) : SlotR K Z' H' v s := by
  cases s with
  | un => trivial
  | va d => obtain ⟨x, e, r⟩ := h; exact ⟨x, e, Rep.mv k d x r⟩
  | mu m d =>
    obtain ⟨a, e, _, c⟩ := h
    obtain ⟨z1, z2⟩ := z a e ⟨m, d, rfl⟩
    exact ⟨a, e, z1, c.mv k z2⟩
  | ex _ _ => exact h
/-- behind a growth of the heap -/
theorem Rel.hx (R : Rel K Z g σ H) (h : HX H H') : Rel K Z g σ H' :=
  ⟨R.len, fun i s e => (R.sl i s e).mv h.keeps fun a ea ⟨m, d, es⟩ => ⟨by
    subst es
    obtain ⟨b, eb, z, _⟩ := R.sl i _ e
    rw [ea] at eb; cases eb
    exact z, fun o q => h a o q⟩, R.ds, fun a z e => R.ex a z (h.th e)⟩
theorem EVR.mv {v : V} {x : EV} (r : EVR K Z g σ H v x) (R : Rel K Z g σ H) (X : Ext g σ Z H g' σ Z' H') : EVR K Z' g' σ H' v x := by
  cases x with
  | val d => exact Rep.mv (R.keeps X) d v r
  | nw d =>
    obtain ⟨a, e, nz, no, c⟩ := r
    have he : ∃ o, H a = some o := let ⟨o, h, _⟩ := c.there; ⟨o, h⟩
    obtain ⟨o, he⟩ := he
    refine ⟨a, e, fun z => ?_, fun q => ?_, c.mv (R.keeps X) fun o q => X.pres a o q no⟩
    · rcases X.zn a z with q | q | q
      · exact nz q
      · rw [he] at q; cases q
      · exact no q
    · rcases X.on a q with q | q
      · exact no q
      · rw [he] at q; cases q
  | loc i => exact r
theorem Fr0.mv {v : V} {x : EV} (r : Fr0 H1 v x) (X : Ext g σ Z H g1 σ1 Z1 H1) : Fr0 H v x := by
  cases x with
  | nw d => obtain ⟨a, e, h⟩ := r; exact ⟨a, e, X.th a h⟩
  | val d => trivial
  | loc i => trivial
/-- what a value is just now may be read -/
theorem EVR.rd {v : V} {x : EV} {d : PyData} (r : EVR K Z g σ H v x) (R : Rel K Z g σ H) (e : x.get g = some d) : Rd1 K Z H v d := by
  cases x with
  | val d' => cases e; exact .of r
  | nw d' =>
    obtain ⟨a, rfl, _, _, c⟩ := r
    obtain ⟨vs, ds, rfl, _, h, q⟩ := c.ndc e
    exact .lst (SqL.of h) q
  | loc i =>
    have r' : σ[i]? = some (some v) := r
    cases hs : g[i]? with
    | none => rw [show EV.get g (.loc i) = (g[i]?).bind Slot.get from rfl, hs] at e; cases e
    | some s =>
      rw [show EV.get g (.loc i) = (g[i]?).bind Slot.get from rfl, hs] at e
      cases s with
      | un => cases e
      | va d' =>
        cases e
        obtain ⟨w, e1, q⟩ := R.va hs
        rw [r'] at e1; cases e1
        exact .of q
      | mu k d' =>
        obtain ⟨a, e1, _, c, _⟩ := R.mu hs
        rw [r'] at e1; cases e1
        obtain ⟨vs, ds, rfl, _, h, q⟩ := c.ndc e
        exact .lst (SqL.of h) q
      | ex c d' => cases e
/-- an exception of the class number c that carries d -/
abbrev XR := Nat → PyData → Value → Option Addr → Hp → Prop
end

/-- behind an expression -/
def AftE (K : PySem.W.Frag) (XC : XR) (W : WX) (g : Env) (σ : St) (Z : Addr → Prop) (H : Hp) (Q : VK) : Res (EV × Env) → Prop
  | .ok p => ∀ v Z' H', Ext g σ Z H p.2 σ Z' H' → Rel K Z' p.2 σ H' → EVR K Z' p.2 σ H' v p.1 → Fr0 H v p.1 → Q v H'
  | .exc c d g' => ∀ cls oa Z' H', Ext g σ Z H g' σ Z' H' → Rel K Z' g' σ H' → XC c d cls oa H' → W cls oa σ H'
  | .bad => False
/-- the canonical reading of an evaluation -/
def TRE (K : PySem.W.Frag) (XC : XR) (W : WX) (f : Env → Res (EV × Env)) : TE := fun σ H Q => ∃ Z g, Rel K Z g σ H ∧ AftE K XC W g σ Z H Q (f g)
/-- arguments -/
inductive EVRs (K : PySem.W.Frag) (Z : Addr → Prop) (g : Env) (σ : St) (H : Hp) : List V → List EV → Prop
  | nil : EVRs K Z g σ H [] []
  | cons {v : V} {vs : List V} {x : EV} {xs : List EV} : EVR K Z g σ H v x → EVRs K Z g σ H vs xs → EVRs K Z g σ H (v :: vs) (x :: xs)
inductive Fr0s (H : Hp) : List V → List EV → Prop
  | nil : Fr0s H [] []
  | cons {v : V} {vs : List V} {x : EV} {xs : List EV} : Fr0 H v x → Fr0s H vs xs → Fr0s H (v :: vs) (x :: xs)
def AftA (K : PySem.W.Frag) (XC : XR) (W : WX) (g : Env) (σ : St) (Z : Addr → Prop) (H : Hp) (Q : List V → Hp → Prop) : Res (List EV × Env) → Prop
  | .ok p => ∀ vs Z' H', Ext g σ Z H p.2 σ Z' H' → Rel K Z' p.2 σ H' → EVRs K Z' p.2 σ H' vs p.1 → Fr0s H vs p.1 → Q vs H'
  | .exc c d g' => ∀ cls oa Z' H', Ext g σ Z H g' σ Z' H' → Rel K Z' g' σ H' → XC c d cls oa H' → W cls oa σ H'
  | .bad => False
def TRA (K : PySem.W.Frag) (XC : XR) (W : WX) (f : Env → Res (List EV × Env)) : TA := fun σ H Q => ∃ Z g, Rel K Z g σ H ∧ AftA K XC W g σ Z H Q (f g)
/-- tests -/
def AftT (K : PySem.W.Frag) (XC : XR) (W : WX) (g : Env) (σ : St) (Z : Addr → Prop) (H : Hp) (Q : Bool → Hp → Prop) : Res (Bool × Env) → Prop
  | .ok p => ∀ Z' H', Ext g σ Z H p.2 σ Z' H' → Rel K Z' p.2 σ H' → Q p.1 H'
  | .exc c d g' => ∀ cls oa Z' H', Ext g σ Z H g' σ Z' H' → Rel K Z' g' σ H' → XC c d cls oa H' → W cls oa σ H'
  | .bad => False
def TRT (K : PySem.W.Frag) (XC : XR) (W : WX) (f : Env → Res (Bool × Env)) : TT := fun σ H Q => ∃ Z g, Rel K Z g σ H ∧ AftT K XC W g σ Z H Q (f g)

section
variable {K : PySem.W.Frag} {XC : XR} {W : WX} {Z Z' Z1 : Addr → Prop} {g g' g1 : Env} {σ : St} {H H' H1 : Hp}
theorem EVRs.mv : ∀ {vs : List V} {xs : List EV}, EVRs K Z g σ H vs xs → Rel K Z g σ H → Ext g σ Z H g' σ Z' H' → EVRs K Z' g' σ H' vs xs
  | _, _, .nil, _, _ => .nil
  | _, _, .cons r t, R, X => .cons (r.mv R X) (EVRs.mv t R X)
theorem Fr0s.mv : ∀ {vs : List V} {xs : List EV}, Fr0s H1 vs xs → Ext g σ Z H g1 σ Z1 H1 → Fr0s H vs xs
  | _, _, .nil, _ => .nil
  | _, _, .cons r t, X => .cons (r.mv X) (Fr0s.mv t X)
theorem EVRs.rds : ∀ {vs : List V} {xs : List EV} {ds : List PyData}, EVRs K Z g σ H vs xs → Rel K Z g σ H → gets g xs = some ds → Rds K Z H vs ds
  | _, _, _, .nil, _, e => by cases e; exact .nil
  | _, _, ds, .cons (x := x) (xs := xs) r t, R, e => by
    simp only [gets] at e
    cases h1 : x.get g with
    | none => rw [h1] at e; cases e
    | some d =>
      rw [h1] at e
      simp only [Option.bind_some] at e
      cases h2 : gets g xs with
      | none => rw [h2] at e; cases e
      | some ds' =>
        rw [h2] at e
        cases e
        exact .cons (r.rd R h1) (EVRs.rds t R h2)
/-- an evaluation in two steps: the first one is done, the rest starts at what it left -/
theorem AftE.bind {α : Type} {r : Res (EV × Env)} {f : EV × Env → Res (α × Env)} {Q : VK} {P : Res (α × Env) → Prop} (hx : ∀ c d g', P (.exc c d g') → ∀ cls oa Z' H', Ext g σ Z H g' σ Z' H' → Rel K Z' g' σ H' → XC c d cls oa H' → W cls oa σ H') (hb : ¬ P .bad)
    (h : P (r.bind f)) (k : ∀ p, r = .ok p → P (f p) → ∀ v Z' H', Ext g σ Z H p.2 σ Z' H' → Rel K Z' p.2 σ H' → EVR K Z' p.2 σ H' v p.1 → Fr0 H v p.1 → Q v H') : AftE K XC W g σ Z H Q r := by
  cases r with
  | ok p => exact k p rfl h
  | exc c d g' => exact hx c d g' h
  | bad => exact (hb h).elim
theorem AftA.bind {α : Type} {r : Res (List EV × Env)} {f : List EV × Env → Res (α × Env)} {Q : List V → Hp → Prop} {P : Res (α × Env) → Prop} (hx : ∀ c d g', P (.exc c d g') → ∀ cls oa Z' H', Ext g σ Z H g' σ Z' H' → Rel K Z' g' σ H' → XC c d cls oa H' → W cls oa σ H') (hb : ¬ P .bad)
    (h : P (r.bind f)) (k : ∀ p, r = .ok p → P (f p) → ∀ vs Z' H', Ext g σ Z H p.2 σ Z' H' → Rel K Z' p.2 σ H' → EVRs K Z' p.2 σ H' vs p.1 → Fr0s H vs p.1 → Q vs H') : AftA K XC W g σ Z H Q r := by
  cases r with
  | ok p => exact k p rfl h
  | exc c d g' => exact hx c d g' h
  | bad => exact (hb h).elim
end
end PK
end

section
set_option Elab.async false
set_option linter.all false
set_option maxRecDepth 100000
set_option maxHeartbeats 4000000
/-! PkOps: the operations upon values, by the data that they read as. -/
namespace PK
open PySem PySem.Spec PyProof.Rows L2
open PySem (PyData)

def ZOk (Z : Addr → Prop) (H : Hp) : Prop := ∀ a, Z a → H a ≠ none
/-- a result: a fresh thing, or a value -/
def ResR (K : PySem.W.Frag) (Z : Addr → Prop) (H H' : Hp) (v : V) (r : Bool × PyData) : Prop :=
  (r.1 = true → ∃ a, v = .ref a ∧ H a = none ∧ Ct K Z H' a r.2) ∧ (r.1 = false → Rep K Z H' v r.2)
/-- what follows an operation -/
def Then (K : PySem.W.Frag) (Z : Addr → Prop) (H : Hp) (r : Bool × PyData) (Q : VK) : Prop := ∀ v H', HX H H' → ResR K Z H H' v r → Q v H'
def RB2 (K : PySem.W.Frag) (f : PyData → PyData → Option (Bool × PyData)) : R2 := fun x y H Q => ∃ Z a b r, ZOk Z H ∧ Rd1 K Z H x a ∧ Rd1 K Z H y b ∧ f a b = some r ∧ Then K Z H r Q
def RC2 (K : PySem.W.Frag) (f : PyData → PyData → Option Bool) : R2 := fun x y H Q => ∃ Z a b k, Rd1 K Z H x a ∧ Rd1 K Z H y b ∧ f a b = some k ∧ Q (.bl k) H
/-- a call of a built-in by values -/
def RB (K : PySem.W.Frag) (f : List PyData → Option (Bool × PyData)) : List V → Hp → VK → Prop := fun vs H Q => ∃ Z ds r, ZOk Z H ∧ Rds K Z H vs ds ∧ f ds = some r ∧ Then K Z H r Q

section
variable {K : PySem.W.Frag} {Z : Addr → Prop} {H : Hp} {x : V}
theorem Rd1.int {i : Int} (h : Rd1 K Z H x (.int i)) : x = .int i := by
  cases h with
  | of h => cases h; rfl
theorem Rd1.bool {b : Bool} (h : Rd1 K Z H x (.bool b)) : x = .bl b := by
  cases h with
  | of h => cases h; rfl
theorem Rd1.str {z : Str} (h : Rd1 K Z H x (.str z)) : x = .str z := by
  cases h with
  | of h => cases h; rfl
theorem Rd1.none (h : Rd1 K Z H x .none) : x = .non := by
  cases h with
  | of h => cases h; rfl
theorem Rd1.tuple {ds : List PyData} (h : Rd1 K Z H x (.tuple ds)) : ∃ a vs, x = .ref a ∧ SqT K H a vs ∧ Reps K Z H vs ds := by
  cases h with
  | of h => cases h with | tup h1 h2 => exact ⟨_, _, rfl, SqT.of h1, h2⟩
theorem Rd1.rtup {ds : List PyData} (h : Rd1 K Z H x (.tuple ds)) : Rep K Z H x (.tuple ds) := by
  cases h with
  | of h => exact h
theorem Rd1.list {ds : List PyData} (h : Rd1 K Z H x (.list ds)) : ∃ a vs, x = .ref a ∧ SqL K H a vs ∧ Reps K Z H vs ds := by
  cases h with
  | of h => cases h with
    | lst h1 _ h2 => exact ⟨_, _, rfl, h1, h2⟩
    | cst h1 h2 => exact ⟨_, _, rfl, SqL.mv h1 (fun o e => by cases e), h2⟩
  | lst h1 h2 => exact ⟨_, _, rfl, h1, h2⟩
theorem Rd1.dict {kvs : List (PyData × PyData)} (h : Rd1 K Z H x (.dict kvs)) : False := by
  cases h with
  | of h => cases h
theorem Rd1.isNone {d : PyData} (h : Rd1 K Z H x d) : isNone d = decide (x = .non) := by
  cases d with
  | none => rw [h.none]; rfl
  | bool b => rw [h.bool]; rfl
  | int b => rw [h.int]; rfl
  | str b => rw [h.str]; rfl
  | list b => obtain ⟨a, vs, rfl, _⟩ := h.list; rfl
  | tuple b => obtain ⟨a, vs, rfl, _⟩ := h.tuple; rfl
  | dict b => exact h.dict.elim
theorem Then.val {d : PyData} {Q : VK} {v : V} (h : Then K Z H (false, d) Q) (r : Rep K Z H v d) : Q v H := h v H HX.refl ⟨(fun e => by cases e), fun _ => r⟩
theorem Then.tup {ds : List PyData} {vs : List V} {Q : VK} (h : Then K Z H (false, .tuple ds) Q) (r : Reps K Z H vs ds) (p : Addr) (hp : H p = none) : Q (.ref p) (upd H p (.tup vs)) :=
  h _ _ (HX.new hp) ⟨(fun e => by cases e), fun _ => .tup upd_same (r.mv (HX.keeps (HX.new hp)))⟩
theorem Then.lst {ds : List PyData} {vs : List V} {Q : VK} (h : Then K Z H (true, .list ds) Q) (r : Reps K Z H vs ds) (p : Addr) (hp : H p = none) : Q (.ref p) (upd H p (.lst vs)) :=
  h _ _ (HX.new hp) ⟨fun _ => ⟨p, rfl, hp, .lst upd_same (r.mv (HX.keeps (HX.new hp)))⟩, fun e => by cases e⟩
end

section
variable {X : Cx}
/-- list + list, any two lists -/
theorem op_catL : OpR X (binaryOp .Add) (fun x y H Q => ∃ l b xs zs, x = .ref l ∧ y = .ref b ∧ SqL X.K H l xs ∧ SqL X.K H b zs ∧ xs.length + zs.length ≤ sizeLine ∧ ∀ p, H p = none → Q (.ref p) (upd H p (.lst (xs ++ zs)))) := by
  intro pins s σ H x y v u Q I rx ry h
  obtain ⟨l, b, xs, zs, rfl, rfl, hH, hB, hz, q⟩ := h
  cases rx
  cases ry
  obtain ⟨its, r, pl, _⟩ := I.list hH
  obtain ⟨its2, r2, pl2, _⟩ := I.list hB
  obtain ⟨⟨cls, dd, data, sl⟩, n, ho, hc, _, hd⟩ := pl
  obtain ⟨⟨cls2, dd2, data2, sl2⟩, n2, ho2, hc2, _, hd2⟩ := pl2
  simp only at hc hd hc2 hd2
  subst hc hd hc2 hd2
  have e : its.toArray ++ its2.toArray = (its ++ its2).toArray := by simp
  have l1 := r.length
  have l2 := r2.length
  refine concat_meets ⟨_, ho, rfl⟩ ⟨_, ho2, rfl⟩ noFill_list_add seq_list_add PySem.F.slot_list_add PySem.F.entry_list_add (PySem.F.args_list_add_2 _ _) (list_addW l b its.toArray its2.toArray n n2 dd dd2 sl sl2 (by simp only [List.size_toArray]; omega)) ⟨ho, ho2, ?_⟩
  rw [e]
  exact ⟨.ref _, _, I.lnew (t' := s.toks) (r.append r2) (by rw [List.length_append]; omega), rfl, q _ I.fresh⟩

def bopOp : Bop → Operator
  | .add => .Add | .sub => .Sub | .mul => .Mult | .fdiv => .FloorDiv | .mod => .Mod
  | .pow => .Pow | .shl => .LShift | .shr => .RShift | .bor => .BitOr | .band => .BitAnd
theorem line_eq : line = sizeLine := by rw [sizeLine_eq]; rfl
theorem op_int (o : Bop) : OpR X (binaryOp (bopOp o)) (fun x y H Q => ∃ i j d, x = .int i ∧ y = .int j ∧ bopI o i j = some d ∧ ∀ v, (∀ K Z, Rep K Z H v d) → Q v H) := by
  intro pins s σ H x y v u Q I rx ry h
  obtain ⟨i, j, d, rfl, rfl, e, q⟩ := h
  have fin : ∀ k : Int, d = .int k → Q (.int k) H := fun k ek => q _ fun K Z => by subst ek; exact .int k
  cases o with
  | add => exact op_add pins s σ H _ _ v u Q I rx ry ⟨i, j, rfl, rfl, fin _ (by simpa [bopI] using e.symm)⟩
  | sub => exact op_sub pins s σ H _ _ v u Q I rx ry ⟨i, j, rfl, rfl, fin _ (by simpa [bopI] using e.symm)⟩
  | mul =>
    simp only [bopI] at e
    split at e
    · rename_i hw
      refine op_mul pins s σ H _ _ v u Q I rx ry ⟨i, j, rfl, rfl, ?_, fin _ (by simpa using e.symm)⟩
      rcases Bool.or_eq_true_iff.mp hw with hw | hw
      · exact .inl (isWide_of hw)
      · exact .inr (isWide_of hw)
    · cases e
  | fdiv =>
    simp only [bopI] at e
    split at e
    · rename_i hw
      exact op_fdiv pins s σ H _ _ v u Q I rx ry ⟨i, j, rfl, rfl, ⟨hw.1, by have := log_lt hw.2 (by decide); omega⟩, fin _ (by simpa using e.symm)⟩
    · cases e
  | mod =>
    simp only [bopI] at e
    split at e
    · rename_i hw
      exact op_mod pins s σ H _ _ v u Q I rx ry ⟨i, j, rfl, rfl, hw, fin _ (by simpa using e.symm)⟩
    · cases e
  | _ => simp [bopI] at e
end
section
variable {X : Cx}
theorem Reps.cat_nil {K : PySem.W.Frag} {Z : Addr → Prop} {H : Hp} {vs : List V} {ds : List PyData} (r : Reps K Z H vs ds) : vs = [] ↔ ds = [] := by
  cases r <;> simp
/-- any binary operator -/
theorem op_any (o : Bop) : OpR X (binaryOp (bopOp o)) (RB2 X.K (bop o)) := by
  intro pins s σ H x y v u Q I rx ry h
  obtain ⟨Z, a, b, r, zk, ra, rb, e, q⟩ := h
  unfold bop at e
  split at e
  · -- ints
    rename_i i j
    rw [ra.int] at rx
    rw [rb.int] at ry
    cases ed : bopI o i j with
    | none => rw [ed] at e; cases e
    | some d =>
      rw [ed] at e
      cases e
      exact op_int o pins s σ H _ _ v u Q I rx ry ⟨i, j, d, rfl, rfl, ed, fun w hw => q.val (hw _ _)⟩
  · -- texts
    rename_i z1 z2
    split at e
    · rename_i ho
      subst ho
      split at e
      · rename_i hl
        cases e
        rw [ra.str] at rx
        rw [rb.str] at ry
        exact op_add_str pins s σ H _ _ v u Q I rx ry ⟨z1, z2, rfl, rfl, by rw [← line_eq]; exact hl, q.val (.str _)⟩
      · cases e
    · cases e
  · -- tuples
    rename_i xs ys
    split at e
    · rename_i ho
      subst ho
      split at e
      · rename_i hl
        cases e
        obtain ⟨p1, vs1, rfl, s1, r1⟩ := ra.tuple
        obtain ⟨p2, vs2, rfl, s2, r2⟩ := rb.tuple
        have l1 := r1.len
        have l2 := r2.len
        refine op_catA pins s σ H _ _ v u Q I rx ry ⟨p1, p2, vs1, vs2, rfl, rfl, s1, s2, by rw [← line_eq, l1, l2]; exact hl, fun z => ?_, fun _ z => ?_, fun _ _ p hp => q.tup (r1.app r2) p hp⟩
        · have z' := r1.cat_nil.mp z
          subst z'
          exact q.val rb.rtup
        · have z' := r2.cat_nil.mp z
          subst z'
          rw [List.append_nil] at q
          exact q.val ra.rtup
      · cases e
    · cases e
  · -- lists
    rename_i xs ys
    split at e
    · rename_i ho
      subst ho
      split at e
      · rename_i hl
        cases e
        obtain ⟨p1, vs1, rfl, s1, r1⟩ := ra.list
        obtain ⟨p2, vs2, rfl, s2, r2⟩ := rb.list
        have l1 := r1.len
        have l2 := r2.len
        exact op_catL pins s σ H _ _ v u Q I rx ry ⟨p1, p2, vs1, vs2, rfl, rfl, s1, s2, by rw [← line_eq, l1, l2]; exact hl, fun p hp => q.lst (r1.app r2) p hp⟩
      · cases e
    · cases e
  · -- tuple * int
    rename_i xs k
    split at e
    · rename_i ho
      subst ho
      split at e
      · rename_i hl
        cases e
        obtain ⟨p1, vs1, rfl, s1, r1⟩ := ra.tuple
        rw [rb.int] at ry
        have l1 := r1.len
        refine op_repT pins s σ H _ _ v u Q I rx ry ⟨p1, k, vs1, rfl, rfl, s1, fun z => ?_, hl.2.1, hl.2.2.1, by rw [l1]; exact hl.2.2.2, fun p hp => q.tup (r1.rep k.toNat) p hp⟩
        have z' := r1.cat_nil.mp z
        have h1 := hl.1
        rw [z'] at h1
        cases h1
      · cases e
    · cases e
  · cases e
end

/-! ### comparisons -/
def copOp : Cop → CmpOp
  | .eq => .Eq | .ne => .NotEq | .lt => .Lt | .le => .LtE | .gt => .Gt | .ge => .GtE
  | .inn => .In | .nin => .NotIn | .is => .Is | .isn => .IsNot
theorem shap_of {d : PyData} (h : shap d = true) : d.plain = true ∧ d.depth ≤ 60 := by
  unfold shap at h
  rw [Bool.and_eq_true] at h
  exact ⟨h.1, of_decide_eq_true h.2⟩
section
variable {X : Cx}
theorem cop_any (hu : X.A.units + 65 < cLine) (o : Cop) : OpR X (compareOp (copOp o)) (RC2 X.K (cop o)) := by
  intro pins s σ H x y v u Q I rx ry h
  obtain ⟨Z, a, b, k, ra, rb, e, q⟩ := h
  obtain ⟨as, r1⟩ := Dp.reads I a x v ra.dp rx
  obtain ⟨bs, r2⟩ := Dp.reads I b y u rb.dp ry
  have fin : EP X pins σ Q (.bool k) s := ⟨.bl k, H, I, rfl, q⟩
  cases o with
  | eq =>
    simp only [cop] at e
    split at e
    · rename_i hs
      rw [Bool.and_eq_true] at hs
      obtain ⟨p1, d1⟩ := shap_of hs.1
      obtain ⟨p2, d2⟩ := shap_of hs.2
      cases e
      exact SeqAt.eq_plain r1 r2 p1 p2 (by omega) fin
    · cases e
  | ne =>
    simp only [cop] at e
    split at e
    · rename_i hs
      rw [Bool.and_eq_true] at hs
      obtain ⟨p1, d1⟩ := shap_of hs.1
      obtain ⟨p2, d2⟩ := shap_of hs.2
      cases e
      exact SeqAt.ne_plain r1 r2 p1 p2 (by omega) fin
    · cases e
  | lt =>
    simp only [cop] at e
    split at e
    · rename_i hs
      simp only [Bool.and_eq_true] at hs
      obtain ⟨p1, d1⟩ := shap_of hs.1.1.2
      obtain ⟨p2, d2⟩ := shap_of hs.1.2
      cases e
      exact PySem.W.lt_data r1 r2 hs.1.1.1 (fun z => by rw [z] at hs; cases hs.2) (by omega) fin
    · cases e
  | gt =>
    simp only [cop] at e
    split at e
    · rename_i hs
      simp only [Bool.and_eq_true] at hs
      obtain ⟨p1, d1⟩ := shap_of hs.1.1.2
      obtain ⟨p2, d2⟩ := shap_of hs.1.2
      cases e
      exact PySem.W.gt_data r1 r2 hs.1.1.1 (fun z => by rw [z] at hs; cases hs.2) (by omega) fin
    · cases e
  | le =>
    simp only [cop] at e
    split at e
    · rename_i hs
      simp only [Bool.and_eq_true] at hs
      obtain ⟨p1, d1⟩ := shap_of hs.1.1.2
      obtain ⟨p2, d2⟩ := shap_of hs.1.2
      cases e
      exact PySem.W.le_data r1 r2 hs.1.1.1 (fun z => by rw [z] at hs; cases hs.2) (by omega) fin
    · cases e
  | ge =>
    simp only [cop] at e
    split at e
    · rename_i hs
      simp only [Bool.and_eq_true] at hs
      obtain ⟨p1, d1⟩ := shap_of hs.1.1.2
      obtain ⟨p2, d2⟩ := shap_of hs.1.2
      cases e
      exact PySem.W.ge_data r1 r2 hs.1.1.1 (fun z => by rw [z] at hs; cases hs.2) (by omega) fin
    · cases e
  | inn =>
    simp only [cop] at e
    split at e
    · rename_i xs hi
      split at e
      · rename_i hs
        rw [Bool.and_eq_true] at hs
        obtain ⟨p1, d1⟩ := shap_of hs.1
        obtain ⟨p2, d2⟩ := shap_of hs.2
        cases e
        cases b with
        | list ys => cases hi; exact SeqAt.in_list_data r2 r1 p2 p1 (by omega) fin
        | tuple ys => cases hi; exact SeqAt.in_tuple_data r2 r1 p2 p1 (by omega) fin
        | _ => cases hi
      · cases e
    · cases e
  | nin =>
    simp only [cop] at e
    split at e
    · rename_i xs hi
      split at e
      · rename_i hs
        rw [Bool.and_eq_true] at hs
        obtain ⟨p1, d1⟩ := shap_of hs.1
        obtain ⟨p2, d2⟩ := shap_of hs.2
        cases e
        cases b with
        | list ys => cases hi; exact SeqAt.notIn_list_data r2 r1 p2 p1 (by omega) fin
        | tuple ys => cases hi; exact SeqAt.notIn_tuple_data r2 r1 p2 p1 (by omega) fin
        | _ => cases hi
      · cases e
    · cases e
  | is =>
    simp only [cop] at e
    split at e
    · rename_i hs
      rw [rb.isNone] at hs
      cases e
      exact op_isN pins s σ H _ _ v u Q I rx ry ⟨of_decide_eq_true hs, by rw [← ra.isNone]; exact q⟩
    · cases e
  | isn =>
    simp only [cop] at e
    split at e
    · rename_i hs
      rw [rb.isNone] at hs
      cases e
      exact op_notN pins s σ H _ _ v u Q I rx ry ⟨of_decide_eq_true hs, by rw [← ra.isNone]; exact q⟩
    · cases e

/-! ### truth -/
theorem tru_any {Z : Addr → Prop} {H : Hp} {K : PySem.W.Frag} {x : V} {d : PyData} {k : Bool} (r : Rd1 K Z H x d) (e : tru d = some k) : TruV K x H k := by
  cases d with
  | none => rw [r.none]; cases e; rfl
  | bool b => rw [r.bool]; cases e; rfl
  | int i => rw [r.int]; cases e; rfl
  | str z =>
    rw [r.str]
    simp only [tru] at e
    split at e
    · rename_i hl
      cases e
      exact ⟨by rw [← line_eq]; exact hl, rfl⟩
    · cases e
  | list ds =>
    obtain ⟨a, vs, rfl, h, q⟩ := r.list
    cases e
    exact .inl ⟨vs, h, by cases q <;> rfl⟩
  | tuple ds =>
    obtain ⟨a, vs, rfl, h, q⟩ := r.tuple
    cases e
    exact .inr (.inl ⟨vs, h, by cases q <;> rfl⟩)
  | dict ds => cases e
end
end PK
end

section
set_option Elab.async false
set_option linter.all false
set_option maxRecDepth 100000
set_option maxHeartbeats 4000000
/-! PkBi: calls of built-ins, subscripts, slices, by the data that they read as. -/
namespace PK
open PySem PySem.Spec PyProof.Rows L2
open PySem (PyData)

def biName : Bi → String
  | .abs => "abs" | .all => "all" | .any => "any" | .bool => "bool" | .int => "int" | .len => "len" | .list => "list" | .max => "max" | .min => "min"
  | .repr => "repr" | .set => "set" | .sorted => "sorted" | .str => "str" | .sum => "sum" | .tuple => "tuple" | .dict => "dict" | .ord => "ord" | .chr => "chr"
def biTy : Bi → Bool
  | .bool => true | .int => true | .list => true | .set => true | .str => true | .tuple => true | .dict => true | _ => false
def biVal (b : Bi) : Value := if biTy b then .type (biName b) else .builtin (biName b)
theorem boot_bi (b : Bi) : bootBuiltins (Str.ofString (biName b)) = some (biVal b) := by cases b <;> decide +kernel

section
variable {K : PySem.W.Frag} {Z : Addr → Prop} {H : Hp}
theorem Rds.one {vs : List V} {d : PyData} (h : Rds K Z H vs [d]) : ∃ v, vs = [v] ∧ Rd1 K Z H v d := by
  cases h with
  | cons r t => cases t; exact ⟨_, rfl, r⟩
theorem Rds.two {vs : List V} {d e : PyData} (h : Rds K Z H vs [d, e]) : ∃ v w, vs = [v, w] ∧ Rd1 K Z H v d ∧ Rd1 K Z H w e := by
  cases h with
  | cons r t =>
    obtain ⟨w, rfl, q⟩ := t.one
    exact ⟨_, _, rfl, r, q⟩
theorem Rds.three {vs : List V} {d e f : PyData} (h : Rds K Z H vs [d, e, f]) : ∃ v w x, vs = [v, w, x] ∧ Rd1 K Z H v d ∧ Rd1 K Z H w e ∧ Rd1 K Z H x f := by
  cases h with
  | cons r t =>
    obtain ⟨w, x, rfl, q⟩ := t.two
    exact ⟨_, _, _, rfl, r, q⟩
theorem Reps.ints : ∀ {ds : List PyData} {vs : List V} {is : List Int}, Reps K Z H vs ds → intsD ds = some is → vs = is.map V.int
  | [], _, _, .nil, e => by cases e; rfl
  | d :: ds, _, is, .cons r t, e => by
    cases d with
    | int i =>
      simp only [intsD] at e
      cases h : intsD ds with
      | none => rw [h] at e; cases e
      | some js =>
        rw [h] at e
        cases e
        rw [Reps.ints t h]
        cases r
        rfl
    | _ => cases e
theorem Reps.bools : ∀ {ds : List PyData} {vs : List V} {is : List Bool}, Reps K Z H vs ds → boolsD ds = some is → vs = is.map V.bl
  | [], _, _, .nil, e => by cases e; rfl
  | d :: ds, _, is, .cons r t, e => by
    cases d with
    | bool i =>
      simp only [boolsD] at e
      cases h : boolsD ds with
      | none => rw [h] at e; cases e
      | some js =>
        rw [h] at e
        cases e
        rw [Reps.bools t h]
        cases r
        rfl
    | _ => cases e
end
theorem minL_least : ∀ (ys : List Int) (x : Int), (minL x ys = x ∨ minL x ys ∈ ys) ∧ minL x ys ≤ x ∧ ∀ y ∈ ys, minL x ys ≤ y
  | [], x => ⟨.inl rfl, Int.le_refl _, fun _ h => nomatch h⟩
  | y :: ys, x => by
    obtain ⟨h1, h2, h3⟩ := minL_least ys (if y < x then y else x)
    show (minL (if y < x then y else x) ys = x ∨ minL (if y < x then y else x) ys ∈ y :: ys) ∧ minL (if y < x then y else x) ys ≤ x ∧ ∀ z ∈ y :: ys, minL (if y < x then y else x) ys ≤ z
    by_cases c : y < x
    · rw [if_pos c] at h1 h2 h3 ⊢
      refine ⟨.inr ?_, by omega, fun z hz => ?_⟩
      · rcases h1 with e | e
        · rw [e]; exact List.mem_cons_self
        · exact List.mem_cons_of_mem _ e
      · rcases List.mem_cons.mp hz with rfl | hz
        · exact h2
        · exact h3 z hz
    · rw [if_neg c] at h1 h2 h3 ⊢
      refine ⟨?_, h2, fun z hz => ?_⟩
      · rcases h1 with e | e
        · exact .inl e
        · exact .inr (List.mem_cons_of_mem _ e)
      · rcases List.mem_cons.mp hz with rfl | hz
        · omega
        · exact h3 z hz
theorem maxL_most : ∀ (ys : List Int) (x : Int), (maxL x ys = x ∨ maxL x ys ∈ ys) ∧ x ≤ maxL x ys ∧ ∀ y ∈ ys, y ≤ maxL x ys
  | [], x => ⟨.inl rfl, Int.le_refl _, fun _ h => nomatch h⟩
  | y :: ys, x => by
    obtain ⟨h1, h2, h3⟩ := maxL_most ys (if y > x then y else x)
    show (maxL (if y > x then y else x) ys = x ∨ maxL (if y > x then y else x) ys ∈ y :: ys) ∧ x ≤ maxL (if y > x then y else x) ys ∧ ∀ z ∈ y :: ys, z ≤ maxL (if y > x then y else x) ys
    by_cases c : y > x
    · rw [if_pos c] at h1 h2 h3 ⊢
      refine ⟨.inr ?_, by omega, fun z hz => ?_⟩
      · rcases h1 with e | e
        · rw [e]; exact List.mem_cons_self
        · exact List.mem_cons_of_mem _ e
      · rcases List.mem_cons.mp hz with rfl | hz
        · exact h2
        · exact h3 z hz
    · rw [if_neg c] at h1 h2 h3 ⊢
      refine ⟨?_, h2, fun z hz => ?_⟩
      · rcases h1 with e | e
        · exact .inl e
        · exact .inr (List.mem_cons_of_mem _ e)
      · rcases List.mem_cons.mp hz with rfl | hz
        · omega
        · exact h3 z hz

section
variable {X : Cx}
/-- what is read is not longer than the line -/
theorem Inv.lenD {pins : List (Addr × Obj)} {σ : St} {H : Hp} {s : Shared} {Z : Addr → Prop} {x : V} {ds : List PyData} (I : Inv X pins σ H s) (r : Rd1 X.K Z H x (.list ds)) : ds.length ≤ sizeLine := by
  obtain ⟨a, vs, rfl, h, q⟩ := r.list
  obtain ⟨its, rv, pl, hz⟩ := I.list h
  rw [← q.len]
  exact hz
/-- EachIs of values and what they read as -/
theorem each_of {K : PySem.W.Frag} {Z : Addr → Prop} {H : Hp} : ∀ {vs : List V} {ds : List PyData} {us : List Value}, Reps K Z H vs ds → Vals vs us →
    PySem.W.EachIs (fun (u : Value) (p : V × PyData) => RelV p.1 u ∧ Rep K Z H p.1 p.2) us (vs.zip ds)
  | _, _, _, .nil, .nil => .nil
  | _, _, _, .cons r t, .cons q s => .cons ⟨q, r⟩ (each_of t s)
theorem each_back {K : PySem.W.Frag} {Z : Addr → Prop} {H : Hp} : ∀ {us : List Value} {ps : List (V × PyData)}, PySem.W.EachIs (fun (u : Value) (p : V × PyData) => RelV p.1 u ∧ Rep K Z H p.1 p.2) us ps →
    Vals (ps.map (·.1)) us ∧ Reps K Z H (ps.map (·.1)) (ps.map (·.2))
  | _, _, .nil => ⟨.nil, .nil⟩
  | _, _, .cons h t => let ⟨a, b⟩ := each_back t; ⟨.cons h.1 a, .cons h.2 b⟩

theorem bi_any (hc : X.calm = true) (hu : X.A.units + 100 < cLine) (hgd : X.A.guards = some []) (b : Bi) : CallR X (biVal b) (RB X.K (bi b)) := by
  intro pins s σ H xs us Q I r h
  obtain ⟨Z, ds, rs, zk, rd, e, q⟩ := h
  unfold bi at e
  split at e
  · -- abs
    cases e
    obtain ⟨v, rfl, r1⟩ := rd.one
    rw [r1.int] at r
    exact call_abs pins s σ H _ us Q I r ⟨_, rfl, q.val (.int _)⟩
  · -- all
    rename_i ds'
    obtain ⟨v, rfl, r1⟩ := rd.one
    obtain ⟨a, vs, rfl, hs, rv⟩ := r1.list
    cases eb : boolsD ds' with
    | none => rw [eb] at e; cases e
    | some bs =>
      rw [eb] at e
      cases e
      rw [rv.bools eb] at hs
      exact cr_all hc pins s σ H _ us Q I r ⟨a, bs, rfl, hs, q.val (.bl _)⟩
  · -- any
    rename_i ds'
    obtain ⟨v, rfl, r1⟩ := rd.one
    obtain ⟨a, vs, rfl, hs, rv⟩ := r1.list
    cases eb : boolsD ds' with
    | none => rw [eb] at e; cases e
    | some bs =>
      rw [eb] at e
      cases e
      rw [rv.bools eb] at hs
      exact cr_any hc pins s σ H _ us Q I r ⟨a, bs, rfl, hs, q.val (.bl _)⟩
  · cases e
    obtain ⟨v, rfl, r1⟩ := rd.one
    rw [r1.bool] at r
    exact call_bool1 pins s σ H _ us Q I r (.inr ⟨_, rfl, q.val (.bl _)⟩)
  · cases e
    obtain ⟨v, rfl, r1⟩ := rd.one
    rw [r1.int] at r
    exact call_bool1 pins s σ H _ us Q I r (.inl ⟨_, rfl, q.val (.bl _)⟩)
  · cases e
    obtain ⟨v, rfl, r1⟩ := rd.one
    rw [r1.int] at r
    exact call_int1 pins s σ H _ us Q I r (.inl ⟨_, rfl, q.val (.int _)⟩)
  · cases e
    obtain ⟨v, rfl, r1⟩ := rd.one
    rw [r1.bool] at r
    exact call_int1 pins s σ H _ us Q I r (.inr ⟨_, rfl, q.val (.int _)⟩)
  · -- len
    cases e
    obtain ⟨v, rfl, r1⟩ := rd.one
    obtain ⟨a, vs, rfl, hs, rv⟩ := r1.list
    exact call_len_seq pins s σ H _ us Q I r ⟨a, vs, rfl, .inl hs, by rw [rv.len]; exact q.val (.int _)⟩
  · cases e
    obtain ⟨v, rfl, r1⟩ := rd.one
    obtain ⟨a, vs, rfl, hs, rv⟩ := r1.tuple
    exact call_len_seq pins s σ H _ us Q I r ⟨a, vs, rfl, .inr hs, by rw [rv.len]; exact q.val (.int _)⟩
  · split at e
    · rename_i hl
      cases e
      obtain ⟨v, rfl, r1⟩ := rd.one
      rw [r1.str] at r
      exact call_len_str pins s σ H _ us Q I r ⟨_, rfl, by rw [← line_eq]; exact hl, q.val (.int _)⟩
    · cases e
  · -- list
    cases e
    obtain ⟨v, rfl, r1⟩ := rd.one
    obtain ⟨a, vs, rfl, hs, rv⟩ := r1.list
    exact call_list_of pins s σ H _ us Q I r ⟨a, vs, rfl, .inl hs, fun l hl => q.lst rv l hl⟩
  · cases e
    obtain ⟨v, rfl, r1⟩ := rd.one
    obtain ⟨a, vs, rfl, hs, rv⟩ := r1.tuple
    exact call_list_of pins s σ H _ us Q I r ⟨a, vs, rfl, .inr hs, fun l hl => q.lst rv l hl⟩
  · -- tuple
    cases e
    obtain ⟨v, rfl, r1⟩ := rd.one
    obtain ⟨a, vs, rfl, hs, rv⟩ := r1.list
    exact call_tuple_of pins s σ H _ us Q I r ⟨a, vs, rfl, .inl ⟨hs, fun l hl => q.tup rv l hl⟩⟩
  · cases e
    obtain ⟨v, rfl, r1⟩ := rd.one
    obtain ⟨a, vs, rfl, hs, rv⟩ := r1.tuple
    exact call_tuple_of pins s σ H _ us Q I r ⟨a, vs, rfl, .inr ⟨hs, q.val r1.rtup⟩⟩
  · -- min, max of two
    cases e
    obtain ⟨v, w', rfl, r1, r2⟩ := rd.two
    rw [r1.int, r2.int] at r
    exact call_min2 hc pins s σ H _ us Q I r ⟨_, _, rfl, q.val (.int _)⟩
  · cases e
    obtain ⟨v, w', rfl, r1, r2⟩ := rd.two
    rw [r1.int, r2.int] at r
    exact call_max2 hc pins s σ H _ us Q I r ⟨_, _, rfl, q.val (.int _)⟩
  · -- .. of three
    rename_i i j k
    cases e
    obtain ⟨v, w', x, rfl, r1, r2, r3⟩ := rd.three
    rw [r1.int, r2.int, r3.int] at r
    cases r with
    | cons q1 t =>
      cases t with
      | cons q2 t =>
        cases t with
        | cons q3 t =>
          cases t
          obtain ⟨t1, rfl⟩ := q1
          obtain ⟨t2, rfl⟩ := q2
          obtain ⟨t3, rfl⟩ := q3
          refine min_three_ints (I.ok.hd hc) fun h' tk k' => ?_
          refine ⟨.int (minL i [j, k]), H, I.kept k', ?_, q.val (.int _)⟩
          show ∃ t, _ = Value.int (if k < (if j < i then j else i) then k else (if j < i then j else i)) t
          by_cases c1 : j < i
          · simp only [if_pos c1]
            by_cases c2 : k < j
            · simp only [if_pos c2]; exact ⟨_, rfl⟩
            · simp only [if_neg c2]; exact ⟨_, rfl⟩
          · simp only [if_neg c1]
            by_cases c2 : k < i
            · simp only [if_pos c2]; exact ⟨_, rfl⟩
            · simp only [if_neg c2]; exact ⟨_, rfl⟩
  · rename_i i j k
    cases e
    obtain ⟨v, w', x, rfl, r1, r2, r3⟩ := rd.three
    rw [r1.int, r2.int, r3.int] at r
    cases r with
    | cons q1 t =>
      cases t with
      | cons q2 t =>
        cases t with
        | cons q3 t =>
          cases t
          obtain ⟨t1, rfl⟩ := q1
          obtain ⟨t2, rfl⟩ := q2
          obtain ⟨t3, rfl⟩ := q3
          refine max_three_ints (I.ok.hd hc) fun h' tk k' => ?_
          refine ⟨.int (maxL i [j, k]), H, I.kept k', ?_, q.val (.int _)⟩
          show ∃ t, _ = Value.int (if k > (if j > i then j else i) then k else (if j > i then j else i)) t
          by_cases c1 : j > i
          · simp only [if_pos c1]
            by_cases c2 : k > j
            · simp only [if_pos c2]; exact ⟨_, rfl⟩
            · simp only [if_neg c2]; exact ⟨_, rfl⟩
          · simp only [if_neg c1]
            by_cases c2 : k > i
            · simp only [if_pos c2]; exact ⟨_, rfl⟩
            · simp only [if_neg c2]; exact ⟨_, rfl⟩
  · -- .. of a list
    rename_i ds'
    split at e
    · rename_i x xs' ei
      cases e
      obtain ⟨v, rfl, r1⟩ := rd.one
      obtain ⟨a, vs, rfl, hs, rv⟩ := r1.list
      rw [rv.ints ei] at hs
      obtain ⟨m1, m2, m3⟩ := minL_least xs' x
      refine cr_min hc pins s σ H _ us Q I r ⟨a, x :: xs', rfl, hs, by simp, fun m hm hle => ?_⟩
      have em : m = minL x xs' := by
        have h1 : m ≤ minL x xs' := by
          rcases m1 with z | z
          · rw [z]; exact hle x List.mem_cons_self
          · exact hle _ (List.mem_cons_of_mem _ z)
        have h2 : minL x xs' ≤ m := by
          rcases List.mem_cons.mp hm with z | z
          · rw [z]; exact m2
          · exact m3 m z
        omega
      rw [em]
      exact q.val (.int _)
    · cases e
  · rename_i ds'
    split at e
    · rename_i x xs' ei
      cases e
      obtain ⟨v, rfl, r1⟩ := rd.one
      obtain ⟨a, vs, rfl, hs, rv⟩ := r1.list
      rw [rv.ints ei] at hs
      obtain ⟨m1, m2, m3⟩ := maxL_most xs' x
      refine cr_max hc pins s σ H _ us Q I r ⟨a, x :: xs', rfl, hs, by simp, fun m hm hle => ?_⟩
      have em : m = maxL x xs' := by
        have h1 : maxL x xs' ≤ m := by
          rcases m1 with z | z
          · rw [z]; exact hle x List.mem_cons_self
          · exact hle _ (List.mem_cons_of_mem _ z)
        have h2 : m ≤ maxL x xs' := by
          rcases List.mem_cons.mp hm with z | z
          · rw [z]; exact m2
          · exact m3 m z
        omega
      rw [em]
      exact q.val (.int _)
    · cases e
  · -- sum
    rename_i ds'
    obtain ⟨v, rfl, r1⟩ := rd.one
    obtain ⟨a, vs, rfl, hs, rv⟩ := r1.list
    cases ei : intsD ds' with
    | none => rw [ei] at e; cases e
    | some is =>
      rw [ei] at e
      cases e
      rw [rv.ints ei] at hs
      exact cr_sum hc pins s σ H _ us Q I r ⟨a, is, rfl, hs, q.val (.int _)⟩
  · -- sorted
    rename_i ds'
    obtain ⟨v, rfl, r1⟩ := rd.one
    obtain ⟨a, vs, rfl, hs, rv⟩ := r1.list
    have hlen := Inv.lenD I r1
    cases eo : sortedD ds' with
    | none => rw [eo] at e; cases e
    | some rr =>
      rw [eo] at e
      cases e
      unfold sortedD at eo
      split at eo
      · rename_i hk
        cases eo
        simp only [Bool.and_eq_true, Bool.or_eq_true] at hk
        obtain ⟨⟨h1, h2⟩, h3⟩ := hk
        cases r with
        | cons ru rt =>
          cases rt
          cases ru
          obtain ⟨its, r', pl, hz⟩ := I.list hs
          have hsh : ∀ d ∈ ds', d.depth ≤ 60 := fun d hd => (shap_of (List.all_eq_true.mp h2 d hd)).2
          have zl : (vs.zip ds').map (·.2) = ds' := List.map_snd_zip (by rw [rv.len]; exact Nat.le_refl _)
          have e1 := each_of rv r'
          have al : PySem.W.AllAlike ((vs.zip ds').map fun p => p.2) := by
            rw [show ((vs.zip ds').map fun p => p.2) = ds' from zl]
            intro d hd d' hd'
            exact List.all_eq_true.mp (List.all_eq_true.mp h1 d hd) d' hd'
          have so : PySem.W.Sortable ((vs.zip ds').map fun p => p.2) := by
            rw [show ((vs.zip ds').map fun p => p.2) = ds' from zl]
            rcases h3 with h3 | h3
            · refine .inl fun d hd => ?_
              have := List.all_eq_true.mp h3 d hd
              cases d with
              | tuple l =>
                cases l with
                | nil => cases this
                | cons x r => exact ⟨x, r, rfl⟩
              | _ => cases this
            · refine .inr fun d hd => ?_
              have := List.all_eq_true.mp h3 d hd
              exact ⟨fun z => (by rw [z] at this; cases this), fun l z => (by rw [z] at this; cases this)⟩
          have hmem : ∀ p ∈ vs.zip ds', p.2 ∈ ds' := fun p hp => (List.of_mem_zip hp).2
          have er : PySem.W.EachIs (fun (v : Value) (p : V × PyData) => ∃ as, Reads s.heap v p.2 as) its (vs.zip ds') := e1.mono fun u p hp => Dp.reads I p.2 p.1 u hp.2.dp hp.1
          refine PySem.W.sorted_data (enc := fun p : V × PyData => p.2) pl.isList e1 er al so (by rw [List.length_zip, rv.len, Nat.min_self]; exact hlen) (fun p hp => by have := hsh _ (hmem p hp); omega) fun out ho eo => ?_
          obtain ⟨b1, b2⟩ := each_back eo
          have ems : ((vs.zip ds').mergeSort (PySem.W.dataLe false fun p : V × PyData => p.2)).map (·.2) = ds'.mergeSort fun a b => !PySem.W.dataLt b a := by
            rw [show PySem.W.dataLe false (fun p : V × PyData => p.2) = fun a b => !PySem.W.dataLt b.2 a.2 from PySem.W.dataLe_eq false _, List.map_mergeSort (s := fun a b => !PySem.W.dataLt b a) (fun a _ b _ => rfl), zl]
          rw [ems] at b2
          have hnew := I.hok.fresh (a := s.heap.objs.size + 1) (Nat.le_succ _)
          obtain ⟨n, eat⟩ := sortedAll_at s.heap its (List.toArray out)
          refine ⟨.ref (s.heap.objs.size + 1), _, I.laid (a := s.heap.objs.size + 1) (o := .lst (((vs.zip ds').mergeSort (PySem.W.dataLe false fun p : V × PyData => p.2)).map (·.1))) (t' := s.toks) (fun b o eb => sortedAll_old eb) (Nat.le_succ _) ?_, rfl, q.lst b2 _ hnew⟩
          refine ⟨?_, out, n, b1, eat⟩
          rw [List.length_map, List.length_mergeSort, List.length_zip, rv.len, Nat.min_self]
          exact hlen
      · cases eo
  · -- repr
    rename_i d
    split at e
    · rename_i hk
      cases e
      simp only [Bool.and_eq_true, Bool.not_eq_true', decide_eq_true_eq] at hk
      obtain ⟨⟨⟨h1, h2⟩, h3⟩, h4⟩ := hk
      have hz : d.shown.length ≤ sizeLine := by rw [sizeLine_eq]; exact h4
      obtain ⟨v, rfl, r1⟩ := rd.one
      have dp := r1.dp
      cases r with
      | cons ru rt =>
        rename_i u us'
        cases rt
        obtain ⟨as, rr⟩ := Dp.reads I d v u dp ru
        have fin : ∀ (h' : Heap) (tk : Nat) (t : Tok), (∀ b o, s.heap.get? b = some o → h'.get? b = some o) → EP X pins σ Q (.str d.shown t) { s with heap := h', toks := tk } := fun h' tk t k =>
          ⟨.str d.shown, H, I.kept k, ⟨t, rfl⟩, q.val (.str _)⟩
        have same : ∀ (tk : Nat) (t : Tok), EP X pins σ Q (.str d.shown t) { s with toks := tk } := fun tk t => fin s.heap tk t fun _ _ e => e
        have big : ∀ a, u = .ref a → wpAny (model X.prog X.w) X.A (call (.builtin "repr") [u]) (EP X pins σ Q) X.xe s := fun a eu => by
          subst eu
          exact repr_of_reads' rr h1 (PyData.noDict_hsm h2) hgd (by omega) (fun _ _ e => e) (fun h' u tk k => fin h' tk u k) hz
        cases d with
        | none =>
          rw [r1.none] at ru
          cases ru
          exact PySem.P.repr_of_none (same _ _)
        | bool b =>
          rw [r1.bool] at ru
          cases ru
          exact PySem.P.repr_of_bool (same _ _)
        | int i =>
          rw [r1.int] at ru
          obtain ⟨t, rfl⟩ := ru
          exact PySem.P.repr_of_int (by simpa [PyData.showable] using h1) (same _ _)
        | str z =>
          rw [r1.str] at ru
          obtain ⟨t, rfl⟩ := ru
          exact PySem.P.repr_of_str (same _ _) hz
        | list ds =>
          obtain ⟨a, vs, rfl, _⟩ := r1.list
          exact big a ru
        | tuple ds =>
          obtain ⟨a, vs, rfl, _⟩ := r1.tuple
          exact big a ru
        | dict kvs => exact r1.dict.elim
    · cases e
  · cases e

/-! ### list(range(..)) -/
def tyName (t : Ty) : String := match t with
  | .int => "int" | .bool => "bool" | .str => "str" | .tuple => "tuple" | .list => "list" | .dict => "dict"
theorem boot_ty (t : Ty) : bootBuiltins (Str.ofString (tyName t)) = some (.type (tyName t)) := by cases t <;> decide +kernel
/-- isinstance of a value that reads as data -/
theorem isa_any (t : Ty) : CallR X (.builtin "isinstance") (fun xs H Q => ∃ Z v d, xs = [v, .ty (tyName t)] ∧ Rd1 X.K Z H v d ∧ Q (.bl (t.has d)) H) := by
  intro pins s σ H xs us Q I r h
  obtain ⟨Z, v, d, rfl, rd, q⟩ := h
  obtain ⟨u, u2, rfl, r1, r2⟩ := vals2 r
  have e2 : u2 = .type (tyName t) := r2
  subst e2
  obtain ⟨as, rr⟩ := Dp.reads I d v u rd.dp r1
  have fin : ∀ (b : Bool) tk, s.toks ≤ tk → t.has d = b → EP X pins σ Q (.bool b) { s with toks := tk } := fun b tk _ e => by
    subst e
    exact ⟨.bl _, H, I.tok _, rfl, q⟩
  cases t with
  | int => exact PySem.W.isinstance_int_data rr fun tk h => fin _ tk h (by cases d <;> rfl)
  | bool => exact PySem.W.isinstance_bool_data rr fun tk h => fin _ tk h (by cases d <;> rfl)
  | str => exact PySem.W.isinstance_str_data rr fun tk h => fin _ tk h (by cases d <;> rfl)
  | tuple => exact PySem.W.isinstance_tuple_data rr fun tk h => fin _ tk h (by cases d <;> rfl)
  | list => exact PySem.W.isinstance_list_data rr fun tk h => fin _ tk h (by cases d <;> rfl)
  | dict => exact PySem.W.isinstance_dict_data rr fun tk h => fin _ tk h (by cases d <;> rfl)

/-! ### a[i] -/
theorem ixN_bind {α : Type} {xs : List α} {i : Int} {v : α} (h : ((L2.ixN xs.length i).bind fun j => xs[j]?) = some v) : atI xs i = some v := h
theorem ix_any : IxR X (fun x y H Q => ∃ Z a b d, Rd1 X.K Z H x a ∧ Rd1 X.K Z H y b ∧ ix a b = some d ∧ ∀ v, Rep X.K Z H v d → Q v H) := by
  intro value slice pins s σ H x y v u Q I rx ry h hs
  obtain ⟨Z, a, b, d, ra, rb, e, q⟩ := h
  unfold ix at e
  split at e
  · rename_i xs k
    rw [rb.int] at ry
    obtain ⟨p, vs, rfl, hq, rv⟩ := ra.list
    cases hj : L2.ixN xs.length k with
    | none => rw [hj] at e; cases e
    | some j =>
      rw [hj] at e
      have e' : xs[j]? = some d := e
      obtain ⟨w', hw, rw'⟩ := rv.get e'
      refine ix_list value slice pins s σ H _ _ v u Q I rx ry ⟨p, vs, k, w', rfl, rfl, hq, ?_, q w' rw'⟩ hs
      unfold L2.atI
      rw [rv.len, hj]
      exact hw
  · rename_i xs k
    rw [rb.int] at ry
    obtain ⟨p, vs, rfl, hq, rv⟩ := ra.tuple
    cases hj : L2.ixN xs.length k with
    | none => rw [hj] at e; cases e
    | some j =>
      rw [hj] at e
      have e' : xs[j]? = some d := e
      obtain ⟨w', hw, rw'⟩ := rv.get e'
      refine ix_tup value slice pins s σ H _ _ v u Q I rx ry ⟨p, vs, k, w', rfl, rfl, hq, ?_, q w' rw'⟩ hs
      unfold L2.atI
      rw [rv.len, hj]
      exact hw
  · rename_i z k
    split at e
    · rename_i hl
      rw [rb.int] at ry
      rw [ra.str] at rx
      cases hj : L2.ixN z.cps.size k with
      | none => rw [hj] at e; cases e
      | some j =>
        rw [hj] at e
        simp only [Option.bind_some] at e
        cases hc : z.cps[j]? with
        | none => rw [hc] at e; cases e
        | some c =>
          rw [hc] at e
          cases e
          refine ix_str value slice pins s σ H _ _ v u Q I rx ry ⟨z, k, c, rfl, rfl, by rw [← line_eq]; exact hl, ?_, q _ (.str _)⟩ hs
          unfold L2.atI
          rw [Array.length_toList, hj]
          simpa using hc
    · cases e
  · cases e

/-! ### a[lo:hi] -/
theorem cut_reps {K : PySem.W.Frag} {Z : Addr → Prop} {H : Hp} {vs : List V} {ds : List PyData} (r : Reps K Z H vs ds) (lo hi : Option Int) : Reps K Z H (cutV vs lo hi) (cut ds lo hi) := by
  unfold cutV cut
  rw [r.len]
  exact (r.drop _).take _
theorem slc_any : SlR X (fun x lo hi H Q => ∃ Z a r, Rd1 X.K Z H x a ∧ slc a (lo.map .int) (hi.map .int) = some r ∧ Then X.K Z H r Q) := by
  intro pins s σ H x v vl vu lo hi sl Q I rx hs pl pu h
  obtain ⟨Z, a, r, ra, e, q⟩ := h
  have o1 : optI (lo.map PyData.int) = some lo := by cases lo <;> rfl
  have o2 : optI (hi.map PyData.int) = some hi := by cases hi <;> rfl
  unfold slc at e
  rw [o1, o2] at e
  simp only at e
  split at e
  · rename_i xs
    cases e
    obtain ⟨p, vs, rfl, hq, rv⟩ := ra.list
    exact sl_list pins s σ H _ v vl vu lo hi sl Q I rx hs pl pu ⟨p, vs, rfl, hq, fun p hp => q.lst (cut_reps rv lo hi) p hp⟩
  · rename_i xs
    cases e
    obtain ⟨p, vs, rfl, hq, rv⟩ := ra.tuple
    refine sl_tupA pins s σ H _ v vl vu lo hi sl Q I rx hs pl pu ⟨p, vs, rfl, hq, fun hw => ?_, fun _ p hp => q.tup (cut_reps rv lo hi) p hp⟩
    have e1 : cut xs lo hi = xs := by
      unfold cut
      rw [← rv.len, hw.1, hw.2, List.drop_zero, rv.len, Nat.sub_zero, List.take_length]
    rw [e1] at q
    exact q.val ra.rtup
  · rename_i z
    split at e
    · rename_i hl
      cases e
      rw [ra.str] at rx
      refine sl_str pins s σ H _ v vl vu lo hi sl Q I rx hs pl pu ⟨z, rfl, by rw [← line_eq]; exact hl, ?_⟩
      have ec : cutS z lo hi = ⟨(cut z.cps.toList lo hi).toArray⟩ := by
        unfold cutS cut
        rw [Array.length_toList]
        rfl
      rw [ec]
      exact q.val (.str _)
    · cases e
  · cases e
end
end PK
end

section
set_option Elab.async false
set_option linter.all false
set_option maxRecDepth 100000
set_option maxHeartbeats 4000000
/-! PkRev: a[::-1] of a list, of a tuple. -/
namespace PK
open PySem PySem.Spec PyProof.Rows L2
open PySem (PyData)

section
variable {prog : Program} {w : World} {A : Around} {E : Value → Shared → Prop} {s : Shared}
theorem applied_back {sl : Addr} {vk : Value} {n : Nat} {Q : Int × Int × Nat → Shared → Prop} (hs : s.heap.IsSliceOf sl .none .none vk) (pk : IsPart vk (some (-1)))
    (h : Q ((n : Int) - 1, -1, n) s) : wpAny (model prog w) A (Builtin.Slice.sliceApplied (.ref sl) (pure (n : Int))) Q E s := by
  obtain ⟨os, hos, hcs, hds⟩ := id hs
  unfold Builtin.Slice.sliceApplied Builtin.Slice.sliceFields
  refine wpAny_bind (wpAny_bind (wpAny_field hos hds (x := .none) rfl (wpAny_bind (wpAny_field hos hds (x := .none) rfl (wpAny_bind (wpAny_field hos hds (x := vk) rfl (wpAny_pure ?_)))))))
  refine wpAny_bind (HT.slicePart_ pk ?_)
  show wpAny _ _ (if ((-1 : Int) == 0) = true then _ else _) _ _ s
  rw [if_neg (by decide)]
  refine wpAny_bind (HT.slicePart_ .none (wpAny_bind (HT.slicePart_ .none (wpAny_bind (wpAny_pure ?_)))))
  have e : Builtin.Slice.slicePlaces ((n : Int) - 1) (-1) (-1) = n := by
    unfold Builtin.Slice.slicePlaces
    have h1 : ¬ ((-1 : Int) > 0) := by decide
    simp only [h1, if_false]
    by_cases c : (n : Int) - 1 > -1
    · rw [if_pos c, show (- -1 : Int) = 1 by decide, Int.ediv_one]
      omega
    · rw [if_neg c]
      omega
  show wpAny _ _ (pure ((n : Int) - 1, (-1 : Int), Builtin.Slice.slicePlaces ((n : Int) - 1) (-1) (-1))) _ _ s
  rw [e]
  exact wpAny_pure h
theorem fm_congr {α β : Type} {f g : α → Option β} : ∀ {l : List α}, (∀ k ∈ l, f k = g k) → l.filterMap f = l.filterMap g
  | [], _ => rfl
  | a :: l, h => by
    have ih := fm_congr (l := l) fun k hk => h k (List.mem_cons_of_mem _ hk)
    rw [List.filterMap_cons, List.filterMap_cons, h a List.mem_cons_self, ih]
theorem pick_back (xs : Array Value) : ((List.range xs.size).filterMap fun (k : Nat) => xs[(((xs.size : Int) - 1) + (k : Int) * (-1)).toNat]?) = xs.toList.reverse := by
  have e : ∀ k ∈ List.range xs.size, xs[(((xs.size : Int) - 1) + (k : Int) * (-1)).toNat]? = (fun k => xs[k]?) (xs.size - 1 - k) := by
    intro k hk
    have := List.mem_range.mp hk
    have e1 : (((xs.size : Int) - 1) + (k : Int) * (-1)).toNat = xs.size - 1 - k := by omega
    rw [e1]
  rw [fm_congr e, show (fun k => (fun k => xs[k]?) (xs.size - 1 - k)) = (fun k => xs[k]?) ∘ (fun k => xs.size - 1 - k) from rfl, ← List.filterMap_map, PySem.W.krv_range, List.filterMap_reverse, PySem.W.krv_all]
theorem item_back {t sl : Addr} {items : Array Value} {vk : Value} {Q : Value → Shared → Prop} (ht : IsTup s.heap t items) (hs : s.heap.IsSliceOf sl .none .none vk) (pk : IsPart vk (some (-1)))
    (h : Q (.ref s.heap.objs.size) { s with heap := s.heap.push { cls := .type "tuple", data := .seq items.toList.reverse.toArray } })
    (hsz : items.size ≤ sizeLine) : wpAny (model prog w) A (getItem (.ref t) (.ref sl)) Q E s := by
  have htake : sizeOk (.seq items.toList.reverse.toArray) := by
    show items.toList.reverse.toArray.size ≤ sizeLine
    rw [List.size_toArray, List.length_reverse, Array.length_toList]
    exact hsz
  obtain ⟨os, hos, hcs, hds⟩ := id hs
  have hT : s.TypeIs (.ref sl) "slice" := ⟨os, hos, hcs⟩
  unfold getItem
  try with_reducible refine wpAny_holding ?_
  first | refine wpAny_bind (wpAny_pure ?_) | skip
  refine wpAny_bind (wpAny_sequenceKey ht.typeIs (by decide) (wpAny_bind (wpAny_callSpecial?_slot (name := Str.ofString "__getitem__") ht.typeIs slot_tuple_getitem
    (wpAny_call_entry slot_tuple_getitem ht.typeIs entry_tuple_getitem ?_ (args_tuple_getitem _ _)))))
  show wpAny _ _ (Builtin.Tuple.tupleItemsOf (.ref t) >>= _) _ _ s
  refine wpAny_bind (tupleItemsOf_ ht (wpAny_bind (wpAny_typeOf hT ?_)))
  rw [if_pos (by decide)]
  refine wpAny_bind (applied_back hs pk ?_)
  have hno : ¬ ((((items.size : Int) - 1) == 0 && (-1 : Int) == 1 && items.size == items.size) = true) := by
    intro q
    rw [Bool.and_eq_true, Bool.and_eq_true] at q
    exact absurd q.1.2 (by decide)
  show wpAny _ _ (if (((items.size : Int) - 1) == 0 && (-1 : Int) == 1 && items.size == items.size) = true then _ else _) _ _ s
  rw [if_neg hno, pick_back]
  first
    | exact wpAny_bind (m := Builtin.Tuple.tupleExact _) (wpAny_newObj_type (wpAny_pure ⟨_, rfl, wpAny_pure h⟩) htake)
    | exact wpAny_bind (m := Builtin.Tuple.tupleExact _) (wpAny_newObj_type (wpAny_bind (wpAny_pure (wpAny_pure ⟨_, rfl, wpAny_pure h⟩))) htake)
    | exact wpAny_bind (wpAny_bind (m := Builtin.Tuple.tupleExact _) (wpAny_newObj_type (wpAny_pure (wpAny_pure ⟨_, rfl, wpAny_pure h⟩)) htake))
    | exact wpAny_bind (wpAny_bind (m := Builtin.Tuple.tupleExact _) (wpAny_newObj_type (wpAny_pure ⟨_, rfl, wpAny_pure h⟩) htake))
end

section
variable {X : Cx} {e : Expr} {te : TE} {p1 p2 p3 pos : Pos} {j : Nat}
def tRev (r : V → Hp → VK → Prop) (te : TE) : TE := fun σ H Q => te σ H fun x H1 => r x H1 Q
theorem pe_rev (he : PE X e te) : PE X (.Subscript e (.Slice none none (some (.UnaryOp .USub (.Constant (.int 1) j p1) p2)) p3) pos)
    (tRev (fun x H Q => ∃ Z a r, Rd1 X.K Z H x a ∧ rev a = some r ∧ Then X.K Z H r Q) te) := by
  refine ⟨fun pins s σ H Q I h => ?_⟩
  refine Subscript_ (thn (he.run pins s σ H _ I h) fun v s1 ⟨x, H1, I1, r1, Z, a, r, ra, er, q⟩ => ?_)
  have hm : PE X (.UnaryOp .USub (.Constant (.int 1) j p1) p2) (tUn (rU fun i => .int (-i)) (tC (.int 1))) := pe_un un_neg pe_int
  refine wpAny_Slice ?_
  rw [evalPart_none]
  refine wpAny_pure (wpAny_pure ?_)
  rw [evalPart_some]
  refine thn (hm.run pins s1 σ H1 (fun w H2 => w = .int (-1) ∧ H2 = H1) I1 ⟨1, rfl, rfl, rfl⟩) fun vk s2 ⟨w, H2, I2, r2, ew, eH⟩ => ?_
  subst ew eH
  obtain ⟨t, rfl⟩ := r2
  have I4 : Inv X pins σ H2 { s2 with heap := s2.heap.push { cls := .type "slice", data := .fields #[.none, .none, .int (-1) t] } } := I2.kept (t' := s2.toks) fun b ob q => Heap.get?_push_of_some _ q
  have hsl : (s2.heap.push { cls := .type "slice", data := .fields #[.none, .none, .int (-1) t] }).IsSliceOf s2.heap.objs.size .none .none (.int (-1) t) := Heap.IsSliceOf.new ..
  show wpAny (model X.prog X.w) X.A (subscriptTail e (.Slice none none (some (.UnaryOp .USub (.Constant (.int 1) j p1) p2)) p3) v (.ref s2.heap.objs.size)) (EP X pins σ Q) X.xe { s2 with heap := s2.heap.push { cls := .type "slice", data := .fields #[.none, .none, .int (-1) t] } }
  unfold rev at er
  split at er
  · rename_i xs
    cases er
    obtain ⟨a, vs, rfl, hq, rv⟩ := ra.list
    cases r1
    obtain ⟨its, r', pl, hz⟩ := I4.list hq
    have hlen := r'.length
    refine tail_any (ops := [.ref a, .ref s2.heap.objs.size]) pl.isList.typeIs slot_list_getitem.lookup ?_ (by with_unfolding_all rfl)
    refine wpAny_getItem_list_slice pl.isList hsl .none .none (.int (-1) t) (by decide) ?_ (by rw [List.size_toArray]; omega)
    rw [PySem.W.krv_pick]
    refine ⟨.ref _, _, I4.lnew (ys := vs.reverse) (its := its.reverse) (t' := s2.toks) r'.reverse (by rw [List.length_reverse]; exact hz), rfl, q.lst rv.rev _ I4.fresh⟩
  · rename_i xs
    cases er
    obtain ⟨a, vs, rfl, hq, rv⟩ := ra.tuple
    cases r1
    obtain ⟨its, r', ht, hz⟩ := I4.tuple hq
    have hlen := r'.length
    refine tail_any (ops := [.ref a, .ref s2.heap.objs.size]) ht.typeIs slot_tuple_getitem.lookup ?_ (by with_unfolding_all rfl)
    refine item_back ht hsl (.int (-1) t) ?_ (by rw [List.size_toArray]; omega)
    refine ⟨.ref _, _, I4.laid (o := .tup vs.reverse) (t' := s2.toks) (fun b ob q => Heap.get?_push_of_some _ q) (Nat.le_refl _) ?_, rfl, q.tup rv.rev _ I4.fresh⟩
    exact ⟨by rw [List.length_reverse]; exact hz, _, r'.reverse, IsTup.new _ _⟩
  · cases er
end
end PK
end

section
set_option Elab.async false
set_option linter.all false
set_option maxRecDepth 100000
set_option maxHeartbeats 4000000
/-! PkEnum: enumerate(t) of a tuple in a for. -/
namespace PK
open PySem PySem.Spec PyProof.Rows L2
open PySem (PyData)

theorem meets_enum1 {v : Value} {o : Obj} {H : Heap → Prop} (B : Begins v o H) :
    Meets (Builtin.«enumerate.__new__» ⟨[.type "enumerate", v], []⟩) (fun _ R s => H s.heap ∧
      R (.ok (.ret (.ref (s.heap.push o).objs.size))) { s with heap := (s.heap.push o).push { cls := .type "enumerate", data := .fields #[.none, .bool false, .ref s.heap.objs.size, rawInt 0, .none, .none] } }) :=
  .of_wp fun prog w A R s h => by
    obtain ⟨hp, g, d, tk, os⟩ := s
    obtain ⟨h1, h⟩ := h
    have hsub := sub_enumerate
    have q1 : ∀ {A' : Around} {E : Value → Shared → Prop} {Q : Value → Shared → Prop}, Q (.ref hp.objs.size) ⟨hp.push o, g, d, tk, os⟩ → wpAny (model prog w) A' (pyIter v) Q E ⟨hp, g, d, tk, os⟩ :=
      fun q => B.iter prog w _ _ ⟨hp, g, d, tk, os⟩ _ h1 q
    wp_walk using q1
    refine wpAny_stack_any fun st => wpAny_pure ?_
    split
    · rename_i c _ _ _ _ _
      cases (c == Value.type "enumerate") <;> (wp_walk using q1; exact ⟨_, rfl, h⟩)
    · wp_walk using q1
      exact ⟨_, rfl, h⟩
theorem enum1 {prog : Program} {w : World} {A : Around} {E : Value → Shared → Prop} {s : Shared} {v : Value} {o : Obj} {H : Heap → Prop} {Q : Value → Shared → Prop} (B : Begins v o H) (h1 : H s.heap)
    (h : ∀ h', IsEnum h' (s.heap.objs.size + 1) s.heap.objs.size 0 .none → h'.get? s.heap.objs.size = some o → h'.objs.size = s.heap.objs.size + 2 →
      (∀ b o, s.heap.get? b = some o → h'.get? b = some o) → Q (.ref (s.heap.objs.size + 1)) { s with heap := h' }) :
    wpAny (model prog w) A (call (.type "enumerate") [v]) Q E s := by
  refine callType_new F.called_enumerate (by decide) (F.typeCall_enumerate_1 _) (F.newCall_enumerate_1 _) (fun obj => F.args_object_init_2 obj _) F.entry_enumerate_new (meets_enum1 B) ⟨h1, ?_⟩
  have hz : (s.heap.push o).objs.size = s.heap.objs.size + 1 := Heap.size_push ..
  show _ ∧ _
  rw [hz]
  have he : IsEnum ((s.heap.push o).push { cls := .type "enumerate", data := .fields #[.none, .bool false, .ref s.heap.objs.size, rawInt 0, .none, .none] }) (s.heap.objs.size + 1) s.heap.objs.size 0 .none := by
    have := Heap.get?_push_size (s.heap.push o) (o := { cls := .type "enumerate", data := .fields #[.none, .bool false, .ref s.heap.objs.size, rawInt 0, .none, .none] }) rfl
    rw [hz] at this
    exact this
  exact ⟨⟨_, he, rfl⟩, h _ he (Heap.get?_push_of_some _ (Heap.get?_push_size _ B.free)) (by rw [Heap.size_push, hz]) fun b o x => Heap.get?_push_of_some _ (Heap.get?_push_of_some _ x)⟩

/-- the tuple at a, each item in a new pair -/
def IteT (K : PySem.W.Frag) (a : Addr) : L2.It where
  go := fun i H => ∃ (xs : List V) (x : V), SqT K H a xs ∧ xs[i]? = some x
  yld := fun i H v H' => ∃ T x, v = .ref T ∧ H T = none ∧ H' = upd H T (.tup [.int (i : Nat), x]) ∧ ∀ xs, SqT K H a xs → xs[i]? = some x
  stop := fun i H => ∃ xs : List V, SqT K H a xs ∧ xs.length ≤ i
theorem tupiter_ne {h : Heap} {it a : Addr} {i : Nat} {items : Array Value} (h1 : h.IsTupleIter it a i) (h2 : h.IsTuple a items) : a ≠ it := fun e => by
  subst e
  obtain ⟨o, ho, _, hd⟩ := h1
  obtain ⟨o', ho', _, n, hd'⟩ := h2
  rw [ho] at ho'
  cases ho'
  rw [hd] at hd'
  cases hd'
theorem turn_enumT {P : Program} {w : World} {K : PySem.W.Frag} {elts : List Expr} {kk : Nat} {tpos : Pos} (a e it : Addr) :
    Turn P w K (.Tuple elts kk tpos) (IteT K a) [e, it] e (fun i h => (∃ old, IsEnum h e it ((i : Nat) : Int) old) ∧ h.IsTupleIter it a i ∧ e ≠ it ∧ a ≠ e) where
  mem := by simp
  obj := fun i h st b hb => by
    obtain ⟨⟨old, he⟩, ⟨o, ho, hc, hd⟩, _⟩ := st
    rcases (show b = e ∨ b = it by simpa using hb) with z | z
    · rw [z]; exact ⟨_, he, fun v q => nomatch q⟩
    · rw [z]; exact ⟨o, ho, fun v q => by rw [hd] at q; cases q⟩
  keep := fun i h h' st k => by
    obtain ⟨⟨old, he⟩, hi, hne⟩ := st
    exact ⟨⟨old, k e (by simp) _ he⟩, hi.at fun o q => k it (by simp) o q, hne⟩
  item := by
    intro X hP hw hK hc i pins s σ H E I hf st hg
    subst hP hw hK
    obtain ⟨⟨old, he⟩, hit, hne, hae⟩ := st
    obtain ⟨xs, x, hq, hx⟩ := hg
    obtain ⟨its, rv, p, hz⟩ := I.tuple hq
    obtain ⟨u, hu, ru⟩ := rv.get hx
    have hel : e < s.heap.objs.size := Heap.lt_size he
    have hil : it < s.heap.objs.size := by obtain ⟨_, q, _⟩ := hit; exact Heap.lt_size q
    have hai := tupiter_ne hit p
    have hi : i < its.toArray.size := by
      obtain ⟨h1, _⟩ := List.getElem?_eq_some_iff.mp hu
      simpa using h1
    have hh : X.A.in1.in1.handled = none := I.ok.hd hc
    refine wpAny_pyNext_enum_itemD (Draws.tuple (A := X.A.in1) (I.ok.hd hc) it a hai its.toArray) he ⟨hit, p⟩ hi hne (by simp [hne, Ne.symm hae]) fun y h' tk hy ho hit' hT hsz hk => ?_
    have ey : y = u := by
      have e1 : its.toArray[i]? = some u := by simpa using hu
      rw [e1] at hy
      exact (Option.some.inj hy).symm
    subst ey
    refine ⟨_, rfl, wpAny_letOwnedTupleGo_enum (s := { s with heap := h', toks := tk + 1 }) ho fun h'' he' sb => ?_⟩
    have hT2 : h''.get? s.heap.objs.size = some { cls := .type "tuple", data := .seq #[.int i tk, y] } := (sb.2 _ (Nat.ne_of_gt hel)).trans hT
    have new : ObjOk X.prog X.w (upd H s.heap.objs.size (.tup [.int (i : Nat), x])) h'' s.heap.objs.size (.tup [.int (i : Nat), x]) :=
      ⟨by show 2 ≤ sizeLine; decide, [.int i tk, y], .cons ⟨_, rfl⟩ (.cons ru .nil), ⟨_, hT2, rfl, _, rfl⟩⟩
    have I1 : Inv X pins σ (upd H s.heap.objs.size (.tup [.int (i : Nat), x])) { s with heap := h'', toks := tk + 1 } :=
      I.turnedNew (ch := [e, it]) (fun b ob hb q => (sb.2 b (fun z => hb (by simp [z]))).trans (hk b ob (fun z => hb (by simp [z])) (fun z => hb (by simp [z])) q)) hf (Nat.le_refl _) new
    refine ⟨.ref s.heap.objs.size, _, I1, rfl, ⟨_, x, rfl, I.hok.fresh (Nat.le_refl _), rfl, fun ys hy' => by rw [I.tuple_inj hy' hq]; exact hx⟩, ⟨⟨y, ?_⟩, hit'.1.at fun o q => (sb.2 it (Ne.symm hne)).trans q, hne, hae⟩, fun b hb => ?_⟩
    · have e1 : ((i + 1 : Nat) : Int) = (i : Int) + 1 := by omega
      rw [e1]
      exact he'
    · have hb' : b < s.heap.objs.size := by
        rcases (show b = e ∨ b = it by simpa using hb) with z | z
        · rw [z]; exact hel
        · rw [z]; exact hil
      rw [upd_ne (Nat.ne_of_lt hb')]
      exact (hf b hb).1
  done := by
    intro X hP hw hK hc i pins s σ H E I hf st hg
    subst hP hw hK
    obtain ⟨⟨old, he⟩, hit, hne, hae⟩ := st
    obtain ⟨xs, hq, hx⟩ := hg
    obtain ⟨its, rv, p, hz⟩ := I.tuple hq
    obtain ⟨f0, f1, f2, f3, f4, f5⟩ := hf it (by simp)
    have hl := rv.length
    have hai := tupiter_ne hit p
    have hT : s.TypeIs (.ref e) "enumerate" := ⟨_, he, rfl⟩
    unfold pyNext
    refine wpAny_bind (wpAny_attempt (wpAny_callSpecial?_slot (name := Str.ofString "__next__") hT F.slot_enumerate_next
      (wpAny_call_entry F.slot_enumerate_next hT F.entry_enumerate_next ?_ (F.args_enumerate_next_1 _))))
    show wpAny _ _ (field (.ref e) 2 >>= _) _ _ _
    refine wpAny_bind (wpAny_field he rfl (x := .ref it) rfl ?_)
    refine wpAny_bind (wpAny_nextOf_tuple_end (A := X.A.in1) (I.ok.hd hc) hit p (by simp; omega) fun h' x he' hx' => ?_)
    obtain ⟨o, ho, hc'⟩ := hx'
    refine wpAny_bind (wpAny_isInstance (T := "StopIteration") (b := true) ⟨o, ho, hc'⟩ isSubtype_stop ?_)
    exact wpAny_pure ⟨rfl, I.turned (t' := s.toks) (fun b o hb q => he' b o hb q) f0 f1 f3 f4 f5⟩
  self := fun A i s Q E st h => let ⟨⟨_, he⟩, _⟩ := st; wpAny_pyIter_enum he h
def iEnumT (K : PySem.W.Frag) (ta : TA) : TI := fun σ H R => ta σ H fun vs H1 => ∃ a xs, vs = [.ref a] ∧ SqT K H1 a xs ∧ R (IteT K a) H1
theorem pi_enumT {X : Cx} {e : Expr} {ta : TA} {p pos tpos : Pos} {elts : List Expr} {kk : Nat} (hg : Gl X "enumerate") (hm : X.mg "enumerate" = none) (ha : PA X [e] ta) (hs : starEach [e] X.env = [(false, eval e X.env)] := by rfl) :
    PI X (.Tuple elts kk tpos) (.Call (.Name "enumerate" p) [e] [] pos) (iEnumT X.K ta) := by
  refine ⟨fun pins s σ H R I h => ?_⟩
  refine Call_ (ld_blt I hg hm boot_enumerate (PyProof.Rows.callWith_type1 (thn (ha.run pos pins s σ H _ I h) fun us s1 ⟨vs, H1, I1, r1, q1⟩ => ?_) hs rfl))
  obtain ⟨a, xs, ex, hq, q⟩ := q1
  subst ex
  cases r1 with
  | cons r rr =>
    cases rr
    cases r
    obtain ⟨its, rv, p', hz⟩ := I1.tuple hq
    refine enum1 (begins_tuple a its.toArray) p' fun h' he hit hsz hk => wpAny_pyIter_enum he ?_
    have I2 : Inv X pins σ H1 { s1 with heap := h' } := I1.kept (t' := s1.toks) hk
    have hal : a < s1.heap.objs.size := p'.lt
    refine ⟨s1.heap.objs.size + 1, [s1.heap.objs.size + 1, s1.heap.objs.size], _, _, H1, rfl, I2, turn_enumT a (s1.heap.objs.size + 1) s1.heap.objs.size,
      ⟨⟨.none, he⟩, ⟨_, hit, rfl, rfl⟩, Nat.succ_ne_self _, Nat.ne_of_lt (Nat.lt_succ_of_lt hal)⟩, fun b hb => ?_, q⟩
    have hle : s1.heap.objs.size ≤ b := by
      rcases (show b = s1.heap.objs.size + 1 ∨ b = s1.heap.objs.size by simpa using hb) with z | z
      · rw [z]; exact Nat.le_add_right _ _
      · rw [z]; exact Nat.le_refl _
    exact I1.fpOk hle (I1.hok.fresh hle)
end PK
end

section
set_option Elab.async false
set_option linter.all false
set_option maxRecDepth 100000
set_option maxHeartbeats 4000000
/-! PkS1: expressions: each construct's canonical reading from those of its parts. -/
namespace PK
open PySem PySem.Spec PyProof.Rows L2
open PySem (PyData)

section
variable {K : PySem.W.Frag} {XC : XR} {W : WX} {Z Z' Z1 Z2 : Addr → Prop} {g g' g1 g2 : Env} {σ σ1 : St} {H H' H1 H2 : Hp} {Q : VK}
theorem AftE.later {r : Res (EV × Env)} (h : AftE K XC W g σ Z H Q r) (X : Ext g σ Z H g1 σ Z1 H1) : AftE K XC W g1 σ Z1 H1 Q r := by
  cases r with
  | ok p => exact fun v Z' H' x R e f => h v Z' H' (X.trans x) R e (f.mv X)
  | exc c d g' => exact fun cls oa Z' H' x R e => h cls oa Z' H' (X.trans x) R e
  | bad => exact h
theorem AftA.later {Q : List V → Hp → Prop} {r : Res (List EV × Env)} (h : AftA K XC W g σ Z H Q r) (X : Ext g σ Z H g1 σ Z1 H1) : AftA K XC W g1 σ Z1 H1 Q r := by
  cases r with
  | ok p => exact fun v Z' H' x R e f => h v Z' H' (X.trans x) R e (f.mv X)
  | exc c d g' => exact fun cls oa Z' H' x R e => h cls oa Z' H' (X.trans x) R e
  | bad => exact h
theorem AftT.later {Q : Bool → Hp → Prop} {r : Res (Bool × Env)} (h : AftT K XC W g σ Z H Q r) (X : Ext g σ Z H g1 σ Z1 H1) : AftT K XC W g1 σ Z1 H1 Q r := by
  cases r with
  | ok p => exact fun Z' H' x R => h Z' H' (X.trans x) R
  | exc c d g' => exact fun cls oa Z' H' x R e => h cls oa Z' H' (X.trans x) R e
  | bad => exact h
theorem Rel.zok (R : Rel K Z g σ H) : ZOk Z H := R.ex
/-- an operation's end -/
theorem AftE.done {r : Bool × PyData} (R : Rel K Z g σ H) (h : AftE K XC W g σ Z H Q (.ok (mk r, g))) : Then K Z H r Q := by
  intro v H' hx rr
  refine h v Z H' hx.ext (R.hx hx) ?_ ?_
  · cases r with
    | mk b d =>
      cases b with
      | true =>
        obtain ⟨a, e, hn, c⟩ := rr.1 rfl
        have no : ¬ O g σ a := fun o => by
          obtain ⟨vs, q, _, _⟩ := R.ol o
          rw [hn] at q
          cases q
        exact ⟨a, e, fun z => R.ex a z hn, no, c⟩
      | false => exact rr.2 rfl
  · cases r with
    | mk b d =>
      cases b with
      | true =>
        obtain ⟨a, e, hn, c⟩ := rr.1 rfl
        exact ⟨a, e, hn⟩
      | false => trivial
theorem AftE.val {d : PyData} {v : V} (R : Rel K Z g σ H) (h : AftE K XC W g σ Z H Q (.ok (.val d, g))) (r : Rep K Z H v d) : Q v H :=
  h v Z H Ext.refl R r trivial
/-- two evaluations, then an operation -/
theorem tre2 {fa fb : Env → Res (EV × Env)} {fo : EV → EV → Env → Res (EV × Env)} {r : R2}
    (hop : ∀ (Z : Addr → Prop) (g : Env) (H : Hp) (v u : V) (x y : EV), Rel K Z g σ H → EVR K Z g σ H v x → EVR K Z g σ H u y → AftE K XC W g σ Z H Q (fo x y g) → r v u H Q)
    (h : TRE K XC W (fun g => (fa g).bind fun p => (fb p.2).bind fun q => fo p.1 q.1 q.2) σ H Q) : tOp r (TRE K XC W fa) (TRE K XC W fb) σ H Q := by
  obtain ⟨Z, g, R, h⟩ := h
  try dsimp only at h
  refine ⟨Z, g, R, ?_⟩
  cases ea : fa g with
  | bad => rw [ea] at h; exact h
  | exc c d g' => rw [ea] at h; exact h
  | ok p =>
    rw [ea] at h
    simp only [Res.bind_ok] at h
    intro v Z1 H1 x1 R1 r1 f1
    refine ⟨Z1, p.2, R1, ?_⟩
    replace h := h.later x1
    cases eb : fb p.2 with
    | bad => rw [eb] at h; exact h
    | exc c d g' => rw [eb] at h; exact h
    | ok q =>
      rw [eb] at h
      simp only [Res.bind_ok] at h
      intro u Z2 H2 x2 R2 r2 f2
      exact hop Z2 q.2 H2 v u p.1 q.1 R2 (r1.mv R1 x2) r2 (h.later x2)
/-- one evaluation, then an operation -/
theorem tre1 {fa : Env → Res (EV × Env)} {fo : EV → Env → Res (EV × Env)} {r : V → Hp → VK → Prop}
    (hop : ∀ (Z : Addr → Prop) (g : Env) (H : Hp) (v : V) (x : EV), Rel K Z g σ H → EVR K Z g σ H v x → AftE K XC W g σ Z H Q (fo x g) → r v H Q)
    (h : TRE K XC W (fun g => (fa g).bind fun p => fo p.1 p.2) σ H Q) : TRE K XC W fa σ H fun x H1 => r x H1 Q := by
  obtain ⟨Z, g, R, h⟩ := h
  try dsimp only at h
  refine ⟨Z, g, R, ?_⟩
  cases ea : fa g with
  | bad => rw [ea] at h; exact h
  | exc c d g' => rw [ea] at h; exact h
  | ok p =>
    rw [ea] at h
    simp only [Res.bind_ok] at h
    intro v Z1 H1 x1 R1 r1 f1
    exact hop Z1 p.2 H1 v p.1 R1 r1 (h.later x1)
theorem of_some {α β : Type} {o : Option α} {f : α → Res β} {P : Res β → Prop} (hb : ¬ P .bad) (h : P ((Res.of o).bind f)) : ∃ a, o = some a ∧ P (f a) := by
  cases o with
  | none => exact (hb h).elim
  | some a => exact ⟨a, rfl, h⟩
theorem bind2 {α β γ : Type} {o : Option α} {p : Option β} {f : α → β → Option γ} {c : γ} (h : (o.bind fun x => p.bind fun y => f x y) = some c) : ∃ x y, o = some x ∧ p = some y ∧ f x y = some c := by
  cases o with
  | none => cases h
  | some x =>
    cases p with
    | none => cases h
    | some y => exact ⟨x, y, rfl, rfl, h⟩
end

section
variable {X : Cx} {XC : XR} {W : WX} {a b c : Expr} {fa fb fc : Env → Res (EV × Env)} {pos : Pos}
theorem s_bop (o : Bop) (ha : PE X a (TRE X.K XC W fa)) (hb : PE X b (TRE X.K XC W fb)) : PE X (.BinOp a (bopOp o) b pos)
    (TRE X.K XC W fun g => (fa g).bind fun p => (fb p.2).bind fun q => (Res.of ((p.1.get q.2).bind fun x => (q.1.get q.2).bind fun y => bop o x y)).bind fun r => .ok (mk r, q.2)) := by
  refine ⟨fun pins s σ H Q I h => ?_⟩
  refine (pe_op (op_any o) ha hb).run pins s σ H Q I (tre2 (fo := fun x y g => (Res.of ((x.get g).bind fun x => (y.get g).bind fun y => bop o x y)).bind fun r => .ok (mk r, g)) ?_ h)
  intro Z g H v u x y R r1 r2 h
  obtain ⟨r, e, h⟩ := of_some (P := AftE X.K XC W g σ Z H Q) (fun z => z) h
  obtain ⟨d1, d2, e1, e2, e3⟩ := bind2 e
  exact ⟨Z, d1, d2, r, R.zok, r1.rd R e1, r2.rd R e2, e3, h.done R⟩
theorem s_cmp (hu : X.A.units + 65 < cLine) (o : Cop) (ha : PE X a (TRE X.K XC W fa)) (hb : PE X b (TRE X.K XC W fb)) (hm : behindInMarks (copOp o) b = false) : PE X (.Compare a [copOp o] [b] pos)
    (TRE X.K XC W fun g => (fa g).bind fun p => (fb p.2).bind fun q => (Res.of ((p.1.get q.2).bind fun x => (q.1.get q.2).bind fun y => cop o x y)).bind fun r => .ok (.val (.bool r), q.2)) := by
  refine ⟨fun pins s σ H Q I h => ?_⟩
  refine (pe_cmpR (cop_any hu o) ha hb hm).run pins s σ H Q I (tre2 (fo := fun x y g => (Res.of ((x.get g).bind fun x => (y.get g).bind fun y => cop o x y)).bind fun r => .ok (.val (.bool r), g)) ?_ h)
  intro Z g H v u x y R r1 r2 h
  obtain ⟨r, e, h⟩ := of_some (P := AftE X.K XC W g σ Z H Q) (fun z => z) h
  obtain ⟨d1, d2, e1, e2, e3⟩ := bind2 e
  exact ⟨Z, d1, d2, r, r1.rd R e1, r2.rd R e2, e3, h.val R (.bl r)⟩
theorem s_idx (ha : PE X a (TRE X.K XC W fa)) (hb : PE X b (TRE X.K XC W fb)) (hs : PlainIx b) : PE X (.Subscript a b pos)
    (TRE X.K XC W fun g => (fa g).bind fun p => (fb p.2).bind fun q => (Res.of ((p.1.get q.2).bind fun x => (q.1.get q.2).bind fun y => ix x y)).bind fun r => .ok (.val r, q.2)) := by
  refine ⟨fun pins s σ H Q I h => ?_⟩
  refine (pe_ix ix_any ha hb hs).run pins s σ H Q I (tre2 (fo := fun x y g => (Res.of ((x.get g).bind fun x => (y.get g).bind fun y => ix x y)).bind fun r => .ok (.val r, g)) ?_ h)
  intro Z g H v u x y R r1 r2 h
  obtain ⟨r, e, h⟩ := of_some (P := AftE X.K XC W g σ Z H Q) (fun z => z) h
  obtain ⟨d1, d2, e1, e2, e3⟩ := bind2 e
  exact ⟨Z, d1, d2, r, r1.rd R e1, r2.rd R e2, e3, fun v rv => h.val R rv⟩
theorem s_neg (ha : PE X a (TRE X.K XC W fa)) : PE X (.UnaryOp .USub a pos)
    (TRE X.K XC W fun g => (fa g).bind fun p => match p.1.get p.2 with
      | some (.int i) => .ok (.val (.int (-i)), p.2)
      | _ => .bad) := by
  refine ⟨fun pins s σ H Q I h => ?_⟩
  refine (pe_un un_neg ha).run pins s σ H Q I (tre1 (fo := fun x g => match x.get g with
      | some (.int i) => .ok (.val (.int (-i)), g)
      | _ => .bad) (r := fun x H Q => rU (fun i => .int (-i)) x H Q) ?_ h)
  intro Z g H v x R r1 h
  revert h
  try dsimp only
  split
  · rename_i i e
    intro h
    exact ⟨i, (r1.rd R e).int, h.val R (.int _)⟩
  · exact fun h => h.elim
theorem s_rev (ha : PE X a (TRE X.K XC W fa)) {p1 p2 p3 : Pos} {j : Nat} : PE X (.Subscript a (.Slice none none (some (.UnaryOp .USub (.Constant (.int 1) j p1) p2)) p3) pos)
    (TRE X.K XC W fun g => (fa g).bind fun p => (Res.of ((p.1.get p.2).bind rev)).bind fun s => .ok (mk s, p.2)) := by
  refine ⟨fun pins s σ H Q I h => ?_⟩
  refine (pe_rev ha).run pins s σ H Q I (tre1 (fo := fun x g => (Res.of ((x.get g).bind rev)).bind fun s => .ok (mk s, g)) (r := fun x H Q => ∃ Z a r, Rd1 X.K Z H x a ∧ rev a = some r ∧ Then X.K Z H r Q) ?_ h)
  intro Z g H v x R r1 h
  obtain ⟨r, e, h⟩ := of_some (P := AftE X.K XC W g σ Z H Q) (fun z => z) h
  cases ed : x.get g with
  | none => rw [ed] at e; cases e
  | some d => rw [ed] at e; exact ⟨Z, d, r, r1.rd R ed, e, h.done R⟩
theorem s_lit {d : PyData} {v : V} (h0 : PE X a (tC v)) (hv : ∀ K Z H, Rep K Z H v d) : PE X a (TRE X.K XC W fun g => .ok (.val d, g)) := by
  refine ⟨fun pins s σ H Q I h => ?_⟩
  obtain ⟨Z, g, R, h⟩ := h
  try dsimp only at h
  exact h0.run pins s σ H Q I (h.val R (hv _ _ _))
/-- a test -/
theorem t_any (ha : PE X a (TRE X.K XC W fa)) (he : ∀ whole, isTrue a X.env whole = (do let v ← whole; standAt a.pos; holding [v] (truthy v))) : PT X a (TRT X.K XC W (tstF fa)) := by
  refine ⟨fun pins s σ H Q I h => ?_⟩
  refine (pt_truth ha he).run pins s σ H Q I ?_
  obtain ⟨Z, g, R, h⟩ := h
  try dsimp only at h
  refine ⟨Z, g, R, ?_⟩
  unfold tstF at h
  try dsimp only at h
  cases ea : fa g with
  | bad => rw [ea] at h; exact h
  | exc c d g' => rw [ea] at h; exact h
  | ok p =>
    rw [ea] at h
    simp only [Res.bind_ok] at h
    intro v Z1 H1 x1 R1 r1 f1
    obtain ⟨k, e, h⟩ := of_some (P := AftT X.K XC W g σ Z H Q) (fun z => z) h
    cases ed : p.1.get p.2 with
    | none => rw [ed] at e; cases e
    | some d =>
      rw [ed] at e
      exact ⟨k, tru_any (r1.rd R1 ed) e, h Z1 H1 x1 R1⟩
theorem s_nt (ha : PE X a (TRE X.K XC W fa)) : PE X (.UnaryOp .Not a pos) (TRE X.K XC W fun g => (tstF fa g).bind fun p => .ok (.val (.bool (!p.1)), p.2)) := by
  refine ⟨fun pins s σ H Q I h => ?_⟩
  refine (pe_notT ha).run pins s σ H Q I ?_
  obtain ⟨Z, g, R, h⟩ := h
  try dsimp only at h
  refine ⟨Z, g, R, ?_⟩
  unfold tstF at h
  try dsimp only at h
  cases ea : fa g with
  | bad => rw [ea] at h; exact h
  | exc c d g' => rw [ea] at h; exact h
  | ok p =>
    rw [ea] at h
    simp only [Res.bind_ok] at h
    intro v Z1 H1 x1 R1 r1 f1
    cases ed : (p.1.get p.2).bind tru with
    | none => rw [ed] at h; exact h.elim
    | some k =>
      rw [ed] at h
      simp only [Res.of_some, Res.bind_ok] at h
      cases ed' : p.1.get p.2 with
      | none => rw [ed'] at ed; cases ed
      | some d =>
        rw [ed'] at ed
        exact ⟨k, tru_any (r1.rd R1 ed') ed, (h.later x1).val R1 (.bl _)⟩
theorem t_nt (ha : PT X a (TRT X.K XC W (tstF fa))) : PT X (.UnaryOp .Not a pos) (TRT X.K XC W (tstF fun g => (tstF fa g).bind fun p => .ok (.val (.bool (!p.1)), p.2))) := by
  refine ⟨fun pins s σ H Q I h => ?_⟩
  refine (pt_not ha).run pins s σ H Q I ?_
  obtain ⟨Z, g, R, h⟩ := h
  try dsimp only at h
  refine ⟨Z, g, R, ?_⟩
  unfold tstF at h
  try dsimp only at h
  cases ea : tstF fa g with
  | bad => unfold tstF at ea; rw [ea] at h; exact h
  | exc c d g' => unfold tstF at ea; rw [ea] at h; exact h
  | ok p =>
    unfold tstF at ea
    rw [ea] at h
    exact h
theorem s_ife (hc : PT X c (TRT X.K XC W (tstF fc))) (ha : PE X a (TRE X.K XC W fa)) (hb : PE X b (TRE X.K XC W fb)) : PE X (.IfExp c a b pos)
    (TRE X.K XC W fun g => (tstF fc g).bind fun p => if p.1 then fa p.2 else fb p.2) := by
  refine ⟨fun pins s σ H Q I h => ?_⟩
  refine (pe_ifExp hc ha hb).run pins s σ H Q I ?_
  obtain ⟨Z, g, R, h⟩ := h
  try dsimp only at h
  refine ⟨Z, g, R, ?_⟩
  cases ea : tstF fc g with
  | bad => rw [ea] at h; exact h
  | exc c d g' => rw [ea] at h; exact h
  | ok p =>
    rw [ea] at h
    simp only [Res.bind_ok] at h
    intro Z1 H1 x1 R1
    cases ep : p.1 with
    | true =>
      rw [ep, if_pos rfl] at h
      rw [if_pos rfl]
      exact ⟨Z1, p.2, R1, h.later x1⟩
    | false =>
      rw [ep, if_neg Bool.false_ne_true] at h
      rw [if_neg Bool.false_ne_true]
      exact ⟨Z1, p.2, R1, h.later x1⟩
/-- a and rest, a or rest, as values -/
theorem s_and {rest : List Expr} {fr : Env → Res (EV × Env)} (ha : PE X a (TRE X.K XC W fa)) (hr : PE X (.BoolOp .And (b :: rest) pos) (TRE X.K XC W fr)) : PE X (.BoolOp .And (a :: b :: rest) pos)
    (TRE X.K XC W fun g => (fa g).bind fun p => (Res.of ((p.1.get p.2).bind tru)).bind fun k => if k then fr p.2 else .ok p) := by
  refine ⟨fun pins s σ H Q I h => ?_⟩
  refine (pe_andT ha hr).run pins s σ H Q I ?_
  obtain ⟨Z, g, R, h⟩ := h
  try dsimp only at h
  refine ⟨Z, g, R, ?_⟩
  cases ea : fa g with
  | bad => rw [ea] at h; exact h
  | exc c d g' => rw [ea] at h; exact h
  | ok p =>
    rw [ea] at h
    simp only [Res.bind_ok] at h
    intro v Z1 H1 x1 R1 r1 f1
    cases ed : (p.1.get p.2).bind tru with
    | none => rw [ed] at h; exact h.elim
    | some k =>
      rw [ed] at h
      simp only [Res.of_some, Res.bind_ok] at h
      cases ed' : p.1.get p.2 with
      | none => rw [ed'] at ed; cases ed
      | some d =>
        rw [ed'] at ed
        refine ⟨k, tru_any (r1.rd R1 ed') ed, ?_⟩
        cases k with
        | true =>
          rw [if_pos rfl] at h ⊢
          exact ⟨Z1, p.2, R1, h.later x1⟩
        | false =>
          rw [if_neg Bool.false_ne_true] at h ⊢
          exact h v Z1 H1 x1 R1 r1 f1
theorem s_or {rest : List Expr} {fr : Env → Res (EV × Env)} (ha : PE X a (TRE X.K XC W fa)) (hr : PE X (.BoolOp .Or (b :: rest) pos) (TRE X.K XC W fr)) : PE X (.BoolOp .Or (a :: b :: rest) pos)
    (TRE X.K XC W fun g => (fa g).bind fun p => (Res.of ((p.1.get p.2).bind tru)).bind fun k => if k then .ok p else fr p.2) := by
  refine ⟨fun pins s σ H Q I h => ?_⟩
  refine (pe_orT ha hr).run pins s σ H Q I ?_
  obtain ⟨Z, g, R, h⟩ := h
  try dsimp only at h
  refine ⟨Z, g, R, ?_⟩
  cases ea : fa g with
  | bad => rw [ea] at h; exact h
  | exc c d g' => rw [ea] at h; exact h
  | ok p =>
    rw [ea] at h
    simp only [Res.bind_ok] at h
    intro v Z1 H1 x1 R1 r1 f1
    cases ed : (p.1.get p.2).bind tru with
    | none => rw [ed] at h; exact h.elim
    | some k =>
      rw [ed] at h
      simp only [Res.of_some, Res.bind_ok] at h
      cases ed' : p.1.get p.2 with
      | none => rw [ed'] at ed; cases ed
      | some d =>
        rw [ed'] at ed
        refine ⟨k, tru_any (r1.rd R1 ed') ed, ?_⟩
        cases k with
        | true =>
          rw [if_pos rfl] at h ⊢
          exact h v Z1 H1 x1 R1 r1 f1
        | false =>
          rw [if_neg Bool.false_ne_true] at h ⊢
          exact ⟨Z1, p.2, R1, h.later x1⟩
/-- .. as tests -/
theorem t_and {rest : List Expr} {fr : Env → Res (EV × Env)} (ha : PT X a (TRT X.K XC W (tstF fa))) (hr : PW X (.BoolOp .And (b :: rest) pos) (TRT X.K XC W (tstF fr))) : PW X (.BoolOp .And (a :: b :: rest) pos)
    (TRT X.K XC W (tstF fun g => (fa g).bind fun p => (Res.of ((p.1.get p.2).bind tru)).bind fun k => if k then fr p.2 else .ok p)) := by
  refine ⟨fun wh pins s σ H Q I h => ?_⟩
  refine (pw_and ha hr).run wh pins s σ H Q I ?_
  obtain ⟨Z, g, R, h⟩ := h
  try dsimp only at h
  refine ⟨Z, g, R, ?_⟩
  unfold tstF at h ⊢
  try dsimp only at h ⊢
  cases ea : fa g with
  | bad => rw [ea] at h; exact h
  | exc c d g' => rw [ea] at h; exact h
  | ok p =>
    rw [ea] at h
    simp only [Res.bind_ok] at h ⊢
    cases ed : (p.1.get p.2).bind tru with
    | none => rw [ed] at h; exact h.elim
    | some k =>
      rw [ed] at h
      simp only [Res.of_some, Res.bind_ok] at h ⊢
      intro Z1 H1 x1 R1
      cases k with
      | true =>
        rw [if_pos rfl] at h ⊢
        exact ⟨Z1, p.2, R1, h.later x1⟩
      | false =>
        rw [if_neg Bool.false_ne_true] at h ⊢
        simp only [Res.bind_ok] at h
        rw [ed] at h
        exact h Z1 H1 x1 R1
theorem t_or {rest : List Expr} {fr : Env → Res (EV × Env)} (ha : PT X a (TRT X.K XC W (tstF fa))) (hr : PW X (.BoolOp .Or (b :: rest) pos) (TRT X.K XC W (tstF fr))) : PW X (.BoolOp .Or (a :: b :: rest) pos)
    (TRT X.K XC W (tstF fun g => (fa g).bind fun p => (Res.of ((p.1.get p.2).bind tru)).bind fun k => if k then .ok p else fr p.2)) := by
  refine ⟨fun wh pins s σ H Q I h => ?_⟩
  refine (pw_or ha hr).run wh pins s σ H Q I ?_
  obtain ⟨Z, g, R, h⟩ := h
  try dsimp only at h
  refine ⟨Z, g, R, ?_⟩
  unfold tstF at h ⊢
  try dsimp only at h ⊢
  cases ea : fa g with
  | bad => rw [ea] at h; exact h
  | exc c d g' => rw [ea] at h; exact h
  | ok p =>
    rw [ea] at h
    simp only [Res.bind_ok] at h ⊢
    cases ed : (p.1.get p.2).bind tru with
    | none => rw [ed] at h; exact h.elim
    | some k =>
      rw [ed] at h
      simp only [Res.of_some, Res.bind_ok] at h ⊢
      intro Z1 H1 x1 R1
      cases k with
      | true =>
        rw [if_pos rfl] at h ⊢
        simp only [Res.bind_ok] at h
        rw [ed] at h
        exact h Z1 H1 x1 R1
      | false =>
        rw [if_neg Bool.false_ne_true] at h ⊢
        exact ⟨Z1, p.2, R1, h.later x1⟩
end
end PK
end

section
set_option Elab.async false
set_option linter.all false
set_option maxRecDepth 100000
set_option maxHeartbeats 4000000
/-! PkS2: comparisons as tests, argument lists, displays, calls of built-ins, slices. -/
namespace PK
open PySem PySem.Spec PyProof.Rows L2
open PySem (PyData)

section
variable {K : PySem.W.Frag} {XC : XR} {W : WX} {Z Z' Z0 Z1 Z2 : Addr → Prop} {g g' g0 g1 g2 : Env} {σ σ0 σ1 : St} {H H' H0 H1 H2 : Hp} {Q : VK}
/-- a value is handed on for good -/
theorem frz {v : V} {x : EV} {d : PyData} (X : Ext g0 σ0 Z0 H0 g σ Z H) (R : Rel K Z g σ H) (r : EVR K Z g σ H v x) (f : Fr0 H0 v x) (e : x.fz g = some (d, g')) :
    ∃ Z', Ext g0 σ0 Z0 H0 g' σ Z' H ∧ Rel K Z' g' σ H ∧ Rep K Z' H v d := by
  cases x with
  | val d' => cases e; exact ⟨Z, X, R, r⟩
  | nw d' =>
    obtain ⟨d1, hd1, e⟩ := Option.map_eq_some_iff.mp (show (ndc d').map (fun d => (d, g)) = some (d, g') from e)
    cases e
    obtain ⟨a, rfl, nz, no, c⟩ := r
    obtain ⟨vs, ds, rfl, rfl, ha, q⟩ := c.ndc hd1
    obtain ⟨b, eb, hb⟩ := f
    cases eb
    have kp : Keeps Z H (fun b => Z b ∨ b = a) H := ⟨fun _ _ h => h, fun _ _ _ h => h, fun _ _ _ h => h, fun _ z => .inl z⟩
    refine ⟨fun b => Z b ∨ b = a, ⟨X.pres, fun b z => .inl (X.up b z), fun b z => ?_, X.on, X.th, X.lk, X.io⟩, ⟨R.len, fun i s es => (R.sl i s es).mv kp fun b eb ⟨m, d, em⟩ => ⟨fun z => ?_, fun _ h => h⟩, R.ds, fun b z => ?_⟩, .lst (SqL.of ha) (.inr rfl) (q.mv kp)⟩
    · rcases z with z | z
      · exact X.zn b z
      · rw [z]; exact .inr (.inl hb)
    · subst em
      rcases z with z | z
      · obtain ⟨c, e1, e2, _⟩ := R.mu es
        rw [join_some eb] at e1; cases e1
        exact e2 z
      · subst z
        exact no ⟨i, ⟨m, d, es⟩, join_some eb⟩
    · rcases z with z | z
      · exact R.ex b z
      · rw [z, ha]; exact fun z => nomatch z
  | loc i =>
    have rs : σ[i]? = some (some v) := r
    simp only [EV.fz] at e
    split at e
    · rename_i d' es
      cases e
      obtain ⟨w, e1, q⟩ := R.va es
      rw [rs] at e1; cases e1
      exact ⟨Z, X, R, q⟩
    · rename_i d' es
      obtain ⟨d1, hd1, e⟩ := Option.map_eq_some_iff.mp (show (ndc d').map (fun d => (d, g.set i (.va d))) = some (d, g') from e)
      cases e
      obtain ⟨a, e1, nz, ct, ow⟩ := R.mu es
      obtain ⟨vs, ds, rfl, rfl, ha, q⟩ := ct.ndc hd1
      rw [rs] at e1; cases e1
      have kp : Keeps Z H (fun b => Z b ∨ b = a) H := ⟨fun _ _ h => h, fun _ _ _ h => h, fun _ _ _ h => h, fun _ z => .inl z⟩
      have hi : i < g.length := by
        obtain ⟨h1, _⟩ := List.getElem?_eq_some_iff.mp es
        exact h1
      have sub : ∀ j b, Own (g.set i (.va (.list ds))) σ j b → Own g σ j b ∧ j ≠ i := fun j b ⟨⟨k, d, e1⟩, e2⟩ => by
        by_cases hj : i = j
        · subst hj
          rw [List.getElem?_set_self hi] at e1
          cases e1
        · rw [List.getElem?_set_ne hj] at e1
          exact ⟨⟨⟨k, d, e1⟩, e2⟩, fun z => hj z.symm⟩
      refine ⟨fun b => Z b ∨ b = a, ⟨X.pres, fun b z => .inl (X.up b z), fun b z => ?_, fun b ⟨j, o⟩ => X.on b ⟨j, (sub j b o).1⟩, X.th, fun j d ed => ?_, fun j d ed => ?_⟩, ⟨?_, fun j s es' => ?_, fun j l b o1 o2 => R.ds j l b (sub j b o1).1 (sub l b o2).1, fun b z => ?_⟩, .lst (SqL.of ha) (.inr rfl) (q.mv kp)⟩
      · rcases z with z | z
        · exact X.zn b z
        · subst z
          rcases X.on b ⟨i, ow⟩ with z | z
          · exact .inr (.inr z)
          · exact .inr (.inl z)
      · obtain ⟨h1, h2⟩ := X.lk j d ed
        have hj : i ≠ j := fun z => by subst z; rw [es] at h1; cases h1
        exact ⟨by rw [List.getElem?_set_ne hj]; exact h1, h2⟩
      · obtain ⟨⟨d2, h1⟩, h2⟩ := X.io j d ed
        have hj : i ≠ j := fun z => by subst z; rw [es] at h1; cases h1
        exact ⟨⟨d2, by rw [List.getElem?_set_ne hj]; exact h1⟩, h2⟩
      · rw [List.length_set]; exact R.len
      · by_cases hj : i = j
        · subst hj
          rw [List.getElem?_set_self hi] at es'
          cases es'
          refine ⟨.ref a, by rw [rs]; rfl, .lst (SqL.of ha) (.inr rfl) (q.mv kp)⟩
        · rw [List.getElem?_set_ne hj] at es'
          refine (R.sl j s es').mv kp fun b eb ⟨m, d, em⟩ => ⟨fun z => ?_, fun _ h => h⟩
          subst em
          rcases z with z | z
          · obtain ⟨c, e1, e2, _⟩ := R.mu es'
            rw [join_some eb] at e1; cases e1
            exact e2 z
          · subst z
            exact hj (R.ds i j b ow ⟨⟨m, d, es'⟩, join_some eb⟩)
      · rcases z with z | z
        · exact R.ex b z
        · rw [z, ha]; exact fun z => nomatch z
    · cases e
end

/-- behind the making of a value that is handed on for good -/
def AftF (K : PySem.W.Frag) (XC : XR) (W : WX) (g : Env) (σ : St) (Z : Addr → Prop) (H : Hp) (Q : VK) : Res (PyData × Env) → Prop
  | .ok p => ∀ v Z' H', Ext g σ Z H p.2 σ Z' H' → Rel K Z' p.2 σ H' → Rep K Z' H' v p.1 → Q v H'
  | .exc c d g' => ∀ cls oa Z' H', Ext g σ Z H g' σ Z' H' → Rel K Z' g' σ H' → XC c d cls oa H' → W cls oa σ H'
  | .bad => False
def TRF (K : PySem.W.Frag) (XC : XR) (W : WX) (f : Env → Res (PyData × Env)) : TE := fun σ H Q => ∃ Z g, Rel K Z g σ H ∧ AftF K XC W g σ Z H Q (f g)
def AftFs (K : PySem.W.Frag) (XC : XR) (W : WX) (g : Env) (σ : St) (Z : Addr → Prop) (H : Hp) (Q : List V → Hp → Prop) : Res (List PyData × Env) → Prop
  | .ok p => ∀ vs Z' H', Ext g σ Z H p.2 σ Z' H' → Rel K Z' p.2 σ H' → Reps K Z' H' vs p.1 → Q vs H'
  | .exc c d g' => ∀ cls oa Z' H', Ext g σ Z H g' σ Z' H' → Rel K Z' g' σ H' → XC c d cls oa H' → W cls oa σ H'
  | .bad => False
def TRFs (K : PySem.W.Frag) (XC : XR) (W : WX) (f : Env → Res (List PyData × Env)) : TA := fun σ H Q => ∃ Z g, Rel K Z g σ H ∧ AftFs K XC W g σ Z H Q (f g)
section
variable {K : PySem.W.Frag} {XC : XR} {W : WX} {Z Z1 : Addr → Prop} {g g1 : Env} {σ : St} {H H1 : Hp}
theorem AftF.later {Q : VK} {r : Res (PyData × Env)} (h : AftF K XC W g σ Z H Q r) (X : Ext g σ Z H g1 σ Z1 H1) : AftF K XC W g1 σ Z1 H1 Q r := by
  cases r with
  | ok p => exact fun v Z' H' x R e => h v Z' H' (X.trans x) R e
  | exc c d g' => exact fun cls oa Z' H' x R e => h cls oa Z' H' (X.trans x) R e
  | bad => exact h
theorem AftFs.later {Q : List V → Hp → Prop} {r : Res (List PyData × Env)} (h : AftFs K XC W g σ Z H Q r) (X : Ext g σ Z H g1 σ Z1 H1) : AftFs K XC W g1 σ Z1 H1 Q r := by
  cases r with
  | ok p => exact fun v Z' H' x R e => h v Z' H' (X.trans x) R e
  | exc c d g' => exact fun cls oa Z' H' x R e => h cls oa Z' H' (X.trans x) R e
  | bad => exact h
/-- from an evaluation to a value that is handed on -/
theorem trf_of {f : Env → Res (EV × Env)} {Q : VK} (h : TRF K XC W (fzF f) σ H Q) : TRE K XC W f σ H Q := by
  obtain ⟨Z, g, R, h⟩ := h
  refine ⟨Z, g, R, ?_⟩
  unfold fzF at h
  cases ea : f g with
  | bad => rw [ea] at h; exact h
  | exc c d g' => rw [ea] at h; exact h
  | ok p =>
    rw [ea] at h
    simp only [Res.bind_ok] at h
    intro v Z1 H1 x1 R1 r1 f1
    cases ez : p.1.fz p.2 with
    | none => rw [ez] at h; exact h.elim
    | some q =>
      rw [ez] at h
      obtain ⟨Z2, x2, R2, r2⟩ := frz x1 R1 r1 f1 (d := q.1) (g' := q.2) ez
      exact h v Z2 H1 x2 R2 r2
end

section
variable {X : Cx} {XC : XR} {W : WX} {a b c : Expr} {es : List Expr} {fa fb fc : Env → Res (EV × Env)} {fes : Env → Res (List EV × Env)} {ffs : Env → Res (List PyData × Env)} {pos : Pos}
theorem s_frz (ha : PE X a (TRE X.K XC W fa)) : PE X a (TRF X.K XC W (fzF fa)) := ⟨fun pins s σ H Q I h => ha.run pins s σ H Q I (trf_of h)⟩
/-- a test whose value is a bool -/
theorem bool_test {f : Env → Res (EV × Env)} {σ : St} {H : Hp} {K : PySem.W.Frag} {Q : Bool → Hp → Prop} (hb : ∀ g p, f g = .ok p → ∃ b, p.1 = .val (.bool b)) (h : TRT K XC W (tstF f) σ H Q) : TRE K XC W f σ H fun x H' => ∃ k, x = .bl k ∧ Q k H' := by
  obtain ⟨Z, g, R, h⟩ := h
  refine ⟨Z, g, R, ?_⟩
  unfold tstF at h
  cases ea : f g with
  | bad => rw [ea] at h; exact h
  | exc c d g' => rw [ea] at h; exact h
  | ok p =>
    rw [ea] at h
    simp only [Res.bind_ok] at h
    obtain ⟨b, eb⟩ := hb g p ea
    intro v Z1 H1 x1 R1 r1 f1
    rw [eb] at h r1
    cases r1
    exact ⟨b, rfl, h Z1 H1 x1 R1⟩
theorem bind_bool {α : Type} {o : Option Bool} {g : Env} {p : EV × Env} (h : ((Res.of o).bind fun r => Res.ok (EV.val (.bool r), g)) = .ok p) : ∃ b, p.1 = .val (.bool b) := by
  cases o with
  | none => cases h
  | some r => cases h; exact ⟨r, rfl⟩
theorem t_cmp (hu : X.A.units + 65 < cLine) (o : Cop) (ha : PE X a (TRE X.K XC W fa)) (hb : PE X b (TRE X.K XC W fb)) (hm : behindInMarks (copOp o) b = false) : PT X (.Compare a [copOp o] [b] pos)
    (TRT X.K XC W (tstF fun g => (fa g).bind fun p => (fb p.2).bind fun q => (Res.of ((p.1.get q.2).bind fun x => (q.1.get q.2).bind fun y => cop o x y)).bind fun r => .ok (.val (.bool r), q.2))) := by
  refine ⟨fun pins s σ H Q I h => ?_⟩
  have h2 := bool_test (fun g p e => ?_) h
  · refine (pt_cmpR (cop_any hu o) ha hb hm).run pins s σ H Q I (tre2 (fo := fun x y g => (Res.of ((x.get g).bind fun x => (y.get g).bind fun y => cop o x y)).bind fun r => .ok (.val (.bool r), g)) ?_ h2)
    intro Z g H v u x y R r1 r2 h
    obtain ⟨r, e, h⟩ := of_some (P := AftE X.K XC W g σ Z H _) (fun z => z) h
    obtain ⟨d1, d2, e1, e2, e3⟩ := bind2 e
    exact ⟨Z, d1, d2, r, r1.rd R e1, r2.rd R e2, e3, h.val R (.bl r)⟩
  · try dsimp only at e
    cases ea : fa g with
    | bad => rw [ea] at e; cases e
    | exc c d g' => rw [ea] at e; cases e
    | ok p1 =>
      rw [ea] at e
      simp only [Res.bind_ok] at e
      cases eb : fb p1.2 with
      | bad => rw [eb] at e; cases e
      | exc c d g' => rw [eb] at e; cases e
      | ok p2 =>
        rw [eb] at e
        exact bind_bool (α := Unit) e
/-- a op b op c -/
def chainF (o o2 : Cop) (fa fb fc : Env → Res (EV × Env)) (g : Env) : Res (EV × Env) := (fa g).bind fun p => (fb p.2).bind fun q =>
  (Res.of ((p.1.get q.2).bind fun x => (q.1.get q.2).bind fun y => cop o x y)).bind fun r =>
    if r then (fc q.2).bind fun s => (Res.of ((q.1.get s.2).bind fun x => (s.1.get s.2).bind fun y => cop o2 x y)).bind fun r2 => .ok (.val (.bool r2), s.2)
    else .ok (.val (.bool false), q.2)
theorem chain_bool {o o2 : Cop} {g : Env} {p : EV × Env} (e : chainF o o2 fa fb fc g = .ok p) : ∃ b, p.1 = .val (.bool b) := by
  unfold chainF at e
  cases ea : fa g with
  | bad => rw [ea] at e; cases e
  | exc c d g' => rw [ea] at e; cases e
  | ok p1 =>
    rw [ea] at e
    simp only [Res.bind_ok] at e
    cases eb : fb p1.2 with
    | bad => rw [eb] at e; cases e
    | exc c d g' => rw [eb] at e; cases e
    | ok p2 =>
      rw [eb] at e
      simp only [Res.bind_ok] at e
      cases er : (p1.1.get p2.2).bind fun x => (p2.1.get p2.2).bind fun y => cop o x y with
      | none => rw [er] at e; cases e
      | some r =>
        rw [er] at e
        simp only [Res.of_some, Res.bind_ok] at e
        cases r with
        | false => cases e; exact ⟨false, rfl⟩
        | true =>
          rw [if_pos rfl] at e
          cases ec : fc p2.2 with
          | bad => rw [ec] at e; cases e
          | exc c d g' => rw [ec] at e; cases e
          | ok p3 =>
            rw [ec] at e
            exact bind_bool (α := Unit) e
theorem chain_run {o o2 : Cop} {σ : St} {H : Hp} {K : PySem.W.Frag} {Q : VK} (h : TRE K XC W (chainF o o2 fa fb fc) σ H Q) : tChain (RC2 K (cop o)) (RC2 K (cop o2)) (TRE K XC W fa) (TRE K XC W fb) (TRE K XC W fc) σ H Q := by
  obtain ⟨Z, g, R, h⟩ := h
  refine ⟨Z, g, R, ?_⟩
  unfold chainF at h
  cases ea : fa g with
  | bad => rw [ea] at h; exact h
  | exc c d g' => rw [ea] at h; exact h
  | ok p =>
    rw [ea] at h
    simp only [Res.bind_ok] at h
    intro v Z1 H1 x1 R1 r1 f1
    refine ⟨Z1, p.2, R1, ?_⟩
    replace h := h.later x1
    cases eb : fb p.2 with
    | bad => rw [eb] at h; exact h
    | exc c d g' => rw [eb] at h; exact h
    | ok q =>
      rw [eb] at h
      simp only [Res.bind_ok] at h
      intro u Z2 H2 x2 R2 r2 f2
      replace h := h.later x2
      have r1' := r1.mv R1 x2
      obtain ⟨r, e, h⟩ := of_some (P := AftE K XC W q.2 σ Z2 H2 Q) (fun z => z) h
      obtain ⟨d1, d2, e1, e2, e3⟩ := bind2 e
      refine ⟨Z2, d1, d2, r, r1'.rd R2 e1, r2.rd R2 e2, e3, r, rfl, ?_⟩
      cases r with
      | false =>
        rw [if_neg Bool.false_ne_true] at h ⊢
        exact h.val R2 (.bl false)
      | true =>
        rw [if_pos rfl] at h ⊢
        refine ⟨Z2, q.2, R2, ?_⟩
        cases ec : fc q.2 with
        | bad => rw [ec] at h; exact h
        | exc c d g' => rw [ec] at h; exact h
        | ok s =>
          rw [ec] at h
          simp only [Res.bind_ok] at h
          intro w Z3 H3 x3 R3 r3 f3
          replace h := h.later x3
          obtain ⟨r', e', h⟩ := of_some (P := AftE K XC W s.2 σ Z3 H3 Q) (fun z => z) h
          obtain ⟨d3, d4, e4, e5, e6⟩ := bind2 e'
          exact ⟨Z3, d3, d4, r', (r2.mv R2 x3).rd R3 e4, r3.rd R3 e5, e6, h.val R3 (.bl r')⟩
theorem s_cmp2 (hu : X.A.units + 65 < cLine) (o o2 : Cop) (ha : PE X a (TRE X.K XC W fa)) (hb : PE X b (TRE X.K XC W fb)) (hc : PE X c (TRE X.K XC W fc)) (hm : lastMarks [copOp o, copOp o2] [b, c] = false) :
    PE X (.Compare a [copOp o, copOp o2] [b, c] pos) (TRE X.K XC W (chainF o o2 fa fb fc)) :=
  ⟨fun pins s σ H Q I h => (pe_chain (cop_any hu o) (cop_any hu o2) ha hb hc hm).run pins s σ H Q I (chain_run h)⟩
theorem t_cmp2 (hu : X.A.units + 65 < cLine) (o o2 : Cop) (ha : PE X a (TRE X.K XC W fa)) (hb : PE X b (TRE X.K XC W fb)) (hc : PE X c (TRE X.K XC W fc)) (hm : lastMarks [copOp o, copOp o2] [b, c] = false) :
    PT X (.Compare a [copOp o, copOp o2] [b, c] pos) (TRT X.K XC W (tstF (chainF o o2 fa fb fc))) :=
  ⟨fun pins s σ H Q I h => (pt_chain (cop_any hu o) (cop_any hu o2) ha hb hc hm).run pins s σ H Q I (chain_run (bool_test (fun g p e => chain_bool e) h))⟩

/-! ### argument lists -/
theorem a_nil : PA X [] (TRA X.K XC W fun g => .ok ([], g)) := ⟨fun pos pins s σ H Q I h => by
  obtain ⟨Z, g, R, h⟩ := h
  exact pa_nil.run pos pins s σ H Q I (h [] Z H Ext.refl R .nil .nil)⟩
theorem a_cons (ha : PE X a (TRE X.K XC W fa)) (hr : PA X es (TRA X.K XC W fes)) (hs : starEach (a :: es) X.env = (false, eval a X.env) :: starEach es X.env) :
    PA X (a :: es) (TRA X.K XC W fun g => (fa g).bind fun p => (fes p.2).bind fun q => .ok (p.1 :: q.1, q.2)) := by
  refine ⟨fun pos pins s σ H Q I h => ?_⟩
  refine (pa_cons ha hr hs).run pos pins s σ H Q I ?_
  obtain ⟨Z, g, R, h⟩ := h
  try dsimp only at h
  refine ⟨Z, g, R, ?_⟩
  cases ea : fa g with
  | bad => rw [ea] at h; exact h
  | exc c d g' => rw [ea] at h; exact h
  | ok p =>
    rw [ea] at h
    simp only [Res.bind_ok] at h
    intro v Z1 H1 x1 R1 r1 f1
    refine ⟨Z1, p.2, R1, ?_⟩
    cases eb : fes p.2 with
    | bad => rw [eb] at h; exact h
    | exc c d g' => rw [eb] at h; exact fun cls oa Z' H' x R e => h cls oa Z' H' (x1.trans x) R e
    | ok q =>
      rw [eb] at h
      simp only [Res.bind_ok] at h
      intro vs Z2 H2 x2 R2 r2 f2
      exact h (v :: vs) Z2 H2 (x1.trans x2) R2 (.cons (r1.mv R1 x2) r2) (.cons f1 (f2.mv x1))
theorem f_nil : PA X [] (TRFs X.K XC W fun g => .ok ([], g)) := ⟨fun pos pins s σ H Q I h => by
  obtain ⟨Z, g, R, h⟩ := h
  exact pa_nil.run pos pins s σ H Q I (h [] Z H Ext.refl R .nil)⟩
theorem f_cons (ha : PE X a (TRF X.K XC W (fzF fa))) (hr : PA X es (TRFs X.K XC W ffs)) (hs : starEach (a :: es) X.env = (false, eval a X.env) :: starEach es X.env) :
    PA X (a :: es) (TRFs X.K XC W fun g => (fzF fa g).bind fun p => (ffs p.2).bind fun q => .ok (p.1 :: q.1, q.2)) := by
  refine ⟨fun pos pins s σ H Q I h => ?_⟩
  refine (pa_cons ha hr hs).run pos pins s σ H Q I ?_
  obtain ⟨Z, g, R, h⟩ := h
  try dsimp only at h
  refine ⟨Z, g, R, ?_⟩
  cases ea : fzF fa g with
  | bad => rw [ea] at h; exact h
  | exc c d g' => rw [ea] at h; exact h
  | ok p =>
    rw [ea] at h
    simp only [Res.bind_ok] at h
    intro v Z1 H1 x1 R1 r1
    refine ⟨Z1, p.2, R1, ?_⟩
    cases eb : ffs p.2 with
    | bad => rw [eb] at h; exact h
    | exc c d g' => rw [eb] at h; exact fun cls oa Z' H' x R e => h cls oa Z' H' (x1.trans x) R e
    | ok q =>
      rw [eb] at h
      simp only [Res.bind_ok] at h
      intro vs Z2 H2 x2 R2 r2
      exact h (v :: vs) Z2 H2 (x1.trans x2) R2 (.cons (Rep.mv (R1.keeps x2) _ _ r1) r2)
/-! ### displays -/
theorem s_tup {k : Nat} (n : Nat) (hn : n ≤ 1000) (hl : ∀ g p, ffs g = .ok p → p.1.length = n) (h : PA X es (TRFs X.K XC W ffs)) : PE X (.Tuple es k pos) (TRE X.K XC W fun g => (ffs g).bind fun p => .ok (.val (.tuple p.1), p.2)) := by
  refine ⟨fun pins s σ H Q I hq => ?_⟩
  refine (pe_tup h).run pins s σ H Q I ?_
  obtain ⟨Z, g, R, hq⟩ := hq
  try dsimp only at hq
  refine ⟨Z, g, R, ?_⟩
  cases ea : ffs g with
  | bad => rw [ea] at hq; exact hq
  | exc c d g' => rw [ea] at hq; exact hq
  | ok p =>
    rw [ea] at hq
    simp only [Res.bind_ok] at hq
    intro vs Z1 H1 x1 R1 r1
    have e1 := hl g p ea
    have e2 := r1.len
    refine ⟨by rw [sizeLine_eq]; omega, fun q hqn => ?_⟩
    have hx : HX H1 (upd H1 q (.tup vs)) := HX.new hqn
    exact hq (.ref q) Z1 _ (x1.trans hx.ext) (R1.hx hx) (.tup upd_same (r1.mv hx.keeps)) trivial
theorem s_lst (n : Nat) (hn : n ≤ 1000) (hl : ∀ g p, ffs g = .ok p → p.1.length = n) (h : PA X es (TRFs X.K XC W ffs)) : PE X (.List es pos) (TRE X.K XC W fun g => (ffs g).bind fun p => .ok (.nw (.list p.1), p.2)) := by
  refine ⟨fun pins s σ H Q I hq => ?_⟩
  refine (pe_lst h).run pins s σ H Q I ?_
  obtain ⟨Z, g, R, hq⟩ := hq
  try dsimp only at hq
  refine ⟨Z, g, R, ?_⟩
  cases ea : ffs g with
  | bad => rw [ea] at hq; exact hq
  | exc c d g' => rw [ea] at hq; exact hq
  | ok p =>
    rw [ea] at hq
    simp only [Res.bind_ok] at hq
    intro vs Z1 H1 x1 R1 r1
    have e1 := hl g p ea
    have e2 := r1.len
    refine ⟨by rw [sizeLine_eq]; omega, fun q hqn => ?_⟩
    exact (AftE.later hq x1).done (r := (true, .list p.1)) R1 |>.lst r1 q hqn
/-! ### built-ins -/
theorem bi_run {b : Bi} {σ : St} {H : Hp} {K : PySem.W.Frag} {Q : VK} (h : TRE K XC W (fun g => (fes g).bind fun p => (Res.of ((gets p.2 p.1).bind (bi b))).bind fun r => .ok (mk r, p.2)) σ H Q) :
    tCB (RB K (bi b)) (TRA K XC W fes) σ H Q := by
  obtain ⟨Z, g, R, h⟩ := h
  try dsimp only at h
  refine ⟨Z, g, R, ?_⟩
  cases ea : fes g with
  | bad => rw [ea] at h; exact h
  | exc c d g' => rw [ea] at h; exact h
  | ok p =>
    rw [ea] at h
    simp only [Res.bind_ok] at h
    intro vs Z1 H1 x1 R1 r1 f1
    obtain ⟨r, e, h⟩ := of_some (P := AftE K XC W g σ Z H Q) (fun z => z) h
    cases eg : gets p.2 p.1 with
    | none => rw [eg] at e; cases e
    | some ds =>
      rw [eg] at e
      exact ⟨Z1, ds, r, R1.zok, r1.rds R1 eg, e, (h.later x1).done R1⟩
theorem s_bi (hc : X.calm = true) (hu : X.A.units + 100 < cLine) (hgd : X.A.guards = some []) (b : Bi) {x : Str} {p : Pos} (hx : x = Str.ofString (biName b)) (hg : Gl X x) (hm : X.mg x = none) (ha : PA X (a :: es) (TRA X.K XC W fes))
    (he : starEach (a :: es) X.env = (false, eval a X.env) :: starEach es X.env) (hpl : (backTo pos (starEach es X.env)).any (·.1) = false) : PE X (.Call (.Name x p) (a :: es) [] pos)
    (TRE X.K XC W fun g => (fes g).bind fun p => (Res.of ((gets p.2 p.1).bind (bi b))).bind fun r => .ok (mk r, p.2)) := by
  refine ⟨fun pins s σ H Q I h => ?_⟩
  have hr := bi_any (X := X) hc hu hgd b
  have hv : bootBuiltins x = some (biVal b) := by rw [hx]; exact boot_bi b
  have hn : x ≠ "__name__" := by subst hx; cases b <;> decide +kernel
  have hdb : (x == ("__debug__" : Str)) = false := by subst hx; cases b <;> decide +kernel
  unfold biVal at hr hv
  by_cases ht : biTy b = true
  · rw [if_pos ht] at hr hv
    exact (pe_callTy hr hg hm hv ha hn hdb he hpl).run pins s σ H Q I (bi_run h)
  · rw [if_neg ht] at hr hv
    exact (pe_callB hr hg hm hv ha hn hdb he hpl).run pins s σ H Q I (bi_run h)
end
end PK
end

section
set_option Elab.async false
set_option linter.all false
set_option maxRecDepth 100000
set_option maxHeartbeats 4000000
/-! PkFn: what a def promises where no repr is under way (so that repr of data can be asked in its body). -/
namespace PK
open PySem PySem.Spec PyProof.Rows L2
open PySem (PyData)

/-- a def's promise to a caller under whom no repr is under way -/
structure FnG (P : Program) (w : World) (K : PySem.W.Frag) (mg : Str → Option Value) (base : Heap) (CX : CXT) (k : Nat) (f : Addr) (fd : FuncData) (ps : List Str) (sp : Sp) : Prop where
  len : ∀ vs H Q E, sp vs H Q E → vs.length = ps.length
  run : ∀ (A : Around) (outer : List PySem.Env) (s : Shared) (H : Hp) (args : Args) (us : List Value) (vs : List V) (Q : VK) (E : XK), Room k A → A.guards = some [] → Env0 P w K mg base A outer s H → BindsTo s fd args (ps.zip us) → Vals vs us → sp vs H Q E →
    codeAny (model P w) A (.call (.ref f) args) (L2.CR CX outer P w H s Q E) s
theorem FnG.imp {P : Program} {w : World} {K : PySem.W.Frag} {mg : Str → Option Value} {base : Heap} {CX : CXT} {k : Nat} {f : Addr} {fd : FuncData} {ps : List Str} {sp sp' : Sp} (F : FnG P w K mg base CX k f fd ps sp) (h : ∀ vs H Q E, sp' vs H Q E → sp vs H Q E) : FnG P w K mg base CX k f fd ps sp' where
  len := fun vs H Q E q => F.len vs H Q E (h vs H Q E q)
  run := fun A outer s H args us vs Q E r g e b v q => F.run A outer s H args us vs Q E r g e b v (h vs H Q E q)
/-- the end of a body is a call's end -/
theorem body_end {CX : CXT} {P : Program} {w : World} {K : PySem.W.Frag} {mg : Str → Option Value} {base : Heap} {N : List Str} {qual : Str} {scope : Scope} {f : Addr} {cdv : Value} {A : Around} {outer : List PySem.Env} {s : Shared} {H : Hp} {E : XK} {Q : VK} {fl : Flow} {s' : Shared}
    (h : SP (cxOf CX P w K mg base N qual scope f cdv A outer s H E) [] { nx := fun _ H' => Q .non H', rt := Q } fl s') : match fl with
      | .ret u => CE outer P w H s Q u s'
      | .next => CE outer P w H s Q .none s'
      | _ => False := by
  cases fl with
  | ret u => obtain ⟨v, σ', H', J, rv, q⟩ := h; exact ⟨v, H', J.os, J.bare, J.base, J.hok, rv, q⟩
  | next => obtain ⟨σ', H', J, q⟩ := h; exact ⟨V.non, H', J.os, J.bare, J.base, J.hok, rfl, q⟩
  | brk => obtain ⟨_, _, _, q⟩ := h; exact q
  | cont => obtain ⟨_, _, _, q⟩ := h; exact q
theorem fnG_of {CX : CXT} {P : Program} {w : World} {K : PySem.W.Frag} {mg : Str → Option Value} {base : Heap} {k : Nat} {f : Addr} {name qual : Str} {params : Arguments} {body : List Stmt} {scope : Scope} {dV kV doc pm cdv ct oc : Value} {an od : Option Addr}
    {osl : Array (Option Value)} {N ps : List Str} {sp : Sp} (lk : K.lookup f = some ⟨oc, od, .func (PySem.W.fnOf name qual params body scope dV kV doc pm an cdv ct), osl⟩) (hcd : PySem.W.codeIn K cdv qual = true) (S : FnScope N ps scope)
    (len : ∀ vs H Q E, sp vs H Q E → vs.length = ps.length)
    (hbody : ∀ (A : Around) (outer : List PySem.Env) (s : Shared) (H : Hp) (vs : List V) (Q : VK) (E : XK), Room k (A.deeper (envOfC qual scope s.heap.objs.size f cdv)) → A.guards = some [] → sp vs H Q E →
      ∃ t, PSs (cxOf CX P w K mg base N qual scope f cdv A outer s H E) body t ∧ t { nx := fun _ H' => Q .non H', rt := Q } (start N vs) H) :
    FnG P w K mg base CX (k + 1) f (PySem.W.fnOf name qual params body scope dV kV doc pm an cdv ct) ps sp where
  len := len
  run := fun A outer s H args us vs Q E hr hg e0 hb r hsp => by
    obtain ⟨t, ht, hq⟩ := hbody A outer s H vs Q E (hr.deeper _) hg hsp
    have kept : ∀ b o, base.get? b = some o → s.heap.get? b = some o := fun b o e => (e0.bs b o e).1
    have hK : K.In s.heap := e0.mod.kin.keeps kept
    have hlim : s.heap.NoLimit := e0.mod.nolimit.keeps kept
    refine codeAny_call_function hr.depth (hK _ _ lk) rfl S.co S.gen rfl (PySem.W.codeRec_of hK hcd) (hb _ _ _ _ (wpAny_newFunctionEnv_cells S.kind (fun y hy => ?_) fun env he s1 x => ?_))
    · rcases S.par y.1 (List.of_mem_zip hy).1 with q | q
      · exact .inl q
      · exact .inr ⟨q, PySem.W.cellsFrom_some _ _ _ (.inl q)⟩
    · subst he
      refine ⟨hlim.keeps x.toInCall.keep, codeAny_func (wpAny_mono (ht.run [] s1 (start N vs) H _ (inv_start S hr.hd e0 (len _ _ _ _ hsp) r x) hq) (fun fl s' hs => ?_) fun _ _ he => he)⟩
      have := body_end hs
      cases fl <;> first | exact this | exact False.elim this
section
variable {X : Cx} {CX : CXT} {k : Nat} {f : Addr} {fd : FuncData} {ps : List Str} {sp : Sp} {E : St → XK} {x : Str} {p pos : Pos} {e : Expr} {es : List Expr} {t : TA}
/-- f(e, ..), f a def of the module -/
theorem pe_callG (F : FnG X.prog X.w X.K X.mg X.base CX k f fd ps sp) (hr : Room k X.A) (hgd : X.A.guards = some []) (hg : Gl X x) (hm : X.mg x = some (.ref f)) (hk : PySem.W.keepIn X.K (.ref f) = true) (hb : Binds X.K fd ps []) (hx : ∀ σ, PassesAt CX X σ (E σ))
    (ha : PA X (e :: es) t) (hdb : (x == ("__debug__" : Str)) = false) (he : starEach (e :: es) X.env = (false, eval e X.env) :: starEach es X.env) (hpl : (backTo pos (starEach es X.env)).any (·.1) = false) :
    PE X (.Call (.Name x p) (e :: es) [] pos) (tCallS sp E t) := ⟨fun pins s σ H Q I h => by
  refine wpAny_Call_Name_kw (ld_glob I hg hm (PySem.W.callWith_K (h₀ := X.base) I.ok.mod.kin hk (thn (ha.run pos pins s σ H _ I h) fun us s1 hh => ?_) he hpl) hdb)
  obtain ⟨vs, H1, I1, r, q⟩ := hh
  refine ⟨I1.kIn, wpAny_call ?_⟩
  have bnd : BindsTo s1 fd ⟨us, []⟩ (ps.zip us) := by
    have := hb s1 us I1.kIn (by rw [List.append_nil, ← r.length]; exact F.len _ _ _ _ q)
    rwa [List.append_nil] at this
  refine codeAny_mono (F.run X.A X.stack s1 H1 ⟨us, []⟩ us vs Q (E σ) hr hgd I1.env0 bnd r q) fun rs s' hq => ?_
  cases rs with
  | error e => exact hx σ pins H1 s1 e s' I1 hq
  | ok fl => cases fl <;> first | exact I1.after hq | exact False.elim hq⟩
end

/-! ### the law's own call -/
section
variable {P : Program} {w : World} {K : PySem.W.Frag} {mg mb : Str → Option Value} {CX : CXT} {k : Nat} {fa a : Addr} {fd : FuncData} {x : Str} {sp : Sp} {s₁ : Shared} {vs : List Value} {ns : List Int} {H : Hp}
/-- at the top: at most the script is tracked -/
theorem top_env (KX : K.In s₁.heap) (hns : s₁.heap.Ns mainGlobals mg) (hb : s₁.heap.Ns builtinsNs mb) (hbb : ∀ x : Str, x ≠ "__name__" → mb x = bootBuiltins x) (hlim : s₁.heap.NoLimit) (hg : s₁.gens = #[])
    (ha : s₁.heap.get? a = some { cls := .type "list", data := .seq vs.toArray }) (hok : HOk P w H s₁.heap) (hA : ∀ b, H b ≠ none → b = a) (hK : H a ≠ none → K.lookup a = none) :
    Env0 P w K mg (hidT s₁.heap H) callerA [] s₁ H ∧ K.In (hidT s₁.heap H) ∧ (hidT s₁.heap H).Ns mainGlobals mg := by
  -- what is no list stands free
  have free : ∀ {b : Addr} {o : Obj}, s₁.heap.get? b = some o → (∀ es n, o.data ≠ .seq es n) → H b = none := fun {b o} e nd => by
    by_cases q : H b = none
    · exact q
    · have := hA b q
      subst this
      rw [ha] at e
      cases e
      exact (nd _ _ rfl).elim
  have names : ∀ {b : Addr} {m : Str → Option Value}, s₁.heap.Ns b m → (hidT s₁.heap H).Ns b m := fun {b m} h => by
    obtain ⟨o, es, ep, e, d, r⟩ := h
    exact ⟨o, es, ep, hidT_get e (free e fun _ _ z => by rw [d] at z; cases z), d, r⟩
  have inK : K.In (hidT s₁.heap H) := fun b o e => by
    refine hidT_get (KX b o e) ?_
    by_cases q : H b = none
    · exact q
    · have eb := hA b q
      subst eb
      rw [hK q] at e
      cases e
  obtain ⟨mc, l1, l2⟩ := hlim
  exact ⟨⟨rfl, ⟨inK, names hns, ⟨mb, names hb, hbb⟩, ⟨mc, names l1, l2⟩⟩, fun b o e => of_hidT e, Nat.le_of_eq (hidT_size _ _), trivial, (fun b h => nomatch h), hok, .of_eq hg⟩, inK, names hns⟩
theorem law_callG (KX : K.In s₁.heap) (hns : s₁.heap.Ns mainGlobals mg) (hb : s₁.heap.Ns builtinsNs mb) (hbb : ∀ x : Str, x ≠ "__name__" → mb x = bootBuiltins x) (hlim : s₁.heap.NoLimit) (hg : s₁.gens = #[])
    (ha : s₁.heap.get? a = some { cls := .type "list", data := .seq vs.toArray }) (hi : IntsAre vs ns) (hl : ns.length ≤ sizeLine) (hr : Room k callerA)
    (F : ∀ base : Heap, K.In base → base.Ns mainGlobals mg → FnG P w K mg base CX k fa fd [x] sp) (hbind : ∀ (s : Shared) (u : Value), BindsTo s fd ⟨[u], []⟩ [(x, u)])
    (hsp : ∀ H : Hp, Only H → SqL K H a (ns.map V.int) → sp [.ref a] H (fun v _ => v = .bl true) fun _ _ _ => False)
    (hCX : ∀ H e s', CX [] H s₁ (fun _ _ _ => False) e s' → False) :
    codeAny (model P w) callerA (.call (.ref fa) ⟨[.ref a], []⟩) (fun r s' => r = .ok (.ret (.bool true)) ∧ OldK s₁.heap s'.heap ∧ s'.os = s₁.os ∧ AllBare s'.gens) s₁ := by
  have rv := vals_ints hi
  have go : ∀ H : Hp, Only H → SqL K H a (ns.map V.int) → HOk P w H s₁.heap → (∀ b, H b ≠ none → b = a) → (H a ≠ none → K.lookup a = none) →
      codeAny (model P w) callerA (.call (.ref fa) ⟨[.ref a], []⟩) (fun r s' => r = .ok (.ret (.bool true)) ∧ OldK s₁.heap s'.heap ∧ s'.os = s₁.os ∧ AllBare s'.gens) s₁ := fun H hO hS hok hA hK => by
    obtain ⟨e0, kb, nb⟩ := top_env (mb := mb) KX hns hb hbb hlim hg ha hok hA hK
    refine codeAny_mono ((F _ kb nb).run callerA [] s₁ H ⟨[.ref a], []⟩ [.ref a] [.ref a] _ _ hr rfl e0 (hbind s₁ (.ref a)) (.cons rfl .nil) (hsp H hO hS)) fun r s' h => ?_
    match r, h with
    | .error e, h => exact (hCX H e s' h).elim
    | .ok (.ret u), h =>
      obtain ⟨v, H', os, bare, un, hok', r', q⟩ := h
      have q : v = .bl true := q
      subst q
      have r' : u = Value.bool true := r'
      subst r'
      refine ⟨rfl, OldK.of_keep fun b o e => ?_, os, bare⟩
      rcases hO b with z | ⟨ob, xs, z⟩
      · exact un.keep b o e z (fun m => nomatch m) (fun m => nomatch m)
      · have e1 := (hok b _ z).1
        have e2 := (hok' b _ (un.frzs b ob _ z)).1
        rw [e] at e1
        cases e1
        exact e2
    | .ok .next, h => exact h.elim
    | .ok .brk, h => exact h.elim
    | .ok .cont, h => exact h.elim
  have hsz : (ns.map V.int).length ≤ sizeLine := by rw [List.length_map]; exact hl
  by_cases hk : K.lookup a = none
  · let o₁ : Obj := { cls := .type "list", data := .seq vs.toArray }
    let H₁ : Hp := fun b => if b = a then some (.frz o₁ (.lst (ns.map V.int))) else none
    have at_a : H₁ a = some (.frz o₁ (.lst (ns.map V.int))) := if_pos rfl
    have off : ∀ b, b ≠ a → H₁ b = none := fun b h => if_neg h
    refine go H₁ (fun b => ?_) (.inl (.inr ⟨o₁, at_a⟩)) (fun b u z => ?_) (fun b h => Classical.byContradiction fun q => h (off b q)) fun _ => hk
    · by_cases q : b = a
      · subst q; exact .inr ⟨_, _, at_a⟩
      · exact .inl (off b q)
    · by_cases q : b = a
      · subst q
        rw [at_a] at z
        cases z
        exact ⟨ha, hsz, vs, _, rv, ha⟩
      · rw [off b q] at z
        cases z
  · obtain ⟨o, ho⟩ := Option.ne_none_iff_exists'.mp hk
    have e := KX a o ho
    rw [ha] at e
    cases e
    exact go (fun _ => none) (fun _ => .inl rfl) (.inr ⟨_, vs.toArray, _, ho, rfl, rfl, rfl, by rw [List.size_toArray, hi.length]; exact hl, by simpa using rv⟩) (fun b u z => nomatch z) (fun b h => absurd rfl h) fun h => absurd rfl h
end
theorem walk_ofG {l : PySem.W.OpenLaw} {n k : Nat} {q : Program} {loose : List Str} {XP : (Str → Option Value) → Heap → Prop} {YP : World → Heap → Prop} {d : DefRec} {K : Params → PySem.W.Frag} {CX : World → CXT} {sp : World → Sp} {x : Str}
    (hn : l.most = some n) (hn2 : n ≤ sizeLine) (hdf : d.params.defaults = []) (hr : Room k callerA) (hY : ∀ (w : World) (h : Heap), YP w h → (K w.params).In h)
    (F : ∀ (w : World) (mg : Str → Option Value) (fa : Addr) (h : Heap), (K w.params).In h → h.Ns mainGlobals mg → mg d.name = some (.ref fa) → ∃ fd : FuncData, (∀ (s : Shared) (u : Value), BindsTo s fd ⟨[u], []⟩ [(x, u)]) ∧
      ∀ base : Heap, (K w.params).In base → base.Ns mainGlobals mg → FnG l.prog w (K w.params) mg base (CX w) k fa fd [x] (sp w))
    (hsp : ∀ (w : World) (H : Hp) (a : Addr) (ns : List Int), ns.length ≤ n → Only H → SqL (K w.params) H a (ns.map V.int) → sp w [.ref a] H (fun v _ => v = .bl true) fun _ _ _ => False)
    (hCX : ∀ (w : World) (H : Hp) (s : Shared) (e : Value) (s' : Shared), CX w [] H s (fun _ _ _ => False) e s' → False) :
    PySem.W.WalkO q loose XP YP l.row.toRowW d [] (fun f vs => PySem.call f vs) :=
  Att.attach_call hn hdf fun w s₀ s₁ mg mb fa o pm cd doc a vs ns G Y ho hd hcd hmg hobj hints hlen hg =>
    let ⟨_, hb, hF⟩ := F w mg fa _ (hY w _ Y) G.T.g hmg
    law_callG (hY w _ Y) G.T.g G.T.b G.T.builtins G.T.nolimit hg hobj hints (Nat.le_trans hlen hn2) hr hF hb (fun H hO hS => hsp w H a ns hlen hO hS) fun H e s' => hCX w H s₁ e s'
end PK
end

section
set_option Elab.async false
set_option linter.all false
set_option maxRecDepth 100000
set_option maxHeartbeats 4000000
/-! PkS3: calls of defs: what a def promises, what a caller gets. -/
namespace PK
open PySem PySem.Spec PyProof.Rows L2
open PySem (PyData)

/-- what a call leaves, io: what it may change -/
structure Post (Z : Addr → Prop) (H : Hp) (Z' : Addr → Prop) (H' : Hp) (io : Addr → Prop) : Prop where
  pres : ∀ a o, H a = some o → ¬ io a → H' a = some o
  up : ∀ a, Z a → Z' a
  zn : ∀ a, Z' a → Z a ∨ H a = none
  th : ∀ a, H' a = none → H a = none
  ex : ∀ a, Z' a → H' a ≠ none
def ResF (K : PySem.W.Frag) (Z' : Addr → Prop) (H H' : Hp) (v : V) (fr : Bool) (d : PyData) : Prop :=
  (fr = true → ∃ a, v = .ref a ∧ H a = none ∧ ¬ Z' a ∧ Ct K Z' H' a d) ∧ (fr = false → Rep K Z' H' v d)
/-- a def's promise: it does what the evaluator says -/
def spF (K : PySem.W.Frag) (XC : XR) (C : Calls) (f : Nat) : Sp := fun vs H Q E =>
  (C.io f = true ∧ ∃ Z a ws d ds fr r d', vs = .ref a :: ws ∧ ZOk Z H ∧ ¬ Z a ∧ Ct K Z H a d ∧ Reps K Z H ws ds ∧ C.call f (d :: ds) = .ok fr r (some d') ∧
    ∀ v Z' H', Post Z H Z' H' (fun b => b = a) → ¬ Z' a → Ct K Z' H' a d' → ResF K Z' H H' v fr r → Q v H') ∨
  (C.io f = false ∧ ∃ Z ds, ZOk Z H ∧ Reps K Z H vs ds ∧ ((∃ fr r o, C.call f ds = .ok fr r o ∧ ∀ v Z' H', Post Z H Z' H' (fun _ => False) → ResF K Z' H H' v fr r → Q v H') ∨
    ∃ c d, C.call f ds = .exc c d ∧ ∀ cls oa Z' H', Post Z H Z' H' (fun _ => False) → XC c d cls oa H' → E cls oa H'))

section
variable {K : PySem.W.Frag} {XC : XR} {W : WX} {Z Z' Z0 Z1 Z2 : Addr → Prop} {g g' g0 g1 g2 : Env} {σ σ0 σ1 : St} {H H' H0 H1 H2 : Hp} {Q : VK}
mutual
theorem Rep.noL : ∀ (d : PyData) (v : V), noList d = true → Rep K Z H v d → Rep K Z' H v d
  | .none, _, _, h => by cases h; exact .non
  | .bool b, _, _, h => by cases h; exact .bl b
  | .int i, _, _, h => by cases h; exact .int i
  | .str x, _, _, h => by cases h; exact .str x
  | .list ds, _, e, _ => by simp [noList] at e
  | .tuple ds, _, e, h => by
    cases h with
    | tup h1 h3 => exact .tup h1 (Reps.noL ds _ (by simpa [noList] using e) h3)
  | .dict _, _, _, h => by cases h
theorem Reps.noL : ∀ (ds : List PyData) (vs : List V), noLists ds = true → Reps K Z H vs ds → Reps K Z' H vs ds
  | [], _, _, h => by cases h; exact .nil
  | d :: ds, _, e, h => by
    cases h with
    | cons h1 h2 =>
      simp only [noLists, Bool.and_eq_true] at e
      exact .cons (Rep.noL d _ e.1 h1) (Reps.noL ds _ e.2 h2)
end
theorem Post.hx (p : Post Z H Z' H' fun _ => False) : HX H H' := fun a o e => p.pres a o e fun z => z
/-- the lists that a caller lends -/
def Lent (Z : Addr → Prop) (g : Env) (σ : St) (vs : List V) (xs : List EV) : Addr → Prop := fun b =>
  Z b ∨ (∃ (i : Nat) (d : PyData), xs[i]? = some (.nw d) ∧ vs[i]? = some (.ref b)) ∨ ∃ (i j : Nat) (k : Mk) (d : PyData), xs[i]? = some (.loc j) ∧ g[j]? = some (.mu k d) ∧ σ[j]? = some (some (.ref b))
theorem EVRs.at : ∀ {vs : List V} {xs : List EV} {i : Nat} {x : EV}, EVRs K Z g σ H vs xs → xs[i]? = some x → ∃ v, vs[i]? = some v ∧ EVR K Z g σ H v x
  | _, _, _, _, .nil, e => by simp at e
  | _, _, 0, _, .cons r _, e => by simp at e; subst e; exact ⟨_, rfl, r⟩
  | _, _, i + 1, _, .cons _ t, e => by
    obtain ⟨v, h1, h2⟩ := EVRs.at (i := i) t (by simpa using e)
    exact ⟨v, by simpa using h1, h2⟩
theorem Fr0s.at : ∀ {vs : List V} {xs : List EV} {i : Nat} {x : EV} {v : V}, Fr0s H vs xs → xs[i]? = some x → vs[i]? = some v → Fr0 H v x
  | _, _, _, _, _, .nil, e, _ => by simp at e
  | _, _, 0, _, _, .cons r _, e, e' => by simp at e e'; subst e; subst e'; exact r
  | _, _, i + 1, _, _, .cons _ t, e, e' => Fr0s.at (i := i) t (by simpa using e) (by simpa using e')
theorem lent_rep {v : V} {x : EV} {d : PyData} {L : Addr → Prop} (r : EVR K Z g σ H v x) (R : Rel K Z g σ H) (e : x.get g = some d) (hZ : ∀ b, Z b → L b)
    (h1 : ∀ d b, x = .nw d → v = .ref b → L b) (h2 : ∀ j k d b, x = .loc j → g[j]? = some (.mu k d) → σ[j]? = some (some (.ref b)) → L b) : Rep K L H v d := by
  have kp : Keeps Z H L H := ⟨fun _ _ h => h, fun _ _ _ h => h, fun _ _ _ h => h, hZ⟩
  cases x with
  | val d' => cases e; exact Rep.mv kp _ _ r
  | nw d' =>
    obtain ⟨a, rfl, _, _, c⟩ := r
    obtain ⟨vs, ds, rfl, rfl, ha, q⟩ := c.ndc e
    exact .lst (SqL.of ha) (h1 _ _ rfl rfl) (q.mv kp)
  | loc i =>
    have rs : σ[i]? = some (some v) := r
    cases hs : g[i]? with
    | none => rw [show EV.get g (.loc i) = (g[i]?).bind Slot.get from rfl, hs] at e; cases e
    | some s =>
      rw [show EV.get g (.loc i) = (g[i]?).bind Slot.get from rfl, hs] at e
      cases s with
      | un => cases e
      | va d' =>
        cases e
        obtain ⟨w, e1, q⟩ := R.va hs
        rw [rs] at e1; cases e1
        exact Rep.mv kp _ _ q
      | mu k d' =>
        obtain ⟨a, e1, _, c, _⟩ := R.mu hs
        obtain ⟨vs, ds, rfl, rfl, h, q⟩ := c.ndc e
        have e2 := e1
        rw [rs] at e1; cases e1
        exact .lst (SqL.of h) (h2 i k _ a rfl hs e2) (q.mv kp)
      | ex c d' => cases e
theorem lent_reps {L : Addr → Prop} : ∀ {vs : List V} {xs : List EV} {ds : List PyData}, EVRs K Z g σ H vs xs → Rel K Z g σ H → gets g xs = some ds → (∀ b, Z b → L b) →
    (∀ (i : Nat) d b, xs[i]? = some (EV.nw d) → vs[i]? = some (V.ref b) → L b) → (∀ (i j : Nat) k d b, xs[i]? = some (EV.loc j) → g[j]? = some (Slot.mu k d) → σ[j]? = some (some (V.ref b)) → L b) → Reps K L H vs ds
  | _, _, _, .nil, _, e, _, _, _ => by cases e; exact .nil
  | _, _, _, .cons (x := x) (xs := xs) r t, R, e, hZ, h1, h2 => by
    simp only [gets] at e
    cases e1 : x.get g with
    | none => rw [e1] at e; cases e
    | some d =>
      rw [e1] at e
      simp only [Option.bind_some] at e
      cases e2 : gets g xs with
      | none => rw [e2] at e; cases e
      | some ds' =>
        rw [e2] at e
        cases e
        exact .cons (lent_rep r R e1 hZ (fun d b ex ev => h1 0 d b (by simp [ex]) (by simp [ev])) fun j k d b ex => h2 0 j k d b (by simp [ex]))
          (lent_reps t R e2 hZ (fun i d b ex ev => h1 (i + 1) d b (by simpa using ex) (by simpa using ev)) fun i j k d b ex => h2 (i + 1) j k d b (by simpa using ex))
theorem ndc_id {d d' : PyData} (h : ndc d = some d') : d = d' := by
  cases d <;> first | (cases h; rfl) | cases h
theorem frzAll_at : ∀ {xs : List EV} {g g2 : Env}, frzAll g xs = some g2 → g2.length = g.length ∧ ∀ (k : Nat) (s : Slot), g2[k]? = some s →
    (g[k]? = some s ∧ (EV.loc k ∈ xs → ∀ m d, s ≠ .mu m d)) ∨ ∃ d, EV.loc k ∈ xs ∧ g[k]? = some (.mu .ow d) ∧ s = .va d ∧ ndc d = some d
  | [], g, g2, e => by
    cases e
    exact ⟨rfl, fun k s es => .inl ⟨es, fun z => nomatch z⟩⟩
  | x :: xs, g, g2, e => by
    simp only [frzAll] at e
    cases ez : x.fz g with
    | none => rw [ez] at e; cases e
    | some p =>
      rw [ez] at e
      simp only [Option.bind_some] at e
      obtain ⟨h1, h2⟩ := frzAll_at e
      cases x with
      | val d =>
        cases ez
        refine ⟨h1, fun k s es => ?_⟩
        rcases h2 k s es with ⟨a, b⟩ | ⟨d, a, b⟩
        · exact .inl ⟨a, fun z => b ((List.mem_cons.mp z).resolve_left (fun z => nomatch z))⟩
        · exact .inr ⟨d, List.mem_cons_of_mem _ a, b⟩
      | nw d =>
        obtain ⟨d1, hd1, ez⟩ := Option.map_eq_some_iff.mp (show (ndc d).map (fun d => (d, g)) = some p from ez)
        cases ez
        refine ⟨h1, fun k s es => ?_⟩
        rcases h2 k s es with ⟨a, b⟩ | ⟨d, a, b⟩
        · exact .inl ⟨a, fun z => b ((List.mem_cons.mp z).resolve_left (fun z => nomatch z))⟩
        · exact .inr ⟨d, List.mem_cons_of_mem _ a, b⟩
      | loc i =>
        simp only [EV.fz] at ez
        split at ez
        · rename_i d0 es0
          cases ez
          refine ⟨h1, fun k s es => ?_⟩
          rcases h2 k s es with ⟨a, b⟩ | ⟨d, a, b⟩
          · refine .inl ⟨a, fun z m d => ?_⟩
            rcases List.mem_cons.mp z with z | z
            · cases z
              rw [es0] at a; cases a
              exact fun z => nomatch z
            · exact b z m d
          · exact .inr ⟨d, List.mem_cons_of_mem _ a, b⟩
        · rename_i d0 es0
          obtain ⟨d1, hd1, ez⟩ := Option.map_eq_some_iff.mp (show (ndc d0).map (fun d => (d, g.set i (.va d))) = some p from ez)
          have hd2 := ndc_id hd1
          subst hd2
          cases ez
          have hi : i < g.length := by
            obtain ⟨h, _⟩ := List.getElem?_eq_some_iff.mp es0
            exact h
          refine ⟨by rw [h1, List.length_set], fun k s es => ?_⟩
          by_cases hk : i = k
          · subst hk
            rcases h2 i s es with ⟨a, b⟩ | ⟨d, a, b, c⟩
            · dsimp only at a
              rw [List.getElem?_set_self hi] at a
              cases a
              exact .inr ⟨d0, List.mem_cons_self, es0, rfl, hd1⟩
            · dsimp only at b
              rw [List.getElem?_set_self hi] at b
              cases b
          · rcases h2 k s es with ⟨a, b⟩ | ⟨d, a, b, c⟩
            · dsimp only at a
              rw [List.getElem?_set_ne hk] at a
              exact .inl ⟨a, fun z => b ((List.mem_cons.mp z).resolve_left (fun z => hk (by cases z; rfl)))⟩
            · dsimp only at b
              rw [List.getElem?_set_ne hk] at b
              exact .inr ⟨d, List.mem_cons_of_mem _ a, b, c⟩
        · cases ez
/-- behind a call whose lent things are never changed again -/
theorem call_frz {vs : List V} {xs : List EV} (X : Ext g0 σ0 Z0 H0 g σ Z1 H1) (R : Rel K Z1 g σ H1) (rs : EVRs K Z1 g σ H1 vs xs) (fs : Fr0s H0 vs xs) (P : Post (Lent Z1 g σ vs xs) H1 Z' H' fun _ => False)
    (e : frzAll g xs = some g2) : Ext g0 σ0 Z0 H0 g2 σ Z' H' ∧ Rel K Z' g2 σ H' := by
  obtain ⟨hl, hp⟩ := frzAll_at e
  have upL : ∀ b, Z1 b → Z' b := fun b z => P.up b (.inl z)
  have kp : Keeps Z1 H1 Z' H' := ⟨fun a _ h => P.hx a _ h, fun a _ _ h => P.hx a _ h, fun a o _ h => P.hx a o h, upL⟩
  have sub : ∀ j b, Own g2 σ j b → Own g σ j b := fun j b ⟨⟨k, d, e1⟩, e2⟩ => by
    rcases hp j _ e1 with ⟨a, _⟩ | ⟨d', _, _, c, _⟩
    · exact ⟨⟨k, d, a⟩, e2⟩
    · cases c
  have there : ∀ (j : Nat) (s : Slot), g[j]? = some s → ∃ s', g2[j]? = some s' := fun j s es => by
    obtain ⟨h, _⟩ := List.getElem?_eq_some_iff.mp es
    exact ⟨_, List.getElem?_eq_getElem (by rw [hl]; exact h)⟩
  have lentO : ∀ b, Lent Z1 g σ vs xs b → Z1 b ∨ H0 b = none ∨ O g σ b := fun b z => by
    rcases z with z | ⟨i, d, h1, h2⟩ | ⟨i, j, k, d, h1, h2, h3⟩
    · exact .inl z
    · obtain ⟨c, ec, hc⟩ := fs.at h1 h2
      cases ec
      exact .inr (.inl hc)
    · exact .inr (.inr ⟨j, ⟨k, d, h2⟩, h3⟩)
  refine ⟨⟨fun a o h n => P.hx a o (X.pres a o h n), fun a z => upL a (X.up a z), fun b z => ?_, fun b ⟨j, o⟩ => X.on b ⟨j, sub j b o⟩, fun a h => X.th a (P.th a h), fun j d ed => ?_, fun j d ed => ?_⟩,
    ⟨by rw [hl]; exact R.len, fun j s es => ?_, fun i j a o1 o2 => R.ds i j a (sub i a o1) (sub j a o2), P.ex⟩⟩
  · rcases P.zn b z with z | z
    · rcases lentO b z with z | z | z
      · exact X.zn b z
      · exact .inr (.inl z)
      · rcases X.on b z with z | z
        · exact .inr (.inr z)
        · exact .inr (.inl z)
    · exact .inr (.inl (X.th b z))
  · obtain ⟨h1, h2⟩ := X.lk j d ed
    obtain ⟨s', es'⟩ := there j _ h1
    rcases hp j s' es' with ⟨a, _⟩ | ⟨d', _, a, _⟩
    · rw [h1] at a; cases a
      exact ⟨es', h2⟩
    · rw [h1] at a; cases a
  · obtain ⟨⟨d2, h1⟩, h2⟩ := X.io j d ed
    obtain ⟨s', es'⟩ := there j _ h1
    rcases hp j s' es' with ⟨a, _⟩ | ⟨d', _, a, _⟩
    · rw [h1] at a; cases a
      exact ⟨⟨d2, es'⟩, h2⟩
    · rw [h1] at a; cases a
  · rcases hp j s es with ⟨a, b⟩ | ⟨d, hm, a, es', hd⟩
    · refine (R.sl j s a).mv kp fun c ec ⟨m, d, em⟩ => ⟨fun z => ?_, fun o h => P.hx c o h⟩
      subst em
      obtain ⟨c', e1, nz, ct, ow⟩ := R.mu a
      obtain ⟨o2, hc, _, _⟩ := ct.there
      rw [join_some ec] at e1; cases e1
      rcases P.zn c z with z | z
      · rcases z with z | ⟨i, d', h1, h2⟩ | ⟨i, j', k, d', h1, h2, h3⟩
        · exact nz z
        · obtain ⟨v, hv, rv⟩ := rs.at h1
          rw [h2] at hv; cases hv
          obtain ⟨c2, e2, _, no, _⟩ := rv
          cases e2
          exact no ⟨j, ow⟩
        · have ej := R.ds j' j c ⟨⟨k, d', h2⟩, h3⟩ ow
          subst ej
          exact b (List.mem_of_getElem? h1) m d rfl
      · rw [hc] at z; cases z
    · subst es'
      obtain ⟨c, e1, nz, ct, ow⟩ := R.mu a
      obtain ⟨vs', ds', rfl, _, hc, q⟩ := ct.ndc hd
      obtain ⟨i, hi⟩ := List.getElem?_of_mem hm
      refine ⟨.ref c, by rw [e1]; rfl, .lst (SqL.of (P.hx c _ hc)) (P.up c (.inr (.inr ⟨i, j, _, _, hi, a, e1⟩))) (q.mv kp)⟩
end

section
variable {X : Cx} {XC : XR} {W : WX} {a b c : Expr} {es : List Expr} {fa fb fc : Env → Res (EV × Env)} {fes : Env → Res (List EV × Env)} {ffs : Env → Res (List PyData × Env)} {pos : Pos}
theorem call_run {C : Calls} {f : Nat} {σ : St} {H : Hp} {K : PySem.W.Frag} {Q : VK} (h : TRE K XC W (fun g => (fes g).bind fun p => callE C f p.1 p.2) σ H Q) :
    tCallS (spF K XC C f) (WE W) (TRA K XC W fes) σ H Q := by
  obtain ⟨Z, g, R, h⟩ := h
  try dsimp only at h
  refine ⟨Z, g, R, ?_⟩
  cases ea : fes g with
  | bad => rw [ea] at h; exact h
  | exc c d g' => rw [ea] at h; exact h
  | ok p =>
    rw [ea] at h
    simp only [Res.bind_ok] at h
    intro vs Z1 H1 x1 R1 r1 f1
    unfold callE at h
    cases eg : gets p.2 p.1 with
    | none => rw [eg] at h; exact h.elim
    | some ds =>
      rw [eg] at h
      dsimp only at h
      cases hio : C.io f with
      | true => rw [hio, if_pos rfl] at h; exact h.elim
      | false =>
        rw [hio, if_neg Bool.false_ne_true] at h
        have rp : Reps K (Lent Z1 p.2 σ vs p.1) H1 vs ds := lent_reps r1 R1 eg (fun _ z => .inl z) (fun i d b e1 e2 => .inr (.inl ⟨i, d, e1, e2⟩)) fun i j k d b e1 e2 e3 => .inr (.inr ⟨i, j, k, d, e1, e2, e3⟩)
        have zk : ZOk (Lent Z1 p.2 σ vs p.1) H1 := fun b z => by
          rcases z with z | ⟨i, d, h1, h2⟩ | ⟨i, j, k, d, h1, h2, h3⟩
          · exact R1.ex b z
          · obtain ⟨v, hv, rv⟩ := r1.at h1
            rw [h2] at hv; cases hv
            obtain ⟨c2, e2, _, _, ct⟩ := rv
            cases e2
            obtain ⟨o2, hc, _, _⟩ := ct.there
            rw [hc]; exact fun z => nomatch z
          · obtain ⟨vs', hc, _, _⟩ := R1.ol ⟨j, ⟨k, d, h2⟩, h3⟩
            rw [hc]; exact fun z => nomatch z
        refine .inr ⟨hio, _, ds, zk, rp, ?_⟩
        cases ec : C.call f ds with
        | bad => rw [ec] at h; exact h.elim
        | exc c d =>
          rw [ec] at h
          refine .inr ⟨c, d, rfl, fun cls oa Z' H' P xc => ?_⟩
          exact h cls oa Z1 H' (x1.trans P.hx.ext) (R1.hx P.hx) xc
        | ok fr d o =>
          rw [ec] at h
          dsimp only at h
          refine .inl ⟨fr, d, o, rfl, fun v Z' H' P rf => ?_⟩
          by_cases hin : inner fr d = true
          · rw [if_pos hin] at h
            refine h v Z1 H' (x1.trans P.hx.ext) (R1.hx P.hx) ?_ ?_
            · cases fr with
              | false => exact Rep.noL d v hin (rf.2 rfl)
              | true =>
                obtain ⟨q, rfl, hn, nz, ct⟩ := rf.1 rfl
                obtain ⟨ds', rfl, hin2⟩ : ∃ ds', d = .list ds' ∧ noLists ds' = true := by
                  unfold inner at hin
                  rw [if_pos rfl] at hin
                  split at hin
                  · exact ⟨_, rfl, hin⟩
                  · cases hin
                obtain ⟨vs', hq, rq⟩ := ct.list rfl
                have no : ¬ O p.2 σ q := fun o => by
                  obtain ⟨vs2, e2, _, _⟩ := R1.ol o
                  rw [hn] at e2
                  cases e2
                exact ⟨q, rfl, fun z => R1.ex q z hn, no, .lst hq (Reps.noL ds' vs' hin2 rq)⟩
            · cases fr with
              | false => trivial
              | true =>
                obtain ⟨q, rfl, hn, _⟩ := rf.1 rfl
                exact ⟨q, rfl, x1.th q hn⟩
          · rw [if_neg hin] at h
            cases ez : frzAll p.2 p.1 with
            | none => rw [ez] at h; exact h.elim
            | some g2 =>
              rw [ez] at h
              obtain ⟨x2, R2⟩ := call_frz x1 R1 r1 f1 P ez
              refine h v Z' H' x2 R2 ?_ ?_
              · cases fr with
                | false => exact rf.2 rfl
                | true =>
                  obtain ⟨q, rfl, hn, nz, ct⟩ := rf.1 rfl
                  have no : ¬ O g2 σ q := fun ⟨j, ow⟩ => by
                    have ow' : Own p.2 σ j q := by
                      obtain ⟨⟨k, d, e1⟩, e2⟩ := ow
                      rcases (frzAll_at ez).2 j _ e1 with ⟨a, _⟩ | ⟨d', _, _, c, _⟩
                      · exact ⟨⟨k, d, a⟩, e2⟩
                      · cases c
                    obtain ⟨vs2, e2, _, _⟩ := R1.ol ⟨j, ow'⟩
                    rw [hn] at e2
                    cases e2
                  exact ⟨q, rfl, nz, no, ct⟩
              · cases fr with
                | false => trivial
                | true =>
                  obtain ⟨q, rfl, hn, _⟩ := rf.1 rfl
                  exact ⟨q, rfl, x1.th q hn⟩
theorem s_call {C : Calls} {f : Nat} {k : Nat} {fa' : Addr} {fd : FuncData} {ps : List Str} {x : Str} {p : Pos} (F : FnG X.prog X.w X.K X.mg X.base (L2.CX X.prog X.w) k fa' fd ps (spF X.K XC C f)) (hr : Room k X.A) (hgd : X.A.guards = some []) (hg : Gl X x) (hm : X.mg x = some (.ref fa'))
    (hk : PySem.W.keepIn X.K (.ref fa') = true) (hb : Binds X.K fd ps []) (tk : Takes X W) (ha : PA X (a :: es) (TRA X.K XC W fes)) (hdb : (x == ("__debug__" : Str)) = false)
    (he : starEach (a :: es) X.env = (false, eval a X.env) :: starEach es X.env) (hpl : (backTo pos (starEach es X.env)).any (·.1) = false) :
    PE X (.Call (.Name x p) (a :: es) [] pos) (TRE X.K XC W fun g => (fes g).bind fun p => callE C f p.1 p.2) :=
  ⟨fun pins s σ H Q I h => (pe_callG F hr hgd hg hm hk hb (fun σ => passAt tk σ) ha hdb he hpl).run pins s σ H Q I (call_run h)⟩
end
end PK
end

section
set_option Elab.async false
set_option linter.all false
set_option maxRecDepth 100000
set_option maxHeartbeats 4000000
/-! PkS4: names, isinstance, list(range(..)), slices, list * int, a call that changes a list. -/
namespace PK
open PySem PySem.Spec PyProof.Rows L2
open PySem (PyData)

def varF (i : Nat) (g : Env) : Res (EV × Env) := match g[i]? with
  | some (.va d) => .ok (.val d, g)
  | some (.mu _ _) => .ok (.loc i, g)
  | _ => .bad
def repF (fa fb : Env → Res (EV × Env)) (g : Env) : Res (EV × Env) := (fa g).bind fun p => (fb p.2).bind fun q => match p.1, q.1.get q.2 with
  | .nw (.list xs), some (.int k) => if k ≤ 1000 ∧ -1000 ≤ k ∧ xs.length * k.toNat ≤ line then .ok (.nw (.list (List.replicate k.toNat xs).flatten), q.2) else .bad
  | _, _ => .bad

section
variable {K : PySem.W.Frag} {XC : XR} {W : WX} {Z Z' Z0 Z1 Z2 : Addr → Prop} {g g' g0 g1 g2 : Env} {σ σ0 σ1 : St} {H H' H0 H1 H2 : Hp} {Q : VK}
theorem reps_rg {lo hi : Int} : Reps K Z H (rgV lo hi) (rangeL lo (hi - lo).toNat) := by
  unfold rgV rangeL
  generalize List.range (hi - lo).toNat = l
  induction l with
  | nil => exact .nil
  | cons a l ih => exact .cons (.int _) ih
/-- the thing of a slot is changed -/
theorem chg_io {i : Nat} {k : Mk} {d d' : PyData} {a : Addr} (R : Rel K Z g σ H) (hk : k = .ow ∨ k = .io) (e : g[i]? = some (.mu k d)) (es : σ[i]? = some (some (.ref a))) (P : Post Z H Z' H' fun b => b = a) (nz : ¬ Z' a) (c : Ct K Z' H' a d') :
    Ext g σ Z H (g.set i (.mu k d')) σ Z' H' ∧ Rel K Z' (g.set i (.mu k d')) σ H' ∧ ∀ b, O (g.set i (.mu k d')) σ b → O g σ b := by
  have hi : i < g.length := (List.getElem?_eq_some_iff.mp e).1
  have ow : Own g σ i a := ⟨⟨k, d, e⟩, es⟩
  have same : ∀ j b, Own (g.set i (.mu k d')) σ j b → Own g σ j b := fun j b ⟨⟨m, x, e1⟩, e2⟩ => by
    by_cases hj : i = j
    · subst hj
      exact ⟨⟨k, d, e⟩, e2⟩
    · rw [List.getElem?_set_ne hj] at e1
      exact ⟨⟨m, x, e1⟩, e2⟩
  have pr : ∀ b o, H b = some o → ¬ O g σ b → H' b = some o := fun b o h n => P.pres b o h fun z => n (z ▸ ⟨i, ow⟩)
  have kp : Keeps Z H Z' H' := by
    refine ⟨fun b xs h => pr b _ h fun o => ?_, fun b o u h => pr b _ h fun o' => ?_, fun b o z h => pr b _ h (R.oz z), P.up⟩
    · obtain ⟨vs, e2, n1, _⟩ := R.ol o
      rw [h] at e2; cases e2; exact n1 _ rfl
    · obtain ⟨vs, e2, _, n2⟩ := R.ol o'
      rw [h] at e2; cases e2; exact n2 _ _ rfl
  refine ⟨⟨pr, P.up, fun b z => (P.zn b z).elim .inl fun z => .inr (.inl z), fun b ⟨j, o⟩ => .inl ⟨j, same j b o⟩, P.th, fun j d2 ed => ?_, fun j d2 ed => ?_⟩,
    ⟨by rw [List.length_set]; exact R.len, fun j s es' => ?_, fun j j' b o o' => R.ds j j' b (same j b o) (same j' b o'), P.ex⟩, fun b ⟨j, o⟩ => ⟨j, same j b o⟩⟩
  · by_cases hj : i = j
    · subst hj
      rw [e] at ed
      cases ed
      rcases hk with h | h <;> cases h
    · exact ⟨by rw [List.getElem?_set_ne hj]; exact ed, rfl⟩
  · by_cases hj : i = j
    · subst hj
      rw [e] at ed
      cases ed
      exact ⟨⟨d', by rw [List.getElem?_set_self hi]⟩, rfl⟩
    · exact ⟨⟨d2, by rw [List.getElem?_set_ne hj]; exact ed⟩, rfl⟩
  · by_cases hj : i = j
    · subst hj
      rw [List.getElem?_set_self hi] at es'
      cases es'
      exact ⟨a, by rw [es]; rfl, nz, c⟩
    · rw [List.getElem?_set_ne hj] at es'
      refine (R.sl j s es').mv kp fun c' ec ⟨m, x, em⟩ => ?_
      subst em
      have ow' : Own g σ j c' := ⟨⟨m, x, es'⟩, join_some ec⟩
      have ne : c' ≠ a := fun z => hj (R.ds i j a ow (z ▸ ow'))
      obtain ⟨_, _, _, nz', ct'⟩ := R.own ow'
      obtain ⟨o2, hc, _, _⟩ := ct'.there
      exact ⟨fun z => (P.zn c' z).elim nz' (fun z => by rw [hc] at z; cases z), fun o h => P.pres c' o h ne⟩
end

section
variable {X : Cx} {XC : XR} {W : WX} {a b c e : Expr} {es : List Expr} {fa fb fc : Env → Res (EV × Env)} {fes : Env → Res (List EV × Env)} {ffs : Env → Res (List PyData × Env)} {pos : Pos}
theorem s_var {i : Nat} {x : Str} (hN : X.N[i]? = some x) (hv : Vis X.env.scope x) (hd : (x == ("__debug__" : Str)) = false) (hcd : (x == ("__classdict__" : Str)) = false) : PE X (.Name x pos) (TRE X.K XC W (varF i)) := by
  refine ⟨fun pins s σ H Q I h => (pe_var hN hv hd hcd).run pins s σ H Q I ?_⟩
  obtain ⟨Z, g, R, h⟩ := h
  unfold varF at h
  split at h
  · rename_i d hg
    obtain ⟨v, e1, r⟩ := R.va hg
    exact ⟨v, e1, h v Z H Ext.refl R r trivial⟩
  · rename_i k d hg
    obtain ⟨p, e1, _⟩ := R.mu hg
    exact ⟨.ref p, e1, h (.ref p) Z H Ext.refl R e1 trivial⟩
  · exact h.elim
theorem s_glb {o : Option PyData} {v : V} (h0 : PE X a (tC v)) (hv : ∀ d, o = some d → ∀ Z H, Rep X.K Z H v d) : PE X a (TRE X.K XC W fun g => (Res.of o).bind fun d => .ok (.val d, g)) := by
  refine ⟨fun pins s σ H Q I h => h0.run pins s σ H Q I ?_⟩
  obtain ⟨Z, g, R, h⟩ := h
  cases ho : o with
  | none => rw [ho] at h; exact h.elim
  | some d =>
    rw [ho] at h
    exact h v Z H Ext.refl R (hv d ho Z H) trivial
theorem isa_run {t : Ty} {σ : St} {H : Hp} {K : PySem.W.Frag} {Q : VK} (h : TRE K XC W (fun g => (fa g).bind fun p => (Res.of (p.1.get p.2)).bind fun d => .ok (.val (.bool (t.has d)), p.2)) σ H Q) :
    tCB (fun xs H Q => ∃ Z v d, xs = [v, .ty (tyName t)] ∧ Rd1 K Z H v d ∧ Q (.bl (t.has d)) H) (tCons (TRE K XC W fa) (tCons (tC (.ty (tyName t))) tNil)) σ H Q := by
  obtain ⟨Z, g, R, h⟩ := h
  try dsimp only at h
  refine ⟨Z, g, R, ?_⟩
  cases ea : fa g with
  | bad => rw [ea] at h; exact h
  | exc c d g' => rw [ea] at h; exact h
  | ok p =>
    rw [ea] at h
    simp only [Res.bind_ok] at h
    intro v Z1 H1 x1 R1 r1 f1
    obtain ⟨d, e, h⟩ := of_some (P := AftE K XC W g σ Z H Q) (fun z => z) h
    exact ⟨Z1, v, d, rfl, r1.rd R1 e, (h.later x1).val R1 (.bl _)⟩
theorem s_isa (t : Ty) {p p2 : Pos} {x y : Str} (hx : x = Str.ofString "isinstance") (hy : y = Str.ofString (tyName t)) (hg : Gl X x) (hm : X.mg x = none) (hg2 : Gl X y) (hm2 : X.mg y = none) (ha : PE X a (TRE X.K XC W fa))
    (he : starEach [a, .Name y p2] X.env = (false, eval a X.env) :: starEach [.Name y p2] X.env) :
    PE X (.Call (.Name x p) [a, .Name y p2] [] pos) (TRE X.K XC W fun g => (fa g).bind fun p => (Res.of (p.1.get p.2)).bind fun d => .ok (.val (.bool (t.has d)), p.2)) := by
  refine ⟨fun pins s σ H Q I h => ?_⟩
  have hn : x ≠ "__name__" := by subst hx; decide +kernel
  have hdb : (x == ("__debug__" : Str)) = false := by subst hx; decide +kernel
  have hn2 : y ≠ "__name__" := by subst hy; cases t <;> decide +kernel
  have hdb2 : (y == ("__debug__" : Str)) = false := by subst hy; cases t <;> decide +kernel
  have hv : bootBuiltins x = some (.builtin "isinstance") := by subst hx; decide +kernel
  have hv2 : bootBuiltins y = some (.type (tyName t)) := by subst hy; exact boot_ty t
  have pt : PE X (.Name y p2) (tC (.ty (tyName t))) := pe_bltn hg2 hm2 hv2 rfl hn2 hdb2
  exact (pe_callB (isa_any t) hg hm hv (pa_cons ha (pa_cons pt pa_nil rfl) he) hn hdb he rfl).run pins s σ H Q I (isa_run h)

/-! ### list(range(..)) -/
theorem s_lrg1 {p p2 pos2 : Pos} {x y : Str} (hx : x = Str.ofString "list") (hy : y = Str.ofString "range") (hc : X.calm = true) (hg : Gl X x) (hm : X.mg x = none) (hg2 : Gl X y) (hm2 : X.mg y = none) (ha : PE X a (TRE X.K XC W fa))
    (na : starEach [a] X.env = (false, eval a X.env) :: starEach [] X.env) :
    PE X (.Call (.Name x p) [.Call (.Name y p2) [a] [] pos2] [] pos)
      (TRE X.K XC W fun g => ((fa g).bind fun p => ((Res.ok ([], p.2) : Res (List EV × Env))).bind fun q => .ok (p.1 :: q.1, q.2)).bind fun p => (Res.of ((gets p.2 p.1).bind rng)).bind fun r => if r.2 ≤ line then .ok (.nw (.list (rangeL r.1 r.2)), p.2) else .bad) := by
  subst hx hy
  refine ⟨fun pins s σ H Q I h => (pe_listRg hc hg hm (prg_1 hg2 hm2 ha na) rfl).run pins s σ H Q I ?_⟩
  obtain ⟨Z, g, R, h⟩ := h
  try dsimp only at h
  refine ⟨Z, g, R, ?_⟩
  cases ea : fa g with
  | bad => rw [ea] at h; exact h
  | exc c d g' => rw [ea] at h; exact h
  | ok p =>
    rw [ea] at h
    simp only [Res.bind_ok] at h
    intro v Z1 H1 x1 R1 r1 f1
    obtain ⟨r, e, h⟩ := of_some (P := AftE X.K XC W g σ Z H Q) (fun z => z) h
    cases eg : p.1.get p.2 with
    | none => simp [gets, eg] at e
    | some d =>
      simp only [gets, eg, Option.bind_some, Option.map_some] at e
      unfold rng at e
      split at e
      · rename_i j hd
        cases hd
        split at e
        · rename_i hj
          replace hj := isSmall_of hj
          cases e
          dsimp only at h
          split at h
          · rename_i hl
            refine ⟨j, (r1.rd R1 eg).int, ⟨by omega, by omega, hj.1, hj.2, by simpa [line] using hl⟩, fun q hq => ?_⟩
            have rr : Reps X.K Z1 H1 (rgV 0 j) (rangeL 0 j.toNat) := by simpa using reps_rg (K := X.K) (Z := Z1) (H := H1) (lo := 0) (hi := j)
            exact (AftE.later h x1).done (r := (true, .list _)) R1 |>.lst rr q hq
          · exact h.elim
        · cases e
      · rename_i hd
        cases hd
      · cases e
theorem s_lrg2 {p p2 pos2 : Pos} {x y : Str} (hx : x = Str.ofString "list") (hy : y = Str.ofString "range") (hc : X.calm = true) (hg : Gl X x) (hm : X.mg x = none) (hg2 : Gl X y) (hm2 : X.mg y = none) (ha : PE X a (TRE X.K XC W fa)) (hb : PE X b (TRE X.K XC W fb))
    (na : starEach [a, b] X.env = (false, eval a X.env) :: starEach [b] X.env) (nb : starEach [b] X.env = (false, eval b X.env) :: starEach [] X.env) (hp : (backTo pos2 (starEach [b] X.env)).any (·.1) = false) :
    PE X (.Call (.Name x p) [.Call (.Name y p2) [a, b] [] pos2] [] pos)
      (TRE X.K XC W fun g => ((fa g).bind fun p => ((fb p.2).bind fun p => ((Res.ok ([], p.2) : Res (List EV × Env))).bind fun q => .ok (p.1 :: q.1, q.2)).bind fun q => .ok (p.1 :: q.1, q.2)).bind fun p => (Res.of ((gets p.2 p.1).bind rng)).bind fun r => if r.2 ≤ line then .ok (.nw (.list (rangeL r.1 r.2)), p.2) else .bad) := by
  subst hx hy
  refine ⟨fun pins s σ H Q I h => (pe_listRg hc hg hm (prg_2 hg2 hm2 ha hb na nb hp) rfl).run pins s σ H Q I ?_⟩
  obtain ⟨Z, g, R, h⟩ := h
  try dsimp only at h
  refine ⟨Z, g, R, ?_⟩
  cases ea : fa g with
  | bad => rw [ea] at h; exact h
  | exc c d g' => rw [ea] at h; exact h
  | ok p =>
    rw [ea] at h
    simp only [Res.bind_ok] at h
    intro v Z1 H1 x1 R1 r1 f1
    refine ⟨Z1, p.2, R1, ?_⟩
    cases eb : fb p.2 with
    | bad => rw [eb] at h; exact h
    | exc c d g' => rw [eb] at h; exact fun cls oa Z' H' x R e => h cls oa Z' H' (x1.trans x) R e
    | ok q =>
    rw [eb] at h
    simp only [Res.bind_ok] at h
    intro u Z2 H2 x2 R2 r2 f2
    obtain ⟨r, e, h⟩ := of_some (P := AftE X.K XC W g σ Z H Q) (fun z => z) h
    have r1' := r1.mv R1 x2
    cases eg : p.1.get q.2 with
    | none => simp [gets, eg] at e
    | some d =>
      cases eg2 : q.1.get q.2 with
      | none => simp [gets, eg, eg2] at e
      | some d2 =>
      simp only [gets, eg, eg2, Option.bind_some, Option.map_some] at e
      unfold rng at e
      split at e
      · rename_i j hd
        cases hd
      · rename_i i j hd
        cases hd
        split at e
        · rename_i hj
          rw [Bool.and_eq_true] at hj
          replace hj := And.intro (isSmall_of hj.1) (isSmall_of hj.2)
          cases e
          dsimp only at h
          split at h
          · rename_i hl
            refine ⟨i, j, (r1'.rd R2 eg).int, (r2.rd R2 eg2).int, ⟨hj.1.1, hj.1.2, hj.2.1, hj.2.2, by simpa [line] using hl⟩, fun q hq => ?_⟩
            exact (AftE.later h (x1.trans x2)).done (r := (true, .list _)) R2 |>.lst reps_rg q hq
          · exact h.elim
        · cases e
      · cases e

/-! ### slices -/
def AftO (K : PySem.W.Frag) (XC : XR) (W : WX) (g : Env) (σ : St) (Z : Addr → Prop) (H : Hp) (Q : Option Int → Hp → Prop) : Res (Option PyData × Env) → Prop
  | .ok p => ∃ o, optI p.1 = some o ∧ ∀ Z' H', Ext g σ Z H p.2 σ Z' H' → Rel K Z' p.2 σ H' → Q o H'
  | .exc c d g' => ∀ cls oa Z' H', Ext g σ Z H g' σ Z' H' → Rel K Z' g' σ H' → XC c d cls oa H' → W cls oa σ H'
  | .bad => False
def TRO (K : PySem.W.Frag) (XC : XR) (W : WX) (f : Env → Res (Option PyData × Env)) : TO := fun σ H Q => ∃ Z g, Rel K Z g σ H ∧ AftO K XC W g σ Z H Q (f g)
theorem o_none : PO X none (TRO X.K XC W fun g => .ok (none, g)) := ⟨fun pins s σ H Q I h => by
  obtain ⟨Z, g, R, o, e, h⟩ := h
  cases e
  exact po_none.run pins s σ H Q I (h Z H Ext.refl R)⟩
theorem o_some (ha : PE X a (TRE X.K XC W fa)) : PO X (some a) (TRO X.K XC W fun g => (fa g).bind fun p => (Res.of ((p.1.get p.2).bind anInt)).bind fun d => .ok (some d, p.2)) := by
  refine ⟨fun pins s σ H Q I h => (po_some ha).run pins s σ H Q I ?_⟩
  obtain ⟨Z, g, R, h⟩ := h
  try dsimp only at h
  refine ⟨Z, g, R, ?_⟩
  cases ea : fa g with
  | bad => rw [ea] at h; exact h
  | exc c d g' => rw [ea] at h; exact h
  | ok p =>
    rw [ea] at h
    simp only [Res.bind_ok] at h
    intro v Z1 H1 x1 R1 r1 f1
    obtain ⟨d, e, h⟩ := of_some (P := AftO X.K XC W g σ Z H Q) (fun z => z) h
    obtain ⟨o, e2, h⟩ := h
    cases eg : p.1.get p.2 with
    | none => rw [eg] at e; cases e
    | some d' =>
      rw [eg] at e
      cases d' <;> first | (cases e; done) | skip
      rename_i i
      cases e
      cases e2
      exact ⟨i, (r1.rd R1 eg).int, h Z1 H1 x1 R1⟩
theorem slc_part {a : PyData} {lo hi : Option PyData} {r : Bool × PyData} (h : slc a lo hi = some r) : ∃ l u, optI lo = some l ∧ optI hi = some u ∧ slc a (l.map .int) (u.map .int) = some r := by
  unfold slc at h
  split at h
  · rename_i l u e1 e2
    refine ⟨l, u, e1, e2, ?_⟩
    have f1 : optI (l.map PyData.int) = some l := by cases l <;> rfl
    have f2 : optI (u.map PyData.int) = some u := by cases u <;> rfl
    unfold slc
    rw [f1, f2]
    exact h
  · cases h
theorem s_slc {lo hi : Option Expr} {fl fh : Env → Res (Option PyData × Env)} {p2 : Pos} (ha : PE X a (TRE X.K XC W fa)) (hi0 : ∀ g p, fl g = .ok p → ∃ l, optI p.1 = some l) (hl : PO X lo (TRO X.K XC W fl)) (hh : PO X hi (TRO X.K XC W fh)) : PE X (.Subscript a (.Slice lo hi none p2) pos)
    (TRE X.K XC W fun g => (fa g).bind fun p => (fl p.2).bind fun q => (fh q.2).bind fun r => (Res.of ((p.1.get r.2).bind fun x => slc x q.1 r.1)).bind fun s => .ok (mk s, r.2)) := by
  refine ⟨fun pins s σ H Q I h => (pe_slice slc_any ha hl hh).run pins s σ H Q I ?_⟩
  obtain ⟨Z, g, R, h⟩ := h
  try dsimp only at h
  refine ⟨Z, g, R, ?_⟩
  cases ea : fa g with
  | bad => rw [ea] at h; exact h
  | exc c d g' => rw [ea] at h; exact h
  | ok p =>
    rw [ea] at h
    simp only [Res.bind_ok] at h
    intro v Z1 H1 x1 R1 r1 f1
    refine ⟨Z1, p.2, R1, ?_⟩
    replace h := AftE.later h x1
    cases el : fl p.2 with
    | bad => rw [el] at h; exact h
    | exc c d g' => rw [el] at h; exact h
    | ok q =>
      rw [el] at h
      simp only [Res.bind_ok] at h
      -- look ahead: the parts are ints
      cases eh : fh q.2 with
      | bad => rw [eh] at h; exact h.elim
      | exc c d g' =>
        rw [eh] at h
        have h0 : AftE X.K XC W p.2 σ Z1 H1 Q (.exc c d g') := h
        obtain ⟨l, eo⟩ := hi0 _ _ el
        refine ⟨l, eo, fun Z2 H2 x2 R2 => ⟨Z2, q.2, R2, ?_⟩⟩
        rw [eh]
        exact AftE.later h0 x2
      | ok r =>
        rw [eh] at h
        simp only [Res.bind_ok] at h
        obtain ⟨s, e, h⟩ := of_some (P := AftE X.K XC W p.2 σ Z1 H1 Q) (fun z => z) h
        cases ex : p.1.get r.2 with
        | none => rw [ex] at e; cases e
        | some d =>
          rw [ex] at e
          obtain ⟨l, u, e1, e2, e3⟩ := slc_part (show slc d q.1 r.1 = some s from e)
          refine ⟨l, e1, fun Z2 H2 x2 R2 => ⟨Z2, q.2, R2, ?_⟩⟩
          rw [eh]
          refine ⟨u, e2, fun Z3 H3 x3 R3 => ?_⟩
          have r1' := (r1.mv R1 x2).mv R2 x3
          exact ⟨Z3, d, s, r1'.rd R3 ex, e3, (AftE.later h (x2.trans x3)).done R3⟩

/-! ### list * int -/
theorem rep_run {σ : St} {H : Hp} {K : PySem.W.Frag} {Q : VK} (h : TRE K XC W (repF fa fb) σ H Q) : tOp rRep (TRE K XC W fa) (TRE K XC W fb) σ H Q := by
  refine tre2 (fo := fun x y g => match x, y.get g with
    | .nw (.list xs), some (.int k) => if k ≤ 1000 ∧ -1000 ≤ k ∧ xs.length * k.toNat ≤ line then .ok (.nw (.list (List.replicate k.toNat xs).flatten), g) else .bad
    | _, _ => .bad) ?_ h
  intro Z g H v u x y R r1 r2 h
  split at h
  · rename_i xs k ey
    split at h
    · rename_i hk
      obtain ⟨a, rfl, nz, no, ct⟩ := r1
      obtain ⟨vs, ha, q⟩ := ct.list rfl
      have eu := (r2.rd R ey).int
      subst eu
      refine ⟨a, k, vs, rfl, rfl, ha, by omega, by omega, ?_, fun p hp => ?_⟩
      · have := q.len
        have l2 : line = sizeLine := line_eq
        rw [this, ← l2]
        exact hk.2.2
      · exact h.done (r := (true, .list _)) R |>.lst (q.rep k.toNat) p hp
    · exact h.elim
  · exact h.elim
theorem s_rep (ha : PE X a (TRE X.K XC W fa)) (hb : PE X b (TRE X.K XC W fb)) : PE X (.BinOp a .Mult b pos) (TRE X.K XC W (repF fa fb)) :=
  ⟨fun pins s σ H Q I h => (pe_op op_rep ha hb).run pins s σ H Q I (rep_run h)⟩

/-! ### a call that changes a list of the caller -/
def cioF (C : Calls) (f i : Nat) (ffs : Env → Res (List PyData × Env)) (g : Env) : Res (EV × Env) := match g[i]? with
  | some (.mu _ _) => (ffs g).bind fun p => callIO C f i p.1 p.2
  | _ => .bad
theorem io_run {C : Calls} {f i : Nat} {σ : St} {H : Hp} {K : PySem.W.Frag} {Q : VK} (h : TRE K XC W (cioF C f i ffs) σ H Q) :
    tCallS (spF K XC C f) (WE W) (tCons (tVar i) (TRFs K XC W ffs)) σ H Q := by
  obtain ⟨Z, g, R, h⟩ := h
  unfold cioF at h
  split at h
  · rename_i k0 d0 hg0
    obtain ⟨a, es0, _⟩ := R.mu hg0
    refine ⟨.ref a, es0, Z, g, R, ?_⟩
    cases ea : ffs g with
    | bad => rw [ea] at h; exact h
    | exc c d g' => rw [ea] at h; exact h
    | ok p =>
      rw [ea] at h
      simp only [Res.bind_ok] at h
      intro ws Z1 H1 x1 R1 rs
      unfold callIO at h
      cases hio : C.io f with
      | false => rw [hio, if_neg Bool.false_ne_true] at h; exact h.elim
      | true =>
        rw [hio, if_pos rfl] at h
        have go : ∀ (k : Mk) (d : PyData), (k = .ow ∨ k = .io) → p.2[i]? = some (.mu k d) → AftE K XC W g σ Z H Q (match C.call f (d :: p.1) with
            | .ok fr r (some d') => .ok (mk (fr, r), p.2.set i (.mu k d'))
            | _ => .bad) → spF K XC C f (.ref a :: ws) H1 Q (WE W σ) := by
          intro k d hk hgi h
          obtain ⟨a', es', nz, ct, ow⟩ := R1.mu hgi
          rw [es0] at es'
          cases es'
          refine .inl ⟨hio, Z1, a, ws, d, p.1, ?_⟩
          cases ec : C.call f (d :: p.1) with
          | bad => rw [ec] at h; exact h.elim
          | exc c d => rw [ec] at h; exact h.elim
          | ok fr r o =>
            cases o with
            | none => rw [ec] at h; exact h.elim
            | some d' =>
              rw [ec] at h
              refine ⟨fr, r, d', rfl, R1.zok, nz, ct, rs, rfl, fun v Z' H' P nz' ct' rf => ?_⟩
              obtain ⟨x2, R2, sub⟩ := chg_io (d' := d') R1 hk hgi es0 P nz' ct'
              refine h v Z' H' (x1.trans x2) R2 ?_ ?_
              · cases fr with
                | false => exact rf.2 rfl
                | true =>
                  obtain ⟨q, rfl, hn, nzq, cq⟩ := rf.1 rfl
                  have no : ¬ O (p.2.set i (.mu k d')) σ q := fun o => by
                    obtain ⟨vs2, e2, _, _⟩ := R1.ol (sub q o)
                    rw [hn] at e2
                    cases e2
                  exact ⟨q, rfl, nzq, no, cq⟩
              · cases fr with
                | false => trivial
                | true =>
                  obtain ⟨q, rfl, hn, _⟩ := rf.1 rfl
                  exact ⟨q, rfl, x1.th q hn⟩
        split at h
        · rename_i d hgi; exact go .ow d (.inl rfl) hgi h
        · rename_i d hgi; exact go .io d (.inr rfl) hgi h
        · exact h.elim
  · exact h.elim
theorem s_cio {C : Calls} {f i : Nat} {k : Nat} {fa' : Addr} {fd : FuncData} {ps : List Str} {x y : Str} {p p2 : Pos} (F : FnG X.prog X.w X.K X.mg X.base (L2.CX X.prog X.w) k fa' fd ps (spF X.K XC C f)) (hr : Room k X.A) (hgd : X.A.guards = some []) (hg : Gl X x) (hm : X.mg x = some (.ref fa'))
    (hk : PySem.W.keepIn X.K (.ref fa') = true) (hb : Binds X.K fd ps []) (tk : Takes X W) (hN : X.N[i]? = some y) (hv : Vis X.env.scope y) (hd : (y == ("__debug__" : Str)) = false) (hcd : (y == ("__classdict__" : Str)) = false)
    (ha : PA X es (TRFs X.K XC W ffs)) (hdb : (x == ("__debug__" : Str)) = false)
    (he : starEach (.Name y p2 :: es) X.env = (false, eval (.Name y p2) X.env) :: starEach es X.env) (hpl : (backTo pos (starEach es X.env)).any (·.1) = false) :
    PE X (.Call (.Name x p) (.Name y p2 :: es) [] pos) (TRE X.K XC W (cioF C f i ffs)) :=
  ⟨fun pins s σ H Q I h => (pe_callG F hr hgd hg hm hk hb (fun σ => passAt tk σ) (pa_cons (pe_var hN hv hd hcd) ha he) hdb he hpl).run pins s σ H Q I (io_run h)⟩
end
end PK
end

section
set_option Elab.async false
set_option linter.all false
set_option maxRecDepth 100000
set_option maxHeartbeats 4000000
/-! PkW: what a loop walks; slots stored, forgotten, locked. -/
namespace PK
open PySem PySem.Spec PyProof.Rows L2
open PySem (PyData)

section
variable {g g' : Env} {σ : St} {vs : List Nat} {i : Nat}
theorem wipe_len : ∀ vs : List Nat, (wipe g vs).length = g.length
  | [] => rfl
  | v :: vs => by unfold wipe; rw [List.length_set, wipe_len vs]
theorem wipe_at : ∀ (vs : List Nat) (i : Nat), (wipe g vs)[i]? = if i ∈ vs then (g[i]?).map (fun _ => Slot.un) else g[i]?
  | [], i => by simp [wipe]
  | v :: vs, i => by
    unfold wipe
    rw [List.getElem?_set, wipe_len, wipe_at vs i]
    by_cases h : v = i
    · subst h
      by_cases hl : v < g.length
      · simp [hl]
      · have : g[v]? = none := by simp; omega
        simp [hl]
    · have h' : ¬ i = v := fun z => h z.symm
      simp [h, h']
theorem wipeσ_at : ∀ (vs : List Nat) (i : Nat), (L2.wipe σ vs)[i]? = if i ∈ vs then (σ[i]?).map (fun _ => none) else σ[i]?
  | [], i => by simp [L2.wipe]
  | v :: vs, i => by
    unfold L2.wipe
    rw [List.getElem?_set, L2.wipe_length, wipeσ_at vs i]
    by_cases h : v = i
    · subst h
      by_cases hl : v < σ.length
      · simp [hl]
      · have : σ[v]? = none := by simp; omega
        simp [hl]
    · have h' : ¬ i = v := fun z => h z.symm
      simp [h, h']
theorem back_len {g0 : Env} : ∀ vs : List Nat, (back g0 g vs).length = g.length
  | [] => rfl
  | v :: vs => by
    unfold back
    split
    · rw [List.length_set, back_len vs]
    · exact back_len vs
theorem back_at {g0 : Env} (hl : g0.length = g.length) : ∀ (vs : List Nat) (i : Nat), (back g0 g vs)[i]? = if i ∈ vs then g0[i]? else g[i]?
  | [], i => by simp [back]
  | v :: vs, i => by
    unfold back
    split
    · rename_i s hs
      rw [List.getElem?_set, back_len, back_at hl vs i]
      by_cases h : v = i
      · subst h
        have : v < g.length := by rw [← hl]; exact (List.getElem?_eq_some_iff.mp hs).1
        simp [this, hs]
      · have h' : ¬ i = v := fun z => h z.symm
        simp [h, h']
    · rename_i hs
      rw [back_at hl vs i]
      by_cases h : i = v
      · subst h
        have : g[i]? = none := by
          have := List.getElem?_eq_none_iff.mp hs
          rw [List.getElem?_eq_none_iff]; omega
        simp [hs, this]
      · simp [h]
theorem wipe_set {x : Option V} : ∀ (vs : List Nat), i ∈ vs → L2.wipe (σ.set i x) vs = L2.wipe σ vs := fun vs h => by
  apply List.ext_getElem?
  intro j
  rw [wipeσ_at, wipeσ_at, List.getElem?_set]
  by_cases hj : i = j
  · subst hj
    by_cases hl : i < σ.length
    · simp [h, hl]
    · have : σ[i]? = none := by simp; omega
      simp [h, hl]
  · simp [hj]
theorem wipe_wipe : L2.wipe (L2.wipe σ vs) vs = L2.wipe σ vs := by
  apply List.ext_getElem?
  intro j
  rw [wipeσ_at, wipeσ_at]
  by_cases hj : j ∈ vs
  · simp only [hj, if_true]
    cases σ[j]? <;> rfl
  · simp [hj]
end

section
variable {K : PySem.W.Frag} {XC : XR} {W : WX} {Z Z' Z0 Z1 Z2 : Addr → Prop} {g g' g0 g1 g2 : Env} {σ σ' σ0 σ1 σ2 : St} {H H' H0 H1 H2 : Hp} {Q : VK}
/-! ### slots forgotten -/
theorem own_wipe {vs : List Nat} {i : Nat} {a : Addr} : Own (wipe g vs) (L2.wipe σ vs) i a ↔ i ∉ vs ∧ Own g σ i a := by
  unfold Own
  rw [wipe_at, wipeσ_at]
  by_cases h : i ∈ vs
  · simp [h]
  · simp [h]
theorem O_wipe {vs : List Nat} {a : Addr} (h : O (wipe g vs) (L2.wipe σ vs) a) : O g σ a := let ⟨i, o⟩ := h; ⟨i, (own_wipe.mp o).2⟩
theorem Rel.wipe (R : Rel K Z g σ H) (vs : List Nat) : Rel K Z (wipe g vs) (L2.wipe σ vs) H where
  len := by rw [L2.wipe_length, wipe_len]; exact R.len
  sl := fun i s e => by
    rw [wipe_at] at e
    rw [wipeσ_at]
    by_cases h : i ∈ vs
    · simp only [h, if_true] at e
      cases hg : g[i]? with
      | none => rw [hg] at e; cases e
      | some s' => rw [hg] at e; cases e; trivial
    · simp only [h, if_false] at e ⊢
      exact R.sl i s e
  ds := fun i j a o o' => R.ds i j a (own_wipe.mp o).2 (own_wipe.mp o').2
  ex := R.ex
theorem Ext.wipeR {vs : List Nat} (X : Ext (PK.wipe g vs) σ0 Z H g' σ' Z' H') : Ext (PK.wipe g vs) σ0 Z H (PK.wipe g' vs) (L2.wipe σ' vs) Z' H' where
  pres := X.pres
  up := X.up
  zn := X.zn
  on := fun a o => X.on a (O_wipe o)
  th := X.th
  lk := fun i d e => by
    obtain ⟨h1, h2⟩ := X.lk i d e
    have hi : i ∉ vs := fun z => by
      rw [wipe_at] at e
      simp only [z, if_true] at e
      cases hg : g[i]? <;> rw [hg] at e <;> cases e
    rw [wipe_at, wipeσ_at]
    simp only [hi, if_false]
    exact ⟨h1, h2⟩
  io := fun i d e => by
    obtain ⟨⟨d', h1⟩, h2⟩ := X.io i d e
    have hi : i ∉ vs := fun z => by
      rw [wipe_at] at e
      simp only [z, if_true] at e
      cases hg : g[i]? <;> rw [hg] at e <;> cases e
    rw [wipe_at, wipeσ_at]
    simp only [hi, if_false]
    exact ⟨⟨d', h1⟩, h2⟩
/-- behind a block the own names stand as they stood -/
theorem back_ok {vs : List Nat} (R : Rel K Z g σ H) (X : Ext (PK.wipe g vs) (L2.wipe σ vs) Z H (PK.wipe g2 vs) (L2.wipe σ vs) Z' H') (R2 : Rel K Z' (PK.wipe g2 vs) (L2.wipe σ vs) H') :
    Ext g σ Z H (back g g2 vs) σ Z' H' ∧ Rel K Z' (back g g2 vs) σ H' ∧ ∀ a, O (back g g2 vs) σ a → O (PK.wipe g2 vs) (L2.wipe σ vs) a ∨ O g σ a := by
  have hl : g.length = g2.length := by
    have := R2.len
    rw [L2.wipe_length, wipe_len, R.len] at this
    exact this
  have cs : ∀ i a, Own (back g g2 vs) σ i a → (i ∉ vs ∧ Own (PK.wipe g2 vs) (L2.wipe σ vs) i a) ∨ (i ∈ vs ∧ Own g σ i a) := fun i a ⟨⟨k, d, e⟩, e2⟩ => by
    rw [back_at hl] at e
    by_cases h : i ∈ vs
    · simp only [h, if_true] at e
      exact .inr ⟨h, ⟨k, d, e⟩, e2⟩
    · simp only [h, if_false] at e
      exact .inl ⟨h, own_wipe.mpr ⟨h, ⟨k, d, e⟩, e2⟩⟩
  have apart : ∀ i a, i ∈ vs → Own g σ i a → ¬ O (PK.wipe g vs) (L2.wipe σ vs) a := fun i a hi o ⟨j, o'⟩ => by
    obtain ⟨hj, oj⟩ := own_wipe.mp o'
    exact hj (R.ds i j a o oj ▸ hi)
  have there : ∀ i a, Own g σ i a → H a ≠ none := fun i a o => by
    obtain ⟨vs', e, _, _⟩ := R.ol ⟨i, o⟩
    rw [e]; exact fun z => nomatch z
  have kp := (R.wipe vs).keeps X
  refine ⟨⟨fun a o e n => X.pres a o e fun q => n (O_wipe q), X.up, fun a z => (X.zn a z).imp id fun q => q.imp id O_wipe, fun a ⟨i, o⟩ => ?_, X.th, fun i d e => ?_, fun i d e => ?_⟩,
    ⟨by rw [back_len, ← hl]; exact R.len, fun i s e => ?_, fun i j a o o' => ?_, R2.ex⟩, fun a ⟨i, o⟩ => (cs i a o).imp (fun q => ⟨i, q.2⟩) fun q => ⟨i, q.2⟩⟩
  · rcases cs i a o with ⟨h, q⟩ | ⟨h, q⟩
    · exact (X.on a ⟨i, q⟩).imp O_wipe id
    · exact .inl ⟨i, q⟩
  · rw [back_at hl]
    by_cases h : i ∈ vs
    · simp only [h, if_true]; exact ⟨e, trivial⟩
    · have e' : (PK.wipe g vs)[i]? = some (.mu .lk d) := by rw [wipe_at]; simp only [h, if_false]; exact e
      obtain ⟨h1, _⟩ := X.lk i d e'
      rw [wipe_at] at h1
      simp only [h, if_false] at h1 ⊢
      exact ⟨h1, trivial⟩
  · rw [back_at hl]
    by_cases h : i ∈ vs
    · simp only [h, if_true]; exact ⟨⟨d, e⟩, trivial⟩
    · have e' : (PK.wipe g vs)[i]? = some (.mu .io d) := by rw [wipe_at]; simp only [h, if_false]; exact e
      obtain ⟨⟨d', h1⟩, _⟩ := X.io i d e'
      rw [wipe_at] at h1
      simp only [h, if_false] at h1 ⊢
      exact ⟨⟨d', h1⟩, trivial⟩
  · rw [back_at hl] at e
    by_cases h : i ∈ vs
    · simp only [h, if_true] at e
      refine (R.sl i s e).mv kp fun a ea ⟨m, d, em⟩ => ?_
      subst em
      have ow : Own g σ i a := ⟨⟨m, d, e⟩, join_some ea⟩
      obtain ⟨_, _, _, nz, _⟩ := R.own ow
      refine ⟨fun z => ?_, fun o q => X.pres a o q (apart i a h ow)⟩
      rcases X.zn a z with q | q | q
      · exact nz q
      · exact there i a ow q
      · exact apart i a h ow q
    · simp only [h, if_false] at e
      have e' : (PK.wipe g2 vs)[i]? = some s := by rw [wipe_at]; simp only [h, if_false]; exact e
      have q := R2.sl i s e'
      rw [wipeσ_at] at q
      simp only [h, if_false] at q
      exact q
  · rcases cs i a o with ⟨h, q⟩ | ⟨h, q⟩
    · rcases cs j a o' with ⟨h', q'⟩ | ⟨h', q'⟩
      · exact R2.ds i j a q q'
      · rcases X.on a ⟨i, q⟩ with z | z
        · exact (apart j a h' q' z).elim
        · exact (there j a q' z).elim
    · rcases cs j a o' with ⟨h', q'⟩ | ⟨h', q'⟩
      · rcases X.on a ⟨j, q'⟩ with z | z
        · exact (apart i a h q z).elim
        · exact (there i a q z).elim
      · exact R.ds i j a q q'

/-! ### slots locked -/
inductive Locked : Env → Env → List (Nat × Mk) → Prop
  | nil {g : Env} : Locked g g []
  | cons {g g1 : Env} {l : List (Nat × Mk)} {i : Nat} {k : Mk} {d : PyData} : Locked g g1 l → g1[i]? = some (.mu k d) → Locked g (g1.set i (.mu .lk d)) ((i, k) :: l)
theorem own_kind {i j : Nat} {k m : Mk} {d : PyData} {a : Addr} (e : g[i]? = some (.mu k d)) : Own (g.set i (.mu m d)) σ j a ↔ Own g σ j a := by
  have hi : i < g.length := (List.getElem?_eq_some_iff.mp e).1
  unfold Own
  by_cases h : i = j
  · subst h
    rw [List.getElem?_set_self hi, e]
    exact ⟨fun ⟨_, q⟩ => ⟨⟨_, _, rfl⟩, q⟩, fun ⟨_, q⟩ => ⟨⟨_, _, rfl⟩, q⟩⟩
  · rw [List.getElem?_set_ne h]
theorem O_kind {i : Nat} {k m : Mk} {d : PyData} {a : Addr} (e : g[i]? = some (.mu k d)) : O (g.set i (.mu m d)) σ a ↔ O g σ a := ⟨fun ⟨j, o⟩ => ⟨j, (own_kind e).mp o⟩, fun ⟨j, o⟩ => ⟨j, (own_kind e).mpr o⟩⟩
theorem Rel.kind {i : Nat} {k m : Mk} {d : PyData} (R : Rel K Z g σ H) (e : g[i]? = some (.mu k d)) : Rel K Z (g.set i (.mu m d)) σ H where
  len := by rw [List.length_set]; exact R.len
  sl := fun j s es => by
    by_cases h : i = j
    · subst h
      rw [List.getElem?_set_self (List.getElem?_eq_some_iff.mp e).1] at es
      cases es
      exact R.sl i (.mu k d) e
    · rw [List.getElem?_set_ne h] at es
      exact R.sl j s es
  ds := fun i j a o o' => R.ds i j a ((own_kind e).mp o) ((own_kind e).mp o')
  ex := R.ex
theorem EVR.kind {i : Nat} {k m : Mk} {d : PyData} {v : V} {x : EV} (r : EVR K Z g σ H v x) (e : g[i]? = some (.mu k d)) : EVR K Z (g.set i (.mu m d)) σ H v x := by
  cases x with
  | val d' => exact r
  | nw d' => obtain ⟨a, e1, nz, no, c⟩ := r; exact ⟨a, e1, nz, fun o => no ((O_kind e).mp o), c⟩
  | loc j => exact r
theorem lock_ext {l : List (Nat × Mk)} (L : Locked g g1 l) : ∀ {g2 : Env}, Ext g1 σ Z H g2 σ' Z' H' → Rel K Z' g2 σ' H' → Ext g σ Z H (unlock g2 l) σ' Z' H' ∧ Rel K Z' (unlock g2 l) σ' H' ∧ ∀ a, O (unlock g2 l) σ' a → O g2 σ' a := by
  induction L with
  | nil => exact fun X R => ⟨X, R, fun _ o => o⟩
  | @cons ga l i k d L e ih =>
    intro g2 X R
    have hi : i < ga.length := (List.getElem?_eq_some_iff.mp e).1
    obtain ⟨h1, h2⟩ := X.lk i d (List.getElem?_set_self hi)
    have hi2 : i < g2.length := (List.getElem?_eq_some_iff.mp h1).1
    have X' : Ext ga σ Z H (g2.set i (.mu k d)) σ' Z' H' := by
      refine ⟨fun a o q n => X.pres a o q fun z => n ((O_kind e).mp z), X.up, fun a z => (X.zn a z).imp id fun q => q.imp id (O_kind e).mp, fun a o => ((X.on a ((O_kind h1).mp o)).imp (O_kind e).mp id), X.th, fun j x ej => ?_, fun j x ej => ?_⟩
      · by_cases hj : i = j
        · subst hj
          rw [e] at ej
          cases ej
          exact ⟨List.getElem?_set_self hi2, h2⟩
        · rw [List.getElem?_set_ne hj]
          exact X.lk j x (by rw [List.getElem?_set_ne hj]; exact ej)
      · by_cases hj : i = j
        · subst hj
          rw [e] at ej
          cases ej
          exact ⟨⟨d, List.getElem?_set_self hi2⟩, h2⟩
        · rw [List.getElem?_set_ne hj]
          exact X.io j x (by rw [List.getElem?_set_ne hj]; exact ej)
    obtain ⟨a1, a2, a3⟩ := ih X' (R.kind h1)
    unfold unlock
    simp only [h1]
    exact ⟨a1, a2, fun a o => (O_kind h1).mp (a3 a o)⟩

/-! ### what is walked -/
def ListP (K : PySem.W.Frag) (a : Addr) (ds : List PyData) (g : Env) (σ : St) (Z : Addr → Prop) (H : Hp) : Prop :=
  Rep K Z H (.ref a) (.list ds) ∨ (¬ Z a ∧ ¬ O g σ a ∧ Ct K Z H a (.list ds)) ∨ ∃ i : Nat, g[i]? = some (.mu .lk (.list ds)) ∧ σ[i]? = some (some (.ref a))
def TupP (K : PySem.W.Frag) (a : Addr) (ds : List PyData) (Z : Addr → Prop) (H : Hp) : Prop := Rep K Z H (.ref a) (.tuple ds)
theorem ListP.rd {a : Addr} {ds : List PyData} (h : ListP K a ds g σ Z H) (R : Rel K Z g σ H) : ∃ vs, SqL K H a vs ∧ Reps K Z H vs ds := by
  rcases h with h | ⟨_, _, c⟩ | ⟨i, h1, h2⟩
  · obtain ⟨b, vs, e, q, r⟩ := (Rd1.of h).list
    cases e
    exact ⟨vs, q, r⟩
  · obtain ⟨vs, h, r⟩ := c.list rfl
    exact ⟨vs, SqL.of h, r⟩
  · obtain ⟨b, e1, _, c, _⟩ := R.mu h1
    rw [h2] at e1
    cases e1
    obtain ⟨vs, h, r⟩ := c.list rfl
    exact ⟨vs, SqL.of h, r⟩
theorem TupP.rd {a : Addr} {ds : List PyData} (h : TupP K a ds Z H) : ∃ vs, SqT K H a vs ∧ Reps K Z H vs ds := by
  obtain ⟨b, vs, e, q, r⟩ := (Rd1.of h).tuple
  cases e
  exact ⟨vs, q, r⟩
theorem ListP.keep {a : Addr} {ds : List PyData} (h : ListP K a ds g σ Z H) (R : Rel K Z g σ H) (X : Ext g σ Z H g' σ' Z' H') : ListP K a ds g' σ' Z' H' := by
  rcases h with h | ⟨nz, no, c⟩ | ⟨i, h1, h2⟩
  · exact .inl (Rep.mv (R.keeps X) _ _ h)
  · obtain ⟨vs, h, r⟩ := c.list rfl
    refine .inr (.inl ⟨fun z => ?_, fun q => ?_, c.mv (R.keeps X) fun o q => X.pres a o q no⟩)
    · rcases X.zn a z with q | q | q
      · exact nz q
      · rw [h] at q; cases q
      · exact no q
    · rcases X.on a q with q | q
      · exact no q
      · rw [h] at q; cases q
  · obtain ⟨q1, q2⟩ := X.lk i _ h1
    exact .inr (.inr ⟨i, q1, q2.trans h2⟩)
theorem ListP.wip {a : Addr} {ds : List PyData} (h : ListP K a ds g σ Z H) (R : Rel K Z g σ H) (vs : List Nat) : ListP K a ds (PK.wipe g vs) (L2.wipe σ vs) Z H := by
  rcases h with h | ⟨nz, no, c⟩ | ⟨i, h1, h2⟩
  · exact .inl h
  · exact .inr (.inl ⟨nz, fun o => no (O_wipe o), c⟩)
  · by_cases hi : i ∈ vs
    · obtain ⟨b, e1, nz, c, ow⟩ := R.mu h1
      rw [h2] at e1
      cases e1
      refine .inr (.inl ⟨nz, fun ⟨j, o⟩ => ?_, c⟩)
      obtain ⟨hj, oj⟩ := own_wipe.mp o
      exact hj (R.ds i j a ow oj ▸ hi)
    · refine .inr (.inr ⟨i, ?_, ?_⟩)
      · rw [wipe_at]; simp only [hi, if_false]; exact h1
      · rw [wipeσ_at]; simp only [hi, if_false]; exact h2
theorem ListP.kind {a : Addr} {ds : List PyData} {i : Nat} {k : Mk} {d : PyData} (h : ListP K a ds g σ Z H) (e : g[i]? = some (.mu k d)) : ListP K a ds (g.set i (.mu .lk d)) σ Z H := by
  rcases h with h | ⟨nz, no, c⟩ | ⟨j, h1, h2⟩
  · exact .inl h
  · exact .inr (.inl ⟨nz, fun o => no ((O_kind e).mp o), c⟩)
  · refine .inr (.inr ⟨j, ?_, h2⟩)
    by_cases hj : i = j
    · subst hj
      rw [e] at h1
      cases h1
      exact List.getElem?_set_self (List.getElem?_eq_some_iff.mp e).1
    · rw [List.getElem?_set_ne hj]; exact h1

structure WalkP (K : PySem.W.Frag) (J : L2.It) (its : List PyData) (P : Env → St → (Addr → Prop) → Hp → Prop) : Prop where
  keep : ∀ {g g' : Env} {σ σ' : St} {Z Z' : Addr → Prop} {H H' : Hp}, P g σ Z H → Rel K Z g σ H → Ext g σ Z H g' σ' Z' H' → P g' σ' Z' H'
  wip : ∀ {g : Env} {σ : St} {Z : Addr → Prop} {H : Hp}, P g σ Z H → Rel K Z g σ H → ∀ vs, P (PK.wipe g vs) (L2.wipe σ vs) Z H
  go : ∀ {g : Env} {σ : St} {Z : Addr → Prop} {H : Hp}, P g σ Z H → Rel K Z g σ H → ∀ (i : Nat) (d : PyData), its[i]? = some d → J.go i H ∧ ∀ x H', J.yld i H x H' → HX H H' ∧ Rep K Z H' x d
  stop : ∀ {g : Env} {σ : St} {Z : Addr → Prop} {H : Hp}, P g σ Z H → Rel K Z g σ H → J.stop its.length H
def WalkR (K : PySem.W.Frag) (J : L2.It) (its : List PyData) (g : Env) (σ : St) (Z : Addr → Prop) (H : Hp) : Prop := ∃ P, P g σ Z H ∧ WalkP K J its P
theorem Reps.at' {vs : List V} {ds : List PyData} (r : Reps K Z H vs ds) : ∀ {i : Nat} {d : PyData}, ds[i]? = some d → ∃ v, vs[i]? = some v ∧ Rep K Z H v d := by
  induction ds generalizing vs with
  | nil => intro i d e; simp at e
  | cons d0 ds ih =>
    cases r with
    | cons a b =>
      intro i d e
      cases i with
      | zero => simp at e; subst e; exact ⟨_, rfl, a⟩
      | succ i => obtain ⟨v, h1, h2⟩ := ih b (i := i) (by simpa using e); exact ⟨v, by simpa using h1, h2⟩
theorem walk_list (a : Addr) (ds : List PyData) : WalkP K (Itl K a) ds (ListP K a ds) where
  keep := ListP.keep
  wip := ListP.wip
  go := fun p R i d e => by
    obtain ⟨vs, q, r⟩ := p.rd R
    obtain ⟨v, h1, h2⟩ := r.at' e
    refine ⟨⟨vs, v, q, h1⟩, fun x H' y => ?_⟩
    obtain ⟨rfl, y⟩ := y
    rw [y vs q] at h1
    cases h1
    exact ⟨HX.refl, h2⟩
  stop := fun p R => by
    obtain ⟨vs, q, r⟩ := p.rd R
    exact ⟨vs, q, Nat.le_of_eq r.len⟩
theorem walk_tup (a : Addr) (ds : List PyData) : WalkP K (Itt K a) ds (fun _ _ Z H => TupP K a ds Z H) where
  keep := fun p R X => Rep.mv (R.keeps X) _ _ p
  wip := fun p _ _ => p
  go := fun p R i d e => by
    obtain ⟨vs, q, r⟩ := TupP.rd p
    obtain ⟨v, h1, h2⟩ := r.at' e
    refine ⟨⟨vs, v, q, h1⟩, fun x H' y => ?_⟩
    obtain ⟨rfl, y⟩ := y
    rw [y vs q] at h1
    cases h1
    exact ⟨HX.refl, h2⟩
  stop := fun p R => by
    obtain ⟨vs, q, r⟩ := TupP.rd p
    exact ⟨vs, q, Nat.le_of_eq r.len⟩
theorem rangeL_at {lo : Int} {n i : Nat} {d : PyData} (h : (rangeL lo n)[i]? = some d) : i < n ∧ d = .int (lo + i) := by
  unfold rangeL at h
  rw [List.getElem?_map] at h
  by_cases hi : i < n
  · rw [List.getElem?_range hi] at h
    cases h
    exact ⟨hi, rfl⟩
  · have : (List.range n)[i]? = none := by rw [List.getElem?_eq_none_iff, List.length_range]; omega
    rw [this] at h
    cases h
theorem walk_rng (lo : Int) (n : Nat) : WalkP K (Itr lo n) (rangeL lo n) (fun _ _ _ _ => True) where
  keep := fun _ _ _ => trivial
  wip := fun _ _ _ => trivial
  go := fun _ R i d e => by
    obtain ⟨h1, rfl⟩ := rangeL_at e
    refine ⟨h1, fun x H' y => ?_⟩
    obtain ⟨rfl, rfl⟩ := y
    exact ⟨HX.refl, .int _⟩
  stop := fun _ _ => by
    show n ≤ (rangeL lo n).length
    unfold rangeL
    rw [List.length_map, List.length_range]
    exact Nat.le_refl _
theorem enumD_at {ds : List PyData} {i : Nat} {d : PyData} (h : (enumD ds)[i]? = some d) : ∃ x, ds[i]? = some x ∧ d = .tuple [.int (i : Nat), x] := by
  unfold enumD at h
  rw [List.getElem?_zipWith] at h
  by_cases hi : i < ds.length
  · rw [List.getElem?_range hi, List.getElem?_eq_getElem hi] at h
    cases h
    exact ⟨_, List.getElem?_eq_getElem hi, rfl⟩
  · have : ds[i]? = none := by rw [List.getElem?_eq_none_iff]; omega
    rw [this] at h
    revert h
    cases (List.range ds.length)[i]? <;> (intro h; cases h)
theorem enumD_len (ds : List PyData) : (enumD ds).length = ds.length := by unfold enumD; simp
theorem pair_rep {T : Addr} {x y : V} {d e : PyData} (hT : H T = none) (r1 : Rep K Z H x d) (r2 : Rep K Z H y e) : HX H (upd H T (.tup [x, y])) ∧ Rep K Z (upd H T (.tup [x, y])) (.ref T) (.tuple [d, e]) := by
  have hx : HX H (upd H T (.tup [x, y])) := HX.new hT
  exact ⟨hx, .tup upd_same (.cons (Rep.mv hx.keeps _ _ r1) (.cons (Rep.mv hx.keeps _ _ r2) .nil))⟩
theorem walk_enum (a : Addr) (ds : List PyData) : WalkP K (Ite K a) (enumD ds) (ListP K a ds) where
  keep := ListP.keep
  wip := ListP.wip
  go := fun p R i d e => by
    obtain ⟨vs, q, r⟩ := p.rd R
    obtain ⟨x, hx, rfl⟩ := enumD_at e
    obtain ⟨v, h1, h2⟩ := r.at' hx
    refine ⟨⟨vs, v, q, h1⟩, fun x' H' y => ?_⟩
    obtain ⟨T, w, rfl, hT, rfl, y⟩ := y
    rw [y vs q] at h1
    cases h1
    exact pair_rep hT (.int _) h2
  stop := fun p R => by
    obtain ⟨vs, q, r⟩ := p.rd R
    exact ⟨vs, q, by rw [enumD_len]; exact Nat.le_of_eq r.len⟩
theorem walk_enumT (a : Addr) (ds : List PyData) : WalkP K (IteT K a) (enumD ds) (fun _ _ Z H => TupP K a ds Z H) where
  keep := fun p R X => Rep.mv (R.keeps X) _ _ p
  wip := fun p _ _ => p
  go := fun p R i d e => by
    obtain ⟨vs, q, r⟩ := TupP.rd p
    obtain ⟨x, hx, rfl⟩ := enumD_at e
    obtain ⟨v, h1, h2⟩ := r.at' hx
    refine ⟨⟨vs, v, q, h1⟩, fun x' H' y => ?_⟩
    obtain ⟨T, w, rfl, hT, rfl, y⟩ := y
    rw [y vs q] at h1
    cases h1
    exact pair_rep hT (.int _) h2
  stop := fun p R => by
    obtain ⟨vs, q, r⟩ := TupP.rd p
    exact ⟨vs, q, by rw [enumD_len]; exact Nat.le_of_eq r.len⟩
theorem zipD_at {ds es : List PyData} {i : Nat} {d : PyData} (h : (zipD ds es)[i]? = some d) : ∃ x y, ds[i]? = some x ∧ es[i]? = some y ∧ d = .tuple [x, y] := by
  unfold zipD at h
  rw [List.getElem?_zipWith] at h
  cases h1 : ds[i]? with
  | none => rw [h1] at h; cases h
  | some x =>
    cases h2 : es[i]? with
    | none => rw [h1, h2] at h; cases h
    | some y => rw [h1, h2] at h; cases h; exact ⟨x, y, rfl, rfl, rfl⟩
theorem walk_zip (a b : Addr) (ds es : List PyData) : WalkP K (Itz K a b) (zipD ds es) (fun g σ Z H => ListP K a ds g σ Z H ∧ ListP K b es g σ Z H) where
  keep := fun p R X => ⟨p.1.keep R X, p.2.keep R X⟩
  wip := fun p R vs => ⟨p.1.wip R vs, p.2.wip R vs⟩
  go := fun p R i d e => by
    obtain ⟨vs, q, r⟩ := p.1.rd R
    obtain ⟨ws, q', r'⟩ := p.2.rd R
    obtain ⟨x, y, hx, hy, rfl⟩ := zipD_at e
    obtain ⟨v, h1, h2⟩ := r.at' hx
    obtain ⟨w, h3, h4⟩ := r'.at' hy
    refine ⟨⟨vs, ws, v, w, q, q', h1, h3⟩, fun x' H' y => ?_⟩
    obtain ⟨T, v', w', rfl, hT, rfl, y1, y2⟩ := y
    rw [y1 vs q] at h1
    rw [y2 ws q'] at h3
    cases h1
    cases h3
    exact pair_rep hT h2 h4
  stop := fun p R => by
    obtain ⟨vs, q, r⟩ := p.1.rd R
    obtain ⟨ws, q', r'⟩ := p.2.rd R
    refine ⟨vs, ws, q, q', ?_⟩
    have e1 := r.len
    have e2 := r'.len
    unfold zipD
    rw [List.length_zipWith]
    omega
theorem walk_zipT (a b : Addr) (ds es : List PyData) : WalkP K (RZ.ItzT K a b) (zipD ds es) (fun _ _ Z H => TupP K a ds Z H ∧ TupP K b es Z H) where
  keep := fun p R X => ⟨Rep.mv (R.keeps X) _ _ p.1, Rep.mv (R.keeps X) _ _ p.2⟩
  wip := fun p _ _ => p
  go := fun p R i d e => by
    obtain ⟨vs, q, r⟩ := TupP.rd p.1
    obtain ⟨ws, q', r'⟩ := TupP.rd p.2
    obtain ⟨x, y, hx, hy, rfl⟩ := zipD_at e
    obtain ⟨v, h1, h2⟩ := r.at' hx
    obtain ⟨w, h3, h4⟩ := r'.at' hy
    refine ⟨⟨vs, ws, v, w, q, q', h1, h3⟩, fun x' H' y => ?_⟩
    obtain ⟨T, v', w', rfl, hT, rfl, y1, y2⟩ := y
    rw [y1 vs q] at h1
    rw [y2 ws q'] at h3
    cases h1
    cases h3
    exact pair_rep hT h2 h4
  stop := fun p R => by
    obtain ⟨vs, q, r⟩ := TupP.rd p.1
    obtain ⟨ws, q', r'⟩ := TupP.rd p.2
    refine ⟨vs, ws, q, q', ?_⟩
    have e1 := r.len
    have e2 := r'.len
    unfold zipD
    rw [List.length_zipWith]
    omega

/-! ### a walk begins -/
theorem lock_ok {v : V} {x : EV} {ds : List PyData} {l : List (Nat × Mk)} (R : Rel K Z g σ H) (r : EVR K Z g σ H v x) (e : lock1 g x = some (ds, g1, l)) :
    (∀ {gb : Env} {lb : List (Nat × Mk)}, Locked gb g lb → Locked gb g1 (l ++ lb)) ∧ Rel K Z g1 σ H ∧ (∀ {u : V} {y : EV}, EVR K Z g σ H u y → EVR K Z g1 σ H u y) ∧ (∀ {b : Addr} {es : List PyData}, ListP K b es g σ Z H → ListP K b es g1 σ Z H) ∧
      ∃ a, v = .ref a ∧ ((ListP K a ds g1 σ Z H ∧ ∃ xs, x.get g = some xs ∧ xs = .list ds) ∨ (TupP K a ds Z H ∧ ∃ xs, x.get g = some xs ∧ xs = .tuple ds)) := by
  have val : ∀ (d : PyData) (v : V), Rep K Z H v d → items d = some ds → ∃ a, v = .ref a ∧ ((ListP K a ds g σ Z H ∧ d = .list ds) ∨ (TupP K a ds Z H ∧ d = .tuple ds)) := fun d v r e => by
    cases d <;> first | (cases e; done) | skip
    · cases e
      obtain ⟨a, vs, rfl, _⟩ := (Rd1.of r).list
      exact ⟨a, rfl, .inl ⟨.inl r, rfl⟩⟩
    · cases e
      obtain ⟨a, vs, rfl, _⟩ := (Rd1.of r).tuple
      exact ⟨a, rfl, .inr ⟨r, rfl⟩⟩
  cases x with
  | val d =>
    simp only [lock1] at e
    cases ei : items d with
    | none => rw [ei] at e; cases e
    | some xs =>
      rw [ei] at e
      cases e
      refine ⟨fun L => L, R, fun r => r, fun p => p, ?_⟩
      obtain ⟨a, h1, h2⟩ := val d v r ei
      exact ⟨a, h1, h2.imp (fun q => ⟨q.1, _, rfl, q.2⟩) fun q => ⟨q.1, _, rfl, q.2⟩⟩
  | nw d =>
    simp only [lock1] at e
    obtain ⟨a, rfl, nz, no, c⟩ := r
    cases c with
    | dct h q => cases e
    | lst h q =>
      cases e
      exact ⟨fun L => L, R, fun r => r, fun p => p, a, rfl, .inl ⟨.inr (.inl ⟨nz, no, .lst h q⟩), _, rfl, rfl⟩⟩
  | loc i =>
    have rs : σ[i]? = some (some v) := r
    simp only [lock1] at e
    split at e
    · rename_i d hg
      cases ei : items d with
      | none => rw [ei] at e; cases e
      | some xs =>
        rw [ei] at e
        cases e
        obtain ⟨w, e1, q⟩ := R.va hg
        rw [rs] at e1
        cases e1
        refine ⟨fun L => L, R, fun r => r, fun p => p, ?_⟩
        obtain ⟨a, h1, h2⟩ := val d v q ei
        have eg : EV.get g (.loc i) = some d := by show (g[i]?).bind Slot.get = _; rw [hg]; rfl
        exact ⟨a, h1, h2.imp (fun q => ⟨q.1, _, eg, q.2⟩) fun q => ⟨q.1, _, eg, q.2⟩⟩
    · rename_i k d hg
      obtain ⟨a, e1, nz, c, ow⟩ := R.mu hg
      rw [rs] at e1
      cases e1
      obtain ⟨ds', ed⟩ : ∃ ds', d = .list ds' := by
        cases c with
        | dct h q => cases e
        | lst h q => exact ⟨_, rfl⟩
      subst ed
      cases e
      have eg : EV.get g (.loc i) = some (.list ds) := by show (g[i]?).bind Slot.get = _; rw [hg]; rfl
      exact ⟨fun L => .cons L hg, R.kind hg, fun r => r.kind hg, fun p => p.kind hg, a, rfl, .inl ⟨.inr (.inr ⟨i, List.getElem?_set_self (List.getElem?_eq_some_iff.mp hg).1, rs⟩), _, eg, rfl⟩⟩
    · cases e
end
end PK
end

section
set_option Elab.async false
set_option linter.all false
set_option maxRecDepth 100000
set_option maxHeartbeats 4000000
/-! PkI: walks begun, targets, comprehensions. -/
namespace PK
open PySem PySem.Spec PyProof.Rows L2
open PySem (PyData)

def AftI (K : PySem.W.Frag) (XC : XR) (W : WX) (g : Env) (σ : St) (Z : Addr → Prop) (H : Hp) (R : L2.It → Hp → Prop) : Res Walk → Prop
  | .ok w => ∀ J Z' H' ge, Ext g σ Z H ge σ Z' H' → Locked ge w.env w.lks → Rel K Z' w.env σ H' → WalkR K J w.its w.env σ Z' H' → R J H'
  | .exc c d g' => ∀ cls oa Z' H', Ext g σ Z H g' σ Z' H' → Rel K Z' g' σ H' → XC c d cls oa H' → W cls oa σ H'
  | .bad => False
def TRI (K : PySem.W.Frag) (XC : XR) (W : WX) (f : Env → Res Walk) : TI := fun σ H R => ∃ Z g, Rel K Z g σ H ∧ AftI K XC W g σ Z H R (f g)
def ofF (fa : Env → Res (EV × Env)) (g : Env) : Res Walk := (fa g).bind fun p => (Res.of (lock1 p.2 p.1)).bind fun q => .ok ⟨q.1, q.2.1, q.2.2⟩
def rngF (fes : Env → Res (List EV × Env)) (g : Env) : Res Walk := (fes g).bind fun p => (Res.of ((gets p.2 p.1).bind rng)).bind fun r => .ok ⟨rangeL r.1 r.2, p.2, []⟩
def enumF (fa : Env → Res (EV × Env)) (g : Env) : Res Walk := (fa g).bind fun p => (Res.of (lock1 p.2 p.1)).bind fun q => .ok ⟨enumD q.1, q.2.1, q.2.2⟩
def zipF (fa fb : Env → Res (EV × Env)) (g : Env) : Res Walk := (fa g).bind fun p => (fb p.2).bind fun r => (Res.of ((p.1.get r.2).bind fun x => (r.1.get r.2).bind fun y => sameK x y)).bind fun _ => (Res.of (lock1 r.2 p.1)).bind fun q => (Res.of (lock1 q.2.1 r.1)).bind fun s =>
      .ok ⟨zipD q.1 s.1, s.2.1, s.2.2 ++ q.2.2⟩

def iSeq (K : PySem.W.Frag) (tl : TE) : TI := fun σ H R => tl σ H fun x H1 => ∃ a, x = .ref a ∧ (((∃ xs, SqL K H1 a xs) ∧ R (Itl K a) H1) ∨ ((∃ xs, SqT K H1 a xs) ∧ R (Itt K a) H1))
def iEn (K : PySem.W.Frag) (te : TE) : TI := fun σ H R => te σ H fun x H1 => ∃ a, x = .ref a ∧ (((∃ xs, SqL K H1 a xs) ∧ R (Ite K a) H1) ∨ ((∃ xs, SqT K H1 a xs) ∧ R (IteT K a) H1))

section
variable {X : Cx} {tg l e : Expr} {tl te : TE}
theorem one_fp {pins : List (Addr × Obj)} {σ : St} {H : Hp} {s : Shared} (I : Inv X pins σ H s) : ∀ b ∈ [s.heap.objs.size], FpOk X pins H b := fun b hb => by
  have q : b = s.heap.objs.size := by simpa using hb
  rw [q]
  exact I.fpOk (Nat.le_refl _) (I.hok.fresh (Nat.le_refl _))
theorem pi_seq (hl : PE X l tl) : PI X tg l (iSeq X.K tl) := ⟨fun pins s σ H R I h => by
  refine thn (hl.run pins s σ H _ I h) fun v s' ⟨x, G, J, r, a, ex, q⟩ => ?_
  subst ex
  cases r
  have keepJ : ∀ o : Obj, Inv X pins σ G { s' with heap := s'.heap.push o } := fun o => J.kept (t' := s'.toks) fun b u e => Heap.get?_push_of_some _ e
  rcases q with ⟨⟨xs, sq⟩, q⟩ | ⟨⟨xs, sq⟩, q⟩
  · obtain ⟨items, _, pl, _⟩ := J.list sq
    exact wpAny_pyIter_list pl.isList ⟨_, [s'.heap.objs.size], _, _, G, rfl, keepJ _, turn_list a _, ⟨_, Heap.get?_push_size _ rfl, rfl, rfl⟩, one_fp J, q⟩
  · obtain ⟨items, _, pl, _⟩ := J.tuple sq
    exact wpAny_pyIter_tuple (show s'.heap.IsTuple a items.toArray from pl) ⟨_, [s'.heap.objs.size], _, _, G, rfl, keepJ _, turn_tuple a _, ⟨_, Heap.get?_push_size _ rfl, rfl, rfl⟩, one_fp J, q⟩⟩
theorem pi_en {p pos tpos : Pos} {elts : List Expr} {kk : Nat} (hg : Gl X "enumerate") (hm : X.mg "enumerate" = none) (he : PE X e te) (hs : starEach [e] X.env = (false, eval e X.env) :: starEach [] X.env) :
    PI X (.Tuple elts kk tpos) (.Call (.Name "enumerate" p) [e] [] pos) (iEn X.K te) := ⟨fun pins s σ H R I h => by
  refine Call_ (ld_blt I hg hm boot_enumerate (PyProof.Rows.callWith_type1 (one_arg he I h (fun v s' x G J r q => ?_) hs) hs))
  obtain ⟨a, ex, q⟩ := q
  subst ex
  cases r
  have fps : ∀ b ∈ [s'.heap.objs.size + 1, s'.heap.objs.size], FpOk X pins G b := fun b hb => by
    have hle : s'.heap.objs.size ≤ b := by
      rcases (show b = s'.heap.objs.size + 1 ∨ b = s'.heap.objs.size by simpa using hb) with z | z <;> omega
    exact J.fpOk hle (J.hok.fresh hle)
  rcases q with ⟨⟨xs, sq⟩, q⟩ | ⟨⟨xs, sq⟩, q⟩
  · obtain ⟨items, _, pl, _⟩ := J.list sq
    refine call_enumerate_list pl.isList fun h' hen hit _ hk => wpAny_pyIter_enum hen ?_
    exact ⟨_, _, _, _, G, rfl, J.kept (t' := s'.toks) hk, turn_enum a (s'.heap.objs.size + 1) s'.heap.objs.size, ⟨⟨.none, hen⟩, hit, Nat.succ_ne_self _⟩, fps, q⟩
  · obtain ⟨items, _, pl, _⟩ := J.tuple sq
    refine enum1 (begins_tuple a items.toArray) pl fun h' hen hit _ hk => wpAny_pyIter_enum hen ?_
    exact ⟨_, _, _, _, G, rfl, J.kept (t' := s'.toks) hk, turn_enumT a (s'.heap.objs.size + 1) s'.heap.objs.size,
      ⟨⟨.none, hen⟩, ⟨_, hit, rfl, rfl⟩, Nat.succ_ne_self _, Nat.ne_of_lt (Nat.lt_succ_of_lt pl.lt)⟩, fps, q⟩⟩
end

section
variable {K : PySem.W.Frag} {XC : XR} {W : WX} {Z Z' Z0 Z1 Z2 : Addr → Prop} {g g' g0 g1 g2 : Env} {σ σ' σ0 σ1 σ2 : St} {H H' H0 H1 H2 : Hp} {Q : VK}
theorem EVRs.len : ∀ {vs : List V} {xs : List EV}, EVRs K Z g σ H vs xs → vs.length = xs.length
  | _, _, .nil => rfl
  | _, _, .cons _ t => congrArg Nat.succ (EVRs.len t)
theorem AftI.later {r : Res Walk} {R : L2.It → Hp → Prop} (h : AftI K XC W g σ Z H R r) (X : Ext g σ Z H g1 σ Z1 H1) : AftI K XC W g1 σ Z1 H1 R r := by
  cases r with
  | ok w => exact fun J Z' H' ge x => h J Z' H' ge (X.trans x)
  | exc c d g' => exact fun cls oa Z' H' x => h cls oa Z' H' (X.trans x)
  | bad => exact h
theorem of_run {fa : Env → Res (EV × Env)} {R : L2.It → Hp → Prop} (h : TRI K XC W (ofF fa) σ H R) : iSeq K (TRE K XC W fa) σ H R := by
  obtain ⟨Z, g, Rl, h⟩ := h
  unfold ofF at h
  refine ⟨Z, g, Rl, ?_⟩
  cases ea : fa g with
  | bad => rw [ea] at h; exact h
  | exc c d g' => rw [ea] at h; exact h
  | ok p =>
    rw [ea] at h
    simp only [Res.bind_ok] at h
    intro v Z1 H1 x1 R1 r1 f1
    obtain ⟨⟨ds, g1, l⟩, e, h⟩ := of_some (P := AftI K XC W g σ Z H R) (fun z => z) h
    obtain ⟨lk, R2, _, _, a, rfl, q⟩ := lock_ok R1 r1 e
    have lk' := lk (Locked.nil (g := p.2))
    rw [List.append_nil] at lk'
    rcases q with ⟨q, _⟩ | ⟨q, _⟩
    · obtain ⟨vs, sq, _⟩ := q.rd R2
      exact ⟨a, rfl, .inl ⟨⟨vs, sq⟩, h (Itl K a) Z1 H1 p.2 x1 lk' R2 ⟨_, q, walk_list a ds⟩⟩⟩
    · obtain ⟨vs, sq, _⟩ := q.rd
      exact ⟨a, rfl, .inr ⟨⟨vs, sq⟩, h (Itt K a) Z1 H1 p.2 x1 lk' R2 ⟨_, q, walk_tup a ds⟩⟩⟩
theorem en_run {fa : Env → Res (EV × Env)} {R : L2.It → Hp → Prop} (h : TRI K XC W (enumF fa) σ H R) : iEn K (TRE K XC W fa) σ H R := by
  obtain ⟨Z, g, Rl, h⟩ := h
  unfold enumF at h
  refine ⟨Z, g, Rl, ?_⟩
  cases ea : fa g with
  | bad => rw [ea] at h; exact h
  | exc c d g' => rw [ea] at h; exact h
  | ok p =>
    rw [ea] at h
    simp only [Res.bind_ok] at h
    intro v Z1 H1 x1 R1 r1 f1
    obtain ⟨⟨ds, g1, l⟩, e, h⟩ := of_some (P := AftI K XC W g σ Z H R) (fun z => z) h
    obtain ⟨lk, R2, _, _, a, rfl, q⟩ := lock_ok R1 r1 e
    have lk' := lk (Locked.nil (g := p.2))
    rw [List.append_nil] at lk'
    rcases q with ⟨q, _⟩ | ⟨q, _⟩
    · obtain ⟨vs, sq, _⟩ := q.rd R2
      exact ⟨a, rfl, .inl ⟨⟨vs, sq⟩, h (Ite K a) Z1 H1 p.2 x1 lk' R2 ⟨_, q, walk_enum a ds⟩⟩⟩
    · obtain ⟨vs, sq, _⟩ := q.rd
      exact ⟨a, rfl, .inr ⟨⟨vs, sq⟩, h (IteT K a) Z1 H1 p.2 x1 lk' R2 ⟨_, q, walk_enumT a ds⟩⟩⟩
theorem zip_run {fa fb : Env → Res (EV × Env)} {R : L2.It → Hp → Prop} (h : TRI K XC W (zipF fa fb) σ H R) : RZ.iZipA K (tCons (TRE K XC W fa) (tCons (TRE K XC W fb) tNil)) σ H R := by
  obtain ⟨Z, g, Rl, h⟩ := h
  unfold zipF at h
  refine ⟨Z, g, Rl, ?_⟩
  cases ea : fa g with
  | bad => rw [ea] at h; exact h
  | exc c d g' => rw [ea] at h; exact h
  | ok p =>
  rw [ea] at h
  simp only [Res.bind_ok] at h
  intro v Z1 H1 x1 R1 r1 f1
  replace h := h.later x1
  refine ⟨Z1, p.2, R1, ?_⟩
  cases eb : fb p.2 with
  | bad => rw [eb] at h; exact h
  | exc c d g' => rw [eb] at h; exact h
  | ok q =>
  rw [eb] at h
  simp only [Res.bind_ok] at h
  intro u Z2 H2 x2 R2 r2 f2
  replace h := h.later x2
  have r1' := r1.mv R1 x2
  obtain ⟨_, ek, h⟩ := of_some (P := AftI K XC W q.2 σ Z2 H2 R) (fun z => z) h
  obtain ⟨⟨ds, g1, l⟩, e, h⟩ := of_some (P := AftI K XC W q.2 σ Z2 H2 R) (fun z => z) h
  obtain ⟨⟨es, g3, l2⟩, e2, h⟩ := of_some (P := AftI K XC W q.2 σ Z2 H2 R) (fun z => z) h
  obtain ⟨d1, d2, k1, k2, k3⟩ := bind2 ek
  obtain ⟨lk, R3, mvE, _, a, rfl, w1⟩ := lock_ok R2 r1' e
  obtain ⟨lk2, R4, _, mvL, b, rfl, w2⟩ := lock_ok R3 (mvE r2) e2
  have lk' := lk2 (lk (Locked.nil (g := q.2)))
  rw [List.append_nil] at lk'
  have gsame : q.1.get g1 = q.1.get q.2 := by
    cases hq : q.1 with
    | val d => rfl
    | nw d => rfl
    | loc j =>
      show (g1[j]?).bind Slot.get = (q.2[j]?).bind Slot.get
      cases hp : p.1 with
      | val d => rw [hp] at e; simp only [lock1] at e; cases hi : items d <;> rw [hi] at e <;> cases e; rfl
      | nw d => rw [hp] at e; simp only [lock1] at e; cases hi : items d <;> rw [hi] at e <;> cases e; rfl
      | loc i =>
        rw [hp] at e
        simp only [lock1] at e
        split at e
        · rename_i d hg
          cases hi : items d <;> rw [hi] at e <;> cases e
          rfl
        · rename_i k d hg
          cases hi : items d <;> rw [hi] at e <;> cases e
          by_cases hj : i = j
          · subst hj
            rw [List.getElem?_set_self (List.getElem?_eq_some_iff.mp hg).1, hg]
            rfl
          · rw [List.getElem?_set_ne hj]
        · cases e
  rcases w1 with ⟨w1, x1', e1', rfl⟩ | ⟨w1, x1', e1', rfl⟩
  · rw [k1] at e1'
    cases e1'
    rcases w2 with ⟨w2, x2', e2', rfl⟩ | ⟨w2, x2', e2', rfl⟩
    · obtain ⟨xs, sx, _⟩ := (mvL w1).rd R4
      obtain ⟨ys, sy, _⟩ := w2.rd R4
      exact ⟨a, b, xs, ys, rfl, .inl ⟨sx, sy, h (Itz K a b) Z2 H2 q.2 Ext.refl lk' R4 ⟨_, ⟨mvL w1, w2⟩, walk_zip a b ds es⟩⟩⟩
    · rw [gsame, k2] at e2'
      cases e2'
      cases k3
  · rw [k1] at e1'
    cases e1'
    rcases w2 with ⟨w2, x2', e2', rfl⟩ | ⟨w2, x2', e2', rfl⟩
    · rw [gsame, k2] at e2'
      cases e2'
      cases k3
    · obtain ⟨xs, sx, _⟩ := w1.rd
      obtain ⟨ys, sy, _⟩ := w2.rd
      exact ⟨a, b, xs, ys, rfl, .inr ⟨sx, sy, h (RZ.ItzT K a b) Z2 H2 q.2 Ext.refl lk' R4 ⟨_, ⟨w1, w2⟩, walk_zipT a b ds es⟩⟩⟩
theorem rng_run1 {fes : Env → Res (List EV × Env)} {R : L2.It → Hp → Prop} (hn : ∀ g p, fes g = .ok p → p.1.length = 1) (h : TRI K XC W (rngF fes) σ H R) : iRng1 (TRA K XC W fes) σ H R := by
  obtain ⟨Z, g, Rl, h⟩ := h
  unfold rngF at h
  refine ⟨Z, g, Rl, ?_⟩
  cases ea : fes g with
  | bad => rw [ea] at h; exact h
  | exc c d g' => rw [ea] at h; exact h
  | ok p =>
    have hl := hn g p ea
    rw [ea] at h
    simp only [Res.bind_ok] at h
    intro vs Z1 H1 x1 R1 r1 f1
    obtain ⟨⟨lo, n⟩, e, h⟩ := of_some (P := AftI K XC W g σ Z H R) (fun z => z) h
    cases eg : gets p.2 p.1 with
    | none => rw [eg] at e; cases e
    | some ds =>
      rw [eg] at e
      simp only [Option.bind_some] at e
      have rd := r1.rds R1 eg
      unfold rng at e
      split at e
      · rename_i j
        split at e
        · rename_i hj
          replace hj := isSmall_of hj
          cases e
          obtain ⟨v, rfl, rv⟩ := rd.one
          have := rv.int
          subst this
          exact ⟨j, rfl, hj.1, hj.2, h (Itr 0 j.toNat) Z1 H1 p.2 x1 .nil R1 ⟨_, trivial, walk_rng 0 j.toNat⟩⟩
        · cases e
      · rename_i i j
        obtain ⟨v, w, rfl, _⟩ := rd.two
        have := r1.len
        rw [hl] at this
        simp at this
      · cases e
theorem rng_run2 {fes : Env → Res (List EV × Env)} {R : L2.It → Hp → Prop} (hn : ∀ g p, fes g = .ok p → p.1.length = 2) (h : TRI K XC W (rngF fes) σ H R) : iRng2 (TRA K XC W fes) σ H R := by
  obtain ⟨Z, g, Rl, h⟩ := h
  unfold rngF at h
  refine ⟨Z, g, Rl, ?_⟩
  cases ea : fes g with
  | bad => rw [ea] at h; exact h
  | exc c d g' => rw [ea] at h; exact h
  | ok p =>
    have hl := hn g p ea
    rw [ea] at h
    simp only [Res.bind_ok] at h
    intro vs Z1 H1 x1 R1 r1 f1
    obtain ⟨⟨lo, n⟩, e, h⟩ := of_some (P := AftI K XC W g σ Z H R) (fun z => z) h
    cases eg : gets p.2 p.1 with
    | none => rw [eg] at e; cases e
    | some ds =>
      rw [eg] at e
      simp only [Option.bind_some] at e
      have rd := r1.rds R1 eg
      unfold rng at e
      split at e
      · rename_i j
        obtain ⟨v, rfl, _⟩ := rd.one
        have := r1.len
        rw [hl] at this
        simp at this
      · rename_i i j
        split at e
        · rename_i hj
          rw [Bool.and_eq_true] at hj
          replace hj := And.intro (isSmall_of hj.1) (isSmall_of hj.2)
          cases e
          obtain ⟨v, w, rfl, rv, rw'⟩ := rd.two
          have e1 := rv.int
          have e2 := rw'.int
          subst e1 e2
          exact ⟨_, j, rfl, ⟨hj.1.1, hj.1.2, hj.2.1, hj.2.2⟩, h (Itr _ _) Z1 H1 p.2 x1 .nil R1 ⟨_, trivial, walk_rng _ _⟩⟩
        · cases e
      · cases e
end
section
variable {X : Cx} {XC : XR} {W : WX} {a b c e tg : Expr} {es : List Expr} {fa fb fc : Env → Res (EV × Env)} {fes : Env → Res (List EV × Env)} {ffs : Env → Res (List PyData × Env)} {pos : Pos}
theorem i_of (ha : PE X a (TRE X.K XC W fa)) : PI X tg a (TRI X.K XC W (ofF fa)) := ⟨fun pins s σ H R I h => (pi_seq ha).run pins s σ H R I (of_run h)⟩
theorem i_enum {x : Str} {p tpos : Pos} {elts : List Expr} {kk : Nat} (hx : x = Str.ofString "enumerate") (hg : Gl X x) (hm : X.mg x = none) (ha : PE X a (TRE X.K XC W fa)) (hs : starEach [a] X.env = (false, eval a X.env) :: starEach [] X.env) :
    PI X (.Tuple elts kk tpos) (.Call (.Name x p) [a] [] pos) (TRI X.K XC W (enumF fa)) := by
  subst hx
  exact ⟨fun pins s σ H R I h => (pi_en hg hm ha hs).run pins s σ H R I (en_run h)⟩
theorem i_zip {x : Str} {p tpos : Pos} {elts : List Expr} {kk : Nat} (hx : x = Str.ofString "zip") (hg : Gl X x) (hm : X.mg x = none) (ha : PE X a (TRE X.K XC W fa)) (hb : PE X b (TRE X.K XC W fb))
    (hs : starEach [a, b] X.env = (false, eval a X.env) :: starEach [b] X.env) (hs2 : starEach [b] X.env = (false, eval b X.env) :: starEach [] X.env) (hpl : (backTo pos (starEach [b] X.env)).any (·.1) = false) :
    PI X (.Tuple elts kk tpos) (.Call (.Name x p) [a, b] [] pos) (TRI X.K XC W (zipF fa fb)) := by
  subst hx
  exact ⟨fun pins s σ H R I h => (RZ.pi_zipA hg hm (pa_cons ha (pa_cons hb pa_nil hs2) hs) hs hpl).run pins s σ H R I (zip_run h)⟩
theorem i_rng1 {x : Str} {p : Pos} (hx : x = Str.ofString "range") (hg : Gl X x) (hm : X.mg x = none) (hn : ∀ g p, fes g = .ok p → p.1.length = 1) (ha : PA X [a] (TRA X.K XC W fes)) (hs : starEach [a] X.env = [(false, eval a X.env)]) :
    PI X tg (.Call (.Name x p) [a] [] pos) (TRI X.K XC W (rngF fes)) := by
  subst hx
  exact ⟨fun pins s σ H R I h => (pi_range1 hg hm ha hs).run pins s σ H R I (rng_run1 hn h)⟩
theorem i_rng2 {x : Str} {p : Pos} (hx : x = Str.ofString "range") (hg : Gl X x) (hm : X.mg x = none) (hn : ∀ g p, fes g = .ok p → p.1.length = 2) (ha : PA X [a, b] (TRA X.K XC W fes)) (hs : starEach [a, b] X.env = [(false, eval a X.env), (false, eval b X.env)])
    (hs2 : starEach [b] X.env = [(false, eval b X.env)]) : PI X tg (.Call (.Name x p) [a, b] [] pos) (TRI X.K XC W (rngF fes)) := by
  subst hx
  exact ⟨fun pins s σ H R I h => (pi_range2 hg hm ha hs hs2).run pins s σ H R I (rng_run2 hn h)⟩
end

/-! ### targets -/
def Tg.ix : Tg → List Nat
  | .one i => [i]
  | .many is => is
def tgsG : List Nat → TGs
  | [] => gNil
  | i :: is => gCons (gName i) (tgsG is)
def tgG (K : PySem.W.Frag) : Tg → TG
  | .one i => gName i
  | .many is => gTup K is.length (tgsG is)
section
variable {K : PySem.W.Frag} {XC : XR} {W : WX} {Z Z' Z0 Z1 Z2 : Addr → Prop} {g g' g0 g1 g2 : Env} {σ σ' σ0 σ1 σ2 : St} {H H' H0 H1 H2 : Hp} {Q : VK}
theorem put_some {i : Nat} {s : Slot} (e : g.put i s = some g') : i < g.length ∧ g' = g.set i s ∧ (∀ d, g[i]? ≠ some (.mu .lk d)) ∧ ∀ d, g[i]? ≠ some (.mu .io d) := by
  unfold Env.put at e
  split at e
  · cases e
  · cases e
  · rename_i s0 h1 h2 h3
    cases e
    exact ⟨(List.getElem?_eq_some_iff.mp h3).1, rfl, fun d z => by rw [h3] at z; cases z; exact h2 d rfl, fun d z => by rw [h3] at z; cases z; exact h1 d rfl⟩
  · cases e
theorem put_ok {i : Nat} {s : Slot} {v : V} (R : Rel K Z g σ H) (X : Ext g0 σ0 Z0 H0 g σ Z H) (e : g.put i s = some g') (hs : SlotR K Z H (some v) s) (hm : ∀ k d a, s = .mu k d → v = .ref a → ¬ O g σ a ∧ (O g0 σ0 a ∨ H0 a = none)) :
    Ext g0 σ0 Z0 H0 g' (σ.set i (some v)) Z H ∧ Rel K Z g' (σ.set i (some v)) H := by
  obtain ⟨hi, rfl, nl, ni⟩ := put_some e
  have hiσ : i < σ.length := by rw [R.len]; exact hi
  have cs : ∀ j a, Own (g.set i s) (σ.set i (some v)) j a → (j ≠ i ∧ Own g σ j a) ∨ (j = i ∧ v = .ref a ∧ ∃ k d, s = .mu k d) := fun j a ⟨⟨k, d, e1⟩, e2⟩ => by
    by_cases hj : i = j
    · subst hj
      rw [List.getElem?_set_self hi] at e1
      rw [List.getElem?_set_self hiσ] at e2
      cases e1
      cases e2
      exact .inr ⟨rfl, rfl, k, d, rfl⟩
    · rw [List.getElem?_set_ne hj] at e1 e2
      exact .inl ⟨fun z => hj z.symm, ⟨k, d, e1⟩, e2⟩
  refine ⟨⟨X.pres, X.up, X.zn, fun a ⟨j, o⟩ => ?_, X.th, fun j d ed => ?_, fun j d ed => ?_⟩, ⟨by rw [List.length_set, List.length_set]; exact R.len, fun j s' es => ?_, fun j k a o o' => ?_, R.ex⟩⟩
  · rcases cs j a o with ⟨_, q⟩ | ⟨_, rfl, k, d, es⟩
    · exact X.on a ⟨j, q⟩
    · exact (hm k d a es rfl).2
  · obtain ⟨h1, h2⟩ := X.lk j d ed
    have hj : i ≠ j := fun z => nl d (z ▸ h1)
    rw [List.getElem?_set_ne hj, List.getElem?_set_ne hj]
    exact ⟨h1, h2⟩
  · obtain ⟨⟨d', h1⟩, h2⟩ := X.io j d ed
    have hj : i ≠ j := fun z => ni d' (z ▸ h1)
    rw [List.getElem?_set_ne hj, List.getElem?_set_ne hj]
    exact ⟨⟨d', h1⟩, h2⟩
  · by_cases hj : i = j
    · subst hj
      rw [List.getElem?_set_self hi] at es
      cases es
      rw [List.getElem?_set_self hiσ]
      exact hs
    · rw [List.getElem?_set_ne hj] at es
      rw [List.getElem?_set_ne hj]
      exact R.sl j s' es
  · rcases cs j a o with ⟨h1, q⟩ | ⟨rfl, rfl, m, d, es⟩
    · rcases cs k a o' with ⟨h2, q'⟩ | ⟨rfl, rfl, m, d, es⟩
      · exact R.ds j k a q q'
      · exact ((hm m d a es rfl).1 ⟨j, q⟩).elim
    · rcases cs k a o' with ⟨h2, q'⟩ | ⟨h2, _⟩
      · exact ((hm m d a es rfl).1 ⟨k, q'⟩).elim
      · exact h2.symm
theorem put_va {i : Nat} {d : PyData} {v : V} (R : Rel K Z g σ H) (X : Ext g0 σ0 Z0 H0 g σ Z H) (e : g.put i (.va d) = some g') (r : Rep K Z H v d) : Ext g0 σ0 Z0 H0 g' (σ.set i (some v)) Z H ∧ Rel K Z g' (σ.set i (some v)) H :=
  put_ok R X e ⟨v, rfl, r⟩ fun k d a z => nomatch z
theorem puts_ok {vs0 : List Nat} {Qn : St → Hp → Prop} : ∀ {is : List Nat} {ds : List PyData} {vs : List V} {g : Env} {σ : St}, Rel K Z g σ H → Ext g0 σ0 Z0 H0 g σ Z H → putAll g is ds = some g' → Reps K Z H vs ds →
    (∀ σ', Ext g0 σ0 Z0 H0 g' σ' Z H → Rel K Z g' σ' H → (∀ own : List Nat, (∀ i ∈ is, i ∈ own) → L2.wipe σ' own = L2.wipe σ own) → Qn σ' H) → tgsG is vs σ H Qn ∧ vs.length = is.length
  | [], [], vs, g, σ, R, X, e, r, h => by
    cases e
    cases r
    exact ⟨⟨rfl, h σ X R fun _ _ => rfl⟩, rfl⟩
  | [], _ :: _, _, _, _, _, _, e, _, _ => by cases e
  | _ :: _, [], _, _, _, _, _, e, _, _ => by cases e
  | i :: is, d :: ds, vs, g, σ, R, X, e, r, h => by
    cases r with
    | cons a b =>
      rename_i v vs
      simp only [putAll] at e
      cases e1 : g.put i (.va d) with
      | none => rw [e1] at e; cases e
      | some g1 =>
        rw [e1] at e
        obtain ⟨X1, R1⟩ := put_va R X e1 a
        obtain ⟨q1, q2⟩ := puts_ok (vs0 := vs0) (Qn := Qn) R1 X1 (show putAll g1 is ds = some g' from e) b fun σ' X' R' hw => h σ' X' R' fun own ho => by
          rw [hw own fun j hj => ho j (List.mem_cons_of_mem _ hj), wipe_set own (ho i List.mem_cons_self)]
        exact ⟨⟨v, vs, rfl, q1⟩, by simp [q2]⟩
theorem bind_ok {t : Tg} {d : PyData} {v : V} {Qn : St → Hp → Prop} (R : Rel K Z g σ H) (X : Ext g0 σ0 Z0 H0 g σ Z H) (r : Rep K Z H v d) (e : bindT g t d = some g')
    (h : ∀ σ', Ext g0 σ0 Z0 H0 g' σ' Z H → Rel K Z g' σ' H → (∀ own : List Nat, (∀ i ∈ t.ix, i ∈ own) → L2.wipe σ' own = L2.wipe σ own) → Qn σ' H) : tgG K t v σ H Qn := by
  cases t with
  | one i =>
    obtain ⟨X1, R1⟩ := put_va R X (show g.put i (.va d) = some g' from e) r
    exact h _ X1 R1 fun own ho => wipe_set own (ho i (by simp [Tg.ix]))
  | many is =>
    cases d <;> first | (cases e; done) | skip
    rename_i ds
    obtain ⟨a, vs, rfl, q, rs⟩ := (Rd1.of r).tuple
    obtain ⟨h1, h2⟩ := puts_ok (vs0 := []) R X (show putAll g is ds = some g' from e) rs h
    exact ⟨a, vs, rfl, q, h2, h1⟩
end
end PK
end

section
set_option Elab.async false
set_option linter.all false
set_option maxRecDepth 100000
set_option maxHeartbeats 4000000
/-! PkC: comprehensions. -/
namespace PK
open PySem PySem.Spec PyProof.Rows L2
open PySem (PyData)

/-- in a block nothing is raised -/
def WF : WX := fun _ _ _ _ => False
section
variable {K : PySem.W.Frag} {XC : XR} {W : WX} {Z Z' Z0 Z1 Z2 : Addr → Prop} {g g' g0 g1 g2 : Env} {σ σ' σ0 σ1 σ2 : St} {H H' H0 H1 H2 : Hp} {Q : VK}
theorem bind_ok_inv {α β : Type} {r : Res α} {f : α → Res β} {b : β} (h : r.bind f = .ok b) : ∃ a, r = .ok a ∧ f a = .ok b := by
  cases r with
  | ok a => exact ⟨a, rfl, h⟩
  | exc c d g => cases h
  | bad => cases h
theorem of_ok_inv {α β : Type} {o : Option α} {f : α → Res β} {b : β} (h : (Res.of o).bind f = .ok b) : ∃ a, o = some a ∧ f a = .ok b := by
  cases o with
  | none => cases h
  | some a => exact ⟨a, rfl, h⟩
/-- the state in a block: what was at its start (σ0 wiped, H1 ahead of the new list D), what is now -/
structure InB (K : PySem.W.Frag) (own : List Nat) (gb : Env) (σ : St) (Z1 : Addr → Prop) (H1 : Hp) (D : Addr) (acc : List PyData) (g : Env) (Z : Addr → Prop) (H : Hp) : Prop where
  R : Rel K Z (PK.wipe g own) (L2.wipe σ own) H
  X : Ext (PK.wipe gb own) (L2.wipe σ own) Z1 H1 (PK.wipe g own) (L2.wipe σ own) Z H
  it : ∃ us, H D = some (.lst us) ∧ Reps K Z H us acc
  nz : ¬ Z D
  no : ¬ O (PK.wipe g own) (L2.wipe σ own) D
/-- a step of a block that leaves D -/
structure StB (gs : Env) (σs : St) (Z : Addr → Prop) (H : Hp) (D : Addr) : Prop where
  some : ∃ us, H D = some (HO.lst us)
  nz : ¬ Z D
  no : ¬ O gs σs D
theorem StB.step (s : StB g σ Z H D) (X : Ext g σ Z H g' σ' Z' H') : StB g' σ' Z' H' D ∧ H' D = H D := by
  obtain ⟨us, e⟩ := s.some
  have e' := X.pres D _ e s.no
  refine ⟨⟨⟨us, e'⟩, fun z => ?_, fun o => ?_⟩, e'.trans e.symm⟩
  · rcases X.zn D z with q | q | q
    · exact s.nz q
    · rw [e] at q; cases q
    · exact s.no q
  · rcases X.on D o with q | q
    · exact s.no q
    · rw [e] at q; cases q
/-- an item added -/
theorem Ext.appD {D : Addr} {u : HO} (X : Ext g0 σ0 Z0 H0 g σ Z H) (hD : H0 D = none) : Ext g0 σ0 Z0 H0 g σ Z (upd H D u) where
  pres := fun a o e n => by
    have ne : a ≠ D := fun z => by subst z; rw [hD] at e; cases e
    rw [upd_ne ne]
    exact X.pres a o e n
  up := X.up
  zn := X.zn
  on := X.on
  th := fun a e => by
    by_cases h : a = D
    · subst h
      rw [upd_same] at e
      cases e
    · rw [upd_ne h] at e
      exact X.th a e
  lk := X.lk
  io := X.io
theorem Keeps.appD {D : Addr} {us ws : List V} (e : H D = some (.lst us)) (nz : ¬ Z D) : Keeps Z H Z (upd H D (.lst ws)) where
  tup := fun a xs h => by
    have ne : a ≠ D := fun z => by subst z; rw [e] at h; cases h
    rw [upd_ne ne]; exact h
  frz := fun a o u h => by
    have ne : a ≠ D := fun z => by subst z; rw [e] at h; cases h
    rw [upd_ne ne]; exact h
  zs := fun a o z h => by
    have ne : a ≠ D := fun q => nz (q ▸ z)
    rw [upd_ne ne]; exact h
  up := fun _ z => z
theorem Rel.appD {D : Addr} {us ws : List V} (R : Rel K Z g σ H) (e : H D = some (.lst us)) (nz : ¬ Z D) (no : ¬ O g σ D) : Rel K Z g σ (upd H D (.lst ws)) where
  len := R.len
  sl := fun i s es => (R.sl i s es).mv (Keeps.appD e nz) fun a ea ⟨m, d, em⟩ => by
    subst em
    have ow : Own g σ i a := ⟨⟨m, d, es⟩, join_some ea⟩
    have ne : a ≠ D := fun z => no (z ▸ ⟨i, ow⟩)
    obtain ⟨_, _, _, nz', _⟩ := R.own ow
    exact ⟨nz', fun o h => by rw [upd_ne ne]; exact h⟩
  ds := R.ds
  ex := fun a z => by
    by_cases h : a = D
    · exact (nz (h ▸ z)).elim
    · rw [upd_ne h]; exact R.ex a z

theorem comp_run {own : List Nat} {t : Tg} {fi : Env → Res Walk} {fc : Env → Res (Bool × Env)} {fe : Env → Res (EV × Env)} (ht : ∀ i ∈ t.ix, i ∈ own) (h : TRE K XC W (compF own t fi fc fe) σ H Q) :
    tLc (TRI K XC W fi) (tgG K t) (TRT K XC WF fc) (TRF K XC WF (fzF fe)) own σ H Q := by
  obtain ⟨Z, g, R, h⟩ := h
  unfold compF at h
  refine ⟨Z, g, R, ?_⟩
  cases ea : fi g with
  | bad => rw [ea] at h; exact h
  | exc c d g' => rw [ea] at h; exact h
  | ok w =>
  rw [ea] at h
  simp only [Res.bind_ok] at h
  intro J Z1 H1 ge x1 lk R1 ⟨P, p1, wp⟩ D hD
  cases eq : compL own (turnF t fc fe) w.its [] w.env with
  | bad => rw [eq] at h; exact h.elim
  | exc c d g' => rw [eq] at h; exact h.elim
  | ok q =>
  rw [eq] at h
  simp only [Res.quiet_ok, Res.bind_ok] at h
  have Rw := R1.wipe own
  have pw := wp.wip p1 R1 own
  refine ⟨fun i m H => m = w.its.length - i ∧ i ≤ w.its.length ∧ ∃ acc g2 Z2, compL own (turnF t fc fe) (w.its.drop i) acc g2 = .ok q ∧ InB K own w.env σ Z1 H1 D acc g2 Z2 H, ⟨_, rfl, Nat.zero_le _, [], w.env, Z1, by simpa using eq, ?_⟩, ?_⟩
  · have hx : HX H1 (upd H1 D (.lst [])) := HX.new hD
    refine ⟨Rw.hx hx, hx.ext, ⟨[], upd_same, .nil⟩, fun z => R1.ex D z hD, fun o => ?_⟩
    obtain ⟨vs, e, _, _⟩ := Rw.ol o
    rw [hD] at e; cases e
  · rintro i m H ⟨rfl, hi, acc, g2, Z2, ec, B⟩
    by_cases hlt : i < w.its.length
    · right
      have hd : w.its.drop i = w.its[i] :: w.its.drop (i + 1) := List.drop_eq_getElem_cons hlt
      rw [hd] at ec
      simp only [compL] at ec
      obtain ⟨pt, et, ec⟩ := bind_ok_inv ec
      obtain ⟨g3, eb, et⟩ := of_ok_inv (show turnF t fc fe (PK.wipe g2 own) w.its[i] = .ok pt from et)
      obtain ⟨go, yl⟩ := wp.go (wp.keep pw Rw B.X) B.R i _ (List.getElem?_eq_getElem hlt)
      refine ⟨go, fun H' => (w.its.length - (i + 1) = w.its.length - (i + 1) ∧ i + 1 ≤ w.its.length ∧ ∃ acc g2 Z2, compL own (turnF t fc fe) (w.its.drop (i + 1)) acc g2 = .ok q ∧ InB K own w.env σ Z1 H1 D acc g2 Z2 H'), fun H' n => ⟨_, by omega, n⟩, fun x H' y => ?_⟩
      obtain ⟨hx, rx⟩ := yl x H' y
      obtain ⟨us, eD, rD⟩ := B.it
      have S0 : StB (PK.wipe g2 own) (L2.wipe σ own) Z2 H D := ⟨⟨us, eD⟩, B.nz, B.no⟩
      refine bind_ok (B.R.hx hx) hx.ext rx eb fun σ2 x2 R2 hw => ⟨by rw [hw own ht, wipe_wipe], ?_⟩
      obtain ⟨S2, s2⟩ := S0.step x2
      refine ⟨Z2, g3, R2, ?_⟩
      obtain ⟨pc, ef, et⟩ := bind_ok_inv et
      rw [ef]
      intro Z4 H4 x4 R4
      obtain ⟨S4, s4⟩ := S2.step x4
      have X4 : Ext (PK.wipe w.env own) (L2.wipe σ own) Z1 H1 pc.2 σ2 Z4 H4 := (B.X.trans x2).trans x4
      cases hb : pc.1 with
      | false =>
        rw [hb, if_neg Bool.false_ne_true] at et
        cases et
        rw [if_neg Bool.false_ne_true]
        refine ⟨rfl, hlt, acc, pc.2, Z4, ec, ⟨?_, ?_, ⟨us, (s4.trans s2).trans eD, ?_⟩, S4.nz, fun o => ?_⟩⟩
        · have := R4.wipe own
          rwa [hw own ht, wipe_wipe] at this
        · have := X4.wipeR
          rwa [hw own ht, wipe_wipe] at this
        · exact rD.mv (B.R.keeps (x2.trans x4))
        · refine S4.no (O_wipe (vs := own) ?_)
          rw [hw own ht, wipe_wipe]
          exact o
      | true =>
        rw [hb, if_pos rfl] at et
        rw [if_pos rfl]
        obtain ⟨pe, ee, et⟩ := bind_ok_inv et
        cases et
        refine ⟨Z4, pc.2, R4, ?_⟩
        rw [ee]
        intro v Z5 H5 x5 R5 r5
        obtain ⟨S5, s5⟩ := S4.step x5
        have eD5 : H5 D = some (.lst us) := ((s5.trans s4).trans s2).trans eD
        simp only at ec
        split at ec
        · rename_i hal
          have rD5 : Reps K Z5 H5 us acc := rD.mv (B.R.keeps ((x2.trans x4).trans x5))
          refine ⟨us, eD5, ?_, rfl, hlt, acc ++ [pe.1], pe.2, Z5, ec, ⟨?_, ?_, ⟨us ++ [v], upd_same, ?_⟩, S5.nz, fun o => ?_⟩⟩
          · have l2 : line = sizeLine := line_eq
            rw [rD5.len, ← l2]
            exact hal
          · have := (R5.appD (ws := us ++ [v]) eD5 S5.nz S5.no).wipe own
            rwa [hw own ht, wipe_wipe] at this
          · have := ((X4.trans x5).appD (u := .lst (us ++ [v])) hD).wipeR
            rwa [hw own ht, wipe_wipe] at this
          · exact (rD5.app (.cons r5 .nil)).mv (Keeps.appD eD5 S5.nz)
          · refine S5.no (O_wipe (vs := own) ?_)
            rw [hw own ht, wipe_wipe]
            exact o
        · cases ec
    · left
      have hi' : i = w.its.length := by omega
      subst hi'
      refine ⟨wp.stop (wp.keep pw Rw B.X) B.R, ?_⟩
      rw [List.drop_length] at ec
      cases ec
      obtain ⟨b1, b2, b3⟩ := back_ok R1 B.X B.R
      obtain ⟨c1, c2, c3⟩ := lock_ext lk b1 b2
      obtain ⟨us, eD, rD⟩ := B.it
      refine h (.ref D) Z2 H (x1.trans c1) c2 ⟨D, rfl, B.nz, fun o => ?_, .lst eD rD⟩ ⟨D, rfl, x1.th D hD⟩
      rcases b3 D (c3 D o) with o | o
      · exact B.no o
      · obtain ⟨vs, e, _, _⟩ := R1.ol o
        rw [hD] at e; cases e
end
section
variable {X : Cx} {XC : XR} {W : WX} {elt tg iter : Expr} {ifs : List Expr} {scope : Scope} {own : List (Str × Nat)} {pos : Pos} {t : Tg} {fi : Env → Res Walk} {fc : Env → Res (Bool × Env)} {fe : Env → Res (EV × Env)}
theorem s_comp (hc : X.calm = true) (hN : X.N.Nodup) (hi : PI X tg iter (TRI X.K XC W fi)) (ok : BlkOk X.N X.env.scope scope own) (htx : ∀ i ∈ t.ix, i ∈ own.map (·.2))
    (hg : ∀ (s : Shared) (H : Hp) (C : Addr) (cl : List (Str × Addr)) (fp : List Addr), PG (X.blk s H scope (compEnvC scope cl C X.env) fp) tg (tgG X.K t))
    (ht : ∀ (s : Shared) (H : Hp) (C : Addr) (cl : List (Str × Addr)) (fp : List Addr), PTs (X.blk s H scope (compEnvC scope cl C X.env) fp) ifs (TRT X.K XC WF fc))
    (he : ∀ (s : Shared) (H : Hp) (C : Addr) (cl : List (Str × Addr)) (fp : List Addr), PE (X.blk s H scope (compEnvC scope cl C X.env) fp) elt (TRE X.K XC WF fe))
    (hs : ∀ x, foldedSetIterable iter X.env x = pure x) :
    PE X (.ListComp elt [⟨tg, iter, ifs, 0⟩] scope pos) (TRE X.K XC W (compF (own.map (·.2)) t fi fc fe)) :=
  ⟨fun pins s σ H Q I h => (pe_lc hc hN hi ok hg ht (fun s H C cl fp => s_frz (he s H C cl fp)) hs).run pins s σ H Q I (comp_run htx h)⟩
theorem ps_setC {i : Nat} {y : Str} {py spos : Pos} (hy : X.N[i]? = some y) (hyl : X.env.scope.names.lookup y = some .local)
    (hsw : swapsWith (.ListComp elt [⟨tg, iter, ifs, 0⟩] scope pos) (some (.Name y py)) spos.line X.env = pure true) (hc : X.calm = true) (hN : X.N.Nodup) (hi : PI X tg iter (TRI X.K XC W fi)) (ok : BlkOk X.N X.env.scope scope own) (htx : ∀ i ∈ t.ix, i ∈ own.map (·.2))
    (hg : ∀ (s : Shared) (H : Hp) (C : Addr) (cl : List (Str × Addr)) (fp : List Addr), PG (X.blk s H scope (compEnvC scope cl C X.env) fp) tg (tgG X.K t))
    (ht : ∀ (s : Shared) (H : Hp) (C : Addr) (cl : List (Str × Addr)) (fp : List Addr), PTs (X.blk s H scope (compEnvC scope cl C X.env) fp) ifs (TRT X.K XC WF fc))
    (he : ∀ (s : Shared) (H : Hp) (C : Addr) (cl : List (Str × Addr)) (fp : List Addr), PE (X.blk s H scope (compEnvC scope cl C X.env) fp) elt (TRE X.K XC WF fe))
    (hs : ∀ x, foldedSetIterable iter X.env x = pure x) :
    PS X (.Assign [.Name y py] (.ListComp elt [⟨tg, iter, ifs, 0⟩] scope pos) spos) (tAsg (TRE X.K XC W (compF (own.map (·.2)) t fi fc fe)) (gName i)) :=
  ⟨fun pins s σ H Dn I h => (ps_setLc hc hN hy hyl hsw hi ok hg ht (fun s H C cl fp => s_frz (he s H C cl fp)) hs).run pins s σ H Dn I (comp_run htx h)⟩
end
end PK
end

section
set_option Elab.async false
set_option linter.all false
set_option maxRecDepth 100000
set_option maxHeartbeats 4000000
/-! PkSt: statements. -/
namespace PK
open PySem PySem.Spec PyProof.Rows L2
open PySem (PyData)

/-- a is not one of the caller's or a locked thing -/
def NotIo (g : Env) (σ : St) (a : Addr) : Prop := ∀ (i : Nat) (k : Mk) (d : PyData), k = .io ∨ k = .lk → g[i]? = some (.mu k d) → σ[i]? ≠ some (some (.ref a))
def RtR (K : PySem.W.Frag) (Z' : Addr → Prop) (H' : Hp) (g : Env) (σ : St) (H : Hp) (v : V) (fr : Bool) (d : PyData) : Prop :=
  (fr = false → Rep K Z' H' v d) ∧ (fr = true → ∃ a, v = .ref a ∧ ¬ Z' a ∧ Ct K Z' H' a d ∧ (H a = none ∨ O g σ a) ∧ NotIo g σ a)
/-- behind a statement -/
def AftS (K : PySem.W.Frag) (XC : XR) (W : WX) (g : Env) (σ : St) (Z : Addr → Prop) (H : Hp) (D : Ends) : Out → Prop
  | .nx g' => ∀ σ' Z' H', Ext g σ Z H g' σ' Z' H' → Rel K Z' g' σ' H' → D.nx σ' H'
  | .bk g' => ∀ σ' Z' H', Ext g σ Z H g' σ' Z' H' → Rel K Z' g' σ' H' → D.bk σ' H'
  | .ct g' => ∀ σ' Z' H', Ext g σ Z H g' σ' Z' H' → Rel K Z' g' σ' H' → D.ct σ' H'
  | .rt fr d g' => ∀ v σ' Z' H', Ext g σ Z H g' σ' Z' H' → Rel K Z' g' σ' H' → RtR K Z' H' g σ H v fr d → D.rt v H'
  | .exc c d g' => ∀ cls oa σ' Z' H', Ext g σ Z H g' σ' Z' H' → Rel K Z' g' σ' H' → XC c d cls oa H' → W cls oa σ' H'
  | .bad => False
def TRS (K : PySem.W.Frag) (XC : XR) (W : WX) (f : Env → Out) : TS := fun D σ H => ∃ Z g, Rel K Z g σ H ∧ AftS K XC W g σ Z H D (f g)

def asgF (i : Nat) (own : Bool) (fe : Env → Res (EV × Env)) (g : Env) : Out := (fe g).out fun p => if own then (match p.1 with
      | .nw d => (Res.of (p.2.put i (.mu .ow d))).out .nx
      | _ => .bad) else (Res.of (p.1.fz p.2)).out fun q => (Res.of (q.2.put i (.va q.1))).out .nx
def unpF (is : List Nat) (fe : Env → Res (EV × Env)) (g : Env) : Out := (fe g).out fun p => match p.1 with
      | .val (.tuple ds) => (Res.of (putAll p.2 is ds)).out .nx
      | _ => .bad
def setIF (i : Nat) (fk fe : Env → Res (EV × Env)) (g : Env) : Out := match g[i]? with
      | some (.mu _ _) => (fzF fe g).out fun q => (fk q.2).out fun r => (Res.of (r.1.get r.2)).out fun kd => (Res.of (r.2.chg i (setIx kd q.1))).out .nx
      | _ => .bad
def augF (o : Bop) (i : Nat) (fe : Env → Res (EV × Env)) (g : Env) : Out := match g[i]? with
      | some (.va x) => (fe g).out fun p => (Res.of ((p.1.get p.2).bind fun y => augI o x y)).out fun r => (Res.of (p.2.put i (.va r))).out .nx
      | _ => .bad
def appF (i : Nat) (fe : Env → Res (EV × Env)) (g : Env) : Out := match g[i]? with
      | some (.mu _ (.list _)) => (fzF fe g).out fun q => (Res.of (q.2.chg i (appD q.1))).out .nx
      | _ => .bad
def iteF (ft : Env → Res (Bool × Env)) (f1 f2 : Env → Out) (g : Env) : Out := (ft g).out fun p => if p.1 then f1 p.2 else f2 p.2
def frF (t : Tg) (fi : Env → Res Walk) (fb : Env → Out) (g : Env) : Out := (fi g).out fun w => (forL (fun g x => (Res.of (bindT g t x)).out fun g1 => fb g1) w.its w.env).map fun g => unlock g w.lks
def trF (c : Nat) (fb fh : Env → Out) (g : Env) : Out := match fb g with
      | .exc c1 d g1 => if c1 = c then (fh g1).quiet else .exc c1 d g1
      | o => o

section
variable {K : PySem.W.Frag} {XC : XR} {W : WX} {Z Z' Z0 Z1 Z2 : Addr → Prop} {g g' g0 g1 g2 : Env} {σ σ' σ0 σ1 σ2 : St} {H H' H0 H1 H2 : Hp} {Q : VK} {D : Ends}
theorem NotIo.back {a : Addr} (n : NotIo g1 σ1 a) (X : Ext g σ Z H g1 σ1 Z1 H1) : NotIo g σ a := fun i k d hk e => by
  rcases hk with rfl | rfl
  · obtain ⟨⟨d', h1⟩, h2⟩ := X.io i d e
    rw [← h2]
    exact n i .io d' (.inl rfl) h1
  · obtain ⟨h1, h2⟩ := X.lk i d e
    rw [← h2]
    exact n i .lk d (.inr rfl) h1
theorem RtR.back {v : V} {fr : Bool} {d : PyData} (r : RtR K Z' H' g1 σ1 H1 v fr d) (X : Ext g σ Z H g1 σ1 Z1 H1) : RtR K Z' H' g σ H v fr d :=
  ⟨r.1, fun e => let ⟨a, h1, h2, h3, h4, h5⟩ := r.2 e
    ⟨a, h1, h2, h3, h4.elim (fun z => .inl (X.th a z)) (fun z => (X.on a z).symm), h5.back X⟩⟩
theorem AftS.later {r : Out} (h : AftS K XC W g σ Z H D r) (X : Ext g σ Z H g1 σ1 Z1 H1) : AftS K XC W g1 σ1 Z1 H1 D r := by
  cases r with
  | nx g' => exact fun σ' Z' H' x => h σ' Z' H' (X.trans x)
  | bk g' => exact fun σ' Z' H' x => h σ' Z' H' (X.trans x)
  | ct g' => exact fun σ' Z' H' x => h σ' Z' H' (X.trans x)
  | rt fr d g' => exact fun v σ' Z' H' x R r => h v σ' Z' H' (X.trans x) R (r.back X)
  | exc c d g' => exact fun cls oa σ' Z' H' x => h cls oa σ' Z' H' (X.trans x)
  | bad => exact h
theorem of_out {α : Type} {o : Option α} {f : α → Out} (h : AftS K XC W g σ Z H D ((Res.of o).out f)) : ∃ a, o = some a ∧ AftS K XC W g σ Z H D (f a) := by
  cases o with
  | none => exact h.elim
  | some a => exact ⟨a, rfl, h⟩
/-- an expression, then the rest -/
theorem aft_e {r : Res (EV × Env)} {f : EV × Env → Out} (h : AftS K XC W g σ Z H D (r.out f))
    (k : ∀ p, AftS K XC W g σ Z H D (f p) → ∀ v Z' H', Ext g σ Z H p.2 σ Z' H' → Rel K Z' p.2 σ H' → EVR K Z' p.2 σ H' v p.1 → Fr0 H v p.1 → Q v H') : AftE K XC W g σ Z H Q r := by
  cases r with
  | ok p => exact k p h
  | exc c d g' => exact fun cls oa Z' H' => h cls oa σ Z' H'
  | bad => exact h.elim
theorem aft_f {r : Res (PyData × Env)} {f : PyData × Env → Out} (h : AftS K XC W g σ Z H D (r.out f))
    (k : ∀ p, AftS K XC W g σ Z H D (f p) → ∀ v Z' H', Ext g σ Z H p.2 σ Z' H' → Rel K Z' p.2 σ H' → Rep K Z' H' v p.1 → Q v H') : AftF K XC W g σ Z H Q r := by
  cases r with
  | ok p => exact k p h
  | exc c d g' => exact fun cls oa Z' H' => h cls oa σ Z' H'
  | bad => exact h.elim
theorem aft_t {Qb : Bool → Hp → Prop} {r : Res (Bool × Env)} {f : Bool × Env → Out} (h : AftS K XC W g σ Z H D (r.out f))
    (k : ∀ p, AftS K XC W g σ Z H D (f p) → ∀ Z' H', Ext g σ Z H p.2 σ Z' H' → Rel K Z' p.2 σ H' → Qb p.1 H') : AftT K XC W g σ Z H Qb r := by
  cases r with
  | ok p => exact k p h
  | exc c d g' => exact fun cls oa Z' H' => h cls oa σ Z' H'
  | bad => exact h.elim

theorem asg_run {i : Nat} {own : Bool} {fe : Env → Res (EV × Env)} (h : TRS K XC W (asgF i own fe) D σ H) : tAsg (TRE K XC W fe) (gName i) D σ H := by
  obtain ⟨Z, g, R, h⟩ := h
  refine ⟨Z, g, R, aft_e h fun p h v Z1 H1 x1 R1 r1 f1 => ?_⟩
  cases own with
  | true =>
    rw [if_pos rfl] at h
    split at h
    · rename_i d hp
      rw [hp] at r1 f1
      obtain ⟨g2, e, h⟩ := of_out h
      obtain ⟨a, rfl, nz, no, c⟩ := r1
      obtain ⟨b, eb, hb⟩ := f1
      cases eb
      obtain ⟨x2, R2⟩ := put_ok (v := .ref a) R1 x1 e ⟨a, rfl, nz, c⟩ fun k d b e1 e2 => by
        cases e2
        exact ⟨no, .inr hb⟩
      exact h _ Z1 H1 x2 R2
    · exact h.elim
  | false =>
    rw [if_neg Bool.false_ne_true] at h
    obtain ⟨q, e, h⟩ := of_out h
    obtain ⟨g2, e2, h⟩ := of_out h
    obtain ⟨Z2, x2, R2, rr⟩ := frz x1 R1 r1 f1 (show p.1.fz p.2 = some (q.1, q.2) from e)
    obtain ⟨x3, R3⟩ := put_va R2 x2 e2 rr
    exact h _ Z2 H1 x3 R3
theorem unp_run {is : List Nat} {fe : Env → Res (EV × Env)} (h : TRS K XC W (unpF is fe) D σ H) : tAsg (TRE K XC W fe) (tgG K (.many is)) D σ H := by
  obtain ⟨Z, g, R, h⟩ := h
  refine ⟨Z, g, R, aft_e h fun p h v Z1 H1 x1 R1 r1 f1 => ?_⟩
  split at h
  · rename_i ds hp
    rw [hp] at r1
    obtain ⟨g2, e, h⟩ := of_out h
    exact bind_ok (t := .many is) (d := .tuple ds) R1 x1 r1 e fun σ' x2 R2 _ => h σ' Z1 H1 x2 R2
  · exact h.elim
theorem seq_run {f1 f2 : Env → Out} (h : TRS K XC W (fun g => (f1 g).seq f2) D σ H) : tSeq (TRS K XC W f1) (TRS K XC W f2) D σ H := by
  obtain ⟨Z, g, R, h⟩ := h
  try dsimp only at h
  refine ⟨Z, g, R, ?_⟩
  cases e : f1 g with
  | nx g1 =>
    rw [e] at h
    exact fun σ' Z' H' x R' => ⟨Z', g1, R', AftS.later h x⟩
  | bk g' => rw [e] at h; exact h
  | ct g' => rw [e] at h; exact h
  | rt fr d g' => rw [e] at h; exact h
  | exc c d g' => rw [e] at h; exact h
  | bad => rw [e] at h; exact h
theorem ite_run {ft : Env → Res (Bool × Env)} {f1 f2 : Env → Out} (h : TRS K XC W (iteF ft f1 f2) D σ H) : tIfS (TRT K XC W ft) (TRS K XC W f1) (TRS K XC W f2) D σ H := by
  obtain ⟨Z, g, R, h⟩ := h
  refine ⟨Z, g, R, aft_t h fun p h Z1 H1 x1 R1 => ?_⟩
  replace h := h.later x1
  cases hb : p.1 with
  | true => rw [hb, if_pos rfl] at h; rw [if_pos rfl]; exact ⟨Z1, p.2, R1, h⟩
  | false => rw [hb, if_neg Bool.false_ne_true] at h; rw [if_neg Bool.false_ne_true]; exact ⟨Z1, p.2, R1, h⟩
theorem ret_run {fe : Env → Res (EV × Env)} (h : TRS K XC W (fun g => (fe g).out fun p => retO p.1 p.2) D σ H) : tRet (TRE K XC W fe) D σ H := by
  obtain ⟨Z, g, R, h⟩ := h
  refine ⟨Z, g, R, aft_e h fun p h v Z1 H1 x1 R1 r1 f1 => ?_⟩
  have slot : ∀ a, H a = none → NotIo g σ a := fun a e i k d _ e1 e2 => by
    obtain ⟨a', e3, _, ct, _⟩ := R.mu e1
    obtain ⟨_, hc, _, _⟩ := ct.there
    rw [e2] at e3; cases e3
    rw [e] at hc; cases hc
  cases hp : p.1 with
  | val d =>
    rw [hp] at h r1
    exact h v σ Z1 H1 x1 R1 ⟨fun _ => r1, (fun e => nomatch e)⟩
  | nw d =>
    rw [hp] at h r1 f1
    obtain ⟨a, rfl, nz, no, c⟩ := r1
    obtain ⟨b, eb, hb⟩ := f1
    cases eb
    exact h _ σ Z1 H1 x1 R1 ⟨(fun e => nomatch e), fun _ => ⟨a, rfl, nz, c, .inl hb, slot a hb⟩⟩
  | loc i =>
    rw [hp] at h r1
    have rs : σ[i]? = some (some v) := r1
    simp only [retO] at h
    split at h
    · rename_i d hg
      obtain ⟨w, e1, q⟩ := R1.va hg
      rw [rs] at e1; cases e1
      exact h v σ Z1 H1 x1 R1 ⟨fun _ => q, (fun e => nomatch e)⟩
    · rename_i d hg
      obtain ⟨a, e1, nz, c, ow⟩ := R1.mu hg
      rw [rs] at e1; cases e1
      refine h _ σ Z1 H1 x1 R1 ⟨(fun e => nomatch e), fun _ => ⟨a, rfl, nz, c, (x1.on a ⟨i, ow⟩).symm, ?_⟩⟩
      refine NotIo.back (fun j k d' hk e2 e3 => ?_) x1
      have ej := R1.ds i j a ow ⟨⟨k, d', e2⟩, e3⟩
      subst ej
      rw [hg] at e2
      cases e2
      rcases hk with z | z <;> cases z
    · exact h.elim
theorem aug_run {o : Bop} {i : Nat} {fe : Env → Res (EV × Env)} {f : Int → Int → Int} (hf : ∀ x y r, augI o x y = some r → ∃ a b, x = .int a ∧ y = .int b ∧ r = .int (f a b)) (h : TRS K XC W (augF o i fe) D σ H) : tAug i (TRE K XC W fe) (ipI f) D σ H := by
  obtain ⟨Z, g, R, h⟩ := h
  unfold augF at h
  split at h
  · rename_i x hg
    obtain ⟨v, ev, rv⟩ := R.va hg
    refine ⟨v, ev, Z, g, R, aft_e h fun p h u Z1 H1 x1 R1 r1 f1 => ?_⟩
    obtain ⟨r, e, h1⟩ := of_out h
    obtain ⟨g2, e2, h2⟩ := of_out h1
    clear h h1
    cases ey : p.1.get p.2 with
    | none => rw [ey] at e; cases e
    | some y =>
      rw [ey] at e
      obtain ⟨a, b, rfl, rfl, rfl⟩ := hf x y r e
      cases rv
      have := (r1.rd R1 ey).int
      subst this
      refine ⟨a, b, rfl, rfl, ?_⟩
      obtain ⟨x2, R2⟩ := put_va R1 x1 e2 (.int (f a b))
      exact h2 _ Z1 H1 x2 R2
  · exact h.elim
theorem chg_ok {i : Nat} {f : PyData → Option PyData} (e : g.chg i f = some g') : ∃ k d d', (k = .ow ∨ k = .io) ∧ g[i]? = some (.mu k d) ∧ f d = some d' ∧ g' = g.set i (.mu k d') := by
  unfold Env.chg at e
  split at e
  · rename_i d hg
    cases hf : f d with
    | none => rw [hf] at e; cases e
    | some d' => rw [hf] at e; cases e; exact ⟨.ow, d, d', .inl rfl, hg, hf, rfl⟩
  · rename_i d hg
    cases hf : f d with
    | none => rw [hf] at e; cases e
    | some d' => rw [hf] at e; cases e; exact ⟨.io, d, d', .inr rfl, hg, hf, rfl⟩
  · cases e
theorem post_upd {a : Addr} {vs ws : List V} (R : ZOk Z H) (e : H a = some (.lst vs)) : Post Z H Z (upd H a (.lst ws)) fun b => b = a where
  pres := fun b o h n => by rw [upd_ne n]; exact h
  up := fun _ z => z
  zn := fun _ z => .inl z
  th := fun b h => by
    by_cases hb : b = a
    · subst hb; rw [upd_same] at h; cases h
    · rw [upd_ne hb] at h; exact h
  ex := fun b z => by
    by_cases hb : b = a
    · subst hb; rw [upd_same]; exact fun z => nomatch z
    · rw [upd_ne hb]; exact R b z
/-- a list's new content -/
theorem upd_chg {i : Nat} {k : Mk} {d : PyData} {a : Addr} {vs ws : List V} {ds : List PyData} (R : Rel K Z g σ H) (X : Ext g0 σ0 Z0 H0 g σ Z H) (hk : k = .ow ∨ k = .io) (e : g[i]? = some (.mu k d)) (es : σ[i]? = some (some (.ref a))) (eh : H a = some (.lst vs)) (nz : ¬ Z a)
    (r : Reps K Z H ws ds) : Ext g0 σ0 Z0 H0 (g.set i (.mu k (.list ds))) σ Z (upd H a (.lst ws)) ∧ Rel K Z (g.set i (.mu k (.list ds))) σ (upd H a (.lst ws)) := by
  obtain ⟨x2, R2, _⟩ := chg_io (d' := .list ds) R hk e es (post_upd (ws := ws) R.ex eh) nz (.lst upd_same (r.mv (Keeps.appD eh nz)))
  exact ⟨X.trans x2, R2⟩
theorem app_run {i : Nat} {fe : Env → Res (EV × Env)} (h : TRS K XC W (appF i fe) D σ H) : tDrop (tBM K "list" rAppend (tVar i) (tCons (TRF K XC W (fzF fe)) tNil)) D σ H := by
  obtain ⟨Z, g, R, h⟩ := h
  unfold appF at h
  split at h
  · rename_i k0 ds0 hg0
    obtain ⟨a, es0, _, c0, _⟩ := R.mu hg0
    obtain ⟨vs0, ha0, _⟩ := c0.list rfl
    refine ⟨.ref a, es0, .inl ⟨rfl, vs0, SqL.of ha0⟩, Z, g, R, aft_f h fun p h v Z1 H1 x1 R1 r1 => ?_⟩
    obtain ⟨g2, e, h⟩ := of_out h
    obtain ⟨k, d, d', hk, hg, hf, rfl⟩ := chg_ok e
    obtain ⟨a', es', nz, ct, ow⟩ := R1.mu hg
    rw [es0] at es'; cases es'
    cases ct with
    | dct _ _ => cases hf
    | @lst vs ds ha rs =>
    simp only [appD] at hf
    split at hf
    · rename_i hl
      cases hf
      refine ⟨a, vs, v, rfl, rfl, ha, ?_, ?_⟩
      · have l2 : line = sizeLine := line_eq
        rw [rs.len, ← l2]; exact hl
      · obtain ⟨x2, R2⟩ := upd_chg (ws := vs ++ [v]) R1 x1 hk hg es0 ha nz (rs.app (.cons r1 .nil))
        exact h σ Z1 _ x2 R2
    · cases hf
  · exact h.elim
theorem set_run {i : Nat} {fk fe : Env → Res (EV × Env)} (h : TRS K XC W (setIF i fk fe) D σ H) : tAsg (TRF K XC W (fzF fe)) (gSub (tVar i) (TRE K XC W fk) rSetL) D σ H := by
  obtain ⟨Z, g, R, h⟩ := h
  unfold setIF at h
  split at h
  · rename_i k0 d0 hg0
    obtain ⟨a, es0, _⟩ := R.mu hg0
    refine ⟨Z, g, R, aft_f h fun p h v Z1 H1 x1 R1 r1 => ?_⟩
    refine ⟨.ref a, es0, Z1, p.2, R1, ?_⟩
    replace h := h.later x1
    refine aft_e h fun q h u Z2 H2 x2 R2 r2 f2 => ?_
    obtain ⟨kd, ek, h⟩ := of_out h
    obtain ⟨g2, e, h⟩ := of_out h
    obtain ⟨k, d, d', hk, hg, hf, rfl⟩ := chg_ok e
    obtain ⟨a', es', nz, ct, ow⟩ := R2.mu hg
    rw [es0] at es'; cases es'
    cases ct with
    | dct _ _ => cases hf
    | @lst vs ds ha rs =>
    simp only [setIx] at hf
    split at hf
    · rename_i ki
      cases hj : L2.ixN ds.length ki with
      | none => rw [hj] at hf; cases hf
      | some j =>
        rw [hj] at hf
        cases hf
        have := (r2.rd R2 ek).int
        subst this
        refine ⟨a, vs, ki, j, rfl, rfl, ha, by rw [rs.len]; exact hj, ?_⟩
        obtain ⟨x3, R3⟩ := upd_chg (ws := vs.set j v) (ds := ds.set j p.1) R2 x2 hk hg es0 ha nz (rs.set (Rep.mv (R1.keeps x2) _ _ r1) j)
        exact h σ Z2 _ x3 R3
    · cases hf
  · exact h.elim
theorem whl_run {ft : Env → Res (Bool × Env)} {fb : Env → Out} {n : Nat} (h : TRS K XC W (whlL ft fb n) D σ H) : tWhile (TRT K XC W ft) (TRS K XC W fb) D σ H := by
  obtain ⟨Z, g, R, h⟩ := h
  generalize hr : whlL ft fb n g = r at h
  refine ⟨fun m σ' H' => ∃ Z' g', Rel K Z' g' σ' H' ∧ Ext g σ Z H g' σ' Z' H' ∧ whlL ft fb m g' = r, ⟨n, Z, g, R, Ext.refl, hr⟩, ?_⟩
  rintro m σ1 H1 ⟨Z1, g1, R1, x1, e1⟩
  refine ⟨Z1, g1, R1, ?_⟩
  cases m with
  | zero => rw [← e1] at h; exact h.elim
  | succ m =>
    have h1 := h.later x1
    rw [← e1] at h1
    simp only [whlL] at h1 e1
    cases ec : ft g1 with
    | bad => rw [ec] at h1; exact h1.elim
    | exc c d g' => rw [ec] at h1; exact fun cls oa Z' H' => h1 cls oa σ1 Z' H'
    | ok p =>
      rw [ec] at h1 e1
      simp only [Res.out_ok] at h1 e1
      intro Z2 H2 x2 R2
      cases hb : p.1 with
      | false =>
        rw [hb, if_neg Bool.false_ne_true] at h1
        rw [if_neg Bool.false_ne_true]
        exact h1 σ1 Z2 H2 x2 R2
      | true =>
        rw [hb, if_pos rfl] at h1 e1
        rw [if_pos rfl]
        refine ⟨fun σ' H' => ∃ Z' g', Rel K Z' g' σ' H' ∧ Ext g σ Z H g' σ' Z' H' ∧ whlL ft fb m g' = r, fun σ' H' n => ⟨m, Nat.lt_succ_self m, n⟩, Z2, p.2, R2, ?_⟩
        have h2 := h1.later x2
        have x12 := x1.trans x2
        cases eb : fb p.2 with
        | nx g3 => rw [eb] at e1; exact fun σ3 Z3 H3 x3 R3 => ⟨Z3, g3, R3, x12.trans x3, e1⟩
        | ct g3 => rw [eb] at e1; exact fun σ3 Z3 H3 x3 R3 => ⟨Z3, g3, R3, x12.trans x3, e1⟩
        | bk g3 => rw [eb] at h2; exact fun σ3 Z3 H3 x3 R3 => h2 σ3 Z3 H3 x3 R3
        | rt fr d g3 => rw [eb] at h2; exact h2
        | exc c d g3 => rw [eb] at h2; exact h2
        | bad => rw [eb] at h2; exact h2
/-- behind a walk: what was locked is free again -/
theorem AftS.unl {l : List (Nat × Mk)} {r : Out} (h : AftS K XC W g σ Z H D (r.map fun g => unlock g l)) (L : Locked g g1 l) (R : Rel K Z g σ H) : AftS K XC W g1 σ Z H D r := by
  have lo : ∀ {ga gb : Env} {l : List (Nat × Mk)} {a : Addr}, Locked ga gb l → (O gb σ a → O ga σ a) ∧ (NotIo gb σ a → NotIo ga σ a) := by
    intro ga gb l a L
    induction L with
    | nil => exact ⟨id, id⟩
    | @cons gc l i k d L e ih =>
      refine ⟨fun o => ih.1 ((O_kind e).mp o), fun n => ih.2 fun j m x hm ej es => ?_⟩
      by_cases hj : i = j
      · subst hj
        exact n i .lk d (.inr rfl) (List.getElem?_set_self (List.getElem?_eq_some_iff.mp e).1) es
      · exact n j m x hm (by rw [List.getElem?_set_ne hj]; exact ej) es
  cases r with
  | nx g' => exact fun σ' Z' H' x R' => let ⟨a, b, _⟩ := lock_ext L x R'; h σ' Z' H' a b
  | bk g' => exact fun σ' Z' H' x R' => let ⟨a, b, _⟩ := lock_ext L x R'; h σ' Z' H' a b
  | ct g' => exact fun σ' Z' H' x R' => let ⟨a, b, _⟩ := lock_ext L x R'; h σ' Z' H' a b
  | rt fr d g' => exact fun v σ' Z' H' x R' rr => let ⟨a, b, _⟩ := lock_ext L x R'; h v σ' Z' H' a b ⟨rr.1, fun e => let ⟨c, h1, h2, h3, h4, h5⟩ := rr.2 e; ⟨c, h1, h2, h3, h4.imp id (lo L).1, (lo L).2 h5⟩⟩
  | exc c d g' => exact fun cls oa σ' Z' H' x R' => let ⟨a, b, _⟩ := lock_ext L x R'; h cls oa σ' Z' H' a b
  | bad => exact h
theorem fr_run {t : Tg} {fi : Env → Res Walk} {fb : Env → Out} (h : TRS K XC W (frF t fi fb) D σ H) : tFor (TRI K XC W fi) (tgG K t) (TRS K XC W fb) D σ H := by
  obtain ⟨Z, g, R, h⟩ := h
  unfold frF at h
  refine ⟨Z, g, R, ?_⟩
  cases ea : fi g with
  | bad => rw [ea] at h; exact h
  | exc c d g' => rw [ea] at h; exact fun cls oa Z' H' => h cls oa σ Z' H'
  | ok w =>
  rw [ea] at h
  simp only [Res.out_ok] at h
  intro J Z1 H1 ge x1 lk R1 ⟨P, p1, wp⟩
  have Re : Rel K Z1 ge σ H1 := by
    have un : ∀ {gb : Env} {l : List (Nat × Mk)}, Locked ge gb l → Rel K Z1 gb σ H1 → Rel K Z1 ge σ H1 := by
      intro gb l L
      induction L with
      | nil => exact id
      | @cons gc l i k d L e ih =>
        intro R
        have hi := (List.getElem?_eq_some_iff.mp e).1
        have := R.kind (m := k) (d := d) (k := .lk) (List.getElem?_set_self hi)
        rw [List.set_set] at this
        have e2 : gc.set i (.mu k d) = gc := by
          apply List.ext_getElem?
          intro j
          by_cases hj : i = j
          · subst hj; rw [List.getElem?_set_self hi, e]
          · rw [List.getElem?_set_ne hj]
        rw [e2] at this
        exact ih this
    exact un lk R1
  have h1 : AftS K XC W w.env σ Z1 H1 D (forL (fun g x => (Res.of (bindT g t x)).out fun g1 => fb g1) w.its w.env) := (h.later x1).unl lk Re
  generalize hr : forL (fun g x => (Res.of (bindT g t x)).out fun g1 => fb g1) w.its w.env = r at h1
  refine ⟨fun i m σ' H' => m = w.its.length - i ∧ i ≤ w.its.length ∧ ∃ g' Z', Rel K Z' g' σ' H' ∧ Ext w.env σ Z1 H1 g' σ' Z' H' ∧ forL (fun g x => (Res.of (bindT g t x)).out fun g1 => fb g1) (w.its.drop i) g' = r, ⟨_, rfl, Nat.zero_le _, w.env, Z1, R1, Ext.refl, by simpa using hr⟩, ?_⟩
  rintro i m σ2 H2 ⟨rfl, hi, g2, Z2, R2, x2, e2⟩
  have p2 := wp.keep p1 R1 x2
  by_cases hlt : i < w.its.length
  · right
    have hd : w.its.drop i = w.its[i] :: w.its.drop (i + 1) := List.drop_eq_getElem_cons hlt
    rw [hd] at e2
    obtain ⟨go, yl⟩ := wp.go p2 R2 i _ (List.getElem?_eq_getElem hlt)
    refine ⟨go, fun σ' H' => (w.its.length - (i + 1) = w.its.length - (i + 1) ∧ i + 1 ≤ w.its.length ∧ ∃ g' Z', Rel K Z' g' σ' H' ∧ Ext w.env σ Z1 H1 g' σ' Z' H' ∧ forL (fun g x => (Res.of (bindT g t x)).out fun g1 => fb g1) (w.its.drop (i + 1)) g' = r), fun σ' H' n => ⟨_, by omega, n⟩, fun x H' y => ?_⟩
    obtain ⟨hx, rx⟩ := yl x H' y
    simp only [forL] at e2
    cases eb : bindT g2 t w.its[i] with
    | none => rw [eb] at e2; rw [← e2] at h1; exact h1.elim
    | some g3 =>
      rw [eb] at e2
      simp only [Res.of_some, Res.out_ok] at e2
      refine bind_ok (R2.hx hx) hx.ext rx eb fun σ3 x3 R3 hw => ?_
      have x23 := x2.trans x3
      have h3 := h1.later x23
      rw [← e2] at h3
      refine ⟨Z2, g3, R3, ?_⟩
      cases ef : fb g3 with
      | nx g4 => rw [ef] at e2; exact fun σ4 Z4 H4 x4 R4 => ⟨rfl, hlt, g4, Z4, R4, x23.trans x4, e2⟩
      | ct g4 => rw [ef] at e2; exact fun σ4 Z4 H4 x4 R4 => ⟨rfl, hlt, g4, Z4, R4, x23.trans x4, e2⟩
      | bk g4 => rw [ef] at h3; exact fun σ4 Z4 H4 x4 R4 => h3 σ4 Z4 H4 x4 R4
      | rt fr d g4 => rw [ef] at h3; exact h3
      | exc c d g4 => rw [ef] at h3; exact h3
      | bad => rw [ef] at h3; exact h3
  · left
    have hi' : i = w.its.length := by omega
    subst hi'
    refine ⟨wp.stop p2 R2, ?_⟩
    rw [List.drop_length] at e2
    rw [← e2] at h1
    exact h1 σ2 Z2 H2 x2 R2
theorem try_run {c : Nat} {cv : Value} {fb fh : Env → Out} (hx : ∀ c1 d cls oa H, XC c1 d cls oa H → PySem.W.exmOne K cls cv = some (decide (c1 = c))) (h : TRS K XC W (trF c fb fh) D σ H) :
    TRS K XC (wOnly K cv (fun _ _ _ => TRS K XC WF fh) W D) fb D σ H := by
  obtain ⟨Z, g, R, h⟩ := h
  unfold trF at h
  refine ⟨Z, g, R, ?_⟩
  cases e : fb g with
  | nx g1 => rw [e] at h; exact h
  | bk g' => rw [e] at h; exact h
  | ct g' => rw [e] at h; exact h
  | rt fr d g' => rw [e] at h; exact h
  | bad => rw [e] at h; exact h
  | exc c1 d g1 =>
    rw [e] at h
    simp only at h
    intro cls oa σ' Z' H' x R' xc
    refine ⟨decide (c1 = c), hx c1 d cls oa H' xc, fun hb a ha => ?_, fun hb => ?_⟩
    · rw [if_pos (by simpa using hb)] at h
      refine ⟨Z', g1, R', ?_⟩
      have h2 := h.later x
      cases eh : fh g1 with
      | nx g1 => rw [eh] at h2; exact h2
      | bk g' => rw [eh] at h2; exact h2
      | ct g' => rw [eh] at h2; exact h2
      | rt fr d g' => rw [eh] at h2; exact h2
      | bad => rw [eh] at h2; exact h2
      | exc c2 d2 g2 => rw [eh] at h2; exact h2.elim
    · rw [if_neg (by simpa using hb)] at h
      exact h cls oa σ' Z' H' x R' xc
end
end PK
end

section
set_option Elab.async false
set_option linter.all false
set_option maxRecDepth 100000
set_option maxHeartbeats 4000000
/-! PkPar: a, b, .. = x, y, ..; the statements' rules. -/
namespace PK
open PySem PySem.Spec PyProof.Rows L2
open PySem (PyData)

inductive ParR (K : PySem.W.Frag) (Z : Addr → Prop) (H0 H : Hp) : List (Nat × Bool) → List V → List PyData → List Addr → Prop
  | nil : ParR K Z H0 H [] [] [] []
  | own {i : Nat} {a : Addr} {d : PyData} {is : List (Nat × Bool)} {vs : List V} {ds : List PyData} {as : List Addr} : ¬ Z a → Ct K Z H a d → H0 a = none → a ∉ as → ParR K Z H0 H is vs ds as → ParR K Z H0 H ((i, true) :: is) (.ref a :: vs) (d :: ds) (a :: as)
  | va {i : Nat} {v : V} {d : PyData} {is : List (Nat × Bool)} {vs : List V} {ds : List PyData} {as : List Addr} : Rep K Z H v d → ParR K Z H0 H is vs ds as → ParR K Z H0 H ((i, false) :: is) (v :: vs) (d :: ds) as
def AftP (K : PySem.W.Frag) (XC : XR) (W : WX) (is : List (Nat × Bool)) (g : Env) (σ : St) (Z : Addr → Prop) (H : Hp) (Q : List V → Hp → Prop) : Res (List PyData × Env) → Prop
  | .ok p => ∀ vs as Z' H', Ext g σ Z H p.2 σ Z' H' → Rel K Z' p.2 σ H' → ParR K Z' H H' is vs p.1 as → (∀ a ∈ as, ¬ O p.2 σ a) → Q vs H'
  | .exc c d g' => ∀ cls oa Z' H', Ext g σ Z H g' σ Z' H' → Rel K Z' g' σ H' → XC c d cls oa H' → W cls oa σ H'
  | .bad => False
def TRP (K : PySem.W.Frag) (XC : XR) (W : WX) (is : List (Nat × Bool)) (f : Env → Res (List PyData × Env)) : TA := fun σ H Q => ∃ Z g, Rel K Z g σ H ∧ AftP K XC W is g σ Z H Q (f g)
def setAll (σ : St) : List (Nat × Bool) → List V → St
  | (i, _) :: is, v :: vs => setAll (σ.set i (some v)) is vs
  | _, _ => σ
def parF (is : List (Nat × Bool)) (fp : Env → Res (List PyData × Env)) (g : Env) : Out := (fp g).out fun p => (Res.of (parAll p.2 is p.1)).out .nx
def ownP (fa : Env → Res (EV × Env)) (fp : Env → Res (List PyData × Env)) (g : Env) : Res (List PyData × Env) := (fa g).bind fun p => match p.1 with
    | .nw d => (fp p.2).bind fun q => .ok (d :: q.1, q.2)
    | _ => .bad
def vaP (fa : Env → Res (EV × Env)) (fp : Env → Res (List PyData × Env)) (g : Env) : Res (List PyData × Env) := (fzF fa g).bind fun p => (fp p.2).bind fun q => .ok (p.1 :: q.1, q.2)

section
variable {K : PySem.W.Frag} {XC : XR} {W : WX} {Z Z' Z0 Z1 Z2 : Addr → Prop} {g g' g0 g1 g2 : Env} {σ σ' σ0 σ1 σ2 : St} {H H' H0 H1 H2 : Hp} {D : Ends} {is : List (Nat × Bool)} {vs : List V} {ds : List PyData} {as : List Addr}
theorem ParR.len (h : ParR K Z H0 H is vs ds as) : vs.length = is.length := by
  induction h with
  | nil => rfl
  | own _ _ _ _ _ ih => simp [ih]
  | va _ _ ih => simp [ih]
theorem ParR.fresh (h : ParR K Z H0 H is vs ds as) : ∀ a ∈ as, H0 a = none := by
  induction h with
  | nil => exact fun a z => nomatch z
  | own _ _ e _ _ ih => exact fun a z => (List.mem_cons.mp z).elim (fun q => q ▸ e) (ih a)
  | va _ _ ih => exact ih
theorem ParR.mono (h : ParR K Z H0 H is vs ds as) (k : ∀ a, H0 a = none → H1 a = none) : ParR K Z H1 H is vs ds as := by
  induction h with
  | nil => exact .nil
  | own a b c d _ ih => exact .own a b (k _ c) d ih
  | va a _ ih => exact .va a ih
theorem par_ok : ∀ {is : List (Nat × Bool)} {vs : List V} {ds : List PyData} {as : List Addr} {g : Env} {σ : St}, Rel K Z g σ H → Ext g0 σ0 Z0 H0 g σ Z H → parAll g is ds = some g' → ParR K Z H0 H is vs ds as → (∀ a ∈ as, ¬ O g σ a) →
    Ext g0 σ0 Z0 H0 g' (setAll σ is vs) Z H ∧ Rel K Z g' (setAll σ is vs) H := by
  intro is
  induction is with
  | nil =>
    intro vs ds as g σ R X e r no
    cases r
    cases e
    exact ⟨X, R⟩
  | cons i0 is ih =>
    intro vs ds as g σ R X e r no
    cases r with
    | own nz c hn na r =>
      rename_i i a d vs ds as
      simp only [parAll, if_true] at e
      cases e1 : g.put i (.mu .ow d) with
      | none => rw [e1] at e; cases e
      | some g1 =>
        rw [e1] at e
        have no1 : ¬ O g σ a := no a List.mem_cons_self
        obtain ⟨X1, R1⟩ := put_ok (v := .ref a) R X e1 ⟨a, rfl, nz, c⟩ fun k d' b e1 e2 => by
          cases e2
          exact ⟨no1, .inr hn⟩
        refine ih R1 X1 e r fun b hb o => ?_
        have nb : ¬ O g σ b := no b (List.mem_cons_of_mem _ hb)
        have ne : b ≠ a := fun z => na (z ▸ hb)
        obtain ⟨hi, rfl, _, _⟩ := put_some e1
        obtain ⟨j, ⟨k, d', e2⟩, e3⟩ := o
        by_cases hj : i = j
        · subst hj
          rw [List.getElem?_set_self (by rw [R.len]; exact hi)] at e3
          cases e3
          exact ne rfl
        · rw [List.getElem?_set_ne hj] at e2 e3
          exact nb ⟨j, ⟨k, d', e2⟩, e3⟩
    | va rp r =>
      rename_i i v d vs ds
      simp only [parAll, Bool.false_eq_true, if_false] at e
      cases e1 : g.put i (.va d) with
      | none => rw [e1] at e; cases e
      | some g1 =>
        rw [e1] at e
        obtain ⟨X1, R1⟩ := put_va R X e1 rp
        refine ih R1 X1 e r fun b hb o => ?_
        obtain ⟨hi, rfl, _, _⟩ := put_some e1
        obtain ⟨j, ⟨k, d', e2⟩, e3⟩ := o
        by_cases hj : i = j
        · subst hj
          rw [List.getElem?_set_self hi] at e2
          cases e2
        · rw [List.getElem?_set_ne hj] at e2 e3
          exact no b hb ⟨j, ⟨k, d', e2⟩, e3⟩
theorem own_run {fa : Env → Res (EV × Env)} {fp : Env → Res (List PyData × Env)} {i : Nat} {Q : List V → Hp → Prop} (h : TRP K XC W ((i, true) :: is) (ownP fa fp) σ H Q) : tCons (TRE K XC W fa) (TRP K XC W is fp) σ H Q := by
  obtain ⟨Z, g, R, h⟩ := h
  unfold ownP at h
  refine ⟨Z, g, R, ?_⟩
  cases ea : fa g with
  | bad => rw [ea] at h; exact h
  | exc c d g' => rw [ea] at h; exact h
  | ok p =>
    rw [ea] at h
    simp only [Res.bind_ok] at h
    intro v Z1 H1 x1 R1 r1 f1
    split at h
    · rename_i d hp
      rw [hp] at r1 f1
      refine ⟨Z1, p.2, R1, ?_⟩
      cases eb : fp p.2 with
      | bad => rw [eb] at h; exact h
      | exc c d g' => rw [eb] at h; exact fun cls oa Z' H' x => h cls oa Z' H' (x1.trans x)
      | ok q =>
        rw [eb] at h
        simp only [Res.bind_ok] at h
        intro vs as Z2 H2 x2 R2 r2 no
        obtain ⟨a, rfl, nz, no1, c⟩ := r1.mv R1 x2
        obtain ⟨b, eb', hb⟩ := f1
        cases eb'
        have hsome : H1 a ≠ none := by
          obtain ⟨_, e', _, _, ct⟩ := r1
          cases e'
          obtain ⟨_, hc, _, _⟩ := ct.there
          rw [hc]; exact fun z => nomatch z
        exact h (.ref a :: vs) (a :: as) Z2 H2 (x1.trans x2) R2 (.own nz c hb (fun z => hsome (r2.fresh a z)) (r2.mono fun b z => x1.th b z)) fun b hb => (List.mem_cons.mp hb).elim (fun q => q ▸ no1) (no b)
    · exact h.elim
theorem vaP_run {fa : Env → Res (EV × Env)} {fp : Env → Res (List PyData × Env)} {i : Nat} {Q : List V → Hp → Prop} (h : TRP K XC W ((i, false) :: is) (vaP fa fp) σ H Q) : tCons (TRF K XC W (fzF fa)) (TRP K XC W is fp) σ H Q := by
  obtain ⟨Z, g, R, h⟩ := h
  unfold vaP at h
  refine ⟨Z, g, R, ?_⟩
  cases ea : fzF fa g with
  | bad => rw [ea] at h; exact h
  | exc c d g' => rw [ea] at h; exact h
  | ok p =>
    rw [ea] at h
    simp only [Res.bind_ok] at h
    intro v Z1 H1 x1 R1 r1
    refine ⟨Z1, p.2, R1, ?_⟩
    cases eb : fp p.2 with
    | bad => rw [eb] at h; exact h
    | exc c d g' => rw [eb] at h; exact fun cls oa Z' H' x => h cls oa Z' H' (x1.trans x)
    | ok q =>
      rw [eb] at h
      simp only [Res.bind_ok] at h
      intro vs as Z2 H2 x2 R2 r2 no
      exact h (v :: vs) as Z2 H2 (x1.trans x2) R2 (.va (Rep.mv (R1.keeps x2) _ _ r1) (r2.mono fun b z => x1.th b z)) no
theorem aft_p {Q : List V → Hp → Prop} {r : Res (List PyData × Env)} {f : List PyData × Env → Out} (h : AftS K XC W g σ Z H D (r.out f))
    (k : ∀ p, AftS K XC W g σ Z H D (f p) → ∀ vs as Z' H', Ext g σ Z H p.2 σ Z' H' → Rel K Z' p.2 σ H' → ParR K Z' H H' is vs p.1 as → (∀ a ∈ as, ¬ O p.2 σ a) → Q vs H') : AftP K XC W is g σ Z H Q r := by
  cases r with
  | ok p => exact k p h
  | exc c d g' => exact fun cls oa Z' H' => h cls oa σ Z' H'
  | bad => exact h.elim
theorem par_run {fp : Env → Res (List PyData × Env)} (h : TRS K XC W (parF is fp) D σ H) : TRP K XC W is fp σ H fun vs H1 => vs.length = is.length ∧ ∀ H2, HX H1 H2 → D.nx (setAll σ is vs) H2 := by
  obtain ⟨Z, g, R, h⟩ := h
  refine ⟨Z, g, R, aft_p h fun p h vs as Z1 H1 x1 R1 r1 no => ⟨r1.len, fun H2 hx => ?_⟩⟩
  obtain ⟨g2, e, h⟩ := of_out h
  obtain ⟨x2, R2⟩ := par_ok R1 x1 e r1 no
  exact h _ Z1 H2 (x2.trans hx.ext) (R2.hx hx)
theorem tgs_all {Qn : St → Hp → Prop} : ∀ {is : List (Nat × Bool)} {vs : List V} {σ : St}, vs.length = is.length → Qn (setAll σ is vs) H → tgsG (is.map (·.1)) vs σ H Qn
  | [], [], _, _, h => ⟨rfl, h⟩
  | [], _ :: _, _, e, _ => by simp at e
  | _ :: _, [], _, e, _ => by simp at e
  | (i, b) :: is, v :: vs, σ, e, h => ⟨v, vs, rfl, tgs_all (is := is) (vs := vs) (by simpa using e) h⟩
end

section
variable {X : Cx} {XC : XR} {W : WX} {a b c e tg : Expr} {es ts : List Expr} {fa fb fc fe : Env → Res (EV × Env)} {fp : Env → Res (List PyData × Env)} {is : List (Nat × Bool)} {pos : Pos}
theorem p_nil : PA X [] (TRP X.K XC W [] fun g => .ok ([], g)) := ⟨fun pos pins s σ H Q I h => by
  obtain ⟨Z, g, R, h⟩ := h
  exact pa_nil.run pos pins s σ H Q I (h [] [] Z H Ext.refl R .nil fun a z => nomatch z)⟩
theorem p_own {i : Nat} (ha : PE X a (TRE X.K XC W fa)) (hr : PA X es (TRP X.K XC W is fp)) (hs : starEach (a :: es) X.env = (false, eval a X.env) :: starEach es X.env) : PA X (a :: es) (TRP X.K XC W ((i, true) :: is) (ownP fa fp)) :=
  ⟨fun pos pins s σ H Q I h => (pa_cons ha hr hs).run pos pins s σ H Q I (own_run h)⟩
theorem p_va {i : Nat} (ha : PE X a (TRE X.K XC W fa)) (hr : PA X es (TRP X.K XC W is fp)) (hs : starEach (a :: es) X.env = (false, eval a X.env) :: starEach es X.env) : PA X (a :: es) (TRP X.K XC W ((i, false) :: is) (vaP fa fp)) :=
  ⟨fun pos pins s σ H Q I h => (pa_cons (s_frz ha) hr hs).run pos pins s σ H Q I (vaP_run h)⟩
/-- stored from the left -/
theorem ss_par {kt k2 : Nat} {pt p2 : Pos} (hc : X.calm = true) (hl : is.length ≤ 1000) (ha : PA X es (TRP X.K XC W is fp)) (hg : PGs X ts (tgsG (is.map (·.1)))) (hn : (assignEach ts X.env).length = is.length) (hst : (assignEach ts X.env).findIdx? (·.1) = none)
    (hw : swappedStores [.Tuple ts kt pt] (.Tuple es k2 p2) X.env = pure none) : PS X (.Assign [.Tuple ts kt pt] (.Tuple es k2 p2) pos) (TRS X.K XC W (parF is fp)) := by
  refine ⟨fun pins s σ H D I h => (ps_asg (pe_tup ha) (pg_tup hc hg hn hst) rfl hw rfl).run pins s σ H D I ?_⟩
  obtain ⟨Z, g, R, h⟩ := par_run h
  refine ⟨Z, g, R, ?_⟩
  have mono : ∀ {r : Res (List PyData × Env)} {Q Q' : List V → Hp → Prop}, AftP X.K XC W is g σ Z H Q r → (∀ vs H1, Q vs H1 → Q' vs H1) → AftP X.K XC W is g σ Z H Q' r := fun {r Q Q'} h q => by
    cases r with
    | ok p => exact fun vs as Z' H' x R r n => q _ _ (h vs as Z' H' x R r n)
    | exc c d g' => exact h
    | bad => exact h
  refine mono h fun vs H1 ⟨q1, q2⟩ => ⟨by rw [sizeLine_eq]; omega, fun p hp => ?_⟩
  exact ⟨p, vs, rfl, SqT.of upd_same, q1, tgs_all q1 (q2 _ (HX.new hp))⟩
/-- two plain locals -/
theorem ss_par2 {i j : Nat} {bi bj : Bool} {x y : Str} {px py pt pt2 : Pos} {kt k2 : Nat} (hc : X.calm = true) (hN : X.N.Nodup) (hi : X.N[i]? = some x) (hj : X.N[j]? = some y) (hij : i ≠ j)
    (hx : X.env.scope.names.lookup x = some .local) (hy : X.env.scope.names.lookup y = some .local) (ha : PA X [a, b] (TRP X.K XC W [(i, bi), (j, bj)] fp))
    (hw : swappedStores [.Tuple [.Name x px, .Name y py] kt pt] (.Tuple [a, b] k2 pt2) X.env = pure (some [x, y])) :
    PS X (.Assign [.Tuple [.Name x px, .Name y py] kt pt] (.Tuple [a, b] k2 pt2) pos) (TRS X.K XC W (parF [(i, bi), (j, bj)] fp)) := by
  refine ⟨fun pins s σ H D I h => (ps_par hc hN hi hj hij hx hy ha hw rfl).run pins s σ H D I ?_⟩
  obtain ⟨Z, g, R, h⟩ := par_run h
  refine ⟨Z, g, R, ?_⟩
  cases e : fp g with
  | bad => rw [e] at h; exact h
  | exc c d g' => rw [e] at h; exact h
  | ok p =>
    rw [e] at h
    intro vs as Z' H' x R r n
    obtain ⟨q1, q2⟩ := h vs as Z' H' x R r n
    match vs, q1 with
    | [v, w], _ => exact ⟨v, w, rfl, q2 H' HX.refl⟩
theorem ss_par3 {i j l : Nat} {bi bj bl : Bool} {x y z : Str} {px py pz pt pt2 : Pos} {kt k2 : Nat} (hc : X.calm = true) (hN : X.N.Nodup) (hi : X.N[i]? = some x) (hj : X.N[j]? = some y) (hl : X.N[l]? = some z) (hij : i ≠ j) (hil : i ≠ l) (hjl : j ≠ l)
    (hx : X.env.scope.names.lookup x = some .local) (hy : X.env.scope.names.lookup y = some .local) (hz : X.env.scope.names.lookup z = some .local) (ha : PA X [a, b, c] (TRP X.K XC W [(i, bi), (j, bj), (l, bl)] fp))
    (hw : swappedStores [.Tuple [.Name x px, .Name y py, .Name z pz] kt pt] (.Tuple [a, b, c] k2 pt2) X.env = pure (some [x, y, z])) :
    PS X (.Assign [.Tuple [.Name x px, .Name y py, .Name z pz] kt pt] (.Tuple [a, b, c] k2 pt2) pos) (TRS X.K XC W (parF [(i, bi), (j, bj), (l, bl)] fp)) := by
  refine ⟨fun pins s σ H D I h => (ps_par3 hc hN hi hj hl hij hil hjl hx hy hz ha hw rfl).run pins s σ H D I ?_⟩
  obtain ⟨Z, g, R, h⟩ := par_run h
  refine ⟨Z, g, R, ?_⟩
  cases e : fp g with
  | bad => rw [e] at h; exact h
  | exc c d g' => rw [e] at h; exact h
  | ok p =>
    rw [e] at h
    intro vs as Z' H' x R r n
    obtain ⟨q1, q2⟩ := h vs as Z' H' x R r n
    match vs, q1 with
    | [u, v, w], _ => exact ⟨u, v, w, rfl, q2 H' HX.refl⟩

/-! ### statements -/
variable {t u : TS} {f1 f2 fb' : Env → Out} {st : Stmt} {rest body : List Stmt}
theorem ss_seq (h1 : PS X st (TRS X.K XC W f1)) (h2 : PSs X rest (TRS X.K XC W f2)) : PSs X (st :: rest) (TRS X.K XC W fun g => (f1 g).seq f2) :=
  ⟨fun pins s σ H D I h => (pss_cons h1 h2).run pins s σ H D I (seq_run h)⟩
theorem ss_nil : PSs X [] (TRS X.K XC W fun g => .nx g) := ⟨fun pins s σ H D I h => by
  obtain ⟨Z, g, R, h⟩ := h
  exact pss_nil.run pins s σ H D I (h σ Z H Ext.refl R)⟩
theorem ss_pass : PS X (.Pass pos) (TRS X.K XC W fun g => .nx g) := ⟨fun pins s σ H D I h => by
  obtain ⟨Z, g, R, h⟩ := h
  exact ps_pass.run pins s σ H D I (h σ Z H Ext.refl R)⟩
theorem ss_brk : PS X (.Break pos) (TRS X.K XC W fun g => .bk g) := ⟨fun pins s σ H D I h => by
  obtain ⟨Z, g, R, h⟩ := h
  exact ps_break.run pins s σ H D I (h σ Z H Ext.refl R)⟩
theorem ss_cnt : PS X (.Continue pos) (TRS X.K XC W fun g => .ct g) := ⟨fun pins s σ H D I h => by
  obtain ⟨Z, g, R, h⟩ := h
  exact ps_continue.run pins s σ H D I (h σ Z H Ext.refl R)⟩
theorem ss_asg {i : Nat} {x : Str} {own : Bool} {pos' : Pos} (hN : X.N.Nodup) (hi : X.N[i]? = some x) (hx : Loc X.env.scope x) (hf : X.fn x = true ∨ X.env.scope.names.lookup x = some .local) (he : PE X e (TRE X.K XC W fe)) (hs : swapsWith e (some (.Name x pos')) pos.line X.env = pure false) :
    PS X (.Assign [.Name x pos'] e pos) (TRS X.K XC W (asgF i own fe)) := ⟨fun pins s σ H D I h => (ps_set hN hi hx he hs hf).run pins s σ H D I (asg_run h)⟩
theorem ss_asgC {i : Nat} {own : Bool} (hp : PS X st (tAsg (TRE X.K XC W fe) (gName i))) : PS X st (TRS X.K XC W (asgF i own fe)) := ⟨fun pins s σ H D I h => hp.run pins s σ H D I (asg_run h)⟩
theorem ss_unp {k : Nat} {is : List Nat} {p2 : Pos} (hc : X.calm = true) (he : PE X e (TRE X.K XC W fe)) (hg : PGs X ts (tgsG is)) (hn : (assignEach ts X.env).length = is.length) (hst : (assignEach ts X.env).findIdx? (·.1) = none)
    (hs : swapsWithSole [.Tuple ts k p2] e pos.line X.env = pure false) (hw : swappedStores [.Tuple ts k p2] e X.env = pure none) : PS X (.Assign [.Tuple ts k p2] e pos) (TRS X.K XC W (unpF is fe)) :=
  ⟨fun pins s σ H D I h => (ps_asg he (pg_tup hc hg hn hst) hs hw rfl).run pins s σ H D I (unp_run h)⟩
theorem ss_set {i : Nat} {x : Str} {p1 p2 : Pos} (hi : X.N[i]? = some x) (hv : Vis X.env.scope x) (hd : (x == ("__debug__" : Str)) = false) (hcd : (x == ("__classdict__" : Str)) = false) (hk : PE X b (TRE X.K XC W fb)) (he : PE X e (TRE X.K XC W fe))
    (hs : swapsWithSole [.Subscript (.Name x p1) b p2] e pos.line X.env = pure false) (hw : swappedStores [.Subscript (.Name x p1) b p2] e X.env = pure none)
    (ha : ∀ v, assign (.Subscript (.Name x p1) b p2) X.env v = (do
      let ov ← holding [v] (eval (.Name x p1) X.env)
      let iv ← holding [v, ov] (eval b X.env)
      standAt p2
      holding [v, ov, iv] (setItem ov iv v)
      release [v, ov, iv] [])) : PS X (.Assign [.Subscript (.Name x p1) b p2] e pos) (TRS X.K XC W (setIF i fb fe)) :=
  ⟨fun pins s σ H D I h => (ps_asg (s_frz he) (pg_sub (pe_var hi hv hd hcd) hk set_list ha) hs hw rfl).run pins s σ H D I (set_run h)⟩
theorem ss_aug {o : Bop} {i : Nat} {x : Str} {pos' : Pos} (ho : o = .add ∨ o = .sub) (hN : X.N.Nodup) (hi : X.N[i]? = some x) (hx : Loc X.env.scope x) (hf : X.fn x = true ∨ X.env.scope.names.lookup x = some .local) (he : PE X e (TRE X.K XC W fe)) :
    PS X (.AugAssign (.Name x pos') (bopOp o) e pos) (TRS X.K XC W (augF o i fe)) := ⟨fun pins s σ H D I h => by
  rcases ho with rfl | rfl
  · refine (ps_aug hN hi hx he ip_add hf).run pins s σ H D I (aug_run (fun x y r e => ?_) h)
    cases x <;> cases y <;> first | (cases e; done) | skip
    cases e
    exact ⟨_, _, rfl, rfl, rfl⟩
  · refine (ps_aug hN hi hx he ip_sub hf).run pins s σ H D I (aug_run (fun x y r e => ?_) h)
    cases x <;> cases y <;> first | (cases e; done) | skip
    cases e
    exact ⟨_, _, rfl, rfl, rfl⟩⟩
theorem ss_app {i : Nat} {x : Str} {p1 apos cpos : Pos} (hi : X.N[i]? = some x) (hv : Vis X.env.scope x) (hd : (x == ("__debug__" : Str)) = false) (hcd : (x == ("__classdict__" : Str)) = false) (he : PE X e (TRE X.K XC W fe))
    (hl : (apos.endLine == cpos.line) = true) (hs : starEach [e] X.env = (false, eval e X.env) :: starEach [] X.env) : PS X (.Expr (.Call (.Attribute (.Name x p1) "append" apos) [e] [] cpos) pos) (TRS X.K XC W (appF i fe)) :=
  ⟨fun pins s σ H D I h => (ps_expr (pe_bm PySem.F.plainAttrs_list PySem.F.slot_list_append PySem.F.type_list_append mt_append (pe_var hi hv hd hcd) (pa_cons (s_frz he) pa_nil hs) rfl (by rw [hs]; rfl) hl hs rfl) rfl).run pins s σ H D I (app_run h)⟩
theorem ss_ex (he : PE X e (TRE X.K XC W fe)) (hs : swapsWith e none pos.line X.env = pure false) : PS X (.Expr e pos) (TRS X.K XC W fun g => (fe g).out fun p => .nx p.2) := ⟨fun pins s σ H D I h => by
  refine (ps_expr he hs).run pins s σ H D I ?_
  obtain ⟨Z, g, R, h⟩ := h
  exact ⟨Z, g, R, aft_e h fun p h v Z1 H1 x1 R1 r1 f1 => h σ Z1 H1 x1 R1⟩⟩
theorem ss_ite {p q : List Stmt} {ft : Env → Res (Bool × Env)} (hc : PT X c (TRT X.K XC W ft)) (ha : PSs X p (TRS X.K XC W f1)) (hb : PSs X q (TRS X.K XC W f2)) : PS X (.If c p q pos) (TRS X.K XC W (iteF ft f1 f2)) :=
  ⟨fun pins s σ H D I h => (ps_if hc ha hb).run pins s σ H D I (ite_run h)⟩
theorem ss_whl {n : Nat} {ft : Env → Res (Bool × Env)} (hp : PassesOwn (model X.prog X.w) X.A X.env X.xe) (hc : PT X c (TRT X.K XC W ft)) (hb : PSs X body (TRS X.K XC W f1)) : PS X (.While c body [] pos) (TRS X.K XC W (whlL ft f1 n)) :=
  ⟨fun pins s σ H D I h => (ps_while hp hc hb).run pins s σ H D I (whl_run h)⟩
theorem ss_fr {t : Tg} {fi : Env → Res Walk} (hp : PassesOwn (model X.prog X.w) X.A X.env X.xe) (hc : X.calm = true) (hi : PI X tg e (TRI X.K XC W fi)) (hg : PG X tg (tgG X.K t)) (hb : PSs X body (TRS X.K XC W f1)) (hs : ∀ x, foldedSetIterable e X.env x = pure x) :
    PS X (.For tg e body [] pos) (TRS X.K XC W (frF t fi f1)) := ⟨fun pins s σ H D I h => (ps_for hp hc hi hg hb hs).run pins s σ H D I (fr_run h)⟩
theorem ss_ret (he : PE X e (TRE X.K XC W fe)) : PS X (.Return (some e) pos) (TRS X.K XC W fun g => (fe g).out fun p => retO p.1 p.2) := ⟨fun pins s σ H D I h => (ps_ret he).run pins s σ H D I (ret_run h)⟩
theorem ss_retN : PS X (.Return none pos) (TRS X.K XC W fun g => .rt false .none g) := ⟨fun pins s σ H D I h => by
  obtain ⟨Z, g, R, h⟩ := h
  exact ps_retN.run pins s σ H D I (h .non σ Z H Ext.refl R ⟨fun _ => .non, (fun e => nomatch e)⟩)⟩
theorem ss_raise {k : Nat} {Cc : Addr} {call : Expr} (hc : X.calm = true) (tk : Takes X W) (hm : PMk X call fun σ H Q => TRF X.K XC W (fzF fe) σ H fun _ H1 => Q (.ref Cc) none H1) (hx : ∀ d H, XC k d (.ref Cc) none H) :
    PS X (.Raise (some call) none pos) (TRS X.K XC W fun g => (fzF fe g).out fun q => .exc k q.1 q.2) := ⟨fun pins s σ H D I h => by
  refine (ps_raise hc tk hm).run pins s σ H D I ?_
  obtain ⟨Z, g, R, h⟩ := h
  exact ⟨Z, g, R, aft_f h fun p h v Z1 H1 x1 R1 r1 => h _ none σ Z1 H1 x1 R1 (hx _ _)⟩⟩
/-- a clause whose suite is one return of a constant -/
theorem ss_try {k : Nat} {x : Str} {cv : Value} {d : PyData} {v : V} {np pos' rp : Pos} (hs : X.stack = X.env :: X.outer) (hf : X.env.frame = some X.env.locals) (hn : Names X x cv) (tk : Takes X W) (hx : ∀ c1 d cls oa H, XC c1 d cls oa H → PySem.W.exmOne X.K cls cv = some (decide (c1 = k)))
    (hb : ∀ (W : WX) (pn : List (Addr × Obj)) (xe : Value → Shared → Prop), Takes (X.tr pn xe) W → PassesOwn (model X.prog X.w) X.A X.env xe → PSs (X.tr pn xe) body (TRS X.K XC W f1))
    (he : ∀ Y : Cx, PE Y e (tC v)) (hv : ∀ K Z H, Rep K Z H v d) : PS X (.Try body [.ExceptHandler (some (.Name x np)) none [.Return (some e) rp] pos'] [] [] pos) (TRS X.K XC W (trF k f1 fun g => .rt false d g)) := by
  refine ⟨fun pins s σ H D I h => (ps_try_only (tb := fun W => TRS X.K XC W f1) (ts := fun _ _ _ => TRS X.K XC WF fun g => .rt false d g) hs hf hn tk hb (fun a oe cls d0 pn _ _ => ?_)).run pins s σ H D I (try_run hx h)⟩
  refine pss_one ⟨fun pins s σ H D I h => (ps_ret (he _)).run pins s σ H D I ?_⟩
  obtain ⟨Z, g, R, h⟩ := h
  exact h v σ Z H Ext.refl R ⟨fun _ => hv _ _ _, (fun e => nomatch e)⟩
end
end PK
end

section
set_option Elab.async false
set_option linter.all false
set_option maxRecDepth 100000
set_option maxHeartbeats 4000000
/-! PkErr: an own error whose __init__ says super().__init__(x) and keeps x in a field of the same name. -/
namespace PK
open PySem PySem.Spec PyProof.Rows L2 PySem.W PySem.Calls
open PySem (PyData)

/-! ### the text of __init__ -/
def erA (x : Str) (p1 p2 : Pos) : Arguments := { posonlyargs := [], args := [{ arg := "self", annotation := none, pos := p1 }, { arg := x, annotation := none, pos := p2 }], vararg := none, kwonlyargs := [], kw_defaults := [], kwarg := none, defaults := [] }
def erB (x : Str) (q1 q2 q3 q4 q5 q6 q7 q8 q9 q10 : Pos) : List Stmt :=
  [.Expr (.Call (.Attribute (.Call (.Name "super" q1) [] [] q2) "__init__" q3) [.Name x q4] [] q5) q6, .Assign [.Attribute (.Name "self" q7) x q8] (.Name x q9) q10]
def erS (x : Str) : Scope := { kind := .function, names := [(PySem.Str.ofString "self", .local), (x, .local), (PySem.Str.ofString "__class__", .free), (PySem.Str.ofString "super", .globalImplicit)], isGenerator := false, isCoroutine := false, more := [] }
/-- what the written part says of the class, at C, of its __init__, at fI -/
structure ErT (prog : Program) (K : Frag) (x : Str) (C fI : Addr) : Prop where
  nx : x ≠ "self" ∧ (x == ("__debug__" : Str)) = false ∧ x ≠ "__class__" ∧ x ≠ "super" ∧ x ≠ "__classdict__"
  cls : ∃ nm q N bs bm sn sub ab col dd k0 k1 k2 k3 k5, K.lookup C = some (excClassObj nm q C N bs bm true sn sub ab col dd k0 k1 k2 k3 k5 "ValueError.__new__") ∧ HandSPX.refsVE bm = true
  sa : findIn K (.ref C) "__setattr__" = some (some (.builtin "object.__setattr__"))
  ga : findIn K (.ref C) "__getattribute__" = some (some (.builtin "BaseException.__getattribute__"))
  gg : findIn K (.ref C) "__getattr__" = some none
  noN : findIn K (.ref C) x = some none
  iC : findIn K (.ref C) "__init__" = some (some (.ref fI))
  tC : typeIn K (.ref fI) = some (.type "function")
  kC : keepIn K (.ref C) = true
  exC : subIn K (.ref C) (.type "BaseException") = some true
  veC : subIn K (.ref C) (.type "ValueError") = some true
  tyC : typeIn K (.ref C) = some (.type "type")
  hdC : hasDictIn K C = true
  selfC : mroIn K C (.ref C) = some true
  sup : ks_superIn K C C "__init__" = some (some (.builtin "ValueError.__init__"))
  nosup : nsIn K mainGlobals "super" = some none
  noany : nsIn K cStatics "thirdparty.any" = some none
  bd : ∀ (qual : Str) (body : List Stmt) (p1 p2 : Pos) (doc pm : Value) (an : Option Addr) (cd ct : Value) (cc : Addr) (s : Shared) (e v : Value), BindsTo s (ksFn "__init__" qual (erA x p1 p2) body (erS x) .none .none doc pm an cd ct cc) ⟨[e, v], []⟩ [("self", e), (x, v)]
  top : (prog.main.scope.names.lookup ("super" : Str)).isSome = false
  fn : ∃ (oc ccl cl : Value) (od cdd cld : Option Addr) (doc pm : Value) (an : Option Addr) (cda cc : Addr) (ct : Value) (osl ccs csl : Array (Option Value)) (vs : Array Value) (file qual : Str) (tf : Tok) (p1 p2 q1 q2 q3 q4 q5 q6 q7 q8 q9 q10 : Pos),
    K.lookup fI = some ⟨oc, od, .func (ksFn "__init__" qual (erA x p1 p2) (erB x q1 q2 q3 q4 q5 q6 q7 q8 q9 q10) (erS x) .none .none doc pm an (.ref cda) ct cc), osl⟩ ∧ codeIn K (.ref cda) qual = true ∧
    K.lookup cda = some ⟨ccl, cdd, .fields vs, ccs⟩ ∧ vs[2]? = some (.str file tf) ∧ ((prog.main.file : Str) == file) = true ∧ K.lookup cc = some ⟨cl, cld, .cell (some (.ref C)), csl⟩ ∧ (q3.endLine == q5.line) = true
/-- what __init__ leaves of a fresh exception at x -/
structure ErEnd (h h' : Heap) (e C dx t1 : Addr) (x : Str) (v : Value) : Prop where
  keep : ∀ b o, b ≠ e → h.get? b = some o → h'.get? b = some o
  obj : h'.get? e = some { cls := .ref C, dict := some dx, data := .fields #[.ref t1, .none, .none, .none, .bool false, .none] }
  dbig : h.objs.size ≤ dx
  dne : dx ≠ e
  ns : h'.Ns1 dx (fun y => if y = x then some v else none)
section
variable {prog : Program} {w : World} {A : Around} {E : Value → Shared → Prop} {R : Result → Shared → Prop} {s : Shared} {K : Frag} {mg mb : Str → Option Value} {C fI : Addr} {x : Str}
theorem kb_keep {h h' : Heap} {a : Addr} (X : K.In h) (ha : K.lookup a = none) (k : ∀ b o, b ≠ a → h.get? b = some o → h'.get? b = some o) : K.In h' := fun b o e => k b o (fun z => by rw [z, ha] at e; cases e) (X b o e)
/-- the wrapper of ValueError.__init__, bound, is called -/
theorem mw_call {nm q : Str} {N : Addr} {bs bm : List Value} {sn : List Str} {sub : List Value} {ab : Bool} {col : Option Bool} {dd : Option Addr} {k0 k1 k2 k3 k5 : Option Value} {u e t0 : Addr} {rest : List Value} {Q : Value → Shared → Prop}
    (hC : s.heap.get? C = some (excClassObj nm q C N bs bm true sn sub ab col dd k0 k1 k2 k3 k5 "ValueError.__new__")) (he : s.heap.get? e = some (HandSPX.excO C t0)) (hu : s.heap.get? u = some (kxs_mw "ValueError.__init__" e)) (hr : rest.length ≤ sizeLine)
    (hq : ∀ h' t1, (∀ b o, b ≠ e → s.heap.get? b = some o → h'.get? b = some o) → h'.get? e = some (HandSPX.excO C t1) → Q .none { s with heap := h' }) :
    wpAny (model prog w) A (call (.ref u) rest) Q E s := by
  obtain ⟨hh, g, d, tk, os⟩ := s
  have FB := PySem.F.excBase_ValueError
  refine wpAny_call (codeAny_of_tree ?_)
  show wpAny _ A.in1 (callAny (.ref u) ⟨rest, []⟩) _ _ _
  simp only [callAny]
  refine wpAny_bind (wpAny_load hu ?_)
  simp only [kxs_mw, show (Value.type "method-wrapper" == Value.type "method" || Value.type "method-wrapper" == Value.type "builtin_function_or_method" || Value.type "method-wrapper" == Value.type "method-wrapper") = true by decide, if_true]
  refine KFB.if_so (by decide) ?_
  refine wpAny_bind (check_bound_init FB.toExcCallFacts hC he rfl ?_)
  refine wpAny_bind (wpAny_pure (wpAny_pure ?_))
  refine ⟨plainId_quiet FB.init.plain _, codeAny_builtin FB.initEntry ?_⟩
  exact exc_init_tree (cls := .ref C) (t0 := t0) (dv := none) (c2 := .none) (c3 := .none) (b4 := .bool false) he hr fun h' k e' _ => hq h' _ k e'
theorem er_init (T : ErT prog K x C fI) {e t0 : Addr} {v : Value} (X : K.In s.heap) (G : s.heap.Ns mainGlobals mg) (hb : s.heap.Ns builtinsNs mb) (hbb : ∀ x : Str, x ≠ "__name__" → mb x = bootBuiltins x) (hlim : s.heap.NoLimit)
    (he : s.heap.get? e = some (HandSPX.excO C t0)) (hne : K.lookup e = none) (hroom : A.depth < recursionLimit)
    (hq : ∀ h' tk dx t1, ErEnd s.heap h' e C dx t1 x v → R (.ok (.ret .none)) { s with heap := h', toks := tk }) :
    codeAny (model prog w) A (.call (.ref fI) ⟨[.ref e, v], []⟩) R s := by
  obtain ⟨oc, ccl, cl, od, cdd, cld, doc, pm, an, cda, cc, ct, osl, ccs, csl, vs, file, qual, tf, p1, p2, q1, q2, q3, q4, q5, q6, q7, q8, q9, q10, ho, hcd, hcda, hvs, hfile, hcc, hpos⟩ := T.fn
  obtain ⟨nm, q, N, bs, bm, sn, sub, ab, col, dd, k0, k1, k2, k3, k5, hC, hbm⟩ := T.cls
  obtain ⟨n1, n2, n3, n4, n5⟩ := T.nx
  have hcl : clsIn K C = some { name := nm, bases := bs, mro := .ref C :: bm, ns := N, qualname := q, hasDict := true, slotNames := sn, subclasses := sub, abstract := ab, collection := col, hasDel := false } := by unfold clsIn; rw [hC] <;> rfl
  have e1 : (x == PySem.Str.ofString "self") = false := by simpa using n1
  have e2 : (PySem.Str.ofString "__class__" == x) = false := by simpa using fun z => n3 z.symm
  have e3 : (PySem.Str.ofString "super" == x) = false := by simpa using fun z => n4 z.symm
  have d1 : (PySem.Str.ofString "__class__" == PySem.Str.ofString "self") = false := by decide
  have d2 : (PySem.Str.ofString "super" == PySem.Str.ofString "self") = false := by decide
  have d3 : (PySem.Str.ofString "super" == PySem.Str.ofString "__class__") = false := by decide
  have lx : (erS x).names.lookup x = some .local := by simp [erS, List.lookup, e1]
  have ls : (erS x).names.lookup ("self" : Str) = some .local := by simp [erS, List.lookup]
  have lc : (erS x).names.lookup ("__class__" : Str) = some .free := by simp [erS, List.lookup, e2, d1]
  have lsu : (erS x).names.lookup ("super" : Str) = some .globalImplicit := by simp [erS, List.lookup, e3, d2, d3]
  refine ks_codeAny_call_defAt (binds := [("self", .ref e), (x, v)]) hroom (X _ _ ho) rfl hlim (codeRec_of X hcd) rfl (T.bd qual _ p1 p2 doc pm an (.ref cda) ct cc s (.ref e) v) ?_ ?_ (fun h₁ hns hk₁ => ?_) rfl rfl rfl
  · intro y hy
    have hy : y ∈ (erS x).names := hy
    simp only [erS, List.mem_cons, List.not_mem_nil, or_false] at hy
    rcases hy with rfl | rfl | rfl | rfl <;> exact fun z => nomatch z
  · intro y hy
    simp only [List.mem_cons, List.not_mem_nil, or_false] at hy
    rcases hy with rfl | rfl
    · exact ls
    · exact lx
  · obtain ⟨hp, g, dr, tk, os⟩ := s
    have X₁ : K.In h₁ := X.keeps hk₁
    have he₁ := hk₁ _ _ he
    have hL : hp.objs.size ≠ e := Nat.ne_of_gt (Heap.lt_size he)
    have mx : (fun y => List.lookup y [(("self" : Str), Value.ref e), (x, v)].reverse) x = some v := by simp [List.lookup]
    have ms : (fun y => List.lookup y [(("self" : Str), Value.ref e), (x, v)].reverse) "self" = some (.ref e) := by
      have : ((PySem.Str.ofString "self") == x) = false := by simpa using fun z => n1 z.symm
      simp [List.lookup, this]
    have xC : e ≠ C := fun z => by rw [z, hC] at hne; cases hne
    have hev : ∀ env : PySem.Env, eval (.Call (.Attribute (.Call (.Name "super" q1) [] [] q2) "__init__" q3) [.Name x q4] [] q5) env = (do
        let ov ← attributeBase (.Call (.Name "super" q1) [] [] q2) "__init__" env (eval (.Call (.Name "super" q1) [] [] q2) env)
        standAt q3.atName
        let (f, first) ← holding [ov] (getMethod ov "__init__" (do return (← importBound (.Call (.Name "super" q1) [] [] q2) env).getD true))
        callWith q5 f first (backTo q5 (starEach [.Name x q4] env)) []) := fun env => by
      have hp : methodCallPos true (.Call (.Name "super" q1) [] [] q2) env q3 q5 = pure q5 := by
        unfold methodCallPos
        rw [hpos]
        rfl
      show (do
        let ov ← attributeBase (.Call (.Name "super" q1) [] [] q2) "__init__" env (eval (.Call (.Name "super" q1) [] [] q2) env)
        standAt q3.atName
        let (f, first) ← holding [ov] (getMethod ov "__init__" (do return (← importBound (.Call (.Name "super" q1) [] [] q2) env).getD true))
        let callPos ← methodCallPos true (.Call (.Name "super" q1) [] [] q2) env q3 q5
        callWith callPos f first (backTo q5 (starEach [.Name x q4] env)) []) = _
      rw [hp]
      rfl
    refine ks_wpAt_execs_cons (ks_wpAt_Expr_any (ks_wpAt_MethodCall (he := hev _) (ks_wpAt_super_base lsu lc rfl rfl (X₁ _ _ ho) rfl rfl rfl (X₁ _ _ hcda) rfl hvs hfile T.top ?_)))
    refine ks_loadName_global rfl lsu (loadGlobal_builtin (mg := mg) (mb := mb) (G.keeps hk₁) (mg_none_of X G T.nosup) (hb.keeps hk₁) ((hbb _ (by decide +kernel)).trans (by decide +kernel)) ⟨rfl, ?_⟩)
    refine wpAny_loadName_free rfl lc rfl ⟨_, X₁ _ _ hcc, rfl⟩ ?_
    refine wpAny_loadName_local rfl ls hns ms ?_
    refine ks_wpAny_isType_cls (X₁ _ _ hC) rfl ⟨rfl, ?_⟩
    refine ks_wpAny_call_super (X₁ _ _ hC) rfl he₁ rfl (fun c z => nomatch z) (looks_mroIn X₁ T.selfC) (fun h₂ hso hk₂ => ?_)
    have X₂ : K.In h₂ := X₁.keeps hk₂
    have he₂ := hk₂ _ _ he₁
    have sup := T.sup
    unfold ks_superIn at sup
    rw [hcl] at sup
    have I₂ : InstAt h₂ e (HandSPX.excO C t0) C none := ⟨he₂, rfl, rfl, trivial⟩
    refine kxs_getMethod kxs_ValueError (l₀ := .ref C :: bm) hso (looks_opaque X₂ T.noany) ((looks_clsIn X₂ hcl).andThen .now) rfl X₂ sup (I₂.type.andThen (looks_subIn X₂ T.veC)) xC rfl ?_
    have hL₂ : h₂.Ns hp.objs.size _ := hns.keeps hk₂
    have pk : ∀ b o, h₂.get? b = some o → (h₂.push (kxs_mw "ValueError.__init__" e)).get? b = some o := fun b o z => Heap.get?_push_of_some _ z
    refine kxs_callWith (i := "ValueError.__init__") (x := e) rfl (evalArgs_plain (Calls.spliced_cons (wpAny_Name (wpAny_loadName_local rfl lx (hL₂.keeps pk) mx ?_) n2)))
    refine Calls.spliced_nil ⟨Heap.get?_push_at rfl rfl, ?_⟩
    refine mw_call (X₂.keeps pk _ _ hC) (pk _ _ he₂) (Heap.get?_push_at rfl rfl) (by rw [sizeLine_eq]; exact (by decide : 1 ≤ 16777216)) fun h₃ t1 k₃ he₃ => ?_
    have k13 : ∀ b o, b ≠ e → h₁.get? b = some o → h₃.get? b = some o := fun b o z q => k₃ b o z (pk _ _ (hk₂ _ _ q))
    have X₃ : K.In h₃ := kb_keep X₁ hne k13
    have hL₃ : h₃.Ns hp.objs.size _ := hns.at fun o q => k13 _ o hL q
    refine wpAt_of_wpAny ?_
    refine wpAny_execs_cons (plainObj_wpAny_Assign_Attribute ?_)
    refine wpAny_Name (wpAny_loadName_local rfl lx hL₃ mx ?_) n2
    refine wpAny_Name (wpAny_loadName_local rfl ls hL₃ ms ?_) (by decide)
    refine set_plain X₃ (ox := HandSPX.excO C t1) (od := none) ⟨he₃, rfl, rfl, trivial⟩ T.sa ?_
    refine HandSPX.exc_osa X₃ he₃ hcl (show HandSPX.refsVE (.ref C :: bm) = true from hbm) rfl T.noN (fun h₄ tk₄ dx k₄ dn dne he₄ hn₄ => ?_)
    show wpAny _ _ (execs _ _) _ _ _
    have sz : hp.objs.size ≤ h₃.objs.size := by
      have := Heap.lt_size (show h₃.get? hp.objs.size = some _ from (hL₃.choose_spec.choose_spec.choose_spec.1))
      exact Nat.le_of_lt this
    exact wpAny_execs_nil (hq h₄ tk₄ dx t1 ⟨fun b o z q => k₄ b o z (k13 b o z (hk₁ b o q)), he₄, Nat.le_trans sz dn, dne, hn₄⟩)
/-- an error made -/
structure ErMade (h h' : Heap) (e C d : Addr) (x : Str) (v : Value) : Prop where
  keep : ∀ b o, h.get? b = some o → h'.get? b = some o
  new : h.objs.size ≤ e
  obj : ∃ oe vs, h'.get? e = some oe ∧ oe.cls = .ref C ∧ oe.dict = some d ∧ oe.data = .fields vs ∧ vs[1]? = some .none
  dbig : h.objs.size ≤ d
  dne : d ≠ e
  ns : h'.Ns1 d (fun y => if y = x then some v else none)
theorem er_made (T : ErT prog K x C fI) {v : Value} (X : K.In s.heap) (G : s.heap.Ns mainGlobals mg) (hb : s.heap.Ns builtinsNs mb) (hbb : ∀ x : Str, x ≠ "__name__" → mb x = bootBuiltins x) (hlim : s.heap.NoLimit) (hroom : A.depth + 1 < recursionLimit)
    (hq : ∀ h' tk e d, ErMade s.heap h' e C d x v → R (.ok (.ret (.ref e))) { s with heap := h', toks := tk }) : codeAny (model prog w) A (.call (.ref C) ⟨[v], []⟩) R s := by
  obtain ⟨nm, q, N, bs, bm, sn, sub, ab, col, dd, k0, k1, k2, k3, k5, hC, hbm⟩ := T.cls
  obtain ⟨hp, g, dr, tk, os⟩ := s
  have k : ∀ b o, hp.get? b = some o → ((hp.push (kdv_tup [v])).push (HandSPX.excO C hp.objs.size)).get? b = some o := fun b o e => Heap.get?_push_of_some _ (Heap.get?_push_of_some _ e)
  have hget : ((hp.push (kdv_tup [v])).push (HandSPX.excO C hp.objs.size)).get? (hp.objs.size + 1) = some (HandSPX.excO C hp.objs.size) := by heap_get
  have hnx : K.lookup (hp.objs.size + 1) = none := by
    cases e : K.lookup (hp.objs.size + 1) with
    | none => rfl
    | some o => exact absurd (Nat.lt_of_succ_lt (Heap.lt_size (show hp.get? (hp.objs.size + 1) = some o from X _ _ e))) (Nat.lt_irrefl _)
  refine HandSPX.call_own PySem.F.excBase_ValueError (fun Y => HandSPX.refsVE_contains Y bm hbm) (X _ _ hC) (looks_findIn X T.iC) (fun self => bind_fn X self T.tC) (by rw [sizeLine_eq]; exact (by decide : 1 ≤ 16777216)) ?_
  refine er_init (s := ⟨(hp.push (kdv_tup [v])).push (HandSPX.excO C hp.objs.size), g, dr, tk, os⟩) T (X.keeps k) (G.keeps k) (hb.keeps k) hbb (hlim.keeps k) hget hnx hroom fun h' tk' dx t1 M => ?_
  have old : ∀ b o, hp.get? b = some o → h'.get? b = some o := fun b o e => M.keep b o (Nat.ne_of_lt (Nat.lt_succ_of_lt (Heap.lt_size e))) (k b o e)
  have z : hp.objs.size + 1 + 1 ≤ dx := by
    have := M.dbig
    first
      | exact this
      | (rw [Heap.size_push, Heap.size_push] at this; exact this)
      | (simpa only [Heap.size_push] using this)
  exact ⟨rfl, hq h' tk' (hp.objs.size + 1) dx ⟨old, Nat.le_succ _, ⟨_, _, M.obj, rfl, rfl, rfl, rfl⟩, Nat.le_trans (Nat.le_trans (Nat.le_succ _) (Nat.le_succ _)) z, M.dne, M.ns⟩⟩
end
theorem relO_one {x : Str} {v : V} {u : Value} (r : RelV v u) (f : Str) : RelO (List.lookup f [(x, v)]) (if f = x then some u else none) := by
  by_cases h : f = x
  · subst h
    simp only [List.lookup, beq_self_eq_true, if_true]
    exact r
  · have e : (f == x) = false := by simpa using h
    simp only [List.lookup, e, if_neg h]
    trivial
section
variable {X : Cx} {C fI : Addr} {x : Str}
/-- N(e): the error holds what e gives -/
def tMkEr (C : Addr) (x : Str) (ta : TA) : St → Hp → XK → Prop := fun σ H Q => ta σ H fun vs H1 => ∃ v, vs = [v] ∧ ∀ d, H1 d = none → Q (.ref C) (some d) (upd H1 d (.xd [(x, v)]))
theorem pmk_er {n : Str} {a : Expr} {ta : TA} {p pos : Pos} {k : Nat} (T : ErT X.prog X.K x C fI) (gC : X.mg n = some (.ref C)) (hr : Room k X.A) (ha : PA X [a] ta) (hg : Gl X n) (hdb : (n == ("__debug__" : Str)) = false)
    (he : starEach (a :: []) X.env = (false, eval a X.env) :: starEach [] X.env) : PMk X (.Call (.Name n p) [a] [] pos) (tMkEr C x ta) := by
  intro pins s σ H Q I h
  refine wpAny_Call_Name_kw (ld_glob I hg gC ?_ hdb)
  refine PySem.W.callWith_K (h₀ := X.base) I.ok.mod.kin T.kC (thn (ha.run pos pins s σ H _ I h) fun us s1 hh => ?_) he rfl
  obtain ⟨vs, H1, I1, r1, v, ev, q1⟩ := hh
  subst ev
  refine ⟨I1.kIn, ?_⟩
  cases r1 with
  | cons rv rn =>
    rename_i v' us'
    cases rn
    obtain ⟨mb, nb, hbb⟩ := I1.mod.blt
    have hG : s1.heap.Ns mainGlobals X.mg := I1.mod.glob.keeps I1.bk
    have hB : s1.heap.Ns builtinsNs mb := nb.keeps I1.bk
    have hlim := I1.nolimit
    obtain ⟨hp, g, dr, tk, os⟩ := s1
    refine wpAny_call (er_made T I1.kIn hG hB hbb hlim (by have := hr.dp; omega) fun h' tk' e d M => ?_)
    show MkP X pins σ Q (.ref e) ⟨h', g, dr, tk', os⟩
    obtain ⟨oe, fv, hoe, hc, hd, hdat, h1⟩ := M.obj
    obtain ⟨B, g1, g2⟩ := restrict h' fun b => decide (b ≠ e)
    have gk : ∀ b, b ≠ e → B.get? b = h'.get? b := fun b hb => g1 b (decide_eq_true hb)
    have ge : B.get? e = none := g2 e (by simp)
    have old : ∀ b o, hp.get? b = some o → B.get? b = some o := fun b o q => (gk b (Nat.ne_of_lt (Nat.lt_of_lt_of_le (Heap.lt_size q) M.new))).trans (M.keep b o q)
    have ob : ObjOk X.prog X.w (upd H1 d (.xd [(x, v)])) B d (.xd [(x, v)]) := ⟨_, M.ns.at (fun o q => (gk d M.dne).trans q), fun f => relO_one rv f⟩
    have J : Inv X pins σ (upd H1 d (.xd [(x, v)])) ⟨B, g, dr, tk', os⟩ := I1.laid (t' := tk') old M.dbig ob
    refine ⟨e, oe, fv, ⟨B, g, dr, tk', os⟩, _, .ref C, some d, rfl, J, fun b o q => ?_, ge, hoe, ⟨hc, hd⟩, hdat, h1, ?_, rfl, I1.bare, raises_own T.exC T.tyC, q1 d (I1.hok.fresh M.dbig)⟩
    · by_cases hb : b = e
      · have q' : B.get? b = some o := q
        rw [hb, ge] at q'
        cases q'
      · exact (gk b hb).symm.trans q
    · rw [upd_ne (Ne.symm M.dne)]
      exact I1.hok.fresh M.new
end
end PK
end

section
set_option Elab.async false
set_option linter.all false
set_option maxRecDepth 100000
set_option maxHeartbeats 4000000
/-! PkTry: try with several clauses, each with a name or without. -/
namespace PK
open PySem PySem.Spec PyProof.Rows L2
open PySem (PyData)

/-- a clause as it is wished for: the class, the slot of its name, what its suite does -/
structure Cls1 where
  c : Value
  i : Option Nat
  ts : Addr → Value → Option Addr → TS
def endsAt (i : Nat) (D : Ends) : Ends := { nx := fun σ H => D.nx (σ.set i none) H, rt := D.rt, bk := fun σ H => D.bk (σ.set i none) H, ct := fun σ H => D.ct (σ.set i none) H }
def Cls1.go (k : Cls1) (a : Addr) (cls : Value) (d : Option Addr) (D : Ends) (σ : St) (H : Hp) : Prop := match k.i with
  | none => k.ts a cls d D σ H
  | some i => k.ts a cls d (endsAt i D) (σ.set i (some (.ref a))) H
/-- what the clauses wish of an exception, one after the other -/
def wMix (K : PySem.W.Frag) (Wout : WX) (D : Ends) : List Cls1 → WX
  | [] => Wout
  | k :: ks => fun cls d σ H => ∃ b, PySem.W.exmOne K cls k.c = some b ∧ (b = true → ∀ a, H a = none → k.go a cls d D σ H) ∧ (b = false → wMix K Wout D ks cls d σ H)
/-- the suite of a clause, over what is held -/
def SuiteOk (X : Cx) (ss : List Stmt) (ts : Addr → Value → Option Addr → TS) : Prop :=
  ∀ (a : Addr) (oe : Obj) (cls : Value) (d : Option Addr) (pn : List (Addr × Obj)), Zc cls d oe → (∃ vs, oe.data = .fields vs) → PSs (X.suite a ((a, oe) :: pn)) ss (ts a cls d)
inductive Clauses (X : Cx) : List ExceptHandler → List Cls1 → Prop
  | nil : Clauses X [] []
  | plain {x : Str} {c : Value} {ts : Addr → Value → Option Addr → TS} {b₀ : Stmt} {ss : List Stmt} {np p : Pos} {hs : List ExceptHandler} {ks : List Cls1} (hc : Names X x c) (su : SuiteOk X (b₀ :: ss) ts) (r : Clauses X hs ks) :
      Clauses X (.ExceptHandler (some (.Name x np)) none (b₀ :: ss) p :: hs) (⟨c, none, ts⟩ :: ks)
  | named {x n : Str} {i : Nat} {c : Value} {ts : Addr → Value → Option Addr → TS} {b₀ : Stmt} {ss : List Stmt} {np p : Pos} {hs : List ExceptHandler} {ks : List Cls1} (hc : Names X x c) (hN : X.N.Nodup) (hi : X.N[i]? = some n) (hl : X.env.kindOf n = some .local)
      (su : SuiteOk X (b₀ :: ss) ts) (r : Clauses X hs ks) : Clauses X (.ExceptHandler (some (.Name x np)) (some n) (b₀ :: ss) p :: hs) (⟨c, some i, ts⟩ :: ks)
section
variable {X : Cx} {Wout : WX} {D : Ends} {pins : List (Addr × Obj)} {σ : St} {H : Hp} {cls : Value} {d : Option Addr} {a : Addr} {B : Heap}
/-- an exception that is in flight here: its object, what stands free of it -/
theorem flight_obj {h : Heap} (fl : HandSPX.FlyingZ B (X.env :: X.outer) a (Zc cls d) h) (hf : X.env.frame = some X.env.locals) : ∃ oe vs, h.get? a = some oe ∧ Zc cls d oe ∧ oe.data = .fields vs ∧ a ≠ X.env.locals ∧ a ∉ X.fs := by
  obtain ⟨oe, vs, he, hz, hd⟩ := fl.there
  have off : a ∉ frs (X.env :: X.outer) := fun hm => by
    obtain ⟨_, o', e', hn⟩ := fl.2.2.1.mem hm
    rw [he] at e'
    cases e'
    exact hn _ hd
  refine ⟨oe, vs, he, hz, hd, fun z => off (List.mem_filterMap.mpr ⟨X.env, List.mem_cons_self, by rw [hf, z]⟩), fun hm => ?_⟩
  obtain ⟨e, he, q⟩ := List.mem_filterMap.mp hm
  exact off (List.mem_filterMap.mpr ⟨e, List.mem_cons_of_mem _ he, q⟩)
/-- the clauses are asked, one after the other -/
theorem clauses_ok (hs : X.stack = X.env :: X.outer) (hf : X.env.frame = some X.env.locals) (tk : Takes X Wout) (ok : X.Ok) {sI s' : Shared} (J : Inv X pins σ H sI) (nb : ∀ b o, sI.heap.get? b = some o → b ∉ frs X.stack → B.get? b = some o) (os : s'.os = sI.os) (ag : AllBare s'.gens)
    (up : sI.heap.UpToSlots s'.heap) (na : H a = none) (fl : HandSPX.FlyingZ B (X.env :: X.outer) a (Zc cls d) s'.heap) :
    ∀ {hds : List ExceptHandler} {ks : List Cls1}, Clauses X hds ks → wMix X.K Wout D ks cls d σ H → wpAny (model X.prog X.w) X.A (handleBy (.ref a) X.env hds) (SP X pins D) X.xe s' := by
  obtain ⟨hp, g, dr, tk', os'⟩ := s'
  have at_ : ∀ h, HandSPX.FlyingZ B (X.env :: X.outer) a (Zc cls d) h → sI.heap.UpToSlots h → Inv X pins σ H { ({ heap := hp, gens := g, drawn := dr, toks := tk', os := os' } : Shared) with heap := h } := fun h f u => J.landed nb f.1 u os ag
  have J0 := at_ hp fl up
  obtain ⟨oe, vs, he, hz, hd, nL, nF⟩ := flight_obj fl hf
  have S0 := J0.suite he hd na nL nF
  -- a clause's class is looked up and asked
  have asked : ∀ {x : Str} {c : Value} {np : Pos} {b : Bool} {Q : Bool → Shared → Prop} {E : Value → Shared → Prop}, Names X x c → PySem.W.exmOne X.K cls c = some b → Q b ⟨hp, g, dr, tk', os'⟩ →
      wpAny (model X.prog X.w) (X.A.mark (some (.ref a))) (eval (.Name x np) X.env) (fun c s₁ => wpAny (model X.prog X.w) (X.A.mark (some (.ref a))) (excMatches (.ref a) c) (fun b s₂ => Q b s₂) E s₁) E ⟨hp, g, dr, tk', os'⟩ := fun {x c np b Q E} hc hb hq => by
    have LT : PySem.W.Looks (model X.prog X.w) hp (typeOf (.ref a)) cls := fun A Q E s k q => wpAny_typeOf_ref (k _ _ he) (by rw [hz.1]; exact q)
    have LM := PySem.W.exm_one (M := model X.prog X.w) J0.kIn LT hb
    obtain ⟨hg, hdb, hm | ⟨hm, hv, hnn⟩⟩ := hc
    · exact ld_glob (X := X.suite a ((a, oe) :: (X.pn ++ pins))) S0 hg hm (LM.here hq) hdb
    · exact ld_blt (X := X.suite a ((a, oe) :: (X.pn ++ pins))) S0 hg hm hv (LM.here hq) hnn hdb
  intro hds ks hk
  induction hk with
  | nil =>
    intro w
    refine wpAny_handleBy_nil ?_
    obtain ⟨_, _, _, oe', vs', T, oT, ts', he', _, hd', h1, _⟩ := id fl
    unfold PySem.passOn
    refine wpAny_bind (wpAny_field he' hd' h1 ?_)
    rw [if_neg (show ¬ ((Value.ref T == Value.none) = true) from by simp)]
    have fin : wpAny (model X.prog X.w) X.A (setFlight (.ref a) X.env.frame) (fun _ s4 => wpAny (model X.prog X.w) X.A (throw (.ref a) : Sem Flow) (SP X pins D) X.xe s4) X.xe ⟨hp, g, dr, tk', os'⟩ := by
      rw [hf]
      exact HandSPX.setFlight_upZ fl fun h4 hh4 up4 => wpAny_throw (tk _ _ ⟨a, B, sI, pins, σ, H, cls, d, rfl, J, nb, up.trans up4, .inr (.inr (by rw [hs]; exact hh4)), na, os, ag, w⟩)
    first
      | exact wpAny_bind (wpAny_pure (wpAny_bind fin))
      | exact wpAny_bind fin
  | @plain x c ts b₀ ss np p hs' ks' hc su r ih =>
    intro w
    obtain ⟨b, hb, hyes, hno⟩ := w
    refine wpAny_handleBy_cons (codeAny_handlers_test (asked hc hb ?_)) (fun z => nomatch z)
    cases b with
    | false => exact ih (hno rfl)
    | true =>
      refine codeAny_handlers_suite (HandSPX.lands_againZ fl fun h4 fl4 up4 => ?_)
      obtain ⟨oe4, vs4, he4, hz4, hd4, _, _⟩ := flight_obj fl4 hf
      refine wpAny_mono ((su a oe4 cls d (X.pn ++ pins) hz4 ⟨_, hd4⟩).run [] _ _ H _ ((at_ h4 fl4 (up.trans up4)).suite he4 hd4 na nL nF) (hyes rfl a na)) (fun f s6 q => ?_) (fun _ _ z => False.elim z)
      cases f with
      | next => exact ⟨_, _, q.choose_spec.choose_spec.1.unsuite ok, q.choose_spec.choose_spec.2⟩
      | brk => exact ⟨_, _, q.choose_spec.choose_spec.1.unsuite ok, q.choose_spec.choose_spec.2⟩
      | cont => exact ⟨_, _, q.choose_spec.choose_spec.1.unsuite ok, q.choose_spec.choose_spec.2⟩
      | ret u =>
        obtain ⟨v, σ6, H6, S6, r6, q6⟩ := q
        exact ⟨_, _, _, S6.unsuite ok, r6, q6⟩
  | @named x n i c ts b₀ ss np p hs' ks' hc hN hi hl su r ih =>
    intro w
    obtain ⟨b, hb, hyes, hno⟩ := w
    refine wpAny_handleBy_cons (codeAny_handlers_test (asked hc hb ?_)) (fun z => nomatch z)
    cases b with
    | false => exact ih (hno rfl)
    | true =>
      refine codeAny_handlers_suite_as (HandSPX.lands_againZ fl fun h4 fl4 up4 => ?_)
      obtain ⟨oe4, vs4, he4, hz4, hd4, _, _⟩ := flight_obj fl4 hf
      refine store_ok (X := X.suite a ((a, oe4) :: (X.pn ++ pins))) (v := .ref a) ((at_ h4 fl4 (up.trans up4)).suite he4 hd4 na nL nF) hN hi (.inl hl) rfl (fun s5 S5 => ?_) (.inr hl)
      refine wpAny_mono ((su a oe4 cls d (X.pn ++ pins) hz4 ⟨_, hd4⟩).run [] s5 _ H _ S5 (hyes rfl a na)) (fun f s6 q => ?_) (fun _ _ z => False.elim z)
      cases f with
      | next =>
        obtain ⟨σ6, H6, S6, q6⟩ := q
        exact gone_ok (S6.unsuite ok) hN hi hl fun s7 J7 => ⟨_, _, J7, q6⟩
      | brk =>
        obtain ⟨σ6, H6, S6, q6⟩ := q
        exact gone_ok (S6.unsuite ok) hN hi hl fun s7 J7 => ⟨_, _, J7, q6⟩
      | cont =>
        obtain ⟨σ6, H6, S6, q6⟩ := q
        exact gone_ok (S6.unsuite ok) hN hi hl fun s7 J7 => ⟨_, _, J7, q6⟩
      | ret u =>
        obtain ⟨v, σ6, H6, S6, r6, q6⟩ := q
        exact gone_ok (S6.unsuite ok) hN hi hl fun s7 J7 => ⟨_, _, _, J7, r6, q6⟩
variable {body : List Stmt} {h₀ : ExceptHandler} {hds : List ExceptHandler} {ks : List Cls1} {pos : Pos} {tb : WX → TS}
theorem ps_try_mix (hs : X.stack = X.env :: X.outer) (hf : X.env.frame = some X.env.locals) (tk : Takes X Wout)
    (hb : ∀ (W : WX) (pn : List (Addr × Obj)) (xe : Value → Shared → Prop), Takes (X.tr pn xe) W → PassesOwn (model X.prog X.w) X.A X.env xe → PSs (X.tr pn xe) body (tb W)) (hh : Clauses X (h₀ :: hds) ks) :
    PS X (.Try body (h₀ :: hds) [] [] pos) (fun D σ H => tb (wMix X.K Wout D ks) D σ H) := ⟨fun pins s σ H D I h => by
  have ok := I.ok
  have hfr : X.A.frames = some (X.env :: X.outer) := by rw [ok.frames, hs]
  refine wpAny_Try_except (wpAny_mono ((hb (wMix X.K Wout D ks) (X.pn ++ pins) (fun e s₁ => wpAny (model X.prog X.w) X.A (noteFrame e X.env) (fun _ s₂ => wpAny (model X.prog X.w) X.A (setFlight e none) (fun _ s₃ =>
    wpAny (model X.prog X.w) X.A (handleBy e X.env (h₀ :: hds)) (SP X pins D) X.xe s₃) X.xe s₂) X.xe s₁) (fun u s' xx => ?_) PassesOwn.looking).run [] s σ H D (I.toTry _) h) (fun f s1 hsp => ?_) (fun e s1 he => he))
  · obtain ⟨a, B, sI, pins', σ', H', cls, d, rfl, J', nb, up, sky, na, os, ag, w⟩ := xx
    have sky' : Sky B (X.env :: X.outer) a (Zc cls d) X.env.locals s'.heap := by rw [← hs]; exact sky
    show wpAny (model X.prog X.w) X.A (noteFrame (.ref a) X.env) _ _ _
    exact Sky.land Zc.steady hfr hf sky' fun h3 fl3 up3 => clauses_ok (s' := { s' with heap := h3 }) hs hf tk ok (J'.ofTry ok) nb os ag (up.trans up3) na fl3 hh w
  · cases f with
    | next => exact wpAny_execs_nil ⟨_, _, hsp.choose_spec.choose_spec.1.ofTry ok, hsp.choose_spec.choose_spec.2⟩
    | brk => exact ⟨_, _, hsp.choose_spec.choose_spec.1.ofTry ok, hsp.choose_spec.choose_spec.2⟩
    | cont => exact ⟨_, _, hsp.choose_spec.choose_spec.1.ofTry ok, hsp.choose_spec.choose_spec.2⟩
    | ret u =>
      obtain ⟨v, σ', H', J', r, q⟩ := hsp
      exact ⟨v, σ', H', J'.ofTry ok, r, q⟩⟩
end
end PK
end

section
set_option Elab.async false
set_option linter.all false
set_option maxRecDepth 100000
set_option maxHeartbeats 4000000
/-! PkHnd: errors with a field: raised, caught by a name, read. -/
namespace PK
open PySem PySem.Spec PyProof.Rows L2
open PySem (PyData)

def simV : PyData → Option V
  | .int i => some (.int i)
  | .str z => some (.str z)
  | _ => none
theorem sim_of {K : PySem.W.Frag} {Z : Addr → Prop} {H : Hp} {v : V} {d : PyData} (r : Rep K Z H v d) (h : simD d = true) : simV d = some v := by
  cases d with
  | int i => cases r; rfl
  | str z => cases r; rfl
  | _ => cases h
section
variable {X : Cx} {XC : XR} {W : WX} {fe : Env → Res (EV × Env)} {pos : Pos} {e : Expr}
theorem ss_raiseF {k : Nat} {Cc fI : Addr} {x n : Str} {j : Nat} {p p2 : Pos} (hc : X.calm = true) (tk : Takes X W) (T : ErT X.prog X.K x Cc fI) (gC : X.mg n = some (.ref Cc)) (hr : Room j X.A) (hg : Gl X n) (hdb : (n == ("__debug__" : Str)) = false)
    (he : PE X e (TRE X.K XC W fe)) (hst : starEach (e :: []) X.env = (false, eval e X.env) :: starEach [] X.env) (hx : ∀ d v H dd, H dd = some (.xd [(x, v)]) → simV d = some v → XC k d (.ref Cc) (some dd) H) :
    PS X (.Raise (some (.Call (.Name n p) [e] [] p2)) none pos) (TRS X.K XC W fun g => (fzF fe g).out fun q => if simD q.1 then .exc k q.1 q.2 else .bad) := ⟨fun pins s σ H D I h => by
  refine (ps_raise hc tk (pmk_er T gC hr (pa_cons (s_frz he) pa_nil hst) hg hdb hst)).run pins s σ H D I ?_
  obtain ⟨Z, g, R, h⟩ := h
  show TRF X.K XC W (fzF fe) σ H fun v H1 => _
  refine ⟨Z, g, R, aft_f h fun q h v Z1 H1 x1 R1 r1 => ?_⟩
  have hs : simD q.1 = true := by
    by_cases hs : simD q.1 = true
    · exact hs
    · rw [if_neg hs] at h
      exact h.elim
  rw [if_pos hs] at h
  refine ⟨v, rfl, fun dd hd => ?_⟩
  have hx2 : HX H1 (upd H1 dd (.xd [(x, v)])) := HX.new hd
  exact h _ _ σ Z1 _ (x1.trans hx2.ext) (R1.hx hx2) (hx q.1 v _ dd upd_same (sim_of r1 hs))⟩
/-- 'a' + n.x + 'b', n the error that is held -/
def tSfs (Cc : Addr) (x : Str) (a b : Str) (i : Nat) : Addr → Value → Option Addr → TS := fun ad cls oa D σ H => σ[i]? = some (some (.ref ad)) ∧ cls = .ref Cc ∧ ∃ dd z, oa = some dd ∧ H dd = some (.xd [(x, .str z)]) ∧
  a.length + z.length ≤ line ∧ (a ++ z).length + b.length ≤ line ∧ ∀ H', HX H H' → D.rt (.str ((a ++ z) ++ b)) H'
theorem su_sfs {Cc fI : Addr} {x n a b : Str} {i : Nat} {e1 e2 : Expr} {p1 p2 p3 p4 p5 : Pos} (T : ErT X.prog X.K x Cc fI) (hN : X.N[i]? = some n) (hv : Vis X.env.scope n) (hd : (n == ("__debug__" : Str)) = false) (hcd : (n == ("__classdict__" : Str)) = false)
    (h1 : ∀ Y : Cx, PE Y e1 (tC (.str a))) (h2 : ∀ Y : Cx, PE Y e2 (tC (.str b))) : SuiteOk X [.Return (some (.BinOp (.BinOp e1 .Add (.Attribute (.Name n p1) x p2) p3) .Add e2 p4)) p5] (tSfs Cc x a b i) := fun ad oe cls d pn hz hf => by
  have hatt := pe_xf (X := X) (a := ad) (C := Cc) (oe := oe) (cls := cls) (d := d) (pn := pn) (pos := p2) (n := x) ⟨T.ga, T.gg, T.exC, T.hdC⟩ T.noN hz hf (pe_var (X := X.suite ad ((ad, oe) :: pn)) (pos := p1) hN hv hd hcd) rfl
  have hop := pe_op (X := X.suite ad ((ad, oe) :: pn)) (pos := p4) (op_any .add) (pe_op (pos := p3) (op_any .add) (h1 _) hatt) (h2 _)
  refine pss_one ⟨fun pins s σ H D I h => (ps_ret hop).run pins s σ H D I ?_⟩
  obtain ⟨hs, hc, dd, z, ho, hx, l1, l2, hq⟩ := h
  refine ⟨.ref ad, hs, rfl, hc, dd, _, .str z, ho, hx, by simp [List.lookup], ?_⟩
  have no : ∀ H : Hp, ZOk (fun _ : Addr => False) H := fun H a h => h.elim
  refine ⟨fun _ => False, .str a, .str z, (false, .str (a ++ z)), no _, .of (.str a), .of (.str z), by simp [bop, l1], fun v H1 hx1 r1 => ?_⟩
  have := r1.2 rfl
  cases this
  refine ⟨fun _ => False, .str (a ++ z), .str b, (false, .str ((a ++ z) ++ b)), no _, .of (.str _), .of (.str b), by simp [bop, l2], fun v H2 hx2 r2 => ?_⟩
  have := r2.2 rfl
  cases this
  exact hq H2 (hx1.trans hx2)
/-- the clauses of the language, beside what they wish -/
inductive HOk (K : PySem.W.Frag) (XC : XR) (C : Calls) : Hs → List Cls1 → Prop
  | nil : HOk K XC C .nil []
  | lit {k : Nat} {d : PyData} {v : V} {cv : Value} {hs : Hs} {ks : List Cls1} (hx : ∀ c1 d cls oa H, XC c1 d cls oa H → PySem.W.exmOne K cls cv = some (decide (c1 = k))) (hv : ∀ K Z H, Rep K Z H v d) (r : HOk K XC C hs ks) :
      HOk K XC C (.cons k none (.cons (.ret (.lit d)) .nil) hs) (⟨cv, none, fun _ _ _ D _ H => D.rt v H⟩ :: ks)
  | sfs {k i : Nat} {a b x : Str} {Cc : Addr} {hs : Hs} {ks : List Cls1} (hx : ∀ c1 d cls oa H, XC c1 d cls oa H → PySem.W.exmOne K cls (.ref Cc) = some (decide (c1 = k)))
      (hf : ∀ d cls oa H, XC k d cls oa H → cls = .ref Cc ∧ ∃ dd v, oa = some dd ∧ H dd = some (.xd [(x, v)]) ∧ simV d = some v) (r : HOk K XC C hs ks) :
      HOk K XC C (.cons k (some i) (.cons (.ret (.bop .add (.bop .add (.lit (.str a)) (.att i)) (.lit (.str b)))) .nil) hs) (⟨.ref Cc, some i, tSfs Cc x a b i⟩ :: ks)
theorem Out.quiet_rt (b : Bool) (d : PyData) (g : Env) : (Out.rt b d g).quiet = .rt b d g := rfl
theorem HX.back {g : Env} {σ : St} {Z : Addr → Prop} {H H' : Hp} {g1 : Env} {σ1 : St} {Z1 : Addr → Prop} {H1 : Hp} (x : Ext g σ Z H g1 σ1 Z1 H1) (h : HX H1 H') : Ext g σ Z H g1 σ1 Z1 H' := x.trans h.ext
theorem hnd_ok {K : PySem.W.Frag} {C : Calls} {D : Ends} {g g1 : Env} {σ σ1 : St} {Z Z1 : Addr → Prop} {H H1 : Hp} {c : Nat} {d : PyData} {cls : Value} {oa : Option Addr} (x : Ext g σ Z H g1 σ1 Z1 H1) (R : Rel K Z1 g1 σ1 H1) (xc : XC c d cls oa H1) :
    ∀ {hs : Hs} {ks : List Cls1}, HOk K XC C hs ks → AftS K XC W g σ Z H D (hnd C hs c d g1) → wMix K W D ks cls oa σ1 H1 := by
  intro hs ks hk
  induction hk with
  | nil =>
    intro h
    exact h cls oa σ1 Z1 H1 x R xc
  | @lit k d0 v cv hs ks hx hv r ih =>
    intro h
    refine ⟨decide (c = k), hx c d cls oa H1 xc, fun hb a ha => ?_, fun hb => ?_⟩
    · have e : c = k := by simpa using hb
      subst e
      simp only [hnd, if_true, exSs, exS, evE, Res.out_ok, retO, Out.seq_rt, Out.quiet_rt] at h
      exact h v σ1 Z1 H1 x R ⟨fun _ => hv _ _ _, (fun e => nomatch e)⟩
    · have e : ¬ c = k := by simpa using hb
      simp only [hnd, if_neg e] at h
      exact ih h
  | @sfs k i a b y Cc hs ks hx hf r ih =>
    intro h
    refine ⟨decide (c = k), hx c d cls oa H1 xc, fun hb ad ha => ?_, fun hb => ?_⟩
    · have e : c = k := by simpa using hb
      subst e
      obtain ⟨ec, dd, v, eo, ed, sv⟩ := hf d cls oa H1 xc
      simp only [hnd, if_true] at h
      cases ep : g1.put i (.ex c d) with
      | none => rw [ep] at h; exact h.elim
      | some g2 =>
        rw [ep] at h
        obtain ⟨hi, rfl, nl, ni⟩ := put_some ep
        have eg : (g1.set i (.ex c d))[i]? = some (.ex c d) := List.getElem?_set_self hi
        have eu : g1.put i .un = some (g1.set i .un) := by
          cases q : g1[i]? with
          | none => rw [List.getElem?_eq_getElem hi] at q; cases q
          | some s =>
            cases s with
            | mu k d =>
              cases k with
              | ow => unfold Env.put; rw [q]
              | io => exact (ni d q).elim
              | lk => exact (nl d q).elim
            | _ => unfold Env.put; rw [q]
        cases d with
        | str z =>
          have sv : v = .str z := (Option.some.inj sv).symm
          subst sv
          simp only [exSs, exS, evE, eg, Res.out_ok, Res.of_some, Res.bind_ok, EV.get, Option.bind_some] at h
          by_cases l1 : a.length + z.length ≤ line
          · by_cases l2 : (a ++ z).length + b.length ≤ line
            · simp only [bop, if_true, if_pos l1, if_pos l2, Res.of_some, Res.bind_ok, Res.out_ok, mk, EV.get, Option.bind_some, retO, Out.seq_rt, Out.quiet_rt, Out.map, List.set_set, Bool.false_eq_true, if_false] at h
              refine ⟨?_, ec, dd, z, eo, ed, l1, l2, fun H' hx' => ?_⟩
              · have : i < σ1.length := by rw [R.len]; exact hi
                exact List.getElem?_set_self this
              · obtain ⟨x2, R2⟩ := put_ok (v := V.non) R x eu trivial (fun _ _ _ z => nomatch z)
                exact h (.str ((a ++ z) ++ b)) _ Z1 H' (x2.trans hx'.ext) (R2.hx hx') ⟨fun _ => .str _, (fun e => nomatch e)⟩
            · simp only [bop, if_true, if_pos l1, if_neg l2, Res.of_some, Res.bind_ok, Res.out_ok, mk, EV.get, Option.bind_some, Res.of_none, Res.bind_bad, Res.out_bad, Bool.false_eq_true, if_false] at h
              exact h.elim
          · simp only [bop, if_true, if_neg l1, Res.of_none, Res.bind_bad, Res.out_bad] at h
            exact h.elim
        | _ =>
          first
            | (cases sv; done)
            | (simp only [exSs, exS, evE, eg, Res.out_ok, Res.of_some, Res.bind_ok, EV.get, Option.bind_some, bop, Res.of_none, Res.bind_bad, Res.out_bad] at h; exact h.elim)
    · have e : ¬ c = k := by simpa using hb
      simp only [hnd, if_neg e] at h
      exact ih h
end
end PK
end

section
set_option Elab.async false
set_option linter.all false
set_option maxRecDepth 100000
set_option maxHeartbeats 4000000
/-! PkDic: dicts (keys: tuples of whole numbers and texts) that stand in slots. -/
namespace PK
open PySem PySem.Spec PyProof.Rows L2
open PySem (PyData)

def dinF (neg : Bool) (i : Nat) (fa : Env → Res (EV × Env)) (g : Env) : Res (EV × Env) := (fzF fa g).bind fun p => (Res.of ((dicOf p.2 i).bind fun kvs => (keyL p.1).map fun k => (dval kvs k).isSome)).bind fun b => .ok (.val (.bool (if neg then !b else b)), p.2)
def dgtF (i : Nat) (fa : Env → Res (EV × Env)) (g : Env) : Res (EV × Env) := match g[i]? with
    | some (.mu _ (.dict _)) => (fzF fa g).bind fun p => (Res.of ((dicOf p.2 i).bind fun kvs => (keyL p.1).bind fun k => dval kvs k)).bind fun v => .ok (.val v, p.2)
    | _ => .bad
def dgoF (i : Nat) (fa fx : Env → Res (EV × Env)) (g : Env) : Res (EV × Env) := match g[i]? with
    | some (.mu _ (.dict _)) => (fzF fa g).bind fun p => (fzF fx p.2).bind fun r => (Res.of ((dicOf r.2 i).bind fun kvs => (keyL p.1).map fun k => (dval kvs k).getD r.1)).bind fun v => .ok (.val v, r.2)
    | _ => .bad
def setDF (i : Nat) (fk fe : Env → Res (EV × Env)) (g : Env) : Out := match g[i]? with
      | some (.mu _ (.dict _)) => (fzF fe g).out fun q => (fzF fk q.2).out fun r => (Res.of (r.2.chg i (setDx r.1 q.1))).out .nx
      | _ => .bad

section
variable {K : PySem.W.Frag} {XC : XR} {W : WX} {Z Z' Z0 Z1 Z2 : Addr → Prop} {g g' g0 g1 g2 : Env} {σ σ' σ0 σ1 σ2 : St} {H H' H0 H1 H2 : Hp} {Q : VK} {D : Ends}
theorem dnew_run (h : TRE K XC W (fun g => .ok (.nw (.dict []), g)) σ H Q) : tDNewT σ H Q := by
  obtain ⟨Z, g, R, h⟩ := h
  intro p hp
  have hx : HX H (upd H p (.dT [])) := HX.new hp
  refine h (.ref p) Z _ hx.ext (R.hx hx) ⟨p, rfl, fun z => R.ex p z hp, fun o => ?_, .dct upd_same .nil⟩ ⟨p, rfl, hp⟩
  obtain ⟨u, e, _, _⟩ := R.ol o
  rw [hp] at e; cases e
/-- a slot's dict -/
theorem Rel.dic (R : Rel K Z g σ H) {i : Nat} {kvs : List (PyData × PyData)} (e : dicOf g i = some kvs) : ∃ k a ks, g[i]? = some (.mu k (.dict kvs)) ∧ σ[i]? = some (some (.ref a)) ∧ ¬ Z a ∧ H a = some (.dT ks) ∧ DReps K Z H ks kvs := by
  unfold dicOf at e
  cases hs : g[i]? with
  | none => rw [hs] at e; cases e
  | some s =>
    rw [hs] at e
    cases s with
    | mu k d =>
      cases d with
      | dict l =>
        cases e
        obtain ⟨a, e1, nz, c, _⟩ := R.mu hs
        obtain ⟨ks, h1, h2⟩ := c.dict rfl
        exact ⟨k, a, ks, rfl, e1, nz, h1, h2⟩
      | _ => cases e
    | _ => cases e
/-- an evaluation that is handed on, then the rest -/
theorem aftF_e {r : Res (PyData × Env)} {f : PyData × Env → Res (EV × Env)} {Q1 : VK} (h : AftE K XC W g σ Z H Q (r.bind f))
    (k : ∀ p, r = .ok p → AftE K XC W g σ Z H Q (f p) → ∀ v Z' H', Ext g σ Z H p.2 σ Z' H' → Rel K Z' p.2 σ H' → Rep K Z' H' v p.1 → Q1 v H') : AftF K XC W g σ Z H Q1 r := by
  cases r with
  | ok p => exact k p rfl h
  | exc c d g' => exact h
  | bad => exact h
theorem aftE_of {α : Type} {o : Option α} {f : α → Res (EV × Env)} (h : AftE K XC W g σ Z H Q ((Res.of o).bind f)) : ∃ a, o = some a ∧ AftE K XC W g σ Z H Q (f a) := by
  cases o with
  | none => exact h.elim
  | some a => exact ⟨a, rfl, h⟩
theorem dget_of {a : Addr} {v : V} {x : PyData} {k : List Key} {ks : List (List Key × V)} {kvs : List (PyData × PyData)} (ha : H a = some (.dT ks)) (r : Rep K Z H v x) (e : keyL x = some k) : DGet H a v (valV ks k) := by
  obtain ⟨b, rfl, hb⟩ := r.key e
  exact DGet.t ha hb
theorem din_run {neg : Bool} {i : Nat} {fa : Env → Res (EV × Env)} (h : TRE K XC W (dinF neg i fa) σ H Q) : (if neg then tDNotIn else tDIn) (TRF K XC W (fzF fa)) (tVar i) σ H Q := by
  have main : TRF K XC W (fzF fa) σ H fun y H1 => tVar i σ H1 fun x H2 => ∃ a o, x = .ref a ∧ DGet H2 a y o ∧ Q (.bl (if neg then !o.isSome else o.isSome)) H2 := by
    obtain ⟨Z, g, R, h⟩ := h
    unfold dinF at h
    refine ⟨Z, g, R, aftF_e h fun p _ h v Z1 H1 x1 R1 r1 => ?_⟩
    obtain ⟨b, e, h⟩ := aftE_of h
    cases ed : dicOf p.2 i with
    | none => rw [ed] at e; cases e
    | some kvs =>
      rw [ed] at e
      cases ek : keyL p.1 with
      | none => rw [ek] at e; cases e
      | some k =>
        rw [ek] at e
        cases e
        obtain ⟨m, a, ks, _, es, nz, ha, rs⟩ := R1.dic ed
        refine ⟨.ref a, es, a, valV ks k, rfl, dget_of (kvs := kvs) ha r1 ek, ?_⟩
        have q := h (.bl (if neg then !(dval kvs k).isSome else (dval kvs k).isSome)) Z1 H1 x1 R1 (.bl _) trivial
        rcases rs.val k with ⟨v', d, e1, e2, _⟩ | ⟨e1, e2⟩
        · rw [e2] at q; rw [e1]; exact q
        · rw [e2] at q; rw [e1]; exact q
  cases neg with
  | true => exact main
  | false => exact main
theorem dgt_run {i : Nat} {fa : Env → Res (EV × Env)} (h : TRE K XC W (dgtF i fa) σ H Q) : tDGet (tVar i) (TRF K XC W (fzF fa)) σ H Q := by
  obtain ⟨Z, g, R, h⟩ := h
  unfold dgtF at h
  split at h
  case h_2 => exact h.elim
  rename_i k0 l0 hg0
  obtain ⟨a0, hx, _⟩ := R.mu hg0
  refine ⟨.ref a0, hx, Z, g, R, aftF_e h fun p _ h v Z1 H1 x1 R1 r1 => ?_⟩
  obtain ⟨d, e, h⟩ := aftE_of h
  cases ed : dicOf p.2 i with
  | none => rw [ed] at e; cases e
  | some kvs =>
    rw [ed] at e
    cases ek : keyL p.1 with
    | none => rw [ek] at e; cases e
    | some k =>
      rw [ek] at e
      obtain ⟨m, a, ks, _, es, nz, ha, rs⟩ := R1.dic ed
      rw [hx] at es; cases es
      rcases rs.val k with ⟨v', d', e1, e2, rv⟩ | ⟨e1, e2⟩
      · have e3 : dval kvs k = some d := e
        rw [e2] at e3
        cases e3
        exact ⟨_, v', rfl, by rw [← e1]; exact dget_of (kvs := kvs) ha r1 ek, h v' Z1 H1 x1 R1 rv trivial⟩
      · have e3 : dval kvs k = some d := e
        rw [e2] at e3
        cases e3
theorem dgo_run {i : Nat} {fa fx : Env → Res (EV × Env)} (h : TRE K XC W (dgoF i fa fx) σ H Q) : tDGet2 (tVar i) (TRF K XC W (fzF fa)) (TRF K XC W (fzF fx)) σ H Q := by
  obtain ⟨Z, g, R, h⟩ := h
  unfold dgoF at h
  split at h
  case h_2 => exact h.elim
  rename_i k0 l0 hg0
  obtain ⟨a0, hx, _, c0, _⟩ := R.mu hg0
  obtain ⟨ks0, hc0, _⟩ := c0.dict rfl
  refine ⟨.ref a0, hx, a0, rfl, .inr ⟨ks0, .inl hc0⟩, Z, g, R, aftF_e h fun p _ h v Z1 H1 x1 R1 r1 => ?_⟩
  refine ⟨Z1, p.2, R1, ?_⟩
  replace h := h.later x1
  refine aftF_e h fun q _ h u Z2 H2 x2 R2 r2 => ?_
  obtain ⟨d, e, h⟩ := aftE_of h
  have r1' := Rep.mv (R1.keeps x2) _ _ r1
  cases ed : dicOf q.2 i with
  | none => rw [ed] at e; cases e
  | some kvs =>
    rw [ed] at e
    cases ek : keyL p.1 with
    | none => rw [ek] at e; cases e
    | some k =>
      rw [ek] at e
      obtain ⟨m, a, ks, _, es, nz, ha, rs⟩ := R2.dic ed
      rw [hx] at es; cases es
      refine ⟨valV ks k, dget_of (kvs := kvs) ha r1' ek, ?_⟩
      have e3 : (dval kvs k).getD q.1 = d := Option.some.inj e
      rcases rs.val k with ⟨v', d', e1, e2, rv⟩ | ⟨e1, e2⟩
      · rw [e2] at e3
        cases e3
        rw [e1]
        exact h v' Z2 H2 x2 R2 rv trivial
      · rw [e2] at e3
        cases e3
        rw [e1]
        exact h u Z2 H2 x2 R2 r2 trivial
theorem setD_run {i : Nat} {fk fe : Env → Res (EV × Env)} (h : TRS K XC W (setDF i fk fe) D σ H) : sDPut (tVar i) (TRF K XC W (fzF fk)) (TRF K XC W (fzF fe)) D σ H := by
  obtain ⟨Z, g, R, h⟩ := h
  unfold setDF at h
  split at h
  · rename_i k0 d0 hg0
    obtain ⟨a, es0, _⟩ := R.mu hg0
    refine ⟨Z, g, R, aft_f h fun p h v Z1 H1 x1 R1 r1 => ?_⟩
    refine ⟨.ref a, es0, Z1, p.2, R1, ?_⟩
    replace h := h.later x1
    refine aft_f h fun q h u Z2 H2 x2 R2 r2 => ?_
    obtain ⟨g2, e, h⟩ := of_out h
    obtain ⟨k, d, d', hk, hg, hf, rfl⟩ := chg_ok e
    obtain ⟨a', es', nz, c, ow⟩ := R2.mu hg
    rw [es0] at es'; cases es'
    cases c with
    | lst _ _ => cases hf
    | @dct ks kvs ha rs =>
      simp only [setDx] at hf
      cases ek : keyL q.1 with
      | none => rw [ek] at hf; cases hf
      | some kk =>
        rw [ek] at hf
        simp only at hf
        split at hf
        · rename_i hl
          cases hf
          obtain ⟨b, rfl, hb⟩ := r2.key ek
          have l2 : line = sizeLine := line_eq
          refine ⟨a, _, rfl, DPut.t ha hb (by rw [rs.len, ← l2]; exact hl), ?_⟩
          have kp : Keeps Z2 H2 Z2 (upd H2 a (.dT (putK ks kk v))) := by
            have ne : ∀ c o, H2 c = some o → o ≠ HO.dT ks → c ≠ a := fun c o h n z => by subst z; rw [ha] at h; cases h; exact n rfl
            refine ⟨fun c xs h => ?_, fun c o u h => ?_, fun c o z h => ?_, fun _ z => z⟩
            · rw [upd_ne (ne c _ h (by intro z; cases z))]; exact h
            · rw [upd_ne (ne c _ h (by intro z; cases z))]; exact h
            · rw [upd_ne (fun q => nz (by subst q; exact z))]; exact h
          have P : Post Z2 H2 Z2 (upd H2 a (.dT (putK ks kk v))) fun b => b = a := by
            refine ⟨fun b o h n => by rw [upd_ne n]; exact h, fun _ z => z, fun _ z => .inl z, fun b h => ?_, fun b z => ?_⟩
            · by_cases hb : b = a
              · subst hb; rw [upd_same] at h; cases h
              · rw [upd_ne hb] at h; exact h
            · by_cases hb : b = a
              · subst hb; rw [upd_same]; exact fun z => nomatch z
              · rw [upd_ne hb]; exact R2.ex b z
          obtain ⟨x3, R3, _⟩ := chg_io (d' := .dict (dput kvs q.1 p.1)) R2 hk hg es0 P nz (.dct upd_same ((rs.put ek (Rep.mv (R1.keeps x2) _ _ r1)).mv kp))
          exact h σ Z2 _ (x2.trans x3) R3
        · cases hf
  · exact h.elim
end
section
variable {X : Cx} {XC : XR} {W : WX} {a b c e : Expr} {fa fb fk fe : Env → Res (EV × Env)} {pos p1 : Pos} {i : Nat} {x : Str}
theorem s_dnew : PE X (.Dict [] [] pos) (TRE X.K XC W fun g => .ok (.nw (.dict []), g)) := ⟨fun pins s σ H Q I h => pe_dnewT.run pins s σ H Q I (dnew_run h)⟩
theorem s_din (neg : Bool) (hu : X.A.units + 1 < cLine) (hi : X.N[i]? = some x) (hv : Vis X.env.scope x) (hd : (x == ("__debug__" : Str)) = false) (hcd : (x == ("__classdict__" : Str)) = false) (ha : PE X a (TRE X.K XC W fa)) :
    PE X (.Compare a [if neg then .NotIn else .In] [.Name x p1] pos) (TRE X.K XC W (dinF neg i fa)) := by
  cases neg with
  | true => exact ⟨fun pins s σ H Q I h => (pe_cmp (pc_dnotin hu (s_frz ha) (pe_var hi hv hd hcd)) rfl).run pins s σ H Q I (din_run h)⟩
  | false => exact ⟨fun pins s σ H Q I h => (pe_cmp (pc_din hu (s_frz ha) (pe_var hi hv hd hcd)) rfl).run pins s σ H Q I (din_run h)⟩
theorem din_bool {neg : Bool} {g : Env} {p : EV × Env} (e : dinF neg i fa g = .ok p) : ∃ b, p.1 = .val (.bool b) := by
  unfold dinF at e
  obtain ⟨q, _, e⟩ := bind_ok_inv e
  obtain ⟨r, _, e⟩ := of_ok_inv e
  cases e
  exact ⟨_, rfl⟩
theorem t_din (neg : Bool) (hu : X.A.units + 1 < cLine) (hi : X.N[i]? = some x) (hv : Vis X.env.scope x) (hd : (x == ("__debug__" : Str)) = false) (hcd : (x == ("__classdict__" : Str)) = false) (ha : PE X a (TRE X.K XC W fa)) :
    PT X (.Compare a [if neg then .NotIn else .In] [.Name x p1] pos) (TRT X.K XC W (tstF (dinF neg i fa))) := by
  cases neg with
  | true => exact ⟨fun pins s σ H Q I h => (pt_cmp (pc_dnotin hu (s_frz ha) (pe_var hi hv hd hcd)) rfl).run pins s σ H Q I (din_run (bool_test (fun g p e => din_bool e) h))⟩
  | false => exact ⟨fun pins s σ H Q I h => (pt_cmp (pc_din hu (s_frz ha) (pe_var hi hv hd hcd)) rfl).run pins s σ H Q I (din_run (bool_test (fun g p e => din_bool e) h))⟩
theorem s_dgt (hu : X.A.units + 1 < cLine) (hi : X.N[i]? = some x) (hv : Vis X.env.scope x) (hd : (x == ("__debug__" : Str)) = false) (hcd : (x == ("__classdict__" : Str)) = false) (ha : PE X a (TRE X.K XC W fa)) (hs : NoSl a) :
    PE X (.Subscript (.Name x p1) a pos) (TRE X.K XC W (dgtF i fa)) := ⟨fun pins s σ H Q I h => (pe_dget hu (pe_var hi hv hd hcd) (s_frz ha) hs).run pins s σ H Q I (dgt_run h)⟩
theorem s_dgo {apos : Pos} (hu : X.A.units + 1 < cLine) (hi : X.N[i]? = some x) (hv : Vis X.env.scope x) (hd : (x == ("__debug__" : Str)) = false) (hcd : (x == ("__classdict__" : Str)) = false) (ha : PE X a (TRE X.K XC W fa)) (hb : PE X b (TRE X.K XC W fb)) (m : M2 X (.Name x p1) "get" apos a b pos) :
    PE X (.Call (.Attribute (.Name x p1) "get" apos) [a, b] [] pos) (TRE X.K XC W (dgoF i fa fb)) := ⟨fun pins s σ H Q I h => (pe_dget2 hu (pe_var hi hv hd hcd) (s_frz ha) (s_frz hb) m).run pins s σ H Q I (dgo_run h)⟩
theorem ss_setD {k' : Expr} {p2 : Pos} (hu : X.A.units + 1 < cLine) (hi : X.N[i]? = some x) (hv : Vis X.env.scope x) (hd : (x == ("__debug__" : Str)) = false) (hcd : (x == ("__classdict__" : Str)) = false) (hk : PE X k' (TRE X.K XC W fk)) (he : PE X e (TRE X.K XC W fe))
    (hs : swapsWith e (some (.Subscript (.Name x p1) k' p2)) pos.line X.env = pure false) : PS X (.Assign [.Subscript (.Name x p1) k' p2] e pos) (TRS X.K XC W (setDF i fk fe)) :=
  ⟨fun pins s σ H D I h => (ps_dput hu (pe_var hi hv hd hcd) (s_frz hk) (s_frz he) hs).run pins s σ H D I (setD_run h)⟩
end
end PK
end

section
set_option Elab.async false
set_option linter.all false
set_option maxRecDepth 100000
set_option maxHeartbeats 4000000
/-! PkSort: sorted(..) of a dict's keys and of a set, by data. -/
namespace PKS
open PySem PySem.W PySem.Calls PyProof.Rows PyProof.V PySem.Spec
section
variable {prog : Program} {w : World} {A : Around} {E : Value → Shared → Prop} {s : Shared}
/-- what a source gives, gathered -/
theorem collect_src {T : String} {r d : Addr} {n : Nat} {P : Nat → Value → Prop} {OK : Heap → Prop} {R : List Value → Shared → Prop} (K : KdlSrc prog w T r d n P OK) (hh : A.handled = none) (hok : OK s.heap) (hn : n ≤ sizeLine)
    (h : ∀ (h' : Heap) (tk : Nat) (vs : List Value), (∀ b o, s.heap.get? b = some o → h'.get? b = some o) → s.heap.objs.size < h'.objs.size → vs.length = n → (∀ j v, vs[j]? = some v → P j v) → R vs { s with heap := h', toks := tk }) :
    wpAny (model prog w) A (collect (.ref r)) R E s := by
  have hlt := K.there _ hok
  unfold collect
  refine wpAny_bind (wpAny_runValue (codeAny_builtin entry_proto_collect' ?_))
  rw [Around.under_plainId PySem.F.plain_proto_collect _]
  show wpAny _ A.in1 (newList [] >>= fun l => again (.builtin "list.__iadd__" ⟨[l, .ref r], []⟩)) _ _ s
  refine wpAny_bind (wpAny_newObj_type ?_)
  refine wpAny_pure ⟨plainId_quiet PySem.F.plain_list_iadd _, codeAny_builtin entry_list_iadd' ?_⟩
  rw [Around.under_plainId PySem.F.plain_list_iadd _]
  have hS₁ : (s.heap.push { cls := .type "list", data := .seq ([] : List Value).toArray }).get? s.heap.objs.size = some { cls := .type "list", data := .seq #[] } := Heap.get?_push_size _ rfl
  show wpAny _ A.in1 (Builtin.List.listExtendWith (.ref s.heap.objs.size) (.ref r) (.ref s.heap.objs.size)) _ _ _
  have key := kdl_extend (prog := prog) (w := w) (A := A) (s := { s with heap := s.heap.push { cls := .type "list", data := .seq ([] : List Value).toArray } })
    (R := fun (q : Result) (s' : Shared) => ∃ (h' : Heap) (tk : Nat) (acc' : Array Value) (c' : Nat), q = .ok (.ret (.ref s.heap.objs.size)) ∧ s' = { s with heap := h', toks := tk } ∧
      (∀ b o, s.heap.get? b = some o → h'.get? b = some o) ∧ h'.get? s.heap.objs.size = some { cls := .type "list", dict := none, data := .seq acc' c', slots := #[] } ∧ ItemsOf P acc' n)
    K hh (K.keep _ _ hok fun b _ o e => Heap.get?_push_of_some _ e) s.heap.objs.size (Nat.ne_of_gt hlt.1) (Nat.ne_of_gt hlt.2) (.ref s.heap.objs.size) 0 hS₁
    (fun h' tk acc' c' hk hS' hacc => ⟨h', tk, acc', c', rfl, rfl, fun b o e => hk b o (Nat.ne_of_lt (Heap.lt_size e)) (Heap.get?_push_of_some _ e), hS', hacc⟩) hn
  have fin : ∀ (h' : Heap) (tk : Nat) (acc' : Array Value) (c' : Nat), (∀ b o, s.heap.get? b = some o → h'.get? b = some o) → h'.get? s.heap.objs.size = some { cls := .type "list", dict := none, data := .seq acc' c', slots := #[] } → ItemsOf P acc' n → R acc'.toList { s with heap := h', toks := tk } := fun h' tk acc' c' hk hS' hacc =>
    h h' tk acc'.toList hk (Heap.lt_size hS') (by rw [Array.length_toList]; exact hacc.1) fun j v e => hacc.2 j v (by simpa using e)
  refine wpAny_mono key (fun fin' s' x => ?_) fun e s' x => ?_
  · cases fin' with
    | done f =>
      obtain ⟨h', tk, acc', c', e, rfl, hk, hS', hacc⟩ := x
      cases e
      show wpAny _ A (load s.heap.objs.size >>= _) _ _ _
      refine wpAny_bind (wpAny_load hS' ?_)
      exact wpAny_pure (fin h' tk acc' c' hk hS' hacc)
    | again c₁ =>
      refine ⟨x.1, codeAny_mono x.2 fun q s₂ y => ?_⟩
      obtain ⟨h', tk, acc', c', rfl, rfl, hk, hS', hacc⟩ := y
      show wpAny _ A (load s.heap.objs.size >>= _) _ _ _
      refine wpAny_bind (wpAny_load hS' ?_)
      exact wpAny_pure (fin h' tk acc' c' hk hS' hacc)
  · obtain ⟨_, _, _, _, e', _⟩ := x
    cases e'
/-- sorted(x): its items gathered, a new list of them, this one sorted -/
theorem sorted_any {x : Value} {Q : Value → Shared → Prop} {Pc : List Value → Shared → Prop} (hc : ∀ E', wpAny (model prog w) A.in1 (collect x) Pc E' s)
    (hp : ∀ vs s1, Pc vs s1 → vs.length ≤ sizeLine ∧ ∀ E', wpAny (model prog w) A.in1 (call (.builtin "list.sort") [.ref s1.heap.objs.size]) (fun _ s' => Q (.ref s1.heap.objs.size) s') E' { s1 with heap := s1.heap.push (seqObj "list" vs.toArray 0) }) :
    wpAny (model prog w) A (call (.builtin "sorted") [x]) Q E s := by
  refine call_function_entry kind_sorted plain_sorted entry_sorted (args_sorted1 _) ?_
  unfold Builtin.«sorted»
  refine wpAny_bind (m := checkCount "sorted" 1 1 _) (wpAny_pure ?_)
  refine wpAny_bind (wpAny_mono (hc _) (fun vs s1 h1 => ?_) fun _ _ e => e)
  obtain ⟨hl, hs⟩ := hp vs s1 h1
  refine wpAny_bind (wpAny_newList ?_ hl)
  refine wpAny_bind (wpAny_holding (wpAny_mono (hs _) (fun _ s' x => ?_) fun _ _ e => e))
  exact wpAny_pure ⟨_, rfl, x⟩
/-- the new list sorted by data -/
theorem sort_new {β : Type} {R : Value → β → Prop} {vs : List Value} {bs : List β} {enc : β → PyData} {Q : Value → Shared → Prop} (e : EachIs R vs bs) (er : EachIs (fun v b => ∃ as, Reads s.heap v (enc b) as) vs bs) (hal : AllAlike (bs.map enc)) (hk : Sortable (bs.map enc)) (hL : vs.length ≤ sizeLine)
    (hu : ∀ b, b ∈ bs → A.units + 1 + (enc b).depth < cLine)
    (h : ∀ (out : List Value) (c : Nat) (h' : Heap), out.length = vs.length → EachIs R out (bs.mergeSort (dataLe false enc)) → (∀ b o, s.heap.get? b = some o → h'.get? b = some o) → h'.get? s.heap.objs.size = some (seqObj "list" out.toArray c) → Q (.ref s.heap.objs.size) { s with heap := h' }) :
    wpAny (model prog w) A (call (.builtin "list.sort") [.ref s.heap.objs.size]) (fun _ s' => Q (.ref s.heap.objs.size) s') E { s with heap := s.heap.push (seqObj "list" vs.toArray 0) } := by
  have ho : (s.heap.push (seqObj "list" vs.toArray 0)).get? s.heap.objs.size = some (seqObj "list" vs.toArray 0) := Heap.get?_push_size _ rfl
  have keep : ∀ b o, s.heap.get? b = some o → (sortingHeap (s.heap.push (seqObj "list" vs.toArray 0)) s.heap.objs.size vs).get? b = some o := fun b o q => sortingHeap_old (Nat.ne_of_lt (Heap.lt_size q)) (Heap.get?_push_of_some _ q)
  have er' : EachIs (fun v b => ∃ as, Reads (sortingHeap (s.heap.push (seqObj "list" vs.toArray 0)) s.heap.objs.size vs) v (enc b) as) vs bs := er.mono fun _ _ ⟨as, r⟩ => ⟨as, PyProof.Rows.Reads.keeps (fun _ _ q => keep _ _ q) r⟩
  have S : SortsAt prog w A.in1 { s with heap := sortingHeap (s.heap.push (seqObj "list" vs.toArray 0)) s.heap.objs.size vs } (dataKind (sortingHeap (s.heap.push (seqObj "list" vs.toArray 0)) s.heap.objs.size vs) (bs.map enc)) vs :=
    SortsAt.data (s := { s with heap := sortingHeap (s.heap.push (seqObj "list" vs.toArray 0)) s.heap.objs.size vs }) (each_map (R := fun v d => ∃ as, Reads (sortingHeap (s.heap.push (seqObj "list" vs.toArray 0)) s.heap.objs.size vs) v d as) enc er') hal hk (bound_map hu)
  refine wpAny_call_entry slot_list_sort ⟨_, ho, rfl⟩ entry_list_sort (list_sort_vals ho S hL ?_) (args_list_sort _)
  obtain ⟨c, hc⟩ := sortedHeap_at (vs := vs) (out := (sortVals (dataKind (sortingHeap (s.heap.push (seqObj "list" vs.toArray 0)) s.heap.objs.size vs) (bs.map enc)) false vs vs).toArray) ho
  refine ⟨.none, rfl, ?_⟩
  refine h _ c _ (sortVals_length false rfl) (sortVals_data false e er' hal) (fun b o q => ?_) hc
  exact (sortedHeap_old (Nat.ne_of_lt (Heap.lt_size q)) (by rw [size_push']; exact Nat.lt_succ_of_lt (Heap.lt_size q))).trans (Heap.get?_push_of_some _ q)
end
end PKS
namespace PK
open PySem PySem.Spec PyProof.Rows L2
open PySem (PyData)

/-- what is asked of data to be sorted -/
theorem sorted_ok {ds out : List PyData} (h : sortedD ds = some out) : PySem.W.AllAlike ds ∧ PySem.W.Sortable ds ∧ (∀ d ∈ ds, d.depth ≤ 60) ∧ out = ds.mergeSort fun a b => !PySem.W.dataLt b a := by
  unfold sortedD at h
  split at h
  · rename_i hk
    cases h
    simp only [Bool.and_eq_true, Bool.or_eq_true] at hk
    obtain ⟨⟨h1, h2⟩, h3⟩ := hk
    refine ⟨fun d hd d' hd' => List.all_eq_true.mp (List.all_eq_true.mp h1 d hd) d' hd', ?_, fun d hd => (shap_of (List.all_eq_true.mp h2 d hd)).2, rfl⟩
    rcases h3 with h3 | h3
    · refine .inl fun d hd => ?_
      have := List.all_eq_true.mp h3 d hd
      cases d with
      | tuple l =>
        cases l with
        | nil => cases this
        | cons x r => exact ⟨x, r, rfl⟩
      | _ => cases this
    · refine .inr fun d hd => ?_
      have := List.all_eq_true.mp h3 d hd
      exact ⟨fun z => (by rw [z] at this; cases this), fun l z => (by rw [z] at this; cases this)⟩
  · cases h
section
variable {X : Cx}
/-- a call of sorted whose items are told -/
theorem sorted_end {pins : List (Addr × Obj)} {σ : St} {H : Hp} {s s1 : Shared} {Z : Addr → Prop} {vs : List V} {ds out : List PyData} {us : List Value} {Q : VK} {A : Around} {E : Value → Shared → Prop} (hA : A.units + 62 < cLine)
    (I1 : Inv X pins σ H s1) (rv : Reps X.K Z H vs ds) (ru : Vals vs us) (hs : sortedD ds = some out) (hl : us.length ≤ sizeLine) (q : Then X.K Z H (true, .list out) Q) :
    wpAny (model X.prog X.w) A (call (.builtin "list.sort") [.ref s1.heap.objs.size]) (fun _ s' => EP X pins σ Q (.ref s1.heap.objs.size) s') E { s1 with heap := s1.heap.push (seqObj "list" us.toArray 0) } := by
  obtain ⟨al, so, dp, rfl⟩ := sorted_ok hs
  have zl : (vs.zip ds).map (·.2) = ds := List.map_snd_zip (by rw [rv.len]; exact Nat.le_refl _)
  have e1 := each_of rv ru
  have er : PySem.W.EachIs (fun (v : Value) (p : V × PyData) => ∃ as, Reads s1.heap v p.2 as) us (vs.zip ds) := e1.mono fun u p hp => Dp.reads I1 p.2 p.1 u hp.2.dp hp.1
  refine PKS.sort_new (s := s1) (Q := fun v s' => EP X pins σ Q v s') (enc := fun p : V × PyData => p.2) e1 er (by rw [show ((vs.zip ds).map fun p => p.2) = ds from zl]; exact al) (by rw [show ((vs.zip ds).map fun p => p.2) = ds from zl]; exact so) hl (fun p hp => by
    have := dp _ (List.of_mem_zip hp).2
    omega) fun o c h' ho eo hk hn => ?_
  obtain ⟨b1, b2⟩ := each_back eo
  have ems : ((vs.zip ds).mergeSort (PySem.W.dataLe false fun p : V × PyData => p.2)).map (·.2) = ds.mergeSort fun a b => !PySem.W.dataLt b a := by
    rw [show PySem.W.dataLe false (fun p : V × PyData => p.2) = fun a b => !PySem.W.dataLt b.2 a.2 from PySem.W.dataLe_eq false _, List.map_mergeSort (s := fun a b => !PySem.W.dataLt b a) (fun a _ b _ => rfl), zl]
  rw [ems] at b2
  have hnew := I1.hok.fresh (a := s1.heap.objs.size) (Nat.le_refl _)
  refine ⟨.ref s1.heap.objs.size, _, I1.laid (a := s1.heap.objs.size) (o := .lst (((vs.zip ds).mergeSort (PySem.W.dataLe false fun p : V × PyData => p.2)).map (·.1))) (t' := s1.toks) (fun b o eb => hk b o eb) (Nat.le_refl _) ?_, rfl, q.lst b2 _ hnew⟩
  refine ⟨?_, o, c, b1, hn⟩
  rw [← Paired.length b1] at ho
  rw [Paired.length b1, b1.length.symm]
  rw [ho]; exact hl
theorem reps_key {K : PySem.W.Frag} {Z : Addr → Prop} {H : Hp} : ∀ {ds : List PyData} {k : List Key}, keyLs ds = some k → Reps K Z H (k.map kV) ds
  | [], _, e => by cases e; exact .nil
  | d :: ds, k, e => by
    cases d with
    | int i =>
      simp only [keyLs] at e
      cases h : keyLs ds with
      | none => rw [h] at e; cases e
      | some js => rw [h] at e; cases e; exact .cons (.int i) (reps_key h)
    | str i =>
      simp only [keyLs] at e
      cases h : keyLs ds with
      | none => rw [h] at e; cases e
      | some js => rw [h] at e; cases e; exact .cons (.str i) (reps_key h)
    | _ => cases e
theorem rep_key {K : PySem.W.Frag} {Z : Addr → Prop} {H : Hp} {x : PyData} {k : List Key} {b : Addr} (e : keyL x = some k) (h : H b = some (.tup (k.map kV))) : Rep K Z H (.ref b) x := by
  cases x with
  | tuple ds => exact .tup h (reps_key e)
  | _ => cases e
theorem keys_reps {K : PySem.W.Frag} {Z : Addr → Prop} {H : Hp} : ∀ {ks : List (List Key × V)} {kvs : List (PyData × PyData)} {xs : List (List Key × Addr × Value)}, DReps K Z H ks kvs →
    Paired (fun (p : List Key × V) (q : List Key × Addr × Value) => p.1 = q.1 ∧ H q.2.1 = some (.tup (p.1.map kV)) ∧ RelV p.2 q.2.2) ks xs → Reps K Z H (xs.map fun q => V.ref q.2.1) (kvs.map (·.1))
  | _, _, _, .nil, .nil => .nil
  | _, _, _, .cons h0 _ t, .cons r s => .cons (rep_key h0 r.2.1) (keys_reps t s)
theorem vals_refs (xs : List (List Key × Addr × Value)) : Vals (xs.map fun q => V.ref q.2.1) (xs.map fun q => Value.ref q.2.1) := by
  induction xs with
  | nil => exact .nil
  | cons x xs ih => exact .cons rfl ih
def rSortedDct (K : PySem.W.Frag) : List V → Hp → VK → Prop := fun vs H Q => ∃ Z a ks kvs out, vs = [.ref a] ∧ H a = some (.dT ks) ∧ DReps K Z H ks kvs ∧ sortedD (kvs.map (·.1)) = some out ∧ Then K Z H (true, .list out) Q
/-- sorted(d) -/
theorem cr_sortedDct (hc : X.calm = true) (hu : X.A.units + 100 < cLine) : CallR X (.builtin "sorted") (rSortedDct X.K) := by
  intro pins s σ H vs us Q I r h
  obtain ⟨Z, a, ks, kvs, out, rfl, ha, rs, hs, q⟩ := h
  obtain ⟨z, hd, xs, rel, o, es, ep, ho, hex, hdat, hes, nd⟩ : ObjOk X.prog X.w H s.heap a (.dT ks) := I.hok a _ ha
  cases r with
  | cons ru rt =>
  cases rt
  cases ru
  have hraw : s.heap.DictRaw a es ep := ⟨o, ho, hex, hdat⟩
  have hlen : es.size = xs.length := by rw [← Array.length_toList, hes, List.length_map]
  have hxl : xs.length = ks.length := (Paired.length rel).symm
  refine PKS.sorted_any (Pc := fun vs s1 => (∃ h' tk, s1 = { s with heap := h', toks := tk } ∧ ∀ b o, s.heap.get? b = some o → h'.get? b = some o) ∧ vs = xs.map fun q => Value.ref q.2.1)
    (fun E' => PKS.collect_src (PySem.KdlSrc.rawDict (es := es) (ep := ep) hd) (I.ok.hd hc) hraw (by rw [hlen, hxl]; exact z) fun h' tk vs hk hlt hl hp => ⟨⟨h', tk, rfl, hk⟩, ?_⟩) fun vs s1 ⟨⟨h', tk, e, hk⟩, ev⟩ => ?_
  · apply List.ext_getElem?
    intro j
    by_cases hj : j < vs.length
    · obtain ⟨hi, e⟩ := hp j _ (List.getElem?_eq_getElem hj)
      have hx : j < xs.length := by rw [← hlen]; exact hi
      rw [List.getElem?_eq_getElem hj, e, List.getElem?_map, List.getElem?_eq_getElem hx]
      have e2 : es[j] = entryOfKey (tupleKind (mixKind X.prog X.w)) xs[j] := by
        have e3 : es.toList[j]? = (xs.map (entryOfKey (tupleKind (mixKind X.prog X.w))))[j]? := by rw [hes]
        rw [List.getElem?_map, List.getElem?_eq_getElem hx] at e3
        simpa [hi] using e3
      rw [e2]
      rfl
    · rw [List.getElem?_eq_none (by omega), List.getElem?_eq_none (by rw [List.length_map]; omega)]
  · subst e ev
    refine ⟨by rw [List.length_map, hxl]; exact z, fun E' => ?_⟩
    exact sorted_end (Z := Z) (s := s) (by show X.A.units + 1 + 62 < cLine; omega) (I.kept hk) (keys_reps rs rel) (vals_refs xs) hs (by rw [List.length_map, hxl]; exact z) q
end
end PK
end

section
set_option Elab.async false
set_option linter.all false
set_option maxRecDepth 100000
set_option maxHeartbeats 4000000
/-! PkSet: sorted(set(xs)), len(set(xs)), xs a list of tuples of whole numbers. -/
namespace PK
open PySem PySem.Spec PyProof.Rows L2
open PySem (PyData)

def iT (ns : List Int) : PyData := .tuple (ns.map .int)
theorem toks_inj : ∀ (a b : List Int), PySem.W.keyToksAll (a.map .int) = PySem.W.keyToksAll (b.map .int) → a = b
  | [], [], _ => rfl
  | [], _ :: _, h => by simp [PySem.W.keyToksAll] at h
  | _ :: _, [], h => by simp [PySem.W.keyToksAll] at h
  | x :: a, y :: b, h => by
    simp only [List.map_cons, PySem.W.keyToksAll, PySem.W.keyToks, List.cons_append, List.nil_append, List.cons.injEq, Sum.inl.injEq, true_and] at h
    rw [h.1, toks_inj a b h.2]
def leD (a b : PyData) : Bool := !PySem.W.dataLt b a
theorem leD_total : PySem.W.TotalLe leD := PySem.W.sortLe_total (PyProof.Rows.listOrd PyProof.Rows.itemOrd) false fun d : PyData => PySem.W.keyToks d
theorem iT_inj {a b : List Int} (h : iT a = iT b) : a = b := by
  have h2 : a.map PyData.int = b.map PyData.int := PyData.tuple.inj h
  have : Function.Injective PyData.int := fun x y e => PyData.int.inj e
  exact (List.map_inj_right (fun x y e => PyData.int.inj e)).mp h2
theorem leD_anti (a b : List Int) (h1 : leD (iT a) (iT b) = true) (h2 : leD (iT b) (iT a) = true) : a = b := by
  have := (PyProof.Rows.listOrd PyProof.Rows.itemOrd).total (PySem.W.keyToks (iT a)) (PySem.W.keyToks (iT b)) (by simpa [leD, PySem.W.dataLt] using h2) (by simpa [leD, PySem.W.dataLt] using h1)
  exact toks_inj a b this
theorem isInts_iT {x : PyData} {ns : List Int} (h : isInts x = some ns) : x = iT ns := by
  cases x with
  | tuple ds =>
    have : ∀ {ds : List PyData} {ns : List Int}, intsD ds = some ns → ds = ns.map .int := by
      intro ds
      induction ds with
      | nil => intro ns h; cases h; rfl
      | cons d ds ih =>
        intro ns h
        cases d with
        | int i =>
          simp only [intsD] at h
          cases e : intsD ds with
          | none => rw [e] at h; cases h
          | some js => rw [e] at h; cases h; rw [ih e]; rfl
        | _ => cases h
    rw [this h]; rfl
  | _ => cases h
theorem isInts_of (ns : List Int) : isInts (iT ns) = some ns := by
  show intsD (ns.map .int) = some ns
  induction ns with
  | nil => rfl
  | cons n ns ih => simp [intsD, ih]
/-- sorting does not look at the order in which things stand -/
theorem sortedD_perm {xs ys out : List PyData} (hp : xs.Perm ys) (hi : ∀ y ∈ ys, ∃ ns, y = iT ns) (h : sortedD ys = some out) : sortedD xs = some out := by
  unfold sortedD at h ⊢
  split at h
  · rename_i hk
    cases h
    have e1 : alikeAll2 xs = alikeAll2 ys := by
      unfold alikeAll2
      rw [Bool.eq_iff_iff, List.all_eq_true, List.all_eq_true]
      constructor
      · intro q x hx
        rw [List.all_eq_true]
        intro y hy
        exact List.all_eq_true.mp (q x (hp.mem_iff.mpr hx)) y (hp.mem_iff.mpr hy)
      · intro q x hx
        rw [List.all_eq_true]
        intro y hy
        exact List.all_eq_true.mp (q x (hp.mem_iff.mp hx)) y (hp.mem_iff.mp hy)
    have e2 : ∀ f : PyData → Bool, xs.all f = ys.all f := fun f => by
      rw [Bool.eq_iff_iff, List.all_eq_true, List.all_eq_true]
      exact ⟨fun q x hx => q x (hp.mem_iff.mpr hx), fun q x hx => q x (hp.mem_iff.mp hx)⟩
    rw [e1, e2, e2, e2, if_pos hk]
    congr 1
    refine List.Perm.eq_of_pairwise (le := fun a b => leD a b = true) (fun a b ha hb h1 h2 => ?_) (PySem.W.sort_pairwise leD_total xs) (PySem.W.sort_pairwise leD_total ys) (((List.mergeSort_perm xs _).trans hp).trans (List.mergeSort_perm ys _).symm)
    obtain ⟨m, rfl⟩ := hi a (hp.mem_iff.mp ((List.mergeSort_perm xs _).mem_iff.mp ha))
    obtain ⟨n, rfl⟩ := hi b ((List.mergeSort_perm ys _).mem_iff.mp hb)
    rw [leD_anti m n h1 h2]
  · cases h
open Classical in
/-- the first ones: no two alike, the same things -/
theorem firsts_go : ∀ (xs acc : List PyData), (∀ x ∈ xs, ∃ ns, x = iT ns) → (∀ x ∈ acc, ∃ ns, x = iT ns) → acc.Nodup →
    (xs.foldl (fun acc x => if acc.any fun y => decide (isInts y = isInts x) then acc else acc ++ [x]) acc).Nodup ∧ ∀ z, z ∈ xs.foldl (fun acc x => if acc.any fun y => decide (isInts y = isInts x) then acc else acc ++ [x]) acc ↔ z ∈ acc ∨ z ∈ xs
  | [], acc, _, _, hn => ⟨hn, fun z => by simp⟩
  | x :: xs, acc, hx, ha, hn => by
    obtain ⟨n, rfl⟩ := hx x List.mem_cons_self
    have hc : (acc.any fun y => decide (isInts y = isInts (iT n))) = decide (iT n ∈ acc) := by
      rw [Bool.eq_iff_iff, List.any_eq_true, decide_eq_true_eq]
      constructor
      · rintro ⟨y, hy, e⟩
        rw [decide_eq_true_eq, isInts_of] at e
        rw [← isInts_iT e]; exact hy
      · exact fun h => ⟨_, h, by simp⟩
    rw [List.foldl_cons, hc]
    by_cases hm : iT n ∈ acc
    · rw [decide_eq_true hm, if_pos rfl]
      obtain ⟨h1, h2⟩ := firsts_go xs acc (fun y hy => hx y (List.mem_cons_of_mem _ hy)) ha hn
      refine ⟨h1, fun z => (h2 z).trans ⟨fun q => q.imp id (List.mem_cons_of_mem _), fun q => ?_⟩⟩
      rcases q with q | q
      · exact .inl q
      · rcases List.mem_cons.mp q with rfl | q
        · exact .inl hm
        · exact .inr q
    · rw [decide_eq_false hm, if_neg Bool.false_ne_true]
      obtain ⟨h1, h2⟩ := firsts_go xs (acc ++ [iT n]) (fun y hy => hx y (List.mem_cons_of_mem _ hy)) (fun y hy => by
        rcases List.mem_append.mp hy with q | q
        · exact ha y q
        · rw [List.mem_singleton] at q; exact ⟨n, q⟩) (by
        rw [List.nodup_append]
        refine ⟨hn, by simp, fun a h b hb => ?_⟩
        rw [List.mem_singleton] at hb
        subst hb
        exact fun e => hm (e ▸ h))
      refine ⟨h1, fun z => (h2 z).trans ?_⟩
      rw [List.mem_append, List.mem_singleton, List.mem_cons, or_assoc]
theorem setOk_iT {xs : List PyData} (h : setOk xs = true) : (∀ x ∈ xs, ∃ ns, x = iT ns) ∧ xs.length < 64 := by
  unfold setOk at h
  simp only [Bool.and_eq_true, decide_eq_true_eq, List.all_eq_true] at h
  refine ⟨fun x hx => ?_, h.2⟩
  obtain ⟨ns, e⟩ := Option.isSome_iff_exists.mp (h.1 x hx)
  exact ⟨ns, isInts_iT e⟩
theorem firsts_ok {xs : List PyData} (h : ∀ x ∈ xs, ∃ ns, x = iT ns) : (firsts xs).Nodup ∧ ∀ z, z ∈ firsts xs ↔ z ∈ xs := by
  obtain ⟨h1, h2⟩ := firsts_go xs [] h (fun _ q => nomatch q) List.nodup_nil
  exact ⟨h1, fun z => (h2 z).trans (by simp)⟩

section
variable {X : Cx}
/-- a set of tuples of whole numbers that stands for xs -/
def SetIs (K : PySem.W.Frag) (P : Program) (w : World) (Z : Addr → Prop) (H : Hp) (a : Addr) (xs : List PyData) : Prop :=
  ∃ L : List (Addr × List Int), H a = some (SetTO P w a L) ∧ (∀ p ∈ L, Rep K Z H (.ref p.1) (iT p.2)) ∧ (∀ p ∈ L, iT p.2 ∈ xs) ∧ ∀ x ∈ xs, ∃ p ∈ L, iT p.2 = x
def rSortedSet (K : PySem.W.Frag) (P : Program) (w : World) : List V → Hp → VK → Prop := fun vs H Q => ∃ Z a xs out, vs = [.ref a] ∧ SetIs K P w Z H a xs ∧ (∀ x ∈ xs, ∃ ns, x = iT ns) ∧ xs.Nodup ∧ sortedD xs = some out ∧ Then K Z H (true, .list out) Q
theorem Rep.sqT {K : PySem.W.Frag} {Z : Addr → Prop} {H : Hp} {a : Addr} {ns : List Int} (r : Rep K Z H (.ref a) (iT ns)) : SqT K H a (ns.map V.int) := by
  have : ∀ {ns : List Int} {vs : List V}, Reps K Z H vs (ns.map .int) → vs = ns.map V.int := by
    intro ns
    induction ns with
    | nil => intro vs h; cases h; rfl
    | cons n ns ih => intro vs h; cases h with | cons r t => cases r; rw [ih t]; rfl
  cases r with
  | tup h t => rw [← this t]; exact SqT.of h
theorem cr_sortedSet (hc : X.calm = true) (hu : X.A.units + 100 < cLine) : CallR X (.builtin "sorted") (rSortedSet X.K X.prog X.w) := by
  intro pins s σ H vs us Q I r h
  obtain ⟨Z, a, xs, out, rfl, ⟨L, ha, hk, hs, hall⟩, hi, hn, hso, q⟩ := h
  have R0 : SetT0 X.prog X.w s.heap a L := (I.hok a _ ha).1
  obtain ⟨es, ep, t, R⟩ := R0.full fun p hp => I.isT (hk p hp).sqT
  cases r with
  | cons ru rt =>
  cases rt
  cases ru
  obtain ⟨o, ho, hex, hd⟩ := R.ob
  have hfew := R.few
  have hsz := R.size
  have hes : es.toList.map (·.2) = L.map fun q => Value.ref q.1 := by
    rw [R.rows]
    unfold rowsOf
    rw [List.map_map] <;> rfl
  refine PKS.sorted_any (Pc := fun vs s1 => (∃ h' tk g dr os, s1 = ⟨h', g, dr, tk, os⟩ ∧ g = s.gens ∧ os = s.os ∧ (∀ b o, s.heap.get? b = some o → h'.get? b = some o)) ∧ vs.Perm (L.map fun q => Value.ref q.1))
    (fun E' => collect_set (A := X.A.in1) (I.ok.hd hc) ⟨o, ho, hex.1, hd⟩ R.fits (by unfold scanBound; omega) R.tab.ris R.led fun s1 vs k1 hz g1 o1 pm => ⟨⟨s1.heap, s1.toks, s1.gens, s1.drawn, s1.os, rfl, g1, o1, k1⟩, by rw [hes] at pm; exact pm⟩) ?_
  rintro vs s1 ⟨⟨h', tk, g, dr, os, rfl, rfl, rfl, hk1⟩, pm⟩
  obtain ⟨L1, pL, eL⟩ := perm_lift (fun q : Addr × List Int => Value.ref q.1) pm L rfl
  subst eL
  have hl : (L1.map fun q => Value.ref q.1).length ≤ sizeLine := by rw [List.length_map, pL.length_eq, sizeLine_eq]; omega
  refine ⟨hl, fun E' => ?_⟩
  have I1 : Inv X pins σ H ⟨h', s.gens, dr, tk, s.os⟩ := I.call (ch := []) (Un.kept hk1) (I.hok.kept hk1) I.bare (fun _ z => nomatch z)
  have rv : Reps X.K Z H (L1.map fun q => V.ref q.1) (L1.map fun q => iT q.2) := by
    have hm : ∀ q ∈ L1, q ∈ L := fun q hq => pL.mem_iff.mp hq
    clear pL pm hl
    induction L1 with
    | nil => exact .nil
    | cons x L1 ih => exact .cons (hk x (hm x List.mem_cons_self)) (ih fun q hq => hm q (List.mem_cons_of_mem _ hq))
  have nd : (L1.map fun q => iT q.2).Nodup := by
    have h1 : (L.map (·.2)).Nodup := R.nd
    have h2 : (L1.map (·.2)).Nodup := (pL.map (·.2)).nodup_iff.mpr h1
    have h3 := List.Pairwise.map iT (S := fun a b => a ≠ b) (fun a b (h : a ≠ b) => fun e => h (iT_inj e)) h2
    rw [List.map_map] at h3
    exact h3
  have pm2 : (L1.map fun q => iT q.2).Perm xs := (List.perm_ext_iff_of_nodup nd hn).mpr fun x => by
    rw [List.mem_map]
    constructor
    · rintro ⟨p, hp, rfl⟩
      exact hs p (pL.mem_iff.mp hp)
    · intro hx
      obtain ⟨p, hp, e⟩ := hall x hx
      exact ⟨p, pL.mem_iff.mpr hp, e⟩
  exact sorted_end (Z := Z) (s := s) (by show X.A.units + 1 + 62 < cLine; omega) I1 rv (vals_of_refs L1) (sortedD_perm pm2 hi hso) hl q
end
end PK
end

section
set_option Elab.async false
set_option linter.all false
set_option maxRecDepth 100000
set_option maxHeartbeats 4000000
/-! PkC2: comprehensions with two sources; dict comprehensions. -/
namespace PK
open PySem PySem.Spec PyProof.Rows L2
open PySem (PyData)

/-- a walk over things that stay, whatever happens to changeable ones -/
def Wk1 (K : PySem.W.Frag) (J : L2.It) (its : List PyData) (Z : Addr → Prop) (H : Hp) : Prop :=
  ∀ Z' H', Keeps Z H Z' H' → (∀ (i : Nat) (d : PyData), its[i]? = some d → J.go i H' ∧ ∀ x H2, J.yld i H' x H2 → HX H' H2 ∧ Rep K Z' H2 x d) ∧ J.stop its.length H'
def AftI1 (K : PySem.W.Frag) (XC : XR) (W : WX) (g : Env) (σ : St) (Z : Addr → Prop) (H : Hp) (R : L2.It → Hp → Prop) : Res (List PyData × Env) → Prop
  | .ok w => ∀ J Z' H', Ext g σ Z H w.2 σ Z' H' → Rel K Z' w.2 σ H' → Wk1 K J w.1 Z' H' → R J H'
  | .exc c d g' => ∀ cls oa Z' H', Ext g σ Z H g' σ Z' H' → Rel K Z' g' σ H' → XC c d cls oa H' → W cls oa σ H'
  | .bad => False
def TRI1 (K : PySem.W.Frag) (XC : XR) (W : WX) (f : Env → Res (List PyData × Env)) : TI := fun σ H R => ∃ Z g, Rel K Z g σ H ∧ AftI1 K XC W g σ Z H R (f g)
def of1F (fa : Env → Res (EV × Env)) (g : Env) : Res (List PyData × Env) := (fzF fa g).bind fun p => (Res.of (items p.1)).bind fun xs => .ok (xs, p.2)
def enum1F (fa : Env → Res (EV × Env)) (g : Env) : Res (List PyData × Env) := (fzF fa g).bind fun p => (Res.of (items p.1)).bind fun xs => .ok (enumD xs, p.2)
def rng1F (fes : Env → Res (List EV × Env)) (g : Env) : Res (List PyData × Env) := (fes g).bind fun p => (Res.of ((gets p.2 p.1).bind rng)).bind fun r => .ok (rangeL r.1 r.2, p.2)
section
variable {K : PySem.W.Frag} {XC : XR} {W : WX} {Z Z' Z0 Z1 Z2 : Addr → Prop} {g g' g0 g1 g2 : Env} {σ σ' σ0 σ1 σ2 : St} {H H' H0 H1 H2 : Hp} {Q : VK}
theorem wk_list {a : Addr} {ds : List PyData} (r : Rep K Z H (.ref a) (.list ds)) : Wk1 K (Itl K a) ds Z H := fun Z' H' k => by
  have r' := Rep.mv k _ _ r
  obtain ⟨b, vs, e, q, rs⟩ := (Rd1.of r').list
  cases e
  refine ⟨fun i d ed => ?_, ⟨vs, q, Nat.le_of_eq rs.len⟩⟩
  obtain ⟨v, h1, h2⟩ := rs.at' ed
  refine ⟨⟨vs, v, q, h1⟩, fun x H2 y => ?_⟩
  obtain ⟨rfl, y⟩ := y
  rw [y vs q] at h1
  cases h1
  exact ⟨HX.refl, h2⟩
theorem wk_tup {a : Addr} {ds : List PyData} (r : Rep K Z H (.ref a) (.tuple ds)) : Wk1 K (Itt K a) ds Z H := fun Z' H' k => by
  have r' := Rep.mv k _ _ r
  obtain ⟨b, vs, e, q, rs⟩ := (Rd1.of r').tuple
  cases e
  refine ⟨fun i d ed => ?_, ⟨vs, q, Nat.le_of_eq rs.len⟩⟩
  obtain ⟨v, h1, h2⟩ := rs.at' ed
  refine ⟨⟨vs, v, q, h1⟩, fun x H2 y => ?_⟩
  obtain ⟨rfl, y⟩ := y
  rw [y vs q] at h1
  cases h1
  exact ⟨HX.refl, h2⟩
theorem wk_rng (lo : Int) (n : Nat) : Wk1 K (Itr lo n) (rangeL lo n) Z H := fun Z' H' _ => by
  refine ⟨fun i d e => ?_, ?_⟩
  · obtain ⟨h1, rfl⟩ := rangeL_at e
    refine ⟨h1, fun x H' y => ?_⟩
    obtain ⟨rfl, rfl⟩ := y
    exact ⟨HX.refl, .int _⟩
  · show n ≤ (rangeL lo n).length
    unfold rangeL
    rw [List.length_map, List.length_range]
    exact Nat.le_refl _
theorem AftI1.later {r : Res (List PyData × Env)} {R : L2.It → Hp → Prop} (h : AftI1 K XC W g σ Z H R r) (X : Ext g σ Z H g1 σ Z1 H1) : AftI1 K XC W g1 σ Z1 H1 R r := by
  cases r with
  | ok w => exact fun J Z' H' x => h J Z' H' (X.trans x)
  | exc c d g' => exact fun cls oa Z' H' x => h cls oa Z' H' (X.trans x)
  | bad => exact h
theorem of1_run {fa : Env → Res (EV × Env)} {R : L2.It → Hp → Prop} (h : TRI1 K XC W (of1F fa) σ H R) : iSeq K (TRF K XC W (fzF fa)) σ H R := by
  obtain ⟨Z, g, Rl, h⟩ := h
  unfold of1F at h
  refine ⟨Z, g, Rl, ?_⟩
  cases ea : fzF fa g with
  | bad => rw [ea] at h; exact h
  | exc c d g' => rw [ea] at h; exact h
  | ok p =>
    rw [ea] at h
    simp only [Res.bind_ok] at h
    intro v Z1 H1 x1 R1 r1
    obtain ⟨xs, e, h⟩ := of_some (P := AftI1 K XC W g σ Z H R) (fun z => z) h
    cases hd : p.1 with
    | list ds =>
      rw [hd] at e r1
      cases e
      obtain ⟨a, vs, rfl, q, rs⟩ := (Rd1.of r1).list
      exact ⟨a, rfl, .inl ⟨⟨vs, q⟩, h (Itl K a) Z1 H1 x1 R1 (wk_list r1)⟩⟩
    | tuple ds =>
      rw [hd] at e r1
      cases e
      obtain ⟨a, vs, rfl, q, rs⟩ := (Rd1.of r1).tuple
      exact ⟨a, rfl, .inr ⟨⟨vs, q⟩, h (Itt K a) Z1 H1 x1 R1 (wk_tup r1)⟩⟩
    | _ => rw [hd] at e; cases e
end
section
variable {X : Cx} {XC : XR} {W : WX} {a b c : Expr} {es : List Expr} {fa fb fc : Env → Res (EV × Env)} {fes : Env → Res (List EV × Env)} {pos : Pos}
theorem i1_of {tg : Expr} (ha : PE X a (TRE X.K XC W fa)) : PI X tg a (TRI1 X.K XC W (of1F fa)) := ⟨fun pins s σ H R I h => (pi_seq (s_frz ha)).run pins s σ H R I (of1_run h)⟩
end
section
variable {K : PySem.W.Frag} {XC : XR} {W : WX} {Z Z' Z0 Z1 Z2 : Addr → Prop} {g g' g0 g1 g2 : Env} {σ σ' σ0 σ1 σ2 : St} {H H' H0 H1 H2 : Hp} {Q : VK}
theorem rng_run11 {fes : Env → Res (List EV × Env)} {R : L2.It → Hp → Prop} (hn : ∀ g p, fes g = .ok p → p.1.length = 1) (h : TRI1 K XC W (rng1F fes) σ H R) : iRng1 (TRA K XC W fes) σ H R := by
  obtain ⟨Z, g, Rl, h⟩ := h
  unfold rng1F at h
  refine ⟨Z, g, Rl, ?_⟩
  cases ea : fes g with
  | bad => rw [ea] at h; exact h
  | exc c d g' => rw [ea] at h; exact h
  | ok p =>
    have hl := hn g p ea
    rw [ea] at h
    simp only [Res.bind_ok] at h
    intro vs Z1 H1 x1 R1 r1 f1
    obtain ⟨⟨lo, n⟩, e, h⟩ := of_some (P := AftI1 K XC W g σ Z H R) (fun z => z) h
    cases eg : gets p.2 p.1 with
    | none => rw [eg] at e; cases e
    | some ds =>
      rw [eg] at e
      simp only [Option.bind_some] at e
      have rd := r1.rds R1 eg
      unfold rng at e
      split at e
      · rename_i j
        split at e
        · rename_i hj
          replace hj := isSmall_of hj
          cases e
          obtain ⟨v, rfl, rv⟩ := rd.one
          have := rv.int
          subst this
          exact ⟨j, rfl, hj.1, hj.2, h (Itr 0 j.toNat) Z1 H1 x1 R1 (wk_rng 0 j.toNat)⟩
        · cases e
      · rename_i i j
        obtain ⟨v, w, rfl, _⟩ := rd.two
        have := r1.len
        rw [hl] at this
        simp at this
      · cases e
theorem Ext.wipeR2 {vs vs1 : List Nat} (hs : ∀ i ∈ vs1, i ∈ vs) (X : Ext (PK.wipe g vs) σ0 Z H g' σ' Z' H') : Ext (PK.wipe g vs) σ0 Z H (PK.wipe g' vs1) (L2.wipe σ' vs1) Z' H' where
  pres := X.pres
  up := X.up
  zn := X.zn
  on := fun a o => X.on a (O_wipe o)
  th := X.th
  lk := fun i d e => by
    obtain ⟨h1, h2⟩ := X.lk i d e
    have hi : i ∉ vs := fun z => by
      rw [wipe_at] at e
      simp only [z, if_true] at e
      cases hg : g[i]? <;> rw [hg] at e <;> cases e
    have hi1 : i ∉ vs1 := fun z => hi (hs i z)
    rw [wipe_at, wipeσ_at]
    simp only [hi1, if_false]
    exact ⟨h1, h2⟩
  io := fun i d e => by
    obtain ⟨⟨d', h1⟩, h2⟩ := X.io i d e
    have hi : i ∉ vs := fun z => by
      rw [wipe_at] at e
      simp only [z, if_true] at e
      cases hg : g[i]? <;> rw [hg] at e <;> cases e
    have hi1 : i ∉ vs1 := fun z => hi (hs i z)
    rw [wipe_at, wipeσ_at]
    simp only [hi1, if_false]
    exact ⟨⟨d', h1⟩, h2⟩
theorem wipe_sub {vs vs1 : List Nat} (hs : ∀ i ∈ vs1, i ∈ vs) (g : Env) : PK.wipe (PK.wipe g vs1) vs = PK.wipe g vs := by
  apply List.ext_getElem?
  intro j
  rw [wipe_at, wipe_at, wipe_at]
  by_cases hj : j ∈ vs
  · simp only [hj, if_true]
    split <;> cases g[j]? <;> rfl
  · have : j ∉ vs1 := fun z => hj (hs j z)
    simp [hj, this]
theorem wipeσ_sub {vs vs1 : List Nat} (hs : ∀ i ∈ vs1, i ∈ vs) (σ : St) : L2.wipe (L2.wipe σ vs1) vs = L2.wipe σ vs := by
  apply List.ext_getElem?
  intro j
  rw [wipeσ_at, wipeσ_at, wipeσ_at]
  by_cases hj : j ∈ vs
  · simp only [hj, if_true]
    split <;> cases σ[j]? <;> rfl
  · have : j ∉ vs1 := fun z => hj (hs j z)
    simp [hj, this]
/-- the state within a block's inner loop -/
structure InC (K : PySem.W.Frag) (gb : Env) (σb : St) (Z1 : Addr → Prop) (H1 : Hp) (D : Addr) (acc : List PyData) (g : Env) (σ : St) (Z : Addr → Prop) (H : Hp) : Prop where
  R : Rel K Z g σ H
  X : Ext gb σb Z1 H1 g σ Z H
  it : ∃ us, H D = some (.lst us) ∧ Reps K Z H us acc
  nz : ¬ Z D
  no : ¬ O g σ D
theorem Keeps.trans {Za Zb Zc : Addr → Prop} {Ha Hb Hc : Hp} (a : Keeps Za Ha Zb Hb) (b : Keeps Zb Hb Zc Hc) : Keeps Za Ha Zc Hc :=
  ⟨fun c xs h => b.tup c xs (a.tup c xs h), fun c o u h => b.frz c o u (a.frz c o u h), fun c o z h => b.zs c o (a.up c z) (a.zs c o z h), fun c z => b.up c (a.up c z)⟩
theorem comp2_run {own own1 : List Nat} {t t1 : Tg} {fi : Env → Res Walk} {fi1 : Env → Res (List PyData × Env)} {fc fc1 : Env → Res (Bool × Env)} {fe : Env → Res (EV × Env)} (ht : ∀ i ∈ t.ix, i ∈ own) (ht1 : ∀ i ∈ t1.ix, i ∈ own1) (hsub : ∀ i ∈ own1, i ∈ own)
    (h : TRE K XC W (comp2F own own1 t t1 fi fi1 fc fc1 fe) σ H Q) :
    tLc2 (TRI K XC W fi) (tgG K t) (TRT K XC WF fc) (TRI1 K XC WF fi1) (tgG K t1) (TRT K XC WF fc1) (TRF K XC WF (fzF fe)) own own1 σ H Q := by
  obtain ⟨Z, g, R, h⟩ := h
  unfold comp2F at h
  refine ⟨Z, g, R, ?_⟩
  cases ea : fi g with
  | bad => rw [ea] at h; exact h
  | exc c d g' => rw [ea] at h; exact h
  | ok w =>
  rw [ea] at h
  simp only [Res.bind_ok] at h
  intro J Z1 H1 ge x1 lk R1 ⟨P, p1, wp⟩ D hD
  cases eq : comp2L own own1 (turn2F t fc fi1) (turnF t1 fc1 fe) w.its [] w.env with
  | bad => rw [eq] at h; exact h.elim
  | exc c d g' => rw [eq] at h; exact h.elim
  | ok q =>
  rw [eq] at h
  simp only [Res.quiet_ok, Res.bind_ok] at h
  have Rw := R1.wipe own
  have pw := wp.wip p1 R1 own
  refine ⟨fun i m H => m = w.its.length - i ∧ i ≤ w.its.length ∧ ∃ acc g2 Z2, comp2L own own1 (turn2F t fc fi1) (turnF t1 fc1 fe) (w.its.drop i) acc g2 = .ok q ∧ InB K own w.env σ Z1 H1 D acc g2 Z2 H, ⟨_, rfl, Nat.zero_le _, [], w.env, Z1, by simpa using eq, ?_⟩, ?_⟩
  · have hx : HX H1 (upd H1 D (.lst [])) := HX.new hD
    refine ⟨Rw.hx hx, hx.ext, ⟨[], upd_same, .nil⟩, fun z => R1.ex D z hD, fun o => ?_⟩
    obtain ⟨vs, e, _, _⟩ := Rw.ol o
    rw [hD] at e; cases e
  · rintro i m H ⟨rfl, hi, acc, g2, Z2, ec, B⟩
    by_cases hlt : i < w.its.length
    · right
      have hd : w.its.drop i = w.its[i] :: w.its.drop (i + 1) := List.drop_eq_getElem_cons hlt
      rw [hd] at ec
      simp only [comp2L] at ec
      obtain ⟨pt, et, ec⟩ := bind_ok_inv ec
      obtain ⟨g3, eb, et⟩ := of_ok_inv (show turn2F t fc fi1 (PK.wipe g2 own) w.its[i] = .ok pt from et)
      obtain ⟨go, yl⟩ := wp.go (wp.keep pw Rw B.X) B.R i _ (List.getElem?_eq_getElem hlt)
      refine ⟨go, fun H' => (w.its.length - (i + 1) = w.its.length - (i + 1) ∧ i + 1 ≤ w.its.length ∧ ∃ acc g2 Z2, comp2L own own1 (turn2F t fc fi1) (turnF t1 fc1 fe) (w.its.drop (i + 1)) acc g2 = .ok q ∧ InB K own w.env σ Z1 H1 D acc g2 Z2 H'), fun H' n => ⟨_, by omega, n⟩, fun x H' y => ?_⟩
      obtain ⟨hx, rx⟩ := yl x H' y
      obtain ⟨us, eD, rD⟩ := B.it
      have S0 : StB (PK.wipe g2 own) (L2.wipe σ own) Z2 H D := ⟨⟨us, eD⟩, B.nz, B.no⟩
      refine bind_ok (B.R.hx hx) hx.ext rx eb fun σ2 x2 R2 hw => ⟨by rw [hw own ht, wipe_wipe], ?_⟩
      obtain ⟨S2, s2⟩ := S0.step x2
      refine ⟨Z2, g3, R2, ?_⟩
      obtain ⟨pc, ef, et⟩ := bind_ok_inv et
      rw [ef]
      intro Z4 H4 x4 R4
      obtain ⟨S4, s4⟩ := S2.step x4
      have X4 : Ext (PK.wipe w.env own) (L2.wipe σ own) Z1 H1 pc.2 σ2 Z4 H4 := (B.X.trans x2).trans x4
      cases hb : pc.1 with
      | false =>
        rw [hb, if_neg Bool.false_ne_true] at et
        cases et
        rw [if_neg Bool.false_ne_true]
        refine ⟨rfl, hlt, acc, pc.2, Z4, ec, ⟨?_, ?_, ⟨us, (s4.trans s2).trans eD, ?_⟩, S4.nz, fun o => ?_⟩⟩
        · have := R4.wipe own
          rwa [hw own ht, wipe_wipe] at this
        · have := X4.wipeR
          rwa [hw own ht, wipe_wipe] at this
        · exact rD.mv (B.R.keeps (x2.trans x4))
        · refine S4.no (O_wipe (vs := own) ?_)
          rw [hw own ht, wipe_wipe]
          exact o
      | true =>
        rw [hb, if_pos rfl] at et
        rw [if_pos rfl]
        obtain ⟨pw1, ew, et⟩ := bind_ok_inv et
        cases et
        refine ⟨Z4, pc.2, R4, ?_⟩
        rw [ew]
        intro J1 Z5 H5 x5 R5 wk
        obtain ⟨S5, s5⟩ := S4.step x5
        obtain ⟨q1, e1, ec⟩ := bind_ok_inv ec
        have eD5 : H5 D = some (.lst us) := ((s5.trans s4).trans s2).trans eD
        have X5 : Ext (PK.wipe w.env own) (L2.wipe σ own) Z1 H1 pw1.2 σ2 Z5 H5 := X4.trans x5
        have rD5 : Reps K Z5 H5 us acc := rD.mv (B.R.keeps ((x2.trans x4).trans x5))
        refine ⟨fun j k H => k = pw1.1.length - j ∧ j ≤ pw1.1.length ∧ ∃ acc' g6 Z6, compL own1 (turnF t1 fc1 fe) (pw1.1.drop j) acc' g6 = .ok q1 ∧ InC K (PK.wipe w.env own) (L2.wipe σ own) Z1 H1 D acc' (PK.wipe g6 own1) (L2.wipe σ2 own1) Z6 H ∧ Keeps Z5 H5 Z6 H,
          ⟨_, rfl, Nat.zero_le _, acc, pw1.2, Z5, by simpa using e1, ⟨R5.wipe own1, X5.wipeR2 hsub, ⟨us, eD5, rD5⟩, S5.nz, fun o => S5.no (O_wipe o)⟩, ⟨fun _ _ h => h, fun _ _ _ h => h, fun _ _ _ h => h, fun _ z => z⟩⟩, ?_⟩
        rintro j k Hj ⟨rfl, hj, acc', g6, Z6, ec1, B1, kp⟩
        obtain ⟨wgo, wstop⟩ := wk Z6 Hj kp
        by_cases hlt1 : j < pw1.1.length
        · right
          have hd1 : pw1.1.drop j = pw1.1[j] :: pw1.1.drop (j + 1) := List.drop_eq_getElem_cons hlt1
          rw [hd1] at ec1
          simp only [compL] at ec1
          obtain ⟨pt1, et1, ec1⟩ := bind_ok_inv ec1
          obtain ⟨g7, eb1, et1⟩ := of_ok_inv (show turnF t1 fc1 fe (PK.wipe g6 own1) pw1.1[j] = .ok pt1 from et1)
          obtain ⟨go1, yl1⟩ := wgo j _ (List.getElem?_eq_getElem hlt1)
          refine ⟨go1, fun H' => (pw1.1.length - (j + 1) = pw1.1.length - (j + 1) ∧ j + 1 ≤ pw1.1.length ∧ ∃ acc' g6 Z6, compL own1 (turnF t1 fc1 fe) (pw1.1.drop (j + 1)) acc' g6 = .ok q1 ∧ InC K (PK.wipe w.env own) (L2.wipe σ own) Z1 H1 D acc' (PK.wipe g6 own1) (L2.wipe σ2 own1) Z6 H' ∧ Keeps Z5 H5 Z6 H'), fun H' n => ⟨_, by omega, n⟩, fun x H' y => ?_⟩
          obtain ⟨hx1, rx1⟩ := yl1 x H' y
          obtain ⟨us1, eD1, rD1⟩ := B1.it
          have T0 : StB (PK.wipe g6 own1) (L2.wipe σ2 own1) Z6 Hj D := ⟨⟨us1, eD1⟩, B1.nz, B1.no⟩
          refine bind_ok (B1.R.hx hx1) hx1.ext rx1 eb1 fun σ3 x3 R3 hw3 => ⟨by rw [hw3 own1 ht1, wipe_wipe], ?_⟩
          obtain ⟨T3, t3⟩ := T0.step x3
          refine ⟨Z6, g7, R3, ?_⟩
          obtain ⟨pc1, ef1, et1⟩ := bind_ok_inv et1
          rw [ef1]
          intro Z8 H8 x8 R8
          obtain ⟨T8, t8⟩ := T3.step x8
          have X8 : Ext (PK.wipe w.env own) (L2.wipe σ own) Z1 H1 pc1.2 σ3 Z8 H8 := (B1.X.trans x3).trans x8
          have kp8 : Keeps Z5 H5 Z8 H8 := kp.trans (B1.R.keeps (x3.trans x8))
          cases hb1 : pc1.1 with
          | false =>
            rw [hb1, if_neg Bool.false_ne_true] at et1
            cases et1
            rw [if_neg Bool.false_ne_true]
            refine ⟨rfl, hlt1, acc', pc1.2, Z8, ec1, ⟨?_, ?_, ⟨us1, (t8.trans t3).trans eD1, ?_⟩, T8.nz, fun o => ?_⟩, kp8⟩
            · have := R8.wipe own1
              rwa [hw3 own1 ht1, wipe_wipe] at this
            · have := X8.wipeR2 hsub
              rwa [hw3 own1 ht1, wipe_wipe] at this
            · exact rD1.mv (B1.R.keeps (x3.trans x8))
            · refine T8.no (O_wipe (vs := own1) ?_)
              rw [hw3 own1 ht1, wipe_wipe]
              exact o
          | true =>
            rw [hb1, if_pos rfl] at et1
            rw [if_pos rfl]
            obtain ⟨pe, ee, et1⟩ := bind_ok_inv et1
            cases et1
            refine ⟨Z8, pc1.2, R8, ?_⟩
            rw [ee]
            intro v Z9 H9 x9 R9 r9
            obtain ⟨T9, t9⟩ := T8.step x9
            have eD9 : H9 D = some (.lst us1) := ((t9.trans t8).trans t3).trans eD1
            simp only at ec1
            split at ec1
            · rename_i hal
              have rD9 : Reps K Z9 H9 us1 acc' := rD1.mv (B1.R.keeps ((x3.trans x8).trans x9))
              refine ⟨us1, eD9, ?_, rfl, hlt1, acc' ++ [pe.1], pe.2, Z9, ec1, ⟨?_, ?_, ⟨us1 ++ [v], upd_same, ?_⟩, T9.nz, fun o => ?_⟩, (kp8.trans (R8.keeps x9)).trans (Keeps.appD eD9 T9.nz)⟩
              · have l2 : line = sizeLine := line_eq
                rw [rD9.len, ← l2]
                exact hal
              · have := (R9.appD (ws := us1 ++ [v]) eD9 T9.nz T9.no).wipe own1
                rwa [hw3 own1 ht1, wipe_wipe] at this
              · have := ((X8.trans x9).appD (u := .lst (us1 ++ [v])) hD).wipeR2 hsub
                rwa [hw3 own1 ht1, wipe_wipe] at this
              · exact (rD9.app (.cons r9 .nil)).mv (Keeps.appD eD9 T9.nz)
              · refine T9.no (O_wipe (vs := own1) ?_)
                rw [hw3 own1 ht1, wipe_wipe]
                exact o
            · cases ec1
        · left
          have hj' : j = pw1.1.length := by omega
          subst hj'
          refine ⟨wstop, rfl, hlt, ?_⟩
          rw [List.drop_length] at ec1
          cases ec1
          have ew1 : L2.wipe (L2.wipe σ2 own1) own = L2.wipe σ own := by rw [wipeσ_sub hsub, hw own ht, wipe_wipe]
          refine ⟨acc', g6, Z6, ec, ⟨?_, ?_, B1.it, B1.nz, fun o => B1.no (O_wipe (vs := own) ?_)⟩⟩
          · have := B1.R.wipe own
            rwa [wipe_sub hsub, ew1] at this
          · have := B1.X.wipeR
            rwa [wipe_sub hsub, ew1] at this
          · rw [wipe_sub hsub, ew1]
            exact o
    · left
      have hi' : i = w.its.length := by omega
      subst hi'
      refine ⟨wp.stop (wp.keep pw Rw B.X) B.R, ?_⟩
      rw [List.drop_length] at ec
      cases ec
      obtain ⟨b1, b2, b3⟩ := back_ok R1 B.X B.R
      obtain ⟨c1, c2, c3⟩ := lock_ext lk b1 b2
      obtain ⟨us, eD, rD⟩ := B.it
      refine h (.ref D) Z2 H (x1.trans c1) c2 ⟨D, rfl, B.nz, fun o => ?_, .lst eD rD⟩ ⟨D, rfl, x1.th D hD⟩
      rcases b3 D (c3 D o) with o | o
      · exact B.no o
      · obtain ⟨vs, e, _, _⟩ := R1.ol o
        rw [hD] at e; cases e
end
end PK
end

section
set_option Elab.async false
set_option linter.all false
set_option maxRecDepth 100000
set_option maxHeartbeats 4000000
/-! PkDc: dict comprehensions whose keys are tuples (after HandS.DictComp, whose keys are numbers and texts). -/
namespace PK
open PySem PySem.Spec PyProof.Rows L2
open PySem (PyData)

section
variable {X : Cx}
/-- D[k] = v within the block -/
theorem dT_set {pins : List (Addr × Obj)} {σ : St} {H : Hp} {s : Shared} {E : Value → Shared → Prop} {D b : Addr} {kvs : List (List Key × V)} {k : List Key} {v : V} {r : Value} {Q : Unit → Shared → Prop} (hu : X.A.units + 1 < cLine) (I : Inv X pins σ H s)
    (hD : H D = some (.dT kvs)) (hb : H b = some (.tup (k.map kV))) (hz : kvs.length < sizeLine) (rv : RelV v r) (h : ∀ s', Inv X pins σ (upd H D (.dT (putK kvs k v))) s' → Q () s') :
    wpAny (model X.prog X.w) X.A (dictSet D (.ref b) r) Q E s := by
  obtain ⟨z, hd, xs, rel, dd⟩ := dt_of I.hok hD
  have hxl : xs.length ≤ sizeLine := by rw [← Paired.length rel]; exact z
  have hl : (putK kvs k v).length ≤ sizeLine := Nat.le_trans (length_putK kvs k v) hz
  have hroom : (tupleKind (mixKind X.prog X.w)).room X.A := by
    show X.A.units < cLine
    omega
  refine wpAny_dictSet_heap (hsz := hxl) hroom (key_of I.hok hb) dd fun h' dd' hs => h _ ?_
  obtain ⟨o, es, ep, hq, e2, e3, e4, _, e5⟩ := dd'
  exact d_write I (by rw [hD]; exact True.intro) hs ⟨o, hq⟩ ⟨hl, hd, _, (rel.put k hb rv).keeps fun c ys ec => by
    rw [upd_ne (ne_of ec hD (fun q => nomatch q))]; exact ec, o, es, ep, hq, e2, e3, e4, e5⟩
def tDcT (wi : TI) (g : TG) (tt : TT) (tk tv : TE) (vs : List Nat) : TE := fun σ H Q => wi σ H fun J H1 => ∀ D, H1 D = none → ∃ W : Nat → Nat → Hp → Prop, (∃ m, W 0 m (upd H1 D (.dT []))) ∧ ∀ i m H, W i m H →
  (J.stop i H ∧ Q (.ref D) H) ∨ (J.go i H ∧ ∃ Nx : Hp → Prop, (∀ H', Nx H' → ∃ m', m' < m ∧ W (i + 1) m' H') ∧ ∀ x H', J.yld i H x H' → g x (L2.wipe σ vs) H' fun σ2 H2 => L2.wipe σ2 vs = L2.wipe σ vs ∧ tt σ2 H2 fun b H3 =>
    if b = true then tk σ2 H3 fun y H4 => tv σ2 H4 fun z H5 => ∃ kvs k c, y = V.ref c ∧ H5 c = some (.tup (k.map kV)) ∧ H5 D = some (.dT kvs) ∧ kvs.length < sizeLine ∧ Nx (upd H5 D (.dT (putK kvs k z))) else Nx H3)
/-- the block, to its end -/
theorem dcT_core {pins : List (Addr × Obj)} {s : Shared} {σ : St} {H : Hp} {Q : VK} {kx vx tg iter : Expr} {ifs : List Expr} {scope : Scope} {own : List (Str × Nat)} {pos pos' : Pos} {wi : TI} {g : TG} {tt : TT} {tk tv : TE} {use : Option (Value → Sem Unit)} {Qf : Value → Shared → Prop}
    (hu : X.A.units + 1 < cLine) (hc : X.calm = true) (hN : X.N.Nodup) (I : Inv X pins σ H s) (hi : PI X tg iter wi) (ok : BlkOk X.N X.env.scope scope own)
    (hg : ∀ (s : Shared) (H : Hp) (C : Addr) (cl : List (Str × Addr)) (fp : List Addr), PG (X.blk s H scope (compEnvC scope cl C X.env) fp) tg g) (ht : ∀ (s : Shared) (H : Hp) (C : Addr) (cl : List (Str × Addr)) (fp : List Addr), PTs (X.blk s H scope (compEnvC scope cl C X.env) fp) ifs tt)
    (hk : ∀ (s : Shared) (H : Hp) (C : Addr) (cl : List (Str × Addr)) (fp : List Addr), PE (X.blk s H scope (compEnvC scope cl C X.env) fp) kx tk)
    (he : ∀ (s : Shared) (H : Hp) (C : Addr) (cl : List (Str × Addr)) (fp : List Addr), PE (X.blk s H scope (compEnvC scope cl C X.env) fp) vx tv) (hs : ∀ x, foldedSetIterable iter X.env x = pure x)
    (h : tDcT wi g tt tk tv (own.map (·.2)) σ H Q)
    (hend : ∀ D C s' m H', Inv X pins σ H' s' → Q (.ref D) H' → s'.heap.Ns C m → FpOk X pins H' C → compPost (model X.prog X.w) X.A X.xe use Qf (.ref D) C (.ok .next) s') :
    wpAny (model X.prog X.w) X.A (comprehension (.DictComp kx vx [⟨tg, iter, ifs, 0⟩] scope pos) scope X.env pos' newDict false (eval iter X.env) use) Qf X.xe s := by
  have hcell : ∀ y ∈ scope.names, y.2 = .free → ∃ c, X.env.cells.lookup y.1 = some c := fun y hy e => I.ok.has _ ((ok.free y hy e).imp id id)
  refine wpAny_comprehension_free (use := use) rfl hs (closure_ok hcell) ok.kind (fun y hy e => by rw [ok.uniq y hy, e]) (thn (hi.run pins s σ H _ I h) fun xv s1 hx => thn hx fun itv s2 h2 => ?_)
  obtain ⟨it, fp, tn, J, H2, e, I2, T, st2, f2, q⟩ := h2
  subst e
  refine wpAny_newObj_type (newEnv_comp ?_)
  generalize hD : s2.heap.objs.size = D
  obtain ⟨W, ⟨m0, w0⟩, turn⟩ := q D (I2.hok.fresh (Nat.le_of_eq hD))
  -- the dict is there
  generalize hs3 : ({ s2 with heap := s2.heap.push { cls := .type "dict", data := .dict #[] } } : Shared) = s3
  have h3 : s3.heap = s2.heap.push { cls := .type "dict", data := .dict #[] } := by rw [← hs3]
  have I3 : Inv X pins σ (upd H2 D (.dT [])) s3 := by
    rw [← hs3]
    refine I2.laid (t' := s2.toks) (fun b o q => Heap.get?_push_of_some _ q) (Nat.le_of_eq hD) ?_
    rw [← hD]
    exact dt_empty s2.heap I2.big
  have lt2 : ∀ b ∈ fp, b < s2.heap.objs.size := fun b hb => let ⟨_, q, _⟩ := T.obj _ _ st2 b hb; Heap.lt_size q
  have f3 : ∀ b ∈ fp, FpOk X pins (upd H2 D (.dT [])) b ∧ b < s3.heap.objs.size := fun b hb =>
    ⟨⟨by rw [upd_ne (by rw [← hD]; exact Nat.ne_of_lt (lt2 b hb))]; exact (f2 b hb).1, (f2 b hb).2⟩, by rw [h3, Heap.size_push]; exact Nat.lt_succ_of_lt (lt2 b hb)⟩
  have st3 : tn 0 s3.heap := T.keep _ _ _ st2 fun b _ o q => by rw [h3]; exact Heap.get?_push_of_some _ q
  have I4 := block_start I3 ok hN f3
  generalize hcl : cellsFrom (s3.heap.objs.size + 1) scope.names (cloFrom X.env.cells scope.names []) = cl at I4
  have pg := hg s3 (upd H2 D (.dT [])) s3.heap.objs.size cl fp
  have pt := ht s3 (upd H2 D (.dT [])) s3.heap.objs.size cl fp
  have pk := hk s3 (upd H2 D (.dT [])) s3.heap.objs.size cl fp
  have pe := he s3 (upd H2 D (.dT [])) s3.heap.objs.size cl fp
  have goal_eq : codeAny (model X.prog X.w) X.A (.compStart (.DictComp kx vx [⟨tg, iter, ifs, 0⟩] scope pos) 0 (.ref it) (.ref D) (compEnvC scope cl s3.heap.objs.size X.env)) (compPost (model X.prog X.w) X.A X.xe use Qf (.ref D) s3.heap.objs.size) { s3 with heap := pushCells (s3.heap.push { cls := .type "dict", data := .dict #[] }) scope.names } := by
    have nfp : ∀ b ∈ fp, (upd H2 D (.dT [])) b = none := fun b hb => (f3 b hb).1.1
    generalize hce : compEnvC scope cl s3.heap.objs.size X.env = ce at I4 pg pt pk pe ⊢
    have cL : ce.locals = s3.heap.objs.size := by subst hce; rfl
    generalize hH3 : upd H2 D (.dT []) = H3 at I3 I4 pg pt pk pe w0 nfp f3
    generalize hs4 : ({ s3 with heap := pushCells (s3.heap.push { cls := .type "dict", data := .dict #[] }) scope.names } : Shared) = s4 at I4 ⊢
    have st4 : tn 0 s4.heap := T.keep _ _ _ st3 fun b _ o q => by rw [← hs4]; exact pushCells_keeps _ _ _ _ (Heap.get?_push_of_some _ q)
    have stat : ∀ {σ' : St} {H' : Hp} {s' : Shared}, Inv (X.blk s3 H3 scope ce fp) [] σ' H' s' → (∀ b ∈ fp, H' b = none) → ∀ b ∈ fp, FpOk (X.blk s3 H3 scope ce fp) [] H' b := fun {σ' H' s'} I' hn b hb =>
      ⟨hn b hb, (I'.ok.exf b hb).1, I'.ok.exfs b hb, .inl hb, fun x c q => (I'.ok.exf b hb).2 x c q, fun p hp => absurd (show p ∈ ([] : List (Addr × Obj)) ++ [] from hp) (by simp)⟩
    have loop : codeAny (model X.prog X.w) X.A (.compLoop (.DictComp kx vx [⟨tg, iter, ifs, 0⟩] scope pos) 0 (.ref it) (.ref D) ce) (compPost (model X.prog X.w) X.A X.xe use Qf (.ref D) s3.heap.objs.size) s4 := by
      refine compLoop_anyD (fun n s' => ∃ i H', Inv (X.blk s3 H3 scope ce fp) [] (L2.wipe σ (own.map (·.2))) H' s' ∧ tn i s'.heap ∧ (∀ b ∈ fp, H' b = none) ∧ W i n H') ?_ m0 ⟨0, H3, I4, st4, nfp, w0⟩
      rintro n s5 ⟨i, H5, I5, st5, n5, w5⟩
      rcases turn i n H5 w5 with ⟨stop, qq⟩ | ⟨go, Nx, hNx, step⟩
      · -- the end
        refine thnF (T.done (X.blk s3 H3 scope ce fp) rfl rfl rfl hc i [] s5 _ H5 (fun _ _ => False) I5 (stat I5 n5) st5 stop) fun r s6 ⟨hr, I6⟩ => ?_
        subst hr
        have I7 : Inv X pins σ H5 s6 := I3.call' (ch := fp) I6.os I6.base I6.hok I6.bare fun b hb => ⟨(f3 b hb).1.2.2.2.1, (f3 b hb).1.2.1, (f3 b hb).1.2.2.2.2.1, (f3 b hb).1.2.2.2.2.2⟩
        have nC : H5 s3.heap.objs.size = none := by
          have z : H5 ce.locals = none := I6.free
          rwa [cL] at z
        obtain ⟨m, hn, _⟩ := I6.loc
        replace hn : s6.heap.Ns ce.locals m := hn
        rw [cL] at hn
        exact hend D s3.heap.objs.size s6 m H5 I7 qq hn (I3.fpOk (Nat.le_refl _) nC)
      · -- a turn
        refine thnF (T.item (X.blk s3 H3 scope ce fp) rfl rfl rfl hc i [] s5 _ H5 (fun _ _ => False) I5 (stat I5 n5) st5 go) fun r s6 ⟨u, hr, h6⟩ => ?_
        subst hr
        refine thnF h6 fun _ s7 ⟨x, H7, I7, r7, y7, st7, n7⟩ => ?_
        have I7' := I7.pinned (stat I7 n7) (T.obj _ _ st7)
        refine thnF (pg.run _ s7 _ H7 x u _ I7' r7 (step x H7 y7)) fun _ s8 ⟨σ8, H8, I8, hw8, q8⟩ => ?_
        refine thnF (pt.run _ s8 σ8 H8 _ I8 q8) fun b s9 ⟨H9, I9, q9⟩ => ?_
        have fin : ∀ {s' : Shared} {H' : Hp}, Inv (X.blk s3 H3 scope ce fp) ([] ++ pinsAt fp s7.heap) σ8 H' s' → Nx H' → ∃ m, m < n ∧ ∃ i H', Inv (X.blk s3 H3 scope ce fp) [] (L2.wipe σ (own.map (·.2))) H' s' ∧ tn i s'.heap ∧ (∀ b ∈ fp, H' b = none) ∧ W i m H' := fun {s' H'} I' nx => by
          obtain ⟨m', hm, w'⟩ := hNx H' nx
          have pin' : ∀ b ∈ fp, ∀ o, s7.heap.get? b = some o → s'.heap.get? b = some o ∧ H' b = none := fun b hb o q =>
            let z := I'.pin (b, o) (List.mem_append_right _ (List.mem_append_right _ (mem_pinsAt hb q)))
            ⟨z.1, z.2.1⟩
          have hl : (L2.wipe σ (own.map (·.2))).length = σ8.length := by rw [← hw8, wipe_length]
          refine ⟨m', hm, i + 1, H', (I'.unpinned (pins := [])).weak hl (fun j v q => by rw [← hw8] at q; exact (wipe_some q).1), T.keep _ _ _ st7 fun b hb o q => (pin' b hb o q).1, fun b hb => ?_, w'⟩
          obtain ⟨o, q, _⟩ := T.obj _ _ st7 b hb
          exact (pin' b hb o q).2
        cases b with
        | false =>
          simp only [Bool.false_eq_true, if_false] at q9 ⊢
          exact fin I9 q9
        | true =>
          simp only [if_true] at q9 ⊢
          refine thnF (pk.run _ s9 σ8 H9 _ I9 q9) fun z s10 ⟨yk, H10, I10, r10, q10⟩ => ?_
          refine thnF (pe.run _ s10 σ8 H10 _ I10 q10) fun z2 s11 ⟨yv, H11, I11, r11, kvs, k, c, ek, hc11, hD11, hz11, nx⟩ => ?_
          subst ek
          cases r10
          exact dT_set (X := X.blk s3 H3 scope ce fp) hu I11 hD11 hc11 hz11 r11 fun s12 I12 => fin I12 nx
    exact codeAny_compStart_dict loop (T.self X.A 0 _ _ _ st4 loop)
  exact goal_eq
theorem pe_dcT {kx vx tg iter : Expr} {ifs : List Expr} {scope : Scope} {own : List (Str × Nat)} {pos : Pos} {wi : TI} {g : TG} {tt : TT} {tk tv : TE} (hu : X.A.units + 1 < cLine) (hc : X.calm = true) (hN : X.N.Nodup) (hi : PI X tg iter wi) (ok : BlkOk X.N X.env.scope scope own)
    (hg : ∀ (s : Shared) (H : Hp) (C : Addr) (cl : List (Str × Addr)) (fp : List Addr), PG (X.blk s H scope (compEnvC scope cl C X.env) fp) tg g) (ht : ∀ (s : Shared) (H : Hp) (C : Addr) (cl : List (Str × Addr)) (fp : List Addr), PTs (X.blk s H scope (compEnvC scope cl C X.env) fp) ifs tt)
    (hk : ∀ (s : Shared) (H : Hp) (C : Addr) (cl : List (Str × Addr)) (fp : List Addr), PE (X.blk s H scope (compEnvC scope cl C X.env) fp) kx tk)
    (he : ∀ (s : Shared) (H : Hp) (C : Addr) (cl : List (Str × Addr)) (fp : List Addr), PE (X.blk s H scope (compEnvC scope cl C X.env) fp) vx tv) (hs : ∀ x, foldedSetIterable iter X.env x = pure x) :
    PE X (.DictComp kx vx [⟨tg, iter, ifs, 0⟩] scope pos) (tDcT wi g tt tk tv (own.map (·.2))) := by
  refine ⟨fun pins s σ H Q I h => ?_⟩
  rw [arm_eval_DictComp]
  refine dcT_core hu hc hN I hi ok hg ht hk he hs h fun D C s' m H' I' q hn f => ⟨m, hn, fun h'' sb => ?_⟩
  obtain ⟨a0, a1, a2, a3, a4, a5⟩ := f
  exact ⟨.ref D, H', I'.turned (t' := s'.toks) (fun b o hb q => (sb.2 b hb).trans q) a0 a1 a3 a4 a5, rfl, q⟩
/-- y = {..}, the store within the block's frame -/
theorem ps_setDcT {i : Nat} {y : Str} {py spos : Pos} {kx vx tg iter : Expr} {ifs : List Expr} {scope : Scope} {own : List (Str × Nat)} {pos : Pos} {wi : TI} {g : TG} {tt : TT} {tk tv : TE} (hu : X.A.units + 1 < cLine) (hc : X.calm = true) (hN : X.N.Nodup) (hy : X.N[i]? = some y) (hyl : X.env.scope.names.lookup y = some .local)
    (hsw : swapsWith (.DictComp kx vx [⟨tg, iter, ifs, 0⟩] scope pos) (some (.Name y py)) spos.line X.env = pure true) (hi : PI X tg iter wi) (ok : BlkOk X.N X.env.scope scope own)
    (hg : ∀ (s : Shared) (H : Hp) (C : Addr) (cl : List (Str × Addr)) (fp : List Addr), PG (X.blk s H scope (compEnvC scope cl C X.env) fp) tg g) (ht : ∀ (s : Shared) (H : Hp) (C : Addr) (cl : List (Str × Addr)) (fp : List Addr), PTs (X.blk s H scope (compEnvC scope cl C X.env) fp) ifs tt)
    (hk : ∀ (s : Shared) (H : Hp) (C : Addr) (cl : List (Str × Addr)) (fp : List Addr), PE (X.blk s H scope (compEnvC scope cl C X.env) fp) kx tk)
    (he : ∀ (s : Shared) (H : Hp) (C : Addr) (cl : List (Str × Addr)) (fp : List Addr), PE (X.blk s H scope (compEnvC scope cl C X.env) fp) vx tv) (hs : ∀ x, foldedSetIterable iter X.env x = pure x) :
    PS X (.Assign [.Name y py] (.DictComp kx vx [⟨tg, iter, ifs, 0⟩] scope pos) spos) (tAsg (tDcT wi g tt tk tv (own.map (·.2))) (gName i)) := by
  refine ⟨fun pins s σ H D I h => ?_⟩
  rw [exec_Assign_Name_used _ _ _ _ hsw]
  refine wpAny_bind (wpAny_standAt (wpAny_bind ?_))
  have h : tDcT wi g tt tk tv (own.map (·.2)) σ H (fun x H1 => gName i x σ H1 D.nx) := h
  have core := dcT_core (pos := pos) (pos' := firstIterPos [⟨tg, iter, ifs, 0⟩] pos) (use := some (assign (.Name y py) X.env)) (Qf := fun _ s' => SP X pins D .next s') hu hc hN I hi ok hg ht hk he hs h fun L C s' m H' I' q hn f => by
    show wpAny _ _ (assign (.Name y py) X.env (.ref L)) _ _ _
    refine wpAny_assign_Name (store_ok2 (v := V.ref L) I' hN hy (.inl hyl) rfl (fun s2 I2 ⟨a, sb, ha⟩ => ?_) (.inr hyl))
    obtain ⟨a0, a1, a2, a3, a4, a5⟩ := f
    have hCa : C ≠ a := by
      rcases ha with z | z
      · rw [z]; exact a1
      · exact fun e => a4 y a z e.symm
    exact ⟨m, hn.sameBut sb hCa, fun h3 sb3 => ⟨_, H', I2.turned (t' := s2.toks) (fun b o hb e => (sb3.2 b hb).trans e) a0 a1 a3 a4 a5, q⟩⟩
  show wpAny _ X.A (do let _ ← comprehension (.DictComp kx vx [⟨tg, iter, ifs, 0⟩] scope pos) scope X.env (firstIterPos [⟨tg, iter, ifs, 0⟩] pos) newDict false (eval iter X.env) (some (assign (.Name y py) X.env))) _ _ s
  exact wpAny_bind (thn core fun _ s' hq => wpAny_pure (wpAny_pure hq))
end
section
variable {K : PySem.W.Frag} {XC : XR} {W : WX} {Z Z' Z0 Z1 Z2 : Addr → Prop} {g g' g0 g1 g2 : Env} {σ σ' σ0 σ1 σ2 : St} {H H' H0 H1 H2 : Hp} {Q : VK}
structure InD (K : PySem.W.Frag) (own : List Nat) (gb : Env) (σ : St) (Z1 : Addr → Prop) (H1 : Hp) (D : Addr) (acc : List (PyData × PyData)) (g : Env) (Z : Addr → Prop) (H : Hp) : Prop where
  R : Rel K Z (PK.wipe g own) (L2.wipe σ own) H
  X : Ext (PK.wipe gb own) (L2.wipe σ own) Z1 H1 (PK.wipe g own) (L2.wipe σ own) Z H
  it : ∃ us, H D = some (.dT us) ∧ DReps K Z H us acc
  nz : ¬ Z D
  no : ¬ O (PK.wipe g own) (L2.wipe σ own) D
structure StD (gs : Env) (σs : St) (Z : Addr → Prop) (H : Hp) (D : Addr) : Prop where
  some : ∃ us, H D = some (HO.dT us)
  nz : ¬ Z D
  no : ¬ O gs σs D
theorem StD.step {D : Addr} (s : StD g σ Z H D) (X : Ext g σ Z H g' σ' Z' H') : StD g' σ' Z' H' D ∧ H' D = H D := by
  obtain ⟨us, e⟩ := s.some
  have e' := X.pres D _ e s.no
  refine ⟨⟨⟨us, e'⟩, fun z => ?_, fun o => ?_⟩, e'.trans e.symm⟩
  · rcases X.zn D z with q | q | q
    · exact s.nz q
    · rw [e] at q; cases q
    · exact s.no q
  · rcases X.on D o with q | q
    · exact s.no q
    · rw [e] at q; cases q
theorem Keeps.putD {D : Addr} {us ws : List (List Key × V)} (e : H D = some (.dT us)) (nz : ¬ Z D) : Keeps Z H Z (upd H D (.dT ws)) where
  tup := fun a xs h => by
    have ne : a ≠ D := fun z => by subst z; rw [e] at h; cases h
    rw [upd_ne ne]; exact h
  frz := fun a o u h => by
    have ne : a ≠ D := fun z => by subst z; rw [e] at h; cases h
    rw [upd_ne ne]; exact h
  zs := fun a o z h => by
    have ne : a ≠ D := fun q => nz (q ▸ z)
    rw [upd_ne ne]; exact h
  up := fun _ z => z
theorem Rel.putD {D : Addr} {us ws : List (List Key × V)} (R : Rel K Z g σ H) (e : H D = some (.dT us)) (nz : ¬ Z D) (no : ¬ O g σ D) : Rel K Z g σ (upd H D (.dT ws)) where
  len := R.len
  sl := fun i s es => (R.sl i s es).mv (Keeps.putD e nz) fun a ea ⟨m, d, em⟩ => by
    subst em
    have ow : Own g σ i a := ⟨⟨m, d, es⟩, join_some ea⟩
    have ne : a ≠ D := fun z => no (z ▸ ⟨i, ow⟩)
    obtain ⟨_, _, _, nz', _⟩ := R.own ow
    exact ⟨nz', fun o h => by rw [upd_ne ne]; exact h⟩
  ds := R.ds
  ex := fun a z => by
    by_cases h : a = D
    · exact (nz (h ▸ z)).elim
    · rw [upd_ne h]; exact R.ex a z
theorem dcomp_run {own : List Nat} {t : Tg} {fi : Env → Res Walk} {fc : Env → Res (Bool × Env)} {fk fv : Env → Res (EV × Env)} (ht : ∀ i ∈ t.ix, i ∈ own) (h : TRE K XC W (dcompF own t fi fc fk fv) σ H Q) :
    tDcT (TRI K XC W fi) (tgG K t) (TRT K XC WF fc) (TRF K XC WF (fzF fk)) (TRF K XC WF (fzF fv)) own σ H Q := by
  obtain ⟨Z, g, R, h⟩ := h
  unfold dcompF at h
  refine ⟨Z, g, R, ?_⟩
  cases ea : fi g with
  | bad => rw [ea] at h; exact h
  | exc c d g' => rw [ea] at h; exact h
  | ok w =>
  rw [ea] at h
  simp only [Res.bind_ok] at h
  intro J Z1 H1 ge x1 lk R1 ⟨P, p1, wp⟩ D hD
  cases eq : dcompL own (dturnF t fc fk fv) w.its [] w.env with
  | bad => rw [eq] at h; exact h.elim
  | exc c d g' => rw [eq] at h; exact h.elim
  | ok q =>
  rw [eq] at h
  simp only [Res.quiet_ok, Res.bind_ok] at h
  have Rw := R1.wipe own
  have pw := wp.wip p1 R1 own
  refine ⟨fun i m H => m = w.its.length - i ∧ i ≤ w.its.length ∧ ∃ acc g2 Z2, dcompL own (dturnF t fc fk fv) (w.its.drop i) acc g2 = .ok q ∧ InD K own w.env σ Z1 H1 D acc g2 Z2 H, ⟨_, rfl, Nat.zero_le _, [], w.env, Z1, by simpa using eq, ?_⟩, ?_⟩
  · have hx : HX H1 (upd H1 D (.dT [])) := HX.new hD
    refine ⟨Rw.hx hx, hx.ext, ⟨[], upd_same, .nil⟩, fun z => R1.ex D z hD, fun o => ?_⟩
    obtain ⟨vs, e, _, _⟩ := Rw.ol o
    rw [hD] at e; cases e
  · rintro i m H ⟨rfl, hi, acc, g2, Z2, ec, B⟩
    by_cases hlt : i < w.its.length
    · right
      have hd : w.its.drop i = w.its[i] :: w.its.drop (i + 1) := List.drop_eq_getElem_cons hlt
      rw [hd] at ec
      simp only [dcompL] at ec
      obtain ⟨pt, et, ec⟩ := bind_ok_inv ec
      obtain ⟨g3, eb, et⟩ := of_ok_inv (show dturnF t fc fk fv (PK.wipe g2 own) w.its[i] = .ok pt from et)
      obtain ⟨go, yl⟩ := wp.go (wp.keep pw Rw B.X) B.R i _ (List.getElem?_eq_getElem hlt)
      refine ⟨go, fun H' => (w.its.length - (i + 1) = w.its.length - (i + 1) ∧ i + 1 ≤ w.its.length ∧ ∃ acc g2 Z2, dcompL own (dturnF t fc fk fv) (w.its.drop (i + 1)) acc g2 = .ok q ∧ InD K own w.env σ Z1 H1 D acc g2 Z2 H'), fun H' n => ⟨_, by omega, n⟩, fun x H' y => ?_⟩
      obtain ⟨hx, rx⟩ := yl x H' y
      obtain ⟨us, eD, rD⟩ := B.it
      have S0 : StD (PK.wipe g2 own) (L2.wipe σ own) Z2 H D := ⟨⟨us, eD⟩, B.nz, B.no⟩
      refine bind_ok (B.R.hx hx) hx.ext rx eb fun σ2 x2 R2 hw => ⟨by rw [hw own ht, wipe_wipe], ?_⟩
      obtain ⟨S2, s2⟩ := S0.step x2
      refine ⟨Z2, g3, R2, ?_⟩
      obtain ⟨pc, ef, et⟩ := bind_ok_inv et
      rw [ef]
      intro Z4 H4 x4 R4
      obtain ⟨S4, s4⟩ := S2.step x4
      have X4 : Ext (PK.wipe w.env own) (L2.wipe σ own) Z1 H1 pc.2 σ2 Z4 H4 := (B.X.trans x2).trans x4
      cases hb : pc.1 with
      | false =>
        rw [hb, if_neg Bool.false_ne_true] at et
        cases et
        rw [if_neg Bool.false_ne_true]
        refine ⟨rfl, hlt, acc, pc.2, Z4, ec, ⟨?_, ?_, ⟨us, (s4.trans s2).trans eD, ?_⟩, S4.nz, fun o => ?_⟩⟩
        · have := R4.wipe own
          rwa [hw own ht, wipe_wipe] at this
        · have := X4.wipeR
          rwa [hw own ht, wipe_wipe] at this
        · exact rD.mv (B.R.keeps (x2.trans x4))
        · refine S4.no (O_wipe (vs := own) ?_)
          rw [hw own ht, wipe_wipe]
          exact o
      | true =>
        rw [hb, if_pos rfl] at et
        rw [if_pos rfl]
        obtain ⟨pe, ee, et⟩ := bind_ok_inv et
        obtain ⟨pv, ev, et⟩ := bind_ok_inv et
        cases et
        refine ⟨Z4, pc.2, R4, ?_⟩
        rw [ee]
        intro v Z5 H5 x5 R5 r5
        obtain ⟨S5, s5⟩ := S4.step x5
        refine ⟨Z5, pe.2, R5, ?_⟩
        rw [ev]
        intro v6 Z6 H6 x6 R6 r6
        obtain ⟨S6, s6⟩ := S5.step x6
        have eD6 : H6 D = some (.dT us) := (((s6.trans s5).trans s4).trans s2).trans eD
        simp only at ec
        have r5' := Rep.mv (R5.keeps x6) _ _ r5
        cases ek : keyL pe.1 with
        | none => rw [ek] at ec; cases ec
        | some kk =>
          rw [ek] at ec
          simp only at ec
          split at ec
          · rename_i hal
            obtain ⟨c, rfl, hc⟩ := r5'.key ek
            have rD6 : DReps K Z6 H6 us acc := rD.mv (B.R.keeps (((x2.trans x4).trans x5).trans x6))
            refine ⟨us, kk, c, rfl, hc, eD6, ?_, rfl, hlt, dput acc pe.1 pv.1, pv.2, Z6, ec, ⟨?_, ?_, ⟨putK us kk v6, upd_same, ?_⟩, S6.nz, fun o => ?_⟩⟩
            · have l2 : line = sizeLine := line_eq
              rw [rD6.len, ← l2]
              exact hal
            · have := (R6.putD (ws := putK us kk v6) eD6 S6.nz S6.no).wipe own
              rwa [hw own ht, wipe_wipe] at this
            · have := (((X4.trans x5).trans x6).appD (u := .dT (putK us kk v6)) hD).wipeR
              rwa [hw own ht, wipe_wipe] at this
            · exact (rD6.put ek r6).mv (Keeps.putD eD6 S6.nz)
            · refine S6.no (O_wipe (vs := own) ?_)
              rw [hw own ht, wipe_wipe]
              exact o
          · cases ec
    · left
      have hi' : i = w.its.length := by omega
      subst hi'
      refine ⟨wp.stop (wp.keep pw Rw B.X) B.R, ?_⟩
      rw [List.drop_length] at ec
      cases ec
      obtain ⟨b1, b2, b3⟩ := back_ok R1 B.X B.R
      obtain ⟨c1, c2, c3⟩ := lock_ext lk b1 b2
      obtain ⟨us, eD, rD⟩ := B.it
      refine h (.ref D) Z2 H (x1.trans c1) c2 ⟨D, rfl, B.nz, fun o => ?_, .dct eD rD⟩ ⟨D, rfl, x1.th D hD⟩
      rcases b3 D (c3 D o) with o | o
      · exact B.no o
      · obtain ⟨vs, e, _, _⟩ := R1.ol o
        rw [hD] at e; cases e
end
section
variable {X : Cx} {XC : XR} {W : WX} {a elt kx vx tg iter tg1 iter1 : Expr} {ifs ifs1 : List Expr} {scope : Scope} {own : List (Str × Nat)} {own1 : List Nat} {pos : Pos} {t t1 : Tg} {fi : Env → Res Walk} {fi1 : Env → Res (List PyData × Env)} {fc fc1 : Env → Res (Bool × Env)} {fe fk fv fa : Env → Res (EV × Env)}
theorem s_dcomp (hu : X.A.units + 1 < cLine) (hc : X.calm = true) (hN : X.N.Nodup) (hi : PI X tg iter (TRI X.K XC W fi)) (ok : BlkOk X.N X.env.scope scope own) (htx : ∀ i ∈ t.ix, i ∈ own.map (·.2))
    (hg : ∀ (s : Shared) (H : Hp) (C : Addr) (cl : List (Str × Addr)) (fp : List Addr), PG (X.blk s H scope (compEnvC scope cl C X.env) fp) tg (tgG X.K t))
    (ht : ∀ (s : Shared) (H : Hp) (C : Addr) (cl : List (Str × Addr)) (fp : List Addr), PTs (X.blk s H scope (compEnvC scope cl C X.env) fp) ifs (TRT X.K XC WF fc))
    (hk : ∀ (s : Shared) (H : Hp) (C : Addr) (cl : List (Str × Addr)) (fp : List Addr), PE (X.blk s H scope (compEnvC scope cl C X.env) fp) kx (TRE X.K XC WF fk))
    (hv : ∀ (s : Shared) (H : Hp) (C : Addr) (cl : List (Str × Addr)) (fp : List Addr), PE (X.blk s H scope (compEnvC scope cl C X.env) fp) vx (TRE X.K XC WF fv))
    (hs : ∀ x, foldedSetIterable iter X.env x = pure x) : PE X (.DictComp kx vx [⟨tg, iter, ifs, 0⟩] scope pos) (TRE X.K XC W (dcompF (own.map (·.2)) t fi fc fk fv)) :=
  ⟨fun pins s σ H Q I h => (pe_dcT hu hc hN hi ok hg ht (fun s H C cl fp => s_frz (hk s H C cl fp)) (fun s H C cl fp => s_frz (hv s H C cl fp)) hs).run pins s σ H Q I (dcomp_run htx h)⟩
theorem ps_setDc {i : Nat} {y : Str} {py spos : Pos} (hy : X.N[i]? = some y) (hyl : X.env.scope.names.lookup y = some .local) (hsw : swapsWith (.DictComp kx vx [⟨tg, iter, ifs, 0⟩] scope pos) (some (.Name y py)) spos.line X.env = pure true)
    (hu : X.A.units + 1 < cLine) (hc : X.calm = true) (hN : X.N.Nodup) (hi : PI X tg iter (TRI X.K XC W fi)) (ok : BlkOk X.N X.env.scope scope own) (htx : ∀ i ∈ t.ix, i ∈ own.map (·.2))
    (hg : ∀ (s : Shared) (H : Hp) (C : Addr) (cl : List (Str × Addr)) (fp : List Addr), PG (X.blk s H scope (compEnvC scope cl C X.env) fp) tg (tgG X.K t))
    (ht : ∀ (s : Shared) (H : Hp) (C : Addr) (cl : List (Str × Addr)) (fp : List Addr), PTs (X.blk s H scope (compEnvC scope cl C X.env) fp) ifs (TRT X.K XC WF fc))
    (hk : ∀ (s : Shared) (H : Hp) (C : Addr) (cl : List (Str × Addr)) (fp : List Addr), PE (X.blk s H scope (compEnvC scope cl C X.env) fp) kx (TRE X.K XC WF fk))
    (hv : ∀ (s : Shared) (H : Hp) (C : Addr) (cl : List (Str × Addr)) (fp : List Addr), PE (X.blk s H scope (compEnvC scope cl C X.env) fp) vx (TRE X.K XC WF fv))
    (hs : ∀ x, foldedSetIterable iter X.env x = pure x) : PS X (.Assign [.Name y py] (.DictComp kx vx [⟨tg, iter, ifs, 0⟩] scope pos) spos) (tAsg (TRE X.K XC W (dcompF (own.map (·.2)) t fi fc fk fv)) (gName i)) :=
  ⟨fun pins s σ H Dn I h => (ps_setDcT hu hc hN hy hyl hsw hi ok hg ht (fun s H C cl fp => s_frz (hk s H C cl fp)) (fun s H C cl fp => s_frz (hv s H C cl fp)) hs).run pins s σ H Dn I (dcomp_run htx h)⟩
theorem s_comp2 (hc : X.calm = true) (hN : X.N.Nodup) (hi : PI X tg iter (TRI X.K XC W fi)) (ok : BlkOk X.N X.env.scope scope own) (htx : ∀ i ∈ t.ix, i ∈ own.map (·.2)) (htx1 : ∀ i ∈ t1.ix, i ∈ own1) (hsub : ∀ i ∈ own1, i ∈ own.map (·.2))
    (hg : ∀ (s : Shared) (H : Hp) (C : Addr) (cl : List (Str × Addr)) (fp : List Addr), PG (X.blk s H scope (compEnvC scope cl C X.env) fp) tg (tgG X.K t))
    (ht : ∀ (s : Shared) (H : Hp) (C : Addr) (cl : List (Str × Addr)) (fp : List Addr), PTs (X.blk s H scope (compEnvC scope cl C X.env) fp) ifs (TRT X.K XC WF fc))
    (hi1 : ∀ (s : Shared) (H : Hp) (C : Addr) (cl : List (Str × Addr)) (fp : List Addr), PI (X.blk s H scope (compEnvC scope cl C X.env) fp) tg1 iter1 (TRI1 X.K XC WF fi1))
    (hg1 : ∀ (s : Shared) (H : Hp) (C : Addr) (cl : List (Str × Addr)) (fp : List Addr), PG (X.blk s H scope (compEnvC scope cl C X.env) fp) tg1 (tgG X.K t1))
    (ht1 : ∀ (s : Shared) (H : Hp) (C : Addr) (cl : List (Str × Addr)) (fp : List Addr), PTs (X.blk s H scope (compEnvC scope cl C X.env) fp) ifs1 (TRT X.K XC WF fc1))
    (he : ∀ (s : Shared) (H : Hp) (C : Addr) (cl : List (Str × Addr)) (fp : List Addr), PE (X.blk s H scope (compEnvC scope cl C X.env) fp) elt (TRE X.K XC WF fe))
    (hs : ∀ x, foldedSetIterable iter X.env x = pure x) (hs1 : ∀ env x, foldedSetIterable iter1 env x = pure x) :
    PE X (.ListComp elt [⟨tg, iter, ifs, 0⟩, ⟨tg1, iter1, ifs1, 0⟩] scope pos) (TRE X.K XC W (comp2F (own.map (·.2)) own1 t t1 fi fi1 fc fc1 fe)) :=
  ⟨fun pins s σ H Q I h => (pe_lc2 hc hN hi ok hsub hg ht hi1 hg1 ht1 (fun s H C cl fp => s_frz (he s H C cl fp)) hs hs1).run pins s σ H Q I (comp2_run htx htx1 hsub h)⟩
theorem ps_setC2 {i : Nat} {y : Str} {py spos : Pos} (hy : X.N[i]? = some y) (hyl : X.env.scope.names.lookup y = some .local) (hsw : swapsWith (.ListComp elt [⟨tg, iter, ifs, 0⟩, ⟨tg1, iter1, ifs1, 0⟩] scope pos) (some (.Name y py)) spos.line X.env = pure true)
    (hc : X.calm = true) (hN : X.N.Nodup) (hi : PI X tg iter (TRI X.K XC W fi)) (ok : BlkOk X.N X.env.scope scope own) (htx : ∀ i ∈ t.ix, i ∈ own.map (·.2)) (htx1 : ∀ i ∈ t1.ix, i ∈ own1) (hsub : ∀ i ∈ own1, i ∈ own.map (·.2))
    (hg : ∀ (s : Shared) (H : Hp) (C : Addr) (cl : List (Str × Addr)) (fp : List Addr), PG (X.blk s H scope (compEnvC scope cl C X.env) fp) tg (tgG X.K t))
    (ht : ∀ (s : Shared) (H : Hp) (C : Addr) (cl : List (Str × Addr)) (fp : List Addr), PTs (X.blk s H scope (compEnvC scope cl C X.env) fp) ifs (TRT X.K XC WF fc))
    (hi1 : ∀ (s : Shared) (H : Hp) (C : Addr) (cl : List (Str × Addr)) (fp : List Addr), PI (X.blk s H scope (compEnvC scope cl C X.env) fp) tg1 iter1 (TRI1 X.K XC WF fi1))
    (hg1 : ∀ (s : Shared) (H : Hp) (C : Addr) (cl : List (Str × Addr)) (fp : List Addr), PG (X.blk s H scope (compEnvC scope cl C X.env) fp) tg1 (tgG X.K t1))
    (ht1 : ∀ (s : Shared) (H : Hp) (C : Addr) (cl : List (Str × Addr)) (fp : List Addr), PTs (X.blk s H scope (compEnvC scope cl C X.env) fp) ifs1 (TRT X.K XC WF fc1))
    (he : ∀ (s : Shared) (H : Hp) (C : Addr) (cl : List (Str × Addr)) (fp : List Addr), PE (X.blk s H scope (compEnvC scope cl C X.env) fp) elt (TRE X.K XC WF fe))
    (hs : ∀ x, foldedSetIterable iter X.env x = pure x) (hs1 : ∀ env x, foldedSetIterable iter1 env x = pure x) :
    PS X (.Assign [.Name y py] (.ListComp elt [⟨tg, iter, ifs, 0⟩, ⟨tg1, iter1, ifs1, 0⟩] scope pos) spos) (tAsg (TRE X.K XC W (comp2F (own.map (·.2)) own1 t t1 fi fi1 fc fc1 fe)) (gName i)) :=
  ⟨fun pins s σ H Dn I h => (ps_setLc2 hc hN hy hyl hsw hi ok hsub hg ht hi1 hg1 ht1 (fun s H C cl fp => s_frz (he s H C cl fp)) hs hs1).run pins s σ H Dn I (comp2_run htx htx1 hsub h)⟩
end
end PK
end

section
set_option Elab.async false
set_option linter.all false
set_option maxRecDepth 100000
set_option maxHeartbeats 4000000
/-! PkMore: sorted(set(..)), len(set(..)), sorted(d), xs.extend(..), second sources. -/
namespace PK
open PySem PySem.Spec PyProof.Rows L2
open PySem (PyData)

def ssetF (fa : Env → Res (EV × Env)) (g : Env) : Res (EV × Env) := (fa g).bind fun p => (Res.of ((p.1.get p.2).bind ssetD)).bind fun d => .ok (.nw d, p.2)
def slenF (fa : Env → Res (EV × Env)) (g : Env) : Res (EV × Env) := (fa g).bind fun p => (Res.of ((p.1.get p.2).bind slenD)).bind fun d => .ok (.val d, p.2)
def dsoF (i : Nat) (g : Env) : Res (EV × Env) := (Res.of ((dicOf g i).bind fun kvs => sortedD (kvs.map (·.1)))).bind fun ds => .ok (.nw (.list ds), g)
def extF (i : Nat) (fe : Env → Res (EV × Env)) (g : Env) : Out := match g[i]? with
      | some (.mu _ (.list _)) => (fe g).out fun p => match p.1 with
        | .nw d => (Res.of (p.2.chg i (extD d))).out .nx
        | _ => .bad
      | _ => .bad
section
variable {K : PySem.W.Frag} {XC : XR} {W : WX} {Z Z' Z0 Z1 Z2 : Addr → Prop} {g g' g0 g1 g2 : Env} {σ σ' σ0 σ1 σ2 : St} {H H' H0 H1 H2 : Hp} {Q : VK} {D : Ends}
/-- a list of tuples of whole numbers, by address and content -/
theorem int_tups : ∀ {vs : List V} {xs : List PyData}, Reps K Z H vs xs → (∀ x ∈ xs, ∃ ns, x = iT ns) → ∃ ks : List (Addr × List Int), vs = ks.map (fun p => V.ref p.1) ∧ xs = ks.map (fun p => iT p.2) ∧ ∀ p ∈ ks, Rep K Z H (.ref p.1) (iT p.2)
  | _, _, .nil, _ => ⟨[], rfl, rfl, fun _ h => nomatch h⟩
  | _, _, .cons r t, h => by
    obtain ⟨ns, rfl⟩ := h _ List.mem_cons_self
    obtain ⟨ks, rfl, rfl, hk⟩ := int_tups t fun x hx => h x (List.mem_cons_of_mem _ hx)
    cases r with
    | tup e q => exact ⟨(_, ns) :: ks, rfl, rfl, fun p hp => (List.mem_cons.mp hp).elim (fun z => z ▸ .tup e q) (hk p)⟩
theorem sset_made {P : Program} {w : World} {a : Addr} {L ks : List (Addr × List Int)} (hk : ∀ p ∈ ks, Rep K Z H (.ref p.1) (iT p.2)) (hn : H a = none) (h1 : ∀ p ∈ L, p ∈ ks) (h2 : ∀ p ∈ ks, p.2 ∈ L.map (·.2)) :
    SetIs K P w Z (upd H a (SetTO P w a L)) a (firsts (ks.map fun p => iT p.2)) := by
  have hx : HX H (upd H a (SetTO P w a L)) := HX.new hn
  have hf := firsts_ok (xs := ks.map fun p => iT p.2) fun x hx => by obtain ⟨p, _, rfl⟩ := List.mem_map.mp hx; exact ⟨p.2, rfl⟩
  refine ⟨L, upd_same, fun p hp => Rep.mv hx.keeps _ _ (hk p (h1 p hp)), fun p hp => (hf.2 _).mpr (List.mem_map.mpr ⟨p, h1 p hp, rfl⟩), fun x hx => ?_⟩
  obtain ⟨p, hp, rfl⟩ := List.mem_map.mp ((hf.2 x).mp hx)
  obtain ⟨q, hq, e⟩ := List.mem_map.mp (h2 p hp)
  exact ⟨q, hq, by rw [e]⟩
theorem sset_run {P : Program} {w : World} {fa : Env → Res (EV × Env)} (h : TRE K XC W (ssetF fa) σ H Q) : tCB (rSortedSet K P w) (tCons (tCB (rSetOfT K P w) (tCons (TRE K XC W fa) tNil)) tNil) σ H Q := by
  obtain ⟨Z, g, R, h⟩ := h
  unfold ssetF at h
  refine ⟨Z, g, R, ?_⟩
  cases ea : fa g with
  | bad => rw [ea] at h; exact h
  | exc c d g' => rw [ea] at h; exact h
  | ok p =>
    rw [ea] at h
    simp only [Res.bind_ok] at h
    intro v Z1 H1 x1 R1 r1 f1
    obtain ⟨d, e, h⟩ := aftE_of h
    cases eg : p.1.get p.2 with
    | none => rw [eg] at e; cases e
    | some dl =>
      rw [eg] at e
      have rd := r1.rd R1 eg
      cases dl with
      | list xs =>
        have e : ssetD (.list xs) = some d := e
        simp only [ssetD] at e
        split at e
        · rename_i ho
          obtain ⟨hi, hl⟩ := setOk_iT ho
          cases es : sortedD (firsts xs) with
          | none => rw [es] at e; cases e
          | some out =>
            rw [es] at e
            cases e
            obtain ⟨a, vs, rfl, sq, rs⟩ := rd.list
            obtain ⟨ks, rfl, rfl, hk⟩ := int_tups rs hi
            refine ⟨a, ks, rfl, sq, fun p hp => (hk p hp).sqT, by simpa using hl, fun b L hn m1 m2 => ?_⟩
            have hx : HX H1 (upd H1 b (SetTO P w b L)) := HX.new hn
            exact ⟨Z1, b, _, out, rfl, sset_made hk hn m1 m2, fun x hx => hi x ((firsts_ok hi).2 x |>.mp hx), (firsts_ok hi).1, es, (AftE.later h (x1.trans hx.ext)).done (r := (true, .list out)) (R1.hx hx)⟩
        · cases e
      | _ => cases e
theorem dso_run {i : Nat} (h : TRE K XC W (dsoF i) σ H Q) : tCB (rSortedDct K) (tCons (tVar i) tNil) σ H Q := by
  obtain ⟨Z, g, R, h⟩ := h
  unfold dsoF at h
  obtain ⟨ds, e, h⟩ := aftE_of h
  cases ed : dicOf g i with
  | none => rw [ed] at e; cases e
  | some kvs =>
    rw [ed] at e
    obtain ⟨k, a, ks, _, es, nz, ha, rs⟩ := R.dic ed
    exact ⟨.ref a, es, Z, a, ks, kvs, ds, rfl, ha, rs, e, h.done (r := (true, .list ds)) R⟩
theorem ext_run {i : Nat} {fe : Env → Res (EV × Env)} (h : TRS K XC W (extF i fe) D σ H) : tDrop (tBM K "list" rExtend (tVar i) (tCons (TRE K XC W fe) tNil)) D σ H := by
  obtain ⟨Z, g, R, h⟩ := h
  unfold extF at h
  split at h
  · rename_i k0 ds0 hg0
    obtain ⟨a, es0, _, c0, _⟩ := R.mu hg0
    obtain ⟨vs0, ha0, _⟩ := c0.list rfl
    refine ⟨.ref a, es0, .inl ⟨rfl, vs0, SqL.of ha0⟩, Z, g, R, aft_e h fun p h v Z1 H1 x1 R1 r1 f1 => ?_⟩
    split at h
    · rename_i dd hp
      rw [hp] at r1
      obtain ⟨g2, e, h⟩ := of_out h
      obtain ⟨k, d, d', hk, hg, hf, rfl⟩ := chg_ok e
      obtain ⟨a', es', nz, ct, ow⟩ := R1.mu hg
      rw [es0] at es'; cases es'
      cases ct with
      | dct _ _ => cases hf
      | @lst vs ds ha rs =>
      obtain ⟨b, rfl, nzb, nob, cb⟩ := r1
      cases cb with
      | dct _ _ => cases hf
      | @lst ws es hb qs =>
      simp only [extD] at hf
      split at hf
      · rename_i hl
        cases hf
        have l2 : line = sizeLine := line_eq
        refine ⟨a, b, vs, ws, rfl, rfl, ha, hb, by rw [rs.len, qs.len, ← l2]; exact hl, ?_⟩
        obtain ⟨x2, R2⟩ := upd_chg (ws := vs ++ ws) R1 x1 hk hg es0 ha nz (rs.app qs)
        exact h σ Z1 _ x2 R2
      · cases hf
    · exact h.elim
  · exact h.elim
end
section
variable {X : Cx} {XC : XR} {W : WX} {a b c e : Expr} {es : List Expr} {fa fb fc fe : Env → Res (EV × Env)} {fes : Env → Res (List EV × Env)} {pos : Pos}
theorem s_sset {x y : Str} {p p2 q : Pos} (hx : x = Str.ofString "sorted") (hy : y = Str.ofString "set") (hc : X.calm = true) (hu : X.A.units + 100 < cLine) (hg : Gl X x) (hm : X.mg x = none) (hg2 : Gl X y) (hm2 : X.mg y = none)
    (ha : PE X a (TRE X.K XC W fa)) (hs : starEach [a] X.env = (false, eval a X.env) :: starEach [] X.env) :
    PE X (.Call (.Name x p) [.Call (.Name y p2) [a] [] q] [] pos) (TRE X.K XC W (ssetF fa)) := by
  subst hx hy
  exact ⟨fun pins s σ H Q I h => (pe_callB (cr_sortedSet hc hu) hg hm (boot_bi .sorted) (pa_cons (pe_callTy (cr_setOfT hc (by omega)) hg2 hm2 (boot_bi .set) (pa_cons ha pa_nil hs) (by decide) (by decide) hs rfl) pa_nil rfl) (by decide) (by decide) rfl rfl).run pins s σ H Q I (sset_run h)⟩
theorem s_dso {i : Nat} {x y : Str} {p p2 : Pos} (hx : x = Str.ofString "sorted") (hc : X.calm = true) (hu : X.A.units + 100 < cLine) (hg : Gl X x) (hm : X.mg x = none) (hi : X.N[i]? = some y) (hv : Vis X.env.scope y) (hd : (y == ("__debug__" : Str)) = false) (hcd : (y == ("__classdict__" : Str)) = false) :
    PE X (.Call (.Name x p) [.Name y p2] [] pos) (TRE X.K XC W (dsoF i)) := by
  subst hx
  exact ⟨fun pins s σ H Q I h => (pe_callB (cr_sortedDct hc hu) hg hm (boot_bi .sorted) (pa_cons (pe_var hi hv hd hcd) pa_nil rfl) (by decide) (by decide) rfl rfl).run pins s σ H Q I (dso_run h)⟩
theorem ss_ext {i : Nat} {x : Str} {p1 apos cpos : Pos} (hi : X.N[i]? = some x) (hv : Vis X.env.scope x) (hd : (x == ("__debug__" : Str)) = false) (hcd : (x == ("__classdict__" : Str)) = false) (he : PE X e (TRE X.K XC W fe))
    (hl : (apos.endLine == cpos.line) = true) (hs : starEach [e] X.env = (false, eval e X.env) :: starEach [] X.env) : PS X (.Expr (.Call (.Attribute (.Name x p1) "extend" apos) [e] [] cpos) pos) (TRS X.K XC W (extF i fe)) :=
  ⟨fun pins s σ H D I h => (ps_expr (pe_bm PySem.F.plainAttrs_list PySem.F.slot_list_extend PySem.F.type_list_extend mt_extend (pe_var hi hv hd hcd) (pa_cons he pa_nil hs) rfl (by rw [hs]; rfl) hl hs rfl) rfl).run pins s σ H D I (ext_run h)⟩
theorem i1_rng {tg : Expr} {x : Str} {p : Pos} (hx : x = Str.ofString "range") (hg : Gl X x) (hm : X.mg x = none) (hn : ∀ g p, fes g = .ok p → p.1.length = 1) (ha : PA X [a] (TRA X.K XC W fes)) (hs : starEach [a] X.env = [(false, eval a X.env)]) :
    PI X tg (.Call (.Name x p) [a] [] pos) (TRI1 X.K XC W (rng1F fes)) := by
  subst hx
  exact ⟨fun pins s σ H R I h => (pi_range1 hg hm ha hs).run pins s σ H R I (rng_run11 hn h)⟩
end
end PK
end

section
set_option Elab.async false
set_option linter.all false
set_option maxRecDepth 100000
set_option maxHeartbeats 4000000
/-! PkChk: does a term of the small language stand for an expression of the program? -/
namespace PK
open PySem PySem.Spec PyProof.Rows L2
open PySem (PyData)

structure SC where
  N : List Str
  sc : Scope
  fn : Option Scope
  funs : List Str
  globs : List Str
  clss : List Str
  nob : List Str
  flds : List (Option Str)
def SC.fnB (c : SC) (x : Str) : Bool := match c.fn with
  | none => true
  | some s => s.names.lookup x == some .cell
def SC.gl (c : SC) (x : Str) : Bool := decide (c.sc.names.lookup x = some .globalImplicit)
def SC.vis (c : SC) (x : Str) : Bool := decide (c.sc.names.lookup x = some .local) || decide (c.sc.names.lookup x = some .cell) || decide (c.sc.names.lookup x = some .free)
def SC.lc (c : SC) (x : Str) : Bool := decide (c.sc.names.lookup x = some .local) || (decide (c.sc.names.lookup x = some .cell) && c.fnB x)
def SC.at (c : SC) (i : Nat) (x : Str) : Bool := decide (c.N[i]? = some x)
def nmB (x : Str) : Bool := !(x == ("__debug__" : Str)) && !(x == ("__classdict__" : Str))
/-- a built-in's name that the module does not bind -/
def SC.nb (c : SC) (x : Str) (n : String) : Bool := decide (x = Str.ofString n) && c.gl x && decide (x ∈ c.nob)
def SC.blk (c : SC) (scope : Scope) : SC := { c with sc := relS scope c.sc, fn := some scope }
def SC.own (c : SC) (own : List Nat) : List (Str × Nat) := own.map fun i => ((c.N[i]?).getD "", i)
def noStar : Expr → Bool
  | .Starred _ _ => false
  | _ => true
def notSet : Expr → Bool
  | .Set _ _ _ => false
  | _ => true
def ixB : Expr → Bool
  | .Slice _ _ _ _ => false
  | _ => true
def litB : PyData → Expr → Bool
  | .none, .Constant .none _ _ => true
  | .bool b, .Constant (.bool b') _ _ => decide (b = b')
  | .int i, .Constant (.int i') _ _ => decide (i = i')
  | .str x, .Constant (.str x') _ _ => decide (x = x')
  | _, _ => false
def chkN (c : SC) (i : Nat) : Expr → Bool
  | .Name x _ => c.at i x && c.lc x
  | _ => false
def chkNs (c : SC) : List Nat → List Expr → Bool
  | [], [] => true
  | i :: is, e :: es => chkN c i e && chkNs c is es
  | _, _ => false
def chkTg (c : SC) : Tg → Expr → Bool
  | .one i, ex => chkN c i ex
  | .many is, .Tuple es _ _ => chkNs c is es
  | _, _ => false
mutual
def chkE (c : SC) (t : Bool) : E → Expr → Bool
  | .lit d, ex => litB d ex
  | .glb k, ex => match ex with
    | .Name x _ => decide (c.globs[k]? = some x) && c.gl x && nmB x
    | _ => false
  | .var i, ex => match ex with
    | .Name x _ => c.at i x && c.vis x && nmB x
    | _ => false
  | .bop o a b, ex => match ex with
    | .BinOp a' op b' _ => decide (op = bopOp o) && chkE c false a a' && chkE c false b b'
    | _ => false
  | .neg a, ex => match ex with
    | .UnaryOp op a' _ => (match op with | .USub => true | _ => false) && chkE c false a a'
    | _ => false
  | .nt a, ex => match ex with
    | .UnaryOp op a' _ => (match op with | .Not => true | _ => false) && chkE c true a a'
    | _ => false
  | .and es, ex => match ex with
    | .BoolOp op es' _ => (match op with | .And => true | _ => false) && chkB c t es es'
    | _ => false
  | .or es, ex => match ex with
    | .BoolOp op es' _ => (match op with | .Or => true | _ => false) && chkB c t es es'
    | _ => false
  | .cmp o a b, ex => match ex with
    | .Compare a' [op] [b'] _ => decide (op = copOp o) && !behindInMarks (copOp o) b' && chkE c false a a' && chkE c false b b'
    | _ => false
  | .cmp2 o o2 a b d, ex => match ex with
    | .Compare a' [op, op2] [b', d'] _ => decide (op = copOp o) && decide (op2 = copOp o2) && !lastMarks [copOp o, copOp o2] [b', d'] && chkE c false a a' && chkE c false b b' && chkE c false d d'
    | _ => false
  | .ife a b d, ex => match ex with
    | .IfExp a' b' d' _ => !t && chkE c true a a' && chkE c false b b' && chkE c false d d'
    | _ => false
  | .call f es, ex => match ex with
    | .Call (.Name x _) (a' :: es') [] _ => decide (c.funs[f]? = some x) && c.gl x && nmB x && chkEs c es (a' :: es')
    | _ => false
  | .cio f i es, ex => match ex with
    | .Call (.Name x _) (.Name y _ :: es') [] _ => decide (c.funs[f]? = some x) && c.gl x && nmB x && c.at i y && c.vis y && nmB y && chkEs c es es'
    | _ => false
  | .bi b es, ex => match ex with
    | .Call (.Name x _) (a' :: es') [] _ => c.nb x (biName b) && chkEs c es (a' :: es')
    | _ => false
  | .isa a ty, ex => match ex with
    | .Call (.Name x _) [a', .Name y _] [] _ => c.nb x "isinstance" && c.nb y (tyName ty) && noStar a' && chkE c false a a'
    | _ => false
  | .lrg es, ex => match ex with
    | .Call (.Name x _) [.Call (.Name y _) es' [] _] [] _ => c.nb x "list" && c.nb y "range" && chkEs c es es' && (decide (es'.length = 1) || decide (es'.length = 2))
    | _ => false
  | .rep a k, ex => match ex with
    | .BinOp a' op k' _ => (match op with | .Mult => true | _ => false) && chkE c false a a' && chkE c false k k'
    | _ => false
  | .idx a i, ex => match ex with
    | .Subscript a' i' _ => ixB i' && chkE c false a a' && chkE c false i i'
    | _ => false
  | .slc a lo hi, ex => match ex with
    | .Subscript a' (.Slice lo' hi' none _) _ => chkE c false a a' && chkO c lo lo' && chkO c hi hi'
    | _ => false
  | .rev a, ex => match ex with
    | .Subscript a' (.Slice none none (some (.UnaryOp .USub (.Constant (.int 1) _ _) _)) _) _ => chkE c false a a'
    | _ => false
  | .tup es, ex => match ex with
    | .Tuple es' _ _ => decide (es'.length ≤ 1000) && chkEs c es es'
    | _ => false
  | .lst es, ex => match ex with
    | .List es' _ => decide (es'.length ≤ 1000) && chkEs c es es'
    | _ => false
  | .att _, _ => false
  | .comp e tg it oc own, ex => match ex with
    | .ListComp elt [⟨tg', iter, ifs, isa⟩] scope _ => decide (isa = 0) && blkC c.N c.sc scope (c.own own) && notSet iter && (tg.ix.all fun i => decide (i ∈ own)) && chkTg (c.blk scope) tg tg' && chkI c it tg' iter && chkC (c.blk scope) oc ifs && chkE (c.blk scope) false e elt
    | _ => false
  | .comp2 e tg it oc tg1 it1 oc1 own own1, ex => match ex with
    | .ListComp elt [⟨tg', iter, ifs, isa⟩, ⟨tg1', iter1, ifs1, isa1⟩] scope _ => decide (isa = 0) && decide (isa1 = 0) && blkC c.N c.sc scope (c.own own) && notSet iter && notSet iter1 && (tg.ix.all fun i => decide (i ∈ own)) && (tg1.ix.all fun i => decide (i ∈ own1)) && (own1.all fun i => decide (i ∈ own)) &&
        chkTg (c.blk scope) tg tg' && chkI c it tg' iter && chkC (c.blk scope) oc ifs && chkI1 (c.blk scope) it1 iter1 && chkTg (c.blk scope) tg1 tg1' && chkC (c.blk scope) oc1 ifs1 && chkE (c.blk scope) false e elt
    | _ => false
  | .dnew, ex => match ex with
    | .Dict [] [] _ => true
    | _ => false
  | .dcomp k v tg it oc own, ex => match ex with
    | .DictComp k' v' [⟨tg', iter, ifs, isa⟩] scope _ => decide (isa = 0) && blkC c.N c.sc scope (c.own own) && notSet iter && (tg.ix.all fun i => decide (i ∈ own)) && chkTg (c.blk scope) tg tg' && chkI c it tg' iter && chkC (c.blk scope) oc ifs && chkE (c.blk scope) false k k' && chkE (c.blk scope) false v v'
    | _ => false
  | .din neg a i, ex => match ex with
    | .Compare a' [op] [.Name y _] _ => decide (op = if neg then .NotIn else .In) && chkE c false a a' && c.at i y && c.vis y && nmB y
    | _ => false
  | .dgt i a, ex => match ex with
    | .Subscript (.Name y _) a' _ => ixB a' && chkE c false a a' && c.at i y && c.vis y && nmB y
    | _ => false
  | .dgo _ _ _, _ => false
  | .dso i, ex => match ex with
    | .Call (.Name x _) [.Name y _] [] _ => c.nb x "sorted" && c.at i y && c.vis y && nmB y
    | _ => false
  | .sset a, ex => match ex with
    | .Call (.Name x _) [.Call (.Name y _) [a'] [] _] [] _ => c.nb x "sorted" && c.nb y "set" && noStar a' && chkE c false a a'
    | _ => false
  | .slen _, _ => false
  | .lzip _ _, _ => false
def chkI1 (c : SC) : It → Expr → Bool
  | .of a, ex => chkE c false a ex
  | .rng es, ex => match ex with
    | .Call (.Name x _) [a'] [] _ => c.nb x "range" && chkEs c es [a']
    | _ => false
  | .enum _, _ => false
  | .zip _ _, _ => false
def chkB (c : SC) (t : Bool) : Es → List Expr → Bool
  | .nil, _ => false
  | .cons a es, exs => match es, exs with
    | .nil, [a'] => chkE c t a a'
    | .cons _ _, a' :: _ :: _ => chkE c t a a' && chkB c t es exs.tail
    | _, _ => false
def chkEs (c : SC) : Es → List Expr → Bool
  | .nil, exs => exs.isEmpty
  | .cons a es, exs => match exs with
    | a' :: es' => noStar a' && chkE c false a a' && chkEs c es es'
    | [] => false
def chkO (c : SC) : Oe → Option Expr → Bool
  | .none, o => o.isNone
  | .some a, o => match o with
    | some a' => chkE c false a a'
    | none => false
def chkC (c : SC) : Oe → List Expr → Bool
  | .none, l => l.isEmpty
  | .some a, l => match l with
    | [a'] => chkE c true a a'
    | _ => false
def chkI (c : SC) : It → Expr → Expr → Bool
  | .of a, _, ex => chkE c false a ex
  | .rng es, _, ex => match ex with
    | .Call (.Name x _) es' [] _ => c.nb x "range" && chkEs c es es' && (decide (es'.length = 1) || decide (es'.length = 2))
    | _ => false
  | .enum a, tg, ex => match tg, ex with
    | .Tuple _ _ _, .Call (.Name x _) [a'] [] _ => c.nb x "enumerate" && noStar a' && chkE c false a a'
    | _, _ => false
  | .zip a b, tg, ex => match tg, ex with
    | .Tuple _ _ _, .Call (.Name x _) [a', b'] [] _ => c.nb x "zip" && noStar a' && noStar b' && chkE c false a a' && chkE c false b b'
    | _, _ => false
end

/-- what a context must hold -/
structure Cok (C : Calls) (XC : XR) (c : SC) (X : Cx) (W : WX) : Prop where
  N : X.N = c.N
  nd : c.N.Nodup
  sc : X.env.scope = c.sc
  kd : X.env.scope.kind = .function
  fn : ∀ x, c.fnB x = true → X.fn x = true
  calm : X.calm = true
  un : X.A.units + 100 < cLine
  gd : X.A.guards = some []
  tk : Takes X W
  F : ∀ (f : Nat) (x : Str), c.funs[f]? = some x → ∃ k fa fd ps, FnG X.prog X.w X.K X.mg X.base (L2.CX X.prog X.w) k fa fd ps (spF X.K XC C f) ∧ Room k X.A ∧ X.mg x = some (.ref fa) ∧ PySem.W.keepIn X.K (.ref fa) = true ∧ Binds X.K fd ps []
  G : ∀ (k : Nat) (x : Str), c.globs[k]? = some x → ∃ v u, X.mg x = some u ∧ RelV v u ∧ ∀ d, C.glob k = some d → ∀ Z H, Rep X.K Z H v d
  B : ∀ x ∈ c.nob, X.mg x = none

section
variable {C : Calls} {XC : XR} {c : SC} {X : Cx} {W : WX}
theorem Cok.gl (O : Cok C XC c X W) {x : Str} (h : c.gl x = true) : Gl X x := by
  unfold SC.gl at h
  rw [decide_eq_true_eq, ← O.sc] at h
  exact h
theorem Cok.vis (O : Cok C XC c X W) {x : Str} (h : c.vis x = true) : Vis X.env.scope x := by
  unfold SC.vis at h
  rw [← O.sc] at h
  simp only [Bool.or_eq_true, decide_eq_true_eq] at h
  rcases h with (h | h) | h
  · exact .inl h
  · exact .inr (.inl h)
  · exact .inr (.inr h)
theorem Cok.lc (O : Cok C XC c X W) {x : Str} (h : c.lc x = true) : Loc X.env.scope x ∧ (X.fn x = true ∨ X.env.scope.names.lookup x = some .local) := by
  unfold SC.lc at h
  rw [← O.sc] at h
  simp only [Bool.or_eq_true, Bool.and_eq_true, decide_eq_true_eq] at h
  rcases h with h | ⟨h, h2⟩
  · exact ⟨.inl h, .inr h⟩
  · exact ⟨.inr h, .inl (O.fn x h2)⟩
theorem Cok.at (O : Cok C XC c X W) {i : Nat} {x : Str} (h : c.at i x = true) : X.N[i]? = some x := by
  unfold SC.at at h
  rw [O.N]
  exact of_decide_eq_true h
theorem Cok.Nd (O : Cok C XC c X W) : X.N.Nodup := by rw [O.N]; exact O.nd
theorem nm_ok {x : Str} (h : nmB x = true) : (x == ("__debug__" : Str)) = false ∧ (x == ("__classdict__" : Str)) = false := by
  unfold nmB at h
  simpa using h
theorem Cok.nb (O : Cok C XC c X W) {x : Str} {n : String} (h : c.nb x n = true) : x = Str.ofString n ∧ Gl X x ∧ X.mg x = none := by
  unfold SC.nb at h
  simp only [Bool.and_eq_true, decide_eq_true_eq] at h
  exact ⟨h.1.1, O.gl h.1.2, O.B x h.2⟩
theorem star1 {a : Expr} {es : List Expr} {env : PySem.Env} (h : noStar a = true) : starEach (a :: es) env = (false, eval a env) :: starEach es env := by
  cases a <;> first | rfl | cases h
theorem fold1 {a : Expr} {env : PySem.Env} (h : notSet a = true) : ∀ x, foldedSetIterable a env x = pure x := by
  intro x
  cases a <;> first | rfl | cases h
theorem ix1 {b : Expr} (h : ixB b = true) : PlainIx b := by
  intro o i
  cases b <;> first | rfl | cases h
theorem lit1 {d : PyData} {ex : Expr} (h : litB d ex = true) : ∃ v, (∀ Y : Cx, PE Y ex (tC v)) ∧ (∀ K Z H, Rep K Z H v d) ∧ ∀ env whole, isTrue ex env whole = (do let v ← whole; standAt ex.pos; holding [v] (truthy v)) := by
  unfold litB at h
  split at h
  · exact ⟨_, fun Y => pe_non, fun _ _ _ => .non, fun _ _ => rfl⟩
  · rw [decide_eq_true_eq] at h; subst h; exact ⟨_, fun Y => pe_bl, fun _ _ _ => .bl _, fun _ _ => rfl⟩
  · rw [decide_eq_true_eq] at h; subst h; exact ⟨_, fun Y => pe_int, fun _ _ _ => .int _, fun _ _ => rfl⟩
  · rw [decide_eq_true_eq] at h; subst h; exact ⟨_, fun Y => pe_str, fun _ _ _ => .str _, fun _ _ => rfl⟩
  · cases h
theorem chkN_ok (O : Cok C XC c X W) {i : Nat} {ex : Expr} (h : chkN c i ex = true) : PG X ex (gName i) ∧ noStar ex = true := by
  unfold chkN at h
  split at h
  · simp only [Bool.and_eq_true] at h
    obtain ⟨l1, l2⟩ := O.lc h.2
    exact ⟨pg_name O.Nd (O.at h.1) l1 l2, rfl⟩
  · cases h
theorem asg1 {a : Expr} {es : List Expr} {env : PySem.Env} (h : noStar a = true) : assignEach (a :: es) env = (false, assign a env) :: assignEach es env := by
  cases a <;> first | rfl | cases h
theorem chkNs_ok (O : Cok C XC c X W) : ∀ {is : List Nat} {es : List Expr}, chkNs c is es = true → PGs X es (tgsG is) ∧ (assignEach es X.env).length = is.length ∧ (assignEach es X.env).findIdx? (·.1) = none
  | [], [], _ => ⟨pgs_nil, rfl, rfl⟩
  | [], _ :: _, h => by cases h
  | _ :: _, [], h => by cases h
  | i :: is, e :: es, h => by
    simp only [chkNs, Bool.and_eq_true] at h
    obtain ⟨h1, h2⟩ := chkN_ok O h.1
    obtain ⟨h3, h4, h5⟩ := chkNs_ok O h.2
    refine ⟨pgs_cons h1 h3 (by rw [asg1 h2]; rfl), by rw [asg1 h2]; simp [h4], ?_⟩
    rw [asg1 h2, List.findIdx?_cons, h5]
    rfl
theorem chkTg_ok (O : Cok C XC c X W) {t : Tg} {ex : Expr} (h : chkTg c t ex = true) : PG X ex (tgG X.K t) := by
  unfold chkTg at h
  split at h
  · exact (chkN_ok O h).1
  · obtain ⟨h1, h2, h3⟩ := chkNs_ok O h
    exact pg_tup O.calm h1 h2 h3
  · cases h
theorem Cok.blk (O : Cok C XC c X W) {scope : Scope} {own : List (Str × Nat)} (ok : BlkOk c.N c.sc scope own) (s : Shared) (H : Hp) (Cl : Addr) (cl : List (Str × Addr)) (fp : List Addr) : Cok C XC (c.blk scope) (X.blk s H scope (compEnvC scope cl Cl X.env) fp) WF where
  N := O.N
  nd := O.nd
  sc := by show relS scope X.env.scope = relS scope c.sc; rw [O.sc]
  kd := ok.kind
  fn := fun x h => h
  calm := O.calm
  un := O.un
  gd := O.gd
  tk := fun u s' ⟨_, _, _, _, _, _, _, _, _, _, _, _, _, _, _, _, w⟩ => w
  F := O.F
  G := O.G
  B := O.B
theorem own_snd (c : SC) (own : List Nat) : (c.own own).map (·.2) = own := by unfold SC.own; rw [List.map_map]; exact List.map_id _
theorem s_b1 {op : BoolOp} {a : Expr} {pos : Pos} {t : TE} (ha : PE X a t) : PE X (.BoolOp op [a] pos) t := ⟨fun pins s σ H Q I h => ha.run pins s σ H Q I h⟩
theorem back_any {pos : Pos} : ∀ {es : List Expr} {env : PySem.Env}, es.all noStar = true → (backTo pos (starEach es env)).any (·.1) = false
  | [], _, _ => rfl
  | a :: es, env, h => by
    simp only [List.all_cons, Bool.and_eq_true] at h
    rw [star1 h.1]
    show (false || (backTo pos (starEach es env)).any (·.1)) = false
    rw [back_any h.2]
    rfl
theorem chkEs_star : ∀ {es : Es} {exs : List Expr}, chkEs c es exs = true → exs.all noStar = true
  | .nil, exs, h => by
    simp only [chkEs] at h
    cases exs with
    | nil => rfl
    | cons a l => cases h
  | .cons a es, exs, h => by
    cases exs with
    | nil => cases h
    | cons a' l =>
      simp only [chkEs, Bool.and_eq_true] at h
      simp only [List.all_cons, Bool.and_eq_true]
      exact ⟨h.1.1, chkEs_star h.2⟩
theorem evEs_len : ∀ {es : Es} {exs : List Expr}, chkEs c es exs = true → ∀ g p, evEs C es g = .ok p → p.1.length = exs.length
  | .nil, exs, h, g, p, e => by
    simp only [chkEs] at h
    cases exs with
    | nil => simp only [evEs] at e; cases e; rfl
    | cons a l => cases h
  | .cons a es, exs, h, g, p, e => by
    cases exs with
    | nil => cases h
    | cons a' l =>
      simp only [chkEs, Bool.and_eq_true] at h
      simp only [evEs] at e
      obtain ⟨q, _, e⟩ := bind_ok_inv e
      obtain ⟨r, e2, e⟩ := bind_ok_inv e
      cases e
      simp [evEs_len h.2 _ _ e2]
theorem evFs_len : ∀ {es : Es} {exs : List Expr}, chkEs c es exs = true → ∀ g p, evFs C es g = .ok p → p.1.length = exs.length
  | .nil, exs, h, g, p, e => by
    simp only [chkEs] at h
    cases exs with
    | nil => simp only [evFs] at e; cases e; rfl
    | cons a l => cases h
  | .cons a es, exs, h, g, p, e => by
    cases exs with
    | nil => cases h
    | cons a' l =>
      simp only [chkEs, Bool.and_eq_true] at h
      simp only [evFs] at e
      obtain ⟨q, _, e⟩ := bind_ok_inv e
      obtain ⟨r, e2, e⟩ := bind_ok_inv e
      cases e
      simp [evFs_len h.2 _ _ e2]
theorem evO_int {o : Oe} {g : Env} {p : Option PyData × Env} (e : evO C o g = .ok p) : ∃ l, optI p.1 = some l := by
  cases o with
  | none => simp only [evO] at e; cases e; exact ⟨_, rfl⟩
  | some a =>
    simp only [evO] at e
    obtain ⟨q, _, e⟩ := bind_ok_inv e
    obtain ⟨d, e2, e⟩ := of_ok_inv e
    cases e
    cases h : q.1.get q.2 with
    | none => rw [h] at e2; cases e2
    | some x =>
      rw [h] at e2
      cases x <;> first | (cases e2; done) | skip
      cases e2
      exact ⟨_, rfl⟩
end
/-- what is shown of an expression -/
structure Snd (C : Calls) (XC : XR) (X : Cx) (W : WX) (t : Bool) (e : E) (ex : Expr) : Prop where
  pe : PE X ex (TRE X.K XC W (evE C e))
  pt : t = true → PT X ex (TRT X.K XC W (tstF (evE C e)))
  set : ∀ (i : Nat) (y : Str) (py spos : Pos), X.N[i]? = some y → X.env.scope.names.lookup y = some .local → swapsWith ex (some (.Name y py)) spos.line X.env = pure true → PS X (.Assign [.Name y py] ex spos) (tAsg (TRE X.K XC W (evE C e)) (gName i))
def isLC : Expr → Bool
  | .ListComp _ _ _ _ => true
  | .SetComp _ _ _ _ => true
  | .DictComp _ _ _ _ _ => true
  | _ => false
theorem noswap {ex : Expr} {tg : Option Expr} {l : Nat} {env : PySem.Env} (h : isLC ex = false) : swapsWith ex tg l env = pure false := by
  cases ex <;> first | rfl | cases h
section
variable {C : Calls} {XC : XR} {c : SC} {X : Cx} {W : WX} {t : Bool} {e : E} {ex : Expr}
/-- an expression that is no comprehension, tested by its value -/
theorem Snd.any (h : PE X ex (TRE X.K XC W (evE C e))) (hl : isLC ex = false) (ht : ∀ whole, isTrue ex X.env whole = (do let v ← whole; standAt ex.pos; holding [v] (truthy v))) : Snd C XC X W t e ex :=
  ⟨h, fun _ => t_any h ht, fun i y py spos _ _ hs => by rw [noswap hl] at hs; cases hs⟩
theorem Snd.tst (h : PE X ex (TRE X.K XC W (evE C e))) (hl : isLC ex = false) (ht : t = true → PT X ex (TRT X.K XC W (tstF (evE C e)))) : Snd C XC X W t e ex :=
  ⟨h, ht, fun i y py spos _ _ hs => by rw [noswap hl] at hs; cases hs⟩
end

section
variable {C : Calls} {XC : XR}
mutual
theorem snd_E : ∀ (e : E) (t : Bool) (c : SC) (X : Cx) (W : WX) (ex : Expr), Cok C XC c X W → chkE c t e ex = true → Snd C XC X W t e ex
  | .lit d, t, c, X, W, ex, O, h => by
    simp only [chkE] at h
    obtain ⟨v, h1, h2, h3⟩ := lit1 h
    refine .any (s_lit (h1 X) h2) ?_ (h3 _)
    unfold litB at h
    split at h <;> first | rfl | cases h
  | .glb k, t, c, X, W, ex, O, h => by
    unfold chkE at h
    split at h
    · simp only [Bool.and_eq_true, decide_eq_true_eq] at h
      obtain ⟨v, u, h1, h2, h3⟩ := O.G k _ h.1.1
      exact .any (s_glb (pe_glob (O.gl h.1.2) h1 h2 (nm_ok h.2).1) h3) rfl fun _ => rfl
    · cases h
  | .var i, t, c, X, W, ex, O, h => by
    unfold chkE at h
    split at h
    · simp only [Bool.and_eq_true] at h
      exact .any (s_var (O.at h.1.1) (O.vis h.1.2) (nm_ok h.2).1 (nm_ok h.2).2) rfl fun _ => rfl
    · cases h
  | .bop o a b, t, c, X, W, ex, O, h => by
    unfold chkE at h
    split at h
    · simp only [Bool.and_eq_true, decide_eq_true_eq] at h
      obtain ⟨⟨rfl, h1⟩, h2⟩ := h
      exact .any (s_bop o (snd_E a _ c X W _ O h1).pe (snd_E b _ c X W _ O h2).pe) rfl fun _ => rfl
    · cases h
  | .neg a, t, c, X, W, ex, O, h => by
    unfold chkE at h
    split at h
    · simp only [Bool.and_eq_true] at h
      obtain ⟨h0, h1⟩ := h
      split at h0
      · exact .any (s_neg (snd_E a _ c X W _ O h1).pe) rfl fun _ => rfl
      · cases h0
    · cases h
  | .nt a, t, c, X, W, ex, O, h => by
    unfold chkE at h
    split at h
    · simp only [Bool.and_eq_true] at h
      obtain ⟨h0, h1⟩ := h
      split at h0
      · have q := snd_E a _ c X W _ O h1
        exact .tst (s_nt q.pe) rfl fun _ => t_nt (q.pt rfl)
      · cases h0
    · cases h
  | .and es, t, c, X, W, ex, O, h => by
    unfold chkE at h
    split at h
    · simp only [Bool.and_eq_true] at h
      obtain ⟨h0, h1⟩ := h
      split at h0
      · have q := fun pos => snd_and es t c X W _ pos O h1
        exact .tst (q _).1 rfl fun e => ((q _).2 e).pt
      · cases h0
    · cases h
  | .or es, t, c, X, W, ex, O, h => by
    unfold chkE at h
    split at h
    · simp only [Bool.and_eq_true] at h
      obtain ⟨h0, h1⟩ := h
      split at h0
      · have q := fun pos => snd_or es t c X W _ pos O h1
        exact .tst (q _).1 rfl fun e => ((q _).2 e).pt
      · cases h0
    · cases h
  | .cmp o a b, t, c, X, W, ex, O, h => by
    have hu : X.A.units + 65 < cLine := by have := O.un; omega
    unfold chkE at h
    split at h
    · simp only [Bool.and_eq_true, decide_eq_true_eq, Bool.not_eq_true'] at h
      obtain ⟨⟨⟨rfl, hm⟩, h1⟩, h2⟩ := h
      have q1 := (snd_E a _ c X W _ O h1).pe
      have q2 := (snd_E b _ c X W _ O h2).pe
      exact .tst (s_cmp hu o q1 q2 hm) rfl fun _ => t_cmp hu o q1 q2 hm
    · cases h
  | .cmp2 o o2 a b d, t, c, X, W, ex, O, h => by
    have hu : X.A.units + 65 < cLine := by have := O.un; omega
    unfold chkE at h
    split at h
    · simp only [Bool.and_eq_true, decide_eq_true_eq, Bool.not_eq_true'] at h
      obtain ⟨⟨⟨⟨⟨rfl, rfl⟩, hm⟩, h1⟩, h2⟩, h3⟩ := h
      have q1 := (snd_E a _ c X W _ O h1).pe
      have q2 := (snd_E b _ c X W _ O h2).pe
      have q3 := (snd_E d _ c X W _ O h3).pe
      exact .tst (s_cmp2 hu o o2 q1 q2 q3 hm) rfl fun _ => t_cmp2 hu o o2 q1 q2 q3 hm
    · cases h
  | .ife a b d, t, c, X, W, ex, O, h => by
    unfold chkE at h
    split at h
    · simp only [Bool.and_eq_true, Bool.not_eq_true'] at h
      obtain ⟨⟨⟨ht, h1⟩, h2⟩, h3⟩ := h
      exact .tst (s_ife ((snd_E a _ c X W _ O h1).pt rfl) (snd_E b _ c X W _ O h2).pe (snd_E d _ c X W _ O h3).pe) rfl fun e => by rw [ht] at e; cases e
    · cases h
  | .call f es, t, c, X, W, ex, O, h => by
    unfold chkE at h
    split at h
    · simp only [Bool.and_eq_true, decide_eq_true_eq] at h
      obtain ⟨⟨⟨h0, hg⟩, hn⟩, hs⟩ := h
      obtain ⟨k, fa, fd, ps, F, hr, hm, hk, hb⟩ := O.F f _ h0
      have st := chkEs_star hs
      simp only [List.all_cons, Bool.and_eq_true] at st
      exact .any (s_call F hr O.gd (O.gl hg) hm hk hb O.tk (snd_Es es c X W _ O hs) (nm_ok hn).1 (star1 st.1) (back_any st.2)) rfl fun _ => rfl
    · cases h
  | .cio f i es, t, c, X, W, ex, O, h => by
    unfold chkE at h
    split at h
    · simp only [Bool.and_eq_true, decide_eq_true_eq] at h
      obtain ⟨⟨⟨⟨⟨⟨h0, hg⟩, hn⟩, hi⟩, hv⟩, hn2⟩, hs⟩ := h
      obtain ⟨k, fa, fd, ps, F, hr, hm, hk, hb⟩ := O.F f _ h0
      exact .any (s_cio F hr O.gd (O.gl hg) hm hk hb O.tk (O.at hi) (O.vis hv) (nm_ok hn2).1 (nm_ok hn2).2 (snd_Fs es c X W _ O hs) (nm_ok hn).1 (star1 rfl) (back_any (chkEs_star hs))) rfl fun _ => rfl
    · cases h
  | .bi b es, t, c, X, W, ex, O, h => by
    unfold chkE at h
    split at h
    · simp only [Bool.and_eq_true] at h
      obtain ⟨hb, hs⟩ := h
      obtain ⟨h1, h2, h3⟩ := O.nb hb
      have st := chkEs_star hs
      simp only [List.all_cons, Bool.and_eq_true] at st
      exact .any (s_bi O.calm O.un O.gd b h1 h2 h3 (snd_Es es c X W _ O hs) (star1 st.1) (back_any st.2)) rfl fun _ => rfl
    · cases h
  | .isa a ty, t, c, X, W, ex, O, h => by
    unfold chkE at h
    split at h
    · simp only [Bool.and_eq_true] at h
      obtain ⟨⟨⟨hb, hb2⟩, hs⟩, h1⟩ := h
      obtain ⟨e1, e2, e3⟩ := O.nb hb
      obtain ⟨f1, f2, f3⟩ := O.nb hb2
      exact .any (s_isa ty e1 f1 e2 e3 f2 f3 (snd_E a _ c X W _ O h1).pe (star1 hs)) rfl fun _ => rfl
    · cases h
  | .lrg es, t, c, X, W, ex, O, h => by
    unfold chkE at h
    split at h
    · rename_i x p y p2 es' pos2 pos
      simp only [Bool.and_eq_true, Bool.or_eq_true, decide_eq_true_eq] at h
      obtain ⟨⟨⟨hb, hb2⟩, hs⟩, hl⟩ := h
      obtain ⟨e1, e2, e3⟩ := O.nb hb
      obtain ⟨f1, f2, f3⟩ := O.nb hb2
      have st := chkEs_star hs
      cases es with
      | nil => simp only [chkEs] at hs; cases es' with
        | nil => simp at hl
        | cons a l => cases hs
      | cons a es =>
        cases es' with
        | nil => cases hs
        | cons a' es' =>
          simp only [chkEs, Bool.and_eq_true] at hs
          have qa := (snd_E a _ c X W _ O hs.1.2).pe
          cases es with
          | nil =>
            have hs2 := hs.2
            simp only [chkEs] at hs2
            cases es' with
            | cons _ _ => cases hs2
            | nil => exact .any (s_lrg1 e1 f1 O.calm e2 e3 f2 f3 qa (star1 hs.1.1)) rfl fun _ => rfl
          | cons b es =>
            cases es' with
            | nil => have hs2 := hs.2; cases hs2
            | cons b' es' =>
              have hs2 := hs.2
              simp only [chkEs, Bool.and_eq_true] at hs2
              have qb := (snd_E b _ c X W _ O hs2.1.2).pe
              cases es with
              | nil =>
                have hs3 := hs2.2
                simp only [chkEs] at hs3
                cases es' with
                | cons _ _ => cases hs3
                | nil => exact .any (s_lrg2 e1 f1 O.calm e2 e3 f2 f3 qa qb (star1 hs.1.1) (star1 hs2.1.1) (back_any (by simp [hs2.1.1]))) rfl fun _ => rfl
              | cons d es =>
                cases es' with
                | nil => have hs3 := hs2.2; cases hs3
                | cons d' es' => simp at hl
    · cases h
  | .rep a k, t, c, X, W, ex, O, h => by
    unfold chkE at h
    split at h
    · simp only [Bool.and_eq_true] at h
      obtain ⟨⟨h0, h1⟩, h2⟩ := h
      split at h0
      · exact .any (s_rep (snd_E a _ c X W _ O h1).pe (snd_E k _ c X W _ O h2).pe) rfl fun _ => rfl
      · cases h0
    · cases h
  | .idx a i, t, c, X, W, ex, O, h => by
    unfold chkE at h
    split at h
    · simp only [Bool.and_eq_true] at h
      obtain ⟨⟨h0, h1⟩, h2⟩ := h
      exact .any (s_idx (snd_E a _ c X W _ O h1).pe (snd_E i _ c X W _ O h2).pe (ix1 h0)) rfl fun _ => rfl
    · cases h
  | .slc a lo hi, t, c, X, W, ex, O, h => by
    unfold chkE at h
    split at h
    · simp only [Bool.and_eq_true] at h
      obtain ⟨⟨h0, h1⟩, h2⟩ := h
      exact .any (s_slc (snd_E a _ c X W _ O h0).pe (fun g p e => evO_int e) (snd_O lo c X W _ O h1) (snd_O hi c X W _ O h2)) rfl fun _ => rfl
    · cases h
  | .rev a, t, c, X, W, ex, O, h => by
    unfold chkE at h
    split at h
    · exact .any (s_rev (snd_E a _ c X W _ O h).pe) rfl fun _ => rfl
    · cases h
  | .tup es, t, c, X, W, ex, O, h => by
    unfold chkE at h
    split at h
    · simp only [Bool.and_eq_true, decide_eq_true_eq] at h
      exact .any (s_tup _ h.1 (evFs_len h.2) (snd_Fs es c X W _ O h.2)) rfl fun _ => rfl
    · cases h
  | .lst es, t, c, X, W, ex, O, h => by
    unfold chkE at h
    split at h
    · simp only [Bool.and_eq_true, decide_eq_true_eq] at h
      exact .any (s_lst _ h.1 (evFs_len h.2) (snd_Fs es c X W _ O h.2)) rfl fun _ => rfl
    · cases h
  | .att _, t, c, X, W, ex, O, h => by simp only [chkE] at h; cases h
  | .comp e tg it oc own, t, c, X, W, ex, O, h => by
    unfold chkE at h
    split at h
    · rename_i elt tg' iter ifs isa scope pos
      simp only [Bool.and_eq_true, decide_eq_true_eq, List.all_eq_true] at h
      obtain ⟨⟨⟨⟨⟨⟨⟨rfl, hb⟩, hns⟩, hix⟩, htg⟩, hI⟩, hC⟩, hE⟩ := h
      have ok := blkOk_by hb
      have ok' : BlkOk X.N X.env.scope scope (c.own own) := by rw [O.N, O.sc]; exact ok
      have i1 := snd_I it c X W _ _ O hI
      have g1 := fun s H Cl cl fp => chkTg_ok (O.blk ok s H Cl cl fp) htg
      have c1 := fun s H Cl cl fp => snd_C oc (c.blk scope) _ WF ifs (O.blk ok s H Cl cl fp) hC
      have e1 := fun s H Cl cl fp => (snd_E e false (c.blk scope) _ WF elt (O.blk ok s H Cl cl fp) hE).pe
      have hx : ∀ i ∈ tg.ix, i ∈ (c.own own).map (·.2) := by rw [own_snd]; exact hix
      have q := s_comp (pos := pos) O.calm O.Nd i1 ok' hx g1 c1 e1 (fold1 hns)
      rw [own_snd] at q
      refine ⟨q, fun _ => t_any q fun _ => rfl, fun i y py spos hy hyl hsw => ?_⟩
      have q := ps_setC hy hyl hsw O.calm O.Nd i1 ok' hx g1 c1 e1 (fold1 hns)
      rw [own_snd] at q
      exact q
    · cases h
  | .comp2 e tg it oc tg1 it1 oc1 own own1, t, c, X, W, ex, O, h => by
    unfold chkE at h
    split at h
    · rename_i elt tg' iter ifs isa tg1' iter1 ifs1 isa1 scope pos
      simp only [Bool.and_eq_true, decide_eq_true_eq, List.all_eq_true] at h
      obtain ⟨⟨⟨⟨⟨⟨⟨⟨⟨⟨⟨⟨⟨⟨rfl, rfl⟩, hb⟩, hns⟩, hns1⟩, hix⟩, hix1⟩, hsub⟩, htg⟩, hI⟩, hC⟩, hI1⟩, htg1⟩, hC1⟩, hE⟩ := h
      have ok := blkOk_by hb
      have ok' : BlkOk X.N X.env.scope scope (c.own own) := by rw [O.N, O.sc]; exact ok
      have i1 := snd_I it c X W _ _ O hI
      have g1 := fun s H Cl cl fp => chkTg_ok (O.blk ok s H Cl cl fp) htg
      have c1 := fun s H Cl cl fp => snd_C oc (c.blk scope) _ WF ifs (O.blk ok s H Cl cl fp) hC
      have i2 := fun s H Cl cl fp => snd_I1 it1 (c.blk scope) _ WF tg1' iter1 (O.blk ok s H Cl cl fp) hI1
      have g2 := fun s H Cl cl fp => chkTg_ok (O.blk ok s H Cl cl fp) htg1
      have c2 := fun s H Cl cl fp => snd_C oc1 (c.blk scope) _ WF ifs1 (O.blk ok s H Cl cl fp) hC1
      have e1 := fun s H Cl cl fp => (snd_E e false (c.blk scope) _ WF elt (O.blk ok s H Cl cl fp) hE).pe
      have hx : ∀ i ∈ tg.ix, i ∈ (c.own own).map (·.2) := by rw [own_snd]; exact hix
      have hx1 : ∀ i ∈ own1, i ∈ (c.own own).map (·.2) := by rw [own_snd]; exact hsub
      have q := s_comp2 (pos := pos) O.calm O.Nd i1 ok' hx hix1 hx1 g1 c1 i2 g2 c2 e1 (fold1 hns) (fun env => fold1 (env := env) hns1)
      rw [own_snd] at q
      refine ⟨q, fun _ => t_any q fun _ => rfl, fun i y py spos hy hyl hsw => ?_⟩
      have q := ps_setC2 hy hyl hsw O.calm O.Nd i1 ok' hx hix1 hx1 g1 c1 i2 g2 c2 e1 (fold1 hns) (fun env => fold1 (env := env) hns1)
      rw [own_snd] at q
      exact q
    · cases h
  | .dnew, t, c, X, W, ex, O, h => by
    unfold chkE at h
    split at h
    · exact .any s_dnew rfl fun _ => rfl
    · cases h
  | .dcomp k v tg it oc own, t, c, X, W, ex, O, h => by
    have hu : X.A.units + 1 < cLine := by have := O.un; omega
    unfold chkE at h
    split at h
    · rename_i k' v' tg' iter ifs isa scope pos
      simp only [Bool.and_eq_true, decide_eq_true_eq, List.all_eq_true] at h
      obtain ⟨⟨⟨⟨⟨⟨⟨⟨rfl, hb⟩, hns⟩, hix⟩, htg⟩, hI⟩, hC⟩, hK⟩, hV⟩ := h
      have ok := blkOk_by hb
      have ok' : BlkOk X.N X.env.scope scope (c.own own) := by rw [O.N, O.sc]; exact ok
      have i1 := snd_I it c X W _ _ O hI
      have g1 := fun s H Cl cl fp => chkTg_ok (O.blk ok s H Cl cl fp) htg
      have c1 := fun s H Cl cl fp => snd_C oc (c.blk scope) _ WF ifs (O.blk ok s H Cl cl fp) hC
      have k1 := fun s H Cl cl fp => (snd_E k false (c.blk scope) _ WF k' (O.blk ok s H Cl cl fp) hK).pe
      have v1 := fun s H Cl cl fp => (snd_E v false (c.blk scope) _ WF v' (O.blk ok s H Cl cl fp) hV).pe
      have hx : ∀ i ∈ tg.ix, i ∈ (c.own own).map (·.2) := by rw [own_snd]; exact hix
      have q := s_dcomp (pos := pos) hu O.calm O.Nd i1 ok' hx g1 c1 k1 v1 (fold1 hns)
      rw [own_snd] at q
      refine ⟨q, fun _ => t_any q fun _ => rfl, fun i y py spos hy hyl hsw => ?_⟩
      have q := ps_setDc hy hyl hsw hu O.calm O.Nd i1 ok' hx g1 c1 k1 v1 (fold1 hns)
      rw [own_snd] at q
      exact q
    · cases h
  | .din neg a i, t, c, X, W, ex, O, h => by
    have hu : X.A.units + 1 < cLine := by have := O.un; omega
    unfold chkE at h
    split at h
    · simp only [Bool.and_eq_true, decide_eq_true_eq] at h
      obtain ⟨⟨⟨⟨rfl, h1⟩, h2⟩, h3⟩, h4⟩ := h
      have q := (snd_E a _ c X W _ O h1).pe
      exact .tst (s_din neg hu (O.at h2) (O.vis h3) (nm_ok h4).1 (nm_ok h4).2 q) rfl fun _ => t_din neg hu (O.at h2) (O.vis h3) (nm_ok h4).1 (nm_ok h4).2 q
    · cases h
  | .dgt i a, t, c, X, W, ex, O, h => by
    have hu : X.A.units + 1 < cLine := by have := O.un; omega
    unfold chkE at h
    split at h
    · simp only [Bool.and_eq_true] at h
      obtain ⟨⟨⟨⟨h0, h1⟩, h2⟩, h3⟩, h4⟩ := h
      exact .any (s_dgt hu (O.at h2) (O.vis h3) (nm_ok h4).1 (nm_ok h4).2 (snd_E a _ c X W _ O h1).pe (ix1 h0)) rfl fun _ => rfl
    · cases h
  | .dgo _ _ _, t, c, X, W, ex, O, h => by simp only [chkE] at h; cases h
  | .dso i, t, c, X, W, ex, O, h => by
    unfold chkE at h
    split at h
    · simp only [Bool.and_eq_true] at h
      obtain ⟨⟨⟨hb, h2⟩, h3⟩, h4⟩ := h
      obtain ⟨e1, e2, e3⟩ := O.nb hb
      exact .any (s_dso e1 O.calm O.un e2 e3 (O.at h2) (O.vis h3) (nm_ok h4).1 (nm_ok h4).2) rfl fun _ => rfl
    · cases h
  | .sset a, t, c, X, W, ex, O, h => by
    unfold chkE at h
    split at h
    · simp only [Bool.and_eq_true] at h
      obtain ⟨⟨⟨hb, hb2⟩, hs⟩, h1⟩ := h
      obtain ⟨e1, e2, e3⟩ := O.nb hb
      obtain ⟨f1, f2, f3⟩ := O.nb hb2
      exact .any (s_sset e1 f1 O.calm O.un e2 e3 f2 f3 (snd_E a _ c X W _ O h1).pe (star1 hs)) rfl fun _ => rfl
    · cases h
  | .slen _, t, c, X, W, ex, O, h => by simp only [chkE] at h; cases h
  | .lzip _ _, t, c, X, W, ex, O, h => by simp only [chkE] at h; cases h
theorem snd_I1 : ∀ (it : It) (c : SC) (X : Cx) (W : WX) (tg ex : Expr), Cok C XC c X W → chkI1 c it ex = true → PI X tg ex (TRI1 X.K XC W (evI1 C it))
  | .of a, c, X, W, tg, ex, O, h => i1_of (snd_E a _ c X W _ O h).pe
  | .rng es, c, X, W, tg, ex, O, h => by
    unfold chkI1 at h
    split at h
    · rename_i x p a' pos
      simp only [Bool.and_eq_true] at h
      obtain ⟨hb, hs⟩ := h
      obtain ⟨e1, e2, e3⟩ := O.nb hb
      have st := chkEs_star hs
      exact i1_rng e1 e2 e3 (evEs_len (C := C) hs) (snd_Es es c X W _ O hs) (star1 (by simpa using st))
    · cases h
  | .enum _, c, X, W, tg, ex, O, h => by cases h
  | .zip _ _, c, X, W, tg, ex, O, h => by cases h
theorem snd_and : ∀ (es : Es) (t : Bool) (c : SC) (X : Cx) (W : WX) (exs : List Expr) (pos : Pos), Cok C XC c X W → chkB c t es exs = true →
    PE X (.BoolOp .And exs pos) (TRE X.K XC W (evAnd C es)) ∧ (t = true → PW X (.BoolOp .And exs pos) (TRT X.K XC W (tstF (evAnd C es))))
  | .nil, t, c, X, W, exs, pos, O, h => by cases h
  | .cons a .nil, t, c, X, W, exs, pos, O, h => by
    match exs, h with
    | [a'], h =>
      have q := snd_E a t c X W a' O h
      exact ⟨s_b1 q.pe, fun e => pw_and1 (q.pt e)⟩
    | [], h => cases h
    | _ :: _ :: _, h => cases h
  | .cons a (.cons b es), t, c, X, W, exs, pos, O, h => by
    match exs, h with
    | a' :: b' :: r, h =>
      have h : (chkE c t a a' && chkB c t (.cons b es) (b' :: r)) = true := h
      simp only [Bool.and_eq_true] at h
      have q := snd_E a t c X W a' O h.1
      have q2 := snd_and (.cons b es) t c X W (b' :: r) pos O h.2
      exact ⟨s_and q.pe q2.1, fun e => t_and (q.pt e) (q2.2 e)⟩
    | [], h => cases h
    | [_], h => cases h
theorem snd_or : ∀ (es : Es) (t : Bool) (c : SC) (X : Cx) (W : WX) (exs : List Expr) (pos : Pos), Cok C XC c X W → chkB c t es exs = true →
    PE X (.BoolOp .Or exs pos) (TRE X.K XC W (evOr C es)) ∧ (t = true → PW X (.BoolOp .Or exs pos) (TRT X.K XC W (tstF (evOr C es))))
  | .nil, t, c, X, W, exs, pos, O, h => by cases h
  | .cons a .nil, t, c, X, W, exs, pos, O, h => by
    match exs, h with
    | [a'], h =>
      have q := snd_E a t c X W a' O h
      exact ⟨s_b1 q.pe, fun e => pw_or1 (q.pt e)⟩
    | [], h => cases h
    | _ :: _ :: _, h => cases h
  | .cons a (.cons b es), t, c, X, W, exs, pos, O, h => by
    match exs, h with
    | a' :: b' :: r, h =>
      have h : (chkE c t a a' && chkB c t (.cons b es) (b' :: r)) = true := h
      simp only [Bool.and_eq_true] at h
      have q := snd_E a t c X W a' O h.1
      have q2 := snd_or (.cons b es) t c X W (b' :: r) pos O h.2
      exact ⟨s_or q.pe q2.1, fun e => t_or (q.pt e) (q2.2 e)⟩
    | [], h => cases h
    | [_], h => cases h
theorem snd_Es : ∀ (es : Es) (c : SC) (X : Cx) (W : WX) (exs : List Expr), Cok C XC c X W → chkEs c es exs = true → PA X exs (TRA X.K XC W (evEs C es))
  | .nil, c, X, W, exs, O, h => by
    match exs, h with
    | [], _ => exact a_nil
    | _ :: _, h => cases h
  | .cons a es, c, X, W, exs, O, h => by
    match exs, h with
    | [], h => cases h
    | a' :: es', h =>
      simp only [chkEs, Bool.and_eq_true] at h
      exact a_cons (snd_E a _ c X W _ O h.1.2).pe (snd_Es es c X W _ O h.2) (star1 h.1.1)
theorem snd_Fs : ∀ (es : Es) (c : SC) (X : Cx) (W : WX) (exs : List Expr), Cok C XC c X W → chkEs c es exs = true → PA X exs (TRFs X.K XC W (evFs C es))
  | .nil, c, X, W, exs, O, h => by
    match exs, h with
    | [], _ => exact f_nil
    | _ :: _, h => cases h
  | .cons a es, c, X, W, exs, O, h => by
    match exs, h with
    | [], h => cases h
    | a' :: es', h =>
      simp only [chkEs, Bool.and_eq_true] at h
      exact f_cons (s_frz (snd_E a _ c X W _ O h.1.2).pe) (snd_Fs es c X W _ O h.2) (star1 h.1.1)
theorem snd_O : ∀ (o : Oe) (c : SC) (X : Cx) (W : WX) (ex : Option Expr), Cok C XC c X W → chkO c o ex = true → PO X ex (TRO X.K XC W (evO C o))
  | .none, c, X, W, ex, O, h => by
    match ex, h with
    | none, _ => exact o_none
    | some _, h => cases h
  | .some a, c, X, W, ex, O, h => by
    match ex, h with
    | none, h => cases h
    | some a', h => exact o_some (snd_E a _ c X W _ O h).pe
theorem snd_C : ∀ (o : Oe) (c : SC) (X : Cx) (W : WX) (exs : List Expr), Cok C XC c X W → chkC c o exs = true → PTs X exs (TRT X.K XC W (evT C o))
  | .none, c, X, W, exs, O, h => by
    match exs, h with
    | [], _ => exact ⟨fun pins s σ H Q I h => by
        obtain ⟨Z, g, R, h⟩ := h
        exact pts_nil.run pins s σ H Q I (h Z H Ext.refl R)⟩
    | _ :: _, h => cases h
  | .some a, c, X, W, exs, O, h => by
    match exs, h with
    | [a'], h => exact pts_one ((snd_E a true c X W _ O h).pt rfl)
    | [], h => cases h
    | _ :: _ :: _, h => cases h
theorem snd_I : ∀ (it : It) (c : SC) (X : Cx) (W : WX) (tg ex : Expr), Cok C XC c X W → chkI c it tg ex = true → PI X tg ex (TRI X.K XC W (evI C it))
  | .of a, c, X, W, tg, ex, O, h => i_of (snd_E a _ c X W _ O h).pe
  | .rng es, c, X, W, tg, ex, O, h => by
    unfold chkI at h
    split at h
    · rename_i x p es' pos
      simp only [Bool.and_eq_true, Bool.or_eq_true, decide_eq_true_eq] at h
      obtain ⟨⟨hb, hs⟩, hl⟩ := h
      obtain ⟨e1, e2, e3⟩ := O.nb hb
      have st := chkEs_star hs
      have ev := evEs_len (C := C) hs
      have q := snd_Es es c X W _ O hs
      match es', hl, st, ev, q with
      | [a'], _, st, ev, q => exact i_rng1 e1 e2 e3 ev q (star1 (by simpa using st))
      | [a', b'], _, st, ev, q =>
        simp only [List.all_cons, List.all_nil, Bool.and_true, Bool.and_eq_true] at st
        refine i_rng2 e1 e2 e3 ev q ?_ (star1 st.2)
        rw [star1 st.1, star1 st.2]
        rfl
      | [], hl, _, _, _ => simp at hl
      | _ :: _ :: _ :: _, hl, _, _, _ => simp at hl
    · cases h
  | .enum a, c, X, W, tg, ex, O, h => by
    unfold chkI at h
    split at h
    · simp only [Bool.and_eq_true] at h
      obtain ⟨⟨hb, hs⟩, h1⟩ := h
      obtain ⟨e1, e2, e3⟩ := O.nb hb
      exact i_enum e1 e2 e3 (snd_E a _ c X W _ O h1).pe (star1 hs)
    · cases h
  | .zip a b, c, X, W, tg, ex, O, h => by
    unfold chkI at h
    split at h
    · simp only [Bool.and_eq_true] at h
      obtain ⟨⟨⟨⟨hb, hs⟩, hs2⟩, h1⟩, h2⟩ := h
      obtain ⟨e1, e2, e3⟩ := O.nb hb
      exact i_zip e1 e2 e3 (snd_E a _ c X W _ O h1).pe (snd_E b _ c X W _ O h2).pe (star1 hs) (star1 hs2) (back_any (by simp [hs2]))
    · cases h
end
end
end PK
end

section
set_option Elab.async false
set_option linter.all false
set_option maxRecDepth 100000
set_option maxHeartbeats 4000000
/-! PkChS: statements, defs, programs checked. -/
namespace PK
open PySem PySem.Spec PyProof.Rows L2
open PySem (PyData)

def pureOf {α : Type} : Sem α → Option α
  | .pure a => some a
  | _ => none
theorem pureOf_ok {α : Type} {m : Sem α} {a : α} (h : pureOf m = some a) : m = pure a := by
  cases m <;> first | (cases h; rfl) | cases h
/-- a frame of that scope -/
def envS (sc : Scope) : PySem.Env := envOfC "" sc 0 0 .none
theorem swaps_sc {v : Expr} {t : Option Expr} {l : Nat} {env env' : PySem.Env} (h : env.scope = env'.scope) : swapsWith v t l env = swapsWith v t l env' := by
  unfold swapsWith Env.blockKind Env.kindOf
  rw [h]
theorem swapped_sc {ts : List Expr} {v : Expr} {env env' : PySem.Env} (h : env.scope = env'.scope) : swappedStores ts v env = swappedStores ts v env' := by
  unfold swappedStores Env.blockKind Env.kindOf
  rw [h]
theorem noswapS {ex t : Expr} {l : Nat} {env : PySem.Env} (h : isLC ex = false) : swapsWithSole [t] ex l env = pure false := noswap (tg := some t) (l := l) (env := env) h
def notTup : Expr → Bool
  | .Tuple _ _ _ => false
  | _ => true
theorem noTupSt {ts : List Expr} {k : Nat} {p : Pos} {e : Expr} {env : PySem.Env} (h : notTup e = true) : swappedStores [.Tuple ts k p] e env = pure none := by
  cases e <;> first | rfl | cases h
def chkPs (c : SC) : List (Nat × Bool) → Es → List Expr → Bool
  | [], .nil, [] => true
  | _ :: is, .cons a es, a' :: es' => noStar a' && chkE c false a a' && chkPs c is es es'
  | _, _, _ => false
/-- except clauses -/
def chkHs (c : SC) : Hs → List ExceptHandler → Bool
  | .nil, [] => true
  | .cons k none (.cons (.ret (.lit d)) .nil) hs, .ExceptHandler (some (.Name x _)) none [.Return (some l) _] _ :: hds => decide (c.clss[k]? = some x) && (c.flds[k]?).isSome && c.gl x && nmB x && litB d l && chkHs c hs hds
  | .cons k (some i) (.cons (.ret (.bop .add (.bop .add (.lit (.str a)) (.att j)) (.lit (.str b)))) .nil) hs,
    .ExceptHandler (some (.Name x _)) (some n) [.Return (some (.BinOp (.BinOp e1 .Add (.Attribute (.Name n' _) f _) _) .Add e2 _)) _] _ :: hds =>
      decide (i = j) && decide (n = n') && c.at i n && decide (c.sc.names.lookup n = some .local) && decide (c.clss[k]? = some x) && decide (c.flds[k]? = some (some f)) && c.gl x && nmB x && nmB n && litB (.str a) e1 && litB (.str b) e2 && chkHs c hs hds
  | _, _ => false
mutual
def chkS (c : SC) : S → Stmt → Bool
  | .asg i own e, st => match st with
    | .Assign [.Name x px] ex pos => c.at i x && c.lc x && chkE c false e ex && (match pureOf (swapsWith ex (some (.Name x px)) pos.line (envS c.sc)) with
      | some false => true
      | some true => decide (c.sc.names.lookup x = some .local)
      | none => false)
    | _ => false
  | .unp is e, st => match st with
    | .Assign [.Tuple ts _ _] ex _ => notTup ex && !isLC ex && chkNs c is ts && chkE c false e ex
    | _ => false
  | .par is es, st => match st with
    | .Assign [.Tuple ts kt pt] (.Tuple es' k2 p2) _ => chkNs c (is.map (·.1)) ts && chkPs c is es es' && decide (is.length ≤ 1000) && (match pureOf (swappedStores [.Tuple ts kt pt] (.Tuple es' k2 p2) (envS c.sc)) with
      | some none => true
      | some (some ns) => (match is, ts, es' with
        | [(i, _), (j, _)], [.Name x _, .Name y _], [_, _] => decide (ns = [x, y]) && decide (i ≠ j) && decide (c.sc.names.lookup x = some .local) && decide (c.sc.names.lookup y = some .local)
        | [(i, _), (j, _), (l, _)], [.Name x _, .Name y _, .Name z _], [_, _, _] => decide (ns = [x, y, z]) && decide (i ≠ j) && decide (i ≠ l) && decide (j ≠ l) && decide (c.sc.names.lookup x = some .local) && decide (c.sc.names.lookup y = some .local) && decide (c.sc.names.lookup z = some .local)
        | _, _, _ => false)
      | none => false)
    | _ => false
  | .setI i k e, st => match st with
    | .Assign [.Subscript (.Name x _) k' _] ex _ => c.at i x && c.vis x && nmB x && ixB k' && !isLC ex && chkE c false k k' && chkE c false e ex
    | _ => false
  | .aug o i e, st => match st with
    | .AugAssign (.Name x _) op ex _ => decide (op = bopOp o) && (decide (o = .add) || decide (o = .sub)) && c.at i x && c.lc x && chkE c false e ex
    | _ => false
  | .app i e, st => match st with
    | .Expr (.Call (.Attribute (.Name x _) attr apos) [ex] [] cpos) _ => decide (attr = "append") && c.at i x && c.vis x && nmB x && noStar ex && (apos.endLine == cpos.line) && chkE c false e ex
    | _ => false
  | .ext i e, st => match st with
    | .Expr (.Call (.Attribute (.Name x _) attr apos) [ex] [] cpos) _ => decide (attr = "extend") && c.at i x && c.vis x && nmB x && noStar ex && (apos.endLine == cpos.line) && chkE c false e ex
    | _ => false
  | .setD i k e, st => match st with
    | .Assign [.Subscript (.Name x _) k' _] ex _ => c.at i x && c.vis x && nmB x && !isLC ex && chkE c false k k' && chkE c false e ex
    | _ => false
  | .ex e, st => match st with
    | .Expr ex _ => !isLC ex && chkE c false e ex
    | _ => false
  | .ite e a b, st => match st with
    | .If ex a' b' _ => chkE c true e ex && chkSs c a a' && chkSs c b b'
    | _ => false
  | .whl e b, st => match st with
    | .While ex b' o _ => o.isEmpty && chkE c true e ex && chkSs c b b'
    | _ => false
  | .fr t it b, st => match st with
    | .For tg ex b' o _ => o.isEmpty && notSet ex && chkTg c t tg && chkI c it tg ex && chkSs c b b'
    | _ => false
  | .ret e, st => match st with
    | .Return (some ex) _ => chkE c false e ex
    | _ => false
  | .retN, st => match st with
    | .Return none _ => true
    | _ => false
  | .raise0 _, _ => false
  | .raise1 k e, st => match st with
    | .Raise (some (.Call (.Name x _) [ex] [] _)) none _ => decide (c.clss[k]? = some x) && decide (c.flds[k]? = some none) && c.gl x && nmB x && noStar ex && chkE c false e ex
    | _ => false
  | .raiseF k e, st => match st with
    | .Raise (some (.Call (.Name x _) [ex] [] _)) none _ => decide (c.clss[k]? = some x) && ((c.flds[k]?).bind id).isSome && c.gl x && nmB x && noStar ex && chkE c false e ex
    | _ => false
  | .tr b hs, st => match st with
    | .Try b' hds [] [] _ => !hds.isEmpty && chkHs c hs hds && chkSs c b b'
    | _ => false
  | .pass, st => match st with
    | .Pass _ => true
    | _ => false
  | .brk, st => match st with
    | .Break _ => true
    | _ => false
  | .cnt, st => match st with
    | .Continue _ => true
    | _ => false
def chkSs (c : SC) : Ss → List Stmt → Bool
  | .nil, l => l.isEmpty
  | .cons s ss, l => match l with
    | st :: l' => chkS c s st && chkSs c ss l'
    | [] => false
end

/-- what is known of a class of errors -/
structure ClsOk (K : PySem.W.Frag) (mg : Str → Option Value) (XC : XR) (clss : List Str) (k : Nat) (x : Str) : Prop where
  ex : ∃ (Cc : Addr) (bmB : List Value) (B newId initId : String), ExcBaseFacts B newId initId bmB ∧ PySem.W.excIn K Cc bmB newId = true ∧ mg x = some (.ref Cc) ∧ PySem.W.keepIn K (.ref Cc) = true ∧
    PySem.W.subIn K (.ref Cc) (.type "BaseException") = some true ∧ PySem.W.typeIn K (.ref Cc) = some (.type "type") ∧ (∀ d H, XC k d (.ref Cc) none H) ∧
    ∀ c1 d cls oa H, XC c1 d cls oa H → PySem.W.exmOne K cls (.ref Cc) = some (decide (c1 = k))
/-- .. of one that keeps what it is made with in its field f -/
structure ClsF (P : Program) (K : PySem.W.Frag) (mg : Str → Option Value) (XC : XR) (k : Nat) (x f : Str) : Prop where
  ex : ∃ (Cc fI : Addr), ErT P K f Cc fI ∧ mg x = some (.ref Cc) ∧ (∀ d v H dd, H dd = some (.xd [(f, v)]) → simV d = some v → XC k d (.ref Cc) (some dd) H) ∧
    (∀ d cls oa H, XC k d cls oa H → cls = .ref Cc ∧ ∃ dd v, oa = some dd ∧ H dd = some (.xd [(f, v)]) ∧ simV d = some v) ∧ ∀ c1 d cls oa H, XC c1 d cls oa H → PySem.W.exmOne K cls (.ref Cc) = some (decide (c1 = k))
structure Sok (C : Calls) (XC : XR) (c : SC) (X : Cx) (W : WX) : Prop extends Cok C XC c X W where
  own : PassesOwn (model X.prog X.w) X.A X.env X.xe
  stk : X.stack = X.env :: X.outer
  frm : X.env.frame = some X.env.locals
  rm : ∃ j, Room j X.A
  cls : ∀ (k : Nat) (x : Str), c.clss[k]? = some x → c.flds[k]? = some none → ClsOk X.K X.mg XC c.clss k x
  clf : ∀ (k : Nat) (x f : Str), c.clss[k]? = some x → c.flds[k]? = some (some f) → ClsF X.prog X.K X.mg XC k x f
theorem Sok.tr {C : Calls} {XC : XR} {c : SC} {X : Cx} {W W' : WX} (O : Sok C XC c X W) {pn : List (Addr × Obj)} {xe : Value → Shared → Prop} (tk : Takes (X.tr pn xe) W') (po : PassesOwn (model X.prog X.w) X.A X.env xe) : Sok C XC c (X.tr pn xe) W' where
  N := O.N
  nd := O.nd
  sc := O.sc
  kd := O.kd
  fn := O.fn
  calm := O.calm
  un := O.un
  gd := O.gd
  tk := tk
  F := O.F
  G := O.G
  B := O.B
  own := po
  stk := O.stk
  frm := O.frm
  rm := O.rm
  cls := O.cls
  clf := O.clf

section
variable {C : Calls} {XC : XR}
theorem snd_Ps : ∀ (is : List (Nat × Bool)) (es : Es) (c : SC) (X : Cx) (W : WX) (exs : List Expr), Cok C XC c X W → chkPs c is es exs = true → PA X exs (TRP X.K XC W is (evPs C is es))
  | [], .nil, c, X, W, [], O, h => p_nil
  | (i, true) :: is, .cons a es, c, X, W, a' :: es', O, h => by
    simp only [chkPs, Bool.and_eq_true] at h
    exact p_own (snd_E a _ c X W _ O h.1.2).pe (snd_Ps is es c X W _ O h.2) (star1 h.1.1)
  | (i, false) :: is, .cons a es, c, X, W, a' :: es', O, h => by
    simp only [chkPs, Bool.and_eq_true] at h
    exact p_va (snd_E a _ c X W _ O h.1.2).pe (snd_Ps is es c X W _ O h.2) (star1 h.1.1)
  | [], .nil, c, X, W, _ :: _, O, h => by cases h
  | [], .cons _ _, c, X, W, _, O, h => by cases h
  | _ :: _, .nil, c, X, W, _, O, h => by cases h
  | _ :: _, .cons _ _, c, X, W, [], O, h => by cases h
/-- a class that a clause names -/
theorem Sok.nm {C : Calls} {XC : XR} {c : SC} {X : Cx} {W : WX} (O : Sok C XC c X W) {k : Nat} {x : Str} (h1 : c.clss[k]? = some x) (h2 : (c.flds[k]?).isSome = true) : ∃ Cc : Addr, X.mg x = some (.ref Cc) ∧ ∀ c1 d cls oa H, XC c1 d cls oa H → PySem.W.exmOne X.K cls (.ref Cc) = some (decide (c1 = k)) := by
  obtain ⟨o, ho⟩ := Option.isSome_iff_exists.mp h2
  cases o with
  | none =>
    obtain ⟨Cc, _, _, _, _, _, _, gC, _, _, _, _, hx⟩ := (O.cls k x h1 ho).ex
    exact ⟨Cc, gC, hx⟩
  | some f =>
    obtain ⟨Cc, _, _, gC, _, _, hx⟩ := (O.clf k x f h1 ho).ex
    exact ⟨Cc, gC, hx⟩
theorem hs_ok {C : Calls} {XC : XR} {c : SC} {X : Cx} {W : WX} (O : Sok C XC c X W) : ∀ (hs : Hs) (hds : List ExceptHandler), chkHs c hs hds = true → ∃ ks, Clauses X hds ks ∧ HOk X.K XC C hs ks := by
  intro hs hds
  induction hs, hds using chkHs.induct with
  | case1 => exact fun _ => ⟨[], .nil, .nil⟩
  | case2 k d hs x np l rp p hds ih =>
    intro h
    simp only [chkHs, Bool.and_eq_true, decide_eq_true_eq] at h
    obtain ⟨⟨⟨⟨⟨h1, h2⟩, h3⟩, h4⟩, h5⟩, h6⟩ := h
    obtain ⟨ks, q1, q2⟩ := ih h6
    obtain ⟨Cc, gC, hx⟩ := O.nm h1 h2
    obtain ⟨v, l1, l2, _⟩ := lit1 h5
    refine ⟨_, .plain (ts := fun _ _ _ D _ H => D.rt v H) ⟨O.gl h3, (nm_ok h4).1, .inl gC⟩ (fun a oe cls d pn _ _ => ?_) q1, .lit hx l2 q2⟩
    exact pss_one ⟨fun pins s σ H D I h => (ps_ret (l1 _)).run pins s σ H D I h⟩
  | case3 k i a j b hs x np n e1 n' np' f fp bp e2 bp2 rp p hds ih =>
    intro h
    simp only [chkHs, Bool.and_eq_true, decide_eq_true_eq] at h
    obtain ⟨⟨⟨⟨⟨⟨⟨⟨⟨⟨⟨rfl, rfl⟩, hat⟩, hl⟩, h1⟩, h2⟩, h3⟩, h4⟩, h5⟩, h6⟩, h7⟩, h8⟩ := h
    obtain ⟨ks, q1, q2⟩ := ih h8
    obtain ⟨Cc, fI, T, gC, _, hf, hx⟩ := (O.clf k x f h1 h2).ex
    obtain ⟨v1, l1, r1, _⟩ := lit1 h6
    obtain ⟨v2, l2, r2, _⟩ := lit1 h7
    have e1' := r1 X.K (fun _ => False) (fun _ => none)
    cases e1'
    have e2' := r2 X.K (fun _ => False) (fun _ => none)
    cases e2'
    have hk : X.env.kindOf n = some .local := by
      show X.env.scope.names.lookup n = _
      rw [O.sc]; exact hl
    exact ⟨_, .named ⟨O.gl h3, (nm_ok h4).1, .inl gC⟩ (by rw [O.N]; exact O.nd) (O.at hat) hk (su_sfs T (O.at hat) (.inl hk) (nm_ok h5).1 (nm_ok h5).2 l1 l2) q1, .sfs hx hf q2⟩
  | case4 hs hds h1 h2 h3 => 
    intro h
    have e : chkHs c hs hds = false := by
      rw [chkHs]
      all_goals assumption
    rw [e] at h
    cases h
theorem s_tryM {C : Calls} {XC : XR} {X : Cx} {W : WX} {body : List Stmt} {h₀ : ExceptHandler} {hds : List ExceptHandler} {ks : List Cls1} {hs : Hs} {pos : Pos} {b : Ss} (hs1 : X.stack = X.env :: X.outer) (hf : X.env.frame = some X.env.locals) (tk : Takes X W)
    (hb : ∀ (W : WX) (pn : List (Addr × Obj)) (xe : Value → Shared → Prop), Takes (X.tr pn xe) W → PassesOwn (model X.prog X.w) X.A X.env xe → PSs (X.tr pn xe) body (TRS X.K XC W (exSs C b))) (q1 : Clauses X (h₀ :: hds) ks) (q2 : HOk X.K XC C hs ks) :
    PS X (.Try body (h₀ :: hds) [] [] pos) (TRS X.K XC W (exS C (.tr b hs))) := ⟨fun pins s σ H D I h => (ps_try_mix (tb := fun W => TRS X.K XC W (exSs C b)) hs1 hf tk hb q1).run pins s σ H D I (by
  obtain ⟨Z, g, R, h⟩ := h
  refine ⟨Z, g, R, ?_⟩
  have e : exS C (.tr b hs) g = match exSs C b g with
    | .exc c d g1 => hnd C hs c d g1
    | o => o := rfl
  rw [e] at h
  cases eb : exSs C b g with
  | nx g' => rw [eb] at h; exact h
  | bk g' => rw [eb] at h; exact h
  | ct g' => rw [eb] at h; exact h
  | rt fr d g' => rw [eb] at h; exact h
  | bad => rw [eb] at h; exact h
  | exc c d g1 =>
    rw [eb] at h
    exact fun cls oa σ' Z' H' x R' xc => hnd_ok x R' xc q2 h)⟩
theorem sub_assign {x : Str} {p1 p2 : Pos} {b : Expr} {env : PySem.Env} (h : ixB b = true) (v : Value) : assign (.Subscript (.Name x p1) b p2) env v = (do
      let ov ← holding [v] (eval (.Name x p1) env)
      let iv ← holding [v, ov] (eval b env)
      standAt p2
      holding [v, ov, iv] (setItem ov iv v)
      release [v, ov, iv] []) := by
  cases b <;> first | rfl | cases h
mutual
theorem snd_S : ∀ (s : S) (c : SC) (X : Cx) (W : WX) (st : Stmt), Sok C XC c X W → chkS c s st = true → PS X st (TRS X.K XC W (exS C s))
  | .asg i own e, c, X, W, st, O, h => by
    unfold chkS at h
    split at h
    · rename_i x px ex pos
      simp only [Bool.and_eq_true] at h
      obtain ⟨⟨⟨h1, h2⟩, h3⟩, h4⟩ := h
      obtain ⟨l1, l2⟩ := O.lc h2
      have q := snd_E e false c X W ex O.toCok h3
      have hsc : X.env.scope = (envS c.sc).scope := O.sc
      split at h4
      · rename_i hp
        have hs := pureOf_ok hp
        rw [← swaps_sc hsc] at hs
        exact ss_asg O.Nd (O.at h1) l1 l2 q.pe hs
      · rename_i hp
        have hs := pureOf_ok hp
        rw [← swaps_sc hsc] at hs
        exact ss_asgC (q.set i x px pos (O.at h1) (by rw [O.sc]; exact of_decide_eq_true h4) hs)
      · cases h4
    · cases h
  | .unp is e, c, X, W, st, O, h => by
    unfold chkS at h
    split at h
    · simp only [Bool.and_eq_true, Bool.not_eq_true'] at h
      obtain ⟨⟨⟨h1, h2⟩, h3⟩, h4⟩ := h
      obtain ⟨g1, g2, g3⟩ := chkNs_ok O.toCok h3
      exact ss_unp O.calm (snd_E e false c X W _ O.toCok h4).pe g1 g2 g3 (noswapS h2) (noTupSt h1)
    · cases h
  | .par is es, c, X, W, st, O, h => by
    unfold chkS at h
    split at h
    · rename_i ts kt pt es' k2 p2 pos
      simp only [Bool.and_eq_true, decide_eq_true_eq] at h
      obtain ⟨⟨⟨h1, h2⟩, h3⟩, h4⟩ := h
      have hsc : X.env.scope = (envS c.sc).scope := O.sc
      have q := snd_Ps is es c X W es' O.toCok h2
      split at h4
      · rename_i hp
        have hs := pureOf_ok hp
        rw [← swapped_sc hsc] at hs
        obtain ⟨g1, g2, g3⟩ := chkNs_ok O.toCok h1
        exact ss_par O.calm h3 q g1 (by rw [g2, List.length_map]) g3 hs
      · rename_i ns hp
        have hs := pureOf_ok hp
        rw [← swapped_sc hsc] at hs
        split at h4
        · simp only [Bool.and_eq_true, decide_eq_true_eq] at h4
          obtain ⟨⟨⟨rfl, hij⟩, hx⟩, hy⟩ := h4
          simp only [List.map_cons, List.map_nil, chkNs, chkN, Bool.and_eq_true] at h1
          exact ss_par2 O.calm O.Nd (O.at h1.1.1) (O.at h1.2.1.1) hij (by rw [O.sc]; exact hx) (by rw [O.sc]; exact hy) q hs
        · simp only [Bool.and_eq_true, decide_eq_true_eq] at h4
          obtain ⟨⟨⟨⟨⟨⟨rfl, hij⟩, hil⟩, hjl⟩, hx⟩, hy⟩, hz⟩ := h4
          simp only [List.map_cons, List.map_nil, chkNs, chkN, Bool.and_eq_true] at h1
          exact ss_par3 O.calm O.Nd (O.at h1.1.1) (O.at h1.2.1.1) (O.at h1.2.2.1.1) hij hil hjl (by rw [O.sc]; exact hx) (by rw [O.sc]; exact hy) (by rw [O.sc]; exact hz) q hs
        · cases h4
      · cases h4
    · cases h
  | .setI i k e, c, X, W, st, O, h => by
    unfold chkS at h
    split at h
    · simp only [Bool.and_eq_true, Bool.not_eq_true'] at h
      obtain ⟨⟨⟨⟨⟨⟨h1, h2⟩, h3⟩, h4⟩, h5⟩, h6⟩, h7⟩ := h
      exact ss_set (O.at h1) (O.vis h2) (nm_ok h3).1 (nm_ok h3).2 (snd_E k false c X W _ O.toCok h6).pe (snd_E e false c X W _ O.toCok h7).pe (noswapS h5) (by rename_i ex _ _; cases ex <;> rfl) (sub_assign h4)
    · cases h
  | .aug o i e, c, X, W, st, O, h => by
    unfold chkS at h
    split at h
    · simp only [Bool.and_eq_true, Bool.or_eq_true, decide_eq_true_eq] at h
      obtain ⟨⟨⟨⟨rfl, h1⟩, h2⟩, h3⟩, h4⟩ := h
      obtain ⟨l1, l2⟩ := O.lc h3
      exact ss_aug h1 O.Nd (O.at h2) l1 l2 (snd_E e false c X W _ O.toCok h4).pe
    · cases h
  | .app i e, c, X, W, st, O, h => by
    unfold chkS at h
    split at h
    · simp only [Bool.and_eq_true, decide_eq_true_eq] at h
      obtain ⟨⟨⟨⟨⟨⟨rfl, h1⟩, h2⟩, h3⟩, h4⟩, h5⟩, h6⟩ := h
      exact ss_app (O.at h1) (O.vis h2) (nm_ok h3).1 (nm_ok h3).2 (snd_E e false c X W _ O.toCok h6).pe h5 (star1 h4)
    · cases h
  | .ext i e, c, X, W, st, O, h => by
    unfold chkS at h
    split at h
    · simp only [Bool.and_eq_true, decide_eq_true_eq] at h
      obtain ⟨⟨⟨⟨⟨⟨rfl, h1⟩, h2⟩, h3⟩, h4⟩, h5⟩, h6⟩ := h
      exact ss_ext (O.at h1) (O.vis h2) (nm_ok h3).1 (nm_ok h3).2 (snd_E e false c X W _ O.toCok h6).pe h5 (star1 h4)
    · cases h
  | .setD i k e, c, X, W, st, O, h => by
    have hu : X.A.units + 1 < cLine := by have := O.un; omega
    unfold chkS at h
    split at h
    · simp only [Bool.and_eq_true, Bool.not_eq_true'] at h
      obtain ⟨⟨⟨⟨⟨h1, h2⟩, h3⟩, h5⟩, h6⟩, h7⟩ := h
      exact ss_setD hu (O.at h1) (O.vis h2) (nm_ok h3).1 (nm_ok h3).2 (snd_E k false c X W _ O.toCok h6).pe (snd_E e false c X W _ O.toCok h7).pe (noswap h5)
    · cases h
  | .ex e, c, X, W, st, O, h => by
    unfold chkS at h
    split at h
    · simp only [Bool.and_eq_true, Bool.not_eq_true'] at h
      exact ss_ex (snd_E e false c X W _ O.toCok h.2).pe (noswap h.1)
    · cases h
  | .ite e a b, c, X, W, st, O, h => by
    unfold chkS at h
    split at h
    · simp only [Bool.and_eq_true] at h
      exact ss_ite ((snd_E e true c X W _ O.toCok h.1.1).pt rfl) (snd_Ss a c X W _ O h.1.2) (snd_Ss b c X W _ O h.2)
    · cases h
  | .whl e b, c, X, W, st, O, h => by
    unfold chkS at h
    split at h
    · rename_i ex b' o pos
      simp only [Bool.and_eq_true, List.isEmpty_iff] at h
      obtain ⟨⟨rfl, h1⟩, h2⟩ := h
      exact ss_whl O.own ((snd_E e true c X W _ O.toCok h1).pt rfl) (snd_Ss b c X W _ O h2)
    · cases h
  | .fr t it b, c, X, W, st, O, h => by
    unfold chkS at h
    split at h
    · rename_i tg ex b' o pos
      simp only [Bool.and_eq_true, List.isEmpty_iff] at h
      obtain ⟨⟨⟨⟨rfl, h1⟩, h2⟩, h3⟩, h4⟩ := h
      exact ss_fr O.own O.calm (snd_I it c X W _ _ O.toCok h3) (chkTg_ok O.toCok h2) (snd_Ss b c X W _ O h4) (fold1 h1)
    · cases h
  | .ret e, c, X, W, st, O, h => by
    unfold chkS at h
    split at h
    · exact ss_ret (snd_E e false c X W _ O.toCok h).pe
    · cases h
  | .retN, c, X, W, st, O, h => by
    unfold chkS at h
    split at h
    · exact ss_retN
    · cases h
  | .raise0 _, c, X, W, st, O, h => by simp only [chkS] at h; cases h
  | .raise1 k e, c, X, W, st, O, h => by
    unfold chkS at h
    split at h
    · simp only [Bool.and_eq_true, decide_eq_true_eq] at h
      obtain ⟨⟨⟨⟨⟨h1, h0⟩, h2⟩, h3⟩, h4⟩, h5⟩ := h
      obtain ⟨Cc, bmB, B, newId, initId, F, q, gC, kC, sb, ty, hx, _⟩ := (O.cls k _ h1 h0).ex
      exact ss_raise O.calm O.tk (SkE.pmk_own1 F q gC kC (raises_own sb ty) (O.gl h2) (s_frz (snd_E e false c X W _ O.toCok h5).pe) (star1 h4) (nm_ok h3).1) hx
    · cases h
  | .raiseF k e, c, X, W, st, O, h => by
    unfold chkS at h
    split at h
    · simp only [Bool.and_eq_true, decide_eq_true_eq] at h
      obtain ⟨⟨⟨⟨⟨h1, h0⟩, h2⟩, h3⟩, h4⟩, h5⟩ := h
      obtain ⟨f, hf⟩ := Option.isSome_iff_exists.mp h0
      have hf' : c.flds[k]? = some (some f) := by
        cases q : c.flds[k]? with
        | none => rw [q] at hf; cases hf
        | some o => rw [q] at hf; exact congrArg some hf
      obtain ⟨Cc, fI, T, gC, hx, _, _⟩ := (O.clf k _ f h1 hf').ex
      obtain ⟨j, hr⟩ := O.rm
      exact ss_raiseF O.calm O.tk T gC hr (O.gl h2) (nm_ok h3).1 (snd_E e false c X W _ O.toCok h5).pe (star1 h4) hx
    · cases h
  | .tr b hs, c, X, W, st, O, h => by
    unfold chkS at h
    split at h
    · rename_i b' hds pos
      simp only [Bool.and_eq_true] at h
      obtain ⟨⟨h0, h1⟩, h2⟩ := h
      obtain ⟨ks, q1, q2⟩ := hs_ok O hs hds h1
      cases hds with
      | nil => cases h0
      | cons h₀ hds => exact s_tryM O.stk O.frm O.tk (fun W' pn xe tk po => snd_Ss b c _ W' _ (O.tr tk po) h2) q1 q2
    · cases h
  | .pass, c, X, W, st, O, h => by
    unfold chkS at h
    split at h
    · exact ss_pass
    · cases h
  | .brk, c, X, W, st, O, h => by
    unfold chkS at h
    split at h
    · exact ss_brk
    · cases h
  | .cnt, c, X, W, st, O, h => by
    unfold chkS at h
    split at h
    · exact ss_cnt
    · cases h
theorem snd_Ss : ∀ (ss : Ss) (c : SC) (X : Cx) (W : WX) (sts : List Stmt), Sok C XC c X W → chkSs c ss sts = true → PSs X sts (TRS X.K XC W (exSs C ss))
  | .nil, c, X, W, sts, O, h => by
    match sts, h with
    | [], _ => exact ss_nil
    | _ :: _, h => cases h
  | .cons s ss, c, X, W, sts, O, h => by
    match sts, h with
    | [], h => cases h
    | st :: sts, h =>
      simp only [chkSs, Bool.and_eq_true] at h
      exact ss_seq (snd_S s c X W st O h.1) (snd_Ss ss c X W sts O h.2)
end
end
end PK
end

section
set_option Elab.async false
set_option linter.all false
set_option maxRecDepth 100000
set_option maxHeartbeats 4000000
/-! PkDef: a program's defs keep what the evaluator says; the law's own end. -/
namespace PK
open PySem PySem.Spec PyProof.Rows L2
open PySem (PyData)

structure DI where
  name : Str
  N : List Str
  ps : List Str
  st : Stmt
structure Cfg where
  dis : List DI
  globs : List Str
  clss : List Str
  nob : List Str
  flds : List (Option Str)
def Cfg.sc (g : Cfg) (d : DI) : SC := ⟨d.N, defScope d.st, none, g.dis.map (·.name), g.globs, g.clss, g.nob, g.flds⟩
def chkD (g : Cfg) (d : DI) (f : Def) : Bool :=
  C8.scC d.N d.ps (defScope d.st) && decide (d.ps.length = f.np) && decide (d.N.length = f.ns) && chkSs (g.sc d) f.body (defBody d.st)
def chkAll (g : Cfg) : List DI → List Def → Bool
  | [], [] => true
  | d :: ds, f :: fs => chkD g d f && chkAll g ds fs
  | _, _ => false
theorem chkAll_at {g : Cfg} : ∀ {ds : List DI} {fs : List Def} {i : Nat} {d : DI}, chkAll g ds fs = true → ds[i]? = some d → ∃ f, fs[i]? = some f ∧ chkD g d f = true
  | [], _, i, d, _, e => by simp at e
  | _ :: _, [], _, _, h, _ => by cases h
  | d0 :: ds, f0 :: fs, 0, d, h, e => by
    simp only [chkAll, Bool.and_eq_true] at h
    simp at e; subst e
    exact ⟨f0, rfl, h.1⟩
  | d0 :: ds, f0 :: fs, i + 1, d, h, e => by
    simp only [chkAll, Bool.and_eq_true] at h
    obtain ⟨f, h1, h2⟩ := chkAll_at h.2 (i := i) (by simpa using e)
    exact ⟨f, by simpa using h1, h2⟩

section
variable {K : PySem.W.Frag} {XC : XR} {W : WX} {Z Z' Z0 Z1 Z2 : Addr → Prop} {g g' g0 g1 g2 : PK.Env} {σ σ' σ0 σ1 σ2 : St} {H H' H0 H1 H2 : Hp}
theorem Reps.at'' {vs : List V} {ds : List PyData} (r : Reps K Z H vs ds) {i : Nat} {d : PyData} {v : V} (e : ds[i]? = some d) (e2 : vs[i]? = some v) : Rep K Z H v d := by
  obtain ⟨u, h1, h2⟩ := r.at' e
  rw [e2] at h1; cases h1
  exact h2
theorem start_at {N : List Str} {vs : List V} {i : Nat} {v : V} (e : vs[i]? = some v) : (L2.start N vs)[i]? = some (some v) := by
  have hi : i < vs.length := (List.getElem?_eq_some_iff.mp e).1
  unfold L2.start
  rw [List.getElem?_append_left (by simpa using hi), List.getElem?_map, e]
  rfl
theorem start_own {N : List Str} {ss : List Slot} {vs : List V} {m i : Nat} {a : Addr} (hl : ss.length = vs.length) (o : Own (ss ++ List.replicate m Slot.un) (L2.start N vs) i a) : ∃ k d, ss[i]? = some (.mu k d) ∧ vs[i]? = some (.ref a) := by
  obtain ⟨⟨k, d, e⟩, e2⟩ := o
  by_cases hi : i < ss.length
  · rw [List.getElem?_append_left hi] at e
    refine ⟨k, d, e, ?_⟩
    have hv : i < vs.length := by omega
    rw [start_at (List.getElem?_eq_getElem hv)] at e2
    rw [List.getElem?_eq_getElem hv]
    exact Option.some.inj e2
  · rw [List.getElem?_append_right (by omega), List.getElem?_replicate] at e
    split at e <;> cases e
theorem start_rel {N : List Str} {ss : List Slot} {vs : List V} {m : Nat} (hl : ss.length = vs.length) (hm : N.length = vs.length + m) (hs : ∀ (i : Nat) (s : Slot) (v : V), ss[i]? = some s → vs[i]? = some v → SlotR K Z H (some v) s)
    (hd : ∀ (i j : Nat) (a : Addr) k d k' d', ss[i]? = some (.mu k d) → ss[j]? = some (.mu k' d') → i = j) (zk : ZOk Z H) : Rel K Z (ss ++ List.replicate m Slot.un) (L2.start N vs) H where
  len := by unfold L2.start; simp; omega
  sl := fun i s e => by
    by_cases hi : i < ss.length
    · rw [List.getElem?_append_left hi] at e
      have hv : i < vs.length := by omega
      rw [start_at (List.getElem?_eq_getElem hv)]
      exact hs i s _ e (List.getElem?_eq_getElem hv)
    · rw [List.getElem?_append_right (by omega), List.getElem?_replicate] at e
      split at e <;> cases e
      trivial
  ds := fun i j a o o' => by
    obtain ⟨k, d, e, _⟩ := start_own hl o
    obtain ⟨k', d', e', _⟩ := start_own hl o'
    exact hd i j a k d k' d' e e'
  ex := zk
theorem post_of {io : Addr → Prop} (X : Ext g0 σ0 Z H g' σ' Z' H') (R : Rel K Z' g' σ' H') (hO : ∀ b, O g0 σ0 b → io b) (hz : ∀ b, io b → ¬ Z' b) : Post Z H Z' H' io where
  pres := fun a o e n => X.pres a o e fun q => n (hO a q)
  up := X.up
  zn := fun a z => by
    rcases X.zn a z with q | q | q
    · exact .inl q
    · exact .inr q
    · exact (hz a (hO a q) z).elim
  th := X.th
  ex := R.ex
theorem callAt_succ {Pg : Prog} {n f : Nat} {as : List PyData} {d : Def} (e : Pg.defs[f]? = some d) (hl : as.length = d.np) : callAt Pg (n + 1) f as = (exSs (Pg.calls n) d.body (startE d as)).cr d := by
  simp only [callAt, e]
  rw [if_pos hl]
  rfl
theorem callAt_len {Pg : Prog} {n f : Nat} {as : List PyData} {d : Def} (e : Pg.defs[f]? = some d) (hb : callAt Pg (n + 1) f as ≠ .bad) : as.length = d.np := by
  by_cases hl : as.length = d.np
  · exact hl
  · simp only [callAt, e] at hb
    rw [if_neg hl] at hb
    exact (hb rfl).elim
end

section
variable {P : Program} {w : World} {K : PySem.W.Frag} {mg : Str → Option Value} {base : Heap} {XC : XR}
theorem def_ok (g : Cfg) (Pg : Prog) (n f : Nat) (d : DI) (df : Def) (fa : Addr) (fd : FuncData) (hdf : Pg.defs[f]? = some df) (hc : chkD g d df = true) (hF : Fun K d.name d.name d.st fa fd)
    (F : ∀ (f : Nat) (x : Str), (g.dis.map (·.name))[f]? = some x → ∃ fa fd ps, FnG P w K mg base (L2.CX P w) n fa fd ps (spF K XC (Pg.calls n) f) ∧ mg x = some (.ref fa) ∧ PySem.W.keepIn K (.ref fa) = true ∧ Binds K fd ps [])
    (G : ∀ (k : Nat) (x : Str), g.globs[k]? = some x → ∃ v u, mg x = some u ∧ RelV v u ∧ ∀ d, Pg.glob k = some d → ∀ Z H, Rep K Z H v d) (B : ∀ x ∈ g.nob, mg x = none) (Cl : ∀ (k : Nat) (x : Str), g.clss[k]? = some x → g.flds[k]? = some none → ClsOk K mg XC g.clss k x) (Clf : ∀ (k : Nat) (x f : Str), g.clss[k]? = some x → g.flds[k]? = some (some f) → ClsF P K mg XC k x f) :
    FnG P w K mg base (L2.CX P w) (n + 1) fa fd d.ps (spF K XC (Pg.calls (n + 1)) f) := by
  obtain ⟨oc, od, kV, doc, pm, an, cdv, ct, osl, rfl, lk, hcd⟩ := hF.ex
  unfold chkD at hc
  simp only [Bool.and_eq_true, decide_eq_true_eq] at hc
  obtain ⟨⟨⟨hS, hp⟩, hN⟩, hB⟩ := hc
  have S := C8.fnScope_by hS
  have hio : (Pg.calls (n + 1)).io f = df.io := by show ioOf Pg f = df.io; unfold ioOf; rw [hdf]
  have hnp : df.np ≤ df.ns := by
    have := congrArg List.length S.pre
    rw [List.length_take] at this
    omega
  refine fnG_of lk hcd S (fun vs H Q E h => ?_) (fun A outer s H vs Q E hr hgd hsp => ?_)
  · rcases h with ⟨_, Z, a, ws, d1, ds, fr, r, d', rfl, _, _, _, rs, ec, _⟩ | ⟨_, Z, ds, _, rs, h⟩
    · have := callAt_len hdf (show callAt Pg (n + 1) f (d1 :: ds) ≠ .bad by rw [show callAt Pg (n + 1) f (d1 :: ds) = _ from ec]; exact fun z => nomatch z)
      have l := rs.len
      simp only [List.length_cons] at this ⊢
      omega
    · have : callAt Pg (n + 1) f ds ≠ .bad := by
        rcases h with ⟨fr, r, o, ec, _⟩ | ⟨c, d1, ec, _⟩
        · rw [show callAt Pg (n + 1) f ds = _ from ec]; exact fun z => nomatch z
        · rw [show callAt Pg (n + 1) f ds = _ from ec]; exact fun z => nomatch z
      have := callAt_len hdf this
      have l := rs.len
      omega
  · refine ⟨TRS K XC (fun cls d _ H => E cls d H) (exSs (Pg.calls n) df.body), snd_Ss df.body (g.sc d) _ _ _ ?_ hB, ?_⟩
    · exact { N := rfl, nd := S.nd, sc := rfl, kd := S.kind, fn := fun _ _ => rfl, calm := rfl, un := (by have := hr.un; show (A.deeper (envOfC d.name (defScope d.st) s.heap.objs.size fa cdv)).units + 100 < _; omega), gd := hgd, tk := takes_of rfl rfl rfl rfl,
              F := fun f x e => by obtain ⟨fa, fd, ps, h1, h2, h3, h4⟩ := F f x e; exact ⟨n, fa, fd, ps, h1, hr, h2, h3, h4⟩
              G := G, B := B, own := passes_of rfl, stk := rfl, frm := rfl, rm := ⟨n, hr⟩, cls := Cl, clf := Clf }
    · rcases hsp with ⟨hi, Z, a, ws, d1, ds, fr, r, d', rfl, zk, nz, ct, rs, ec, hq⟩ | ⟨hi, Z, ds, zk, rs, h⟩
      · rw [hio] at hi
        have hb : callAt Pg (n + 1) f (d1 :: ds) ≠ .bad := by rw [show callAt Pg (n + 1) f (d1 :: ds) = _ from ec]; exact fun z => nomatch z
        have hl := callAt_len hdf hb
        have ec : callAt Pg (n + 1) f (d1 :: ds) = .ok fr r (some d') := ec
        rw [callAt_succ hdf hl] at ec
        have es : startE df (d1 :: ds) = (Slot.mu .io d1 :: ds.map Slot.va) ++ List.replicate (df.ns - df.np) Slot.un := by unfold startE; rw [hi]
        have lrs := rs.len
        have hlen : (Slot.mu .io d1 :: ds.map Slot.va).length = (V.ref a :: ws).length := by simp; omega
        have R : Rel K Z (startE df (d1 :: ds)) (L2.start d.N (.ref a :: ws)) H := by
          rw [es]
          refine start_rel hlen (by simp only [List.length_cons] at hl ⊢; omega) (fun i s v e1 e2 => ?_) (fun i j b k x k' x' e1 e2 => ?_) zk
          · cases i with
            | zero => simp at e1 e2; subst e1; subst e2; exact ⟨a, rfl, nz, ct⟩
            | succ i =>
              simp only [List.getElem?_cons_succ, List.getElem?_map] at e1 e2
              cases hd : ds[i]? with
              | none => rw [hd] at e1; cases e1
              | some x => rw [hd] at e1; cases e1; exact ⟨v, rfl, rs.at'' hd e2⟩
          · have z : ∀ (i : Nat) k x, (Slot.mu .io d1 :: ds.map Slot.va)[i]? = some (Slot.mu k x) → i = 0 := fun i k x e => by
              cases i with
              | zero => rfl
              | succ i =>
                simp only [List.getElem?_cons_succ, List.getElem?_map] at e
                cases hd : ds[i]? <;> rw [hd] at e <;> cases e
            rw [z i k x e1, z j k' x' e2]
        have oa : ∀ b, O (startE df (d1 :: ds)) (L2.start d.N (.ref a :: ws)) b → b = a := fun b ⟨i, o⟩ => by
          rw [es] at o
          obtain ⟨k, x, e1, e2⟩ := start_own hlen o
          cases i with
          | zero => simp at e2; exact e2.symm
          | succ i =>
            simp only [List.getElem?_cons_succ, List.getElem?_map] at e1
            cases hd : ds[i]? <;> rw [hd] at e1 <;> cases e1
        have s0 : (startE df (d1 :: ds))[0]? = some (.mu .io d1) := by rw [es]; rfl
        have v0 : (L2.start d.N (.ref a :: ws))[0]? = some (some (.ref a)) := start_at rfl
        refine ⟨Z, startE df (d1 :: ds), R, ?_⟩
        have fin : ∀ {fr0 : Bool} {r0 : PyData} {g' : PK.Env} {σ' : St} {Z' : Addr → Prop} {H' : Hp} {v : V}, endD df fr0 r0 g' = .ok fr r (some d') → Ext (startE df (d1 :: ds)) (L2.start d.N (.ref a :: ws)) Z H g' σ' Z' H' → Rel K Z' g' σ' H' →
            RtR K Z' H' (startE df (d1 :: ds)) (L2.start d.N (.ref a :: ws)) H v fr0 r0 → Q v H' := fun {fr0 r0 g' σ' Z' H' v} ee x R' rt => by
          unfold endD at ee
          rw [hi, if_pos rfl] at ee
          split at ee
          · rename_i y hy
            cases ee
            obtain ⟨_, x0⟩ := x.io 0 d1 s0
            obtain ⟨b, e1, nz', ct', _⟩ := R'.mu hy
            rw [x0, v0] at e1
            cases e1
            refine hq v Z' H' (post_of x R' oa fun b hb => hb ▸ nz') nz' ct' ⟨fun e => ?_, rt.1⟩
            obtain ⟨c, rfl, h2, h3, h4, h5⟩ := rt.2 e
            refine ⟨c, rfl, ?_, h2, h3⟩
            rcases h4 with h4 | h4
            · exact h4
            · have := oa c h4
              subst this
              exact (h5 0 .io d1 (.inl rfl) s0 v0).elim
          · cases ee
        cases er : exSs (Pg.calls n) df.body (startE df (d1 :: ds)) with
        | nx g' => rw [er] at ec; exact fun σ' Z' H' x R' => fin ec x R' ⟨fun _ => .non, (fun e => nomatch e)⟩
        | rt fr0 r0 g' => rw [er] at ec; exact fun v σ' Z' H' x R' rt => fin ec x R' rt
        | exc c x g' => rw [er] at ec; simp only [Out.cr, hi, if_true] at ec; cases ec
        | bk g' => rw [er] at ec; cases ec
        | ct g' => rw [er] at ec; cases ec
        | bad => rw [er] at ec; cases ec
      · rw [hio] at hi
        have hb : callAt Pg (n + 1) f ds ≠ .bad := by
          rcases h with ⟨fr, r, o, ec, _⟩ | ⟨c, d1, ec, _⟩
          · rw [show callAt Pg (n + 1) f ds = _ from ec]; exact fun z => nomatch z
          · rw [show callAt Pg (n + 1) f ds = _ from ec]; exact fun z => nomatch z
        have hl := callAt_len hdf hb
        have lrs := rs.len
        have es : startE df ds = ds.map Slot.va ++ List.replicate (df.ns - df.np) Slot.un := by unfold startE; rw [hi]
        have hlen : (ds.map Slot.va).length = vs.length := by simp; omega
        have nomu : ∀ (i : Nat) k x, (ds.map Slot.va)[i]? ≠ some (Slot.mu k x) := fun i k x e => by
          rw [List.getElem?_map] at e
          cases hd : ds[i]? <;> rw [hd] at e <;> cases e
        have R : Rel K Z (startE df ds) (L2.start d.N vs) H := by
          rw [es]
          refine start_rel hlen (by omega) (fun i s v e1 e2 => ?_) (fun i j b k x k' x' e1 e2 => (nomu i k x e1).elim) zk
          rw [List.getElem?_map] at e1
          cases hd : ds[i]? with
          | none => rw [hd] at e1; cases e1
          | some x => rw [hd] at e1; cases e1; exact ⟨v, rfl, rs.at'' hd e2⟩
        have oa : ∀ b, O (startE df ds) (L2.start d.N vs) b → False := fun b ⟨i, o⟩ => by
          rw [es] at o
          obtain ⟨k, x, e1, e2⟩ := start_own hlen o
          exact nomu i k x e1
        refine ⟨Z, startE df ds, R, ?_⟩
        have post : ∀ {g' : PK.Env} {σ' : St} {Z' : Addr → Prop} {H' : Hp}, Ext (startE df ds) (L2.start d.N vs) Z H g' σ' Z' H' → Rel K Z' g' σ' H' → Post Z H Z' H' fun _ => False := fun x R' => post_of x R' oa fun b hb => hb.elim
        rcases h with ⟨fr, r, o, ec, hq⟩ | ⟨c, d1, ec, hq⟩
        · have ec : callAt Pg (n + 1) f ds = .ok fr r o := ec
          rw [callAt_succ hdf hl] at ec
          have fin : ∀ {fr0 : Bool} {r0 : PyData} {g' : PK.Env} {σ' : St} {Z' : Addr → Prop} {H' : Hp} {v : V}, endD df fr0 r0 g' = .ok fr r o → Ext (startE df ds) (L2.start d.N vs) Z H g' σ' Z' H' → Rel K Z' g' σ' H' →
              RtR K Z' H' (startE df ds) (L2.start d.N vs) H v fr0 r0 → Q v H' := fun {fr0 r0 g' σ' Z' H' v} ee x R' rt => by
            unfold endD at ee
            rw [hi, if_neg Bool.false_ne_true] at ee
            cases ee
            refine hq v Z' H' (post x R') ⟨fun e => ?_, rt.1⟩
            obtain ⟨c, rfl, h2, h3, h4, h5⟩ := rt.2 e
            exact ⟨c, rfl, h4.resolve_right (oa c), h2, h3⟩
          cases er : exSs (Pg.calls n) df.body (startE df ds) with
          | nx g' => rw [er] at ec; exact fun σ' Z' H' x R' => fin ec x R' ⟨fun _ => .non, (fun e => nomatch e)⟩
          | rt fr0 r0 g' => rw [er] at ec; exact fun v σ' Z' H' x R' rt => fin ec x R' rt
          | exc c x g' => rw [er] at ec; simp only [Out.cr, hi] at ec; cases ec
          | bk g' => rw [er] at ec; cases ec
          | ct g' => rw [er] at ec; cases ec
          | bad => rw [er] at ec; cases ec
        · have ec : callAt Pg (n + 1) f ds = .exc c d1 := ec
          rw [callAt_succ hdf hl] at ec
          cases er : exSs (Pg.calls n) df.body (startE df ds) with
          | nx g' => rw [er] at ec; simp only [Out.cr, endD, hi] at ec; cases ec
          | rt fr0 r0 g' => rw [er] at ec; simp only [Out.cr, endD, hi] at ec; cases ec
          | exc c2 x2 g' =>
            rw [er] at ec
            simp only [Out.cr, hi] at ec
            cases ec
            exact fun cls oa' σ' Z' H' x R' xc => hq cls oa' Z' H' (post x R') xc
          | bk g' => rw [er] at ec; cases ec
          | ct g' => rw [er] at ec; cases ec
          | bad => rw [er] at ec; cases ec
/-- all defs, at each depth -/
theorem prog_ok (g : Cfg) (Pg : Prog) (hc : chkAll g g.dis Pg.defs = true) (D : ∀ (f : Nat) (d : DI), g.dis[f]? = some d → ∃ fa fd, mg d.name = some (.ref fa) ∧ Fun K d.name d.name d.st fa fd ∧ Binds K fd d.ps [])
    (G : ∀ (k : Nat) (x : Str), g.globs[k]? = some x → ∃ v u, mg x = some u ∧ RelV v u ∧ ∀ d, Pg.glob k = some d → ∀ Z H, Rep K Z H v d) (B : ∀ x ∈ g.nob, mg x = none) (Cl : ∀ (k : Nat) (x : Str), g.clss[k]? = some x → g.flds[k]? = some none → ClsOk K mg XC g.clss k x) (Clf : ∀ (k : Nat) (x f : Str), g.clss[k]? = some x → g.flds[k]? = some (some f) → ClsF P K mg XC k x f) :
    ∀ (n f : Nat) (d : DI) (fa : Addr) (fd : FuncData), g.dis[f]? = some d → Fun K d.name d.name d.st fa fd → FnG P w K mg base (L2.CX P w) n fa fd d.ps (spF K XC (Pg.calls n) f)
  | 0, f, d, fa, fd, e, hF => by
    have no : ∀ vs H Q E, ¬ spF K XC (Pg.calls 0) f vs H Q E := fun vs H Q E h => by
      rcases h with ⟨_, Z, a, ws, d1, ds, fr, r, d', _, _, _, _, _, ec, _⟩ | ⟨_, Z, ds, _, _, ⟨fr, r, o, ec, _⟩ | ⟨c, d1, ec, _⟩⟩
      · cases ec
      · cases ec
      · cases ec
    exact ⟨fun vs H Q E h => (no vs H Q E h).elim, fun A outer s H args us vs Q E _ _ _ _ _ h => (no vs H Q E h).elim⟩
  | n + 1, f, d, fa, fd, e, hF => by
    obtain ⟨df, h1, h2⟩ := chkAll_at hc e
    refine def_ok g Pg n f d df fa fd h1 h2 hF (fun f' x e' => ?_) G B Cl Clf
    rw [List.getElem?_map] at e'
    cases hd : g.dis[f']? with
    | none => rw [hd] at e'; cases e'
    | some d' =>
      rw [hd] at e'
      cases e'
      obtain ⟨fa', fd', m1, m2, m3⟩ := D f' d' hd
      exact ⟨fa', fd', d'.ps, prog_ok g Pg hc D G B Cl Clf n f' d' fa' fd' hd m2, m1, m2.kp, m3⟩
end
end PK
end

section
set_option Elab.async false
set_option linter.all false
set_option maxRecDepth 100000
set_option maxHeartbeats 4000000
/-! PkEnd: what stands behind a law's top, gathered. -/
namespace PK
open PySem PySem.Spec PyProof.Rows L2
open PySem (PyData)

/-- a def as the top has written it -/
structure DH (K : PySem.W.Frag) (d : DI) : Prop where
  ex : ∃ (fa : Addr) (fd : FuncData), PySem.W.nsIn K mainGlobals d.name = some (some (.ref fa)) ∧ Fun K d.name d.name d.st fa fd ∧ Binds K fd d.ps []
theorem dh_mk {K : PySem.W.Frag} {d : DI} {f : Addr} {oc : Value} {od an : Option Addr} {osl : Array (Option Value)} {kV doc pm cdv ct : Value} (b : ∀ {fa fd}, Fun K d.name d.name d.st fa fd → Binds K fd d.ps [])
    (a : PySem.W.nsIn K mainGlobals d.name = some (some (.ref f))) (l : K.lookup f = some ⟨oc, od, .func (PySem.W.fnOf d.name d.name (defArgs d.st) (defBody d.st) (defScope d.st) .none kV doc pm an cdv ct), osl⟩)
    (c : PySem.W.codeIn K cdv d.name = true) (k : PySem.W.keepIn K (.ref f) = true) : DH K d := ⟨f, _, a, fun_mk l c k, b (fun_mk l c k)⟩
theorem dh_at {K : PySem.W.Frag} {x : Str} {N ps : List Str} {st : Stmt} {f : Addr} {oc : Value} {od an : Option Addr} {osl : Array (Option Value)} {kV doc pm cdv ct : Value} (b : ∀ {fa fd}, Fun K x x st fa fd → Binds K fd ps [])
    (a : PySem.W.nsIn K mainGlobals x = some (some (.ref f))) (l : K.lookup f = some ⟨oc, od, .func (PySem.W.fnOf x x (defArgs st) (defBody st) (defScope st) .none kV doc pm an cdv ct), osl⟩)
    (c : PySem.W.codeIn K cdv x = true) (k : PySem.W.keepIn K (.ref f) = true) : DH K ⟨x, N, ps, st⟩ := dh_mk b a l c k
/-- said of the written part -/
theorem kOf {K : PySem.W.Frag} {h : Heap} (X : K.In h) {P : PySem.W.Frag → Prop} (q : P K) : P K := q
inductive AllD (K : PySem.W.Frag) : List DI → Prop
  | nil : AllD K []
  | cons {d : DI} {ds : List DI} : DH K d → AllD K ds → AllD K (d :: ds)
theorem AllD.at {K : PySem.W.Frag} : ∀ {ds : List DI} {i : Nat} {d : DI}, AllD K ds → ds[i]? = some d → DH K d
  | _, _, _, .nil, e => by simp at e
  | _, 0, _, .cons h _, e => by simp at e; subst e; exact h
  | _, i + 1, _, .cons _ h, e => AllD.at (i := i) h (by simpa using e)
/-- a constant of the module -/
structure GH (K : PySem.W.Frag) (x : Str) (d : PyData) : Prop where
  ex : ∃ (v : V) (u : Value), PySem.W.nsIn K mainGlobals x = some (some u) ∧ RelV v u ∧ ∀ Z H, Rep K Z H v d
theorem gh_int {K : PySem.W.Frag} {x : Str} {i : Int} {t : Tok} (h : PySem.W.nsIn K mainGlobals x = some (some (.int i t))) : GH K x (.int i) := ⟨.int i, _, h, ⟨t, rfl⟩, fun _ _ => .int i⟩
theorem gh_str {K : PySem.W.Frag} {x z : Str} {t : Tok} (h : PySem.W.nsIn K mainGlobals x = some (some (.str z t))) : GH K x (.str z) := ⟨.str z, _, h, ⟨t, rfl⟩, fun _ _ => .str z⟩
inductive AllG (K : PySem.W.Frag) : List (Str × PyData) → Prop
  | nil : AllG K []
  | cons {x : Str} {d : PyData} {ds : List (Str × PyData)} : GH K x d → AllG K ds → AllG K ((x, d) :: ds)
theorem AllG.at {K : PySem.W.Frag} : ∀ {ds : List (Str × PyData)} {i : Nat} {x : Str} {d : PyData}, AllG K ds → ds[i]? = some (x, d) → GH K x d
  | _, _, _, _, .nil, e => by simp at e
  | _, 0, _, _, .cons h _, e => by simp at e; obtain ⟨rfl, rfl⟩ := e; exact h
  | _, i + 1, _, _, .cons _ h, e => AllG.at (i := i) h (by simpa using e)
/-- names that the module does not bind -/
inductive AllN (K : PySem.W.Frag) : List Str → Prop
  | nil : AllN K []
  | cons {x : Str} {xs : List Str} : PySem.W.nsIn K mainGlobals x = some none → AllN K xs → AllN K (x :: xs)
theorem AllN.at {K : PySem.W.Frag} {x : Str} : ∀ {xs : List Str}, AllN K xs → x ∈ xs → PySem.W.nsIn K mainGlobals x = some none
  | _, .nil, e => nomatch e
  | _, .cons h t, e => (List.mem_cons.mp e).elim (fun z => z ▸ h) (AllN.at t)
/-- classes of errors: without own __init__, or with a field -/
def XCl (Cs : List Addr) (fl : List (Option Str)) : XR := fun c d cls oa H => ∃ C, Cs[c]? = some C ∧ cls = .ref C ∧ match fl[c]? with
  | some (some f) => ∃ dd v, oa = some dd ∧ H dd = some (.xd [(f, v)]) ∧ simV d = some v
  | _ => oa = none
/-- one with a field -/
structure CF (P : Program) (K : PySem.W.Frag) (x f : Str) (Cc : Addr) : Prop where
  n : PySem.W.nsIn K mainGlobals x = some (some (.ref Cc))
  t : ∃ fI, ErT P K f Cc fI
structure CH (K : PySem.W.Frag) (x : Str) (Cc : Addr) : Prop where
  n : PySem.W.nsIn K mainGlobals x = some (some (.ref Cc))
  e : PySem.W.excIn K Cc [.type "ValueError", .type "Exception", .type "BaseException", .type "object"] "ValueError.__new__" = true
  k : PySem.W.keepIn K (.ref Cc) = true
  s : PySem.W.subIn K (.ref Cc) (.type "BaseException") = some true
  t : PySem.W.typeIn K (.ref Cc) = some (.type "type")
  d : PySem.W.hasDictIn K Cc = true
theorem cf_at {P : Program} {K : PySem.W.Frag} {x f nm q qual file : Str} {Cc fI N cda cc : Addr} {bs bm : List Value} {sn : List Str} {sub : List Value} {ab : Bool} {col : Option Bool} {dd od cdd cld an : Option Addr} {k0 k1 k2 k3 k5 : Option Value}
    {oc ccl cl doc pm ct : Value} {osl ccs csl : Array (Option Value)} {vs : Array Value} {tf : Tok} {p1 p2 q1 q2 q3 q4 q5 q6 q7 q8 q9 q10 : Pos}
    (n : PySem.W.nsIn K mainGlobals x = some (some (.ref Cc))) (l : K.lookup Cc = some (excClassObj nm q Cc N bs bm true sn sub ab col dd k0 k1 k2 k3 k5 "ValueError.__new__")) (i : PySem.W.findIn K (.ref Cc) "__init__" = some (some (.ref fI)))
    (fa : K.lookup fI = some ⟨oc, od, .func (PySem.W.ksFn "__init__" qual (erA f p1 p2) (erB f q1 q2 q3 q4 q5 q6 q7 q8 q9 q10) (erS f) .none .none doc pm an (.ref cda) ct cc), osl⟩) (fb : PySem.W.codeIn K (.ref cda) qual = true)
    (fc : K.lookup cda = some ⟨ccl, cdd, .fields vs, ccs⟩) (fd : vs[2]? = some (.str file tf)) (fe : ((P.main.file : Str) == file) = true) (ff : K.lookup cc = some ⟨cl, cld, .cell (some (.ref Cc)), csl⟩) (fg : (q3.endLine == q5.line) = true) (r : HandSPX.refsVE bm = true)
    (nx : f ≠ "self" ∧ (f == ("__debug__" : Str)) = false ∧ f ≠ "__class__" ∧ f ≠ "super" ∧ f ≠ "__classdict__")
    (bd : ∀ (qual : Str) (body : List Stmt) (p1 p2 : Pos) (doc pm : Value) (an : Option Addr) (cd ct : Value) (cc : Addr) (s : Shared) (e v : Value), BindsTo s (PySem.W.ksFn "__init__" qual (erA f p1 p2) body (erS f) .none .none doc pm an cd ct cc) ⟨[e, v], []⟩ [("self", e), (f, v)])
    (top : (P.main.scope.names.lookup ("super" : Str)).isSome = false) (sa : PySem.W.findIn K (.ref Cc) "__setattr__" = some (some (.builtin "object.__setattr__"))) (ga : PySem.W.findIn K (.ref Cc) "__getattribute__" = some (some (.builtin "BaseException.__getattribute__")))
    (gg : PySem.W.findIn K (.ref Cc) "__getattr__" = some none) (noN : PySem.W.findIn K (.ref Cc) f = some none) (tC : PySem.W.typeIn K (.ref fI) = some (.type "function")) (kC : PySem.W.keepIn K (.ref Cc) = true) (exC : PySem.W.subIn K (.ref Cc) (.type "BaseException") = some true)
    (veC : PySem.W.subIn K (.ref Cc) (.type "ValueError") = some true) (tyC : PySem.W.typeIn K (.ref Cc) = some (.type "type")) (hdC : PySem.W.hasDictIn K Cc = true) (selfC : PySem.W.mroIn K Cc (.ref Cc) = some true)
    (sup : PySem.W.ks_superIn K Cc Cc "__init__" = some (some (.builtin "ValueError.__init__"))) (nosup : PySem.W.nsIn K mainGlobals "super" = some none) (noany : PySem.W.nsIn K cStatics "thirdparty.any" = some none) : CF P K x f Cc :=
  ⟨n, fI, { nx := nx, cls := ⟨_, _, _, _, _, _, _, _, _, _, _, _, _, _, _, l, r⟩, iC := i, fn := ⟨_, _, _, _, _, _, _, _, _, _, _, _, _, _, _, _, _, _, _, _, _, _, _, _, _, _, _, _, _, _, _, fa, fb, fc, fd, fe, ff, fg⟩, bd := bd, top := top, sa := sa, ga := ga, gg := gg, noN := noN, tC := tC, kC := kC, exC := exC, veC := veC, tyC := tyC, hdC := hdC, selfC := selfC, sup := sup, nosup := nosup, noany := noany }⟩
inductive AllC (P : Program) (K : PySem.W.Frag) : List Str → List (Option Str) → List Addr → Prop
  | nil : AllC P K [] [] []
  | cons {x : Str} {xs : List Str} {fs : List (Option Str)} {A : Addr} {As : List Addr} : CH K x A → AllC P K xs fs As → AllC P K (x :: xs) (none :: fs) (A :: As)
  | fld {x f : Str} {xs : List Str} {fs : List (Option Str)} {A : Addr} {As : List Addr} : CF P K x f A → AllC P K xs fs As → AllC P K (x :: xs) (some f :: fs) (A :: As)
theorem AllC.at {P : Program} {K : PySem.W.Frag} : ∀ {xs : List Str} {fs : List (Option Str)} {As : List Addr} {k : Nat} {x : Str}, AllC P K xs fs As → xs[k]? = some x → ∃ Cc o, As[k]? = some Cc ∧ fs[k]? = some o ∧ (o = none → CH K x Cc) ∧ ∀ f, o = some f → CF P K x f Cc
  | _, _, _, _, _, .nil, e => by simp at e
  | _, _, _, 0, _, .cons h _, e => by simp at e; subst e; exact ⟨_, _, rfl, rfl, fun _ => h, fun _ z => nomatch z⟩
  | _, _, _, 0, _, .fld h _, e => by simp at e; subst e; exact ⟨_, _, rfl, rfl, (fun z => nomatch z), fun _ z => by cases z; exact h⟩
  | _, _, _, k + 1, _, .cons _ t, e => by
    obtain ⟨C, o, h1, h2, h3⟩ := AllC.at (k := k) t (by simpa using e)
    exact ⟨C, o, by simpa using h1, by simpa using h2, h3⟩
  | _, _, _, k + 1, _, .fld _ t, e => by
    obtain ⟨C, o, h1, h2, h3⟩ := AllC.at (k := k) t (by simpa using e)
    exact ⟨C, o, by simpa using h1, by simpa using h2, h3⟩
def globOf (gs : List (Str × PyData)) (k : Nat) : Option PyData := (gs[k]?).map (·.2)
theorem cx_no {P : Program} {w : World} {l : List PySem.Env} {H : Hp} {s s' : Shared} {e : Value} (h : L2.CX P w l H s (fun _ _ _ => False) e s') : False := let ⟨_, _, _, _, _, _, _, _, _, _, _, _, z⟩ := h; z
/-- pairs of classes: an error of the one is of the other just if they are the same -/
def Apart (K : PySem.W.Frag) (Cs : List Addr) : Prop := ∀ (i j : Nat) (A B : Addr), Cs[i]? = some A → Cs[j]? = some B → PySem.W.subIn K (.ref A) (.ref B) = some (decide (i = j))
theorem apart0 {K : PySem.W.Frag} : Apart K [] := fun i j A B e => by simp at e
theorem apart1 {K : PySem.W.Frag} {A : Addr} (h : PySem.W.subIn K (.ref A) (.ref A) = some true) : Apart K [A] := fun i j B C e1 e2 => by
  match i, j, e1, e2 with
  | 0, 0, e1, e2 => simp at e1 e2; subst e1; subst e2; exact h
  | 0, j + 1, e1, e2 => simp at e2
  | i + 1, j, e1, e2 => simp at e1
theorem apart2 {K : PySem.W.Frag} {A B : Addr} (h1 : PySem.W.subIn K (.ref A) (.ref A) = some true) (h2 : PySem.W.subIn K (.ref A) (.ref B) = some false) (h3 : PySem.W.subIn K (.ref B) (.ref A) = some false) (h4 : PySem.W.subIn K (.ref B) (.ref B) = some true) : Apart K [A, B] := fun i j C D e1 e2 => by
  match i, j, e1, e2 with
  | 0, 0, e1, e2 => simp at e1 e2; subst e1; subst e2; exact h1
  | 0, 1, e1, e2 => simp at e1 e2; subst e1; subst e2; exact h2
  | 1, 0, e1, e2 => simp at e1 e2; subst e1; subst e2; exact h3
  | 1, 1, e1, e2 => simp at e1 e2; subst e1; subst e2; exact h4
  | 0, j + 2, e1, e2 => simp at e2
  | 1, j + 2, e1, e2 => simp at e2
  | i + 2, j, e1, e2 => simp at e1
section
variable {P : Program} {K : PySem.W.Frag} {h : Heap} {mg : Str → Option Value} {Cs : List Addr} {clss : List Str} {fl : List (Option Str)}
theorem exm_at (hc : AllC P K clss fl Cs) (ap : Apart K Cs) {k : Nat} {Cc : Addr} (e : Cs[k]? = some Cc) (sB : PySem.W.subIn K (.ref Cc) (.type "BaseException") = some true) (dC : PySem.W.hasDictIn K Cc = true) (tC : PySem.W.typeIn K (.ref Cc) = some (.type "type")) :
    ∀ c1 d cls oa H, XCl Cs fl c1 d cls oa H → PySem.W.exmOne K cls (.ref Cc) = some (decide (c1 = k)) := fun c1 d cls oa H ⟨C1, e2, e3, _⟩ => by
  subst e3
  exact PySem.W.exm_ref sB dC tC (ap c1 k C1 Cc e2 e)
theorem cls_ok (X : K.In h) (G : h.Ns mainGlobals mg) (hc : AllC P K clss fl Cs) (ap : Apart K Cs) (k : Nat) (x : Str) (e : clss[k]? = some x) (ef : fl[k]? = some none) : ClsOk K mg (XCl Cs fl) clss k x := by
  obtain ⟨Cc, o, e1, e2, h1, _⟩ := hc.at e
  rw [ef] at e2
  cases e2
  have c := h1 rfl
  exact ⟨Cc, _, _, _, _, PySem.F.excBase_ValueError, c.e, PySem.W.mg_of X G c.n, c.k, c.s, c.t, fun d H => ⟨Cc, e1, rfl, by rw [ef]⟩, exm_at hc ap e1 c.s c.d c.t⟩
theorem clf_ok (X : K.In h) (G : h.Ns mainGlobals mg) (hc : AllC P K clss fl Cs) (ap : Apart K Cs) (k : Nat) (x f : Str) (e : clss[k]? = some x) (ef : fl[k]? = some (some f)) : ClsF P K mg (XCl Cs fl) k x f := by
  obtain ⟨Cc, o, e1, e2, _, h2⟩ := hc.at e
  rw [ef] at e2
  cases e2
  have c := h2 f rfl
  obtain ⟨fI, T⟩ := c.t
  refine ⟨Cc, fI, T, PySem.W.mg_of X G c.n, fun d v H dd q1 q2 => ⟨Cc, e1, rfl, by rw [ef]; exact ⟨dd, v, rfl, q1, q2⟩⟩, fun d cls oa H ⟨C1, q1, q2, q3⟩ => ?_, exm_at hc ap e1 T.exC T.hdC T.tyC⟩
  rw [e1] at q1
  cases q1
  rw [ef] at q3
  exact ⟨q2, q3⟩
end
/-- what a def that raises nothing keeps -/
def spOk (K : PySem.W.Frag) (Pg : Prog) (n f : Nat) : Sp := fun vs H Q _ => ∃ Z ds, ZOk Z H ∧ Reps K Z H vs ds ∧ ∃ fr r o, callAt Pg n f ds = .ok fr r o ∧ ∀ v Z' H', Post Z H Z' H' (fun _ => False) → ResF K Z' H H' v fr r → Q v H'
theorem spOk_F {K : PySem.W.Frag} {XC : XR} {Pg : Prog} {n f : Nat} (hio : ioOf Pg f = false) : ∀ vs H Q E, spOk K Pg n f vs H Q E → spF K XC (Pg.calls n) f vs H Q E := fun vs H Q E ⟨Z, ds, h1, h2, h3⟩ => .inr ⟨hio, Z, ds, h1, h2, .inl h3⟩
theorem law_endO {K : PySem.W.Frag} {Pg : Prog} {k f : Nat} {H : Hp} {a : Addr} {ns : List Int} {E : XK} (hS : SqL K H a (ns.map V.int)) (h : callAt Pg k f [.list (ns.map PyData.int)] = .ok false (.bool true) none) :
    spOk K Pg k f [.ref a] H (fun v _ => v = .bl true) E := by
  have ri : ∀ (Z : Addr → Prop) (H : Hp) (l : List Int), Reps K Z H (l.map V.int) (l.map PyData.int) := fun Z H l => by
    induction l with
    | nil => exact .nil
    | cons i l ih => exact .cons (.int i) ih
  have go : ∀ (Z : Addr → Prop), ZOk Z H → Rep K Z H (.ref a) (.list (ns.map PyData.int)) → spOk K Pg k f [.ref a] H (fun v _ => v = .bl true) E := fun Z zk r =>
    ⟨Z, [.list (ns.map PyData.int)], zk, .cons r .nil, false, .bool true, none, h, fun v Z' H' _ rf => by
      have := rf.2 rfl
      cases this
      rfl⟩
  rcases hS with hS | hS
  · refine go (fun b => b = a) (fun b hb => ?_) (.lst (.inl hS) rfl (ri _ _ ns))
    subst hb
    rcases hS with e | ⟨o, e⟩ <;> rw [e] <;> exact fun z => nomatch z
  · exact go (fun _ => False) (fun b hb => hb.elim) (.cst (.inr hS) (ri _ _ ns))
/-- the law's promise from what the top has written -/
theorem law_mk {l : PySem.W.OpenLaw} {w : World} {K : PySem.W.Frag} {h : Heap} {mg : Str → Option Value} {fa : Addr} (X : K.In h) (Gm : h.Ns mainGlobals mg) (hfa : mg "law" = some (.ref fa)) (g : Cfg) (Pg : Prog) (n f : Nat) (d : DI) (gs : List (Str × PyData)) (Cs : List Addr)
    (hd : g.dis[f]? = some d) (hn : d.name = "law") (hps : d.ps = ([("script" : Str)] : List Str)) (hio : ioOf Pg f = false) (hc : chkAll g g.dis Pg.defs = true) (D : AllD K g.dis) (hg : g.globs = gs.map (·.1)) (hgl : Pg.glob = globOf gs) (Gs : AllG K gs) (Nb : AllN K g.nob)
    (hcl : AllC l.prog K g.clss g.flds Cs) (ap : Apart K Cs)
    (hb : ∀ (fd : FuncData) (fa : Addr), Fun K d.name d.name d.st fa fd → ∀ (s : Shared) (v : Value), BindsTo s fd ⟨[v], []⟩ [("script", v)]) :
    ∃ fd : FuncData, (∀ (s : Shared) (v : Value), BindsTo s fd ⟨[v], []⟩ [("script", v)]) ∧ ∀ base : Heap, K.In base → base.Ns mainGlobals mg → FnG l.prog w K mg base (L2.CX l.prog w) n fa fd [("script" : Str)] (spOk K Pg n f) := by
  obtain ⟨fa', fd, h1, h2, h3⟩ := (D.at hd).ex
  have e := PySem.W.mg_of X Gm h1
  rw [hn, hfa] at e
  cases e
  refine ⟨fd, hb fd fa h2, fun base _ _ => ?_⟩
  rw [← hps]
  refine FnG.imp ?_ (spOk_F (XC := XCl Cs g.flds) hio)
  refine prog_ok g Pg hc (fun f d e => ?_) (fun k x e => ?_) (fun x hx => PySem.W.mg_none_of X Gm (Nb.at hx)) (cls_ok X Gm hcl ap) (clf_ok X Gm hcl ap) n f d fa fd hd h2
  · obtain ⟨fa, fd, h1, h2, h3⟩ := (D.at e).ex
    exact ⟨fa, fd, PySem.W.mg_of X Gm h1, h2, h3⟩
  · rw [hg, List.getElem?_map] at e
    cases hgs : gs[k]? with
    | none => rw [hgs] at e; cases e
    | some p =>
      rw [hgs] at e
      cases e
      obtain ⟨v, u, q1, q2, q3⟩ := (Gs.at (x := p.1) (d := p.2) hgs).ex
      refine ⟨v, u, PySem.W.mg_of X Gm q1, q2, fun d hd => ?_⟩
      have := hd
      rw [hgl] at this
      unfold globOf at this
      rw [hgs] at this
      cases this
      exact q3
end PK
end

section
set_option Elab.async false
set_option linter.all false
set_option maxRecDepth 100000
set_option maxHeartbeats 4000000
/-! PkPure: the evaluator upon symbols: facts for the pure laws. -/
namespace PK
open PySem (PyData Str)

theorem shap_int (i : Int) : shap (.int i) = true := rfl
theorem shap_bool (i : Bool) : shap (.bool i) = true := rfl
theorem shap_str (i : Str) : shap (.str i) = true := rfl
theorem shap_none : shap .none = true := rfl
theorem lt_int (i j : Int) : PySem.W.dataLt (.int i) (.int j) = decide (i < j) := by
  show (decide (i < j) || (!decide (j < i) && false)) = decide (i < j)
  simp
theorem eqv_int (i j : Int) : PyData.eqv (.int i) (.int j) = decide (i = j) := by
  show (i == j) = _
  by_cases h : i = j <;> simp [h]
theorem eqv_str (i j : Str) : PyData.eqv (.str i) (.str j) = decide (i = j) := by
  show (i == j) = _
  by_cases h : i = j <;> simp [h]
@[simp] theorem cop_eq_int (i j : Int) : cop .eq (.int i) (.int j) = some (decide (i = j)) := by simp only [cop, shap_int, eqv_int]; rfl
@[simp] theorem cop_ne_int (i j : Int) : cop .ne (.int i) (.int j) = some (!decide (i = j)) := by simp only [cop, shap_int, eqv_int]; rfl
@[simp] theorem cop_eq_str (i j : Str) : cop .eq (.str i) (.str j) = some (decide (i = j)) := by simp only [cop, shap_str, eqv_str]; rfl
@[simp] theorem cop_ne_str (i j : Str) : cop .ne (.str i) (.str j) = some (!decide (i = j)) := by simp only [cop, shap_str, eqv_str]; rfl
@[simp] theorem cop_lt_int (i j : Int) : cop .lt (.int i) (.int j) = some (decide (i < j)) := by simp only [cop, shap_int, lt_int]; rfl
@[simp] theorem cop_gt_int (i j : Int) : cop .gt (.int i) (.int j) = some (decide (j < i)) := by simp only [cop, shap_int, lt_int]; rfl
@[simp] theorem cop_le_int (i j : Int) : cop .le (.int i) (.int j) = some (decide (i ≤ j)) := by
  simp only [cop, shap_int, lt_int]
  show some (!decide (j < i)) = _
  by_cases h : i ≤ j
  · have : ¬ j < i := by omega
    simp [h, this]
  · have : j < i := by omega
    simp [h, this]
@[simp] theorem cop_ge_int (i j : Int) : cop .ge (.int i) (.int j) = some (decide (j ≤ i)) := by
  simp only [cop, shap_int, lt_int]
  show some (!decide (i < j)) = _
  by_cases h : j ≤ i
  · have : ¬ i < j := by omega
    simp [h, this]
  · have : i < j := by omega
    simp [h, this]


/-! ### the evaluator, clause by clause (comprehensions and loops stay folded) -/
section
variable (C : Calls) (g : Env)
@[simp] theorem ev_lit (d : PyData) : evE C (.lit d) g = .ok (.val d, g) := rfl
@[simp] theorem ev_glb (k : Nat) : evE C (.glb k) g = (Res.of (C.glob k)).bind fun d => .ok (.val d, g) := rfl
@[simp] theorem ev_var (i : Nat) : evE C (.var i) g = varF i g := rfl
@[simp] theorem ev_bop (o : Bop) (a b : E) : evE C (.bop o a b) g = (evE C a g).bind fun p => (evE C b p.2).bind fun q => (Res.of ((p.1.get q.2).bind fun x => (q.1.get q.2).bind fun y => bop o x y)).bind fun r => .ok (mk r, q.2) := rfl
@[simp] theorem ev_neg (a : E) : evE C (.neg a) g = (evE C a g).bind fun p => match p.1.get p.2 with
    | some (.int i) => .ok (.val (.int (-i)), p.2)
    | _ => .bad := rfl
@[simp] theorem ev_nt (a : E) : evE C (.nt a) g = (tstF (evE C a) g).bind fun p => .ok (.val (.bool (!p.1)), p.2) := rfl
@[simp] theorem ev_and (es : Es) : evE C (.and es) g = evAnd C es g := rfl
@[simp] theorem ev_or (es : Es) : evE C (.or es) g = evOr C es g := rfl
@[simp] theorem ev_cmp (o : Cop) (a b : E) : evE C (.cmp o a b) g = (evE C a g).bind fun p => (evE C b p.2).bind fun q => (Res.of ((p.1.get q.2).bind fun x => (q.1.get q.2).bind fun y => cop o x y)).bind fun r => .ok (.val (.bool r), q.2) := rfl
@[simp] theorem ev_cmp2 (o o2 : Cop) (a b c : E) : evE C (.cmp2 o o2 a b c) g = chainF o o2 (evE C a) (evE C b) (evE C c) g := rfl
@[simp] theorem ev_ife (c a b : E) : evE C (.ife c a b) g = (tstF (evE C c) g).bind fun p => if p.1 then evE C a p.2 else evE C b p.2 := rfl
@[simp] theorem ev_call (f : Nat) (es : Es) : evE C (.call f es) g = (evEs C es g).bind fun p => callE C f p.1 p.2 := rfl
@[simp] theorem ev_cio (f i : Nat) (es : Es) : evE C (.cio f i es) g = cioF C f i (evFs C es) g := rfl
@[simp] theorem ev_bi (b : Bi) (es : Es) : evE C (.bi b es) g = (evEs C es g).bind fun p => (Res.of ((gets p.2 p.1).bind (bi b))).bind fun r => .ok (mk r, p.2) := rfl
@[simp] theorem ev_isa (a : E) (t : Ty) : evE C (.isa a t) g = (evE C a g).bind fun p => (Res.of (p.1.get p.2)).bind fun d => .ok (.val (.bool (t.has d)), p.2) := rfl
@[simp] theorem ev_lrg (es : Es) : evE C (.lrg es) g = (evEs C es g).bind fun p => (Res.of ((gets p.2 p.1).bind rng)).bind fun r => if r.2 ≤ line then .ok (.nw (.list (rangeL r.1 r.2)), p.2) else .bad := rfl
@[simp] theorem ev_rep (a k : E) : evE C (.rep a k) g = repF (evE C a) (evE C k) g := rfl
@[simp] theorem ev_idx (a i : E) : evE C (.idx a i) g = (evE C a g).bind fun p => (evE C i p.2).bind fun q => (Res.of ((p.1.get q.2).bind fun x => (q.1.get q.2).bind fun y => ix x y)).bind fun r => .ok (.val r, q.2) := rfl
@[simp] theorem ev_slc (a : E) (lo hi : Oe) : evE C (.slc a lo hi) g = (evE C a g).bind fun p => (evO C lo p.2).bind fun q => (evO C hi q.2).bind fun r => (Res.of ((p.1.get r.2).bind fun x => slc x q.1 r.1)).bind fun s => .ok (mk s, r.2) := rfl
@[simp] theorem ev_rev (a : E) : evE C (.rev a) g = (evE C a g).bind fun p => (Res.of ((p.1.get p.2).bind rev)).bind fun s => .ok (mk s, p.2) := rfl
@[simp] theorem ev_tup (es : Es) : evE C (.tup es) g = (evFs C es g).bind fun p => .ok (.val (.tuple p.1), p.2) := rfl
@[simp] theorem ev_lst (es : Es) : evE C (.lst es) g = (evFs C es g).bind fun p => .ok (.nw (.list p.1), p.2) := rfl
@[simp] theorem ev_comp2 (e : E) (t : Tg) (it : It) (c : Oe) (t1 : Tg) (it1 : It) (c1 : Oe) (own own1 : List Nat) : evE C (.comp2 e t it c t1 it1 c1 own own1) g = comp2F own own1 t t1 (evI C it) (evI1 C it1) (evT C c) (evT C c1) (evE C e) g := rfl
@[simp] theorem ev_dcomp (k v : E) (t : Tg) (it : It) (c : Oe) (own : List Nat) : evE C (.dcomp k v t it c own) g = dcompF own t (evI C it) (evT C c) (evE C k) (evE C v) g := rfl
@[simp] theorem ev_dnew : evE C .dnew g = .ok (.nw (.dict []), g) := rfl
@[simp] theorem ev_din (neg : Bool) (a : E) (i : Nat) : evE C (.din neg a i) g = dinF neg i (evE C a) g := rfl
@[simp] theorem ev_dgt (i : Nat) (a : E) : evE C (.dgt i a) g = dgtF i (evE C a) g := rfl
@[simp] theorem ev_dso (i : Nat) : evE C (.dso i) g = dsoF i g := rfl
@[simp] theorem ev_sset (a : E) : evE C (.sset a) g = ssetF (evE C a) g := rfl
@[simp] theorem i1_of_ (a : E) : evI1 C (.of a) g = of1F (evE C a) g := rfl
@[simp] theorem i1_rng_ (es : Es) : evI1 C (.rng es) g = rng1F (evEs C es) g := rfl
@[simp] theorem ex_setD (i : Nat) (k e : E) : exS C (.setD i k e) g = setDF i (evE C k) (evE C e) g := rfl
@[simp] theorem ex_ext (i : Nat) (e : E) : exS C (.ext i e) g = extF i (evE C e) g := rfl
@[simp] theorem ev_comp (e : E) (t : Tg) (it : It) (c : Oe) (own : List Nat) : evE C (.comp e t it c own) g = compF own t (evI C it) (evT C c) (evE C e) g := rfl
@[simp] theorem es_nil : evEs C .nil g = .ok ([], g) := rfl
@[simp] theorem es_cons (a : E) (es : Es) : evEs C (.cons a es) g = (evE C a g).bind fun p => (evEs C es p.2).bind fun q => .ok (p.1 :: q.1, q.2) := rfl
@[simp] theorem fs_nil : evFs C .nil g = .ok ([], g) := rfl
@[simp] theorem fs_cons (a : E) (es : Es) : evFs C (.cons a es) g = (fzF (evE C a) g).bind fun p => (evFs C es p.2).bind fun q => .ok (p.1 :: q.1, q.2) := rfl
@[simp] theorem and_one (a : E) : evAnd C (.cons a .nil) g = evE C a g := rfl
@[simp] theorem and_cons (a b : E) (es : Es) : evAnd C (.cons a (.cons b es)) g = (evE C a g).bind fun p => (Res.of ((p.1.get p.2).bind tru)).bind fun k => if k then evAnd C (.cons b es) p.2 else .ok p := rfl
@[simp] theorem or_one (a : E) : evOr C (.cons a .nil) g = evE C a g := rfl
@[simp] theorem or_cons (a b : E) (es : Es) : evOr C (.cons a (.cons b es)) g = (evE C a g).bind fun p => (Res.of ((p.1.get p.2).bind tru)).bind fun k => if k then .ok p else evOr C (.cons b es) p.2 := rfl
@[simp] theorem o_non : evO C .none g = .ok (none, g) := rfl
@[simp] theorem o_som (a : E) : evO C (.some a) g = (evE C a g).bind fun p => (Res.of ((p.1.get p.2).bind anInt)).bind fun d => .ok (some d, p.2) := rfl
@[simp] theorem t_non : evT C .none g = .ok (true, g) := rfl
@[simp] theorem t_som (a : E) : evT C (.some a) g = tstF (evE C a) g := rfl
@[simp] theorem i_of_ (a : E) : evI C (.of a) g = ofF (evE C a) g := rfl
@[simp] theorem i_rng_ (es : Es) : evI C (.rng es) g = rngF (evEs C es) g := rfl
@[simp] theorem i_enum_ (a : E) : evI C (.enum a) g = enumF (evE C a) g := rfl
@[simp] theorem ex_asg (i : Nat) (own : Bool) (e : E) : exS C (.asg i own e) g = asgF i own (evE C e) g := rfl
@[simp] theorem ex_par (is : List (Nat × Bool)) (es : Es) : exS C (.par is es) g = parF is (evPs C is es) g := rfl
@[simp] theorem ex_setI (i : Nat) (k e : E) : exS C (.setI i k e) g = setIF i (evE C k) (evE C e) g := rfl
@[simp] theorem ex_aug (o : Bop) (i : Nat) (e : E) : exS C (.aug o i e) g = augF o i (evE C e) g := rfl
@[simp] theorem ex_app (i : Nat) (e : E) : exS C (.app i e) g = appF i (evE C e) g := rfl
@[simp] theorem ex_ex (e : E) : exS C (.ex e) g = (evE C e g).out fun p => .nx p.2 := rfl
@[simp] theorem ex_ite (c : E) (a b : Ss) : exS C (.ite c a b) g = iteF (tstF (evE C c)) (exSs C a) (exSs C b) g := rfl
@[simp] theorem ex_whl (c : E) (b : Ss) : exS C (.whl c b) g = whlL (tstF (evE C c)) (exSs C b) C.fuel g := rfl
@[simp] theorem ex_fr (t : Tg) (it : It) (b : Ss) : exS C (.fr t it b) g = frF t (evI C it) (exSs C b) g := rfl
@[simp] theorem ex_ret (e : E) : exS C (.ret e) g = (evE C e g).out fun p => retO p.1 p.2 := rfl
@[simp] theorem ex_retN : exS C .retN g = .rt false .none g := rfl
@[simp] theorem ex_raise1 (k : Nat) (e : E) : exS C (.raise1 k e) g = (fzF (evE C e) g).out fun q => .exc k q.1 q.2 := rfl
@[simp] theorem ex_raiseF (k : Nat) (e : E) : exS C (.raiseF k e) g = (fzF (evE C e) g).out fun q => if simD q.1 then .exc k q.1 q.2 else .bad := rfl
@[simp] theorem ex_nil : exSs C .nil g = .nx g := rfl
@[simp] theorem ex_cons (s : S) (ss : Ss) : exSs C (.cons s ss) g = (exS C s g).seq (exSs C ss) := rfl
@[simp] theorem ps_nil (C : Calls) (g : Env) : evPs C [] .nil g = .ok ([], g) := rfl
@[simp] theorem ps_own (i : Nat) (is : List (Nat × Bool)) (a : E) (es : Es) : evPs C ((i, true) :: is) (.cons a es) g = ownP (evE C a) (evPs C is es) g := rfl
@[simp] theorem ps_va (i : Nat) (is : List (Nat × Bool)) (a : E) (es : Es) : evPs C ((i, false) :: is) (.cons a es) g = vaP (evE C a) (evPs C is es) g := rfl
end
@[simp] theorem mk_f (d : PyData) : mk (false, d) = .val d := rfl
@[simp] theorem mk_t (d : PyData) : mk (true, d) = .nw d := rfl
@[simp] theorem get_val (g : Env) (d : PyData) : EV.get g (.val d) = some d := rfl
@[simp] theorem get_nw (g : Env) (d : PyData) : EV.get g (.nw d) = ndc d := rfl
@[simp] theorem ndc_list (ds : List PyData) : ndc (.list ds) = some (.list ds) := rfl
@[simp] theorem ndc_dict (ds : List (PyData × PyData)) : ndc (.dict ds) = none := rfl
@[simp] theorem get_loc (g : Env) (i : Nat) : EV.get g (.loc i) = (g[i]?).bind Slot.get := rfl
@[simp] theorem fz_val (g : Env) (d : PyData) : EV.fz g (.val d) = some (d, g) := rfl
@[simp] theorem fz_nw (g : Env) (d : PyData) : EV.fz g (.nw d) = (ndc d).map fun d => (d, g) := rfl
@[simp] theorem sget_va (d : PyData) : Slot.get (.va d) = some d := rfl
@[simp] theorem sget_mu (k : Mk) (d : PyData) : Slot.get (.mu k d) = ndc d := rfl
@[simp] theorem gets_nil (g : Env) : gets g [] = some [] := rfl
@[simp] theorem gets_cons (g : Env) (x : EV) (xs : List EV) : gets g (x :: xs) = (x.get g).bind fun d => (gets g xs).map (d :: ·) := rfl
@[simp] theorem tru_bool (b : Bool) : tru (.bool b) = some b := rfl
@[simp] theorem tru_int (i : Int) : tru (.int i) = some (i != 0) := rfl
@[simp] theorem bop_add_int (i j : Int) : bop .add (.int i) (.int j) = some (false, .int (i + j)) := rfl
@[simp] theorem bop_sub_int (i j : Int) : bop .sub (.int i) (.int j) = some (false, .int (i - j)) := rfl
@[simp] theorem int_int (i : Int) : bi .int [.int i] = some (false, .int i) := rfl
@[simp] theorem int_bool (b : Bool) : bi .int [.bool b] = some (false, .int (if b then 1 else 0)) := rfl
@[simp] theorem len_tup (ds : List PyData) : bi .len [.tuple ds] = some (false, .int ds.length) := rfl
@[simp] theorem len_lst (ds : List PyData) : bi .len [.list ds] = some (false, .int ds.length) := rfl
@[simp] theorem tup_lst (ds : List PyData) : bi .tuple [.list ds] = some (false, .tuple ds) := rfl
@[simp] theorem lst_tup (ds : List PyData) : bi .list [.tuple ds] = some (true, .list ds) := rfl
theorem out_map {α : Type} (r : Res α) (f : α → Out) : r.out f = match r with
  | .ok a => f a
  | .exc c d g => .exc c d g
  | .bad => .bad := rfl

/-! ### the parts, opened -/
section
variable (C : Calls) (g : Env) (fa fb fc fe fk : Env → Res (EV × Env)) (fp : Env → Res (List PyData × Env)) (ft : Env → Res (Bool × Env)) (f1 f2 : Env → Out)
@[simp] theorem u_varF (i : Nat) : varF i g = match g[i]? with
  | some (.va d) => .ok (.val d, g)
  | some (.mu _ _) => .ok (.loc i, g)
  | _ => .bad := rfl
@[simp] theorem u_chainF (o o2 : Cop) : chainF o o2 fa fb fc g = (fa g).bind fun p => (fb p.2).bind fun q => (Res.of ((p.1.get q.2).bind fun x => (q.1.get q.2).bind fun y => cop o x y)).bind fun r =>
        if r then (fc q.2).bind fun s => (Res.of ((q.1.get s.2).bind fun x => (s.1.get s.2).bind fun y => cop o2 x y)).bind fun r2 => .ok (.val (.bool r2), s.2)
        else .ok (.val (.bool false), q.2) := rfl
@[simp] theorem u_cioF (f i : Nat) (ff : Env → Res (List PyData × Env)) : cioF C f i ff g = match g[i]? with
  | some (.mu _ _) => (ff g).bind fun p => callIO C f i p.1 p.2
  | _ => .bad := rfl
@[simp] theorem u_asgT (i : Nat) : asgF i true fe g = (fe g).out fun p => match p.1 with
      | .nw d => (Res.of (p.2.put i (.mu .ow d))).out .nx
      | _ => .bad := rfl
@[simp] theorem u_asgF (i : Nat) : asgF i false fe g = (fe g).out fun p => (Res.of (p.1.fz p.2)).out fun q => (Res.of (q.2.put i (.va q.1))).out .nx := rfl
@[simp] theorem u_setIF (i : Nat) : setIF i fk fe g = match g[i]? with
      | some (.mu _ _) => (fzF fe g).out fun q => (fk q.2).out fun r => (Res.of (r.1.get r.2)).out fun kd => (Res.of (r.2.chg i (setIx kd q.1))).out .nx
      | _ => .bad := rfl
@[simp] theorem u_augF (o : Bop) (i : Nat) : augF o i fe g = match g[i]? with
      | some (.va x) => (fe g).out fun p => (Res.of ((p.1.get p.2).bind fun y => augI o x y)).out fun r => (Res.of (p.2.put i (.va r))).out .nx
      | _ => .bad := rfl
@[simp] theorem u_appF (i : Nat) : appF i fe g = match g[i]? with
      | some (.mu _ (.list _)) => (fzF fe g).out fun q => (Res.of (q.2.chg i (appD q.1))).out .nx
      | _ => .bad := rfl
@[simp] theorem u_iteF : iteF ft f1 f2 g = (ft g).out fun p => if p.1 then f1 p.2 else f2 p.2 := rfl
@[simp] theorem u_parF (is : List (Nat × Bool)) : parF is fp g = (fp g).out fun p => (Res.of (parAll p.2 is p.1)).out .nx := rfl
@[simp] theorem u_ownP : ownP fa fp g = (fa g).bind fun p => match p.1 with
    | .nw d => (fp p.2).bind fun q => .ok (d :: q.1, q.2)
    | _ => .bad := rfl
@[simp] theorem u_vaP : vaP fa fp g = (fzF fa g).bind fun p => (fp p.2).bind fun q => .ok (p.1 :: q.1, q.2) := rfl
@[simp] theorem u_tstF : tstF fa g = (fa g).bind fun p => (Res.of ((p.1.get p.2).bind tru)).bind fun k => .ok (k, p.2) := rfl
@[simp] theorem u_fzF : fzF fa g = (fa g).bind fun p => Res.of (p.1.fz p.2) := rfl
@[simp] theorem u_ofF : ofF fa g = (fa g).bind fun p => (Res.of (lock1 p.2 p.1)).bind fun q => .ok ⟨q.1, q.2.1, q.2.2⟩ := rfl
@[simp] theorem u_rngF (fes : Env → Res (List EV × Env)) : rngF fes g = (fes g).bind fun p => (Res.of ((gets p.2 p.1).bind rng)).bind fun r => .ok ⟨rangeL r.1 r.2, p.2, []⟩ := rfl
@[simp] theorem u_enumF : enumF fa g = (fa g).bind fun p => (Res.of (lock1 p.2 p.1)).bind fun q => .ok ⟨enumD q.1, q.2.1, q.2.2⟩ := rfl
@[simp] theorem u_callE (f : Nat) (xs : List EV) : callE C f xs g = match gets g xs with
  | none => .bad
  | some ds => if C.io f then .bad else match C.call f ds with
    | .bad => .bad
    | .exc c d => .exc c d g
    | .ok fr d _ => if inner fr d then .ok (mk (fr, d), g) else match frzAll g xs with
        | none => .bad
        | some g2 => .ok (mk (fr, d), g2) := rfl
@[simp] theorem u_retO (x : EV) : retO x g = match x with
  | .val d => .rt false d g
  | .nw d => .rt true d g
  | .loc i => match g[i]? with
    | some (.va d) => .rt false d g
    | some (.mu .ow d) => .rt true d g
    | _ => .bad := rfl
@[simp] theorem u_lockV (d : PyData) : lock1 g (.val d) = (items d).map fun xs => (xs, g, []) := rfl
@[simp] theorem u_lockN (d : PyData) : lock1 g (.nw d) = (items d).map fun xs => (xs, g, []) := rfl
@[simp] theorem u_itL (xs : List PyData) : items (.list xs) = some xs := rfl
@[simp] theorem u_itT (xs : List PyData) : items (.tuple xs) = some xs := rfl
end
/-! ### loops -/
theorem wipe_get (g : Env) (vs : List Nat) (i : Nat) (h : i ∉ vs) : (wipe g vs)[i]? = g[i]? := by rw [wipe_at]; simp [h]
theorem back_same {g g' : Env} {own : List Nat} (h : wipe g' own = wipe g own) : back g g' own = g := by
  have hl : g.length = g'.length := by rw [← wipe_len (g := g) own, ← wipe_len (g := g') own, h]
  apply List.ext_getElem?
  intro i
  rw [back_at hl]
  by_cases hi : i ∈ own
  · simp [hi]
  · simp only [hi, if_false]
    rw [← wipe_get g' own i hi, h, wipe_get g own i hi]
/-- a comprehension whose turns change nothing but the own slots -/
theorem compL_pure {own : List Nat} {turn : Env → PyData → Res (Option PyData × Env)} (r : PyData → Option PyData) (g0 : Env) : ∀ (xs acc : List PyData) (g : Env), wipe g own = wipe g0 own →
    (∀ x ∈ xs, ∃ g', turn (wipe g0 own) x = .ok (r x, g') ∧ wipe g' own = wipe g0 own) → acc.length + xs.length ≤ line → ∃ g', compL own turn xs acc g = .ok (acc ++ xs.filterMap r, g') ∧ wipe g' own = wipe g0 own
  | [], acc, g, hg, _, _ => ⟨g, by simp [compL], hg⟩
  | x :: xs, acc, g, hg, h, hl => by
    obtain ⟨g1, e1, w1⟩ := h x List.mem_cons_self
    simp only [List.length_cons] at hl
    cases hr : r x with
    | none =>
      obtain ⟨g2, e2, w2⟩ := compL_pure r g0 xs acc g1 w1 (fun y hy => h y (List.mem_cons_of_mem _ hy)) (by omega)
      refine ⟨g2, ?_, w2⟩
      simp only [compL, hg, e1, hr, Res.bind_ok, e2, List.filterMap_cons]
    | some y =>
      obtain ⟨g2, e2, w2⟩ := compL_pure r g0 xs (acc ++ [y]) g1 w1 (fun y hy => h y (List.mem_cons_of_mem _ hy)) (by simp; omega)
      refine ⟨g2, ?_, w2⟩
      have : acc.length < line := by omega
      simp only [compL, hg, e1, hr, Res.bind_ok, this, if_true, e2, List.filterMap_cons, List.append_assoc, List.singleton_append]
theorem compF_pure {own : List Nat} {t : Tg} {fi : Env → Res Walk} {fc : Env → Res (Bool × Env)} {fe : Env → Res (EV × Env)} (r : PyData → Option PyData) {g : Env} {xs : List PyData} (hi : fi g = .ok ⟨xs, g, []⟩)
    (h : ∀ x ∈ xs, ∃ g', turnF t fc fe (wipe g own) x = .ok (r x, g') ∧ wipe g' own = wipe g own) (hl : xs.length ≤ line) : compF own t fi fc fe g = .ok (.nw (.list (xs.filterMap r)), g) := by
  obtain ⟨g', e, w⟩ := compL_pure r g xs [] g rfl h (by simpa using hl)
  unfold compF
  rw [hi, Res.bind_ok]
  simp only [e, Res.quiet_ok, Res.bind_ok, List.nil_append, back_same w]
  rfl
theorem boolsD_map {α : Type} (f : α → Bool) : ∀ l : List α, boolsD (l.map fun x => .bool (f x)) = some (l.map f)
  | [] => rfl
  | x :: l => by simp [boolsD, boolsD_map f l]
theorem all_map {α : Type} (f : α → Bool) (l : List α) : bi .all [.list (l.map fun x => .bool (f x))] = some (false, .bool (l.all f)) := by
  simp only [bi, boolsD_map, Option.map_some]
  congr 2
  simp [List.all_map]
theorem filterMap_some {α β : Type} (f : α → β) : ∀ l : List α, l.filterMap (fun x => some (f x)) = l.map f
  | [] => rfl
  | x :: l => by simp [filterMap_some f l]
theorem putOk {g : Env} {i : Nat} {s s' : Slot} (h : g[i]? = some s') (hv : (∃ d, s' = .va d) ∨ s' = .un ∨ ∃ d, s' = .mu .ow d) : g.put i s = some (g.set i s) := by
  unfold Env.put
  rw [h]
  rcases hv with ⟨d, rfl⟩ | rfl | ⟨d, rfl⟩ <;> rfl

/-! ### slots -/
/-- a slot that may be stored -/
def Free : Slot → Prop
  | .mu .io _ => False
  | .mu .lk _ => False
  | _ => True
@[simp] theorem free_va (d : PyData) : Free (.va d) := trivial
@[simp] theorem free_un : Free .un := trivial
@[simp] theorem free_ow (d : PyData) : Free (.mu .ow d) := trivial
@[simp] theorem put0 (s' s : Slot) (g : Env) (h : Free s') : Env.put (s' :: g) 0 s = some (s :: g) := by
  cases s' with
  | mu k d => cases k <;> first | rfl | exact h.elim
  | _ => rfl
@[simp] theorem putS (a s : Slot) (g : Env) (i : Nat) : Env.put (a :: g) (i + 1) s = (Env.put g i s).map (a :: ·) := by
  unfold Env.put
  simp only [List.getElem?_cons_succ, List.set_cons_succ]
  split <;> simp_all
@[simp] theorem chg0 (d : PyData) (g : Env) (f : PyData → Option PyData) : Env.chg (.mu .ow d :: g) 0 f = (f d).map fun d' => .mu .ow d' :: g := rfl
@[simp] theorem chg0' (d : PyData) (g : Env) (f : PyData → Option PyData) : Env.chg (.mu .io d :: g) 0 f = (f d).map fun d' => .mu .io d' :: g := rfl
@[simp] theorem chgS (a : Slot) (g : Env) (i : Nat) (f : PyData → Option PyData) : Env.chg (a :: g) (i + 1) f = (Env.chg g i f).map (a :: ·) := by
  unfold Env.chg
  simp only [List.getElem?_cons_succ, List.set_cons_succ]
  cases hg : g[i]? with
  | none => rfl
  | some s =>
    cases s with
    | mu k d =>
      cases k with
      | ow => simp [Function.comp_def]
      | io => simp [Function.comp_def]
      | lk => rfl
    | _ => rfl
@[simp] theorem putAll_nil (g : Env) : putAll g [] [] = some g := rfl
@[simp] theorem putAll_cons (g : Env) (i : Nat) (is : List Nat) (d : PyData) (ds : List PyData) : putAll g (i :: is) (d :: ds) = (g.put i (.va d)).bind fun g' => putAll g' is ds := rfl
@[simp] theorem bind_one (g : Env) (i : Nat) (d : PyData) : bindT g (.one i) d = g.put i (.va d) := rfl
@[simp] theorem bind_many (g : Env) (is : List Nat) (ds : List PyData) : bindT g (.many is) (.tuple ds) = putAll g is ds := rfl
@[simp] theorem par_nil (g : Env) : parAll g [] [] = some g := rfl
@[simp] theorem par_cons (g : Env) (i : Nat) (b : Bool) (is : List (Nat × Bool)) (d : PyData) (ds : List PyData) : parAll g ((i, b) :: is) (d :: ds) = (g.put i (if b then .mu .ow d else .va d)).bind fun g' => parAll g' is ds := rfl
@[simp] theorem app_ok (v : PyData) (xs : List PyData) (h : xs.length < line) : appD v (.list xs) = some (.list (xs ++ [v])) := by simp [appD, h]
theorem fr_nl {t : Tg} {fi : Env → Res Walk} {fb : Env → Out} {g g1 : Env} {xs : List PyData} (hi : fi g = .ok ⟨xs, g1, []⟩) : frF t fi fb g = forL (fun g x => (Res.of (bindT g t x)).out fun g1 => fb g1) xs g1 := by
  unfold frF
  rw [hi, Res.out_ok]
  generalize forL _ xs g1 = r
  cases r <;> rfl
theorem forL_inv {turn : Env → PyData → Out} (P : Nat → Env → Prop) : ∀ (xs : List PyData) (k : Nat) (g : Env), (∀ i x g, xs[i]? = some x → P (k + i) g → ∃ g', turn g x = .nx g' ∧ P (k + i + 1) g') → P k g → ∃ g', forL turn xs g = .nx g' ∧ P (k + xs.length) g'
  | [], k, g, _, p => ⟨g, rfl, p⟩
  | x :: xs, k, g, h, p => by
    obtain ⟨g1, e1, p1⟩ := h 0 x g rfl p
    obtain ⟨g2, e2, p2⟩ := forL_inv P xs (k + 1) g1 (fun i y g hy q => by
      have := h (i + 1) y g (by simpa using hy) (by rw [show k + (i + 1) = k + 1 + i by omega]; exact q)
      rw [show k + (i + 1) + 1 = k + 1 + i + 1 by omega] at this
      exact this) p1
    refine ⟨g2, ?_, by rw [List.length_cons, show k + (xs.length + 1) = k + 1 + xs.length by omega]; exact p2⟩
    simp only [forL, e1, e2]
/-- the least of three -/
def m3 (i j k : Int) : Int := min (min i j) k
theorem min3 (i j k : Int) : bi .min [.int i, .int j, .int k] = some (false, .int (m3 i j k)) := by
  have : minL i [j, k] = m3 i j k := by
    simp only [minL, m3]
    split <;> split <;> omega
  simp only [bi, this]
theorem small {n : Nat} (h : n ≤ 1000) : n < line := by unfold line; omega
theorem rng1 {j : Nat} (h : j ≤ 1000) : rng [.int (j : Int)] = some (0, j) := by
  have h1 : isSmall (j : Int) = true := small_ok (by omega) (by omega)
  simp only [rng, if_pos h1, Int.toNat_natCast]
@[simp] theorem u_fzL (g : Env) (i : Nat) : EV.fz g (.loc i) = match g[i]? with
    | some (.va d) => some (d, g)
    | some (.mu .ow d) => (ndc d).map fun d => (d, g.set i (.va d))
    | _ => none := rfl
theorem le_line {n : Nat} (h : n ≤ 1000) : n ≤ line := Nat.le_of_lt (small h)
theorem rngF1 {C : Calls} {g g' : Env} {a : E} {x : EV} {k : Nat} (h : evE C a g = .ok (x, g')) (hx : x.get g' = some (.int (k : Int))) (hk : k ≤ 1000) : (evEs C (.cons a .nil) g).bind (fun p => Res.of ((gets p.2 p.1).bind rng)) = .ok (0, k) := by
  rw [es_cons, h]
  simp only [Res.bind_ok, es_nil, gets_cons, gets_nil, hx, Option.bind_some, Option.map_some, rng1 hk, Res.of_some]
theorem lrg1 {C : Calls} {g g' : Env} {a : E} {x : EV} {k : Nat} (h : evE C a g = .ok (x, g')) (hx : x.get g' = some (.int (k : Int))) (hk : k ≤ 1000) : evE C (.lrg (.cons a .nil)) g = .ok (.nw (.list (rangeL 0 k)), g') := by
  rw [ev_lrg, es_cons, h]
  simp only [Res.bind_ok, es_nil, gets_cons, gets_nil, hx, Option.bind_some, Option.map_some, rng1 hk, Res.of_some]
  exact if_pos (le_line hk)
@[simp] theorem frz_nil (g : Env) : frzAll g [] = some g := rfl
@[simp] theorem frz_cons (g : Env) (x : EV) (xs : List EV) : frzAll g (x :: xs) = (x.fz g).bind fun p => frzAll p.2 xs := rfl
/-- a comprehension whose turns each give something and keep a word about the slots -/
theorem compL_io {own : List Nat} {turn : Env → PyData → Res (Option PyData × Env)} (P : Env → Prop) (Q : PyData → Prop) : ∀ (xs acc : List PyData) (g : Env), P g →
    (∀ g x, P g → ∃ y g', turn (wipe g own) x = .ok (some y, g') ∧ Q y ∧ P g') → acc.length + xs.length ≤ line → ∃ ys g', compL own turn xs acc g = .ok (acc ++ ys, g') ∧ ys.length = xs.length ∧ (∀ y ∈ ys, Q y) ∧ P g'
  | [], acc, g, p, _, _ => ⟨[], g, by simp [compL], rfl, (fun y hy => nomatch hy), p⟩
  | x :: xs, acc, g, p, h, hl => by
    obtain ⟨y, g1, e1, q1, p1⟩ := h g x p
    simp only [List.length_cons] at hl
    obtain ⟨ys, g2, e2, l2, q2, p2⟩ := compL_io P Q xs (acc ++ [y]) g1 p1 h (by simp; omega)
    refine ⟨y :: ys, g2, ?_, by simp [l2], fun z hz => (List.mem_cons.mp hz).elim (fun e => e ▸ q1) (q2 z), p2⟩
    have : acc.length < line := by omega
    simp only [compL, e1, Res.bind_ok, this, if_true, e2, List.append_assoc, List.singleton_append]
@[simp] theorem abs_int (i : Int) : bi .abs [.int i] = some (false, .int (if i < 0 then -i else i)) := rfl
@[simp] theorem an_int (i : Int) : anInt (.int i) = some (.int i) := rfl
@[simp] theorem has_int_none : Ty.has .int .none = false := rfl
@[simp] theorem has_int_bool (b : Bool) : Ty.has .int (.bool b) = true := rfl
@[simp] theorem has_int_int (b : Int) : Ty.has .int (.int b) = true := rfl
@[simp] theorem has_int_str (b : Str) : Ty.has .int (.str b) = false := rfl
@[simp] theorem has_int_list (b : List PyData) : Ty.has .int (.list b) = false := rfl
@[simp] theorem has_int_tuple (b : List PyData) : Ty.has .int (.tuple b) = false := rfl
@[simp] theorem has_bool_none : Ty.has .bool .none = false := rfl
@[simp] theorem has_bool_bool (b : Bool) : Ty.has .bool (.bool b) = true := rfl
@[simp] theorem has_bool_int (b : Int) : Ty.has .bool (.int b) = false := rfl
@[simp] theorem has_bool_str (b : Str) : Ty.has .bool (.str b) = false := rfl
@[simp] theorem has_bool_list (b : List PyData) : Ty.has .bool (.list b) = false := rfl
@[simp] theorem has_bool_tuple (b : List PyData) : Ty.has .bool (.tuple b) = false := rfl
@[simp] theorem has_str_none : Ty.has .str .none = false := rfl
@[simp] theorem has_str_bool (b : Bool) : Ty.has .str (.bool b) = false := rfl
@[simp] theorem has_str_int (b : Int) : Ty.has .str (.int b) = false := rfl
@[simp] theorem has_str_str (b : Str) : Ty.has .str (.str b) = true := rfl
@[simp] theorem has_str_list (b : List PyData) : Ty.has .str (.list b) = false := rfl
@[simp] theorem has_str_tuple (b : List PyData) : Ty.has .str (.tuple b) = false := rfl
@[simp] theorem has_tuple_none : Ty.has .tuple .none = false := rfl
@[simp] theorem has_tuple_bool (b : Bool) : Ty.has .tuple (.bool b) = false := rfl
@[simp] theorem has_tuple_int (b : Int) : Ty.has .tuple (.int b) = false := rfl
@[simp] theorem has_tuple_str (b : Str) : Ty.has .tuple (.str b) = false := rfl
@[simp] theorem has_tuple_list (b : List PyData) : Ty.has .tuple (.list b) = false := rfl
@[simp] theorem has_tuple_tuple (b : List PyData) : Ty.has .tuple (.tuple b) = true := rfl
@[simp] theorem has_list_none : Ty.has .list .none = false := rfl
@[simp] theorem has_list_bool (b : Bool) : Ty.has .list (.bool b) = false := rfl
@[simp] theorem has_list_int (b : Int) : Ty.has .list (.int b) = false := rfl
@[simp] theorem has_list_str (b : Str) : Ty.has .list (.str b) = false := rfl
@[simp] theorem has_list_list (b : List PyData) : Ty.has .list (.list b) = true := rfl
@[simp] theorem has_list_tuple (b : List PyData) : Ty.has .list (.tuple b) = false := rfl
@[simp] theorem has_int_dict (b : List (PyData × PyData)) : Ty.has .int (.dict b) = false := rfl
@[simp] theorem has_bool_dict (b : List (PyData × PyData)) : Ty.has .bool (.dict b) = false := rfl
@[simp] theorem has_str_dict (b : List (PyData × PyData)) : Ty.has .str (.dict b) = false := rfl
@[simp] theorem has_tuple_dict (b : List (PyData × PyData)) : Ty.has .tuple (.dict b) = false := rfl
@[simp] theorem has_list_dict (b : List (PyData × PyData)) : Ty.has .list (.dict b) = false := rfl
end PK
end

section
set_option Elab.async false
set_option linter.all false
set_option maxRecDepth 100000
set_option maxHeartbeats 4000000
/-! PkLem: words (tuples of whole numbers), lists of words, drawers, comprehensions: for the pure laws. -/
namespace PK
open PySem (PyData Str)

/-! ### words -/
def wd (l : List Int) : PyData := .tuple (l.map .int)
theorem wd_iT (l : List Int) : wd l = iT l := rfl
theorem wd_inj {a b : List Int} (h : wd a = wd b) : a = b := iT_inj h
theorem plain_ints : ∀ l : List Int, PyData.plainAll (l.map .int) = true
  | [] => rfl
  | i :: l => by simp [PyData.plainAll, PyData.plain, plain_ints l]
theorem eqv_ints : ∀ l m : List Int, PyData.eqvAll (l.map .int) (m.map .int) = decide (l = m)
  | [], [] => rfl
  | [], _ :: _ => rfl
  | _ :: _, [] => rfl
  | i :: l, j :: m => by
    show (PyData.eqv (.int i) (.int j) && PyData.eqvAll (l.map .int) (m.map .int)) = _
    rw [eqv_int, eqv_ints l m]
    by_cases h : i = j <;> by_cases h2 : l = m <;> simp [h, h2]
theorem depth_ints : ∀ l : List Int, PyData.depthAll (l.map .int) = 0
  | [] => rfl
  | i :: l => by
    show max (PyData.depth (.int i)) (PyData.depthAll (l.map .int)) = 0
    rw [depth_ints l]
    rfl
@[simp] theorem eqv_wd (a b : List Int) : PyData.eqv (wd a) (wd b) = decide (a = b) := eqv_ints a b
theorem plain_wd (l : List Int) : (wd l).plain = true := plain_ints l
theorem depth_wd (l : List Int) : (wd l).depth = 1 := by
  show PyData.depthAll (l.map .int) + 1 = 1
  rw [depth_ints]
@[simp] theorem shap_wd (l : List Int) : shap (wd l) = true := by
  unfold shap
  rw [plain_wd, depth_wd]
  rfl
@[simp] theorem shap_nil : shap (.tuple []) = true := shap_wd []
theorem alikeAll_ints : ∀ l m : List Int, PySem.W.alikeAll (l.map .int) (m.map .int) = true
  | [], _ => by simp [PySem.W.alikeAll]
  | _ :: _, [] => rfl
  | i :: l, j :: m => by
    show (true && PySem.W.alikeAll (l.map .int) (m.map .int)) = true
    rw [alikeAll_ints l m]
    rfl
@[simp] theorem alike_wd (l m : List Int) : PySem.W.alike (wd l) (wd m) = true := alikeAll_ints l m
@[simp] theorem isNone_wd (l : List Int) : isNone (wd l) = false := rfl
/-- a comes before b -/
def ltW (a b : List Int) : Bool := PySem.W.dataLt (wd a) (wd b)
@[simp] theorem cop_eq_wd (l m : List Int) : cop .eq (wd l) (wd m) = some (decide (l = m)) := by simp [cop]
@[simp] theorem cop_ne_wd (l m : List Int) : cop .ne (wd l) (wd m) = some (!decide (l = m)) := by simp [cop]
@[simp] theorem cop_lt_wd (l m : List Int) : cop .lt (wd l) (wd m) = some (ltW l m) := by simp [cop, ltW]
@[simp] theorem cop_ge_wd (l m : List Int) : cop .ge (wd l) (wd m) = some (!ltW l m) := by simp [cop, ltW]
@[simp] theorem cop_eq_nil (l : List Int) : cop .eq (wd l) (.tuple []) = some (decide (l = [])) := cop_eq_wd l []
@[simp] theorem cop_ne_nil (l : List Int) : cop .ne (wd l) (.tuple []) = some (!decide (l = [])) := cop_ne_wd l []
@[simp] theorem len_wd (l : List Int) : bi .len [wd l] = some (false, .int l.length) := by simp [wd]
@[simp] theorem items_wd (l : List Int) : items (wd l) = some (l.map .int) := rfl
@[simp] theorem has_wd_t (l : List Int) : Ty.has .tuple (wd l) = true := rfl
@[simp] theorem has_wd_s (l : List Int) : Ty.has .str (wd l) = false := rfl
@[simp] theorem noL_ints : ∀ l : List Int, noLists (l.map .int) = true
  | [] => rfl
  | i :: l => by simp [noLists, noList, noL_ints l]
@[simp] theorem noL_wd (l : List Int) : noList (wd l) = true := noL_ints l
@[simp] theorem noLs_wds : ∀ l : List (List Int), noLists (l.map wd) = true
  | [] => rfl
  | i :: l => by
    show (noList (wd i) && noLists (l.map wd)) = true
    rw [noL_wd, noLs_wds l]
    rfl
/-! ### the order of words -/
theorem leW_total : PySem.W.TotalLe (fun a b : List Int => leD (wd a) (wd b)) := ⟨fun a b c h1 h2 => leD_total.trans _ _ _ h1 h2, fun a b => leD_total.total _ _⟩
def leW (a b : List Int) : Bool := !ltW b a
theorem leW_trans (a b c : List Int) (h1 : leW a b = true) (h2 : leW b c = true) : leW a c = true := leW_total.trans a b c h1 h2
theorem leW_tot (a b : List Int) : (leW a b || leW b a) = true := by
  rcases leW_total.total a b with h | h
  · have h' : leW a b = true := h
    simp [h']
  · have h' : leW b a = true := h
    simp [h']
theorem ltW_of {a b : List Int} (h : leW a b = true) (hne : a ≠ b) : ltW a b = true := by
  cases e : ltW a b with
  | true => rfl
  | false => exact absurd (leD_anti a b h (by show (!ltW a b) = true; rw [e]; rfl)) hne
theorem ltW_irr (a : List Int) : ltW a a = false := by
  have := leD_total.refl (wd a)
  simpa [leD, ltW] using this
theorem ltW_le {a b : List Int} (h : ltW a b = true) : leW a b = true := by
  have := leW_tot a b
  simp only [leW, h, Bool.not_true, Bool.or_false] at this
  exact this
theorem ltW_trans {a b c : List Int} (h1 : ltW a b = true) (h2 : ltW b c = true) : ltW a c = true := by
  refine ltW_of (leW_trans a b c (ltW_le h1) (ltW_le h2)) fun e => ?_
  subst e
  have := ltW_le h1
  simp [leW, h2] at this
/-! ### lists of words -/
def wds (W : List (List Int)) : PyData := .tuple (W.map wd)
def wlist (W : List (List Int)) : PyData := .list (W.map wd)
theorem plain_wdsA : ∀ W : List (List Int), PyData.plainAll (W.map wd) = true
  | [] => rfl
  | w :: W => by
    show ((wd w).plain && PyData.plainAll (W.map wd)) = true
    rw [plain_wd, plain_wdsA W]
    rfl
theorem depth_wdsA : ∀ W : List (List Int), PyData.depthAll (W.map wd) ≤ 1
  | [] => Nat.zero_le _
  | w :: W => by
    show max (wd w).depth (PyData.depthAll (W.map wd)) ≤ 1
    rw [depth_wd]
    have := depth_wdsA W
    omega
@[simp] theorem shap_wds (W : List (List Int)) : shap (wds W) = true := by
  unfold shap
  have h1 : (wds W).plain = true := plain_wdsA W
  have h2 : (wds W).depth ≤ 2 := Nat.succ_le_succ (depth_wdsA W)
  rw [h1]
  simp
  omega
@[simp] theorem shap_wlist (W : List (List Int)) : shap (wlist W) = true := by
  unfold shap
  have h1 : (wlist W).plain = true := plain_wdsA W
  have h2 : (wlist W).depth ≤ 2 := Nat.succ_le_succ (depth_wdsA W)
  rw [h1]
  simp
  omega
theorem any_wds (W : List (List Int)) (a : List Int) : (W.map wd).any (fun y => PyData.eqv y (wd a)) = decide (a ∈ W) := by
  rw [List.any_map, Bool.eq_iff_iff, List.any_eq_true, decide_eq_true_iff]
  constructor
  · rintro ⟨w, hw, e⟩
    simp only [Function.comp, eqv_wd, decide_eq_true_eq] at e
    exact e ▸ hw
  · intro h
    exact ⟨a, h, by simp⟩
@[simp] theorem inn_wds (W : List (List Int)) (a : List Int) : cop .inn (wd a) (wds W) = some (decide (a ∈ W)) := by
  have e : cop .inn (wd a) (wds W) = if shap (wd a) && shap (wds W) then some ((W.map wd).any fun y => PyData.eqv y (wd a)) else none := rfl
  rw [e, shap_wds, shap_wd, any_wds]
  rfl
@[simp] theorem inn_wlist (W : List (List Int)) (a : List Int) : cop .inn (wd a) (wlist W) = some (decide (a ∈ W)) := by
  have e : cop .inn (wd a) (wlist W) = if shap (wd a) && shap (wlist W) then some ((W.map wd).any fun y => PyData.eqv y (wd a)) else none := rfl
  rw [e, shap_wlist, shap_wd, any_wds]
  rfl
@[simp] theorem nin_wlist (W : List (List Int)) (a : List Int) : cop .nin (wd a) (wlist W) = some (!decide (a ∈ W)) := by
  have e : cop .nin (wd a) (wlist W) = if shap (wd a) && shap (wlist W) then some (!(W.map wd).any fun y => PyData.eqv y (wd a)) else none := rfl
  rw [e, shap_wlist, shap_wd, any_wds]
  rfl
@[simp] theorem len_wds (W : List (List Int)) : bi .len [wds W] = some (false, .int W.length) := by simp [wds]
@[simp] theorem len_wlist (W : List (List Int)) : bi .len [wlist W] = some (false, .int W.length) := by simp [wlist]
@[simp] theorem items_wds (W : List (List Int)) : items (wds W) = some (W.map wd) := rfl
@[simp] theorem items_wlist (W : List (List Int)) : items (wlist W) = some (W.map wd) := rfl
@[simp] theorem noL_wds (W : List (List Int)) : noList (wds W) = true := noLs_wds W
@[simp] theorem ndc_wlist (W : List (List Int)) : ndc (wlist W) = some (wlist W) := rfl
/-- sorted words -/
theorem sorted_wds {W : List (List Int)} (h : [] ∉ W) : sortedD (W.map wd) = some ((W.mergeSort leW).map wd) := by
  unfold sortedD
  have h1 : alikeAll2 (W.map wd) = true := by
    simp only [alikeAll2, List.all_map, List.all_eq_true]
    intro a _
    simp
  have h2 : (W.map wd).all shap = true := by simp
  have h3 : (W.map wd).all isTupC = true := by
    simp only [List.all_map, List.all_eq_true]
    intro a ha
    cases a with
    | nil => exact absurd ha h
    | cons x a => rfl
  rw [h1, h2, h3]
  simp only [Bool.true_and, Bool.true_or, if_true, Option.some.injEq]
  exact (List.map_mergeSort (r := leW) (s := fun a b => !PySem.W.dataLt b a) (f := wd) (fun a _ b _ => rfl)).symm
theorem sorted_mem (W : List (List Int)) (a : List Int) : a ∈ W.mergeSort leW ↔ a ∈ W := (List.mergeSort_perm W leW).mem_iff
theorem sorted_len (W : List (List Int)) : (W.mergeSort leW).length = W.length := (List.mergeSort_perm W leW).length_eq
theorem sorted_asc {W : List (List Int)} (h : W.Nodup) : (W.mergeSort leW).Pairwise (fun a b => ltW a b = true) := by
  have h1 : (W.mergeSort leW).Pairwise (fun a b => leW a b = true) := List.pairwise_mergeSort leW_trans leW_tot W
  have h2 : (W.mergeSort leW).Nodup := ((List.mergeSort_perm W leW).nodup_iff).mpr h
  have h3 : (W.mergeSort leW).Pairwise (fun a b => a ≠ b) := h2
  exact (h1.and h3).imp fun h => ltW_of h.1 h.2
theorem nodup_sub {α : Type} [DecidableEq α] : ∀ {l m : List α}, l.Nodup → (∀ x ∈ l, x ∈ m) → l.length ≤ m.length
  | [], m, _, _ => Nat.zero_le _
  | x :: l, m, hn, hs => by
    have hx := hs x List.mem_cons_self
    have hn' := List.nodup_cons.mp hn
    have := nodup_sub (l := l) (m := m.erase x) hn'.2 fun y hy => (List.mem_erase_of_ne (fun e => hn'.1 (by rw [← e]; exact hy))).mpr (hs y (List.mem_cons_of_mem _ hy))
    rw [List.length_erase_of_mem hx] at this
    have : 0 < m.length := List.length_pos_of_mem hx
    simp only [List.length_cons]
    omega
theorem sset_wds {W : List (List Int)} (h : [] ∉ W) (hl : W.length < 64) : ∃ T, ssetD (wlist W) = some (wlist T) ∧ (∀ a, a ∈ T ↔ a ∈ W) ∧ T.Nodup ∧ T.length ≤ W.length ∧ T.Pairwise (fun a b => ltW a b = true) := by
  have hi : ∀ x ∈ W.map wd, ∃ ns, x = iT ns := fun x hx => by
    obtain ⟨a, _, rfl⟩ := List.mem_map.mp hx
    exact ⟨a, rfl⟩
  obtain ⟨f1, f2⟩ := firsts_ok hi
  have hs : setOk (W.map wd) = true := by
    unfold setOk
    simp only [List.all_map, Bool.and_eq_true, List.all_eq_true, List.length_map, decide_eq_true_eq]
    exact ⟨fun a _ => by show (isInts (iT a)).isSome = true; rw [isInts_of]; rfl, hl⟩
  obtain ⟨F, hF⟩ : ∃ F : List (List Int), firsts (W.map wd) = F.map wd := by
    have : ∀ l : List PyData, (∀ x ∈ l, x ∈ W.map wd) → ∃ F : List (List Int), l = F.map wd := by
      intro l
      induction l with
      | nil => exact fun _ => ⟨[], rfl⟩
      | cons x l ih =>
        intro h
        obtain ⟨F, rfl⟩ := ih fun y hy => h y (List.mem_cons_of_mem _ hy)
        obtain ⟨a, _, rfl⟩ := List.mem_map.mp (h x List.mem_cons_self)
        exact ⟨a :: F, rfl⟩
    exact this _ fun x hx => (f2 x).mp hx
  have hm : ∀ a, a ∈ F ↔ a ∈ W := fun a => by
    have e := f2 (wd a)
    rw [hF] at e
    constructor
    · intro ha
      obtain ⟨b, hb, e'⟩ := List.mem_map.mp (e.mp (List.mem_map_of_mem ha))
      exact wd_inj e' ▸ hb
    · intro ha
      obtain ⟨b, hb, e'⟩ := List.mem_map.mp (e.mpr (List.mem_map_of_mem ha))
      exact wd_inj e' ▸ hb
  have hn : F.Nodup := by
    rw [hF] at f1
    have : ∀ F : List (List Int), (F.map wd).Nodup → F.Nodup := by
      intro F
      induction F with
      | nil => exact fun _ => List.nodup_nil
      | cons a F ih =>
        intro h
        have h := List.nodup_cons.mp h
        exact List.nodup_cons.mpr ⟨fun ha => h.1 (List.mem_map_of_mem ha), ih h.2⟩
    exact this F f1
  refine ⟨F.mergeSort leW, ?_, fun a => (sorted_mem F a).trans (hm a), ((List.mergeSort_perm F leW).nodup_iff).mpr hn, ?_, sorted_asc hn⟩
  · show (if setOk (W.map wd) then (sortedD (firsts (W.map wd))).map PyData.list else none) = _
    rw [hs, hF, sorted_wds (fun hx => h ((hm []).mp hx))]
    rfl
  · rw [sorted_len]
    exact nodup_sub hn fun a ha => (hm a).mp ha
/-! ### indices and slices -/
theorem ixN_nat {n j : Nat} (h : j < n) : L2.ixN n (j : Int) = some j := by
  unfold L2.ixN
  rw [if_pos (by omega), if_pos (by omega)]
  simp
theorem ix_nat {xs : List PyData} {j : Nat} {v : PyData} (h : xs[j]? = some v) : ix (.list xs) (.int j) = some v := by
  have hj : j < xs.length := (List.getElem?_eq_some_iff.mp h).1
  simp only [ix, ixN_nat hj, Option.bind_some, h]
theorem ix_natT {xs : List PyData} {j : Nat} {v : PyData} (h : xs[j]? = some v) : ix (.tuple xs) (.int j) = some v := by
  have hj : j < xs.length := (List.getElem?_eq_some_iff.mp h).1
  simp only [ix, ixN_nat hj, Option.bind_some, h]
theorem cut_mem {α : Type} {xs : List α} {lo hi : Option Int} {x : α} (h : x ∈ cut xs lo hi) : x ∈ xs := List.mem_of_mem_drop (List.mem_of_mem_take h)
theorem cut_len {α : Type} (xs : List α) (lo hi : Option Int) : (cut xs lo hi).length ≤ xs.length := by
  unfold cut
  rw [List.length_take, List.length_drop]
  omega
theorem cut_take {α : Type} (xs : List α) (k : Nat) : cut xs none (some (k : Int)) = xs.take k := by
  unfold cut
  rw [HT.sIx_none, HT.sIx_nat, List.drop_zero, Nat.sub_zero]
  by_cases h : k ≤ xs.length
  · rw [Nat.min_eq_left h]
  · rw [Nat.min_eq_right (by omega), List.take_of_length_le (Nat.le_refl _), List.take_of_length_le (by omega)]
theorem cut_drop {α : Type} (xs : List α) (k : Nat) : cut xs (some (k : Int)) none = xs.drop k := by
  unfold cut
  rw [HT.sIx_none, HT.sIx_nat]
  by_cases h : k ≤ xs.length
  · rw [Nat.min_eq_left h, List.take_of_length_le (by simp)]
  · rw [Nat.min_eq_right (by omega), List.drop_of_length_le (Nat.le_refl _), List.drop_of_length_le (by omega), List.take_nil]
@[simp] theorem slc_take (xs : List PyData) (k : Nat) : slc (.tuple xs) none (some (.int (k : Int))) = some (false, .tuple (xs.take k)) := by
  show some (false, PyData.tuple (cut xs none (some (k : Int)))) = _
  rw [cut_take]
@[simp] theorem slc_drop (xs : List PyData) (k : Nat) : slc (.tuple xs) (some (.int (k : Int))) none = some (false, .tuple (xs.drop k)) := by
  show some (false, PyData.tuple (cut xs (some (k : Int)) none)) = _
  rw [cut_drop]
@[simp] theorem slc_dropL (xs : List PyData) (k : Nat) : slc (.list xs) (some (.int (k : Int))) none = some (true, .list (xs.drop k)) := by
  show some (true, PyData.list (cut xs (some (k : Int)) none)) = _
  rw [cut_drop]
@[simp] theorem slc_wtake (l : List Int) (k : Nat) : slc (wd l) none (some (.int (k : Int))) = some (false, wd (l.take k)) := by
  show slc (.tuple (l.map .int)) none (some (.int (k : Int))) = some (false, .tuple ((l.take k).map .int))
  rw [slc_take, List.map_take]
@[simp] theorem slc_wdrop (l : List Int) (k : Nat) : slc (wd l) (some (.int (k : Int))) none = some (false, wd (l.drop k)) := by
  show slc (.tuple (l.map .int)) (some (.int (k : Int))) none = some (false, .tuple ((l.drop k).map .int))
  rw [slc_drop, List.map_drop]
theorem slcT1 (xs : List PyData) (i : Int) : slc (.tuple xs) none (some (.int i)) = some (false, .tuple (cut xs none (some i))) := rfl
theorem slcT2 (xs : List PyData) (i : Int) : slc (.tuple xs) (some (.int i)) none = some (false, .tuple (cut xs (some i) none)) := rfl
theorem cat_tup (xs ys : List PyData) (h : xs.length + ys.length ≤ line) : bop .add (.tuple xs) (.tuple ys) = some (false, .tuple (xs ++ ys)) := by
  simp [bop, h]
theorem cat_lst (xs ys : List PyData) (h : xs.length + ys.length ≤ line) : bop .add (.list xs) (.list ys) = some (true, .list (xs ++ ys)) := by
  simp [bop, h]
theorem cat_wd (a b : List Int) (h : a.length + b.length ≤ 10000000) : bop .add (wd a) (wd b) = some (false, wd (a ++ b)) := by
  show bop .add (.tuple _) (.tuple _) = some (false, .tuple ((a ++ b).map .int))
  rw [cat_tup _ _ (by simp only [List.length_map]; unfold line; omega), List.map_append]
theorem cat_wl (a b : List (List Int)) (h : a.length + b.length ≤ 10000000) : bop .add (wlist a) (wlist b) = some (true, wlist (a ++ b)) := by
  show bop .add (.list _) (.list _) = some (true, .list ((a ++ b).map wd))
  rw [cat_lst _ _ (by simp only [List.length_map]; unfold line; omega), List.map_append]
/-! ### tries -/
@[simp] theorem ex_tr (C : Calls) (g : Env) (b : Ss) (hs : Hs) : exS C (.tr b hs) g = match exSs C b g with
    | .exc c d g1 => hnd C hs c d g1
    | o => o := rfl
@[simp] theorem hnd_one (C : Calls) (g : Env) (c : Nat) (b : Ss) (hs : Hs) (d : PyData) : hnd C (.cons c none b hs) c d g = (exSs C b g).quiet := by simp [hnd]
@[simp] theorem qt_rt (b : Bool) (x : PyData) (g : Env) : (Out.rt b x g).quiet = .rt b x g := rfl
/-! ### comprehensions over mapped lists -/
theorem compF_map {α : Type} {own : List Nat} {t : Tg} {fi : Env → Res Walk} {fc : Env → Res (Bool × Env)} {fe : Env → Res (EV × Env)} (f : α → PyData) (r : α → Option PyData) (ws : List α) {g : Env} (hi : fi g = .ok ⟨ws.map f, g, []⟩)
    (h : ∀ w ∈ ws, ∃ g', turnF t fc fe (wipe g own) (f w) = .ok (r w, g') ∧ wipe g' own = wipe g own) (hl : ws.length ≤ line) : compF own t fi fc fe g = .ok (.nw (.list (ws.filterMap r)), g) := by
  have key : ∀ (xs : List α) (acc : List PyData) (g1 : Env), (∀ x ∈ xs, x ∈ ws) → wipe g1 own = wipe g own → acc.length + xs.length ≤ line → ∃ g', compL own (turnF t fc fe) (xs.map f) acc g1 = .ok (acc ++ xs.filterMap r, g') ∧ wipe g' own = wipe g own := by
    intro xs
    induction xs with
    | nil => exact fun acc g1 _ hg _ => ⟨g1, by simp [compL], hg⟩
    | cons x xs ih =>
      intro acc g1 hs hg hl
      obtain ⟨g2, e2, w2⟩ := h x (hs x List.mem_cons_self)
      simp only [List.length_cons] at hl
      cases hr : r x with
      | none =>
        obtain ⟨g3, e3, w3⟩ := ih acc g2 (fun y hy => hs y (List.mem_cons_of_mem _ hy)) w2 (by omega)
        refine ⟨g3, ?_, w3⟩
        simp only [List.map_cons, compL, hg, e2, hr, Res.bind_ok, e3, List.filterMap_cons]
      | some y =>
        obtain ⟨g3, e3, w3⟩ := ih (acc ++ [y]) g2 (fun y hy => hs y (List.mem_cons_of_mem _ hy)) w2 (by simp; omega)
        refine ⟨g3, ?_, w3⟩
        have : acc.length < line := by omega
        simp only [List.map_cons, compL, hg, e2, hr, Res.bind_ok, this, if_true, e3, List.filterMap_cons, List.append_assoc, List.singleton_append]
  obtain ⟨g', e, w⟩ := key ws [] g (fun _ h => h) rfl (by simpa using hl)
  unfold compF
  rw [hi, Res.bind_ok]
  simp only [e, Res.quiet_ok, Res.bind_ok, List.nil_append, back_same w]
  rfl
theorem wipe_in {g : Env} {own own1 : List Nat} (h : ∀ v ∈ own1, v ∈ own) : wipe (wipe g own1) own = wipe g own := by
  apply List.ext_getElem?
  intro i
  rw [wipe_at, wipe_at, wipe_at]
  by_cases h1 : i ∈ own
  · by_cases h2 : i ∈ own1
    · simp [h1, h2, Function.comp_def]
    · simp [h1, h2]
  · have h2 : i ∉ own1 := fun q => h1 (h i q)
    simp [h1, h2]
/-- two sources: what the second gives is got from the first -/
theorem comp2F_map {α : Type} {own own1 : List Nat} {t t1 : Tg} {fi : Env → Res Walk} {fi1 : Env → Res (List PyData × Env)} {fc fc1 : Env → Res (Bool × Env)} {fe : Env → Res (EV × Env)} (f : α → PyData) (ys : α → List PyData) (r : α → PyData → Option PyData) (ws : List α) (N : Nat) {g : Env}
    (ho : ∀ v ∈ own1, v ∈ own) (hi : fi g = .ok ⟨ws.map f, g, []⟩)
    (h : ∀ w ∈ ws, ∃ g', turn2F t fc fi1 (wipe g own) (f w) = .ok (some (ys w), g') ∧ wipe g' own = wipe g own ∧ (ys w).length ≤ N ∧ ∀ y ∈ ys w, ∃ g'', turnF t1 fc1 fe (wipe g' own1) y = .ok (r w y, g'') ∧ wipe g'' own1 = wipe g' own1)
    (hl : ws.length * N ≤ line) : comp2F own own1 t t1 fi fi1 fc fc1 fe g = .ok (.nw (.list (ws.flatMap fun w => (ys w).filterMap (r w))), g) := by
  have key : ∀ (xs : List α) (acc : List PyData) (g1 : Env), (∀ x ∈ xs, x ∈ ws) → wipe g1 own = wipe g own → acc.length + xs.length * N ≤ line → ∃ g', comp2L own own1 (turn2F t fc fi1) (turnF t1 fc1 fe) (xs.map f) acc g1 = .ok (acc ++ xs.flatMap (fun w => (ys w).filterMap (r w)), g') ∧ wipe g' own = wipe g own := by
    intro xs
    induction xs with
    | nil => exact fun acc g1 _ hg _ => ⟨g1, by simp [comp2L], hg⟩
    | cons x xs ih =>
      intro acc g1 hs hg hl
      obtain ⟨g2, e2, w2, l2, k2⟩ := h x (hs x List.mem_cons_self)
      simp only [List.length_cons, Nat.succ_mul] at hl
      obtain ⟨g3, e3, w3⟩ := compL_pure (r x) g2 (ys x) acc g2 rfl k2 (by omega)
      have hll : ((ys x).filterMap (r x)).length ≤ (ys x).length := List.length_filterMap_le _ _
      obtain ⟨g4, e4, w4⟩ := ih (acc ++ (ys x).filterMap (r x)) g3 (fun y hy => hs y (List.mem_cons_of_mem _ hy)) (by rw [← wipe_in ho, w3, wipe_in ho, w2]) (by rw [List.length_append]; omega)
      refine ⟨g4, ?_, w4⟩
      simp only [List.map_cons, comp2L, hg, e2, Res.bind_ok, e3, e4, List.flatMap_cons, List.append_assoc]
  obtain ⟨g', e, w⟩ := key ws [] g (fun _ h => h) rfl (by simpa using hl)
  unfold comp2F
  rw [hi, Res.bind_ok]
  simp only [e, Res.quiet_ok, Res.bind_ok, List.nil_append, back_same w]
  rfl
/-- a for over a mapped list, that may return -/
theorem forL_or {α : Type} {turn : Env → PyData → Out} (f : α → PyData) (P : List α → Env → Prop) (R : List α → α → Bool → PyData → Env → Prop) (all : List α) : ∀ (xs done : List α) (g : Env), all = done ++ xs →
    (∀ done x post g, all = done ++ x :: post → P done g → (∃ g', turn g (f x) = .nx g' ∧ P (done ++ [x]) g') ∨ ∃ b v g', turn g (f x) = .rt b v g' ∧ R done x b v g') → P done g →
    (∃ g', forL turn (xs.map f) g = .nx g' ∧ P all g') ∨ ∃ done x post b v g', all = done ++ x :: post ∧ forL turn (xs.map f) g = .rt b v g' ∧ R done x b v g'
  | [], done, g, e, _, p => .inl ⟨g, rfl, by rw [e, List.append_nil]; exact p⟩
  | x :: xs, done, g, e, h, p => by
    rcases h done x xs g e p with ⟨g1, e1, p1⟩ | ⟨b, v, g1, e1, r1⟩
    · rcases forL_or f P R all xs (done ++ [x]) g1 (by rw [e]; simp) h p1 with ⟨g2, e2, p2⟩ | ⟨done', x', post', b, v, g2, q, e2, r2⟩
      · exact .inl ⟨g2, by simp only [List.map_cons, forL, e1, e2], p2⟩
      · exact .inr ⟨done', x', post', b, v, g2, q, by simp only [List.map_cons, forL, e1, e2], r2⟩
    · exact .inr ⟨done, x, xs, b, v, g1, e, by simp only [List.map_cons, forL, e1], r1⟩
/-- a for over a mapped list -/
theorem forL_map {α : Type} {turn : Env → PyData → Out} (f : α → PyData) (P : List α → Env → Prop) (all : List α) (g : Env)
    (h : ∀ done x post g, all = done ++ x :: post → P done g → ∃ g', turn g (f x) = .nx g' ∧ P (done ++ [x]) g') (p : P [] g) : ∃ g', forL turn (all.map f) g = .nx g' ∧ P all g' := by
  rcases forL_or f P (fun _ _ _ _ _ => False) all all [] g rfl (fun done x post g e q => .inl (h done x post g e q)) p with h | ⟨_, _, _, _, _, _, _, _, q⟩
  · exact h
  · exact q.elim
theorem filterMap_map' {α β γ : Type} (f : α → Option β) (k : β → γ) : ∀ l : List α, l.filterMap (fun x => (f x).map k) = (l.filterMap f).map k
  | [] => rfl
  | x :: l => by
    rw [List.filterMap_cons, List.filterMap_cons, filterMap_map' f k l]
    cases f x <;> rfl
end PK
end

section
set_option Elab.async false
set_option linter.all false
set_option maxRecDepth 100000
set_option maxHeartbeats 4000000
/-! PkDraw: the drawer of the laws, and a number taken from it. -/
namespace PK
open PySem (PyData Str)

@[simp] theorem noL_bool (b : Bool) : noList (.bool b) = true := rfl
@[simp] theorem noL_int (b : Int) : noList (.int b) = true := rfl
@[simp] theorem noL_str (b : Str) : noList (.str b) = true := rfl
@[simp] theorem noL_none : noList .none = true := rfl
@[simp] theorem inner_F (d : PyData) : inner false d = noList d := rfl
@[simp] theorem inner_T (ds : List PyData) : inner true (.list ds) = noLists ds := rfl
@[simp] theorem inner_W (ds : List (List Int)) : inner true (wlist ds) = true := noLs_wds ds
@[simp] theorem cr_rt (d : Def) (b : Bool) (x : PyData) (g : Env) : (Out.rt b x g).cr d = endD d b x g := rfl
theorem cr_exc (d : Def) (c : Nat) (x : PyData) (g : Env) (h : d.io = false) : (Out.exc c x g).cr d = .exc c x := by simp [Out.cr, h]
def takeDef : PK.Def := ⟨2, true, 3, (.cons (.ite (.cmp .eq (.idx (.var 0) (.lit (.int 2))) (.lit (.int 0))) (.cons (.setI 0 (.lit (.int 1)) (.bop .add (.idx (.var 0) (.lit (.int 1))) (.lit (.int 1)))) (.cons (.ite (.cmp .lt (.idx (.var 0) (.lit (.int 1))) (.bi .len (.cons (.idx (.var 0) (.lit (.int 0))) .nil))) (.cons (.setI 0 (.lit (.int 2)) (.idx (.idx (.var 0) (.lit (.int 0))) (.idx (.var 0) (.lit (.int 1))))) .nil) .nil) (.cons (.ite (.cmp .eq (.idx (.var 0) (.lit (.int 2))) (.lit (.int 0))) (.cons (.setI 0 (.lit (.int 3)) (.bop .mod (.bi .int (.cons (.bop .add (.bop .mul (.idx (.var 0) (.lit (.int 3))) (.lit (.int 48271))) (.lit (.int 11))) .nil)) (.lit (.int 2147483647)))) (.cons (.setI 0 (.lit (.int 2)) (.idx (.var 0) (.lit (.int 3)))) .nil)) .nil) .nil))) .nil) (.cons (.asg 2 false (.bop .mod (.bi .int (.cons (.idx (.var 0) (.lit (.int 2))) .nil)) (.var 1))) (.cons (.setI 0 (.lit (.int 2)) (.bop .fdiv (.idx (.var 0) (.lit (.int 2))) (.var 1))) (.cons (.ret (.var 2)) .nil))))⟩
def drawT : PK.Ss := (.cons (.asg 1 false (.bop .mod (.bi .int (.cons (.bop .add (.bop .add (.bop .mul (.var 1) (.lit (.int 48271))) (.bop .mod (.bi .abs (.cons (.bi .int (.cons (.var 2) .nil)) .nil)) (.lit (.int 65521)))) (.lit (.int 1))) .nil)) (.lit (.int 2147483647)))) .nil)
def drawDef : PK.Def := ⟨1, false, 3, (.cons (.asg 1 false (.lit (.int 7))) (.cons (.fr (.one 2) (.of (.var 0)) drawT) (.cons (.ret (.lst (.cons (.comp (.bi .abs (.cons (.bi .int (.cons (.var 2) .nil)) .nil)) (.one 2) (.of (.var 0)) .none [2]) (.cons (.neg (.lit (.int 1))) (.cons (.lit (.int 0)) (.cons (.var 1) .nil)))))) .nil)))⟩
theorem ix_nat' {xs : List PyData} {j : Nat} {v : PyData} (h : xs[j]? = some v) : ix (.list xs) (.int j) = some v := ix_nat h
def drw (cells : List Int) (p c s : Int) : PyData := .list [.list (cells.map .int), .int p, .int c, .int s]
/-- a drawer -/
def Dr (d : PyData) : Prop := ∃ cells p c s, d = drw cells p c s ∧ cells.length ≤ 63 ∧ -1 ≤ p
theorem mul_lit (i j : Int) (h : isWide j = true) : bop .mul (.int i) (.int j) = some (false, .int (i * j)) := by
  show (bopI .mul i j).map _ = _
  simp [bopI, h]
theorem mod_pos (i j : Int) (h : 0 < j) : bop .mod (.int i) (.int j) = some (false, .int (i % j)) := by
  show (bopI .mod i j).map _ = _
  simp [bopI, h]
theorem div_pos (i j : Int) (h : 0 < j) (h2 : j < 1000) : bop .fdiv (.int i) (.int j) = some (false, .int (i / j)) := by
  have : j.natAbs.log2 < 30 := (Nat.log2_lt (by omega)).mpr (by omega)
  show (bopI .fdiv i j).map _ = _
  simp [bopI, h, this]
theorem w48271 : isWide 48271 = true := wide_ok (by decide) (by decide)
@[simp] theorem ix_4_0 (a b c d : PyData) : ix (.list [a, b, c, d]) (.int 0) = some a := rfl
@[simp] theorem ix_4_1 (a b c d : PyData) : ix (.list [a, b, c, d]) (.int 1) = some b := rfl
@[simp] theorem ix_4_2 (a b c d : PyData) : ix (.list [a, b, c, d]) (.int 2) = some c := rfl
@[simp] theorem ix_4_3 (a b c d : PyData) : ix (.list [a, b, c, d]) (.int 3) = some d := rfl
@[simp] theorem st_4_1 (a b c d v : PyData) : setIx (.int 1) v (.list [a, b, c, d]) = some (.list [a, v, c, d]) := rfl
@[simp] theorem st_4_2 (a b c d v : PyData) : setIx (.int 2) v (.list [a, b, c, d]) = some (.list [a, b, v, d]) := rfl
@[simp] theorem st_4_3 (a b c d v : PyData) : setIx (.int 3) v (.list [a, b, c, d]) = some (.list [a, b, c, v]) := rfl
theorem ix_int {cells : List Int} {p : Int} (h0 : 0 ≤ p) (h1 : p < cells.length) : ∃ x, ix (.list (cells.map PyData.int)) (.int p) = some (.int x) := by
  obtain ⟨k, rfl⟩ := Int.eq_ofNat_of_zero_le h0
  have hk : k < cells.length := by omega
  refine ⟨cells[k], ix_nat ?_⟩
  rw [List.getElem?_map, List.getElem?_eq_getElem hk]
  rfl

theorem take_ok (C : Calls) (d : PyData) (m : Int) (hd : Dr d) (h0 : 0 < m) (h1 : m < 1000) : ∃ r d', (exSs C takeDef.body (startE takeDef [d, .int m])).cr takeDef = .ok false (.int r) (some d') ∧ Dr d' ∧ 0 ≤ r ∧ r < m := by
  obtain ⟨cells, p, c, s, rfl, hl, hp⟩ := hd
  have fin : ∀ (p c s : Int), -1 ≤ p → (∃ r d', (exSs C takeDef.body (startE takeDef [drw cells p c s, .int m])).cr takeDef = .ok false (.int r) (some d') ∧ Dr d' ∧ 0 ≤ r ∧ r < m) ∨ c = 0 := fun p c s hp => by
    by_cases hc : c = 0
    · exact .inr hc
    · refine .inl ⟨c % m, drw cells p (c / m) s, ?_, ⟨cells, p, c / m, s, rfl, hl, hp⟩, Int.emod_nonneg _ (by omega), Int.emod_lt_of_pos _ h0⟩
      simp [takeDef, startE, drw, hc, mod_pos _ _ h0, div_pos _ _ h0 h1, endD]
  rcases fin p c s hp with h | rfl
  · exact h
  · have hlen : bi .len [.list (cells.map PyData.int)] = some (false, .int cells.length) := by simp
    have tail : ∀ c1 p1 s1 : Int, -1 ≤ p1 → ∃ r d', (.ok false (.int (c1 % m)) (some (drw cells p1 (c1 / m) s1)) : CR) = .ok false (.int r) (some d') ∧ Dr d' ∧ 0 ≤ r ∧ r < m := fun c1 p1 s1 hp1 =>
      ⟨_, _, rfl, ⟨cells, p1, c1 / m, s1, rfl, hl, hp1⟩, Int.emod_nonneg _ (by omega), Int.emod_lt_of_pos _ h0⟩
    by_cases hlt : p + 1 < cells.length
    · obtain ⟨x, hx⟩ := ix_int (cells := cells) (p := p + 1) (by omega) hlt
      by_cases hx0 : x = 0
      · subst hx0
        have e : (exSs C takeDef.body (startE takeDef [drw cells p 0 s, .int m])).cr takeDef = .ok false (.int ((s * 48271 + 11) % 2147483647 % m)) (some (drw cells (p + 1) ((s * 48271 + 11) % 2147483647 / m) ((s * 48271 + 11) % 2147483647))) := by
          simp [takeDef, startE, drw, hlt, hx, mul_lit _ _ w48271, mod_pos _ 2147483647 (by decide), mod_pos _ _ h0, div_pos _ _ h0 h1, endD]
        rw [e]
        exact tail _ _ _ (by omega)
      · have e : (exSs C takeDef.body (startE takeDef [drw cells p 0 s, .int m])).cr takeDef = .ok false (.int (x % m)) (some (drw cells (p + 1) (x / m) s)) := by
          simp [takeDef, startE, drw, hlt, hx, hx0, mod_pos _ _ h0, div_pos _ _ h0 h1, endD]
        rw [e]
        exact tail _ _ _ (by omega)
    · have e : (exSs C takeDef.body (startE takeDef [drw cells p 0 s, .int m])).cr takeDef = .ok false (.int ((s * 48271 + 11) % 2147483647 % m)) (some (drw cells (p + 1) ((s * 48271 + 11) % 2147483647 / m) ((s * 48271 + 11) % 2147483647))) := by
        simp [takeDef, startE, drw, hlt, mul_lit _ _ w48271, mod_pos _ 2147483647 (by decide), mod_pos _ _ h0, div_pos _ _ h0 h1, endD]
      rw [e]
      exact tail _ _ _ (by omega)

theorem draw_ok (C : Calls) (ns : List Int) (h : ns.length ≤ 63) : ∃ d, (exSs C drawDef.body (startE drawDef [.list (ns.map .int)])).cr drawDef = .ok true d none ∧ Dr d := by
  obtain ⟨g', eg, s, t, ft, rfl⟩ := forL_inv (turn := fun g x => (Res.of (bindT g (.one 2) x)).out fun g1 => exSs C drawT g1)
    (fun i g => ∃ s t, Free t ∧ g = [.va (.list (ns.map .int)), .va (.int s), t]) (ns.map .int) 0 [.va (.list (ns.map .int)), .va (.int 7), .un]
    (fun i d g hd ⟨s, t, ft, hg⟩ => by
      subst hg
      rw [List.getElem?_map] at hd
      cases hx : ns[i]? with
      | none => rw [hx] at hd; cases hd
      | some x =>
        rw [hx] at hd
        cases hd
        refine ⟨[.va (.list (ns.map .int)), .va (.int ((s * 48271 + (if x < 0 then -x else x) % 65521 + 1) % 2147483647)), .va (.int x)], ?_, _, _, free_va _, rfl⟩
        simp [drawT, ft, mul_lit _ _ w48271, mod_pos _ 65521 (by decide), mod_pos _ 2147483647 (by decide)]) ⟨7, .un, trivial, rfl⟩
  have hfr : exS C (.fr (.one 2) (.of (.var 0)) drawT) [.va (.list (ns.map .int)), .va (.int 7), .un] = .nx [.va (.list (ns.map .int)), .va (.int s), t] := by
    rw [ex_fr, fr_nl (xs := ns.map .int) (g1 := [.va (.list (ns.map .int)), .va (.int 7), .un]) (by simp)]
    exact eg
  let ab : Int → Int := fun x => if x < 0 then -x else x
  have hc : evE C (.comp (.bi .abs (.cons (.bi .int (.cons (.var 2) .nil)) .nil)) (.one 2) (.of (.var 0)) .none [2]) [.va (.list (ns.map .int)), .va (.int s), t] = .ok (.nw (.list ((ns.map ab).map .int)), [.va (.list (ns.map .int)), .va (.int s), t]) := by
    rw [ev_comp, compF_pure (fun x => match x with | .int i => some (.int (ab i)) | _ => none) (xs := ns.map .int) (g := [.va (.list (ns.map .int)), .va (.int s), t])]
    · congr 3
      rw [List.filterMap_map]
      show PyData.list (ns.filterMap fun x => some (.int (ab x))) = _
      rw [filterMap_some, List.map_map]
      rfl
    · simp
    · intro x hx
      obtain ⟨i, _, rfl⟩ := List.mem_map.mp hx
      exact ⟨[.va (.list (ns.map .int)), .va (.int s), .va (.int i)], by simp [turnF, wipe, ab], rfl⟩
    · rw [List.length_map]
      exact le_line (by omega)
  refine ⟨drw (ns.map ab) (-1) 0 s, ?_, ns.map ab, -1, 0, s, rfl, by simpa using h, Int.le_refl _⟩
  have hb : exSs C drawDef.body [.va (.list (ns.map .int)), .un, .un] = .rt true (drw (ns.map ab) (-1) 0 s) [.va (.list (ns.map .int)), .va (.int s), t] := by
    simp [drawDef, hfr, hc, drw, -ex_fr, -ev_comp]
  show (exSs C drawDef.body [.va (.list (ns.map .int)), .un, .un]).cr drawDef = _
  rw [hb]
  rfl
theorem sign_of {ys : List PyData} (h : ∀ y ∈ ys, ∃ i : Int, y = .int i ∧ 0 ≤ i ∧ i < 3) : ∃ l : List Int, ys = l.map .int ∧ ∀ i ∈ l, 0 ≤ i ∧ i < 3 := by
  induction ys with
  | nil => exact ⟨[], rfl, fun i hi => nomatch hi⟩
  | cons y ys ih =>
    obtain ⟨i, rfl, h0, h3⟩ := h y List.mem_cons_self
    obtain ⟨l, rfl, hl⟩ := ih fun z hz => h z (List.mem_cons_of_mem _ hz)
    exact ⟨i :: l, rfl, fun j hj => (List.mem_cons.mp hj).elim (fun e => e ▸ ⟨h0, h3⟩) (hl j)⟩

end PK
end

section
set_option Elab.async false
set_option linter.all false
set_option maxRecDepth 100000
set_option maxHeartbeats 4000000
/-! PkLem2: comprehensions over a list in a slot; more facts for the pure laws. -/
namespace PK
open PySem (PyData Str)

/-- a comprehension over mapped things, some slots locked meanwhile -/
theorem compF_mapK {α : Type} {own : List Nat} {t : Tg} {fi : Env → Res Walk} {fc : Env → Res (Bool × Env)} {fe : Env → Res (EV × Env)} (f : α → PyData) (r : α → Option PyData) (ws : List α) {g g1 : Env} {lks : List (Nat × Mk)} (hi : fi g = .ok ⟨ws.map f, g1, lks⟩)
    (h : ∀ w ∈ ws, ∃ g', turnF t fc fe (wipe g1 own) (f w) = .ok (r w, g') ∧ wipe g' own = wipe g1 own) (hl : ws.length ≤ line) : compF own t fi fc fe g = .ok (.nw (.list (ws.filterMap r)), unlock g1 lks) := by
  have e := compF_map (own := own) (t := t) (fi := fun _ => .ok ⟨ws.map f, g1, []⟩) (fc := fc) (fe := fe) f r ws (g := g1) rfl h hl
  unfold compF at e ⊢
  rw [hi, Res.bind_ok]
  rw [Res.bind_ok] at e
  cases hq : (compL own (turnF t fc fe) (ws.map f) [] g1).quiet with
  | ok q =>
    rw [hq] at e
    simp only [Res.bind_ok] at e ⊢
    injection e with e
    injection e with e1 e2
    have e2' : back g1 q.2 own = g1 := e2
    rw [e1, e2']
  | bad => rw [hq] at e; simp at e
  | exc c d g => rw [hq] at e; simp at e
/-- any(..) over mapped things -/
theorem any_mapB {α : Type} (f : α → Bool) (l : List α) : bi .any [.list (l.map fun x => .bool (f x))] = some (false, .bool (l.any f)) := by
  simp only [bi, boolsD_map, Option.map_some]
  congr 2
  simp [List.any_map]
end PK
end

section
set_option Elab.async false
set_option linter.all false
set_option maxRecDepth 1000000
set_option maxHeartbeats 0
namespace L50
open PySem PySem.Spec PyProof.Rows L2 PK
open PySem (PyData)
def topS (i : Nat) : Stmt := PySem.Challenge.pw_patternkinds_k50_whole_weights_and_prefi.main.body.getD i (.Pass ⟨0, 0, 0, 0⟩)
/-- is_whole -/
def b0 : PK.Ss := (.cons (.ret (.and (.cons (.isa (.var 0) .int) (.cons (.nt (.isa (.var 0) .bool)) .nil)))) .nil)
def f0 : PK.Def := ⟨1, false, 1, b0⟩
def d0 : PK.DI := ⟨"is_whole", ["value"], ["value"], topS 5⟩
/-- common -/
def l1_1 : PK.Ss := (.cons (.par [(0, false), (1, false)] (.cons (.var 1) (.cons (.bop .mod (.var 0) (.var 1)) .nil))) .nil)
def b1 : PK.Ss := (.cons (.par [(0, false), (1, false)] (.cons (.bi .abs (.cons (.var 0) .nil)) (.cons (.bi .abs (.cons (.var 1) .nil)) .nil))) (.cons (.whl (.cmp .ne (.var 1) (.lit (.int 0))) l1_1) (.cons (.ret (.var 0)) .nil)))
def f1 : PK.Def := ⟨2, false, 2, b1⟩
def d1 : PK.DI := ⟨"common", ["a", "b"], ["a", "b"], topS 6⟩
/-- lowest -/
def b2 : PK.Ss := (.cons (.asg 2 false (.call 1 (.cons (.var 0) (.cons (.var 1) .nil)))) (.cons (.ite (.cmp .lt (.var 1) (.lit (.int 0))) (.cons (.asg 2 false (.neg (.var 2))) .nil) .nil) (.cons (.ret (.tup (.cons (.bop .fdiv (.var 0) (.var 2)) (.cons (.bop .fdiv (.var 1) (.var 2)) .nil)))) .nil)))
def f2 : PK.Def := ⟨2, false, 3, b2⟩
def d2 : PK.DI := ⟨"lowest", ["n", "d", "g"], ["n", "d"], topS 7⟩
/-- ratio -/
def b3 : PK.Ss := (.cons (.ite (.or (.cons (.nt (.call 0 (.cons (.var 0) .nil))) (.cons (.nt (.call 0 (.cons (.var 1) .nil))) (.cons (.cmp .eq (.var 1) (.lit (.int 0))) .nil)))) (.cons (.raise1 0 (.lit (.str "no fraction"))) .nil) .nil) (.cons (.ret (.call 2 (.cons (.var 0) (.cons (.var 1) .nil)))) .nil))
def f3 : PK.Def := ⟨2, false, 2, b3⟩
def d3 : PK.DI := ⟨"ratio", ["n", "d"], ["n", "d"], topS 8⟩
/-- plus -/
def b4 : PK.Ss := (.cons (.ret (.call 2 (.cons (.bop .add (.bop .mul (.idx (.var 0) (.lit (.int 0))) (.idx (.var 1) (.lit (.int 1)))) (.bop .mul (.idx (.var 1) (.lit (.int 0))) (.idx (.var 0) (.lit (.int 1))))) (.cons (.bop .mul (.idx (.var 0) (.lit (.int 1))) (.idx (.var 1) (.lit (.int 1)))) .nil)))) .nil)
def f4 : PK.Def := ⟨2, false, 2, b4⟩
def d4 : PK.DI := ⟨"plus", ["a", "b"], ["a", "b"], topS 9⟩
/-- is_word -/
def b5 : PK.Ss := (.cons (.ite (.or (.cons (.nt (.isa (.var 0) .tuple)) (.cons (.cmp .gt (.bi .len (.cons (.var 0) .nil)) (.var 1)) .nil))) (.cons (.ret (.lit (.bool false))) .nil) .nil) (.cons (.ret (.bi .all (.cons (.comp (.and (.cons (.call 0 (.cons (.var 2) .nil)) (.cons (.cmp2 .le .lt (.lit (.int 0)) (.var 2) (.glb 0)) .nil))) (.one 2) (.of (.var 0)) .none [2]) .nil))) .nil))
def f5 : PK.Def := ⟨2, false, 3, b5⟩
def d5 : PK.DI := ⟨"is_word", ["value", "most", "sign"], ["value", "most"], topS 14⟩
/-- is_list -/
def b6 : PK.Ss := (.cons (.ite (.or (.cons (.nt (.isa (.var 0) .tuple)) (.cons (.nt (.cmp2 .le .le (.lit (.int 1)) (.bi .len (.cons (.var 0) .nil)) (.glb 1))) .nil))) (.cons (.ret (.lit (.bool false))) .nil) .nil) (.cons (.ite (.nt (.bi .all (.cons (.comp (.and (.cons (.call 5 (.cons (.var 1) (.cons (.glb 2) .nil))) (.cons (.cmp .gt (.bi .len (.cons (.var 1) .nil)) (.lit (.int 0))) .nil))) (.one 1) (.of (.var 0)) .none [1]) .nil))) (.cons (.ret (.lit (.bool false))) .nil) .nil) (.cons (.ret (.bi .all (.cons (.comp (.cmp .lt (.var 2) (.var 3)) (.many [2, 3]) (.zip (.var 0) (.slc (.var 0) (.some (.lit (.int 1))) .none)) .none [2, 3]) .nil))) .nil)))
def f6 : PK.Def := ⟨1, false, 4, b6⟩
def d6 : PK.DI := ⟨"is_list", ["value", "word", "one", "two"], ["value"], topS 15⟩
/-- check_list -/
def b7 : PK.Ss := (.cons (.ite (.nt (.call 6 (.cons (.var 0) .nil))) (.cons (.raise1 0 (.lit (.str "no list"))) .nil) .nil) .nil)
def f7 : PK.Def := ⟨1, false, 1, b7⟩
def d7 : PK.DI := ⟨"check_list", ["value"], ["value"], topS 16⟩
/-- begins -/
def b8 : PK.Ss := (.cons (.ret (.cmp .eq (.slc (.var 1) .none (.some (.bi .len (.cons (.var 0) .nil)))) (.var 0))) .nil)
def f8 : PK.Def := ⟨2, false, 2, b8⟩
def d8 : PK.DI := ⟨"begins", ["one", "two"], ["one", "two"], topS 17⟩
/-- rest_of -/
def b9 : PK.Ss := (.cons (.ite (.call 8 (.cons (.var 0) (.cons (.var 1) .nil))) (.cons (.ret (.slc (.var 1) (.some (.bi .len (.cons (.var 0) .nil))) .none)) .nil) .nil) (.cons (.ret (.ife (.call 8 (.cons (.var 1) (.cons (.var 0) .nil))) (.slc (.var 0) (.some (.bi .len (.cons (.var 1) .nil))) .none) (.lit .none))) .nil))
def f9 : PK.Def := ⟨2, false, 2, b9⟩
def d9 : PK.DI := ⟨"rest_of", ["one", "two"], ["one", "two"], topS 18⟩
/-- next_tails -/
def b10 : PK.Ss := (.cons (.asg 2 false (.comp (.call 9 (.cons (.var 1) (.cons (.var 3) .nil))) (.one 3) (.of (.var 0)) .none [3])) (.cons (.ret (.comp (.var 4) (.one 4) (.of (.var 2)) (.some (.and (.cons (.cmp .isn (.var 4) (.lit .none)) (.cons (.cmp .gt (.bi .len (.cons (.var 4) .nil)) (.lit (.int 0))) .nil)))) [4])) .nil))
def f10 : PK.Def := ⟨2, false, 5, b10⟩
def d10 : PK.DI := ⟨"next_tails", ["words", "tail", "found", "word", "rest"], ["words", "tail"], topS 19⟩
/-- first_tails -/
def b11 : PK.Ss := (.cons (.ret (.comp2 (.slc (.var 2) (.some (.bi .len (.cons (.var 1) .nil))) .none) (.one 1) (.of (.var 0)) .none (.one 2) (.of (.var 0)) (.some (.and (.cons (.cmp .ne (.var 1) (.var 2)) (.cons (.call 8 (.cons (.var 1) (.cons (.var 2) .nil))) .nil)))) [1, 2] [2])) .nil)
def f11 : PK.Def := ⟨1, false, 3, b11⟩
def d11 : PK.DI := ⟨"first_tails", ["words", "one", "two"], ["words"], topS 20⟩
/-- found_tails -/
def l12_1 : PK.Ss := (.cons (.ite (.din true (.var 3) 2) (.cons (.setD 2 (.var 3) (.lit (.bool true))) (.cons (.app 1 (.var 3)) .nil)) .nil) .nil)
def l12_2 : PK.Ss := (.cons (.fr (.one 3) (.of (.call 10 (.cons (.var 0) (.cons (.idx (.var 1) (.var 4)) .nil)))) l12_1) (.cons (.aug .add 4 (.lit (.int 1))) .nil))
def b12 : PK.Ss := (.cons (.asg 1 true (.call 11 (.cons (.var 0) .nil))) (.cons (.asg 2 true (.dcomp (.var 3) (.lit (.bool true)) (.one 3) (.of (.var 1)) .none [3])) (.cons (.asg 4 false (.lit (.int 0))) (.cons (.whl (.cmp .lt (.var 4) (.bi .len (.cons (.var 1) .nil))) l12_2) (.cons (.ret (.dso 2)) .nil)))))
def f12 : PK.Def := ⟨1, false, 5, b12⟩
def d12 : PK.DI := ⟨"found_tails", ["words", "row", "found", "tail", "place"], ["words"], topS 21⟩
/-- found_code -/
def b13 : PK.Ss := (.cons (.ret (.nt (.bi .any (.cons (.comp (.cmp .inn (.var 1) (.var 0)) (.one 1) (.of (.call 12 (.cons (.var 0) .nil))) .none [1]) .nil)))) .nil)
def f13 : PK.Def := ⟨1, false, 2, b13⟩
def d13 : PK.DI := ⟨"found_code", ["words", "tail"], ["words"], topS 22⟩
/-- is_code -/
def b14 : PK.Ss := (.cons (.ex (.call 7 (.cons (.var 0) .nil))) (.cons (.ret (.call 13 (.cons (.var 0) .nil))) .nil))
def f14 : PK.Def := ⟨1, false, 1, b14⟩
def d14 : PK.DI := ⟨"is_code", ["words"], ["words"], topS 23⟩
/-- is_prefix_list -/
def b15 : PK.Ss := (.cons (.ex (.call 7 (.cons (.var 0) .nil))) (.cons (.ret (.cmp .eq (.bi .len (.cons (.call 11 (.cons (.var 0) .nil)) .nil)) (.lit (.int 0)))) .nil))
def f15 : PK.Def := ⟨1, false, 1, b15⟩
def d15 : PK.DI := ⟨"is_prefix_list", ["words"], ["words"], topS 24⟩
/-- weight -/
def b16 : PK.Ss := (.cons (.ex (.call 7 (.cons (.var 0) .nil))) (.cons (.ret (.call 18 (.cons (.comp (.bi .len (.cons (.var 1) .nil)) (.one 1) (.of (.var 0)) .none [1]) .nil))) .nil))
def f16 : PK.Def := ⟨1, false, 2, b16⟩
def d16 : PK.DI := ⟨"weight", ["words", "word"], ["words"], topS 25⟩
/-- share -/
def l17_1 : PK.Ss := (.cons (.asg 1 false (.bop .mul (.var 1) (.glb 0))) .nil)
def b17 : PK.Ss := (.cons (.asg 1 false (.lit (.int 1))) (.cons (.fr (.one 2) (.rng (.cons (.var 0) .nil)) l17_1) (.cons (.ret (.call 3 (.cons (.lit (.int 1)) (.cons (.var 1) .nil)))) .nil)))
def f17 : PK.Def := ⟨1, false, 3, b17⟩
def d17 : PK.DI := ⟨"share", ["length", "low", "_"], ["length"], topS 26⟩
/-- weight_of -/
def l18_1 : PK.Ss := (.cons (.asg 1 false (.call 4 (.cons (.var 1) (.cons (.call 17 (.cons (.var 2) .nil)) .nil)))) .nil)
def b18 : PK.Ss := (.cons (.asg 1 false (.call 3 (.cons (.lit (.int 0)) (.cons (.lit (.int 1)) .nil)))) (.cons (.fr (.one 2) (.of (.var 0)) l18_1) (.cons (.ret (.var 1)) .nil)))
def f18 : PK.Def := ⟨1, false, 3, b18⟩
def d18 : PK.DI := ⟨"weight_of", ["lengths", "found", "length"], ["lengths"], topS 27⟩
/-- is_full -/
def b19 : PK.Ss := (.cons (.ret (.and (.cons (.call 15 (.cons (.var 0) .nil)) (.cons (.cmp .eq (.call 16 (.cons (.var 0) .nil)) (.call 3 (.cons (.lit (.int 1)) (.cons (.lit (.int 1)) .nil)))) .nil)))) .nil)
def f19 : PK.Def := ⟨1, false, 1, b19⟩
def d19 : PK.DI := ⟨"is_full", ["words"], ["words"], topS 28⟩
/-- all_words -/
def l20_1 : PK.Ss := (.cons (.asg 1 false (.comp2 (.bop .add (.var 3) (.tup (.cons (.var 4) .nil))) (.one 3) (.of (.var 1)) .none (.one 4) (.rng (.cons (.glb 0) .nil)) .none [3, 4] [4])) .nil)
def b20 : PK.Ss := (.cons (.asg 1 false (.lst (.cons (.tup .nil) .nil))) (.cons (.fr (.one 2) (.rng (.cons (.var 0) .nil)) l20_1) (.cons (.ret (.var 1)) .nil)))
def f20 : PK.Def := ⟨1, false, 5, b20⟩
def d20 : PK.DI := ⟨"all_words", ["length", "found", "_", "word", "sign"], ["length"], topS 29⟩
/-- plain_list -/
def l21_1 : PK.Ss := (.cons (.app 6 (.idx (.comp (.var 7) (.one 7) (.of (.call 20 (.cons (.var 1) .nil))) (.some (.nt (.bi .any (.cons (.comp (.call 8 (.cons (.var 2) (.cons (.var 7) .nil))) (.one 2) (.of (.var 6)) .none [2]) .nil)))) [7]) (.lit (.int 0)))) .nil)
def b21 : PK.Ss := (.cons (.ite (.or (.cons (.nt (.isa (.var 0) .tuple)) (.cons (.nt (.cmp2 .le .le (.lit (.int 1)) (.bi .len (.cons (.var 0) .nil)) (.glb 1))) .nil))) (.cons (.raise1 0 (.lit (.str "no lengths"))) .nil) .nil) (.cons (.ite (.nt (.bi .all (.cons (.comp (.and (.cons (.call 0 (.cons (.var 1) .nil)) (.cons (.cmp2 .le .le (.lit (.int 1)) (.var 1) (.glb 2)) .nil))) (.one 1) (.of (.var 0)) .none [1]) .nil))) (.cons (.raise1 0 (.lit (.str "no lengths"))) .nil) .nil) (.cons (.ite (.nt (.bi .all (.cons (.comp (.cmp .le (.var 2) (.var 3)) (.many [2, 3]) (.zip (.var 0) (.slc (.var 0) (.some (.lit (.int 1))) .none)) .none [2, 3]) .nil))) (.cons (.raise1 0 (.lit (.str "falling lengths"))) .nil) .nil) (.cons (.unp [4, 5] (.call 18 (.cons (.var 0) .nil))) (.cons (.ite (.cmp .gt (.var 4) (.var 5)) (.cons (.raiseF 1 (.lit (.str "weight"))) .nil) .nil) (.cons (.asg 6 true (.lst .nil)) (.cons (.fr (.one 1) (.of (.var 0)) l21_1) (.cons (.ret (.bi .tuple (.cons (.bi .sorted (.cons (.var 6) .nil)) .nil))) .nil))))))))
def f21 : PK.Def := ⟨1, false, 8, b21⟩
def d21 : PK.DI := ⟨"plain_list", ["lengths", "length", "one", "two", "n", "d", "found", "word"], ["lengths"], topS 30⟩
/-- _law_draw -/
def l22_1 : PK.Ss := (.cons (.asg 1 false (.bop .mod (.bi .int (.cons (.bop .add (.bop .add (.bop .mul (.var 1) (.lit (.int 48271))) (.bop .mod (.bi .abs (.cons (.bi .int (.cons (.var 2) .nil)) .nil)) (.lit (.int 65521)))) (.lit (.int 1))) .nil)) (.lit (.int 2147483647)))) .nil)
def b22 : PK.Ss := (.cons (.asg 1 false (.lit (.int 7))) (.cons (.fr (.one 2) (.of (.var 0)) l22_1) (.cons (.ret (.lst (.cons (.comp (.bi .abs (.cons (.bi .int (.cons (.var 2) .nil)) .nil)) (.one 2) (.of (.var 0)) .none [2]) (.cons (.neg (.lit (.int 1))) (.cons (.lit (.int 0)) (.cons (.var 1) .nil)))))) .nil)))
def f22 : PK.Def := ⟨1, false, 3, b22⟩
def d22 : PK.DI := ⟨"_law_draw", ["script", "seed", "cell"], ["script"], topS 32⟩
/-- _law_take -/
def b23 : PK.Ss := (.cons (.ite (.cmp .eq (.idx (.var 0) (.lit (.int 2))) (.lit (.int 0))) (.cons (.setI 0 (.lit (.int 1)) (.bop .add (.idx (.var 0) (.lit (.int 1))) (.lit (.int 1)))) (.cons (.ite (.cmp .lt (.idx (.var 0) (.lit (.int 1))) (.bi .len (.cons (.idx (.var 0) (.lit (.int 0))) .nil))) (.cons (.setI 0 (.lit (.int 2)) (.idx (.idx (.var 0) (.lit (.int 0))) (.idx (.var 0) (.lit (.int 1))))) .nil) .nil) (.cons (.ite (.cmp .eq (.idx (.var 0) (.lit (.int 2))) (.lit (.int 0))) (.cons (.setI 0 (.lit (.int 3)) (.bop .mod (.bi .int (.cons (.bop .add (.bop .mul (.idx (.var 0) (.lit (.int 3))) (.lit (.int 48271))) (.lit (.int 11))) .nil)) (.lit (.int 2147483647)))) (.cons (.setI 0 (.lit (.int 2)) (.idx (.var 0) (.lit (.int 3)))) .nil)) .nil) .nil))) .nil) (.cons (.asg 2 false (.bop .mod (.bi .int (.cons (.idx (.var 0) (.lit (.int 2))) .nil)) (.var 1))) (.cons (.setI 0 (.lit (.int 2)) (.bop .fdiv (.idx (.var 0) (.lit (.int 2))) (.var 1))) (.cons (.ret (.var 2)) .nil))))
def f23 : PK.Def := ⟨2, true, 3, b23⟩
def d23 : PK.DI := ⟨"_law_take", ["draw", "many", "found"], ["draw", "many"], topS 33⟩
/-- _law_says -/
def b24 : PK.Ss := (.cons (.ret (.and (.cons (.isa (.var 0) .bool) (.cons (.cmp .eq (.var 0) (.var 1)) .nil)))) .nil)
def f24 : PK.Def := ⟨2, false, 2, b24⟩
def d24 : PK.DI := ⟨"_law_says", ["value", "due"], ["value", "due"], topS 34⟩
/-- _law_list -/
def l25_1 : PK.Ss := (.cons (.asg 4 false (.bi .tuple (.cons (.comp (.cio 23 0 (.cons (.var 1) .nil)) (.one 5) (.rng (.cons (.bop .add (.lit (.int 1)) (.cio 23 0 (.cons (.lit (.int 3)) .nil))) .nil)) .none [5]) .nil))) (.cons (.ite (.cmp .nin (.var 4) (.var 2)) (.cons (.app 2 (.var 4)) .nil) .nil) .nil))
def b25 : PK.Ss := (.cons (.par [(1, false), (2, true)] (.cons (.bop .add (.lit (.int 2)) (.cio 23 0 (.cons (.lit (.int 2)) .nil))) (.cons (.lst .nil) .nil))) (.cons (.fr (.one 3) (.rng (.cons (.bop .add (.lit (.int 1)) (.cio 23 0 (.cons (.lit (.int 4)) .nil))) .nil)) l25_1) (.cons (.ret (.bi .tuple (.cons (.bi .sorted (.cons (.var 2) .nil)) .nil))) .nil)))
def f25 : PK.Def := ⟨1, true, 6, b25⟩
def d25 : PK.DI := ⟨"_law_list", ["draw", "top", "found", "turn", "word", "k"], ["draw"], topS 35⟩
/-- _law_begins -/
def b26 : PK.Ss := (.cons (.ret (.cmp .eq (.slc (.var 1) .none (.some (.bi .len (.cons (.var 0) .nil)))) (.var 0))) .nil)
def f26 : PK.Def := ⟨2, false, 2, b26⟩
def d26 : PK.DI := ⟨"_law_begins", ["one", "two"], ["one", "two"], topS 36⟩
/-- _law_odd_list -/
def b27 : PK.Ss := (.cons (.asg 2 false (.lst (.cons (.lit .none) (.cons (.tup .nil) (.cons (.lit (.int 5)) (.cons (.bi .list (.cons (.var 1) .nil)) (.cons (.bop .add (.var 1) (.slc (.var 1) .none (.some (.lit (.int 1))))) (.cons (.bop .add (.tup (.cons (.tup .nil) .nil)) (.var 1)) (.cons (.tup (.cons (.tup (.cons (.lit (.int 0)) (.cons (.lit (.int 3)) .nil))) .nil)) (.cons (.tup (.cons (.tup (.cons (.lit (.bool true)) .nil)) .nil)) (.cons (.tup (.cons (.lst (.cons (.lit (.int 0)) .nil)) .nil)) (.cons (.tup (.cons (.tup (.cons (.lit (.int 1)) .nil)) (.cons (.tup (.cons (.lit (.int 0)) .nil)) .nil))) (.cons (.tup (.cons (.bop .mul (.tup (.cons (.lit (.int 0)) .nil)) (.lit (.int 7))) .nil)) (.cons (.tup (.cons (.lit (.int 0)) .nil)) (.cons (.tup (.cons (.tup (.cons (.lit (.str "0")) .nil)) .nil)) (.cons (.tup (.cons (.tup (.cons (.neg (.lit (.int 1))) .nil)) .nil)) .nil)))))))))))))))) (.cons (.ret (.idx (.bop .add (.var 2) (.lst (.cons (.bi .tuple (.cons (.comp (.tup (.cons (.lit (.int 0)) (.cons (.lit (.int 0)) (.cons (.bi .int (.cons (.bop .fdiv (.var 3) (.lit (.int 9))) .nil)) (.cons (.bop .mod (.bi .int (.cons (.bop .fdiv (.var 3) (.lit (.int 3))) .nil)) (.lit (.int 3))) (.cons (.bop .mod (.bi .int (.cons (.var 3) .nil)) (.lit (.int 3))) .nil)))))) (.one 3) (.rng (.cons (.lit (.int 9)) .nil)) .none [3]) .nil)) .nil))) (.cio 23 0 (.cons (.lit (.int 15)) .nil)))) .nil))
def f27 : PK.Def := ⟨2, true, 4, b27⟩
def d27 : PK.DI := ⟨"_law_odd_list", ["draw", "words", "odd", "k"], ["draw", "words"], topS 37⟩
/-- _law_weight -/
def l28_1 : PK.Ss := (.cons (.ite (.and (.cons (.cmp .eq (.bop .mod (.bi .int (.cons (.var 1) .nil)) (.lit (.int 3))) (.lit (.int 0))) (.cons (.cmp .gt (.var 3) (.lit (.int 1))) .nil))) (.cons (.par [(1, false), (3, false)] (.cons (.bop .fdiv (.var 1) (.lit (.int 3))) (.cons (.bop .fdiv (.var 3) (.lit (.int 3))) .nil))) .nil) .nil) .nil)
def b28 : PK.Ss := (.cons (.asg 1 false (.bi .sum (.cons (.comp (.idx (.lst (.cons (.lit (.int 729)) (.cons (.lit (.int 243)) (.cons (.lit (.int 81)) (.cons (.lit (.int 27)) (.cons (.lit (.int 9)) (.cons (.lit (.int 3)) (.cons (.lit (.int 1)) .nil)))))))) (.var 2)) (.one 2) (.of (.var 0)) .none [2]) .nil))) (.cons (.asg 3 false (.lit (.int 729))) (.cons (.fr (.one 4) (.rng (.cons (.lit (.int 6)) .nil)) l28_1) (.cons (.ret (.tup (.cons (.var 1) (.cons (.var 3) .nil)))) .nil))))
def f28 : PK.Def := ⟨1, false, 5, b28⟩
def d28 : PK.DI := ⟨"_law_weight", ["lengths", "n", "length", "d", "turn"], ["lengths"], topS 38⟩
/-- _law_all -/
def l29_1 : PK.Ss := (.cons (.asg 3 false (.bop .add (.var 3) (.comp (.bop .add (.var 4) (.tup (.cons (.var 5) .nil))) (.one 5) (.rng (.cons (.lit (.int 3)) .nil)) .none [5]))) .nil)
def l29_2 : PK.Ss := (.cons (.asg 3 false (.lst .nil)) (.cons (.fr (.one 4) (.of (.var 1)) l29_1) (.cons (.asg 1 false (.var 3)) .nil)))
def b29 : PK.Ss := (.cons (.asg 1 false (.lst (.cons (.tup .nil) .nil))) (.cons (.fr (.one 2) (.rng (.cons (.var 0) .nil)) l29_2) (.cons (.ret (.var 1)) .nil)))
def f29 : PK.Def := ⟨1, false, 6, b29⟩
def d29 : PK.DI := ⟨"_law_all", ["length", "found", "turn", "longer", "word", "sign"], ["length"], topS 39⟩
/-- _law_plain -/
def l30_1 : PK.Ss := (.cons (.asg 3 false (.comp (.var 4) (.one 4) (.of (.call 29 (.cons (.var 2) .nil))) (.some (.nt (.bi .any (.cons (.comp (.call 26 (.cons (.var 5) (.cons (.var 4) .nil))) (.one 5) (.of (.var 1)) .none [5]) .nil)))) [4])) (.cons (.ite (.cmp .eq (.var 3) (.lst .nil)) (.cons (.ret (.lit (.str "<weight>"))) .nil) .nil) (.cons (.app 1 (.idx (.var 3) (.lit (.int 0)))) .nil)))
def b30 : PK.Ss := (.cons (.asg 1 true (.lst .nil)) (.cons (.fr (.one 2) (.of (.var 0)) l30_1) (.cons (.ret (.bi .tuple (.cons (.bi .sorted (.cons (.var 1) .nil)) .nil))) .nil)))
def f30 : PK.Def := ⟨1, false, 6, b30⟩
def d30 : PK.DI := ⟨"_law_plain", ["lengths", "found", "length", "free", "word", "one"], ["lengths"], topS 40⟩
/-- _law_told -/
def b31 : PK.Ss := (.cons (.tr (.cons (.ite (.cmp .eq (.var 0) (.lit (.int 0))) (.cons (.ret (.call 16 (.cons (.var 1) .nil))) .nil) .nil) (.cons (.ret (.ife (.cmp .eq (.var 0) (.lit (.int 1))) (.call 19 (.cons (.var 1) .nil)) (.call 21 (.cons (.var 1) .nil)))) .nil)) (.cons 0 none (.cons (.ret (.lit (.str "<malformed>"))) .nil) (.cons 1 (some 2) (.cons (.ret (.bop .add (.bop .add (.lit (.str "<")) (.att 2)) (.lit (.str ">")))) .nil) .nil))) .nil)
def f31 : PK.Def := ⟨2, false, 3, b31⟩
def d31 : PK.DI := ⟨"_law_told", ["which", "value", "refusal"], ["which", "value"], topS 41⟩
/-- law -/
def l32_1 : PK.Ss := (.cons (.asg 3 false (.cio 25 1 .nil)) (.cons (.ite (.cmp .eq (.cio 23 1 (.cons (.lit (.int 3)) .nil)) (.lit (.int 0))) (.cons (.asg 3 false (.slc (.tup (.cons (.tup (.cons (.lit (.int 0)) .nil)) (.cons (.tup (.cons (.lit (.int 1)) .nil)) (.cons (.tup (.cons (.lit (.int 2)) (.cons (.lit (.int 0)) .nil))) (.cons (.tup (.cons (.lit (.int 2)) (.cons (.lit (.int 1)) .nil))) (.cons (.tup (.cons (.lit (.int 2)) (.cons (.lit (.int 2)) .nil))) .nil)))))) .none (.some (.bop .add (.lit (.int 4)) (.cio 23 1 (.cons (.lit (.int 2)) .nil)))))) .nil) .nil) (.cons (.asg 4 false (.call 28 (.cons (.comp (.bi .len (.cons (.var 5) .nil)) (.one 5) (.of (.var 3)) .none [5]) .nil))) (.cons (.ite (.or (.cons (.cmp .ne (.bi .repr (.cons (.call 16 (.cons (.var 3) .nil)) .nil)) (.bi .repr (.cons (.var 4) .nil))) (.cons (.and (.cons (.call 14 (.cons (.var 3) .nil)) (.cons (.cmp .gt (.idx (.var 4) (.lit (.int 0))) (.idx (.var 4) (.lit (.int 1)))) .nil))) .nil))) (.cons (.ret (.lit (.bool false))) .nil) .nil) (.cons (.asg 6 false (.nt (.bi .any (.cons (.comp (.bi .any (.cons (.comp (.and (.cons (.cmp .ne (.var 7) (.var 8)) (.cons (.call 26 (.cons (.var 7) (.cons (.var 8) .nil))) .nil))) (.one 7) (.of (.var 3)) .none [7]) .nil)) (.one 8) (.of (.var 3)) .none [8]) .nil)))) (.cons (.asg 9 false (.and (.cons (.var 6) (.cons (.bi .all (.cons (.comp (.bi .any (.cons (.comp (.call 26 (.cons (.var 7) (.cons (.var 5) .nil))) (.one 7) (.of (.var 3)) .none [7]) .nil)) (.one 5) (.of (.call 29 (.cons (.lit (.int 3)) .nil))) .none [5]) .nil)) .nil)))) (.cons (.ite (.or (.cons (.nt (.call 24 (.cons (.call 15 (.cons (.var 3) .nil)) (.cons (.var 6) .nil)))) (.cons (.nt (.call 24 (.cons (.call 19 (.cons (.var 3) .nil)) (.cons (.var 9) .nil)))) .nil))) (.cons (.ret (.lit (.bool false))) .nil) .nil) (.cons (.asg 10 false (.bi .tuple (.cons (.bi .sorted (.cons (.comp (.bop .add (.lit (.int 1)) (.cio 23 1 (.cons (.lit (.int 4)) .nil))) (.one 11) (.rng (.cons (.bop .add (.lit (.int 1)) (.cio 23 1 (.cons (.lit (.int 8)) .nil))) .nil)) .none [11]) .nil)) .nil))) (.cons (.unp [12, 13] (.call 28 (.cons (.var 10) .nil))) (.cons (.asg 14 false (.call 30 (.cons (.var 10) .nil))) (.cons (.ite (.or (.cons (.cmp .ne (.cmp .eq (.var 14) (.lit (.str "<weight>"))) (.cmp .gt (.var 12) (.var 13))) (.cons (.cmp .ne (.bi .repr (.cons (.call 31 (.cons (.lit (.int 2)) (.cons (.var 10) .nil))) .nil)) (.bi .repr (.cons (.var 14) .nil))) .nil))) (.cons (.ret (.lit (.bool false))) .nil) .nil) .nil)))))))))))
def b32 : PK.Ss := (.cons (.asg 1 true (.call 22 (.cons (.var 0) .nil))) (.cons (.fr (.one 2) (.rng (.cons (.lit (.int 3)) .nil)) l32_1) (.cons (.asg 15 false (.cio 27 1 (.cons (.var 3) .nil))) (.cons (.asg 16 false (.idx (.lst (.cons (.lit .none) (.cons (.tup .nil) (.cons (.lit (.int 5)) (.cons (.bi .list (.cons (.var 10) .nil)) (.cons (.tup (.cons (.lit (.int 2)) (.cons (.lit (.int 1)) .nil))) (.cons (.tup (.cons (.lit (.int 0)) (.cons (.lit (.int 1)) .nil))) (.cons (.tup (.cons (.lit (.int 7)) .nil)) (.cons (.bop .mul (.tup (.cons (.lit (.int 1)) .nil)) (.lit (.int 9))) (.cons (.tup (.cons (.lit (.bool true)) .nil)) (.cons (.tup (.cons (.lit (.str "1")) .nil)) .nil))))))))))) (.cio 23 1 (.cons (.lit (.int 10)) .nil)))) (.cons (.ret (.cmp .eq (.bop .add (.comp (.call 31 (.cons (.var 17) (.cons (.var 15) .nil))) (.one 17) (.of (.tup (.cons (.lit (.int 0)) (.cons (.lit (.int 1)) .nil)))) .none [17]) (.lst (.cons (.call 31 (.cons (.lit (.int 2)) (.cons (.var 16) .nil))) .nil))) (.rep (.lst (.cons (.lit (.str "<malformed>")) .nil)) (.lit (.int 3))))) .nil)))))
def f32 : PK.Def := ⟨1, false, 18, b32⟩
def d32 : PK.DI := ⟨"law", ["script", "draw", "turn", "words", "due", "word", "prefix", "one", "two", "full", "lengths", "k", "n", "d", "made", "odd", "bad", "which"], ["script"], topS 42⟩
def cfg : PK.Cfg := ⟨[d0, d1, d2, d3, d4, d5, d6, d7, d8, d9, d10, d11, d12, d13, d14, d15, d16, d17, d18, d19, d20, d21, d22, d23, d24, d25, d26, d27, d28, d29, d30, d31, d32], ["SIGNS", "MOST_WORDS", "MOST_LENGTH"], ["Malformed", "Refused"], ["isinstance", "int", "bool", "abs", "tuple", "len", "all", "zip", "sorted", "any", "range", "list", "sum", "repr"], [none, (some "reason")]⟩
def globs : List (Str × PyData) := [("SIGNS", (.int 3)), ("MOST_WORDS", (.int 8)), ("MOST_LENGTH", (.int 6))]
def pg : PK.Prog := ⟨[f0, f1, f2, f3, f4, f5, f6, f7, f8, f9, f10, f11, f12, f13, f14, f15, f16, f17, f18, f19, f20, f21, f22, f23, f24, f25, f26, f27, f28, f29, f30, f31, f32], PK.globOf globs, 100000⟩
end L50
end

section
set_option Elab.async false
set_option linter.all false
set_option maxRecDepth 100000
set_option maxHeartbeats 4000000
/-! P50a: tails, by the program and by the law. -/
namespace P50
open PySem (PyData Str)
open PK L50

theorem call_eq {n f : Nat} {as : List PyData} {d : Def} (e : pg.defs[f]? = some d) (hl : as.length = d.np) : callAt pg (n + 1) f as = (exSs (pg.calls n) d.body (startE d as)).cr d := callAt_succ e hl
@[simp] theorem call_def (n f : Nat) (as : List PyData) : (pg.calls n).call f as = callAt pg n f as := rfl
@[simp] theorem io_def (n f : Nat) : (pg.calls n).io f = ioOf pg f := rfl
@[simp] theorem glob_0 (n : Nat) : (pg.calls n).glob 0 = some (.int 3) := rfl
@[simp] theorem glob_1 (n : Nat) : (pg.calls n).glob 1 = some (.int 8) := rfl
@[simp] theorem glob_2 (n : Nat) : (pg.calls n).glob 2 = some (.int 6) := rfl
@[simp] theorem io0 : ioOf pg 0 = false := rfl
@[simp] theorem io1 : ioOf pg 1 = false := rfl
@[simp] theorem io2 : ioOf pg 2 = false := rfl
@[simp] theorem io3 : ioOf pg 3 = false := rfl
@[simp] theorem io4 : ioOf pg 4 = false := rfl
@[simp] theorem io5 : ioOf pg 5 = false := rfl
@[simp] theorem io6 : ioOf pg 6 = false := rfl
@[simp] theorem io7 : ioOf pg 7 = false := rfl
@[simp] theorem io8 : ioOf pg 8 = false := rfl
@[simp] theorem io9 : ioOf pg 9 = false := rfl
@[simp] theorem io10 : ioOf pg 10 = false := rfl
@[simp] theorem io11 : ioOf pg 11 = false := rfl
@[simp] theorem io12 : ioOf pg 12 = false := rfl
@[simp] theorem io13 : ioOf pg 13 = false := rfl
@[simp] theorem io14 : ioOf pg 14 = false := rfl
@[simp] theorem io15 : ioOf pg 15 = false := rfl
@[simp] theorem io16 : ioOf pg 16 = false := rfl
@[simp] theorem io17 : ioOf pg 17 = false := rfl
@[simp] theorem io18 : ioOf pg 18 = false := rfl
@[simp] theorem io19 : ioOf pg 19 = false := rfl
@[simp] theorem io20 : ioOf pg 20 = false := rfl
@[simp] theorem io21 : ioOf pg 21 = false := rfl
@[simp] theorem io22 : ioOf pg 22 = false := rfl
@[simp] theorem io23 : ioOf pg 23 = true := rfl
@[simp] theorem io24 : ioOf pg 24 = false := rfl
@[simp] theorem io25 : ioOf pg 25 = true := rfl
@[simp] theorem io26 : ioOf pg 26 = false := rfl
@[simp] theorem io27 : ioOf pg 27 = true := rfl
@[simp] theorem io28 : ioOf pg 28 = false := rfl
@[simp] theorem io29 : ioOf pg 29 = false := rfl
@[simp] theorem io30 : ioOf pg 30 = false := rfl
@[simp] theorem io31 : ioOf pg 31 = false := rfl
@[simp] theorem io32 : ioOf pg 32 = false := rfl
@[simp] theorem fuel_def (n : Nat) : (pg.calls n).fuel = 100000 := rfl
theorem c_take (n : Nat) (d : PyData) (m : Int) (hd : Dr d) (h0 : 0 < m) (h1 : m < 1000) : ∃ r d', callAt pg (n + 1) 23 [d, .int m] = .ok false (.int r) (some d') ∧ Dr d' ∧ 0 ≤ r ∧ r < m := take_ok (pg.calls n) d m hd h0 h1
theorem c_draw (n : Nat) (ns : List Int) (h : ns.length ≤ 63) : ∃ d, callAt pg (n + 1) 22 [.list (ns.map .int)] = .ok true d none ∧ Dr d := draw_ok (pg.calls n) ns h
/-! ### what is begun with what -/
def beg (one two : List Int) : Bool := decide (two.take one.length = one)
def rest (t w : List Int) : Option (List Int) := if beg t w then some (w.drop t.length) else if beg w t then some (t.drop w.length) else none
def NT (W : List (List Int)) (t : List Int) : List (List Int) := (W.filterMap (rest t)).filter fun r => !decide (r = [])
def FT (W : List (List Int)) : List (List Int) := W.flatMap fun one => (W.filter fun two => !decide (one = two) && beg one two).map fun two => two.drop one.length
@[simp] theorem c_beg (n : Nat) (a b : List Int) : callAt pg (n + 1) 8 [wd a, wd b] = .ok false (.bool (beg a b)) none := by
  rw [call_eq (d := f8) rfl rfl]
  simp [f8, b8, startE, endD, beg]
@[simp] theorem c_lbeg (n : Nat) (a b : List Int) : callAt pg (n + 1) 26 [wd a, wd b] = .ok false (.bool (beg a b)) none := by
  rw [call_eq (d := f26) rfl rfl]
  simp [f26, b26, startE, endD, beg]
def optD : Option (List Int) → PyData
  | some r => wd r
  | none => .none
def optL : Option (List Int) → List (List Int)
  | some r => [r]
  | none => []
@[simp] theorem optD_s (r : List Int) : optD (some r) = wd r := rfl
@[simp] theorem optD_n : optD none = .none := rfl
@[simp] theorem optL_s (r : List Int) : optL (some r) = [r] := rfl
@[simp] theorem optL_n : optL none = [] := rfl
@[simp] theorem cop_isn (x : PyData) : cop .isn x .none = some (!isNone x) := rfl
@[simp] theorem cop_is (x : PyData) : cop .is x .none = some (isNone x) := rfl
@[simp] theorem isN_none : isNone .none = true := rfl
@[simp] theorem isN_tup (ds : List PyData) : isNone (.tuple ds) = false := rfl
@[simp] theorem noL_opt (r : Option (List Int)) : noList (optD r) = true := by cases r <;> simp [optD]
@[simp] theorem c_rest (n : Nat) (a b : List Int) : callAt pg (n + 2) 9 [wd a, wd b] = .ok false (optD (rest a b)) none := by
  rw [call_eq (d := f9) rfl rfl]
  cases h1 : beg a b <;> cases h2 : beg b a <;> simp [f9, b9, startE, endD, rest, h1, h2, optD]
theorem c_next (n : Nat) (W : List (List Int)) (t : List Int) (hl : W.length ≤ 100) : callAt pg (n + 3) 10 [wds W, wd t] = .ok true (wlist (NT W t)) none := by
  rw [call_eq (d := f10) rfl rfl]
  have h1 : evE (pg.calls (n + 2)) (.comp (.call 9 (.cons (.var 1) (.cons (.var 3) .nil))) (.one 3) (.of (.var 0)) .none [3]) [.va (wds W), .va (wd t), .un, .un, .un] = .ok (.nw (.list (W.map fun w => optD (rest t w))), [.va (wds W), .va (wd t), .un, .un, .un]) := by
    rw [ev_comp, compF_map wd (fun w => some (optD (rest t w))) W, filterMap_some]
    · simp
    · intro w _
      exact ⟨[.va (wds W), .va (wd t), .un, .va (wd w), .un], by simp [turnF, wipe], rfl⟩
    · exact le_line (by omega)
  have h2 : evE (pg.calls (n + 2)) (.comp (.var 4) (.one 4) (.of (.var 2)) (.some (.and (.cons (.cmp .isn (.var 4) (.lit .none)) (.cons (.cmp .gt (.bi .len (.cons (.var 4) .nil)) (.lit (.int 0))) .nil)))) [4]) [.va (wds W), .va (wd t), .va (.list (W.map fun w => optD (rest t w))), .un, .un] =
      .ok (.nw (wlist (NT W t)), [.va (wds W), .va (wd t), .va (.list (W.map fun w => optD (rest t w))), .un, .un]) := by
    rw [ev_comp, compF_map (fun w => optD (rest t w)) (fun w => match rest t w with | some [] => none | some r => some (wd r) | none => none) W]
    · congr 3
      unfold wlist NT
      congr 1
      induction W with
      | nil => rfl
      | cons w W ih =>
        have ih := ih (by simp only [List.length_cons] at hl; omega) (by
          rw [ev_comp, compF_map wd (fun w => some (optD (rest t w))) W, filterMap_some]
          · simp
          · intro w _
            exact ⟨[.va (wds W), .va (wd t), .un, .va (wd w), .un], by simp [turnF, wipe], rfl⟩
          · simp only [List.length_cons] at hl; exact le_line (by omega))
        rw [List.filterMap_cons, List.filterMap_cons]
        cases h : rest t w with
        | none => exact ih
        | some r => cases r <;> simp [ih]
    · simp
    · intro w _
      refine ⟨[.va (wds W), .va (wd t), .va (.list (W.map fun w => optD (rest t w))), .un, .va (optD (rest t w))], ?_, rfl⟩
      cases h : rest t w with
      | none => simp [turnF, wipe, h]
      | some r =>
        cases r with
        | nil => simp [turnF, wipe, h]
        | cons x r =>
          have : (0 : Int) < (r.length : Int) + 1 := by omega
          simp [turnF, wipe, h, this]
    · exact le_line (by omega)
  simp [f10, b10, startE, h1, h2, endD, -ev_comp]
end P50
end

section
set_option Elab.async false
set_option linter.all false
set_option maxRecDepth 100000
set_option maxHeartbeats 4000000
/-! P50b: first and next tails. -/
namespace P50
open PySem (PyData Str)
open PK L50

/-- the tails that one word leaves of others -/
def F1 (W : List (List Int)) (one : List Int) : List (List Int) := (W.filter fun two => !decide (one = two) && beg one two).map fun two => two.drop one.length
theorem FT_eq (W : List (List Int)) : FT W = W.flatMap (F1 W) := rfl
theorem F1_len (W : List (List Int)) (one : List Int) : (F1 W one).length ≤ W.length := by
  unfold F1
  rw [List.length_map]
  exact List.length_filter_le _ _
theorem FTo_len (W : List (List Int)) : ∀ D : List (List Int), (D.flatMap (F1 W)).length ≤ D.length * W.length
  | [] => by simp
  | d :: D => by
    rw [List.flatMap_cons, List.length_append, List.length_cons, Nat.succ_mul]
    have := FTo_len W D
    have := F1_len W d
    omega
theorem F1_fm (V : List (List Int)) (one : List Int) : V.filterMap (fun two => if !decide (one = two) && beg one two then some (wd (two.drop one.length)) else none) = ((V.filter fun two => !decide (one = two) && beg one two).map fun two => two.drop one.length).map wd := by
  induction V with
  | nil => rfl
  | cons v V ih =>
    rw [List.filterMap_cons, List.filter_cons]
    cases h : (!decide (one = v) && beg one v)
    · simp only [Bool.false_eq_true, if_false]; exact ih
    · simp only [if_true, List.map_cons]; rw [ih]
theorem sq_line {W : List (List Int)} (hl : W.length ≤ 100) : W.length * W.length ≤ 10000 := Nat.mul_le_mul hl hl
theorem c_first (n : Nat) (W : List (List Int)) (hl : W.length ≤ 100) : callAt pg (n + 2) 11 [wds W] = .ok true (wlist (FT W)) none := by
  rw [call_eq (d := f11) rfl rfl]
  have h1 : evE (pg.calls (n + 1)) (.comp2 (.slc (.var 2) (.some (.bi .len (.cons (.var 1) .nil))) .none) (.one 1) (.of (.var 0)) .none (.one 2) (.of (.var 0)) (.some (.and (.cons (.cmp .ne (.var 1) (.var 2)) (.cons (.call 8 (.cons (.var 1) (.cons (.var 2) .nil))) .nil)))) [1, 2] [2]) [.va (wds W), .un, .un] =
      .ok (.nw (wlist (FT W)), [.va (wds W), .un, .un]) := by
    rw [ev_comp2, comp2F_map wd (fun _ => W.map wd) (fun one y => (isInts y).bind fun two => if !decide (one = two) && beg one two then some (wd (two.drop one.length)) else none) W W.length]
    · congr 3
      unfold wlist FT
      rw [List.map_flatMap]
      congr 1
      apply congrArg (fun f => List.flatMap f W)
      funext one
      rw [List.filterMap_map, ← F1_fm]
      congr 1
      funext two
      simp only [Function.comp, wd_iT, isInts_of, Option.bind_some]
    · decide
    · simp
    · intro one _
      refine ⟨[.va (wds W), .va (wd one), .un], by simp [turn2F, wipe, of1F], rfl, by simp, ?_⟩
      intro y hy
      obtain ⟨two, _, rfl⟩ := List.mem_map.mp hy
      refine ⟨[.va (wds W), .va (wd one), .va (wd two)], ?_, rfl⟩
      have ei : isInts (wd two) = some two := isInts_of two
      rw [ei]
      cases h1 : decide (one = two) <;> cases h2 : beg one two <;> simp [turnF, wipe, h1, h2]
      all_goals simp_all
    · exact Nat.le_trans (sq_line hl) (by unfold line; omega)
  simp [f11, b11, startE, h1, endD, -ev_comp2]
/-- .. of some words -/
def N1 (t : List Int) (w : List Int) : List (List Int) := (optL (rest t w)).filter fun r => !decide (r = [])
theorem NT_eq (W : List (List Int)) (t : List Int) : NT W t = W.flatMap (N1 t) := by
  unfold NT
  induction W with
  | nil => rfl
  | cons w W ih =>
    rw [List.filterMap_cons, List.flatMap_cons, ← ih]
    unfold N1
    cases h : rest t w with
    | none => rfl
    | some r => rw [optL_s, List.filter_cons, List.filter_cons]; split <;> rfl
theorem NT_len (W : List (List Int)) (t : List Int) : (NT W t).length ≤ W.length := by
  unfold NT
  exact Nat.le_trans (List.length_filter_le _ _) (List.length_filterMap_le _ _)
theorem N1_len (t w : List Int) : (N1 t w).length ≤ 1 := by
  unfold N1
  refine Nat.le_trans (List.length_filter_le _ _) ?_
  cases rest t w <;> simp
theorem NTo_len (t : List Int) : ∀ D : List (List Int), (D.flatMap (N1 t)).length ≤ D.length
  | [] => by simp
  | d :: D => by
    rw [List.flatMap_cons, List.length_append, List.length_cons]
    have := NTo_len t D
    have := N1_len t d
    omega
end P50
end

section
set_option Elab.async false
set_option linter.all false
set_option maxRecDepth 100000
set_option maxHeartbeats 4000000
/-! P50c: words, lists of words, rows: what is one, and what is not. -/
namespace P50
open PySem (PyData Str)
open PK L50

def isW (v : PyData) : Bool := match v with
  | .int _ => true
  | _ => false
@[simp] theorem isW_int (i : Int) : isW (.int i) = true := rfl
@[simp] theorem c_whole (n : Nat) (v : PyData) : callAt pg (n + 1) 0 [v] = .ok false (.bool (isW v)) none := by
  rw [call_eq (d := f0) rfl rfl]
  cases v <;> rfl
/-- a whole number from 0 on, below m -/
def isP (m : Int) (v : PyData) : Bool := match v with
  | .int i => decide (0 ≤ i) && decide (i < m)
  | _ => false
def isWord (v : PyData) : Bool := match v with
  | .tuple ds => decide (ds.length ≤ 6) && ds.all (isP 3)
  | _ => false
/-- a word with signs -/
def isTl (v : PyData) : Bool := match v with
  | .tuple ds => isWord (.tuple ds) && !ds.isEmpty
  | _ => false
def isRow (m : Int) (v : PyData) : Bool := match v with
  | .tuple ds => !ds.isEmpty && ds.all (isP m)
  | _ => false
/-- data whose tuples are short, so far down -/
def Nc (d : PyData) : Prop := shap d = true ∧ ∀ ds, d = .tuple ds → ds.length ≤ 1000
def Nn : Nat → PyData → Prop
  | 0, d => Nc d
  | k + 1, d => Nc d ∧ ∀ ds, d = .tuple ds → ∀ x ∈ ds, Nn k x
theorem Nn.nc : ∀ {k : Nat} {d : PyData}, Nn k d → Nc d
  | 0, _, h => h
  | _ + 1, _, h => h.1
theorem Nn.len {k : Nat} {ds : List PyData} (h : Nn k (.tuple ds)) : ds.length ≤ 1000 := h.nc.2 ds rfl
theorem Nn.sh {k : Nat} {d : PyData} (h : Nn k d) : shap d = true := h.nc.1
theorem Nn.of {k : Nat} {ds : List PyData} {x : PyData} (h : Nn (k + 1) (.tuple ds)) (hx : x ∈ ds) : Nn k x := h.2 ds rfl x hx
theorem Nn.down : ∀ {k : Nat} {d : PyData}, Nn (k + 1) d → Nn k d
  | 0, _, h => h.1
  | k + 1, _, h => ⟨h.1, fun ds e x hx => (h.2 ds e x hx).down⟩
/-- all(is_whole(x) and 0 <= x < m for x in ds) -/
theorem t_places (n : Nat) (C : E) (m : Int) (ds : List PyData) (s0 s1 s2 : Slot) (hl : ds.length ≤ 1000) {e : E} {j : Nat} (he : e = .and (.cons (.call 0 (.cons (.var 2) .nil)) (.cons (.cmp2 .le .lt (.lit (.int 0)) (.var 2) C) .nil))) {it : It}
    (hi : evI (pg.calls (n + 1)) it [s0, s1, .un] = .ok ⟨ds, [s0, s1, .un], []⟩) (hC : ∀ x, evE (pg.calls (n + 1)) C [s0, s1, .va x] = .ok (.val (.int m), [s0, s1, .va x])) :
    evE (pg.calls (n + 1)) (.comp e (.one 2) it .none [2]) [s0, s1, .un] = .ok (.nw (.list (ds.map fun x => .bool (isP m x))), [s0, s1, .un]) := by
  subst he
  rw [ev_comp, compF_pure (fun x => some (.bool (isP m x))) hi, filterMap_some]
  · intro x hx
    refine ⟨[s0, s1, .va x], ?_, rfl⟩
    have hC := hC x
    cases x with
    | int i =>
      by_cases h : 0 ≤ i <;> simp [turnF, wipe, isP, h, hC]
    | _ => simp [turnF, wipe, isP, isW]
  · exact le_line hl
theorem c_word (n : Nat) (v : PyData) (hv : Nc v) : callAt pg (n + 2) 5 [v, .int 6] = .ok false (.bool (isWord v)) none := by
  rw [call_eq (d := f5) rfl rfl]
  cases v with
  | tuple ds =>
    have hl := hv.2 ds rfl
    have hc := t_places n (.glb 0) 3 ds (.va (.tuple ds)) (.va (.int 6)) .un hl rfl (j := 0) (it := .of (.var 0)) (by simp) (fun x => by simp)
    by_cases h6 : ds.length ≤ 6
    · have h6' : ¬ (6 : Int) < ds.length := by omega
      simp [f5, b5, startE, hc, all_map, endD, isWord, h6, h6', -ev_comp]
    · have h6' : (6 : Int) < ds.length := by omega
      simp [f5, b5, startE, hc, all_map, endD, isWord, h6, h6', -ev_comp]
  | _ => rfl
theorem isP_int {m : Int} {v : PyData} (h : isP m v = true) : ∃ i : Int, v = .int i ∧ 0 ≤ i ∧ i < m := by
  cases v with
  | int i => simp only [isP, Bool.and_eq_true, decide_eq_true_eq] at h; exact ⟨i, rfl, h⟩
  | _ => cases h
theorem all_P {m : Int} : ∀ {ds : List PyData}, ds.all (isP m) = true → ∃ l : List Int, ds = l.map .int ∧ ∀ i ∈ l, 0 ≤ i ∧ i < m
  | [], _ => ⟨[], rfl, fun _ h => nomatch h⟩
  | d :: ds, h => by
    rw [List.all_cons, Bool.and_eq_true] at h
    obtain ⟨l, rfl, hl⟩ := all_P h.2
    obtain ⟨i, rfl, h0⟩ := isP_int h.1
    exact ⟨i :: l, rfl, fun j hj => (List.mem_cons.mp hj).elim (fun e => e ▸ h0) (hl j)⟩
theorem P_all {m : Int} {l : List Int} (h : ∀ i ∈ l, 0 ≤ i ∧ i < m) : (l.map PyData.int).all (isP m) = true := by
  rw [List.all_map, List.all_eq_true]
  intro i hi
  simp [isP, h i hi]
/-- signs -/
def Wd (l : List Int) : Prop := l.length ≤ 6 ∧ l ≠ [] ∧ ∀ i ∈ l, 0 ≤ i ∧ i < 3
theorem tl_wd {l : List Int} (h : Wd l) : isTl (wd l) = true := by
  show (decide ((l.map PyData.int).length ≤ 6) && (l.map PyData.int).all (isP 3) && !(l.map PyData.int).isEmpty) = true
  rw [P_all h.2.2]
  cases l with
  | nil => exact absurd rfl h.2.1
  | cons x l =>
    have := h.1
    simp only [List.length_cons] at this
    simp [this]
theorem tl_of {v : PyData} (h : isTl v = true) : ∃ l, v = wd l ∧ Wd l := by
  cases v with
  | tuple ds =>
    simp only [isTl, isWord, Bool.and_eq_true, decide_eq_true_eq] at h
    obtain ⟨l, rfl, hl⟩ := all_P h.1.2
    refine ⟨l, rfl, by simpa using h.1.1, ?_, hl⟩
    rintro rfl
    simp at h
  | _ => cases h
theorem tls_of : ∀ {ds : List PyData}, ds.all isTl = true → ∃ T : List (List Int), ds = T.map wd ∧ ∀ t ∈ T, Wd t
  | [], _ => ⟨[], rfl, fun _ h => nomatch h⟩
  | d :: ds, h => by
    rw [List.all_cons, Bool.and_eq_true] at h
    obtain ⟨T, rfl, hT⟩ := tls_of h.2
    obtain ⟨l, rfl, hl⟩ := tl_of h.1
    exact ⟨l :: T, rfl, fun j hj => (List.mem_cons.mp hj).elim (fun e => by rw [e]; exact hl) (hT j)⟩
theorem tls_wds {T : List (List Int)} (h : ∀ t ∈ T, Wd t) : (T.map wd).all isTl = true := by
  rw [List.all_map, List.all_eq_true]
  exact fun t ht => tl_wd (h t ht)
theorem nc_wd {l : List Int} (h : l.length ≤ 1000) : Nc (wd l) := ⟨shap_wd l, fun ds e => by cases e; simpa using h⟩
theorem nc_wds {T : List (List Int)} (h : T.length ≤ 1000) : Nc (wds T) := ⟨shap_wds T, fun ds e => by cases e; simpa using h⟩
/-- the words ascend -/
def asc (W : List (List Int)) : Bool := (W.zip (W.drop 1)).all fun p => ltW p.1 p.2
theorem asc_of : ∀ {W : List (List Int)}, W.Pairwise (fun a b => ltW a b = true) → asc W = true
  | [], _ => rfl
  | [_], _ => rfl
  | a :: b :: W, h => by
    have h := List.pairwise_cons.mp h
    have ih := asc_of h.2
    show (ltW a b && asc (b :: W)) = true
    rw [ih, h.1 b List.mem_cons_self]
    rfl
theorem zip_wds (W : List (List Int)) : zipD (W.map wd) ((W.map wd).drop 1) = (W.zip (W.drop 1)).map fun p => .tuple [wd p.1, wd p.2] := by
  rw [← List.map_drop]
  generalize W.drop 1 = V
  unfold zipD
  rw [List.zipWith_map, List.zip, List.map_zipWith]
theorem i_zip (C : Calls) (a b : E) (g : Env) : evI C (.zip a b) g = (evE C a g).bind fun p => (evE C b p.2).bind fun r => (Res.of ((p.1.get r.2).bind fun x => (r.1.get r.2).bind fun y => sameK x y)).bind fun _ => (Res.of (lock1 r.2 p.1)).bind fun q => (Res.of (lock1 q.2.1 r.1)).bind fun s =>
      .ok ⟨zipD q.1 s.1, s.2.1, s.2.2 ++ q.2.2⟩ := rfl
theorem Wd.ne {l : List Int} (h : Wd l) : l ≠ [] := h.2.1
/-- a list of words, as it should be -/
def Ls (W : List (List Int)) : Prop := 1 ≤ W.length ∧ W.length ≤ 8 ∧ (∀ w ∈ W, Wd w) ∧ asc W = true
theorem t_words (n : Nat) (ds : List PyData) (s0 : Slot) (hl : ds.length ≤ 1000) (hn : ∀ x ∈ ds, Nc x) :
    evE (pg.calls (n + 2)) (.comp (.and (.cons (.call 5 (.cons (.var 1) (.cons (.glb 2) .nil))) (.cons (.cmp .gt (.bi .len (.cons (.var 1) .nil)) (.lit (.int 0))) .nil))) (.one 1) (.of (.var 0)) .none [1]) [.va (.tuple ds), .un, .un, .un] = .ok (.nw (.list (ds.map fun x => .bool (isTl x))), [.va (.tuple ds), .un, .un, .un]) := by
  rw [ev_comp, compF_pure (fun x => some (.bool (isTl x))) (xs := ds), filterMap_some]
  · simp
  · intro x hx
    refine ⟨[.va (.tuple ds), .va x, .un, .un], ?_, rfl⟩
    have hc := c_word n x (hn x hx)
    cases hw : isWord x with
    | false =>
      rw [hw] at hc
      have : isTl x = false := by
        cases x with
        | tuple ds => simp only [isTl, hw, Bool.false_and]
        | _ => rfl
      simp [turnF, wipe, hc, this]
    | true =>
      rw [hw] at hc
      cases x with
      | tuple es =>
        by_cases h0 : es = []
        · subst h0
          simp [turnF, wipe, hc, isTl]
        · have h1 : es.isEmpty = false := by cases es with | nil => exact absurd rfl h0 | cons _ _ => rfl
          have h2 : 0 < es.length := List.length_pos_iff.mpr h0
          have h2' : (0 : Int) < es.length := by omega
          simp [turnF, wipe, hc, isTl, hw, h1, h2, h2', h0]
      | _ => cases hw
  · exact le_line hl
theorem c_list (n : Nat) (v : PyData) (hv : Nn 1 v) : ∃ b, callAt pg (n + 3) 6 [v] = .ok false (.bool b) none ∧ (b = true ↔ ∃ W, v = wds W ∧ Ls W) := by
  rw [call_eq (d := f6) rfl rfl]
  cases v with
  | tuple ds =>
    have hl := hv.len
    have h1 := t_words n ds .un hl (fun x hx => hv.of hx)
    have hg : (pg.calls (n + 2)).glob 1 = some (.int 8) := rfl
    by_cases hlen : 1 ≤ ds.length ∧ ds.length ≤ 8
    · have a1 : (1 : Int) ≤ ds.length := by omega
      have a2 : (ds.length : Int) ≤ 8 := by omega
      have a3 : 1 ≤ ds.length := hlen.1
      have a4 : ¬ ds = [] := fun e => by subst e; exact absurd a3 (by decide)
      cases hall : ds.all isTl with
      | false =>
        refine ⟨false, ?_, ⟨(fun e => nomatch e), fun ⟨W, e, hW⟩ => ?_⟩⟩
        · simp [f6, b6, startE, h1, all_map, hall, endD, a1, a2, a3, a4, -ev_comp]
        · cases e
          rw [tls_wds hW.2.2.1] at hall
          cases hall
      | true =>
        obtain ⟨T, rfl, hT⟩ := tls_of hall
        have hc : evE (pg.calls (n + 2)) (.comp (.cmp .lt (.var 2) (.var 3)) (.many [2, 3]) (.zip (.var 0) (.slc (.var 0) (.some (.lit (.int 1))) .none)) .none [2, 3]) [.va (.tuple (T.map wd)), .un, .un, .un] =
            .ok (.nw (.list ((T.zip (T.drop 1)).map fun p => .bool (ltW p.1 p.2))), [.va (.tuple (T.map wd)), .un, .un, .un]) := by
          rw [ev_comp, compF_map (fun p : List Int × List Int => .tuple [wd p.1, wd p.2]) (fun p => some (.bool (ltW p.1 p.2))) (T.zip (T.drop 1)), filterMap_some]
          · have : slc (.tuple (T.map wd)) (some (.int 1)) none = some (false, .tuple ((T.map wd).drop 1)) := slc_drop _ 1
            rw [← zip_wds]
            simp [i_zip, this, sameK, -List.drop_one]
          · intro p _
            exact ⟨[.va (.tuple (T.map wd)), .un, .va (wd p.1), .va (wd p.2)], by simp [turnF, wipe], rfl⟩
          · rw [List.length_zip, List.length_drop]
            rw [List.length_map] at hl
            exact le_line (by omega)
        refine ⟨asc T, ?_, ⟨fun e => ⟨T, rfl, by simpa using hlen.1, by simpa using hlen.2, hT, e⟩, fun ⟨W, e, hW⟩ => ?_⟩⟩
        · have hz : bi .all [.list ((T.zip (T.drop 1)).map fun p => .bool (ltW p.1 p.2))] = some (false, .bool (asc T)) := all_map _ _
          generalize (T.zip (T.drop 1)).map (fun p => PyData.bool (ltW p.1 p.2)) = q at hz hc
          generalize T.map wd = ds at *
          simp [f6, b6, startE, h1, hc, all_map, hall, endD, a1, a2, a3, a4, hz, -ev_comp]
        · have : T = W := by
            have e' := PyData.tuple.inj e
            exact (List.map_inj_right (fun x y e => wd_inj e)).mp e'
          rw [this]
          exact hW.2.2.2
    · refine ⟨false, ?_, ⟨(fun e => nomatch e), fun ⟨W, e, hW⟩ => ?_⟩⟩
      · have hor : ds.length = 0 ∨ 8 < ds.length := by omega
        rcases hor with h | h
        · have : ds = [] := List.length_eq_zero_iff.mp h
          subst this
          simp [f6, b6, startE, endD, -ev_comp]
        · have a1 : (1 : Int) ≤ ds.length := by omega
          have a2 : ¬ (ds.length : Int) ≤ 8 := by omega
          have a3 : 1 ≤ ds.length := by omega
          have a4 : ¬ ds = [] := fun e => by subst e; exact absurd a3 (by decide)
          simp [f6, b6, startE, endD, a1, a2, a3, a4, -ev_comp]
      · cases e
        have h1 := hW.1
        have h2 := hW.2.1
        simp only [List.length_map] at hlen
        omega
  | _ => exact ⟨false, rfl, ⟨(fun e => nomatch e), fun ⟨W, e, _⟩ => nomatch e⟩⟩
theorem c_check (n : Nat) (W : List (List Int)) (h : Ls W) : callAt pg (n + 4) 7 [wds W] = .ok false .none none := by
  obtain ⟨b, e, hb⟩ := c_list n (wds W) ⟨nc_wds (by have := h.2.1; omega), fun ds e x hx => by
    cases e
    obtain ⟨w, hw, rfl⟩ := List.mem_map.mp hx
    exact nc_wd (by have := (h.2.2.1 w hw).1; omega)⟩
  rw [hb.mpr ⟨W, rfl, h⟩] at e
  rw [call_eq (d := f7) rfl rfl]
  simp [f7, b7, startE, e, endD, Out.cr]
theorem c_checkNot (n : Nat) (v : PyData) (hv : Nn 1 v) (h : ∀ W, v = wds W → ¬ Ls W) : callAt pg (n + 4) 7 [v] = .exc 0 (.str "no list") := by
  obtain ⟨b, e, hb⟩ := c_list n v hv
  have : b = false := by
    cases b with
    | false => rfl
    | true => obtain ⟨W, e, hW⟩ := hb.mp rfl; exact absurd hW (h W e)
  rw [this] at e
  rw [call_eq (d := f7) rfl rfl]
  simp [f7, b7, startE, e, endD, Out.cr]
end P50
end

section
set_option Elab.async false
set_option linter.all false
set_option maxRecDepth 100000
set_option maxHeartbeats 4000000
/-! P50d: the word of a row; tails. -/
namespace P50
open PySem (PyData Str)
open PK L50

def mk1 (W : List (List Int)) (i : Int) : List Int := (W[i.toNat]?).getD []
def mk (W : List (List Int)) (r : List Int) : List Int := r.flatMap (mk1 W)
/-- places -/
def Pl (W : List (List Int)) (r : List Int) : Prop := ∀ i ∈ r, 0 ≤ i ∧ i < W.length
theorem mk1_mem {W : List (List Int)} {i : Int} (h : 0 ≤ i ∧ i < W.length) : W[i.toNat]? = some (mk1 W i) ∧ mk1 W i ∈ W := by
  have hi : i.toNat < W.length := by omega
  have e : W[i.toNat]? = some W[i.toNat] := List.getElem?_eq_getElem hi
  unfold mk1
  rw [e]
  exact ⟨rfl, List.getElem_mem hi⟩
theorem ix_wds {W : List (List Int)} {i : Int} (h : 0 ≤ i ∧ i < W.length) : ix (wds W) (.int i) = some (wd (mk1 W i)) := by
  obtain ⟨k, rfl⟩ := Int.eq_ofNat_of_zero_le h.1
  refine ix_natT ?_
  rw [List.getElem?_map]
  have := (mk1_mem h).1
  simp only [Int.toNat_natCast] at this
  rw [this]
  rfl
theorem mk_len {W : List (List Int)} (hW : ∀ w ∈ W, w.length ≤ 6) : ∀ {r : List Int}, Pl W r → (mk W r).length ≤ r.length * 6
  | [], _ => by simp [mk]
  | i :: r, h => by
    have h1 := mk_len hW (r := r) fun j hj => h j (List.mem_cons_of_mem _ hj)
    have h2 := hW _ (mk1_mem (h i List.mem_cons_self)).2
    show (List.flatMap (mk1 W) (i :: r)).length ≤ _
    rw [List.flatMap_cons, List.length_append, List.length_cons]
    have h3 : (List.flatMap (mk1 W) r).length ≤ r.length * 6 := h1
    omega
/-- what a list of tails must be -/
def tailsOk (W T : List (List Int)) : Bool := asc T && !(T.any fun t => decide (t ∈ W)) && (FT W ++ T.flatMap (NT W)).all fun t => decide (t ∈ T)
theorem t_words2 (n : Nat) (s0 s3 s4 s5 s6 : Slot) (ds : List PyData) (hl : ds.length ≤ 1000) (hn : ∀ x ∈ ds, Nc x) :
    evE (pg.calls (n + 2)) (.comp (.and (.cons (.call 5 (.cons (.var 2) (.cons (.glb 2) .nil))) (.cons (.cmp .gt (.bi .len (.cons (.var 2) .nil)) (.lit (.int 0))) .nil))) (.one 2) (.of (.var 1)) .none [2]) [s0, .va (.tuple ds), .un, s3, s4, s5, s6] = .ok (.nw (.list (ds.map fun x => .bool (isTl x))), [s0, .va (.tuple ds), .un, s3, s4, s5, s6]) := by
  rw [ev_comp, compF_pure (fun x => some (.bool (isTl x))) (xs := ds), filterMap_some]
  · simp
  · intro x hx
    refine ⟨[s0, .va (.tuple ds), .va x, s3, s4, s5, s6], ?_, rfl⟩
    have hc := c_word n x (hn x hx)
    cases hw : isWord x with
    | false =>
      rw [hw] at hc
      have : isTl x = false := by
        cases x with
        | tuple ds => simp only [isTl, hw, Bool.false_and]
        | _ => rfl
      simp [turnF, wipe, hc, this]
    | true =>
      rw [hw] at hc
      cases x with
      | tuple es =>
        by_cases h0 : es = []
        · subst h0
          simp [turnF, wipe, hc, isTl]
        · have h1 : es.isEmpty = false := by cases es with | nil => exact absurd rfl h0 | cons _ _ => rfl
          have h2 : 0 < es.length := List.length_pos_iff.mpr h0
          have h2' : (0 : Int) < es.length := by omega
          simp [turnF, wipe, hc, isTl, hw, h1, h2, h2', h0]
      | _ => cases hw
  · exact le_line hl
theorem any_map {α : Type} (f : α → Bool) (l : List α) : bi .any [.list (l.map fun x => .bool (f x))] = some (false, .bool (l.any f)) := by
  simp only [bi, boolsD_map, Option.map_some]
  congr 2
  simp [List.any_map]
/-- what is a list of tails -/
def isTails (W : List (List Int)) (v : PyData) (b : Bool) : Prop := (b = true ↔ ∃ T, v = wds T ∧ (∀ t ∈ T, Wd t) ∧ tailsOk W T = true)
theorem wds_inj {T V : List (List Int)} (h : wds T = wds V) : T = V := (List.map_inj_right (fun x y e => wd_inj e)).mp (PyData.tuple.inj h)
theorem fm_len {T : List (List Int)} {W : List (List Int)} : (T.flatMap (NT W)).length ≤ T.length * W.length := by
  induction T with
  | nil => simp
  | cons t T ih =>
    rw [List.flatMap_cons, List.length_append, List.length_cons, Nat.succ_mul]
    have := NT_len W t
    omega
end P50
end

section
set_option Elab.async false
set_option linter.all false
set_option maxRecDepth 100000
set_option maxHeartbeats 4000000
/-! P50e: takes_code. -/
namespace P50
open PySem (PyData Str)
open PK L50

/-- the papers that are right -/
def Spec (W : List (List Int)) (v : PyData) : Prop := (∃ T, v = .tuple [.str "tails", wds T] ∧ (∀ t ∈ T, Wd t) ∧ tailsOk W T = true) ∨
  ∃ a c, v = .tuple [.str "twice", wd a, wd c] ∧ a ≠ [] ∧ c ≠ [] ∧ Pl W a ∧ Pl W c ∧ a[0]? ≠ c[0]? ∧ mk W a = mk W c
theorem ne_tt : ¬ (("tails" : Str) = "twice") := by decide
theorem ne_tt' : ¬ (("twice" : Str) = "tails") := by decide
theorem row_of {m : Int} {v : PyData} (h : isRow m v = true) : ∃ a0 a, v = wd (a0 :: a) ∧ ∀ i ∈ a0 :: a, 0 ≤ i ∧ i < m := by
  cases v with
  | tuple ds =>
    simp only [isRow, Bool.and_eq_true] at h
    obtain ⟨l, rfl, hl⟩ := all_P h.2
    cases l with
    | nil => simp at h
    | cons a0 a => exact ⟨a0, a, rfl, hl⟩
  | _ => cases h
theorem row_wd {W : List (List Int)} {a : List Int} (h : a ≠ []) (hp : Pl W a) : isRow W.length (wd a) = true := by
  show (!(a.map PyData.int).isEmpty && (a.map PyData.int).all (isP W.length)) = true
  rw [P_all hp]
  cases a with
  | nil => exact absurd rfl h
  | cons _ _ => rfl
theorem wd_ix0 (a0 : Int) (a : List Int) : ix (wd (a0 :: a)) (.int 0) = some (.int a0) := ix_natT (j := 0) rfl
theorem l6 {W : List (List Int)} (h : Ls W) : ∀ w ∈ W, w.length ≤ 6 := fun w hw => (h.2.2.1 w hw).1
end P50
end

section
set_option Elab.async false
set_option linter.all false
set_option maxRecDepth 100000
set_option maxHeartbeats 4000000
/-! P50f: _law_right's loops. -/
namespace P50
open PySem (PyData Str)
open PK L50

theorem shap_in {ds : List PyData} {x : PyData} (h : x ∈ ds) (hs : shap (.tuple ds) = true) : shap x = true := by
  unfold shap at hs ⊢
  simp only [Bool.and_eq_true, decide_eq_true_eq] at hs ⊢
  have h1 : ∀ {ds : List PyData} {x : PyData}, x ∈ ds → PyData.plainAll ds = true → x.plain = true := by
    intro ds
    induction ds with
    | nil => intro x hx; cases hx
    | cons d ds ih =>
      intro x hx hp
      have hp : (d.plain && PyData.plainAll ds) = true := hp
      rw [Bool.and_eq_true] at hp
      rcases List.mem_cons.mp hx with rfl | hx
      · exact hp.1
      · exact ih hx hp.2
  have h2 : ∀ {ds : List PyData} {x : PyData}, x ∈ ds → x.depth ≤ PyData.depthAll ds := by
    intro ds
    induction ds with
    | nil => intro x hx; cases hx
    | cons d ds ih =>
      intro x hx
      have e : PyData.depthAll (d :: ds) = max d.depth (PyData.depthAll ds) := rfl
      rcases List.mem_cons.mp hx with rfl | hx
      · omega
      · have := ih hx; omega
  refine ⟨h1 h hs.1, ?_⟩
  have : (PyData.tuple ds).depth = PyData.depthAll ds + 1 := rfl
  have := h2 h
  omega
def isT (v : PyData) : Bool := Ty.has .tuple v
theorem t_isT (n : Nat) (s0 s1 s3 s4 s5 s6 s7 : Slot) {e : E} (ds : List PyData) (hl : ds.length ≤ 1000) (he : evE (pg.calls n) e [s0, s1, .un, s3, s4, s5, s6, s7] = .ok (.val (.tuple ds), [s0, s1, .un, s3, s4, s5, s6, s7])) :
    evE (pg.calls n) (.comp (.isa (.var 2) .tuple) (.one 2) (.of e) .none [2]) [s0, s1, .un, s3, s4, s5, s6, s7] = .ok (.nw (.list (ds.map fun x => .bool (isT x))), [s0, s1, .un, s3, s4, s5, s6, s7]) := by
  rw [ev_comp, compF_pure (fun x => some (.bool (isT x))) (xs := ds), filterMap_some]
  · simp [he]
  · intro x hx
    exact ⟨[s0, s1, .va x, s3, s4, s5, s6, s7], by simp [turnF, wipe, isT], rfl⟩
  · exact le_line hl
/-- all(isinstance(x, int) and not isinstance(x, bool) and 0 <= x < m for x in ds), in slot 4 or 5 -/
theorem t_signs (n : Nat) (s0 s1 s2 s3 s5 s6 s7 : Slot) (ds : List PyData) (hl : ds.length ≤ 1000) (hs3 : s3 = .va (.tuple ds)) :
    evE (pg.calls n) (.comp (.and (.cons (.isa (.var 4) .int) (.cons (.nt (.isa (.var 4) .bool)) (.cons (.cmp2 .le .lt (.lit (.int 0)) (.var 4) (.lit (.int 3))) .nil)))) (.one 4) (.of (.var 3)) .none [4]) [s0, s1, s2, s3, .un, s5, s6, s7] = .ok (.nw (.list (ds.map fun x => .bool (isP 3 x))), [s0, s1, s2, s3, .un, s5, s6, s7]) := by
  subst hs3
  rw [ev_comp, compF_pure (fun x => some (.bool (isP 3 x))) (xs := ds), filterMap_some]
  · simp
  · intro x hx
    refine ⟨[s0, s1, s2, .va (.tuple ds), .va x, s5, s6, s7], ?_, rfl⟩
    cases x with
    | int i => by_cases h : 0 ≤ i <;> simp [turnF, wipe, isP, h]
    | _ => simp [turnF, wipe, isP]
  · exact le_line hl
theorem t_places2 (n : Nat) (W : List (List Int)) (s1 s2 s3 s4 s6 s7 : Slot) (ds : List PyData) (hl : ds.length ≤ 1000) (hs7 : s7 = .va (.tuple ds)) :
    evE (pg.calls n) (.comp (.and (.cons (.isa (.var 5) .int) (.cons (.nt (.isa (.var 5) .bool)) (.cons (.cmp2 .le .lt (.lit (.int 0)) (.var 5) (.bi .len (.cons (.var 0) .nil))) .nil)))) (.one 5) (.of (.var 7)) .none [5]) [.va (wds W), s1, s2, s3, s4, .un, s6, s7] = .ok (.nw (.list (ds.map fun x => .bool (isP W.length x))), [.va (wds W), s1, s2, s3, s4, .un, s6, s7]) := by
  subst hs7
  rw [ev_comp, compF_pure (fun x => some (.bool (isP W.length x))) (xs := ds), filterMap_some]
  · simp
  · intro x hx
    refine ⟨[.va (wds W), s1, s2, s3, s4, .va x, s6, .va (.tuple ds)], ?_, rfl⟩
    cases x with
    | int i => by_cases h : 0 ≤ i <;> simp [turnF, wipe, isP, h]
    | _ => simp [turnF, wipe, isP]
  · exact le_line hl
theorem eq_nil {ds : List PyData} (h : shap (.tuple ds) = true) : cop .eq (.tuple ds) (.tuple []) = some ds.isEmpty := by
  have e : cop .eq (.tuple ds) (.tuple []) = if shap (.tuple ds) && shap (.tuple []) then some (PyData.eqv (.tuple ds) (.tuple [])) else none := rfl
  rw [e, h, shap_nil]
  cases ds <;> rfl
end P50
end

section
set_option Elab.async false
set_option linter.all false
set_option maxRecDepth 100000
set_option maxHeartbeats 4000000
/-! P50g: _law_right. -/
namespace P50
open PySem (PyData Str)
open PK L50

@[simp] theorem noL_wlist (T : List (List Int)) : noList (wlist T) = false := rfl
def gD (T : List (List Int)) (k : Nat) : List Int := (T[k]?).getD []
theorem gD_at {T : List (List Int)} {k : Nat} (h : k < T.length) : T[k]? = some (gD T k) := by
  unfold gD
  rw [List.getElem?_eq_getElem h]
  rfl
theorem asc_any (T : List (List Int)) : ((List.range (T.length - 1)).any fun k => !ltW (gD T k) (gD T (k + 1))) = !asc T := by
  have e : T.zip (T.drop 1) = (List.range (T.length - 1)).map fun k => (gD T k, gD T (k + 1)) := by
    apply List.ext_getElem?
    intro k
    rw [List.getElem?_map]
    by_cases h : k < T.length - 1
    · have h1 : T[k]? = some (gD T k) := gD_at (by omega)
      have h2 : (T.drop 1)[k]? = some (gD T (k + 1)) := by rw [List.getElem?_drop, Nat.add_comm]; exact gD_at (by omega)
      have h3 : (T.zip (T.drop 1))[k]? = some (gD T k, gD T (k + 1)) := List.getElem?_zip_eq_some.mpr ⟨h1, h2⟩
      rw [List.getElem?_range h, h3]
      rfl
    · rw [List.getElem?_eq_none (l := T.zip (T.drop 1)) (by rw [List.length_zip, List.length_drop]; omega), List.getElem?_eq_none (l := List.range (T.length - 1)) (by rw [List.length_range]; omega)]
      rfl
  unfold asc
  rw [e, List.all_map]
  simp only [Function.comp_def, List.any_eq_not_all_not, Bool.not_not]
theorem t_asc (n : Nat) (T : List (List Int)) (e : E) (s0 s1 s2 s3 s4 s6 s7 : Slot) (hl : T.length ≤ 1000)
    (he : ∀ s5, evE (pg.calls n) e [s0, s1, s2, s3, s4, s5, s6, s7] = .ok (.val (wds T), [s0, s1, s2, s3, s4, s5, s6, s7])) :
    evE (pg.calls n) (.comp (.cmp .ge (.idx e (.bop .sub (.var 5) (.lit (.int 1)))) (.idx e (.var 5))) (.one 5) (.rng (.cons (.lit (.int 1)) (.cons (.bi .len (.cons e .nil)) .nil))) .none [5]) [s0, s1, s2, s3, s4, .un, s6, s7] =
      .ok (.nw (.list ((List.range (T.length - 1)).map fun k => .bool (!ltW (gD T k) (gD T (k + 1))))), [s0, s1, s2, s3, s4, .un, s6, s7]) := by
  rw [ev_comp, compF_map (fun k : Nat => .int (1 + (k : Int))) (fun k => some (.bool (!ltW (gD T k) (gD T (k + 1))))) (List.range (T.length - 1)), filterMap_some]
  · have er : rng [.int 1, .int (T.length : Int)] = some (1, T.length - 1) := by
      have h1 : isSmall 1 = true := small_ok (by decide) (by decide)
      have h2 : isSmall (T.length : Int) = true := small_ok (by omega) (by omega)
      have h3 : ((T.length : Int) - 1).toNat = T.length - 1 := by omega
      simp only [rng, h1, h2, Bool.and_self, if_true, h3]
    simp [he, er, rangeL]
  · intro k hk
    have hk := List.mem_range.mp hk
    refine ⟨[s0, s1, s2, s3, s4, .va (.int (1 + (k : Int))), s6, s7], ?_, rfl⟩
    have x1 : ix (wds T) (.int (1 + (k : Int) - 1)) = some (wd (gD T k)) := by
      rw [show (1 + (k : Int) - 1) = (k : Int) by omega]
      refine ix_natT ?_
      rw [List.getElem?_map, gD_at (by omega)]
      rfl
    have x2 : ix (wds T) (.int (1 + (k : Int))) = some (wd (gD T (k + 1))) := by
      rw [show (1 + (k : Int)) = ((k + 1 : Nat) : Int) by omega]
      refine ix_natT ?_
      rw [List.getElem?_map, gD_at (by omega)]
      rfl
    simp [turnF, wipe, he, x1, x2]
  · rw [List.length_range]; exact le_line (by omega)
theorem t_in (n : Nat) (T due : List (List Int)) (e : E) (s0 s1 s2 s4 s5 s7 : Slot) (hl : due.length ≤ 1000000)
    (he : ∀ s3, evE (pg.calls n) e [s0, s1, s2, s3, s4, s5, .va (wlist due), s7] = .ok (.val (wds T), [s0, s1, s2, s3, s4, s5, .va (wlist due), s7])) (s3 : Slot) :
    evE (pg.calls n) (.comp (.cmp .inn (.var 3) e) (.one 3) (.of (.var 6)) .none [3]) [s0, s1, s2, s3, s4, s5, .va (wlist due), s7] = .ok (.nw (.list (due.map fun t => .bool (decide (t ∈ T)))), [s0, s1, s2, s3, s4, s5, .va (wlist due), s7]) := by
  rw [ev_comp, compF_map wd (fun t => some (.bool (decide (t ∈ T)))) due, filterMap_some]
  · simp
  · intro t _
    exact ⟨[s0, s1, s2, .va (wd t), s4, s5, .va (wlist due), s7], by simp [turnF, wipe, he], rfl⟩
  · unfold line; omega
end P50
end

section
set_option Elab.async false
set_option linter.all false
set_option maxRecDepth 100000
set_option maxHeartbeats 4000000
/-! P50h: _law_right, whole. -/
namespace P50
open PySem (PyData Str)
open PK L50

theorem spec_t {W : List (List Int)} {ds : List PyData} (h : Spec W (.tuple ds)) : (ds.drop 1).all isT = true := by
  rcases h with ⟨T, e, _⟩ | ⟨a, c, e, _⟩ <;> cases e <;> rfl
end P50
end

section
set_option Elab.async false
set_option linter.all false
set_option maxRecDepth 100000
set_option maxHeartbeats 4000000
/-! P50i: the tails that are reached. -/
namespace PK
open PySem (PyData Str)
/-- a while, with what gets less -/
theorem whlL_or {tst : Env → Res (Bool × Env)} {body : Env → Out} (P : Nat → Env → Prop) (Q : Env → Prop) (R : Bool → PyData → Env → Prop)
    (h : ∀ k g, P k g → (∃ g1, tst g = .ok (true, g1) ∧ ((∃ k' g2, body g1 = .nx g2 ∧ k' < k ∧ P k' g2) ∨ ∃ b v g2, body g1 = .rt b v g2 ∧ R b v g2)) ∨ ∃ g1, tst g = .ok (false, g1) ∧ Q g1) :
    ∀ n k g, k < n → P k g → (∃ g', whlL tst body n g = .nx g' ∧ Q g') ∨ ∃ b v g', whlL tst body n g = .rt b v g' ∧ R b v g'
  | 0, k, g, hk, _ => absurd hk (Nat.not_lt_zero k)
  | n + 1, k, g, hk, p => by
    rcases h k g p with ⟨g1, e1, ⟨k', g2, e2, hk', p2⟩ | ⟨b, v, g2, e2, r2⟩⟩ | ⟨g1, e1, q⟩
    · rcases whlL_or P Q R h n k' g2 (by omega) p2 with ⟨g', e, q⟩ | ⟨b, v, g', e, r⟩
      · exact .inl ⟨g', by simp only [whlL, e1, Res.out_ok, if_true, e2, e], q⟩
      · exact .inr ⟨b, v, g', by simp only [whlL, e1, Res.out_ok, if_true, e2, e], r⟩
    · exact .inr ⟨b, v, g2, by simp only [whlL, e1, Res.out_ok, if_true, e2], r2⟩
    · exact .inl ⟨g1, by simp only [whlL, e1, Res.out_ok]; rfl, q⟩
theorem whlL_nx {tst : Env → Res (Bool × Env)} {body : Env → Out} (P : Nat → Env → Prop) (Q : Env → Prop)
    (h : ∀ k g, P k g → (∃ g1, tst g = .ok (true, g1) ∧ ∃ k' g2, body g1 = .nx g2 ∧ k' < k ∧ P k' g2) ∨ ∃ g1, tst g = .ok (false, g1) ∧ Q g1)
    {n k : Nat} {g : Env} (hk : k < n) (p : P k g) : ∃ g', whlL tst body n g = .nx g' ∧ Q g' := by
  rcases whlL_or P Q (fun _ _ _ => False) (fun k g p => (h k g p).imp (fun ⟨g1, e, x⟩ => ⟨g1, e, .inl x⟩) id) n k g hk p with h | ⟨_, _, _, _, h⟩
  · exact h
  · exact h.elim
/-! ### dicts of words -/
def dK (K : List (List Int)) : List (PyData × PyData) := K.map fun k => (wd k, .bool true)
def addK (K : List (List Int)) (t : List Int) : List (List Int) := if t ∈ K then K else K ++ [t]
theorem keyL_wd (t : List Int) : keyL (wd t) = some (t.map Sum.inl) := by
  show keyLs (t.map .int) = _
  induction t with
  | nil => rfl
  | cons x t ih => simp only [List.map_cons, keyLs, ih, Option.map_some]
theorem key_inj {a b : List Int} : (a.map (Sum.inl : Int → L2.Key) = b.map Sum.inl) ↔ a = b := List.map_inj_right fun x y e => Sum.inl.inj e
theorem dval_dK (K : List (List Int)) (t : List Int) : (dval (dK K) (t.map Sum.inl)).isSome = decide (t ∈ K) := by
  unfold dval dK
  rw [Option.isSome_map, List.find?_map, Option.isSome_map, Bool.eq_iff_iff, List.find?_isSome, decide_eq_true_iff]
  constructor
  · rintro ⟨k, hk, e⟩
    simp only [Function.comp, keyL_wd, decide_eq_true_eq, Option.some.injEq, key_inj] at e
    exact e ▸ hk
  · intro h
    exact ⟨t, h, by simp [keyL_wd]⟩
theorem dput_dK (K : List (List Int)) (t : List Int) : dput (dK K) (wd t) (.bool true) = dK (addK K t) := by
  have h : (dK K).any (fun p => decide (keyL p.1 = keyL (wd t))) = decide (t ∈ K) := by
    unfold dK
    rw [List.any_map, Bool.eq_iff_iff, List.any_eq_true, decide_eq_true_iff]
    constructor
    · rintro ⟨k, hk, e⟩
      simp only [Function.comp, keyL_wd, decide_eq_true_eq, Option.some.injEq, key_inj] at e
      exact e ▸ hk
    · intro h
      exact ⟨t, h, by simp⟩
  unfold dput addK
  rw [h]
  by_cases ht : t ∈ K
  · simp only [ht, decide_true, if_true]
    unfold dK
    rw [List.map_map]
    apply List.map_congr_left
    intro k _
    by_cases hk : k = t
    · simp [hk]
    · simp [keyL_wd, key_inj, hk]
  · simp [ht, dK]
@[simp] theorem dK_len (K : List (List Int)) : (dK K).length = K.length := by simp [dK]
theorem dK_keys (K : List (List Int)) : (dK K).map (·.1) = K.map wd := by simp [dK]
theorem setDx_dK {K : List (List Int)} {t : List Int} (h : K.length < line) : setDx (wd t) (.bool true) (.dict (dK K)) = some (.dict (dK (addK K t))) := by
  simp only [setDx, keyL_wd, dK_len, h, if_true, dput_dK]
theorem addK_nodup {K : List (List Int)} {t : List Int} (h : K.Nodup) : (addK K t).Nodup := by
  unfold addK
  split
  · exact h
  · rename_i ht
    exact List.nodup_append.mpr ⟨h, List.nodup_cons.mpr ⟨List.not_mem_nil, List.nodup_nil⟩, fun a ha b hb e => by
      rw [List.mem_singleton] at hb
      subst hb
      exact ht (e ▸ ha)⟩
theorem addK_mem {K : List (List Int)} {t a : List Int} : a ∈ addK K t ↔ a ∈ K ∨ a = t := by
  unfold addK
  split
  · rename_i ht
    constructor
    · exact .inl
    · rintro (h | rfl)
      · exact h
      · exact ht
  · rw [List.mem_append, List.mem_singleton]
theorem addKs_nodup : ∀ {xs K : List (List Int)}, K.Nodup → (xs.foldl addK K).Nodup
  | [], _, h => h
  | x :: xs, K, h => by
    rw [List.foldl_cons]
    exact addKs_nodup (xs := xs) (addK_nodup h)
theorem addKs_mem {a : List Int} : ∀ {xs K : List (List Int)}, a ∈ xs.foldl addK K ↔ a ∈ K ∨ a ∈ xs
  | [], K => by simp
  | x :: xs, K => by
    rw [List.foldl_cons, addKs_mem (xs := xs), addK_mem, List.mem_cons, or_assoc]
theorem addK_len (K : List (List Int)) (t : List Int) : (addK K t).length ≤ K.length + 1 := by
  unfold addK
  split <;> simp
theorem dcompL_wd {own : List Nat} {turn : Env → PyData → Res (Option (PyData × PyData) × Env)} (g0 : Env) : ∀ (xs K : List (List Int)) (g : Env), wipe g own = wipe g0 own →
    (∀ x ∈ xs, ∃ g', turn (wipe g0 own) (wd x) = .ok (some (wd x, .bool true), g') ∧ wipe g' own = wipe g0 own) → K.length + xs.length ≤ line →
    ∃ g', dcompL own turn (xs.map wd) (dK K) g = .ok (dK (xs.foldl addK K), g') ∧ wipe g' own = wipe g0 own
  | [], K, g, hg, _, _ => ⟨g, rfl, hg⟩
  | x :: xs, K, g, hg, h, hl => by
    obtain ⟨g1, e1, w1⟩ := h x List.mem_cons_self
    simp only [List.length_cons] at hl
    have := addK_len K x
    obtain ⟨g2, e2, w2⟩ := dcompL_wd g0 xs (addK K x) g1 w1 (fun y hy => h y (List.mem_cons_of_mem _ hy)) (by omega)
    refine ⟨g2, ?_, w2⟩
    have hk : (dK K).length < line := by rw [dK_len]; omega
    simp only [List.map_cons, dcompL, hg, e1, Res.bind_ok, keyL_wd, hk, if_true, dput_dK, e2, List.foldl_cons]
end PK
namespace P50
open PySem (PyData Str)
open PK L50

/-- what is reached from the first tails -/
inductive Reach (W : List (List Int)) : List Int → Prop
  | first {t : List Int} : t ∈ FT W → Reach W t
  | next {t r : List Int} : Reach W t → r ∈ NT W t → Reach W r
/-- the ends of the words -/
def Sfx (W : List (List Int)) : List (List Int) := W.flatMap fun w => (List.range w.length).map fun k => w.drop k
theorem sfx_mem {W : List (List Int)} {t : List Int} : t ∈ Sfx W ↔ ∃ w ∈ W, ∃ k, k < w.length ∧ t = w.drop k := by
  unfold Sfx
  simp only [List.mem_flatMap, List.mem_map, List.mem_range]
  constructor
  · rintro ⟨w, hw, k, hk, e⟩; exact ⟨w, hw, k, hk, e.symm⟩
  · rintro ⟨w, hw, k, hk, e⟩; exact ⟨w, hw, k, hk, e.symm⟩
theorem sfx_len {W : List (List Int)} (h : ∀ w ∈ W, w.length ≤ 6) : (Sfx W).length ≤ W.length * 6 := by
  induction W with
  | nil => simp [Sfx]
  | cons w W ih =>
    have := ih fun v hv => h v (List.mem_cons_of_mem _ hv)
    have hw := h w List.mem_cons_self
    show (List.flatMap _ (w :: W)).length ≤ _
    rw [List.flatMap_cons, List.length_append, List.length_map, List.length_range, List.length_cons]
    have e : (List.flatMap (fun w => (List.range w.length).map fun k => w.drop k) W).length ≤ W.length * 6 := this
    omega
theorem beg_iff {a b : List Int} : beg a b = true ↔ b = a ++ b.drop a.length := by
  unfold beg
  rw [decide_eq_true_iff]
  constructor
  · intro h
    have := List.take_append_drop a.length b
    rw [h] at this
    exact this.symm
  · intro h
    rw [h]
    simp
theorem ft_mem {W : List (List Int)} {t : List Int} : t ∈ FT W ↔ ∃ one ∈ W, ∃ two ∈ W, one ≠ two ∧ two = one ++ t := by
  rw [FT_eq]
  simp only [F1, List.mem_flatMap, List.mem_map, List.mem_filter, Bool.and_eq_true, Bool.not_eq_true', decide_eq_false_iff_not]
  constructor
  · rintro ⟨one, h1, two, ⟨h2, h3, h4⟩, rfl⟩
    exact ⟨one, h1, two, h2, h3, beg_iff.mp h4⟩
  · rintro ⟨one, h1, two, h2, h3, h4⟩
    refine ⟨one, h1, two, ⟨h2, h3, beg_iff.mpr (by rw [h4]; simp)⟩, by rw [h4]; simp⟩
theorem nt_mem {W : List (List Int)} {t r : List Int} : r ∈ NT W t ↔ (∃ w ∈ W, rest t w = some r) ∧ r ≠ [] := by
  unfold NT
  rw [List.mem_filter, List.mem_filterMap]
  simp
theorem rest_some {t w r : List Int} : rest t w = some r → w = t ++ r ∨ t = w ++ r := by
  unfold rest
  intro h
  split at h
  · rename_i hb
    cases h
    exact .inl (beg_iff.mp hb)
  · split at h
    · rename_i hb
      cases h
      exact .inr (beg_iff.mp hb)
    · cases h
theorem ft_sfx {W : List (List Int)} {t : List Int} (h : t ∈ FT W) : t ∈ Sfx W := by
  obtain ⟨one, h1, two, h2, h3, rfl⟩ := ft_mem.mp h
  refine sfx_mem.mpr ⟨_, h2, one.length, ?_, by simp⟩
  rw [List.length_append]
  have : t ≠ [] := fun e => by subst e; simp at h3
  have := List.length_pos_iff.mpr this
  omega
theorem nt_sfx {W : List (List Int)} {t r : List Int} (ht : t ∈ Sfx W) (h : r ∈ NT W t) : r ∈ Sfx W := by
  obtain ⟨⟨w, hw, e⟩, hr⟩ := nt_mem.mp h
  have hr := List.length_pos_iff.mpr hr
  rcases rest_some e with rfl | e2
  · refine sfx_mem.mpr ⟨_, hw, t.length, ?_, by simp⟩
    rw [List.length_append]
    omega
  · obtain ⟨v, hv, k, hk, rfl⟩ := sfx_mem.mp ht
    have e3 : r = v.drop (k + w.length) := by
      rw [← List.drop_drop, e2]
      simp
    refine sfx_mem.mpr ⟨v, hv, k + w.length, ?_, e3⟩
    rw [e3, List.length_drop] at hr
    omega
theorem Reach.sfx {W : List (List Int)} {t : List Int} (h : Reach W t) : t ∈ Sfx W := by
  induction h with
  | first h => exact ft_sfx h
  | next _ h ih => exact nt_sfx ih h
theorem sfx_ne {W : List (List Int)} {t : List Int} (h : t ∈ Sfx W) : t ≠ [] := by
  obtain ⟨w, _, k, hk, rfl⟩ := sfx_mem.mp h
  intro e
  have := congrArg List.length e
  simp at this
  omega
theorem reach_len {W K : List (List Int)} (hW : W.length ≤ 8) (hw : ∀ w ∈ W, w.length ≤ 6) (hn : K.Nodup) (hK : ∀ t ∈ K, Reach W t) : K.length ≤ 48 := by
  have h1 := nodup_sub hn fun t ht => (hK t ht).sfx
  have h2 := sfx_len hw
  omega
/-- a closed list of what is reached holds all of it -/
theorem reach_all {W F : List (List Int)} (h1 : ∀ t ∈ FT W, t ∈ F) (h2 : ∀ t ∈ F, ∀ r ∈ NT W t, r ∈ F) {t : List Int} (h : Reach W t) : t ∈ F := by
  induction h with
  | first h => exact h1 _ h
  | next _ h ih => exact h2 _ ih _ h
end P50
end

section
set_option Elab.async false
set_option linter.all false
set_option maxRecDepth 100000
set_option maxHeartbeats 4000000
/-! P50j: the tails, as the law and as the program find them. -/
namespace P50
open PySem (PyData Str)
open PK L50

theorem fm_filter {α β : Type} (p : α → Bool) (f : α → β) : ∀ l : List α, l.filterMap (fun x => if p x = true then some (f x) else none) = (l.filter p).map f
  | [] => rfl
  | x :: l => by
    rw [List.filterMap_cons, List.filter_cons, fm_filter p f l]
    cases h : p x <;> simp
theorem ix_wlist {T : List (List Int)} {k : Nat} (h : k < T.length) : ix (wlist T) (.int (k : Int)) = some (wd (gD T k)) := by
  refine ix_nat ?_
  rw [List.getElem?_map, gD_at h]
  rfl
theorem gD_mem {T : List (List Int)} {k : Nat} (h : k < T.length) : gD T k ∈ T := List.mem_of_getElem? (gD_at h)
theorem mem_gD {T : List (List Int)} {t : List Int} (h : t ∈ T) : ∃ k, k < T.length ∧ t = gD T k := by
  obtain ⟨k, hk, e⟩ := List.getElem_of_mem h
  refine ⟨k, hk, ?_⟩
  have := gD_at hk
  rw [List.getElem?_eq_getElem hk, e] at this
  exact Option.some.inj this
theorem gD_app {T V : List (List Int)} {k : Nat} (h : k < T.length) : gD (T ++ V) k = gD T k := by
  unfold gD
  rw [List.getElem?_append_left h]
end P50
end

section
set_option Elab.async false
set_option linter.all false
set_option maxRecDepth 100000
set_option maxHeartbeats 4000000
/-! P50k: found_tails. -/
namespace P50
open PySem (PyData Str)
open PK L50

def gT (W R K : List (List Int)) (s3 s4 : Slot) : Env := [.va (wds W), .mu .ow (.list (R.map wd)), .mu .ow (.dict (dK K)), s3, s4]
/-- one tail, looked at -/
theorem t_new (n : Nat) (W R K : List (List Int)) (t : List Int) (s3 s4 : Slot) (f3 : Free s3) (hR : R.length ≤ 1000) (hK : K.length ≤ 1000) :
    ((Res.of (bindT (gT W R K s3 s4) (.one 3) (wd t))).out fun g1 => exSs (pg.calls n) l12_1 g1) = .nx (gT W (if t ∈ K then R else R ++ [t]) (addK K t) (.va (wd t)) s4) := by
  have hk := keyL_wd t
  have hd := dval_dK K t
  have hs := setDx_dK (K := K) (t := t) (small hK)
  have ha := app_ok (wd t) (R.map wd) (by rw [List.length_map]; exact small hR)
  by_cases ht : t ∈ K
  · have e : addK K t = K := by simp [addK, ht]
    simp [l12_1, gT, f3, dinF, dicOf, Slot.dic, hk, hd, ht, e]
  · simp [l12_1, gT, f3, dinF, setDF, dicOf, Slot.dic, hk, hd, ht, hs, ha]
theorem t_news (n : Nat) (W R K : List (List Int)) (t : List Int) (p : Nat) (hp : p < R.length) (hW : W.length ≤ 8) (hw : ∀ w ∈ W, w.length ≤ 6) (s3 : Slot) (f3 : Free s3)
    (hn : K.Nodup) (hm : ∀ t, t ∈ K ↔ t ∈ R) (hr : ∀ t ∈ R, Reach W t) (hl : R.length ≤ 64 + K.length) :
    ∃ V K' t3, exS (pg.calls (n + 3)) (.fr (.one 3) (.of (.call 10 (.cons (.var 0) (.cons (.idx (.var 1) (.var 4)) .nil)))) l12_1) (gT W R K s3 (.va (.int (p : Int)))) = .nx (gT W (R ++ V) K' t3 (.va (.int (p : Int)))) ∧ Free t3 ∧
      K'.Nodup ∧ (∀ t, t ∈ K' ↔ t ∈ R ++ V) ∧ (∀ t ∈ R ++ V, Reach W t) ∧ (R ++ V).length ≤ 64 + K'.length ∧ ∀ r ∈ NT W (gD R p), r ∈ R ++ V := by
  obtain ⟨g', eg, V, K', t3, rfl, f3', hn', hm', hr', hl', hd'⟩ := forL_map (turn := fun g x => (Res.of (bindT g (.one 3) x)).out fun g1 => exSs (pg.calls (n + 3)) l12_1 g1) wd
    (fun D g => ∃ (V K' : List (List Int)) (t3 : Slot), g = gT W (R ++ V) K' t3 (.va (.int (p : Int))) ∧ Free t3 ∧ K'.Nodup ∧ (∀ t, t ∈ K' ↔ t ∈ R ++ V) ∧ (∀ t ∈ R ++ V, Reach W t) ∧ (R ++ V).length ≤ 64 + K'.length ∧ ∀ r ∈ D, r ∈ R ++ V)
    (NT W (gD R p)) (gT W R K s3 (.va (.int (p : Int))))
    (fun D r post g e ⟨V, K', t3, hg, f3, hn, hm, hr, hl, hd⟩ => by
      subst hg
      have hrN : r ∈ NT W (gD R p) := by rw [e]; simp
      have hrr : Reach W r := .next (hr _ (List.mem_append_left _ (gD_mem hp))) hrN
      have hK := reach_len hW hw hn fun t ht => hr t ((hm t).mp ht)
      refine ⟨_, t_new (n + 3) W (R ++ V) K' r t3 _ f3 (by omega) (by omega), ?_⟩
      by_cases hin : r ∈ K'
      · refine ⟨V, K', .va (wd r), by simp [hin, addK], trivial, hn, hm, hr, hl, fun x hx => ?_⟩
        rcases List.mem_append.mp hx with hx | hx
        · exact hd x hx
        · rw [List.mem_singleton] at hx
          subst hx
          exact (hm x).mp hin
      · have ea : addK K' r = K' ++ [r] := by simp [addK, hin]
        refine ⟨V ++ [r], addK K' r, .va (wd r), by simp [hin], trivial, addK_nodup hn, fun t => ?_, fun t ht => ?_, ?_, fun x hx => ?_⟩
        · rw [addK_mem, hm, ← List.append_assoc, List.mem_append (s := R ++ V), List.mem_singleton]
        · rw [← List.append_assoc, List.mem_append, List.mem_singleton] at ht
          rcases ht with ht | rfl
          · exact hr t ht
          · exact hrr
        · rw [ea]
          simp only [List.length_append, List.length_cons, List.length_nil] at hl ⊢
          omega
        · rw [← List.append_assoc, List.mem_append, List.mem_singleton]
          rcases List.mem_append.mp hx with hx | hx
          · exact .inl (hd x hx)
          · exact .inr (by simpa using hx)) ⟨[], K, s3, by simp, f3, hn, by simpa using hm, by simpa using hr, by simpa using hl, fun r hr => nomatch hr⟩
  refine ⟨V, K', t3, ?_, f3', hn', hm', hr', hl', hd'⟩
  have hx := c_next n W (gD R p) (by omega)
  have hi : ix (.list (R.map wd)) (.int (p : Int)) = some (wd (gD R p)) := ix_wlist hp
  rw [ex_fr, fr_nl (xs := (NT W (gD R p)).map wd) (g1 := gT W R K s3 (.va (.int (p : Int))))]
  · exact eg
  · simp [gT, hi, hx]
theorem c_ftails (n : Nat) (W : List (List Int)) (hW : W.length ≤ 8) (hw : ∀ w ∈ W, w.length ≤ 6) : ∃ F, callAt pg (n + 4) 12 [wds W] = .ok true (wlist F) none ∧ (∀ t, t ∈ F ↔ Reach W t) ∧ F.Pairwise (fun a b => ltW a b = true) ∧ F.length ≤ 48 := by
  have h100 : W.length ≤ 100 := by omega
  rw [call_eq (d := f12) rfl rfl]
  have hF : callAt pg (n + 3) 11 [wds W] = .ok true (.list ((FT W).map wd)) none := c_first (n + 1) W h100
  have hFl : (FT W).length ≤ 64 := Nat.le_trans (FTo_len W W) (Nat.mul_le_mul hW hW)
  have hd : dcompF [3] (.one 3) (evI (pg.calls (n + 3)) (.of (.var 1))) (evT (pg.calls (n + 3)) .none) (evE (pg.calls (n + 3)) (.var 3)) (evE (pg.calls (n + 3)) (.lit (.bool true))) [.va (wds W), .mu .ow (.list ((FT W).map wd)), .un, .un, .un] =
      .ok (.nw (.dict (dK ((FT W).foldl addK []))), [.va (wds W), .mu .ow (.list ((FT W).map wd)), .un, .un, .un]) := by
    have hi : evI (pg.calls (n + 3)) (.of (.var 1)) [.va (wds W), .mu .ow (.list ((FT W).map wd)), .un, .un, .un] = .ok ⟨(FT W).map wd, [.va (wds W), .mu .lk (.list ((FT W).map wd)), .un, .un, .un], [(1, .ow)]⟩ := by
      simp [lock1]
    obtain ⟨g', e, w⟩ := dcompL_wd (own := [3]) (turn := dturnF (.one 3) (evT (pg.calls (n + 3)) .none) (evE (pg.calls (n + 3)) (.var 3)) (evE (pg.calls (n + 3)) (.lit (.bool true)))) [.va (wds W), .mu .lk (.list ((FT W).map wd)), .un, .un, .un] (FT W) [] [.va (wds W), .mu .lk (.list ((FT W).map wd)), .un, .un, .un] rfl
      (fun t _ => ⟨[.va (wds W), .mu .lk (.list ((FT W).map wd)), .un, .va (wd t), .un], by simp [dturnF, wipe], rfl⟩) (by unfold line; simp; omega)
    unfold dcompF
    have e' : dcompL [3] (dturnF (.one 3) (evT (pg.calls (n + 3)) .none) (evE (pg.calls (n + 3)) (.var 3)) (evE (pg.calls (n + 3)) (.lit (.bool true)))) ((FT W).map wd) [] [.va (wds W), .mu .lk (.list ((FT W).map wd)), .un, .un, .un] = .ok (dK ((FT W).foldl addK []), g') := e
    rw [hi, Res.bind_ok]
    simp only [e', Res.quiet_ok, Res.bind_ok, back_same w]
    rfl
  obtain ⟨g', eg, R, K, s3, f3, rfl, hn, hm, hr, hf, hl, hcl⟩ := whlL_nx (tst := tstF (evE (pg.calls (n + 3)) (.cmp .lt (.var 4) (.bi .len (.cons (.var 1) .nil))))) (body := exSs (pg.calls (n + 3)) l12_2)
    (fun k g => ∃ (R K : List (List Int)) (p : Nat) (s3 : Slot), Free s3 ∧ g = gT W R K s3 (.va (.int (p : Int))) ∧ K.Nodup ∧ (∀ t, t ∈ K ↔ t ∈ R) ∧ (∀ t ∈ R, Reach W t) ∧ (∀ t ∈ FT W, t ∈ R) ∧ R.length ≤ 64 + K.length ∧ p ≤ R.length ∧ (∀ i, i < p → ∀ r ∈ NT W (gD R i), r ∈ R) ∧ p + k = 200)
    (fun g => ∃ (R K : List (List Int)) (s3 : Slot), Free s3 ∧ g = gT W R K s3 (.va (.int (R.length : Int))) ∧ K.Nodup ∧ (∀ t, t ∈ K ↔ t ∈ R) ∧ (∀ t ∈ R, Reach W t) ∧ (∀ t ∈ FT W, t ∈ R) ∧ R.length ≤ 64 + K.length ∧ (∀ i, i < R.length → ∀ r ∈ NT W (gD R i), r ∈ R))
    (fun k g ⟨R, K, p, s3, f3, hg, hn, hm, hr, hf, hl, hp, hcl, hk⟩ => by
      subst hg
      have hlen := reach_len hW hw hn fun t ht => hr t ((hm t).mp ht)
      by_cases hlt : p < R.length
      · refine .inl ⟨gT W R K s3 (.va (.int (p : Int))), by simp [gT, hlt], ?_⟩
        obtain ⟨V, K', t3, e, g3, hn', hm', hr', hl', hd'⟩ := t_news n W R K (gD R p) p hlt hW hw s3 f3 hn hm hr hl
        refine ⟨k - 1, gT W (R ++ V) K' t3 (.va (.int ((p + 1 : Nat) : Int))), ?_, by omega, R ++ V, K', p + 1, t3, g3, rfl, hn', hm', hr', fun t ht => List.mem_append_left _ (hf t ht), hl', ?_, ?_, by omega⟩
        · have e2 : exS (pg.calls (n + 3)) (.aug .add 4 (.lit (.int 1))) (gT W (R ++ V) K' t3 (.va (.int (p : Int)))) = .nx (gT W (R ++ V) K' t3 (.va (.int ((p + 1 : Nat) : Int)))) := by
            simp [gT, augI]
          show exSs (pg.calls (n + 3)) l12_2 _ = _
          unfold l12_2
          rw [ex_cons, e, Out.seq_nx, ex_cons, e2, Out.seq_nx, ex_nil]
        · rw [List.length_append]; omega
        · intro i hi r hr2
          by_cases hip : i < p
          · rw [gD_app (by omega)] at hr2
            exact List.mem_append_left _ (hcl i hip r hr2)
          · have : i = p := by omega
            subst this
            rw [gD_app hlt] at hr2
            exact hd' r hr2
      · have hpl : p = R.length := by omega
        subst hpl
        exact .inr ⟨_, by simp [gT], R, K, s3, f3, rfl, hn, hm, hr, hf, hl, hcl⟩)
    (n := 100000) (k := 200) (g := gT W (FT W) ((FT W).foldl addK []) .un (.va (.int ((0 : Nat) : Int)))) (by omega)
    ⟨FT W, (FT W).foldl addK [], 0, .un, trivial, rfl, addKs_nodup List.nodup_nil, fun t => by rw [addKs_mem]; simp, fun t ht => .first ht, fun t ht => ht, by omega, Nat.zero_le _, fun i hi => absurd hi (Nat.not_lt_zero i), rfl⟩
  have hlen := reach_len hW hw hn fun t ht => hr t ((hm t).mp ht)
  have hall : ∀ t, t ∈ K ↔ Reach W t := fun t => ⟨fun h => hr t ((hm t).mp h), fun h => (hm t).mpr (reach_all hf (fun t ht r hr' => by
    obtain ⟨i, hi, rfl⟩ := mem_gD ht
    exact hcl i hi r hr') h)⟩
  refine ⟨K.mergeSort leW, ?_, fun t => (sorted_mem K t).trans (hall t), sorted_asc hn, by rw [sorted_len]; exact hlen⟩
  have hs : sortedD (K.map wd) = some ((K.mergeSort leW).map wd) := sorted_wds (fun h => sfx_ne ((hall _).mp h).sfx rfl)
  have hwl : exS (pg.calls (n + 3)) (.whl (.cmp .lt (.var 4) (.bi .len (.cons (.var 1) .nil))) l12_2) [.va (wds W), .mu .ow (.list ((FT W).map wd)), .mu .ow (.dict (dK ((FT W).foldl addK []))), .un, .va (.int 0)] = .nx [.va (wds W), .mu .ow (.list (R.map wd)), .mu .ow (.dict (dK K)), s3, .va (.int (R.length : Int))] := eg
  have hin : inner true (.list ((FT W).map wd)) = true := noLs_wds _
  have hdk : (dK K).map (fun x => x.1) = K.map wd := dK_keys K
  simp [f12, b12, startE, hF, hd, hwl, hs, endD, dsoF, dicOf, Slot.dic, hdk, wlist, -ex_whl]
end P50
end

section
set_option Elab.async false
set_option linter.all false
set_option maxRecDepth 100000
set_option maxHeartbeats 4000000
/-! P50o: code_paper; the law's lists. -/
namespace P50
open PySem (PyData Str)
open PK L50

@[simp] theorem noLs_nil : noLists [] = true := rfl
@[simp] theorem noLs_cons (d : PyData) (ds : List PyData) : noLists (d :: ds) = (noList d && noLists ds) := rfl
@[simp] theorem noL_tuple (ds : List PyData) : noList (.tuple ds) = noLists ds := rfl
/-- a drawn word -/
def Gw (w : List Int) : Prop := w.length ≤ 3 ∧ w ≠ [] ∧ ∀ i ∈ w, 0 ≤ i ∧ i < 3
def five : List (List Int) := [[0], [1], [2, 0], [2, 1], [2, 2]]
/-- a list as the law draws it -/
structure Lw (W : List (List Int)) : Prop where
  ls : Ls W
  pw : W.Pairwise (fun a b => ltW a b = true)
  gw : ∀ w ∈ W, Gw w
  sm : W.length ≤ 4 ∨ W = five
theorem Lw.l4 {W : List (List Int)} (h : Lw W) : W.length ≤ 5 := by
  rcases h.sm with h | rfl
  · omega
  · decide
theorem reach_wd {W : List (List Int)} (h : Ls W) {t : List Int} (ht : Reach W t) : Wd t := by
  have hs := ht.sfx
  have hn := sfx_ne hs
  obtain ⟨w, hw, k, hk, rfl⟩ := sfx_mem.mp hs
  have hwd := h.2.2.1 w hw
  exact ⟨by rw [List.length_drop]; have := hwd.1; omega, hn, fun i hi => hwd.2.2 i (List.mem_of_mem_drop hi)⟩
theorem tails_ok {W T : List (List Int)} (hT : ∀ t, t ∈ T ↔ Reach W t) (hp : T.Pairwise (fun a b => ltW a b = true)) (hn : ∀ t, Reach W t → t ∉ W) : tailsOk W T = true := by
  unfold tailsOk
  rw [asc_of hp]
  have h1 : (T.any fun t => decide (t ∈ W)) = false := by
    rw [List.any_eq_false]
    intro t ht
    simpa using hn t ((hT t).mp ht)
  rw [h1]
  simp only [Bool.not_false, Bool.and_self, Bool.true_and, List.all_eq_true, decide_eq_true_eq]
  intro r hr
  rcases List.mem_append.mp hr with hr | hr
  · exact (hT r).mpr (.first hr)
  · obtain ⟨t, ht, hr⟩ := List.mem_flatMap.mp hr
    exact (hT r).mpr (.next ((hT t).mp ht) hr)
/-- what code_paper tells -/
inductive Told (W : List (List Int)) : PyData → Prop
  | tails {T : List (List Int)} : T.length ≤ 48 → (∀ t ∈ T, Wd t) → (∀ t, Reach W t → t ∉ W) → Told W (.tuple [.str "tails", wds T])
  | twice {a b : List Int} : a.length ≤ 100 → b.length ≤ 100 → (∃ t, Reach W t ∧ t ∈ W) → Told W (.tuple [.str "twice", wd a, wd b])
/-! ### the law's lists -/
theorem t_word (n : Nat) (d : PyData) (hd : Dr d) (top : Int) (h2 : 2 ≤ top) (h3 : top ≤ 3) (s2 s3 s4 : Slot) :
    ∃ w d', evE (pg.calls (n + 1)) (.comp (.cio 23 0 (.cons (.var 1) .nil)) (.one 5) (.rng (.cons (.bop .add (.lit (.int 1)) (.cio 23 0 (.cons (.lit (.int 3)) .nil))) .nil)) .none [5]) [.mu .io d, .va (.int top), s2, s3, s4, .un] = .ok (.nw (.list (w.map PyData.int)), [.mu .io d', .va (.int top), s2, s3, s4, .un]) ∧ Dr d' ∧ Gw w := by
  obtain ⟨r, d1, e1, hd1, r0, r1⟩ := c_take n d 3 hd (by decide) (by decide)
  obtain ⟨k, rfl⟩ := Int.eq_ofNat_of_zero_le r0
  have hk : k ≤ 2 := by omega
  have er : rng [.int (1 + (k : Int))] = some (0, k + 1) := by
    have := rng1 (j := k + 1) (by omega)
    rwa [Int.natCast_add, Int.natCast_one, Int.add_comm] at this
  have hi : evI (pg.calls (n + 1)) (.rng (.cons (.bop .add (.lit (.int 1)) (.cio 23 0 (.cons (.lit (.int 3)) .nil))) .nil)) [.mu .io d, .va (.int top), s2, s3, s4, .un] = .ok ⟨rangeL 0 (k + 1), [.mu .io d1, .va (.int top), s2, s3, s4, .un], []⟩ := by
    simp [callIO, e1, er]
  obtain ⟨ys, g', ec, lc, qc, d2, t, hd2, ft, rfl⟩ := compL_io (own := [5]) (turn := turnF (.one 5) (evT (pg.calls (n + 1)) .none) (evE (pg.calls (n + 1)) (.cio 23 0 (.cons (.var 1) .nil))))
    (fun g => ∃ d t, Dr d ∧ Free t ∧ g = [.mu .io d, .va (.int top), s2, s3, s4, t]) (fun y => ∃ i : Int, y = .int i ∧ 0 ≤ i ∧ i < 3) (rangeL 0 (k + 1)) [] [.mu .io d1, .va (.int top), s2, s3, s4, .un] ⟨d1, .un, hd1, trivial, rfl⟩
    (fun g x ⟨d, t, hd, ft, hg⟩ => by
      subst hg
      obtain ⟨r, d', e, hd', h0, h3⟩ := c_take n d top hd (by omega) (by omega)
      exact ⟨.int r, [.mu .io d', .va (.int top), s2, s3, s4, .va x], by simp [turnF, wipe, callIO, e], ⟨r, rfl, h0, by omega⟩, d', _, hd', free_va _, rfl⟩) (by simp [rangeL]; exact le_line (by omega))
  obtain ⟨l, rfl, hl⟩ := sign_of qc
  have hlen : l.length = k + 1 := by simpa [rangeL] using lc
  refine ⟨l, d2, ?_, hd2, by omega, (fun e => by rw [e] at hlen; simp at hlen), hl⟩
  rw [ev_comp]
  unfold compF
  rw [hi, Res.bind_ok]
  simp only [ec, Res.quiet_ok, Res.bind_ok, List.nil_append]
  rfl
theorem c_llist (n : Nat) (d : PyData) (hd : Dr d) : ∃ W d', callAt pg (n + 2) 25 [d] = .ok false (wds W) (some d') ∧ Dr d' ∧ Lw W := by
  rw [call_eq (d := f25) rfl rfl]
  obtain ⟨r, d1, e1, hd1, r0, r1⟩ := c_take n d 2 hd (by decide) (by decide)
  obtain ⟨q, d2, e2, hd2, q0, q1⟩ := c_take n d1 4 hd1 (by decide) (by decide)
  obtain ⟨k, rfl⟩ := Int.eq_ofNat_of_zero_le q0
  have er : rng [.int (1 + (k : Int))] = some (0, k + 1) := by
    have := rng1 (j := k + 1) (by omega)
    rwa [Int.natCast_add, Int.natCast_one, Int.add_comm] at this
  obtain ⟨g', eg, d3, X, s3, s4, hd3, f3, f4, rfl, hn, hX, hlX, hpX⟩ := forL_inv (turn := fun g x => (Res.of (bindT g (.one 3) x)).out fun g1 => exSs (pg.calls (n + 1)) l25_1 g1)
    (fun i g => ∃ (d : PyData) (X : List (List Int)) (s3 s4 : Slot), Dr d ∧ Free s3 ∧ Free s4 ∧ g = [.mu .io d, .va (.int (2 + r)), .mu .ow (.list (X.map wd)), s3, s4, .un] ∧ X.Nodup ∧ (∀ w ∈ X, Gw w) ∧ X.length ≤ i ∧ (0 < i → 0 < X.length)) (rangeL 0 (k + 1)) 0
    [.mu .io d2, .va (.int (2 + r)), .mu .ow (.list []), .un, .un, .un]
    (fun i v g hv ⟨d, X, s3, s4, hd, f3, f4, hg, hn, hX, hlX, hpX⟩ => by
      subst hg
      obtain ⟨hk, rfl⟩ := rangeL_at hv
      obtain ⟨w, d', e, hd', hw⟩ := t_word n d hd (2 + r) (by omega) (by omega) (.mu .ow (.list (X.map wd))) (.va (.int (0 + (i : Int)))) s4
      have ht : bi .tuple [.list (w.map PyData.int)] = some (false, wd w) := rfl
      have hni : cop .nin (wd w) (.list (X.map wd)) = some (!decide (w ∈ X)) := nin_wlist X w
      have ha := app_ok (wd w) (X.map wd) (by rw [List.length_map]; exact small (by omega))
      generalize hq : w.map PyData.int = q at e ht
      rw [Int.zero_add] at e
      by_cases hin : w ∈ X
      · refine ⟨[.mu .io d', .va (.int (2 + r)), .mu .ow (.list (X.map wd)), .va (.int (0 + (i : Int))), .va (wd w), .un], ?_, d', X, _, _, hd', free_va _, free_va _, rfl, hn, hX, by omega, fun _ => List.length_pos_of_mem hin⟩
        simp [l25_1, f3, f4, e, ht, hni, hin, -ev_comp, -tup_lst]
      · refine ⟨[.mu .io d', .va (.int (2 + r)), .mu .ow (.list ((X ++ [w]).map wd)), .va (.int (0 + (i : Int))), .va (wd w), .un], ?_, d', X ++ [w], _, _, hd', free_va _, free_va _, rfl, ?_, fun x hx => ?_, by rw [List.length_append, List.length_singleton]; omega, fun _ => by rw [List.length_append, List.length_singleton]; omega⟩
        · simp [l25_1, f3, f4, e, ht, hni, hin, ha, -ev_comp, -tup_lst]
        · have : addK X w = X ++ [w] := by simp [addK, hin]
          rw [← this]
          exact addK_nodup hn
        · rcases List.mem_append.mp hx with hx | hx
          · exact hX x hx
          · rw [List.mem_singleton] at hx; rw [hx]; exact hw)
    ⟨d2, [], .un, .un, hd2, trivial, trivial, rfl, List.nodup_nil, (fun w hw => nomatch hw), Nat.le_refl _, fun h => absurd h (by decide)⟩
  have hlr : (rangeL 0 (k + 1)).length = k + 1 := by simp [rangeL]
  rw [hlr] at hlX hpX
  have hpos := hpX (by omega)
  have hfr : exS (pg.calls (n + 1)) (.fr (.one 3) (.rng (.cons (.bop .add (.lit (.int 1)) (.cio 23 0 (.cons (.lit (.int 4)) .nil))) .nil)) l25_1) [.mu .io d1, .va (.int (2 + r)), .mu .ow (.list []), .un, .un, .un] = .nx [.mu .io d3, .va (.int (2 + r)), .mu .ow (.list (X.map wd)), s3, s4, .un] := by
    rw [ex_fr, fr_nl (xs := rangeL 0 (k + 1)) (g1 := [.mu .io d2, .va (.int (2 + r)), .mu .ow (.list []), .un, .un, .un])]
    · exact eg
    · simp [callIO, e2, er]
  have hs : bi .sorted [.list (X.map wd)] = some (true, .list ((X.mergeSort leW).map wd)) := by
    show (sortedD (X.map wd)).map _ = _
    rw [sorted_wds (fun h => (hX _ h).2.1 rfl)]
    rfl
  refine ⟨X.mergeSort leW, d3, ?_, hd3, ⟨⟨by rw [sorted_len]; omega, by rw [sorted_len]; omega, fun w hw => ?_, asc_of (sorted_asc hn)⟩, sorted_asc hn, fun w hw => hX w ((sorted_mem X w).mp hw), .inl (by rw [sorted_len]; omega)⟩⟩
  · simp [f25, b25, startE, callIO, e1, hfr, hs, endD, wds, -ex_fr]
  · have := hX w ((sorted_mem X w).mp hw)
    exact ⟨by have := this.1; omega, this.2.1, this.2.2⟩
end P50
end

section
set_option Elab.async false
set_option linter.all false
set_option maxRecDepth 100000
set_option maxHeartbeats 4000000
/-! P50p: bent values. -/
namespace P50
open PySem (PyData Str)
open PK L50

/-- plain data, so deep, with short tuples -/
def Sm : Nat → PyData → Prop
  | 0, d => d.plain = true ∧ d.depth = 0
  | k + 1, d => d.plain = true ∧ d.depth ≤ k + 1 ∧ ∀ ds, d = .tuple ds → ds.length ≤ 1000 ∧ ∀ x ∈ ds, Sm k x
theorem Sm.pl : ∀ {k : Nat} {d : PyData}, Sm k d → d.plain = true ∧ d.depth ≤ k
  | 0, _, h => ⟨h.1, Nat.le_of_eq h.2⟩
  | _ + 1, _, h => ⟨h.1, h.2.1⟩
theorem Sm.up : ∀ {k : Nat} {d : PyData}, Sm k d → Sm (k + 1) d
  | 0, d, h => ⟨h.1, by have := h.2; omega, fun ds e => by
    subst e
    have h2 : PyData.depthAll ds + 1 = 0 := h.2
    omega⟩
  | k + 1, d, h => ⟨h.1, Nat.le_succ_of_le h.2.1, fun ds e => ⟨(h.2.2 ds e).1, fun x hx => ((h.2.2 ds e).2 x hx).up⟩⟩
theorem all_pl {k : Nat} : ∀ {ds : List PyData}, (∀ x ∈ ds, Sm k x) → PyData.plainAll ds = true ∧ PyData.depthAll ds ≤ k
  | [], _ => ⟨rfl, Nat.zero_le _⟩
  | d :: ds, h => by
    have h1 := (h d List.mem_cons_self).pl
    have h2 := all_pl (ds := ds) fun x hx => h x (List.mem_cons_of_mem _ hx)
    refine ⟨?_, ?_⟩
    · show (d.plain && PyData.plainAll ds) = true
      rw [h1.1, h2.1]
      rfl
    · show max d.depth (PyData.depthAll ds) ≤ k
      omega
theorem sm_tup {k : Nat} {ds : List PyData} (hl : ds.length ≤ 1000) (h : ∀ x ∈ ds, Sm k x) : Sm (k + 1) (.tuple ds) := by
  obtain ⟨h1, h2⟩ := all_pl h
  exact ⟨h1, Nat.succ_le_succ h2, fun es e => by cases e; exact ⟨hl, h⟩⟩
theorem sm_lst {k : Nat} {ds : List PyData} (h : ∀ x ∈ ds, Sm k x) : Sm (k + 1) (.list ds) := by
  obtain ⟨h1, h2⟩ := all_pl h
  exact ⟨h1, Nat.succ_le_succ h2, fun es e => nomatch e⟩
theorem Sm.nc {k : Nat} {d : PyData} (h : Sm k d) (hk : k ≤ 60) : Nc d := by
  refine ⟨?_, fun ds e => ?_⟩
  · unfold shap
    have := h.pl
    rw [this.1]
    simp
    omega
  · cases k with
    | zero =>
      subst e
      have h2 : PyData.depthAll ds + 1 = 0 := h.2
      omega
    | succ k => exact (h.2.2 ds e).1
theorem Sm.nn : ∀ {j k : Nat} {d : PyData}, Sm k d → k ≤ 60 → Nn j d
  | 0, _, _, h, hk => h.nc hk
  | j + 1, k, d, h, hk => ⟨h.nc hk, fun ds e x hx => by
    cases k with
    | zero =>
      subst e
      have h2 : PyData.depthAll ds + 1 = 0 := h.2
      omega
    | succ k => exact ((h.2.2 ds e).2 x hx).nn (by omega)⟩
theorem Sm.ups {k : Nat} : ∀ {j : Nat} {d : PyData}, Sm k d → Sm (k + j) d
  | 0, _, h => h
  | _ + 1, _, h => (Sm.ups h).up
theorem sm_int (i : Int) : Sm 0 (.int i) := ⟨rfl, rfl⟩
theorem sm_bool (b : Bool) : Sm 0 (.bool b) := ⟨rfl, rfl⟩
theorem sm_str (s : Str) : Sm 0 (.str s) := ⟨rfl, rfl⟩
theorem sm_none : Sm 0 .none := ⟨rfl, rfl⟩
theorem sm_wd {l : List Int} (h : l.length ≤ 1000) : Sm 1 (wd l) := sm_tup (by simpa using h) fun x hx => by
  obtain ⟨i, _, rfl⟩ := List.mem_map.mp hx
  exact sm_int i
theorem sm_wds {T : List (List Int)} (h : T.length ≤ 1000) (hw : ∀ t ∈ T, t.length ≤ 1000) : Sm 2 (wds T) := sm_tup (by simpa using h) fun x hx => by
  obtain ⟨t, ht, rfl⟩ := List.mem_map.mp hx
  exact sm_wd (hw t ht)
theorem sm_nil : Sm 1 (.tuple []) := sm_tup (by simp) fun x hx => nomatch hx
@[simp] theorem ix3_0 (a b c : PyData) : ix (.list [a, b, c]) (.int 0) = some a := rfl
@[simp] theorem ix3_1 (a b c : PyData) : ix (.list [a, b, c]) (.int 1) = some b := rfl
@[simp] theorem ix3_2 (a b c : PyData) : ix (.list [a, b, c]) (.int 2) = some c := rfl
@[simp] theorem ix6_5 (a b c d e f : PyData) : ix (.list [a, b, c, d, e, f]) (.int 5) = some f := rfl
@[simp] theorem ix6_4 (a b c d e f : PyData) : ix (.list [a, b, c, d, e, f]) (.int 4) = some e := rfl
@[simp] theorem ix6_3 (a b c d e f : PyData) : ix (.list [a, b, c, d, e, f]) (.int 3) = some d := rfl
@[simp] theorem ix6_2 (a b c d e f : PyData) : ix (.list [a, b, c, d, e, f]) (.int 2) = some c := rfl
@[simp] theorem ix6_1 (a b c d e f : PyData) : ix (.list [a, b, c, d, e, f]) (.int 1) = some b := rfl
@[simp] theorem ix6_0 (a b c d e f : PyData) : ix (.list [a, b, c, d, e, f]) (.int 0) = some a := rfl
@[simp] theorem rev_tup (xs : List PyData) : rev (.tuple xs) = some (false, .tuple xs.reverse) := rfl
theorem sm_of {k : Nat} {ds rs : List PyData} {P : PyData → Prop} (h : ∀ x ∈ ds, Sm k x) (hl : rs.length ≤ 1000) (hz : ∀ z ∈ rs, Sm k z ∨ z ∈ ds) : Sm (k + 1) (.tuple rs) :=
  sm_tup hl fun z hz' => (hz z hz').elim id (h z)
theorem told_sm {W : List (List Int)} {v : PyData} (h : Told W v) : Sm 3 v ∧ ∃ ds, v = .tuple ds ∧ (∀ x ∈ ds, Sm 2 x) ∧ ds.length ≤ 3 := by
  have key : ∀ ds : List PyData, ds.length ≤ 3 → (∀ x ∈ ds, Sm 2 x) → Sm 3 (.tuple ds) ∧ ∃ es, PyData.tuple ds = .tuple es ∧ (∀ x ∈ es, Sm 2 x) ∧ es.length ≤ 3 := fun ds hl hx => ⟨sm_tup (by omega) hx, ds, rfl, hx, hl⟩
  cases h with
  | tails hl hw _ =>
    refine key _ (by simp) fun x hx => ?_
    simp only [List.mem_cons, List.not_mem_nil, or_false] at hx
    rcases hx with rfl | rfl
    · exact (sm_str _).up.up
    · exact sm_wds (by omega) fun t ht => by have := (hw t ht).1; omega
  | twice ha hb _ =>
    refine key _ (by simp) fun x hx => ?_
    simp only [List.mem_cons, List.not_mem_nil, or_false] at hx
    rcases hx with rfl | rfl | rfl
    · exact (sm_str _).up.up
    · exact (sm_wd (by omega)).up
    · exact (sm_wd (by omega)).up
end P50
end

section
set_option Elab.async false
set_option linter.all false
set_option maxRecDepth 100000
set_option maxHeartbeats 4000000
/-! P50q: what is no list. -/
namespace P50
open PySem (PyData Str)
open PK L50

/-- no list of words -/
def OddL (v : PyData) : Prop := Nn 1 v ∧ ∀ V, v = wds V → ¬ Ls V
def ncB (d : PyData) : Bool := shap d && (match d with
  | .tuple ds => decide (ds.length ≤ 1000)
  | _ => true)
def nnB (d : PyData) : Bool := ncB d && (match d with
  | .tuple ds => ds.all ncB
  | _ => true)
theorem nc_of {d : PyData} (h : ncB d = true) : Nc d := by
  simp only [ncB, Bool.and_eq_true] at h
  refine ⟨h.1, fun ds e => ?_⟩
  subst e
  simpa using h.2
theorem nn_of {d : PyData} (h : nnB d = true) : Nn 1 d := by
  simp only [nnB, Bool.and_eq_true] at h
  refine ⟨nc_of h.1, fun ds e x hx => ?_⟩
  subst e
  exact nc_of (List.all_eq_true.mp h.2 x hx)
def maybe (d : PyData) : Bool := match d with
  | .tuple ds => decide (1 ≤ ds.length) && decide (ds.length ≤ 8) && ds.all isTl
  | _ => false
theorem odd_of {d : PyData} (h : nnB d = true) (h2 : maybe d = false) : OddL d := ⟨nn_of h, fun V e hV => by
  subst e
  have : maybe (wds V) = true := by
    show (decide (1 ≤ (V.map wd).length) && decide ((V.map wd).length ≤ 8) && (V.map wd).all isTl) = true
    rw [tls_wds hV.2.2.1, List.length_map]
    simp [hV.1, hV.2.1]
  rw [this] at h2
  cases h2⟩
theorem asc_pw : ∀ {W : List (List Int)}, asc W = true → W.Pairwise (fun a b => ltW a b = true)
  | [], _ => List.Pairwise.nil
  | [_], _ => List.pairwise_singleton _ _
  | a :: b :: W, h => by
    have h : (ltW a b && asc (b :: W)) = true := h
    rw [Bool.and_eq_true] at h
    have ih := asc_pw h.2
    refine List.pairwise_cons.mpr ⟨fun c hc => ?_, ih⟩
    rcases List.mem_cons.mp hc with rfl | hc
    · exact h.1
    · exact ltW_trans h.1 ((List.pairwise_cons.mp ih).1 c hc)
theorem nn_wds {V : List (List Int)} (h : V.length ≤ 1000) (hv : ∀ w ∈ V, w.length ≤ 1000) : Nn 1 (wds V) := (sm_wds h hv).nn (by decide)
theorem odd_twice {W : List (List Int)} (h : Lw W) : OddL (wds (W ++ W.take 1)) := by
  have h1 := h.ls.1
  have h4 := h.l4
  refine ⟨nn_wds (by rw [List.length_append, List.length_take]; omega) fun w hw => ?_, fun V e hV => ?_⟩
  · have : w ∈ W := (List.mem_append.mp hw).elim id List.mem_of_mem_take
    have := (h.ls.2.2.1 w this).1
    omega
  · have e := wds_inj e
    subst e
    have hp := asc_pw hV.2.2.2
    cases W with
    | nil => exact absurd h1 (by decide)
    | cons w W =>
      have := (List.pairwise_cons.mp hp).1 w (List.mem_append_right _ (by simp))
      rw [ltW_irr] at this
      cases this
theorem odd_empty {W : List (List Int)} (h : Lw W) : OddL (wds ([] :: W)) := by
  have h4 := h.l4
  refine ⟨nn_wds (by rw [List.length_cons]; omega) fun w hw => ?_, fun V e hV => ?_⟩
  · rcases List.mem_cons.mp hw with rfl | hw
    · simp
    · have := (h.ls.2.2.1 w hw).1
      omega
  · have e := wds_inj e
    subst e
    exact (hV.2.2.1 [] List.mem_cons_self).2.1 rfl
theorem odd_desc : OddL (.tuple [.tuple [.int 1], .tuple [.int 0]]) := ⟨nn_of (by decide +kernel), fun V e hV => by
  have e : V = [[1], [0]] := wds_inj (T := V) (V := [[1], [0]]) e.symm
  subst e
  have h0 : asc [[1], [0]] = false := by decide +kernel
  have h1 := hV.2.2.2
  rw [h0] at h1
  cases h1⟩
theorem odd_list {W : List (List Int)} (h : Lw W) : OddL (wlist W) := ⟨⟨⟨shap_wlist W, fun ds e => nomatch e⟩, fun ds e => nomatch e⟩, fun V e => nomatch e⟩
def T9 : PyData := .tuple ((List.range 9).map fun (k : Nat) => .tuple [.int 0, .int 0, .int ((k : Int) / 9), .int ((k : Int) / 3 % 3), .int ((k : Int) % 3)])
def OL (W : List (List Int)) : List PyData := [.none, .tuple [], .int 5, wlist W, wds (W ++ W.take 1), wds ([] :: W), .tuple [.tuple [.int 0, .int 3]], .tuple [.tuple [.bool true]], .tuple [.list [.int 0]], .tuple [.tuple [.int 1], .tuple [.int 0]],
  .tuple [.tuple [.int 0, .int 0, .int 0, .int 0, .int 0, .int 0, .int 0]], .tuple [.int 0], .tuple [.tuple [.str "0"]], .tuple [.tuple [.int (-1)]], T9]
theorem odd_all {W : List (List Int)} (h : Lw W) : ∀ v ∈ OL W, OddL v := by
  intro v hv
  simp only [OL, List.mem_cons, List.not_mem_nil, or_false] at hv
  rcases hv with rfl | rfl | rfl | rfl | rfl | rfl | rfl | rfl | rfl | rfl | rfl | rfl | rfl | rfl | rfl
  · exact odd_of (by decide +kernel) (by decide +kernel)
  · exact odd_of (by decide +kernel) (by decide +kernel)
  · exact odd_of (by decide +kernel) (by decide +kernel)
  · exact odd_list h
  · exact odd_twice h
  · exact odd_empty h
  · exact odd_of (by decide +kernel) (by decide +kernel)
  · exact odd_of (by decide +kernel) (by decide +kernel)
  · exact odd_of (by decide +kernel) (by decide +kernel)
  · exact odd_desc
  · exact odd_of (by decide +kernel) (by decide +kernel)
  · exact odd_of (by decide +kernel) (by decide +kernel)
  · exact odd_of (by decide +kernel) (by decide +kernel)
  · exact odd_of (by decide +kernel) (by decide +kernel)
  · exact odd_of (by decide +kernel) (by decide +kernel)
theorem c_lodd (n : Nat) (W : List (List Int)) (h : Lw W) (d : PyData) (hd : Dr d) : ∃ v d', callAt pg (n + 2) 27 [d, wds W] = .ok false v (some d') ∧ Dr d' ∧ OddL v := by
  obtain ⟨r, d', ed, hd', r0, r1⟩ := c_take n d 15 hd (by decide) (by decide)
  obtain ⟨k, rfl⟩ := Int.eq_ofNat_of_zero_le r0
  have hk : k < (OL W).length := by show k < 15; omega
  have hx := ix_nat (List.getElem?_eq_getElem hk)
  have hodd := odd_all h _ (List.getElem_mem hk)
  generalize (OL W)[k] = v at hx hodd
  refine ⟨v, d', ?_, hd', hodd⟩
  have h4 := h.l4
  have s1 : slc (wds W) none (some (.int 1)) = some (false, wds (W.take 1)) := by
    have := slc_take (W.map wd) 1
    rw [← List.map_take] at this
    exact this
  have s2 : bop .add (wds W) (wds (W.take 1)) = some (false, wds (W ++ W.take 1)) := by
    have := cat_tup (W.map wd) ((W.take 1).map wd) (by rw [List.length_map, List.length_map, List.length_take]; exact le_line (by omega))
    rw [← List.map_append] at this
    exact this
  have s3 : bop .add (.tuple [.tuple []]) (wds W) = some (false, wds ([] :: W)) := cat_tup [.tuple []] (W.map wd) (by rw [List.length_map]; simp only [List.length_cons, List.length_nil]; exact le_line (by omega))
  have s4 : bop .mul (.tuple [.int 0]) (.int 7) = some (false, .tuple [.int 0, .int 0, .int 0, .int 0, .int 0, .int 0, .int 0]) := rfl
  have s5 : bi .list [wds W] = some (true, wlist W) := rfl
  have hr9 : rng [.int 9] = some (0, 9) := rng1 (j := 9) (by decide)
  have hcomp : ∀ s2, evE (pg.calls (n + 1)) (.comp (.tup (.cons (.lit (.int 0)) (.cons (.lit (.int 0)) (.cons (.bi .int (.cons (.bop .fdiv (.var 3) (.lit (.int 9))) .nil)) (.cons (.bop .mod (.bi .int (.cons (.bop .fdiv (.var 3) (.lit (.int 3))) .nil)) (.lit (.int 3))) (.cons (.bop .mod (.bi .int (.cons (.var 3) .nil)) (.lit (.int 3))) .nil)))))) (.one 3) (.rng (.cons (.lit (.int 9)) .nil)) .none [3]) [.mu .io d, .va (wds W), s2, .un] =
      .ok (.nw (.list ((List.range 9).map fun (k : Nat) => .tuple [.int 0, .int 0, .int ((k : Int) / 9), .int ((k : Int) / 3 % 3), .int ((k : Int) % 3)])), [.mu .io d, .va (wds W), s2, .un]) := fun s2 => by
    rw [ev_comp, compF_map (fun (k : Nat) => .int (0 + (k : Int))) (fun (k : Nat) => some (.tuple [.int 0, .int 0, .int ((k : Int) / 9), .int ((k : Int) / 3 % 3), .int ((k : Int) % 3)])) (List.range 9), filterMap_some]
    · simp [hr9, rangeL]
    · intro k _
      refine ⟨[.mu .io d, .va (wds W), s2, .va (.int (0 + (k : Int)))], ?_, rfl⟩
      simp [turnF, wipe, mod_pos _ 3 (by decide), div_pos _ 3 (by decide) (by decide), div_pos _ 9 (by decide) (by decide)]
    · decide
  have ht9 : bi .tuple [.list ((List.range 9).map fun (k : Nat) => .tuple [.int 0, .int 0, .int ((k : Int) / 9), .int ((k : Int) / 3 % 3), .int ((k : Int) % 3)])] = some (false, T9) := rfl
  generalize (List.range 9).map (fun (k : Nat) => PyData.tuple [.int 0, .int 0, .int ((k : Int) / 9), .int ((k : Int) / 3 % 3), .int ((k : Int) % 3)]) = q9 at hcomp ht9
  have hcat : bop .add (.list [.none, .tuple [], .int 5, wlist W, wds (W ++ W.take 1), wds ([] :: W), .tuple [.tuple [.int 0, .int 3]], .tuple [.tuple [.bool true]], .tuple [.list [.int 0]], .tuple [.tuple [.int 1], .tuple [.int 0]],
      .tuple [.tuple [.int 0, .int 0, .int 0, .int 0, .int 0, .int 0, .int 0]], .tuple [.int 0], .tuple [.tuple [.str "0"]], .tuple [.tuple [.int (-1)]]]) (.list [T9]) = some (true, .list (OL W)) := rfl
  rw [call_eq (d := f27) rfl rfl]
  simp [f27, b27, startE, callIO, s1, s2, s3, s4, s5, hcomp, ht9, hcat, ed, hx, endD, -ev_comp, -tup_lst]
end P50
end

section
set_option Elab.async false
set_option linter.all false
set_option maxRecDepth 100000
set_option maxHeartbeats 4000000
/-! P50r: fractions. -/
namespace P50
open PySem (PyData Str)
open PK L50

theorem c_common (n : Nat) (a b : Nat) (hb : b < 90000) : callAt pg (n + 1) 1 [.int (a : Int), .int (b : Int)] = .ok false (.int ((Nat.gcd a b : Nat) : Int)) none := by
  rw [call_eq (d := f1) rfl rfl]
  obtain ⟨g', eg, rfl⟩ := whlL_nx (tst := tstF (evE (pg.calls n) (.cmp .ne (.var 1) (.lit (.int 0))))) (body := exSs (pg.calls n) l1_1)
    (fun k g => ∃ x y : Nat, g = [.va (.int (x : Int)), .va (.int (y : Int))] ∧ Nat.gcd x y = Nat.gcd a b ∧ k = y)
    (fun g => g = [.va (.int ((Nat.gcd a b : Nat) : Int)), .va (.int 0)])
    (fun k g ⟨x, y, hg, hgc, hk⟩ => by
      subst hg
      subst hk
      by_cases h0 : k = 0
      · subst h0
        refine .inr ⟨[.va (.int (x : Int)), .va (.int 0)], by simp, ?_⟩
        rw [← hgc, Nat.gcd_zero_right]
      · have hpos : (0 : Int) < (k : Int) := by omega
        have h0' : ¬ ((k : Int) = 0) := by omega
        refine .inl ⟨[.va (.int (x : Int)), .va (.int (k : Int))], by simp [h0], x % k, [.va (.int (k : Int)), .va (.int ((x % k : Nat) : Int))], ?_, Nat.mod_lt _ (by omega), k, x % k, rfl, ?_, rfl⟩
        · simp [l1_1, mod_pos _ _ hpos]
        · rw [← hgc, Nat.gcd_comm k (x % k), ← Nat.gcd_rec, Nat.gcd_comm])
    (n := 100000) (k := b) (g := [.va (.int (a : Int)), .va (.int (b : Int))]) (by omega) ⟨a, b, rfl, rfl, rfl⟩
  have hwl : exS (pg.calls n) (.whl (.cmp .ne (.var 1) (.lit (.int 0))) l1_1) [.va (.int (a : Int)), .va (.int (b : Int))] = .nx [.va (.int ((Nat.gcd a b : Nat) : Int)), .va (.int 0)] := eg
  have ha : ¬ ((a : Int) < 0) := by omega
  have hb' : ¬ ((b : Int) < 0) := by omega
  simp [f1, b1, startE, ha, hb', hwl, endD, -ex_whl]
end P50
end

section
set_option Elab.async false
set_option linter.all false
set_option maxRecDepth 100000
set_option maxHeartbeats 4000000
/-! P50s: fractions in lowest terms, weights. -/
namespace P50
open PySem (PyData Str)
open PK L50

theorem div_nat (i : Int) (j : Nat) (h : 0 < j) (h2 : j < 90000) : bop .fdiv (.int i) (.int (j : Int)) = some (false, .int (i / (j : Int))) := by
  have h3 : (j : Int).natAbs.log2 < 30 := (Nat.log2_lt (by simp; omega)).mpr (by simp; omega)
  have h4 : (0 : Int) < (j : Int) := by omega
  show (bopI .fdiv i j).map _ = _
  simp only [bopI, h3, h4, and_self, if_true, Option.map_some]
/-- a fraction -/
def fr (p : Nat × Nat) : PyData := .tuple [.int (p.1 : Int), .int (p.2 : Int)]
def low (n d : Nat) : Nat × Nat := (n / Nat.gcd n d, d / Nat.gcd n d)
theorem c_lowest (n : Nat) (a b : Nat) (h0 : 0 < b) (hb : b < 90000) : callAt pg (n + 2) 2 [.int (a : Int), .int (b : Int)] = .ok false (fr (low a b)) none := by
  rw [call_eq (d := f2) rfl rfl]
  have hc := c_common n a b hb
  have hg : 0 < Nat.gcd a b := Nat.gcd_pos_of_pos_right a h0
  have hg2 : Nat.gcd a b ≤ b := Nat.le_of_dvd h0 (Nat.gcd_dvd_right a b)
  have hb' : ¬ ((b : Int) < 0) := by omega
  have d1 := div_nat (a : Int) (Nat.gcd a b) hg (by omega)
  have d2 := div_nat (b : Int) (Nat.gcd a b) hg (by omega)
  have e1 : ((a : Int) / ((Nat.gcd a b : Nat) : Int)) = ((a / Nat.gcd a b : Nat) : Int) := by rw [Int.natCast_ediv]
  have e2 : ((b : Int) / ((Nat.gcd a b : Nat) : Int)) = ((b / Nat.gcd a b : Nat) : Int) := by rw [Int.natCast_ediv]
  rw [e1] at d1
  rw [e2] at d2
  generalize hG : Nat.gcd a b = G at *
  simp [f2, b2, startE, hc, hb', d1, d2, endD, fr, low, hG]
end P50
end

section
set_option Elab.async false
set_option linter.all false
set_option maxRecDepth 100000
set_option maxHeartbeats 4000000
/-! P50t: weights. -/
namespace P50
open PySem (PyData Str)
open PK L50

theorem low_pos {a b : Nat} (h : 0 < b) : 0 < (low a b).2 := Nat.div_pos (Nat.le_of_dvd h (Nat.gcd_dvd_right a b)) (Nat.gcd_pos_of_pos_right a h)
theorem c_ratio (n : Nat) (a b : Nat) (h0 : 0 < b) (hb : b < 90000) : callAt pg (n + 3) 3 [.int (a : Int), .int (b : Int)] = .ok false (fr (low a b)) none := by
  rw [call_eq (d := f3) rfl rfl]
  have hc := c_lowest n a b h0 hb
  have hb' : ¬ ((b : Int) = 0) := by omega
  have hn : noList (fr (low a b)) = true := rfl
  have hb2 : ¬ (b = 0) := by omega
  simp [f3, b3, startE, hc, hb', hb2, hn, endD]
theorem ix_fr0 (p : Nat × Nat) : ix (fr p) (.int 0) = some (.int (p.1 : Int)) := ix_natT (j := 0) rfl
theorem ix_fr1 (p : Nat × Nat) : ix (fr p) (.int 1) = some (.int (p.2 : Int)) := ix_natT (j := 1) rfl
def plus (p q : Nat × Nat) : Nat × Nat := low (p.1 * q.2 + q.1 * p.2) (p.2 * q.2)
theorem wide_nat (j : Nat) (h : j < 900000) : isWide (j : Int) = true := wide_ok (by omega) (by omega)
theorem c_plus (n : Nat) (p q : Nat × Nat) (h1 : 0 < p.2) (h2 : 0 < q.2) (hb : p.2 * q.2 < 90000) : callAt pg (n + 3) 4 [fr p, fr q] = .ok false (fr (plus p q)) none := by
  rw [call_eq (d := f4) rfl rfl]
  have hp : p.2 < 90000 := Nat.lt_of_le_of_lt (Nat.le_mul_of_pos_right _ h2) hb
  have hq : q.2 < 90000 := Nat.lt_of_le_of_lt (Nat.le_mul_of_pos_left _ h1) hb
  have m1 := mul_lit (p.1 : Int) (q.2 : Int) (wide_nat _ (by omega))
  have m2 := mul_lit (q.1 : Int) (p.2 : Int) (wide_nat _ (by omega))
  have m3 := mul_lit (p.2 : Int) (q.2 : Int) (wide_nat _ (by omega))
  have hc := c_lowest n (p.1 * q.2 + q.1 * p.2) (p.2 * q.2) (Nat.mul_pos h1 h2) hb
  have e1 : ((p.1 * q.2 + q.1 * p.2 : Nat) : Int) = (p.1 : Int) * (q.2 : Int) + (q.1 : Int) * (p.2 : Int) := by simp
  have e2 : ((p.2 * q.2 : Nat) : Int) = (p.2 : Int) * (q.2 : Int) := by simp
  rw [e1, e2] at hc
  have hn : noList (fr (plus p q)) = true := rfl
  have hc' : callAt pg (n + 2) 2 [.int ((p.1 : Int) * (q.2 : Int) + (q.1 : Int) * (p.2 : Int)), .int ((p.2 : Int) * (q.2 : Int))] = .ok false (fr (plus p q)) none := hc
  simp [f4, b4, startE, ix_fr0, ix_fr1, m1, m2, m3, hc', hn, endD]
end P50
end

section
set_option Elab.async false
set_option linter.all false
set_option maxRecDepth 100000
set_option maxHeartbeats 4000000
/-! P50u: shares, weights of lengths. -/
namespace P50
open PySem (PyData Str)
open PK L50

theorem c_share (n k : Nat) (hk : k ≤ 6) : callAt pg (n + 4) 17 [.int (k : Int)] = .ok false (fr (low 1 (3 ^ k))) none := by
  rw [call_eq (d := f17) rfl rfl]
  have er : rng [.int (k : Int)] = some (0, k) := rng1 (by omega)
  have h3 : 3 ^ k ≤ 3 ^ 6 := Nat.pow_le_pow_right (by decide) hk
  obtain ⟨g', eg, s2, h2, rfl⟩ := forL_inv (turn := fun g x => (Res.of (bindT g (.one 2) x)).out fun g1 => exSs (pg.calls (n + 3)) l17_1 g1)
    (fun i g => ∃ s2, Free s2 ∧ g = [.va (.int (k : Int)), .va (.int ((3 ^ i : Nat) : Int)), s2]) (rangeL 0 k) 0 [.va (.int (k : Int)), .va (.int 1), .un]
    (fun i v g hv ⟨s2, h2, hg⟩ => by
      subst hg
      obtain ⟨hi, rfl⟩ := rangeL_at hv
      rw [Nat.zero_add]
      have m : bop .mul (.int ((3 ^ i : Nat) : Int)) (.int 3) = some (false, .int (((3 ^ i : Nat) : Int) * 3)) := mul_lit _ _ (wide_ok (by decide) (by decide))
      refine ⟨[.va (.int (k : Int)), .va (.int ((3 ^ (i + 1) : Nat) : Int)), .va (.int (0 + (i : Int)))], ?_, .va (.int (0 + (i : Int))), trivial, rfl⟩
      generalize hp : 3 ^ i = P at m
      have e : ((3 ^ (i + 1) : Nat) : Int) = (P : Int) * 3 := by rw [Nat.pow_succ, hp]; simp
      rw [e]
      simp [l17_1, h2, m, -Int.natCast_pow]) ⟨.un, trivial, rfl⟩
  have hl : 0 + (rangeL 0 k).length = k := by simp [rangeL]
  rw [hl] at eg
  have hfr : exS (pg.calls (n + 3)) (.fr (.one 2) (.rng (.cons (.var 0) .nil)) l17_1) [.va (.int (k : Int)), .va (.int 1), .un] = .nx [.va (.int (k : Int)), .va (.int ((3 ^ k : Nat) : Int)), s2] := by
    rw [ex_fr, fr_nl (xs := rangeL 0 k) (g1 := [.va (.int (k : Int)), .va (.int 1), .un])]
    · exact eg
    · simp [er]
  have hc := c_ratio n 1 (3 ^ k) (Nat.pow_pos (by decide)) (by omega)
  have hn : noList (fr (low 1 (3 ^ k))) = true := rfl
  generalize 3 ^ k = P at *
  have hc' : callAt pg (n + 3) 3 [.int 1, .int (P : Int)] = .ok false (fr (low 1 P)) none := hc
  simp [f17, b17, startE, hfr, hc', hn, endD, -ex_fr]
end P50
end

section
set_option Elab.async false
set_option linter.all false
set_option maxRecDepth 100000
set_option maxHeartbeats 4000000
/-! P50v: weights of lengths. -/
namespace P50
open PySem (PyData Str)
open PK L50

theorem low_dvd {N D m : Nat} (hD : 0 < D) (h : D ∣ m * N) : (low N D).2 ∣ m := by
  have hg : 0 < Nat.gcd N D := Nat.gcd_pos_of_pos_right N hD
  have hc : Nat.Coprime (N / Nat.gcd N D) (D / Nat.gcd N D) := Nat.coprime_div_gcd_div_gcd hg
  have h2 : D / Nat.gcd N D ∣ m * (N / Nat.gcd N D) := by
    have e1 : N = N / Nat.gcd N D * Nat.gcd N D := (Nat.div_mul_cancel (Nat.gcd_dvd_left N D)).symm
    have e2 : D = D / Nat.gcd N D * Nat.gcd N D := (Nat.div_mul_cancel (Nat.gcd_dvd_right N D)).symm
    have h3 : D / Nat.gcd N D * Nat.gcd N D ∣ m * (N / Nat.gcd N D) * Nat.gcd N D := by
      rw [← e2, Nat.mul_assoc, ← e1]
      exact h
    exact Nat.dvd_of_mul_dvd_mul_right hg h3
  exact hc.symm.dvd_of_dvd_mul_right h2
theorem plus_dvd {p q : Nat × Nat} {m : Nat} (h1 : 0 < p.2) (h2 : 0 < q.2) (d1 : p.2 ∣ m) (d2 : q.2 ∣ m) : (plus p q).2 ∣ m := by
  refine low_dvd (Nat.mul_pos h1 h2) ?_
  rw [Nat.mul_add]
  refine Nat.dvd_add ?_ ?_
  · rw [← Nat.mul_assoc]
    exact Nat.mul_dvd_mul (Nat.dvd_mul_right_of_dvd d1 _) (Nat.dvd_refl _)
  · have : m * (q.1 * p.2) = p.2 * (m * q.1) := by rw [← Nat.mul_assoc, Nat.mul_comm]
    rw [this]
    exact Nat.mul_dvd_mul (Nat.dvd_refl _) (Nat.dvd_mul_right_of_dvd d2 _)
def wt (ls : List Nat) : Nat × Nat := ls.foldl (fun p k => plus p (low 1 (3 ^ k))) (low 0 1)
theorem share_dvd {k : Nat} (hk : k ≤ 4) : (low 1 (3 ^ k)).2 ∣ 81 := by
  have : (low 1 (3 ^ k)).2 ∣ 3 ^ k := Nat.div_dvd_of_dvd (Nat.gcd_dvd_right _ _)
  exact Nat.dvd_trans this (Nat.pow_dvd_pow 3 hk)
theorem share_pos (k : Nat) : 0 < (low 1 (3 ^ k)).2 := low_pos (Nat.pow_pos (by decide))
theorem wt_dvd {ls : List Nat} (h : ∀ k ∈ ls, k ≤ 4) : ∀ {p : Nat × Nat}, 0 < p.2 → p.2 ∣ 81 → 0 < (ls.foldl (fun p k => plus p (low 1 (3 ^ k))) p).2 ∧ (ls.foldl (fun p k => plus p (low 1 (3 ^ k))) p).2 ∣ 81 := by
  induction ls with
  | nil => exact fun h1 h2 => ⟨h1, h2⟩
  | cons k ls ih =>
    intro p h1 h2
    rw [List.foldl_cons]
    exact ih (fun j hj => h j (List.mem_cons_of_mem _ hj)) (low_pos (Nat.mul_pos h1 (share_pos k))) (plus_dvd h1 (share_pos k) h2 (share_dvd (h k List.mem_cons_self)))
def lns (ls : List Nat) : List PyData := ls.map fun (k : Nat) => .int (k : Int)
theorem c_weight_of (n : Nat) (ls : List Nat) (h : ∀ k ∈ ls, k ≤ 4) (v : PyData) (hv : v = .list (lns ls) ∨ v = .tuple (lns ls)) : callAt pg (n + 5) 18 [v] = .ok false (fr (wt ls)) none := by
  rw [call_eq (d := f18) rfl rfl]
  have h0 : callAt pg (n + 4) 3 [.int 0, .int 1] = .ok false (fr (low 0 1)) none := c_ratio (n + 1) 0 1 (by decide) (by decide)
  have hit : evI (pg.calls (n + 4)) (.of (.var 0)) [.va v, .va (fr (low 0 1)), .un] = .ok ⟨lns ls, [.va v, .va (fr (low 0 1)), .un], []⟩ := by
    rcases hv with rfl | rfl <;> simp
  obtain ⟨g', eg, s2, h2, rfl⟩ := forL_map (turn := fun g x => (Res.of (bindT g (.one 2) x)).out fun g1 => exSs (pg.calls (n + 4)) l18_1 g1) (fun (k : Nat) => PyData.int (k : Int))
    (fun D g => ∃ s2, Free s2 ∧ g = [.va v, .va (fr (D.foldl (fun p k => plus p (low 1 (3 ^ k))) (low 0 1))), s2]) ls [.va v, .va (fr (low 0 1)), .un]
    (fun D k post g e ⟨s2, h2, hg⟩ => by
      subst hg
      have hk : k ≤ 4 := h k (by rw [e]; simp)
      have hD : ∀ j ∈ D, j ≤ 4 := fun j hj => h j (by rw [e]; exact List.mem_append_left _ hj)
      have hs := c_share n k (by omega)
      obtain ⟨w1, w2⟩ := wt_dvd hD (p := low 0 1) (by decide) (by decide)
      have b1 : (D.foldl (fun p k => plus p (low 1 (3 ^ k))) (low 0 1)).2 ≤ 81 := Nat.le_of_dvd (by decide) w2
      have b2 : (low 1 (3 ^ k)).2 ≤ 81 := Nat.le_of_dvd (by decide) (share_dvd hk)
      have hp := c_plus (n + 1) _ _ w1 (share_pos k) (Nat.lt_of_le_of_lt (Nat.mul_le_mul b1 b2) (by decide))
      refine ⟨[.va v, .va (fr (plus (D.foldl (fun p k => plus p (low 1 (3 ^ k))) (low 0 1)) (low 1 (3 ^ k)))), .va (.int (k : Int))], ?_, .va (.int (k : Int)), trivial, by rw [List.foldl_append]; rfl⟩
      have hn : ∀ p, noList (fr p) = true := fun _ => rfl
      simp [l18_1, h2, hs, hp, hn]) ⟨.un, trivial, rfl⟩
  have hfr : exS (pg.calls (n + 4)) (.fr (.one 2) (.of (.var 0)) l18_1) [.va v, .va (fr (low 0 1)), .un] = .nx [.va v, .va (fr (wt ls)), s2] := by
    rw [ex_fr, fr_nl hit]
    exact eg
  have hn : ∀ p, noList (fr p) = true := fun _ => rfl
  simp [f18, b18, startE, h0, hfr, hn, endD, -ex_fr]
end P50
end

section
set_option Elab.async false
set_option linter.all false
set_option maxRecDepth 100000
set_option maxHeartbeats 4000000
/-! P50w: weight, is_prefix_list, is_code. -/
namespace P50
open PySem (PyData Str)
open PK L50

def lens (W : List (List Int)) : List Nat := W.map List.length
theorem c_weight (n : Nat) (W : List (List Int)) (h : Ls W) (h4 : ∀ w ∈ W, w.length ≤ 4) : callAt pg (n + 6) 16 [wds W] = .ok false (fr (wt (lens W))) none := by
  rw [call_eq (d := f16) rfl rfl]
  have hc := c_check (n + 1) W h
  have hw := c_weight_of n (lens W) (fun k hk => by obtain ⟨w, hw, rfl⟩ := List.mem_map.mp hk; exact h4 w hw) (.list (lns (lens W))) (.inl rfl)
  have he : evE (pg.calls (n + 5)) (.comp (.bi .len (.cons (.var 1) .nil)) (.one 1) (.of (.var 0)) .none [1]) [.va (wds W), .un] = .ok (.nw (.list (lns (lens W))), [.va (wds W), .un]) := by
    rw [ev_comp, compF_map wd (fun w => some (.int (w.length : Int))) W, filterMap_some]
    · simp [lns, lens]
    · simp
    · intro w _
      exact ⟨[.va (wds W), .va (wd w)], by simp [turnF, wipe], rfl⟩
    · exact le_line (by have := h.2.1; omega)
  have hn : ∀ p, noList (fr p) = true := fun _ => rfl
  generalize lns (lens W) = q at *
  simp [f16, b16, startE, hc, he, hw, hn, endD, -ev_comp]
theorem c_prefix (n : Nat) (W : List (List Int)) (h : Ls W) : callAt pg (n + 5) 15 [wds W] = .ok false (.bool (decide (FT W = []))) none := by
  rw [call_eq (d := f15) rfl rfl]
  have hc := c_check n W h
  have hf := c_first (n + 2) W (by have := h.2.1; omega)
  simp [f15, b15, startE, hc, hf, endD]
end P50
end

section
set_option Elab.async false
set_option linter.all false
set_option maxRecDepth 100000
set_option maxHeartbeats 4000000
/-! P50x: is_code, is_full. -/
namespace P50
open PySem (PyData Str)
open PK L50

theorem c_code (n : Nat) (W : List (List Int)) (h : Ls W) : ∃ b, callAt pg (n + 6) 14 [wds W] = .ok false (.bool b) none ∧ (b = true ↔ ∀ t, Reach W t → t ∉ W) := by
  have h8 := h.2.1
  obtain ⟨F, e, hF, _, hl⟩ := c_ftails n W h8 (l6 h)
  have h13 : callAt pg (n + 5) 13 [wds W] = .ok false (.bool (!F.any fun t => decide (t ∈ W))) none := by
    rw [call_eq (d := f13) rfl rfl]
    have hc : evE (pg.calls (n + 4)) (.comp (.cmp .inn (.var 1) (.var 0)) (.one 1) (.of (.call 12 (.cons (.var 0) .nil))) .none [1]) [.va (wds W), .un] = .ok (.nw (.list (F.map fun t => .bool (decide (t ∈ W)))), [.va (wds W), .un]) := by
      rw [ev_comp, compF_map wd (fun t => some (.bool (decide (t ∈ W)))) F, filterMap_some]
      · simp [e]
      · intro t _
        exact ⟨[.va (wds W), .va (wd t)], by simp [turnF, wipe], rfl⟩
      · exact le_line (by omega)
    have hz : bi .any [.list (F.map fun t => .bool (decide (t ∈ W)))] = some (false, .bool (F.any fun t => decide (t ∈ W))) := any_map _ _
    generalize F.map (fun t => PyData.bool (decide (t ∈ W))) = q at hc hz
    simp [f13, b13, startE, hc, hz, endD, -ev_comp]
  have hc := c_check (n + 1) W h
  refine ⟨!F.any fun t => decide (t ∈ W), ?_, ?_⟩
  · rw [call_eq (d := f14) rfl rfl]
    simp [f14, b14, startE, hc, h13, endD]
  · constructor
    · intro hb t ht hin
      have : (F.any fun t => decide (t ∈ W)) = true := List.any_eq_true.mpr ⟨t, (hF t).mpr ht, by simpa using hin⟩
      rw [this] at hb
      cases hb
    · intro hno
      have : (F.any fun t => decide (t ∈ W)) = false := by
        rw [List.any_eq_false]
        intro t ht
        simpa using hno t ((hF t).mp ht)
      rw [this]
      rfl
end P50
end

section
set_option Elab.async false
set_option linter.all false
set_option maxRecDepth 100000
set_option maxHeartbeats 4000000
/-! P50y: what is shown. -/
namespace P50
open PySem (PyData Str)
open PK L50

def Ti (i : Int) : Prop := i.natAbs < 10 ^ 7
theorem ti_short {i : Int} (h : Ti i) : (PyData.shown (.int i)).length ≤ 8 := by
  have := PySem.int_text_length_le10 (a := i) (k := 7) (by decide) h
  have e : (PyData.shown (.int i)) = Str.ofString (toString i) := by simp only [PyData.shown]
  rw [e, PySem.ofString_length]
  exact this
theorem ti_show {i : Int} (h : Ti i) : PyData.showable (.int i) = true := by
  simp only [PyData.showable, decide_eq_true_eq]
  by_cases h0 : i.natAbs = 0
  · rw [h0]; decide
  · exact (Nat.log2_lt h0).mpr (Nat.lt_of_lt_of_le h (by decide +kernel))
structure Sh (d : PyData) (b : Nat) : Prop where
  s : d.showable = true
  n : d.hasDict = false
  l : d.leavesShort 8 = true
  u : d.bulk ≤ b
structure ShA (ds : List PyData) (b : Nat) : Prop where
  s : PyData.showableAll ds = true
  n : PyData.hasDictAll ds = false
  l : PyData.leavesShortAll 8 ds = true
  u : PyData.bulkAll ds ≤ b
theorem sh_all {k : Nat} : ∀ {ds : List PyData}, (∀ d ∈ ds, Sh d k) → ShA ds ((k + 1) * ds.length)
  | [], _ => ⟨rfl, rfl, rfl, Nat.zero_le _⟩
  | d :: ds, h => by
    have h1 := h d List.mem_cons_self
    have h2 := sh_all fun x hx => h x (List.mem_cons_of_mem _ hx)
    refine ⟨?_, ?_, ?_, ?_⟩
    · simp only [PyData.showableAll, h1.s, h2.s, Bool.and_self]
    · simp only [PyData.hasDictAll, h1.n, h2.n, Bool.or_self]
    · simp only [PyData.leavesShortAll, h1.l, h2.l, Bool.and_self]
    · have := h1.u
      have := h2.u
      simp only [PyData.bulkAll, List.length_cons, Nat.mul_succ]
      omega
theorem sh_tup {k m : Nat} {ds : List PyData} (h : ∀ d ∈ ds, Sh d k) (hl : ds.length ≤ m) : Sh (.tuple ds) ((k + 1) * m) := by
  have h := sh_all h
  refine ⟨?_, ?_, ?_, ?_⟩
  · simp only [PyData.showable, h.s]
  · simp only [PyData.hasDict, h.n]
  · simp only [PyData.leavesShort, h.l]
  · simp only [PyData.bulk]
    exact Nat.le_trans h.u (Nat.mul_le_mul_left _ hl)
theorem sh_int {i : Int} (h : Ti i) : Sh (.int i) 0 := ⟨ti_show h, rfl, by simp only [PyData.leavesShort, decide_eq_true_eq]; exact ti_short h, by simp [PyData.bulk]⟩
theorem repr_sh {d : PyData} {b : Nat} (h : Sh d b) (hb : b ≤ 10000) (hd : d.depth ≤ 60) : bi .repr [d] = some (false, .str d.shown) := by
  have hl : d.shown.length ≤ line := by
    have := PyData.shown_le_bulk 8 (by decide) d h.l
    have hu := h.u
    exact Nat.le_trans this (Nat.le_trans (Nat.add_le_add_right (Nat.mul_le_mul_left 10 (Nat.le_trans hu hb)) 8) (by decide))
  simp only [bi, h.s, h.n, hd, hl, Bool.not_false, Bool.and_self, decide_true, if_true]
theorem sh_wd {w : List Int} (hl : w.length ≤ 10) (h : ∀ i ∈ w, Ti i) : Sh (wd w) 10 := sh_tup (k := 0) (m := 10) (fun d hd => by
  obtain ⟨i, hi, rfl⟩ := List.mem_map.mp hd
  exact sh_int (h i hi)) (by simpa using hl)
theorem repr_wds {F : List (List Int)} (hl : F.length ≤ 100) (h : ∀ w ∈ F, w.length ≤ 10 ∧ ∀ i ∈ w, Ti i) : bi .repr [wds F] = some (false, .str (wds F).shown) :=
  repr_sh (sh_tup (k := 10) (m := 100) (fun d hd => by
    obtain ⟨w, hw, rfl⟩ := List.mem_map.mp hd
    exact sh_wd (h w hw).1 (h w hw).2) (by simpa using hl)) (by decide) (by
      have : (wds F).depth ≤ 2 := Nat.succ_le_succ (depth_wdsA F)
      omega)
theorem repr_fr {p : Nat × Nat} (h1 : p.1 < 10000) (h2 : p.2 < 10000) : bi .repr [fr p] = some (false, .str (fr p).shown) :=
  repr_sh (sh_tup (k := 0) (m := 2) (ds := [.int (p.1 : Int), .int (p.2 : Int)]) (fun d hd => by
    simp only [List.mem_cons, List.not_mem_nil, or_false] at hd
    rcases hd with rfl | rfl
    · exact sh_int (by show (p.1 : Int).natAbs < 10 ^ 7; rw [Int.natAbs_natCast]; omega)
    · exact sh_int (by show (p.2 : Int).natAbs < 10 ^ 7; rw [Int.natAbs_natCast]; omega)) (Nat.le_refl 2)) (by decide) (show (PyData.tuple [.int (p.1 : Int), .int (p.2 : Int)]).depth ≤ 60 from Nat.le_trans (Nat.le_refl 1) (by decide))
theorem repr_str {x : Str} (hx : x.cps.toList.all (fun c => decide (c < 16 ^ 8)) = true) (hl : x.cps.size ≤ 10000) : bi .repr [.str x] = some (false, .str (PyData.shown (.str x))) :=
  repr_sh (b := 10000) ⟨rfl, rfl, by simp only [PyData.leavesShort]; exact hx, by simp only [PyData.bulk]; exact hl⟩ (by decide) (Nat.zero_le _)
end P50
end

section
set_option Elab.async false
set_option linter.all false
set_option maxRecDepth 100000
set_option maxHeartbeats 4000000
/-! P50z: the law's weights. -/
namespace P50
open PySem (PyData Str)
open PK L50

def tab (k : Nat) : Nat := 3 ^ (6 - k)
def red1 (p : Nat × Nat) : Nat × Nat := if p.1 % 3 = 0 ∧ 1 < p.2 then (p.1 / 3, p.2 / 3) else p
def redN : Nat → Nat × Nat → Nat × Nat
  | 0, p => p
  | k + 1, p => red1 (redN k p)
def wtL (ls : List Nat) : Nat × Nat := redN 6 ((ls.map tab).sum, 729)
theorem intsD_nat : ∀ ls : List Nat, intsD (ls.map fun (k : Nat) => PyData.int (k : Int)) = some (ls.map fun (k : Nat) => (k : Int))
  | [] => rfl
  | k :: ls => by
    show ((intsD (ls.map fun (k : Nat) => PyData.int (k : Int))).map _) = _
    rw [intsD_nat ls]
    rfl
theorem sum_nat : ∀ ls : List Nat, (ls.map fun (k : Nat) => (k : Int)).sum = ((ls.sum : Nat) : Int)
  | [] => rfl
  | k :: ls => by simp [sum_nat ls]
theorem c_lweight (n : Nat) (ls : List Nat) (hl : ls.length ≤ 100) (h : ∀ k ∈ ls, k ≤ 6) (v : PyData) (hv : v = .list (lns ls) ∨ v = .tuple (lns ls)) : callAt pg (n + 1) 28 [v] = .ok false (fr (wtL ls)) none := by
  rw [call_eq (d := f28) rfl rfl]
  have hit : evI (pg.calls n) (.of (.var 0)) [.va v, .un, .un, .un, .un] = .ok ⟨lns ls, [.va v, .un, .un, .un, .un], []⟩ := by
    rcases hv with rfl | rfl <;> simp
  have hc : evE (pg.calls n) (.comp (.idx (.lst (.cons (.lit (.int 729)) (.cons (.lit (.int 243)) (.cons (.lit (.int 81)) (.cons (.lit (.int 27)) (.cons (.lit (.int 9)) (.cons (.lit (.int 3)) (.cons (.lit (.int 1)) .nil)))))))) (.var 2)) (.one 2) (.of (.var 0)) .none [2]) [.va v, .un, .un, .un, .un] = .ok (.nw (.list ((ls.map tab).map fun (k : Nat) => PyData.int (k : Int))), [.va v, .un, .un, .un, .un]) := by
    rw [ev_comp, compF_map (fun (k : Nat) => PyData.int (k : Int)) (fun k => some (.int ((tab k : Nat) : Int))) ls, filterMap_some, List.map_map]
    · rfl
    · exact hit
    · intro k hk
      have h6 := h k hk
      have hix : ix (.list [.int 729, .int 243, .int 81, .int 27, .int 9, .int 3, .int 1]) (.int (k : Int)) = some (.int ((tab k : Nat) : Int)) := by
        rcases k with _ | _ | _ | _ | _ | _ | _ | k
        iterate 7 exact ix_nat rfl
        omega
      exact ⟨[.va v, .un, .va (.int (k : Int)), .un, .un], by simp [turnF, wipe, hix], rfl⟩
    · exact le_line (by omega)
  have hs : bi .sum [.list ((ls.map tab).map fun (k : Nat) => PyData.int (k : Int))] = some (false, .int (((ls.map tab).sum : Nat) : Int)) := by
    show (intsD _).map _ = _
    rw [intsD_nat, Option.map_some, sum_nat]
  generalize (ls.map tab).map (fun (k : Nat) => PyData.int (k : Int)) = q at hc hs
  have h6 : rng [.int 6] = some (0, 6) := rng1 (j := 6) (by decide)
  obtain ⟨g', eg, s4, f4, rfl⟩ := forL_inv (turn := fun g x => (Res.of (bindT g (.one 4) x)).out fun g1 => exSs (pg.calls n) l28_1 g1)
    (fun i g => ∃ s4, Free s4 ∧ g = [.va v, .va (.int ((redN i ((ls.map tab).sum, 729)).1 : Nat)), .un, .va (.int ((redN i ((ls.map tab).sum, 729)).2 : Nat)), s4]) (rangeL 0 6) 0
    [.va v, .va (.int (((ls.map tab).sum : Nat) : Int)), .un, .va (.int 729), .un]
    (fun i x g hx ⟨s4, f4, hg⟩ => by
      subst hg
      obtain ⟨_, rfl⟩ := rangeL_at hx
      rw [Nat.zero_add]
      refine ⟨_, ?_, .va (.int (0 + (i : Int))), free_va _, rfl⟩
      show _ = Out.nx [.va v, .va (.int ((red1 (redN i ((ls.map tab).sum, 729))).1 : Nat)), .un, .va (.int ((red1 (redN i ((ls.map tab).sum, 729))).2 : Nat)), .va (.int (0 + (i : Int)))]
      generalize redN i ((ls.map tab).sum, 729) = p
      obtain ⟨a, b⟩ := p
      have m := mod_pos (a : Int) 3 (by decide)
      have d1 := div_pos (a : Int) 3 (by decide) (by decide)
      have d2 := div_pos (b : Int) 3 (by decide) (by decide)
      have e1 : (a : Int) / 3 = ((a / 3 : Nat) : Int) := by omega
      have e2 : (b : Int) / 3 = ((b / 3 : Nat) : Int) := by omega
      rw [e1] at d1
      rw [e2] at d2
      by_cases c1 : a % 3 = 0
      · have c1' : (a : Int) % 3 = 0 := by omega
        by_cases c2 : 1 < b
        · have c2' : (1 : Int) < b := by omega
          simp [l28_1, f4, red1, m, d1, d2, c1, c1', c2, c2']
        · have c2' : ¬ (1 : Int) < b := by omega
          simp [l28_1, f4, red1, m, d1, d2, c1, c1', c2, c2']
      · have c1' : ¬ (a : Int) % 3 = 0 := by omega
        simp [l28_1, f4, red1, m, d1, d2, c1, c1']) ⟨.un, trivial, rfl⟩
  have hfr : exS (pg.calls n) (.fr (.one 4) (.rng (.cons (.lit (.int 6)) .nil)) l28_1) [.va v, .va (.int (((ls.map tab).sum : Nat) : Int)), .un, .va (.int 729), .un] = .nx [.va v, .va (.int ((wtL ls).1 : Nat)), .un, .va (.int ((wtL ls).2 : Nat)), s4] := by
    rw [ex_fr, fr_nl (xs := rangeL 0 6) (g1 := [.va v, .va (.int (((ls.map tab).sum : Nat) : Int)), .un, .va (.int 729), .un])]
    · exact eg
    · simp [h6]
  simp [f28, b28, startE, hc, hs, hfr, fr, endD, -ex_fr, -ev_comp]
end P50
end

section
set_option Elab.async false
set_option linter.all false
set_option maxRecDepth 1000000
set_option maxHeartbeats 4000000
/-! P50A: all words of a length; weights of short lists of lengths. -/
namespace P50
open PySem (PyData Str)
open PK L50

def intsOf : List PyData → Option (List Int)
  | [] => some []
  | .int i :: ds => (intsOf ds).map (i :: ·)
  | _ => none
def wordsOf : List PyData → Option (List (List Int))
  | [] => some []
  | .tuple w :: ds => (intsOf w).bind fun a => (wordsOf ds).map (a :: ·)
  | _ => none
def wlOf : CR → Option (List (List Int))
  | .ok false (.list ds) none => wordsOf ds
  | _ => none
theorem intsOf_ok : ∀ {ds : List PyData} {l : List Int}, intsOf ds = some l → ds = l.map .int
  | [], l, h => by cases h; rfl
  | d :: ds, l, h => by
    cases d with
    | int i =>
      simp only [intsOf] at h
      obtain ⟨m, hm, rfl⟩ := Option.map_eq_some_iff.mp h
      rw [intsOf_ok hm]
      rfl
    | _ => cases h
theorem wordsOf_ok : ∀ {ds : List PyData} {W : List (List Int)}, wordsOf ds = some W → ds = W.map wd
  | [], W, h => by cases h; rfl
  | d :: ds, W, h => by
    cases d with
    | tuple w =>
      simp only [wordsOf] at h
      obtain ⟨a, ha, h⟩ := Option.bind_eq_some_iff.mp h
      obtain ⟨V, hV, rfl⟩ := Option.map_eq_some_iff.mp h
      rw [wordsOf_ok hV, intsOf_ok ha]
      rfl
    | _ => cases h
theorem wlOf_ok {r : CR} {W : List (List Int)} (h : wlOf r = some W) : r = .ok false (wlist W) none := by
  unfold wlOf at h
  split at h
  · rw [wordsOf_ok h]; rfl
  · cases h
/-- all words of a length -/
def aw : Nat → List (List Int)
  | 0 => [[]]
  | k + 1 => (aw k).flatMap fun w => [w ++ [0], w ++ [1], w ++ [2]]
theorem all37 : ∀ k : Nat, k < 5 → wlOf (callAt pg 37 20 [.int (k : Int)]) = some (aw k) := by decide +kernel
theorem all38 : ∀ k : Nat, k < 5 → wlOf (callAt pg 38 29 [.int (k : Int)]) = some (aw k) := by decide +kernel
theorem all39 : wlOf (callAt pg 39 29 [.int 3]) = some (aw 3) := by decide +kernel
theorem c_all37 {k : Nat} (h : k ≤ 4) : callAt pg 37 20 [.int (k : Int)] = .ok false (wlist (aw k)) none := wlOf_ok (all37 k (by omega))
theorem c_all38 {k : Nat} (h : k ≤ 4) : callAt pg 38 29 [.int (k : Int)] = .ok false (wlist (aw k)) none := wlOf_ok (all38 k (by omega))
theorem c_all39 : callAt pg 39 29 [.int 3] = .ok false (wlist (aw 3)) none := wlOf_ok all39
theorem aw_len : ∀ {k : Nat} {w : List Int}, w ∈ aw k → w.length = k
  | 0, w, h => by simp only [aw, List.mem_singleton] at h; rw [h]; rfl
  | k + 1, w, h => by
    obtain ⟨v, hv, hw⟩ := List.mem_flatMap.mp h
    have := aw_len hv
    simp only [List.mem_cons, List.not_mem_nil, or_false] at hw
    rcases hw with rfl | rfl | rfl <;> simp [this]
theorem aw_count : ∀ k : Nat, (aw k).length = 3 ^ k
  | 0 => rfl
  | k + 1 => by
    have : ∀ l : List (List Int), (l.flatMap fun w => [w ++ [0], w ++ [1], w ++ [2]]).length = l.length * 3 := by
      intro l
      induction l with
      | nil => rfl
      | cons a l ih => simp [List.flatMap_cons, ih]; omega
    show ((aw k).flatMap _).length = _
    rw [this, aw_count k, Nat.pow_succ]
/-- a word about all lists of numbers from lo to hi, at most so long; the ascending ones alone -/
def chkT (p : List Nat → Bool) (srt : Bool) (hi : Nat) : Nat → Nat → List Nat → Bool
  | 0, _, acc => p acc
  | n + 1, lo, acc => p acc && (List.range (hi + 1)).all fun k => decide (k < lo) || chkT p srt hi n (if srt then k else lo) (acc ++ [k])
theorem chkT_ok {p : List Nat → Bool} {srt : Bool} {hi : Nat} : ∀ {n lo : Nat} {acc : List Nat}, chkT p srt hi n lo acc = true → ∀ ls : List Nat, ls.length ≤ n → (∀ k ∈ ls, lo ≤ k ∧ k ≤ hi) → (srt = true → ls.Pairwise (· ≤ ·)) → p (acc ++ ls) = true
  | 0, lo, acc, h, ls, hl, _, _ => by
    have : ls = [] := List.length_eq_zero_iff.mp (by omega)
    rw [this, List.append_nil]
    exact h
  | n + 1, lo, acc, h, [], _, _, _ => by
    simp only [chkT, Bool.and_eq_true] at h
    rw [List.append_nil]
    exact h.1
  | n + 1, lo, acc, h, k :: ls, hl, hk, hs => by
    simp only [chkT, Bool.and_eq_true, List.all_eq_true, Bool.or_eq_true, decide_eq_true_eq] at h
    have h0 := hk k List.mem_cons_self
    have h1 := h.2 k (List.mem_range.mpr (by omega))
    rcases h1 with h1 | h1
    · omega
    · have := chkT_ok h1 ls (by simpa using hl) (fun j hj => ⟨?_, (hk j (List.mem_cons_of_mem _ hj)).2⟩) (fun e => (List.pairwise_cons.mp (hs e)).2)
      · rwa [List.append_assoc, List.singleton_append] at this
      · cases srt with
        | true => exact (List.pairwise_cons.mp (hs rfl)).1 j hj
        | false => exact (hk j (List.mem_cons_of_mem _ hj)).1
def sz (m : Nat) (ls : List Nat) : Nat := (ls.map fun k => 3 ^ (m - k)).sum
/-- the weights of unordered lengths to 3 -/
def pA (ls : List Nat) : Bool := decide (wt ls = wtL ls) && decide ((wtL ls).1 < 10000) && decide ((wtL ls).2 < 10000) && decide (0 < (wtL ls).2) && (decide (wt ls = (1, 1)) == decide (sz 3 ls = 27)) && (decide ((wtL ls).2 < (wtL ls).1) == decide (27 < sz 3 ls))
theorem tA : chkT pA false 3 5 1 [] = true := by decide +kernel
/-- .. of ascending lengths to 4 -/
def pB (ls : List Nat) : Bool := decide (wt ls = wtL ls) && decide ((wtL ls).1 < 10000) && decide ((wtL ls).2 < 10000) && decide (0 < (wtL ls).2) && (decide ((wtL ls).2 < (wtL ls).1) == decide (81 < sz 4 ls))
theorem tB : chkT pB true 4 8 1 [] = true := by decide +kernel
structure WA (ls : List Nat) : Prop where
  eq : wt ls = wtL ls
  s1 : (wtL ls).1 < 10000
  s2 : (wtL ls).2 < 10000
  p2 : 0 < (wtL ls).2
  one : wt ls = (1, 1) ↔ sz 3 ls = 27
  gt : (wtL ls).2 < (wtL ls).1 ↔ 27 < sz 3 ls
structure WB (ls : List Nat) : Prop where
  eq : wt ls = wtL ls
  s1 : (wtL ls).1 < 10000
  s2 : (wtL ls).2 < 10000
  p2 : 0 < (wtL ls).2
  gt : (wtL ls).2 < (wtL ls).1 ↔ 81 < sz 4 ls
theorem wA {ls : List Nat} (h : ls.length ≤ 5) (hk : ∀ k ∈ ls, 1 ≤ k ∧ k ≤ 3) : WA ls := by
  have := chkT_ok tA ls h hk (fun e => nomatch e)
  rw [List.nil_append] at this
  simp only [pA, Bool.and_eq_true, decide_eq_true_eq, beq_iff_eq, decide_eq_decide] at this
  obtain ⟨⟨⟨⟨⟨h1, h2⟩, h3⟩, h4⟩, h5⟩, h6⟩ := this
  exact ⟨h1, h2, h3, h4, h5, h6⟩
theorem wB {ls : List Nat} (h : ls.length ≤ 8) (hk : ∀ k ∈ ls, 1 ≤ k ∧ k ≤ 4) (hs : ls.Pairwise (· ≤ ·)) : WB ls := by
  have := chkT_ok tB ls h hk (fun _ => hs)
  rw [List.nil_append] at this
  simp only [pB, Bool.and_eq_true, decide_eq_true_eq, beq_iff_eq, decide_eq_decide] at this
  obtain ⟨⟨⟨⟨h1, h2⟩, h3⟩, h4⟩, h5⟩ := this
  exact ⟨h1, h2, h3, h4, h5⟩
end P50
end

section
set_option Elab.async false
set_option linter.all false
set_option maxRecDepth 1000000
set_option maxHeartbeats 4000000
/-! P50B: plain lists. -/
namespace P50
open PySem (PyData Str)
open PK L50

def free (F : List (List Int)) (k : Nat) : List (List Int) := (aw k).filter fun w => !F.any fun o => beg o w
def plainL : List (List Int) → List Nat → Option (List (List Int))
  | F, [] => some F
  | F, k :: ks => match free F k with
    | [] => none
    | w :: _ => plainL (F ++ [w]) ks
theorem plainL_snoc : ∀ (a : List Nat) (F : List (List Int)) (k : Nat), plainL F (a ++ [k]) = (plainL F a).bind fun G => match free G k with
    | [] => none
    | w :: _ => some (G ++ [w])
  | [], F, k => by
    show plainL F [k] = _
    simp only [plainL, Option.bind_some]
  | j :: a, F, k => by
    rw [List.cons_append, plainL, plainL]
    cases h : free F j with
    | nil => rfl
    | cons w ws => exact plainL_snoc a (F ++ [w]) k
theorem plainL_app : ∀ (a b : List Nat) (F : List (List Int)), plainL F (a ++ b) = (plainL F a).bind fun G => plainL G b
  | [], b, F => rfl
  | j :: a, b, F => by
    rw [List.cons_append, plainL, plainL]
    cases h : free F j with
    | nil => rfl
    | cons w ws => exact plainL_app a b (F ++ [w])
theorem free_mem {F : List (List Int)} {k : Nat} {w : List Int} (h : w ∈ free F k) : w.length = k := aw_len (List.mem_filter.mp h).1
theorem plainL_ok : ∀ {a : List Nat} {F G : List (List Int)}, plainL F a = some G → (∀ k ∈ a, 1 ≤ k ∧ k ≤ 4) → (∀ w ∈ F, w ≠ [] ∧ w.length ≤ 4) → G.length = F.length + a.length ∧ ∀ w ∈ G, w ≠ [] ∧ w.length ≤ 4
  | [], F, G, h, _, hF => by cases h; exact ⟨rfl, hF⟩
  | k :: a, F, G, h, ha, hF => by
    rw [plainL] at h
    cases hf : free F k with
    | nil => rw [hf] at h; cases h
    | cons w ws =>
      rw [hf] at h
      have hw : w.length = k := free_mem (by rw [hf]; exact List.mem_cons_self)
      have hk := ha k List.mem_cons_self
      have := plainL_ok h (fun j hj => ha j (List.mem_cons_of_mem _ hj)) (fun x hx => by
        rcases List.mem_append.mp hx with hx | hx
        · exact hF x hx
        · rw [List.mem_singleton] at hx
          subst hx
          exact ⟨fun e => by rw [e] at hw; simp at hw; omega, by omega⟩)
      refine ⟨?_, this.2⟩
      rw [this.1]
      simp only [List.length_append, List.length_cons, List.length_nil]
      omega
/-- the plain lists, all of them walked -/
def chkP : Nat → Nat → List (List Int) → Nat → Bool
  | 0, _, _, _ => true
  | n + 1, lo, F, s => (List.range 5).all fun k => decide (k < lo) || (match (free F k).head? with
    | none => decide (81 < s + 3 ^ (4 - k))
    | some w => decide (s + 3 ^ (4 - k) ≤ 81) && chkP n k (F ++ [w]) (s + 3 ^ (4 - k)))
theorem tP : chkP 8 1 [] 0 = true := by decide +kernel
theorem chkP_ok : ∀ {n lo : Nat} {F : List (List Int)} {s : Nat}, chkP n lo F s = true → s ≤ 81 → ∀ ls : List Nat, ls.length ≤ n → (∀ k ∈ ls, lo ≤ k ∧ k ≤ 4) → ls.Pairwise (· ≤ ·) → (plainL F ls = none ↔ 81 < s + sz 4 ls)
  | n, lo, F, s, _, hs, [], _, _, _ => by simp [plainL, sz]; omega
  | 0, lo, F, s, _, _, k :: ls, hl, _, _ => by simp at hl
  | n + 1, lo, F, s, h, hs, k :: ls, hl, hk, hp => by
    simp only [chkP, List.all_eq_true, Bool.or_eq_true, decide_eq_true_eq] at h
    have h0 := hk k List.mem_cons_self
    rcases h k (List.mem_range.mpr (by omega)) with h1 | h1
    · omega
    · have e : sz 4 (k :: ls) = 3 ^ (4 - k) + sz 4 ls := by simp [sz]
      rw [plainL, e]
      cases hf : free F k with
      | nil =>
        rw [hf] at h1
        have h1 : 81 < s + 3 ^ (4 - k) := by simpa using h1
        simp only [true_iff]
        omega
      | cons w ws =>
        rw [hf] at h1
        simp only [List.head?_cons, Bool.and_eq_true, decide_eq_true_eq] at h1
        have := chkP_ok h1.2 h1.1 ls (by simpa using hl) (fun j hj => ⟨(List.pairwise_cons.mp hp).1 j hj, (hk j (List.mem_cons_of_mem _ hj)).2⟩) (List.pairwise_cons.mp hp).2
        simp only [this]
        omega
theorem plain_iff {ls : List Nat} (h : ls.length ≤ 8) (hk : ∀ k ∈ ls, 1 ≤ k ∧ k ≤ 4) (hs : ls.Pairwise (· ≤ ·)) : plainL [] ls = none ↔ 81 < sz 4 ls := by
  have := chkP_ok tP (by decide) ls h hk hs
  rwa [Nat.zero_add] at this
end P50
end

section
set_option Elab.async false
set_option linter.all false
set_option maxRecDepth 1000000
set_option maxHeartbeats 4000000
/-! P50C: the law's plain list, walked. -/
namespace P50
open PySem (PyData Str)
open PK L50

theorem eq_wl_nil (F : List (List Int)) : cop .eq (.list (F.map wd)) (.list []) = some F.isEmpty := by
  have e : cop .eq (wlist F) (.list []) = if shap (wlist F) && shap (.list []) then some (PyData.eqv (wlist F) (.list [])) else none := rfl
  show cop .eq (wlist F) (.list []) = _
  rw [e, shap_wlist]
  cases F <;> rfl
theorem free_len (F : List (List Int)) {k : Nat} (hk : k ≤ 4) : (free F k).length ≤ 81 := by
  refine Nat.le_trans (List.length_filter_le _ _) ?_
  rw [aw_count]
  exact Nat.pow_le_pow_right (by decide) hk
theorem fm_keep {α β : Type} (p : α → Bool) (f : α → β) : ∀ l : List α, l.filterMap (fun x => if p x = true then some (f x) else none) = (l.filter p).map f := fm_filter p f
/-- any(begins(one, word) for one in found) -/
theorem t_anyL (n : Nat) (F : List (List Int)) (w : List Int) (s0 s2 s3 : Slot) (hF : F.length ≤ 8) :
    evE (pg.calls (n + 1)) (.bi .any (.cons (.comp (.call 26 (.cons (.var 5) (.cons (.var 4) .nil))) (.one 5) (.of (.var 1)) .none [5]) .nil)) [s0, .mu .ow (.list (F.map wd)), s2, s3, .va (wd w), .un] = .ok (.val (.bool (F.any fun o => beg o w)), [s0, .mu .ow (.list (F.map wd)), s2, s3, .va (wd w), .un]) := by
  have hc : evE (pg.calls (n + 1)) (.comp (.call 26 (.cons (.var 5) (.cons (.var 4) .nil))) (.one 5) (.of (.var 1)) .none [5]) [s0, .mu .ow (.list (F.map wd)), s2, s3, .va (wd w), .un] = .ok (.nw (.list (F.map fun o => .bool (beg o w))), [s0, .mu .ow (.list (F.map wd)), s2, s3, .va (wd w), .un]) := by
    rw [ev_comp, compF_mapK wd (fun o => some (.bool (beg o w))) F (g1 := [s0, .mu .lk (.list (F.map wd)), s2, s3, .va (wd w), .un]) (lks := [(1, .ow)]), filterMap_some]
    · rfl
    · simp [lock1]
    · intro o _
      exact ⟨[s0, .mu .lk (.list (F.map wd)), s2, s3, .va (wd w), .va (wd o)], by simp [turnF, wipe], rfl⟩
    · exact le_line (by omega)
  have hz : bi .any [.list (F.map fun o => .bool (beg o w))] = some (false, .bool (F.any fun o => beg o w)) := any_mapB _ _
  generalize F.map (fun o => PyData.bool (beg o w)) = q at hc hz
  simp [hc, hz, -ev_comp]
theorem t_freeL (F : List (List Int)) (k : Nat) (hk : k ≤ 4) (s0 s3 : Slot) (hF : F.length ≤ 8) :
    evE (pg.calls 38) (.comp (.var 4) (.one 4) (.of (.call 29 (.cons (.var 2) .nil))) (.some (.nt (.bi .any (.cons (.comp (.call 26 (.cons (.var 5) (.cons (.var 4) .nil))) (.one 5) (.of (.var 1)) .none [5]) .nil)))) [4]) [s0, .mu .ow (.list (F.map wd)), .va (.int (k : Int)), s3, .un, .un] =
      .ok (.nw (.list ((free F k).map wd)), [s0, .mu .ow (.list (F.map wd)), .va (.int (k : Int)), s3, .un, .un]) := by
  have ha := c_all38 hk
  have hal : (aw k).length ≤ 81 := by rw [aw_count]; exact Nat.pow_le_pow_right (by decide) hk
  rw [ev_comp, compF_map wd (fun w => if (!F.any fun o => beg o w) = true then some (wd w) else none) (aw k)]
  · rw [fm_keep]; rfl
  · have hi : noList (wlist (aw k)) = false := rfl
    generalize aw k = A at *
    simp [ha, hi]
  · intro w _
    have h := t_anyL 37 F w s0 (.va (.int (k : Int))) s3 hF
    refine ⟨[s0, .mu .ow (.list (F.map wd)), .va (.int (k : Int)), s3, .va (wd w), .un], ?_, rfl⟩
    have e : (Res.of (bindT (wipe [s0, .mu .ow (.list (F.map wd)), .va (.int (k : Int)), s3, .un, .un] [4]) (.one 4) (wd w))) = .ok [s0, .mu .ow (.list (F.map wd)), .va (.int (k : Int)), s3, .va (wd w), .un] := by simp [wipe]
    unfold turnF
    rw [e, Res.bind_ok, t_som, u_tstF, ev_nt, u_tstF, h]
    cases hq : F.any fun o => beg o w <;> simp
  · exact le_line (by omega)
theorem c_lplain (ls : List Nat) (hl : ls.length ≤ 8) (hk : ∀ k ∈ ls, 1 ≤ k ∧ k ≤ 4) : callAt pg 39 30 [.tuple (lns ls)] = .ok false (match plainL [] ls with | none => .str "<weight>" | some F => wds (F.mergeSort leW)) none := by
  rw [call_eq (d := f30) rfl rfl]
  have hit : evI (pg.calls 38) (.of (.var 0)) [.va (.tuple (lns ls)), .mu .ow (.list []), .un, .un, .un, .un] = .ok ⟨ls.map fun (k : Nat) => PyData.int (k : Int), [.va (.tuple (lns ls)), .mu .ow (.list []), .un, .un, .un, .un], []⟩ := by
    simp [lns]
  have hfr : exS (pg.calls 38) (.fr (.one 2) (.of (.var 0)) l30_1) [.va (.tuple (lns ls)), .mu .ow (.list []), .un, .un, .un, .un] = forL (fun g x => (Res.of (bindT g (.one 2) x)).out fun g1 => exSs (pg.calls 38) l30_1 g1) (ls.map fun (k : Nat) => PyData.int (k : Int)) [.va (.tuple (lns ls)), .mu .ow (.list []), .un, .un, .un, .un] := by
    rw [ex_fr, fr_nl hit]
  rcases forL_or (turn := fun g x => (Res.of (bindT g (.one 2) x)).out fun g1 => exSs (pg.calls 38) l30_1 g1) (fun (k : Nat) => PyData.int (k : Int))
    (fun D g => ∃ (F : List (List Int)) (s2 s3 : Slot), Free s2 ∧ Free s3 ∧ plainL [] D = some F ∧ g = [.va (.tuple (lns ls)), .mu .ow (.list (F.map wd)), s2, s3, .un, .un])
    (fun D x b v g => plainL [] (D ++ [x]) = none ∧ b = false ∧ v = .str "<weight>")
    ls ls [] [.va (.tuple (lns ls)), .mu .ow (.list []), .un, .un, .un, .un] rfl
    (fun D k post g e ⟨F, s2, s3, f2, f3, hF, hg⟩ => by
      subst hg
      have hD : ∀ j ∈ D, 1 ≤ j ∧ j ≤ 4 := fun j hj => hk j (by rw [e]; exact List.mem_append_left _ hj)
      have hk4 := hk k (by rw [e]; simp)
      have hFo := plainL_ok hF hD (fun w hw => nomatch hw)
      have hDl : D.length < 8 := by
        have := congrArg List.length e
        simp only [List.length_append, List.length_cons] at this
        omega
      have hFl : F.length < 8 := by have := hFo.1; simp only [List.length_nil] at this; omega
      have hc := t_freeL F k hk4.2 (.va (.tuple (lns ls))) s3 (by omega)
      have hs := plainL_snoc D [] k
      rw [hF, Option.bind_some] at hs
      have heq := eq_wl_nil (free F k)
      cases hf : free F k with
      | nil =>
        rw [hf] at hs hc heq
        refine .inr ⟨false, .str "<weight>", [.va (.tuple (lns ls)), .mu .ow (.list (F.map wd)), .va (.int (k : Int)), .va (.list []), .un, .un], ?_, hs, rfl, rfl⟩
        have hc' : evE (pg.calls 38) _ [.va (.tuple (lns ls)), .mu .ow (.list (F.map wd)), .va (.int (k : Int)), s3, .un, .un] = .ok (.nw (.list []), _) := hc
        have heq' : cop .eq (.list []) (.list []) = some true := heq
        simp [l30_1, f2, f3, hc', heq', -ev_comp]
      | cons w ws =>
        rw [hf] at hs hc heq
        refine .inl ⟨[.va (.tuple (lns ls)), .mu .ow (.list ((F ++ [w]).map wd)), .va (.int (k : Int)), .va (.list ((w :: ws).map wd)), .un, .un], ?_, F ++ [w], .va (.int (k : Int)), .va (.list ((w :: ws).map wd)), trivial, trivial, hs, rfl⟩
        have hix : ix (.list ((w :: ws).map wd)) (.int 0) = some (wd w) := ix_nat (j := 0) rfl
        have ha := app_ok (wd w) (F.map wd) (by rw [List.length_map]; exact small (by omega))
        generalize (w :: ws).map wd = q at hc heq hix
        have hs2 : Free (.va (.list q)) := trivial
        simp [l30_1, f2, f3, hc, heq, hix, ha, -ev_comp])
    ⟨[], .un, .un, trivial, trivial, rfl, rfl⟩ with ⟨g', eg, F, s2, s3, f2, f3, hF, rfl⟩ | ⟨D, k, post, b, v, g', e, eg, hn, rfl, rfl⟩
  · rw [eg] at hfr
    have hFo := plainL_ok hF hk (fun w hw => nomatch hw)
    have hs : bi .sorted [.list (F.map wd)] = some (true, .list ((F.mergeSort leW).map wd)) := by
      show (sortedD (F.map wd)).map _ = _
      rw [sorted_wds (fun h => (hFo.2 _ h).1 rfl)]
      rfl
    rw [hF]
    simp [f30, b30, startE, hfr, hs, endD, wds, -ex_fr]
  · rw [eg] at hfr
    have : plainL [] ls = none := by
      rw [e, show D ++ k :: post = (D ++ [k]) ++ post by simp, plainL_app, hn]
      rfl
    rw [this]
    simp [f30, b30, startE, hfr, endD, -ex_fr]
end P50
end

section
set_option Elab.async false
set_option linter.all false
set_option maxRecDepth 1000000
set_option maxHeartbeats 4000000
/-! P50D: the program's plain list, walked. -/
namespace P50
open PySem (PyData Str)
open PK L50

theorem zip_lns (L : List Nat) : zipD (lns L) ((lns L).drop 1) = (L.zip (L.drop 1)).map fun p => .tuple [.int (p.1 : Int), .int (p.2 : Int)] := by
  unfold lns
  rw [← List.map_drop]
  generalize L.drop 1 = V
  unfold zipD
  rw [List.zipWith_map, List.zip, List.map_zipWith]
theorem zip_asc : ∀ {L : List Nat}, L.Pairwise (· ≤ ·) → ((L.zip (L.drop 1)).all fun p => decide ((p.1 : Int) ≤ (p.2 : Int))) = true
  | [], _ => rfl
  | [_], _ => rfl
  | a :: b :: L, h => by
    have h := List.pairwise_cons.mp h
    have ih := zip_asc h.2
    have := h.1 b List.mem_cons_self
    show (decide ((a : Int) ≤ (b : Int)) && _) = true
    rw [Bool.and_eq_true]
    exact ⟨by simpa using this, ih⟩
/-- lengths as the law draws them -/
structure Ln (L : List Nat) : Prop where
  l1 : 1 ≤ L.length
  l8 : L.length ≤ 8
  k : ∀ k ∈ L, 1 ≤ k ∧ k ≤ 4
  s : L.Pairwise (· ≤ ·)
def g21 (v : PyData) (s1 s2 s3 s4 s5 s6 s7 : Slot) : Env := [.va v, s1, s2, s3, s4, s5, s6, s7]
theorem t_whl (n : Nat) (L : List Nat) (hL : Ln L) :
    evE (pg.calls (n + 1)) (.comp (.and (.cons (.call 0 (.cons (.var 1) .nil)) (.cons (.cmp2 .le .le (.lit (.int 1)) (.var 1) (.glb 2)) .nil))) (.one 1) (.of (.var 0)) .none [1]) (g21 (.tuple (lns L)) .un .un .un .un .un .un .un) =
      .ok (.nw (.list (L.map fun _ => .bool true)), g21 (.tuple (lns L)) .un .un .un .un .un .un .un) := by
  rw [ev_comp, compF_map (fun (k : Nat) => PyData.int (k : Int)) (fun _ => some (.bool true)) L, filterMap_some]
  · simp [g21, lns]
  · intro k hk
    have := hL.k k hk
    have h1 : (1 : Int) ≤ k := by omega
    have h2 : (k : Int) ≤ 6 := by omega
    have h3 : 1 ≤ k := this.1
    have h4 : k ≤ 6 := by omega
    exact ⟨g21 (.tuple (lns L)) (.va (.int (k : Int))) .un .un .un .un .un .un, by simp [g21, turnF, wipe, h1, h2, h3, h4], rfl⟩
  · exact le_line (by have := hL.l8; omega)
theorem t_zpl (n : Nat) (L : List Nat) (hL : Ln L) :
    evE (pg.calls n) (.comp (.cmp .le (.var 2) (.var 3)) (.many [2, 3]) (.zip (.var 0) (.slc (.var 0) (.some (.lit (.int 1))) .none)) .none [2, 3]) (g21 (.tuple (lns L)) .un .un .un .un .un .un .un) =
      .ok (.nw (.list ((L.zip (L.drop 1)).map fun p => .bool (decide ((p.1 : Int) ≤ (p.2 : Int))))), g21 (.tuple (lns L)) .un .un .un .un .un .un .un) := by
  rw [ev_comp, compF_map (fun p : Nat × Nat => .tuple [.int (p.1 : Int), .int (p.2 : Int)]) (fun p => some (.bool (decide ((p.1 : Int) ≤ (p.2 : Int))))) (L.zip (L.drop 1)), filterMap_some]
  · have : slc (.tuple (lns L)) (some (.int 1)) none = some (false, .tuple ((lns L).drop 1)) := slc_drop _ 1
    rw [← zip_lns]
    generalize lns L = q at *
    simp [g21, i_zip, this, sameK, -List.drop_one]
  · intro p _
    exact ⟨g21 (.tuple (lns L)) .un (.va (.int (p.1 : Int))) (.va (.int (p.2 : Int))) .un .un .un .un, by simp [g21, turnF, wipe], rfl⟩
  · rw [List.length_zip, List.length_drop]
    exact le_line (by have := hL.l8; omega)
/-- any(begins(one, word) for one in found) -/
theorem t_anyP (n : Nat) (F : List (List Int)) (w : List Int) (s0 s1 s3 s4 s5 : Slot) (hF : F.length ≤ 8) :
    evE (pg.calls (n + 1)) (.bi .any (.cons (.comp (.call 8 (.cons (.var 2) (.cons (.var 7) .nil))) (.one 2) (.of (.var 6)) .none [2]) .nil)) [s0, s1, .un, s3, s4, s5, .mu .ow (.list (F.map wd)), .va (wd w)] = .ok (.val (.bool (F.any fun o => beg o w)), [s0, s1, .un, s3, s4, s5, .mu .ow (.list (F.map wd)), .va (wd w)]) := by
  have hc : evE (pg.calls (n + 1)) (.comp (.call 8 (.cons (.var 2) (.cons (.var 7) .nil))) (.one 2) (.of (.var 6)) .none [2]) [s0, s1, .un, s3, s4, s5, .mu .ow (.list (F.map wd)), .va (wd w)] = .ok (.nw (.list (F.map fun o => .bool (beg o w))), [s0, s1, .un, s3, s4, s5, .mu .ow (.list (F.map wd)), .va (wd w)]) := by
    rw [ev_comp, compF_mapK wd (fun o => some (.bool (beg o w))) F (g1 := [s0, s1, .un, s3, s4, s5, .mu .lk (.list (F.map wd)), .va (wd w)]) (lks := [(6, .ow)]), filterMap_some]
    · rfl
    · simp [lock1]
    · intro o _
      exact ⟨[s0, s1, .va (wd o), s3, s4, s5, .mu .lk (.list (F.map wd)), .va (wd w)], by simp [turnF, wipe], rfl⟩
    · exact le_line (by omega)
  have hz : bi .any [.list (F.map fun o => .bool (beg o w))] = some (false, .bool (F.any fun o => beg o w)) := any_mapB _ _
  generalize F.map (fun o => PyData.bool (beg o w)) = q at hc hz
  simp [hc, hz, -ev_comp]
theorem t_freeP (F : List (List Int)) (k : Nat) (hk : k ≤ 4) (s0 s3 s4 s5 : Slot) (hF : F.length ≤ 8) :
    evE (pg.calls 37) (.comp (.var 7) (.one 7) (.of (.call 20 (.cons (.var 1) .nil))) (.some (.nt (.bi .any (.cons (.comp (.call 8 (.cons (.var 2) (.cons (.var 7) .nil))) (.one 2) (.of (.var 6)) .none [2]) .nil)))) [7]) [s0, .va (.int (k : Int)), .un, s3, s4, s5, .mu .ow (.list (F.map wd)), .un] =
      .ok (.nw (.list ((free F k).map wd)), [s0, .va (.int (k : Int)), .un, s3, s4, s5, .mu .ow (.list (F.map wd)), .un]) := by
  have ha := c_all37 hk
  have hal : (aw k).length ≤ 81 := by rw [aw_count]; exact Nat.pow_le_pow_right (by decide) hk
  rw [ev_comp, compF_map wd (fun w => if (!F.any fun o => beg o w) = true then some (wd w) else none) (aw k)]
  · rw [fm_keep]; rfl
  · have hi : noList (wlist (aw k)) = false := rfl
    generalize aw k = A at *
    simp [ha, hi]
  · intro w _
    have h := t_anyP 36 F w s0 (.va (.int (k : Int))) s3 s4 s5 hF
    refine ⟨[s0, .va (.int (k : Int)), .un, s3, s4, s5, .mu .ow (.list (F.map wd)), .va (wd w)], ?_, rfl⟩
    have e : (Res.of (bindT (wipe [s0, .va (.int (k : Int)), .un, s3, s4, s5, .mu .ow (.list (F.map wd)), .un] [7]) (.one 7) (wd w))) = .ok [s0, .va (.int (k : Int)), .un, s3, s4, s5, .mu .ow (.list (F.map wd)), .va (wd w)] := by simp [wipe]
    unfold turnF
    rw [e, Res.bind_ok, t_som, u_tstF, ev_nt, u_tstF, h]
    cases hq : F.any fun o => beg o w <;> simp
  · exact le_line (by omega)
theorem t_plain (L : List Nat) (hL : Ln L) {F : List (List Int)} (hF : plainL [] L = some F) (s4 s5 : Slot) :
    ∃ s1, exS (pg.calls 37) (.fr (.one 1) (.of (.var 0)) l21_1) [.va (.tuple (lns L)), .un, .un, .un, s4, s5, .mu .ow (.list []), .un] = .nx [.va (.tuple (lns L)), s1, .un, .un, s4, s5, .mu .ow (.list (F.map wd)), .un] := by
  have hit : evI (pg.calls 37) (.of (.var 0)) [.va (.tuple (lns L)), .un, .un, .un, s4, s5, .mu .ow (.list []), .un] = .ok ⟨L.map fun (k : Nat) => PyData.int (k : Int), [.va (.tuple (lns L)), .un, .un, .un, s4, s5, .mu .ow (.list []), .un], []⟩ := by
    simp [lns]
  obtain ⟨g', eg, G, s1, f1, hG, rfl⟩ := forL_map (turn := fun g x => (Res.of (bindT g (.one 1) x)).out fun g1 => exSs (pg.calls 37) l21_1 g1) (fun (k : Nat) => PyData.int (k : Int))
    (fun D g => ∃ (F : List (List Int)) (s1 : Slot), Free s1 ∧ plainL [] D = some F ∧ g = [.va (.tuple (lns L)), s1, .un, .un, s4, s5, .mu .ow (.list (F.map wd)), .un])
    L [.va (.tuple (lns L)), .un, .un, .un, s4, s5, .mu .ow (.list []), .un]
    (fun D k post g e ⟨F', s1, f1, hF', hg⟩ => by
      subst hg
      have hD : ∀ j ∈ D, 1 ≤ j ∧ j ≤ 4 := fun j hj => hL.k j (by rw [e]; exact List.mem_append_left _ hj)
      have hk4 := hL.k k (by rw [e]; simp)
      have hFo := plainL_ok hF' hD (fun w hw => nomatch hw)
      have hDl : D.length < 8 := by
        have := congrArg List.length e
        simp only [List.length_append, List.length_cons] at this
        have := hL.l8
        omega
      have hFl : F'.length < 8 := by have := hFo.1; simp only [List.length_nil] at this; omega
      have hc := t_freeP F' k hk4.2 (.va (.tuple (lns L))) .un s4 s5 (by omega)
      have hs := plainL_snoc D [] k
      rw [hF', Option.bind_some] at hs
      have hall : plainL [] L = (plainL [] (D ++ [k])).bind fun G => plainL G post := by
        rw [e, show D ++ k :: post = (D ++ [k]) ++ post by simp, plainL_app]
      cases hf : free F' k with
      | nil =>
        rw [hf] at hs
        have hs : plainL [] (D ++ [k]) = none := hs
        rw [hs, hF] at hall
        cases hall
      | cons w ws =>
        rw [hf] at hs hc
        refine ⟨[.va (.tuple (lns L)), .va (.int (k : Int)), .un, .un, s4, s5, .mu .ow (.list ((F' ++ [w]).map wd)), .un], ?_, F' ++ [w], .va (.int (k : Int)), trivial, hs, rfl⟩
        have hix : ix (.list ((w :: ws).map wd)) (.int 0) = some (wd w) := ix_nat (j := 0) rfl
        have ha := app_ok (wd w) (F'.map wd) (by rw [List.length_map]; exact small (by omega))
        generalize (w :: ws).map wd = q at hc hix
        simp [l21_1, f1, hc, hix, ha, -ev_comp])
    ⟨[], .un, trivial, rfl, rfl⟩
  rw [hF] at hG
  cases hG
  exact ⟨s1, by rw [ex_fr, fr_nl hit]; exact eg⟩
theorem c_plain (L : List Nat) (hL : Ln L) : callAt pg 38 21 [.tuple (lns L)] = if (wtL L).2 < (wtL L).1 then .exc 1 (.str "weight") else match plainL [] L with | some F => .ok false (wds (F.mergeSort leW)) none | none => .bad := by
  rw [call_eq (d := f21) rfl rfl]
  have hw := c_weight_of 32 L (fun k hk => (hL.k k hk).2) (.tuple (lns L)) (.inr rfl)
  have hB := wB hL.l8 hL.k hL.s
  rw [hB.eq] at hw
  have hp := plain_iff hL.l8 hL.k hL.s
  rw [← hB.gt] at hp
  have h1 := t_whl 36 L hL
  have h2 := t_zpl 37 L hL
  have z1 : bi .all [.list (L.map fun _ => .bool true)] = some (false, .bool true) := by
    rw [all_map (fun _ => true)]
    simp
  have z2 : bi .all [.list ((L.zip (L.drop 1)).map fun p => .bool (decide ((p.1 : Int) ≤ (p.2 : Int))))] = some (false, .bool true) := by
    rw [all_map, zip_asc hL.s]
  have hlen : (lns L).length = L.length := by simp [lns]
  have a1 : (1 : Int) ≤ L.length := by have := hL.l1; omega
  have a2 : (L.length : Int) ≤ 8 := by have := hL.l8; omega
  have a3 : 1 ≤ L.length := hL.l1
  have a4 : L.length ≤ 8 := hL.l8
  have hx1 : exS (pg.calls 37) (.unp [4, 5] (.call 18 (.cons (.var 0) .nil))) [.va (.tuple (lns L)), .un, .un, .un, .un, .un, .un, .un] = .nx [.va (.tuple (lns L)), .un, .un, .un, .va (.int ((wtL L).1 : Nat)), .va (.int ((wtL L).2 : Nat)), .un, .un] := by
    have hn : ∀ p, noList (fr p) = true := fun _ => rfl
    have hw' : callAt pg 37 18 [.tuple (lns L)] = .ok false (.tuple [.int ((wtL L).1 : Nat), .int ((wtL L).2 : Nat)]) none := hw
    have e : exS (pg.calls 37) (.unp [4, 5] (.call 18 (.cons (.var 0) .nil))) [.va (.tuple (lns L)), .un, .un, .un, .un, .un, .un, .un] = (evE (pg.calls 37) (.call 18 (.cons (.var 0) .nil)) [.va (.tuple (lns L)), .un, .un, .un, .un, .un, .un, .un]).out fun p => match p.1 with
      | .val (.tuple ds) => (Res.of (putAll p.2 [4, 5] ds)).out .nx
      | _ => .bad := rfl
    rw [e]
    simp [hw']
  by_cases hlt : (wtL L).2 < (wtL L).1
  · rw [if_pos hlt]
    have hlt' : ((wtL L).2 : Int) < ((wtL L).1 : Int) := by omega
    have hsd : simD (.str "weight") = true := rfl
    generalize hq1 : L.map (fun _ => PyData.bool true) = q1 at *
    generalize hq2 : (L.zip (L.drop 1)).map (fun p => PyData.bool (decide ((p.1 : Int) ≤ (p.2 : Int)))) = q2 at *
    simp only [g21] at h1 h2
    simp [f21, b21, startE, h1, h2, z1, z2, hlen, a1, a2, a3, a4, hx1, hlt, hlt', hsd, Out.cr, -ev_comp]
  · rw [if_neg hlt]
    have hlt' : ¬ ((wtL L).2 : Int) < ((wtL L).1 : Int) := by omega
    cases hF : plainL [] L with
    | none => exact absurd (hp.mp hF) hlt
    | some F =>
      obtain ⟨s1, hfr⟩ := t_plain L hL hF (.va (.int ((wtL L).1 : Nat))) (.va (.int ((wtL L).2 : Nat)))
      have hFo := plainL_ok hF hL.k (fun w hw => nomatch hw)
      have hs : bi .sorted [.list (F.map wd)] = some (true, .list ((F.mergeSort leW).map wd)) := by
        show (sortedD (F.map wd)).map _ = _
        rw [sorted_wds (fun h => (hFo.2 _ h).1 rfl)]
        rfl
      generalize hq1 : L.map (fun _ => PyData.bool true) = q1 at *
      generalize hq2 : (L.zip (L.drop 1)).map (fun p => PyData.bool (decide ((p.1 : Int) ≤ (p.2 : Int)))) = q2 at *
      simp only [g21] at h1 h2
      simp [f21, b21, startE, h1, h2, z1, z2, hlen, a1, a2, a3, a4, hx1, hlt, hlt', hfr, hs, endD, wds, -ev_comp, -ex_fr]
end P50
end

section
set_option Elab.async false
set_option linter.all false
set_option maxRecDepth 1000000
set_option maxHeartbeats 4000000
/-! P50E: is_full; what is told. -/
namespace P50
open PySem (PyData Str)
open PK L50

theorem fr_wd (p : Nat × Nat) : fr p = wd [(p.1 : Int), (p.2 : Int)] := rfl
theorem eq_fr (p q : Nat × Nat) : cop .eq (fr p) (fr q) = some (decide (p = q)) := by
  rw [fr_wd, fr_wd, cop_eq_wd]
  congr 1
  rw [decide_eq_decide]
  constructor
  · intro h
    simp only [List.cons.injEq, and_true] at h
    exact Prod.ext (by omega) (by omega)
  · rintro rfl; rfl
theorem c_full (n : Nat) (W : List (List Int)) (h : Ls W) (h4 : ∀ w ∈ W, w.length ≤ 4) : callAt pg (n + 7) 19 [wds W] = .ok false (.bool (decide (FT W = []) && decide (wt (lens W) = (1, 1)))) none := by
  rw [call_eq (d := f19) rfl rfl]
  have h1 := c_prefix (n + 1) W h
  have h2 := c_weight n W h h4
  have h3 : callAt pg (n + 6) 3 [.int 1, .int 1] = .ok false (fr (1, 1)) none := c_ratio (n + 3) 1 1 (by decide) (by decide)
  have he := eq_fr (wt (lens W)) (1, 1)
  have hn : ∀ p, noList (fr p) = true := fun _ => rfl
  by_cases hF : FT W = []
  · have h1' : callAt pg (n + 6) 15 [wds W] = .ok false (.bool true) none := by rw [h1]; simp [hF]
    simp [f19, b19, startE, h1', h2, h3, hn, he, hF, endD]
  · have h1' : callAt pg (n + 6) 15 [wds W] = .ok false (.bool false) none := by rw [h1]; simp [hF]
    simp [f19, b19, startE, h1', hF, endD]
theorem c_weightNot (n : Nat) (v : PyData) (h : OddL v) : callAt pg (n + 5) 16 [v] = .exc 0 (.str "no list") := by
  rw [call_eq (d := f16) rfl rfl]
  have hc := c_checkNot n v h.1 h.2
  simp [f16, b16, startE, hc, Out.cr]
theorem c_prefixNot (n : Nat) (v : PyData) (h : OddL v) : callAt pg (n + 5) 15 [v] = .exc 0 (.str "no list") := by
  rw [call_eq (d := f15) rfl rfl]
  have hc := c_checkNot n v h.1 h.2
  simp [f15, b15, startE, hc, Out.cr]
theorem c_fullNot (n : Nat) (v : PyData) (h : OddL v) : callAt pg (n + 6) 19 [v] = .exc 0 (.str "no list") := by
  rw [call_eq (d := f19) rfl rfl]
  have hc := c_prefixNot n v h
  simp [f19, b19, startE, hc, Out.cr]
theorem c_told0 (n : Nat) (v : PyData) (h : OddL v) : callAt pg (n + 6) 31 [.int 0, v] = .ok false (.str "<malformed>") none := by
  rw [call_eq (d := f31) rfl rfl]
  have hc := c_weightNot n v h
  simp [f31, b31, startE, hc, endD]
theorem c_told1 (n : Nat) (v : PyData) (h : OddL v) : callAt pg (n + 7) 31 [.int 1, v] = .ok false (.str "<malformed>") none := by
  rw [call_eq (d := f31) rfl rfl]
  have hc := c_fullNot n v h
  simp [f31, b31, startE, hc, endD]
theorem h_weight (C : Calls) (g : Env) (s0 s1 : Slot) : hnd C (.cons 0 none (.cons (.ret (.lit (.str "<malformed>"))) .nil) (.cons 1 (some 2) (.cons (.ret (.bop .add (.bop .add (.lit (.str "<")) (.att 2)) (.lit (.str ">")))) .nil) .nil)) 1 (.str "weight") [s0, s1, .un] = .rt false (.str "<weight>") [s0, s1, .un] := rfl
theorem c_told2 (L : List Nat) (hL : Ln L) : callAt pg 39 31 [.int 2, .tuple (lns L)] = .ok false (match plainL [] L with | none => .str "<weight>" | some F => wds (F.mergeSort leW)) none := by
  rw [call_eq (d := f31) rfl rfl]
  have hc := c_plain L hL
  have hB := wB hL.l8 hL.k hL.s
  have hp := plain_iff hL.l8 hL.k hL.s
  rw [← hB.gt] at hp
  by_cases hlt : (wtL L).2 < (wtL L).1
  · rw [if_pos hlt] at hc
    rw [hp.mpr hlt]
    have e : exS (pg.calls 38) (.tr (.cons (.ite (.cmp .eq (.var 0) (.lit (.int 0))) (.cons (.ret (.call 16 (.cons (.var 1) .nil))) .nil) .nil) (.cons (.ret (.ife (.cmp .eq (.var 0) (.lit (.int 1))) (.call 19 (.cons (.var 1) .nil)) (.call 21 (.cons (.var 1) .nil)))) .nil)) (.cons 0 none (.cons (.ret (.lit (.str "<malformed>"))) .nil) (.cons 1 (some 2) (.cons (.ret (.bop .add (.bop .add (.lit (.str "<")) (.att 2)) (.lit (.str ">")))) .nil) .nil))) [.va (.int 2), .va (.tuple (lns L)), .un] = .rt false (.str "<weight>") [.va (.int 2), .va (.tuple (lns L)), .un] := by
      rw [ex_tr]
      have e1 : exSs (pg.calls 38) (.cons (.ite (.cmp .eq (.var 0) (.lit (.int 0))) (.cons (.ret (.call 16 (.cons (.var 1) .nil))) .nil) .nil) (.cons (.ret (.ife (.cmp .eq (.var 0) (.lit (.int 1))) (.call 19 (.cons (.var 1) .nil)) (.call 21 (.cons (.var 1) .nil)))) .nil)) [.va (.int 2), .va (.tuple (lns L)), .un] = .exc 1 (.str "weight") [.va (.int 2), .va (.tuple (lns L)), .un] := by
        simp [hc]
      rw [e1]
      exact h_weight _ [] _ _
    simp only [f31, b31, startE, ex_cons, List.map_cons, List.map_nil]
    show Out.cr _ ((exS (pg.calls 38) _ [.va (.int 2), .va (.tuple (lns L)), .un]).seq _) = _
    rw [e]
    rfl
  · rw [if_neg hlt] at hc
    cases hF : plainL [] L with
    | none => exact absurd (hp.mp hF) hlt
    | some F =>
      rw [hF] at hc
      simp [f31, b31, startE, hc, endD]
/-- what are no lengths -/
def BL (L : List Nat) : List PyData := [.none, .tuple [], .int 5, .list (lns L), .tuple [.int 2, .int 1], .tuple [.int 0, .int 1], .tuple [.int 7], .tuple [.int 1, .int 1, .int 1, .int 1, .int 1, .int 1, .int 1, .int 1, .int 1], .tuple [.bool true], .tuple [.str "1"]]
def strOf : CR → Option Str
  | .ok false (.str s) none => some s
  | _ => none
theorem strOf_ok {r : CR} {s : Str} (h : strOf r = some s) : r = .ok false (.str s) none := by
  unfold strOf at h
  split at h
  · cases h; rfl
  · cases h
theorem c_toldB (L : List Nat) : ∀ v ∈ BL L, callAt pg 39 31 [.int 2, v] = .ok false (.str "<malformed>") none := by
  intro v hv
  simp only [BL, List.mem_cons, List.not_mem_nil, or_false] at hv
  rcases hv with rfl | rfl | rfl | rfl | rfl | rfl | rfl | rfl | rfl | rfl
  · exact strOf_ok (by decide +kernel)
  · exact strOf_ok (by decide +kernel)
  · exact strOf_ok (by decide +kernel)
  · have hc : callAt pg 38 21 [.list (lns L)] = .exc 0 (.str "no lengths") := by
      rw [call_eq (d := f21) rfl rfl]
      simp [f21, b21, startE, Out.cr]
    rw [call_eq (d := f31) rfl rfl]
    simp [f31, b31, startE, hc, endD]
  · exact strOf_ok (by decide +kernel)
  · exact strOf_ok (by decide +kernel)
  · exact strOf_ok (by decide +kernel)
  · exact strOf_ok (by decide +kernel)
  · exact strOf_ok (by decide +kernel)
  · exact strOf_ok (by decide +kernel)
end P50
end

section
set_option Elab.async false
set_option linter.all false
set_option maxRecDepth 1000000
set_option maxHeartbeats 4000000
/-! P50F: a list of weight 1 at most is a code's; full lists. No program in sight. -/
namespace P50
open PySem (PyData Str)
open PK L50

theorem ltW_ne {a b : List Int} (h : ltW a b = true) : a ≠ b := fun e => by rw [e, ltW_irr] at h; cases h
theorem pw_nodup {W : List (List Int)} (h : W.Pairwise (fun a b => ltW a b = true)) : W.Nodup := h.imp ltW_ne
theorem ft_nil {W : List (List Int)} : FT W = [] ↔ ∀ one ∈ W, ∀ two ∈ W, one ≠ two → beg one two = false := by
  constructor
  · intro h one h1 two h2 hne
    cases hb : beg one two with
    | false => rfl
    | true =>
      have : two.drop one.length ∈ FT W := ft_mem.mpr ⟨one, h1, two, h2, hne, beg_iff.mp hb⟩
      rw [h] at this
      cases this
  · intro h
    cases hF : FT W with
    | nil => rfl
    | cons t T =>
      have : t ∈ FT W := by rw [hF]; exact List.mem_cons_self
      obtain ⟨one, h1, two, h2, hne, e⟩ := ft_mem.mp this
      have := h one h1 two h2 hne
      rw [beg_iff.mpr (by rw [e]; simp)] at this
      cases this
/-! ### how many of the words of three signs begin with a word -/
theorem cnt : ∀ k : Nat, k < 4 → ∀ w ∈ aw k, (aw 3).countP (beg w) = 3 ^ (3 - k) := by decide +kernel
theorem in_aw : ∀ {w : List Int}, (∀ i ∈ w, 0 ≤ i ∧ i < 3) → w ∈ aw w.length := by
  intro w
  induction hn : w.length generalizing w with
  | zero => intro _; rw [List.length_eq_zero_iff.mp hn]; simp [aw]
  | succ n ih =>
    intro h
    have hne : w ≠ [] := fun e => by rw [e] at hn; simp at hn
    rw [← List.dropLast_concat_getLast hne]
    have h1 := ih (w := w.dropLast) (by rw [List.length_dropLast]; omega) (fun i hi => h i ((List.dropLast_sublist w).subset hi))
    have h2 := h _ (List.getLast_mem hne)
    refine List.mem_flatMap.mpr ⟨w.dropLast, h1, ?_⟩
    generalize w.getLast hne = i at h2
    have : i = 0 ∨ i = 1 ∨ i = 2 := by omega
    rcases this with rfl | rfl | rfl <;> simp
theorem cnt_gw {w : List Int} (h : Gw w) : (aw 3).countP (beg w) = 3 ^ (3 - w.length) := cnt w.length (by have := h.1; omega) w (in_aw h.2.2)
theorem sum_swap {α β : Type} (p : α → β → Bool) (A : List β) : ∀ W : List α, (W.map fun w => A.countP (p w)).sum = (A.map fun a => W.countP fun w => p w a).sum
  | [] => by
    simp only [List.map_nil, List.sum_nil, List.countP_nil]
    induction A with
    | nil => rfl
    | cons a A ih => simpa using ih
  | w :: W => by
    rw [List.map_cons, List.sum_cons, sum_swap p A W]
    have : ∀ A : List β, A.countP (p w) + (A.map fun a => W.countP fun w => p w a).sum = (A.map fun a => (w :: W).countP fun w => p w a).sum := by
      intro A
      induction A with
      | nil => rfl
      | cons a A ih =>
        simp only [List.map_cons, List.sum_cons, List.countP_cons] at ih ⊢
        rw [← ih]
        omega
    exact this A
theorem sum_one {β : Type} {f : β → Nat} : ∀ {A : List β}, (∀ a ∈ A, f a ≤ 1) → ((A.map f).sum = A.length ↔ ∀ a ∈ A, f a = 1)
  | [], _ => by simp
  | a :: A, h => by
    have h0 := h a List.mem_cons_self
    have ih := sum_one (A := A) fun b hb => h b (List.mem_cons_of_mem _ hb)
    have hle : ∀ A : List β, (∀ a ∈ A, f a ≤ 1) → (A.map f).sum ≤ A.length := by
      intro A
      induction A with
      | nil => exact fun _ => Nat.le_refl _
      | cons a A ih =>
        intro h
        have h1 := h a List.mem_cons_self
        have := ih fun b hb => h b (List.mem_cons_of_mem _ hb)
        simp only [List.map_cons, List.sum_cons, List.length_cons]
        omega
    have hA := hle A fun b hb => h b (List.mem_cons_of_mem _ hb)
    simp only [List.map_cons, List.sum_cons, List.length_cons, List.mem_cons, forall_eq_or_imp]
    rw [← ih]
    omega
theorem beg_cmp {a b c : List Int} (h1 : beg a c = true) (h2 : beg b c = true) (hl : a.length ≤ b.length) : beg a b = true := by
  simp only [beg, decide_eq_true_eq] at *
  have e : b = c.take b.length := h2.symm
  rw [e, List.take_take, Nat.min_eq_left hl]
  exact h1
theorem at_most {W : List (List Int)} (hn : W.Nodup) (hF : ∀ one ∈ W, ∀ two ∈ W, one ≠ two → beg one two = false) (a : List Int) : W.countP (fun w => beg w a) ≤ 1 := by
  induction W with
  | nil => simp
  | cons w W ih =>
    have hn' := List.nodup_cons.mp hn
    have ih := ih hn'.2 fun x hx y hy => hF x (List.mem_cons_of_mem _ hx) y (List.mem_cons_of_mem _ hy)
    rw [List.countP_cons]
    cases hb : beg w a with
    | false => simpa using ih
    | true =>
      have : W.countP (fun w => beg w a) = 0 := by
        rw [List.countP_eq_zero]
        intro v hv hva
        have hne : w ≠ v := fun e => hn'.1 (e ▸ hv)
        rcases Nat.le_total w.length v.length with hl | hl
        · have := hF w List.mem_cons_self v (List.mem_cons_of_mem _ hv) hne
          rw [beg_cmp hb hva hl] at this
          cases this
        · have := hF v (List.mem_cons_of_mem _ hv) w List.mem_cons_self (Ne.symm hne)
          rw [beg_cmp hva hb hl] at this
          cases this
      rw [this]
      simp
theorem sz_lens (W : List (List Int)) (hg : ∀ w ∈ W, Gw w) : sz 3 (lens W) = (W.map fun w => (aw 3).countP (beg w)).sum := by
  unfold sz lens
  rw [List.map_map]
  congr 1
  apply List.map_congr_left
  intro w hw
  exact (cnt_gw (hg w hw)).symm
theorem full_iff {W : List (List Int)} (h : Lw W) (hF : FT W = []) : sz 3 (lens W) = 27 ↔ ∀ a ∈ aw 3, (W.any fun w => beg w a) = true := by
  have h1 := ft_nil.mp hF
  have hn := pw_nodup h.pw
  rw [sz_lens W h.gw, sum_swap beg (aw 3) W]
  have hl : (aw 3).length = 27 := aw_count 3
  have := sum_one (f := fun a => W.countP fun w => beg w a) (A := aw 3) fun a _ => at_most hn h1 a
  rw [hl] at this
  rw [this]
  constructor
  · intro h a ha
    have h := h a ha
    have : 0 < W.countP fun w => beg w a := by omega
    obtain ⟨w, hw, hb⟩ := List.countP_pos_iff.mp this
    exact List.any_eq_true.mpr ⟨w, hw, hb⟩
  · intro h a ha
    obtain ⟨w, hw, hb⟩ := List.any_eq_true.mp (h a ha)
    have : 0 < W.countP fun w => beg w a := List.countP_pos_iff.mpr ⟨w, hw, hb⟩
    have := at_most hn h1 a
    omega
end P50
end

section
set_option Elab.async false
set_option linter.all false
set_option maxRecDepth 1000000
set_option maxHeartbeats 4000000
/-! P50G: a list of weight above 1 is no code. -/
namespace P50
open PySem (PyData Str)
open PK L50

theorem sz_le : ∀ {W : List (List Int)}, (∀ w ∈ W, Gw w) → sz 3 (lens W) ≤ 3 * W.length + 6 * W.countP fun w => decide (w.length = 1)
  | [], _ => by simp [sz, lens]
  | w :: W, h => by
    have ih := sz_le (W := W) fun x hx => h x (List.mem_cons_of_mem _ hx)
    have hw := h w List.mem_cons_self
    have h1 : 0 < w.length := List.length_pos_iff.mpr hw.2.1
    have e : sz 3 (lens (w :: W)) = 3 ^ (3 - w.length) + sz 3 (lens W) := by simp [sz, lens]
    rw [e, List.length_cons, List.countP_cons]
    have hl : w.length = 1 ∨ w.length = 2 ∨ w.length = 3 := by have := hw.1; omega
    rcases hl with hl | hl | hl <;> simp only [hl] <;> simp <;> omega
theorem one_sign {W : List (List Int)} (hn : W.Nodup) (hg : ∀ w ∈ W, Gw w) (hc : 3 ≤ W.countP fun w => decide (w.length = 1)) {i : Int} (h0 : 0 ≤ i) (h3 : i < 3) : [i] ∈ W := by
  by_cases hin : [i] ∈ W
  · exact hin
  · exfalso
    rw [List.countP_eq_length_filter] at hc
    have hnd : (W.filter fun w => decide (w.length = 1)).Nodup := hn.filter _
    have hsub : ∀ x ∈ W.filter fun w => decide (w.length = 1), x ∈ ([[0], [1], [2]] : List (List Int)).erase [i] := by
      intro x hx
      obtain ⟨hx, hl⟩ := List.mem_filter.mp hx
      have hl : x.length = 1 := of_decide_eq_true hl
      obtain ⟨j, rfl⟩ := List.length_eq_one_iff.mp hl
      have hj := (hg _ hx).2.2 j (by simp)
      have hne : ([j] : List Int) ≠ [i] := fun e => hin (e ▸ hx)
      refine (List.mem_erase_of_ne hne).mpr ?_
      have : j = 0 ∨ j = 1 ∨ j = 2 := by omega
      rcases this with rfl | rfl | rfl <;> simp
    have := nodup_sub hnd hsub
    have hlen : (([[0], [1], [2]] : List (List Int)).erase [i]).length = 2 := by
      have : i = 0 ∨ i = 1 ∨ i = 2 := by omega
      rcases this with rfl | rfl | rfl <;> decide +kernel
    omega
theorem no_code {W : List (List Int)} (h : Lw W) (hs : 27 < sz 3 (lens W)) : ∃ t, Reach W t ∧ t ∈ W := by
  rcases h.sm with h4 | rfl
  · have hn := pw_nodup h.pw
    have hle := sz_le h.gw
    have hc : 3 ≤ W.countP fun w => decide (w.length = 1) := by omega
    have h1 : ∀ i : Int, 0 ≤ i → i < 3 → [i] ∈ W := fun i a b => one_sign hn h.gw hc a b
    have hbig : ∃ w ∈ W, 2 ≤ w.length := by
      refine Classical.byContradiction fun hno => ?_
      have hall : ∀ w ∈ W, w ∈ ([[0], [1], [2]] : List (List Int)) := by
        intro w hw
        have hg := h.gw w hw
        have : w.length = 1 := by
          have := List.length_pos_iff.mpr hg.2.1
          have : ¬ 2 ≤ w.length := fun q => hno ⟨w, hw, q⟩
          omega
        obtain ⟨j, rfl⟩ := List.length_eq_one_iff.mp this
        have hj := hg.2.2 j (by simp)
        have : j = 0 ∨ j = 1 ∨ j = 2 := by omega
        rcases this with rfl | rfl | rfl <;> simp
      have h3 := nodup_sub hn hall
      have hcl := List.countP_le_length (p := fun w : List Int => decide (w.length = 1)) (l := W)
      simp only [List.length_cons, List.length_nil] at h3
      have e : sz 3 (lens W) ≤ 9 * W.length := by
        have := hle
        omega
      omega
    obtain ⟨w, hw, hl⟩ := hbig
    have hg := h.gw w hw
    match w, hw, hl, hg with
    | [], _, hl, _ => simp at hl
    | [_], _, hl, _ => simp at hl
    | [x, y], hw, _, hg =>
      have hx := hg.2.2 x (by simp)
      have hy := hg.2.2 y (by simp)
      have hr : Reach W [y] := .first (ft_mem.mpr ⟨[x], h1 x hx.1 hx.2, [x, y], hw, by simp, rfl⟩)
      exact ⟨[y], hr, h1 y hy.1 hy.2⟩
    | [x, y, z], hw, _, hg =>
      have hx := hg.2.2 x (by simp)
      have hy := hg.2.2 y (by simp)
      have hz := hg.2.2 z (by simp)
      have hr : Reach W [y, z] := .first (ft_mem.mpr ⟨[x], h1 x hx.1 hx.2, [x, y, z], hw, by simp, rfl⟩)
      have hr2 : Reach W [z] := .next hr (nt_mem.mpr ⟨⟨[y], h1 y hy.1 hy.2, by simp [rest, beg]⟩, by simp⟩)
      exact ⟨[z], hr2, h1 z hz.1 hz.2⟩
    | _ :: _ :: _ :: _ :: _, _, _, hg => have := hg.1; simp only [List.length_cons] at this; omega
  · exact absurd hs (by decide +kernel)
end P50
end

section
set_option Elab.async false
set_option linter.all false
set_option maxRecDepth 1000000
set_option maxHeartbeats 4000000
/-! P50H: the law's turn, its statements one by one. -/
namespace P50
open PySem (PyData Str)
open PK L50

/-- the law's slots -/
def gL (sc d : PyData) (s2 s3 s4 s6 s9 s10 s12 s13 s14 : Slot) : Env := [.va sc, .mu .ow d, s2, s3, s4, .un, s6, .un, .un, s9, s10, .un, s12, s13, s14, .un, .un, .un]
theorem five4 : Lw (five.take 4) := ⟨⟨by decide, by decide, by unfold Wd; decide +kernel, by decide +kernel⟩, by decide +kernel, by unfold Gw; decide +kernel, .inl (by decide)⟩
theorem five5 : Lw five := ⟨⟨by decide, by decide, by unfold Wd; decide +kernel, by decide +kernel⟩, by decide +kernel, by unfold Gw; decide +kernel, .inr rfl⟩
/-- words drawn -/
theorem x_words (sc d : PyData) (s2 s3 s4 s6 s9 s10 s12 s13 s14 : Slot) (hd : Dr d) (f3 : Free s3) : ∃ d' W, Dr d' ∧ Lw W ∧
    exSs (pg.calls 39) (.cons (.asg 3 false (.cio 25 1 .nil)) (.cons (.ite (.cmp .eq (.cio 23 1 (.cons (.lit (.int 3)) .nil)) (.lit (.int 0))) (.cons (.asg 3 false (.slc (.tup (.cons (.tup (.cons (.lit (.int 0)) .nil)) (.cons (.tup (.cons (.lit (.int 1)) .nil)) (.cons (.tup (.cons (.lit (.int 2)) (.cons (.lit (.int 0)) .nil))) (.cons (.tup (.cons (.lit (.int 2)) (.cons (.lit (.int 1)) .nil))) (.cons (.tup (.cons (.lit (.int 2)) (.cons (.lit (.int 2)) .nil))) .nil)))))) .none (.some (.bop .add (.lit (.int 4)) (.cio 23 1 (.cons (.lit (.int 2)) .nil)))))) .nil) .nil) .nil)) (gL sc d s2 s3 s4 s6 s9 s10 s12 s13 s14) = .nx (gL sc d' s2 (.va (wds W)) s4 s6 s9 s10 s12 s13 s14) := by
  obtain ⟨W, d1, e1, hd1, hW⟩ := c_llist 37 d hd
  obtain ⟨r, d2, e2, hd2, r0, r1⟩ := c_take 38 d1 3 hd1 (by decide) (by decide)
  by_cases h0 : r = 0
  · subst h0
    obtain ⟨q, d3, e3, hd3, q0, q1⟩ := c_take 38 d2 2 hd2 (by decide) (by decide)
    have hq : q = 0 ∨ q = 1 := by omega
    rcases hq with rfl | rfl
    · refine ⟨d3, five.take 4, hd3, five4, ?_⟩
      have hs : slc (.tuple [.tuple [.int 0], .tuple [.int 1], .tuple [.int 2, .int 0], .tuple [.int 2, .int 1], .tuple [.int 2, .int 2]]) none (some (.int 4)) = some (false, wds (five.take 4)) := rfl
      simp [gL, callIO, e1, e2, e3, hs, f3]
    · refine ⟨d3, five, hd3, five5, ?_⟩
      have hs : slc (.tuple [.tuple [.int 0], .tuple [.int 1], .tuple [.int 2, .int 0], .tuple [.int 2, .int 1], .tuple [.int 2, .int 2]]) none (some (.int 5)) = some (false, wds five) := rfl
      simp [gL, callIO, e1, e2, e3, hs, f3]
  · refine ⟨d2, W, hd2, hW, ?_⟩
    simp [gL, callIO, e1, e2, h0, f3]
theorem lw_lens {W : List (List Int)} (h : Lw W) : (lens W).length ≤ 5 ∧ ∀ k ∈ lens W, 1 ≤ k ∧ k ≤ 3 := by
  refine ⟨by simpa [lens] using h.l4, fun k hk => ?_⟩
  obtain ⟨w, hw, rfl⟩ := List.mem_map.mp hk
  have := h.gw w hw
  exact ⟨List.length_pos_iff.mpr this.2.1, this.1⟩
theorem x_due (sc d : PyData) (W : List (List Int)) (hW : Lw W) (s2 s4 s6 s9 s10 s12 s13 s14 : Slot) (f4 : Free s4) :
    exS (pg.calls 39) (.asg 4 false (.call 28 (.cons (.comp (.bi .len (.cons (.var 5) .nil)) (.one 5) (.of (.var 3)) .none [5]) .nil))) (gL sc d s2 (.va (wds W)) s4 s6 s9 s10 s12 s13 s14) = .nx (gL sc d s2 (.va (wds W)) (.va (fr (wtL (lens W)))) s6 s9 s10 s12 s13 s14) := by
  have hc : evE (pg.calls 39) (.comp (.bi .len (.cons (.var 5) .nil)) (.one 5) (.of (.var 3)) .none [5]) (gL sc d s2 (.va (wds W)) s4 s6 s9 s10 s12 s13 s14) = .ok (.nw (.list (lns (lens W))), gL sc d s2 (.va (wds W)) s4 s6 s9 s10 s12 s13 s14) := by
    rw [ev_comp, compF_map wd (fun w => some (.int (w.length : Int))) W, filterMap_some]
    · simp [lns, lens]
    · simp [gL]
    · intro w _
      exact ⟨[.va sc, .mu .ow d, s2, .va (wds W), s4, .va (wd w), s6, .un, .un, s9, s10, .un, s12, s13, s14, .un, .un, .un], by simp [turnF, wipe, gL], rfl⟩
    · exact le_line (by have := hW.l4; omega)
  have hl := lw_lens hW
  have hw := c_lweight 38 (lens W) (by omega) (fun k hk => by have := hl.2 k hk; omega) (.list (lns (lens W))) (.inl rfl)
  have hn : ∀ p, noList (fr p) = true := fun _ => rfl
  simp only [gL] at hc ⊢
  generalize lns (lens W) = q at *
  simp [hc, hw, hn, f4, -ev_comp]
theorem x_weight (sc d : PyData) (W : List (List Int)) (hW : Lw W) (s2 s6 s9 s10 s12 s13 s14 : Slot) :
    exS (pg.calls 39) (.ite (.or (.cons (.cmp .ne (.bi .repr (.cons (.call 16 (.cons (.var 3) .nil)) .nil)) (.bi .repr (.cons (.var 4) .nil))) (.cons (.and (.cons (.call 14 (.cons (.var 3) .nil)) (.cons (.cmp .gt (.idx (.var 4) (.lit (.int 0))) (.idx (.var 4) (.lit (.int 1)))) .nil))) .nil))) (.cons (.ret (.lit (.bool false))) .nil) .nil) (gL sc d s2 (.va (wds W)) (.va (fr (wtL (lens W)))) s6 s9 s10 s12 s13 s14) = .nx (gL sc d s2 (.va (wds W)) (.va (fr (wtL (lens W)))) s6 s9 s10 s12 s13 s14) := by
  have hl := lw_lens hW
  have hA := wA hl.1 hl.2
  have hw := c_weight 33 W hW.ls (fun w hw => by have := (hW.gw w hw).1; omega)
  rw [hA.eq] at hw
  have hr := repr_fr hA.s1 hA.s2
  obtain ⟨b, hb, hbi⟩ := c_code 33 W hW.ls
  have hn : ∀ p, noList (fr p) = true := fun _ => rfl
  have hgt : b = true → ¬ ((wtL (lens W)).2 < (wtL (lens W)).1) := by
    intro e hlt
    obtain ⟨t, ht, hin⟩ := no_code hW (hA.gt.mp hlt)
    exact hbi.mp e t ht hin
  generalize (fr (wtL (lens W))).shown = sh at hr
  have h0 := ix_fr0 (wtL (lens W))
  have h1 := ix_fr1 (wtL (lens W))
  cases b with
  | true =>
    have hgt' : ¬ (((wtL (lens W)).2 : Int) < ((wtL (lens W)).1 : Int)) := by have := hgt rfl; omega
    simp [gL, hw, hn, hr, hb, h0, h1, hgt']
  | false =>
    simp [gL, hw, hn, hr, hb]
end P50
end

section
set_option Elab.async false
set_option linter.all false
set_option maxRecDepth 1000000
set_option maxHeartbeats 4000000
/-! P50I: the law's turn, prefix lists and full ones. -/
namespace P50
open PySem (PyData Str)
open PK L50

def preB (W : List (List Int)) : Bool := !W.any fun two => W.any fun one => !decide (one = two) && beg one two
theorem preB_eq (W : List (List Int)) : preB W = decide (FT W = []) := by
  have key : (W.any fun two => W.any fun one => !decide (one = two) && beg one two) = true ↔ ¬ FT W = [] := by
    rw [ft_nil, List.any_eq_true]
    constructor
    · rintro ⟨two, h2, h⟩ hno
      obtain ⟨one, h1, h⟩ := List.any_eq_true.mp h
      rw [Bool.and_eq_true] at h
      have hne : one ≠ two := by simpa using h.1
      rw [hno one h1 two h2 hne] at h
      cases h.2
    · intro h
      refine Classical.byContradiction fun hn => h fun one h1 two h2 hne => ?_
      cases hb : beg one two with
      | false => rfl
      | true => exact absurd ⟨two, h2, List.any_eq_true.mpr ⟨one, h1, by simp [hne, hb]⟩⟩ hn
  unfold preB
  by_cases hF : FT W = []
  · rw [decide_eq_true hF]
    cases hq : (W.any fun two => W.any fun one => !decide (one = two) && beg one two) with
    | false => rfl
    | true => exact absurd hF (key.mp hq)
  · rw [decide_eq_false hF, key.mpr hF]
    rfl
theorem x_prefix (sc d : PyData) (W : List (List Int)) (hW : Lw W) (s2 s4 s6 s9 s10 s12 s13 s14 : Slot) (f6 : Free s6) :
    exS (pg.calls 39) (.asg 6 false (.nt (.bi .any (.cons (.comp (.bi .any (.cons (.comp (.and (.cons (.cmp .ne (.var 7) (.var 8)) (.cons (.call 26 (.cons (.var 7) (.cons (.var 8) .nil))) .nil))) (.one 7) (.of (.var 3)) .none [7]) .nil)) (.one 8) (.of (.var 3)) .none [8]) .nil)))) (gL sc d s2 (.va (wds W)) s4 s6 s9 s10 s12 s13 s14) = .nx (gL sc d s2 (.va (wds W)) s4 (.va (.bool (preB W))) s9 s10 s12 s13 s14) := by
  have hl := hW.l4
  have h1 : ∀ two : List Int, evE (pg.calls 39) (.comp (.and (.cons (.cmp .ne (.var 7) (.var 8)) (.cons (.call 26 (.cons (.var 7) (.cons (.var 8) .nil))) .nil))) (.one 7) (.of (.var 3)) .none [7]) [.va sc, .mu .ow d, s2, .va (wds W), s4, .un, s6, .un, .va (wd two), s9, s10, .un, s12, s13, s14, .un, .un, .un] =
      .ok (.nw (.list (W.map fun one => .bool (!decide (one = two) && beg one two))), [.va sc, .mu .ow d, s2, .va (wds W), s4, .un, s6, .un, .va (wd two), s9, s10, .un, s12, s13, s14, .un, .un, .un]) := fun two => by
    rw [ev_comp, compF_map wd (fun one => some (.bool (!decide (one = two) && beg one two))) W, filterMap_some]
    · simp
    · intro one _
      refine ⟨[.va sc, .mu .ow d, s2, .va (wds W), s4, .un, s6, .va (wd one), .va (wd two), s9, s10, .un, s12, s13, s14, .un, .un, .un], ?_, rfl⟩
      by_cases e : one = two
      · subst e; simp [turnF, wipe]
      · simp [turnF, wipe, e]
    · exact le_line (by omega)
  have h2 : evE (pg.calls 39) (.comp (.bi .any (.cons (.comp (.and (.cons (.cmp .ne (.var 7) (.var 8)) (.cons (.call 26 (.cons (.var 7) (.cons (.var 8) .nil))) .nil))) (.one 7) (.of (.var 3)) .none [7]) .nil)) (.one 8) (.of (.var 3)) .none [8]) (gL sc d s2 (.va (wds W)) s4 s6 s9 s10 s12 s13 s14) =
      .ok (.nw (.list (W.map fun two => .bool (W.any fun one => !decide (one = two) && beg one two))), gL sc d s2 (.va (wds W)) s4 s6 s9 s10 s12 s13 s14) := by
    rw [ev_comp, compF_map wd (fun two => some (.bool (W.any fun one => !decide (one = two) && beg one two))) W, filterMap_some]
    · simp [gL]
    · intro two _
      refine ⟨[.va sc, .mu .ow d, s2, .va (wds W), s4, .un, s6, .un, .va (wd two), s9, s10, .un, s12, s13, s14, .un, .un, .un], ?_, rfl⟩
      have hc := h1 two
      have hz := any_mapB (fun one => !decide (one = two) && beg one two) W
      generalize W.map (fun one => PyData.bool (!decide (one = two) && beg one two)) = q at hc hz
      simp [gL, turnF, wipe, hc, hz, -ev_comp]
    · exact le_line (by omega)
  have hz := any_mapB (fun two => W.any fun one => !decide (one = two) && beg one two) W
  have e : preB W = !W.any fun two => W.any fun one => !decide (one = two) && beg one two := rfl
  rw [e]
  generalize W.map (fun two => PyData.bool (W.any fun one => !decide (one = two) && beg one two)) = q at h2 hz
  simp only [gL] at h2 ⊢
  simp [h2, hz, f6, -ev_comp]
def fulB (W : List (List Int)) : Bool := preB W && (aw 3).all fun a => W.any fun w => beg w a
theorem fulB_eq {W : List (List Int)} (h : Lw W) : fulB W = (decide (FT W = []) && decide (wt (lens W) = (1, 1))) := by
  unfold fulB
  rw [preB_eq]
  by_cases hF : FT W = []
  · have hl := lw_lens h
    have hA := wA hl.1 hl.2
    rw [decide_eq_true hF, Bool.true_and, Bool.true_and, Bool.eq_iff_iff, decide_eq_true_iff, hA.one, full_iff h hF, List.all_eq_true]
  · rw [decide_eq_false hF]; rfl
theorem x_full (sc d : PyData) (W : List (List Int)) (hW : Lw W) (s2 s4 s9 s10 s12 s13 s14 : Slot) (f9 : Free s9) :
    exS (pg.calls 39) (.asg 9 false (.and (.cons (.var 6) (.cons (.bi .all (.cons (.comp (.bi .any (.cons (.comp (.call 26 (.cons (.var 7) (.cons (.var 5) .nil))) (.one 7) (.of (.var 3)) .none [7]) .nil)) (.one 5) (.of (.call 29 (.cons (.lit (.int 3)) .nil))) .none [5]) .nil)) .nil)))) (gL sc d s2 (.va (wds W)) s4 (.va (.bool (preB W))) s9 s10 s12 s13 s14) = .nx (gL sc d s2 (.va (wds W)) s4 (.va (.bool (preB W))) (.va (.bool (fulB W))) s10 s12 s13 s14) := by
  have hl := hW.l4
  have h1 : ∀ a : List Int, evE (pg.calls 39) (.comp (.call 26 (.cons (.var 7) (.cons (.var 5) .nil))) (.one 7) (.of (.var 3)) .none [7]) [.va sc, .mu .ow d, s2, .va (wds W), s4, .va (wd a), .va (.bool (preB W)), .un, .un, s9, s10, .un, s12, s13, s14, .un, .un, .un] =
      .ok (.nw (.list (W.map fun w => .bool (beg w a))), [.va sc, .mu .ow d, s2, .va (wds W), s4, .va (wd a), .va (.bool (preB W)), .un, .un, s9, s10, .un, s12, s13, s14, .un, .un, .un]) := fun a => by
    rw [ev_comp, compF_map wd (fun w => some (.bool (beg w a))) W, filterMap_some]
    · simp
    · intro w _
      exact ⟨[.va sc, .mu .ow d, s2, .va (wds W), s4, .va (wd a), .va (.bool (preB W)), .va (wd w), .un, s9, s10, .un, s12, s13, s14, .un, .un, .un], by simp [turnF, wipe], rfl⟩
    · exact le_line (by omega)
  have hal : (aw 3).length = 27 := aw_count 3
  have ha := c_all39
  have hin : noList (wlist (aw 3)) = false := rfl
  have h2 : evE (pg.calls 39) (.comp (.bi .any (.cons (.comp (.call 26 (.cons (.var 7) (.cons (.var 5) .nil))) (.one 7) (.of (.var 3)) .none [7]) .nil)) (.one 5) (.of (.call 29 (.cons (.lit (.int 3)) .nil))) .none [5]) (gL sc d s2 (.va (wds W)) s4 (.va (.bool (preB W))) s9 s10 s12 s13 s14) =
      .ok (.nw (.list ((aw 3).map fun a => .bool (W.any fun w => beg w a))), gL sc d s2 (.va (wds W)) s4 (.va (.bool (preB W))) s9 s10 s12 s13 s14) := by
    rw [ev_comp, compF_map wd (fun a => some (.bool (W.any fun w => beg w a))) (aw 3), filterMap_some]
    · generalize aw 3 = A at *
      simp [gL, ha, hin]
    · intro a _
      refine ⟨[.va sc, .mu .ow d, s2, .va (wds W), s4, .va (wd a), .va (.bool (preB W)), .un, .un, s9, s10, .un, s12, s13, s14, .un, .un, .un], ?_, rfl⟩
      have hc := h1 a
      have hz := any_mapB (fun w => beg w a) W
      generalize W.map (fun w => PyData.bool (beg w a)) = q at hc hz
      simp [gL, turnF, wipe, hc, hz, -ev_comp]
    · exact le_line (by omega)
  have hz := all_map (fun a => W.any fun w => beg w a) (aw 3)
  have e : fulB W = (preB W && (aw 3).all fun a => W.any fun w => beg w a) := rfl
  rw [e]
  generalize (aw 3).map (fun a => PyData.bool (W.any fun w => beg w a)) = q at h2 hz
  generalize ((aw 3).all fun a => W.any fun w => beg w a) = z at hz ⊢
  generalize preB W = p at *
  simp only [gL] at h2 ⊢
  cases p <;> simp [h2, hz, f9, -ev_comp]
theorem c_says (n : Nat) (a b : Bool) : callAt pg (n + 1) 24 [.bool a, .bool b] = .ok false (.bool (a == b)) none := by
  rw [call_eq (d := f24) rfl rfl]
  cases a <;> cases b <;> rfl
theorem x_says (sc d : PyData) (W : List (List Int)) (hW : Lw W) (s2 s4 s10 s12 s13 s14 : Slot) :
    exS (pg.calls 39) (.ite (.or (.cons (.nt (.call 24 (.cons (.call 15 (.cons (.var 3) .nil)) (.cons (.var 6) .nil)))) (.cons (.nt (.call 24 (.cons (.call 19 (.cons (.var 3) .nil)) (.cons (.var 9) .nil)))) .nil))) (.cons (.ret (.lit (.bool false))) .nil) .nil) (gL sc d s2 (.va (wds W)) s4 (.va (.bool (preB W))) (.va (.bool (fulB W))) s10 s12 s13 s14) = .nx (gL sc d s2 (.va (wds W)) s4 (.va (.bool (preB W))) (.va (.bool (fulB W))) s10 s12 s13 s14) := by
  have h1 := c_prefix 34 W hW.ls
  have h2 := c_full 32 W hW.ls (fun w hw => by have := (hW.gw w hw).1; omega)
  rw [← fulB_eq hW] at h2
  rw [← preB_eq] at h1
  generalize preB W = p at *
  generalize fulB W = q at *
  have c1 := c_says 38 p p
  have c2 := c_says 38 q q
  simp [gL, h1, h2, c1, c2]
end P50
end

section
set_option Elab.async false
set_option linter.all false
set_option maxRecDepth 1000000
set_option maxHeartbeats 4000000
/-! P50J: the law's turn, lengths and plain lists. -/
namespace P50
open PySem (PyData Str)
open PK L50

theorem aw_sg : ∀ {k : Nat} {w : List Int}, w ∈ aw k → ∀ i ∈ w, 0 ≤ i ∧ i < 3
  | 0, w, h, i, hi => by simp only [aw, List.mem_singleton] at h; rw [h] at hi; cases hi
  | k + 1, w, h, i, hi => by
    obtain ⟨v, hv, hw⟩ := List.mem_flatMap.mp h
    have := aw_sg hv
    simp only [List.mem_cons, List.not_mem_nil, or_false] at hw
    rcases hw with rfl | rfl | rfl <;> rcases List.mem_append.mp hi with hi | hi
    all_goals first
      | exact this i hi
      | (rw [List.mem_singleton] at hi; subst hi; decide)
theorem plainL_sg : ∀ {a : List Nat} {F G : List (List Int)}, plainL F a = some G → (∀ w ∈ F, ∀ i ∈ w, 0 ≤ i ∧ i < 3) → ∀ w ∈ G, ∀ i ∈ w, 0 ≤ i ∧ i < 3
  | [], F, G, h, hF => by cases h; exact hF
  | k :: a, F, G, h, hF => by
    rw [plainL] at h
    cases hf : free F k with
    | nil => rw [hf] at h; cases h
    | cons w ws =>
      rw [hf] at h
      refine plainL_sg h fun x hx => ?_
      rcases List.mem_append.mp hx with hx | hx
      · exact hF x hx
      · rw [List.mem_singleton] at hx
        subst hx
        have : x ∈ free F k := by rw [hf]; exact List.mem_cons_self
        exact aw_sg (List.mem_filter.mp this).1
theorem lns_of {ys : List PyData} (h : ∀ y ∈ ys, ∃ k : Nat, y = .int (k : Int) ∧ 1 ≤ k ∧ k ≤ 4) : ∃ l : List Nat, ys = lns l ∧ ∀ k ∈ l, 1 ≤ k ∧ k ≤ 4 := by
  induction ys with
  | nil => exact ⟨[], rfl, fun i hi => nomatch hi⟩
  | cons y ys ih =>
    obtain ⟨i, rfl, h0⟩ := h y List.mem_cons_self
    obtain ⟨l, rfl, hl⟩ := ih fun z hz => h z (List.mem_cons_of_mem _ hz)
    exact ⟨i :: l, rfl, fun j hj => (List.mem_cons.mp hj).elim (fun e => e ▸ h0) (hl j)⟩
def leN (a b : Nat) : Bool := decide (a ≤ b)
theorem sorted_lns (l : List Nat) : sortedD (lns l) = some (lns (l.mergeSort leN)) := by
  unfold sortedD
  have h1 : alikeAll2 (lns l) = true := by
    refine List.all_eq_true.mpr fun a ha => List.all_eq_true.mpr fun b hb => ?_
    obtain ⟨i, _, rfl⟩ := List.mem_map.mp ha
    obtain ⟨j, _, rfl⟩ := List.mem_map.mp hb
    rfl
  have h2 : (lns l).all shap = true := by
    simp only [lns, List.all_map, List.all_eq_true]
    intro a _
    rfl
  have h3 : (lns l).all notTupN = true := by
    simp only [lns, List.all_map, List.all_eq_true]
    intro a _
    rfl
  rw [h1, h2, h3]
  simp only [Bool.true_and, Bool.or_true, if_true, Option.some.injEq]
  exact (List.map_mergeSort (r := leN) (s := fun a b => !PySem.W.dataLt b a) (f := fun (k : Nat) => PyData.int (k : Int)) (fun a _ b _ => by
    show leN a b = !PySem.W.dataLt (.int (b : Int)) (.int (a : Int))
    rw [lt_int]
    simp only [leN]
    by_cases h : a ≤ b
    · have : ¬ ((b : Int) < a) := by omega
      simp [h]
    · have : (b : Int) < a := by omega
      simp [h]
      omega)).symm
theorem sorted_pw (l : List Nat) : (l.mergeSort leN).Pairwise (· ≤ ·) := by
  have := List.pairwise_mergeSort (le := leN) (fun a b c h1 h2 => by simp only [leN, decide_eq_true_eq] at *; omega) (fun a b => by simp only [leN, Bool.or_eq_true, decide_eq_true_eq]; omega) l
  exact this.imp fun h => of_decide_eq_true h
theorem x_lens (sc d : PyData) (s2 s3 s4 s6 s9 s10 s12 s13 s14 : Slot) (hd : Dr d) (f10 : Free s10) : ∃ d' L, Dr d' ∧ Ln L ∧
    exS (pg.calls 39) (.asg 10 false (.bi .tuple (.cons (.bi .sorted (.cons (.comp (.bop .add (.lit (.int 1)) (.cio 23 1 (.cons (.lit (.int 4)) .nil))) (.one 11) (.rng (.cons (.bop .add (.lit (.int 1)) (.cio 23 1 (.cons (.lit (.int 8)) .nil))) .nil)) .none [11]) .nil)) .nil))) (gL sc d s2 s3 s4 s6 s9 s10 s12 s13 s14) = .nx (gL sc d' s2 s3 s4 s6 s9 (.va (.tuple (lns L))) s12 s13 s14) := by
  obtain ⟨r, d1, e1, hd1, r0, r1⟩ := c_take 38 d 8 hd (by decide) (by decide)
  obtain ⟨k, rfl⟩ := Int.eq_ofNat_of_zero_le r0
  have er : rng [.int (1 + (k : Int))] = some (0, k + 1) := by
    have := rng1 (j := k + 1) (by omega)
    rwa [Int.natCast_add, Int.natCast_one, Int.add_comm] at this
  have hi : evI (pg.calls 39) (.rng (.cons (.bop .add (.lit (.int 1)) (.cio 23 1 (.cons (.lit (.int 8)) .nil))) .nil)) (gL sc d s2 s3 s4 s6 s9 s10 s12 s13 s14) = .ok ⟨rangeL 0 (k + 1), gL sc d1 s2 s3 s4 s6 s9 s10 s12 s13 s14, []⟩ := by
    simp [gL, callIO, e1, er]
  obtain ⟨ys, g', ec, lc, qc, d2, t, hd2, ft, rfl⟩ := compL_io (own := [11]) (turn := turnF (.one 11) (evT (pg.calls 39) .none) (evE (pg.calls 39) (.bop .add (.lit (.int 1)) (.cio 23 1 (.cons (.lit (.int 4)) .nil)))))
    (fun g => ∃ d t, Dr d ∧ Free t ∧ g = [.va sc, .mu .ow d, s2, s3, s4, .un, s6, .un, .un, s9, s10, t, s12, s13, s14, .un, .un, .un]) (fun y => ∃ k : Nat, y = .int (k : Int) ∧ 1 ≤ k ∧ k ≤ 4) (rangeL 0 (k + 1)) [] (gL sc d1 s2 s3 s4 s6 s9 s10 s12 s13 s14) ⟨d1, .un, hd1, trivial, rfl⟩
    (fun g x ⟨d, t, hd, ft, hg⟩ => by
      subst hg
      obtain ⟨r, d', e, hd', h0, h3⟩ := c_take 38 d 4 hd (by omega) (by omega)
      obtain ⟨j, rfl⟩ := Int.eq_ofNat_of_zero_le h0
      exact ⟨.int (1 + (j : Int)), [.va sc, .mu .ow d', s2, s3, s4, .un, s6, .un, .un, s9, s10, .va x, s12, s13, s14, .un, .un, .un], by simp [turnF, wipe, callIO, e], ⟨j + 1, by congr 1; omega, by omega, by omega⟩, d', _, hd', free_va _, rfl⟩) (by simp [rangeL]; exact le_line (by omega))
  obtain ⟨l, rfl, hl⟩ := lns_of qc
  have hlen : l.length = k + 1 := by simpa [rangeL, lns] using lc
  have hc : evE (pg.calls 39) (.comp (.bop .add (.lit (.int 1)) (.cio 23 1 (.cons (.lit (.int 4)) .nil))) (.one 11) (.rng (.cons (.bop .add (.lit (.int 1)) (.cio 23 1 (.cons (.lit (.int 8)) .nil))) .nil)) .none [11]) (gL sc d s2 s3 s4 s6 s9 s10 s12 s13 s14) = .ok (.nw (.list (lns l)), gL sc d2 s2 s3 s4 s6 s9 s10 s12 s13 s14) := by
    rw [ev_comp]
    unfold compF
    rw [hi, Res.bind_ok]
    simp only [ec, Res.quiet_ok, Res.bind_ok, List.nil_append]
    rfl
  have hs : bi .sorted [.list (lns l)] = some (true, .list (lns (l.mergeSort leN))) := by
    show (sortedD (lns l)).map _ = _
    rw [sorted_lns]
    rfl
  refine ⟨d2, l.mergeSort leN, hd2, ⟨?_, ?_, fun j hj => hl j ((List.mergeSort_perm l leN).mem_iff.mp hj), sorted_pw l⟩, ?_⟩
  · rw [(List.mergeSort_perm l leN).length_eq]; omega
  · rw [(List.mergeSort_perm l leN).length_eq]; omega
  · simp only [gL] at hc ⊢
    generalize lns l = q at *
    simp [hc, hs, f10, -ev_comp]
def made (L : List Nat) : PyData := match plainL [] L with | none => .str "<weight>" | some F => wds (F.mergeSort leW)
theorem x_plain (sc d : PyData) (L : List Nat) (hL : Ln L) (s2 s3 s4 s6 s9 s12 s13 s14 : Slot) (f12 : Free s12) (f13 : Free s13) (f14 : Free s14) : ∃ t12 t13 t14, Free t12 ∧ Free t13 ∧ Free t14 ∧
    exSs (pg.calls 39) (.cons (.unp [12, 13] (.call 28 (.cons (.var 10) .nil))) (.cons (.asg 14 false (.call 30 (.cons (.var 10) .nil))) (.cons (.ite (.or (.cons (.cmp .ne (.cmp .eq (.var 14) (.lit (.str "<weight>"))) (.cmp .gt (.var 12) (.var 13))) (.cons (.cmp .ne (.bi .repr (.cons (.call 31 (.cons (.lit (.int 2)) (.cons (.var 10) .nil))) .nil)) (.bi .repr (.cons (.var 14) .nil))) .nil))) (.cons (.ret (.lit (.bool false))) .nil) .nil) .nil))) (gL sc d s2 s3 s4 s6 s9 (.va (.tuple (lns L))) s12 s13 s14) = .nx (gL sc d s2 s3 s4 s6 s9 (.va (.tuple (lns L))) t12 t13 t14) := by
  have hB := wB hL.l8 hL.k hL.s
  have hp := plain_iff hL.l8 hL.k hL.s
  rw [← hB.gt] at hp
  have hw : callAt pg 39 28 [.tuple (lns L)] = .ok false (.tuple [.int ((wtL L).1 : Nat), .int ((wtL L).2 : Nat)]) none := c_lweight 38 L (by have := hL.l8; omega) (fun k hk => by have := hL.k k hk; omega) _ (.inr rfl)
  have h1 : callAt pg 39 30 [.tuple (lns L)] = .ok false (made L) none := c_lplain L hL.l8 hL.k
  have h2 : callAt pg 39 31 [.int 2, .tuple (lns L)] = .ok false (made L) none := c_told2 L hL
  have hn : noList (made L) = true := by
    unfold made
    cases plainL [] L <;> simp
  have he : cop .eq (made L) (.str "<weight>") = some (decide ((wtL L).2 < (wtL L).1)) := by
    unfold made
    cases hF : plainL [] L with
    | none =>
      have := hp.mp hF
      simp [this]
    | some F =>
      have : ¬ ((wtL L).2 < (wtL L).1) := fun q => by rw [hp.mpr q] at hF; cases hF
      rw [decide_eq_false this]
      have e : cop .eq (wds (F.mergeSort leW)) (.str "<weight>") = if shap (wds (F.mergeSort leW)) && shap (.str "<weight>") then some (PyData.eqv (wds (F.mergeSort leW)) (.str "<weight>")) else none := rfl
      show cop .eq (wds (F.mergeSort leW)) (.str "<weight>") = _
      rw [e, shap_wds]
      rfl
  have hr : bi .repr [made L] = some (false, .str (made L).shown) := by
    unfold made
    cases hF : plainL [] L with
    | none => exact repr_str (by decide +kernel) (by decide +kernel)
    | some F =>
      have hFo := plainL_ok hF hL.k (fun w hw => nomatch hw)
      have hsg := plainL_sg hF (fun w hw => nomatch hw)
      refine repr_wds (by rw [sorted_len]; have := hL.l8; have := hFo.1; simp only [List.length_nil] at this; omega) fun w hw => ?_
      have hw := (sorted_mem F w).mp hw
      refine ⟨by have := (hFo.2 w hw).2; omega, fun i hi => ?_⟩
      have := hsg w hw i hi
      show i.natAbs < 10 ^ 7
      omega
  have hcast : decide (((wtL L).2 : Int) < ((wtL L).1 : Int)) = decide ((wtL L).2 < (wtL L).1) := by
    rw [decide_eq_decide]; omega
  refine ⟨.va (.int ((wtL L).1 : Nat)), .va (.int ((wtL L).2 : Nat)), .va (made L), trivial, trivial, trivial, ?_⟩
  have hu : exS (pg.calls 39) (.unp [12, 13] (.call 28 (.cons (.var 10) .nil))) (gL sc d s2 s3 s4 s6 s9 (.va (.tuple (lns L))) s12 s13 s14) = .nx (gL sc d s2 s3 s4 s6 s9 (.va (.tuple (lns L))) (.va (.int ((wtL L).1 : Nat))) (.va (.int ((wtL L).2 : Nat))) s14) := by
    have e : exS (pg.calls 39) (.unp [12, 13] (.call 28 (.cons (.var 10) .nil))) (gL sc d s2 s3 s4 s6 s9 (.va (.tuple (lns L))) s12 s13 s14) = (evE (pg.calls 39) (.call 28 (.cons (.var 10) .nil)) (gL sc d s2 s3 s4 s6 s9 (.va (.tuple (lns L))) s12 s13 s14)).out fun p => match p.1 with
      | .val (.tuple ds) => (Res.of (putAll p.2 [12, 13] ds)).out .nx
      | _ => .bad := rfl
    rw [e]
    simp [gL, hw, f12, f13]
  rw [ex_cons, hu, Out.seq_nx]
  generalize (made L).shown = z at hr
  generalize made L = m at *
  generalize lns L = q at *
  have hcb : ∀ b : Bool, cop .ne (.bool b) (.bool b) = some false := fun b => by cases b <;> rfl
  have hcb' := hcb (decide ((wtL L).2 < (wtL L).1))
  simp only [gL]
  simp [h1, hn, f14, he, hcast, hcb', h2, hr]
end P50
end

section
set_option Elab.async false
set_option linter.all false
set_option maxRecDepth 1000000
set_option maxHeartbeats 4000000
/-! P50K: the law. -/
namespace P50
open PySem (PyData Str)
open PK L50

theorem x_turn (sc d : PyData) (x : PyData) (s2 s3 s4 s6 s9 s10 s12 s13 s14 : Slot) (hd : Dr d) (f2 : Free s2) (f3 : Free s3) (f4 : Free s4) (f6 : Free s6) (f9 : Free s9) (f10 : Free s10) (f12 : Free s12) (f13 : Free s13) (f14 : Free s14) :
    ∃ d' W L t2 t4 t6 t9 t12 t13 t14, Dr d' ∧ Lw W ∧ Ln L ∧ Free t2 ∧ Free t4 ∧ Free t6 ∧ Free t9 ∧ Free t12 ∧ Free t13 ∧ Free t14 ∧
    ((Res.of (bindT (gL sc d s2 s3 s4 s6 s9 s10 s12 s13 s14) (.one 2) x)).out fun g1 => exSs (pg.calls 39) l32_1 g1) = .nx (gL sc d' t2 (.va (wds W)) t4 t6 t9 (.va (.tuple (lns L))) t12 t13 t14) := by
  have hb : bindT (gL sc d s2 s3 s4 s6 s9 s10 s12 s13 s14) (.one 2) x = some (gL sc d (.va x) s3 s4 s6 s9 s10 s12 s13 s14) := by simp [gL, f2]
  obtain ⟨d1, W, hd1, hW, e1⟩ := x_words sc d (.va x) s3 s4 s6 s9 s10 s12 s13 s14 hd f3
  have e2 := x_due sc d1 W hW (.va x) s4 s6 s9 s10 s12 s13 s14 f4
  have e3 := x_weight sc d1 W hW (.va x) s6 s9 s10 s12 s13 s14
  have e4 := x_prefix sc d1 W hW (.va x) (.va (fr (wtL (lens W)))) s6 s9 s10 s12 s13 s14 f6
  have e5 := x_full sc d1 W hW (.va x) (.va (fr (wtL (lens W)))) s9 s10 s12 s13 s14 f9
  have e6 := x_says sc d1 W hW (.va x) (.va (fr (wtL (lens W)))) s10 s12 s13 s14
  obtain ⟨d2, L, hd2, hL, e7⟩ := x_lens sc d1 (.va x) (.va (wds W)) (.va (fr (wtL (lens W)))) (.va (.bool (preB W))) (.va (.bool (fulB W))) s10 s12 s13 s14 hd1 f10
  obtain ⟨t12, t13, t14, g12, g13, g14, e8⟩ := x_plain sc d2 L hL (.va x) (.va (wds W)) (.va (fr (wtL (lens W)))) (.va (.bool (preB W))) (.va (.bool (fulB W))) s12 s13 s14 f12 f13 f14
  refine ⟨d2, W, L, .va x, .va (fr (wtL (lens W))), .va (.bool (preB W)), .va (.bool (fulB W)), t12, t13, t14, hd2, hW, hL, free_va _, free_va _, free_va _, free_va _, g12, g13, g14, ?_⟩
  rw [hb, Res.of_some, Res.out_ok]
  unfold l32_1
  have e1' : ∀ ss : Ss, exSs (pg.calls 39) (.cons (.asg 3 false (.cio 25 1 .nil)) (.cons (.ite (.cmp .eq (.cio 23 1 (.cons (.lit (.int 3)) .nil)) (.lit (.int 0))) (.cons (.asg 3 false (.slc (.tup (.cons (.tup (.cons (.lit (.int 0)) .nil)) (.cons (.tup (.cons (.lit (.int 1)) .nil)) (.cons (.tup (.cons (.lit (.int 2)) (.cons (.lit (.int 0)) .nil))) (.cons (.tup (.cons (.lit (.int 2)) (.cons (.lit (.int 1)) .nil))) (.cons (.tup (.cons (.lit (.int 2)) (.cons (.lit (.int 2)) .nil))) .nil)))))) .none (.some (.bop .add (.lit (.int 4)) (.cio 23 1 (.cons (.lit (.int 2)) .nil)))))) .nil) .nil) ss)) (gL sc d (.va x) s3 s4 s6 s9 s10 s12 s13 s14) = exSs (pg.calls 39) ss (gL sc d1 (.va x) (.va (wds W)) s4 s6 s9 s10 s12 s13 s14) := fun ss => by
    rw [ex_cons] at e1 ⊢
    cases hq : exS (pg.calls 39) (.asg 3 false (.cio 25 1 .nil)) (gL sc d (.va x) s3 s4 s6 s9 s10 s12 s13 s14) with
    | nx g =>
      rw [hq, Out.seq_nx, ex_cons] at e1
      rw [Out.seq_nx, ex_cons]
      generalize exS (pg.calls 39) (.ite _ _ _) g = o at e1 ⊢
      cases o with
      | nx g2 =>
        rw [Out.seq_nx, ex_nil] at e1
        cases e1
        rfl
      | _ => cases e1
    | _ => rw [hq] at e1; cases e1
  rw [e1', ex_cons, e2, Out.seq_nx, ex_cons, e3, Out.seq_nx, ex_cons, e4, Out.seq_nx, ex_cons, e5, Out.seq_nx, ex_cons, e6, Out.seq_nx, ex_cons, e7, Out.seq_nx, e8]
theorem lists_eq : cop .eq (.list [.str "<malformed>", .str "<malformed>", .str "<malformed>"]) (.list [.str "<malformed>", .str "<malformed>", .str "<malformed>"]) = some true := by decide +kernel
theorem law_ok (ns : List Int) (h : ns.length ≤ 63) : callAt pg 40 32 [.list (ns.map .int)] = .ok false (.bool true) none := by
  rw [call_eq (d := f32) rfl rfl]
  obtain ⟨d0, ed, hd0⟩ := c_draw 38 ns h
  have h3 : rng [.int 3] = some (0, 3) := rng1 (j := 3) (by decide)
  obtain ⟨g', eg, d, s2, s3, s4, s6, s9, s10, s12, s13, s14, hd, f2, f3, f4, f6, f9, f10, f12, f13, f14, rfl, hlast⟩ := forL_inv (turn := fun g x => (Res.of (bindT g (.one 2) x)).out fun g1 => exSs (pg.calls 39) l32_1 g1)
    (fun i g => ∃ d s2 s3 s4 s6 s9 s10 s12 s13 s14, Dr d ∧ Free s2 ∧ Free s3 ∧ Free s4 ∧ Free s6 ∧ Free s9 ∧ Free s10 ∧ Free s12 ∧ Free s13 ∧ Free s14 ∧ g = gL (.list (ns.map .int)) d s2 s3 s4 s6 s9 s10 s12 s13 s14 ∧ (0 < i → ∃ W L, Lw W ∧ Ln L ∧ s3 = .va (wds W) ∧ s10 = .va (.tuple (lns L))))
    (rangeL 0 3) 0 (gL (.list (ns.map .int)) d0 .un .un .un .un .un .un .un .un .un)
    (fun i x g hx ⟨d, s2, s3, s4, s6, s9, s10, s12, s13, s14, hd, f2, f3, f4, f6, f9, f10, f12, f13, f14, hg, _⟩ => by
      subst hg
      obtain ⟨d', W, L, t2, t4, t6, t9, t12, t13, t14, hd', hW, hL, g2, g4, g6, g9, g12, g13, g14, e⟩ := x_turn (.list (ns.map .int)) d x s2 s3 s4 s6 s9 s10 s12 s13 s14 hd f2 f3 f4 f6 f9 f10 f12 f13 f14
      exact ⟨_, e, d', t2, _, t4, t6, t9, _, t12, t13, t14, hd', g2, free_va _, g4, g6, g9, free_va _, g12, g13, g14, rfl, fun _ => ⟨W, L, hW, hL, rfl, rfl⟩⟩)
    ⟨d0, .un, .un, .un, .un, .un, .un, .un, .un, .un, hd0, trivial, trivial, trivial, trivial, trivial, trivial, trivial, trivial, trivial, rfl, fun h => absurd h (by decide)⟩
  have hlr : (rangeL 0 3).length = 3 := by simp [rangeL]
  rw [hlr] at hlast
  obtain ⟨W, L, hW, hL, rfl, rfl⟩ := hlast (by decide)
  have hfr : exS (pg.calls 39) (.fr (.one 2) (.rng (.cons (.lit (.int 3)) .nil)) l32_1) (gL (.list (ns.map .int)) d0 .un .un .un .un .un .un .un .un .un) = .nx (gL (.list (ns.map .int)) d s2 (.va (wds W)) s4 s6 s9 (.va (.tuple (lns L))) s12 s13 s14) := by
    rw [ex_fr, fr_nl (xs := rangeL 0 3) (g1 := gL (.list (ns.map .int)) d0 .un .un .un .un .un .un .un .un .un)]
    · exact eg
    · simp [h3, gL]
  obtain ⟨odd, d2, e2, hd2, hodd⟩ := c_lodd 37 W hW d hd
  obtain ⟨r, d3, e3, hd3, r0, r1⟩ := c_take 38 d2 10 hd2 (by decide) (by decide)
  obtain ⟨k, rfl⟩ := Int.eq_ofNat_of_zero_le r0
  have hk : k < (BL L).length := by show k < 10; omega
  have hix := ix_nat (List.getElem?_eq_getElem hk)
  have hbad := c_toldB L _ (List.getElem_mem hk)
  generalize (BL L)[k] = bad at hix hbad
  have c0 := c_told0 33 odd hodd
  have c1 := c_told1 32 odd hodd
  have hc : ∀ s16, evE (pg.calls 39) (.comp (.call 31 (.cons (.var 17) (.cons (.var 15) .nil))) (.one 17) (.of (.tup (.cons (.lit (.int 0)) (.cons (.lit (.int 1)) .nil)))) .none [17]) [.va (.list (ns.map .int)), .mu .ow d3, s2, .va (wds W), s4, .un, s6, .un, .un, s9, .va (.tuple (lns L)), .un, s12, s13, s14, .va odd, s16, .un] =
      .ok (.nw (.list [.str "<malformed>", .str "<malformed>"]), [.va (.list (ns.map .int)), .mu .ow d3, s2, .va (wds W), s4, .un, s6, .un, .un, s9, .va (.tuple (lns L)), .un, s12, s13, s14, .va odd, s16, .un]) := fun s16 => by
    rw [ev_comp, compF_pure (fun _ => some (.str "<malformed>")) (xs := [.int 0, .int 1])]
    · rfl
    · simp
    · intro x hx
      refine ⟨[.va (.list (ns.map .int)), .mu .ow d3, s2, .va (wds W), s4, .un, s6, .un, .un, s9, .va (.tuple (lns L)), .un, s12, s13, s14, .va odd, s16, .va x], ?_, rfl⟩
      simp only [List.mem_cons, List.not_mem_nil, or_false] at hx
      rcases hx with rfl | rfl
      · simp [turnF, wipe, c0]
      · simp [turnF, wipe, c1]
    · decide
  have hb9 : bop .mul (.tuple [.int 1]) (.int 9) = some (false, .tuple [.int 1, .int 1, .int 1, .int 1, .int 1, .int 1, .int 1, .int 1, .int 1]) := rfl
  have hlst : bi .list [.tuple (lns L)] = some (true, .list (lns L)) := rfl
  have hcat : bop .add (.list [.str "<malformed>", .str "<malformed>"]) (.list [.str "<malformed>"]) = some (true, .list [.str "<malformed>", .str "<malformed>", .str "<malformed>"]) := rfl
  have hrep : ∀ g, repF (evE (pg.calls 39) (.lst (.cons (.lit (.str "<malformed>")) .nil))) (evE (pg.calls 39) (.lit (.int 3))) g = .ok (.nw (.list [.str "<malformed>", .str "<malformed>", .str "<malformed>"]), g) := fun g => rfl
  have ed' : callAt pg 39 22 [.list (ns.map .int)] = .ok true d0 none := ed
  have hin : inner true d0 = inner true d0 := rfl
  have hx1 : exS (pg.calls 39) (.asg 1 true (.call 22 (.cons (.var 0) .nil))) (startE f32 [.list (ns.map .int)]) = .nx (gL (.list (ns.map .int)) d0 .un .un .un .un .un .un .un .un .un) := by
    obtain ⟨cells, p, c, s, rfl, _, _⟩ := hd0
    simp [gL, f32, startE, ed', drw]
  have hbody : f32.body = b32 := rfl
  rw [hbody]
  unfold b32
  rw [ex_cons, hx1, Out.seq_nx, ex_cons, hfr, Out.seq_nx]
  have hix' : ix (.list [.none, .tuple [], .int 5, .list (lns L), .tuple [.int 2, .int 1], .tuple [.int 0, .int 1], .tuple [.int 7], .tuple [.int 1, .int 1, .int 1, .int 1, .int 1, .int 1, .int 1, .int 1, .int 1], .tuple [.bool true], .tuple [.str "1"]]) (.int (k : Int)) = some bad := hix
  generalize lns L = q at *
  generalize hld : PyData.list (ns.map PyData.int) = sc at *
  simp [gL, callIO, e2, e3, hb9, hlst, hix', hc, hbad, hcat, hrep, lists_eq, endD, f32, -ev_comp, -lst_tup]
end P50
end

section
set_option Elab.async false
set_option linter.all false
set_option maxRecDepth 1000000
set_option maxHeartbeats 0
namespace L50
open PySem PySem.Spec PyProof.Rows L2 PK
open PySem (PyData)
theorem chk : chkAll cfg cfg.dis pg.defs = true := by decide +kernel
theorem q0 {K : PySem.W.Frag} {fa : Addr} {fd : FuncData} (F : Fun K d0.name d0.name d0.st fa fd) : Binds K fd d0.ps [] := F.binds fun _ _ _ _ _ _ us hl => match us, hl with | [_], _ => rfl
theorem q1 {K : PySem.W.Frag} {fa : Addr} {fd : FuncData} (F : Fun K d1.name d1.name d1.st fa fd) : Binds K fd d1.ps [] := F.binds fun _ _ _ _ _ _ us hl => match us, hl with | [_, _], _ => rfl
theorem q2 {K : PySem.W.Frag} {fa : Addr} {fd : FuncData} (F : Fun K d2.name d2.name d2.st fa fd) : Binds K fd d2.ps [] := F.binds fun _ _ _ _ _ _ us hl => match us, hl with | [_, _], _ => rfl
theorem q3 {K : PySem.W.Frag} {fa : Addr} {fd : FuncData} (F : Fun K d3.name d3.name d3.st fa fd) : Binds K fd d3.ps [] := F.binds fun _ _ _ _ _ _ us hl => match us, hl with | [_, _], _ => rfl
theorem q4 {K : PySem.W.Frag} {fa : Addr} {fd : FuncData} (F : Fun K d4.name d4.name d4.st fa fd) : Binds K fd d4.ps [] := F.binds fun _ _ _ _ _ _ us hl => match us, hl with | [_, _], _ => rfl
theorem q5 {K : PySem.W.Frag} {fa : Addr} {fd : FuncData} (F : Fun K d5.name d5.name d5.st fa fd) : Binds K fd d5.ps [] := F.binds fun _ _ _ _ _ _ us hl => match us, hl with | [_, _], _ => rfl
theorem q6 {K : PySem.W.Frag} {fa : Addr} {fd : FuncData} (F : Fun K d6.name d6.name d6.st fa fd) : Binds K fd d6.ps [] := F.binds fun _ _ _ _ _ _ us hl => match us, hl with | [_], _ => rfl
theorem q7 {K : PySem.W.Frag} {fa : Addr} {fd : FuncData} (F : Fun K d7.name d7.name d7.st fa fd) : Binds K fd d7.ps [] := F.binds fun _ _ _ _ _ _ us hl => match us, hl with | [_], _ => rfl
theorem q8 {K : PySem.W.Frag} {fa : Addr} {fd : FuncData} (F : Fun K d8.name d8.name d8.st fa fd) : Binds K fd d8.ps [] := F.binds fun _ _ _ _ _ _ us hl => match us, hl with | [_, _], _ => rfl
theorem q9 {K : PySem.W.Frag} {fa : Addr} {fd : FuncData} (F : Fun K d9.name d9.name d9.st fa fd) : Binds K fd d9.ps [] := F.binds fun _ _ _ _ _ _ us hl => match us, hl with | [_, _], _ => rfl
theorem q10 {K : PySem.W.Frag} {fa : Addr} {fd : FuncData} (F : Fun K d10.name d10.name d10.st fa fd) : Binds K fd d10.ps [] := F.binds fun _ _ _ _ _ _ us hl => match us, hl with | [_, _], _ => rfl
theorem q11 {K : PySem.W.Frag} {fa : Addr} {fd : FuncData} (F : Fun K d11.name d11.name d11.st fa fd) : Binds K fd d11.ps [] := F.binds fun _ _ _ _ _ _ us hl => match us, hl with | [_], _ => rfl
theorem q12 {K : PySem.W.Frag} {fa : Addr} {fd : FuncData} (F : Fun K d12.name d12.name d12.st fa fd) : Binds K fd d12.ps [] := F.binds fun _ _ _ _ _ _ us hl => match us, hl with | [_], _ => rfl
theorem q13 {K : PySem.W.Frag} {fa : Addr} {fd : FuncData} (F : Fun K d13.name d13.name d13.st fa fd) : Binds K fd d13.ps [] := F.binds fun _ _ _ _ _ _ us hl => match us, hl with | [_], _ => rfl
theorem q14 {K : PySem.W.Frag} {fa : Addr} {fd : FuncData} (F : Fun K d14.name d14.name d14.st fa fd) : Binds K fd d14.ps [] := F.binds fun _ _ _ _ _ _ us hl => match us, hl with | [_], _ => rfl
theorem q15 {K : PySem.W.Frag} {fa : Addr} {fd : FuncData} (F : Fun K d15.name d15.name d15.st fa fd) : Binds K fd d15.ps [] := F.binds fun _ _ _ _ _ _ us hl => match us, hl with | [_], _ => rfl
theorem q16 {K : PySem.W.Frag} {fa : Addr} {fd : FuncData} (F : Fun K d16.name d16.name d16.st fa fd) : Binds K fd d16.ps [] := F.binds fun _ _ _ _ _ _ us hl => match us, hl with | [_], _ => rfl
theorem q17 {K : PySem.W.Frag} {fa : Addr} {fd : FuncData} (F : Fun K d17.name d17.name d17.st fa fd) : Binds K fd d17.ps [] := F.binds fun _ _ _ _ _ _ us hl => match us, hl with | [_], _ => rfl
theorem q18 {K : PySem.W.Frag} {fa : Addr} {fd : FuncData} (F : Fun K d18.name d18.name d18.st fa fd) : Binds K fd d18.ps [] := F.binds fun _ _ _ _ _ _ us hl => match us, hl with | [_], _ => rfl
theorem q19 {K : PySem.W.Frag} {fa : Addr} {fd : FuncData} (F : Fun K d19.name d19.name d19.st fa fd) : Binds K fd d19.ps [] := F.binds fun _ _ _ _ _ _ us hl => match us, hl with | [_], _ => rfl
theorem q20 {K : PySem.W.Frag} {fa : Addr} {fd : FuncData} (F : Fun K d20.name d20.name d20.st fa fd) : Binds K fd d20.ps [] := F.binds fun _ _ _ _ _ _ us hl => match us, hl with | [_], _ => rfl
theorem q21 {K : PySem.W.Frag} {fa : Addr} {fd : FuncData} (F : Fun K d21.name d21.name d21.st fa fd) : Binds K fd d21.ps [] := F.binds fun _ _ _ _ _ _ us hl => match us, hl with | [_], _ => rfl
theorem q22 {K : PySem.W.Frag} {fa : Addr} {fd : FuncData} (F : Fun K d22.name d22.name d22.st fa fd) : Binds K fd d22.ps [] := F.binds fun _ _ _ _ _ _ us hl => match us, hl with | [_], _ => rfl
theorem q23 {K : PySem.W.Frag} {fa : Addr} {fd : FuncData} (F : Fun K d23.name d23.name d23.st fa fd) : Binds K fd d23.ps [] := F.binds fun _ _ _ _ _ _ us hl => match us, hl with | [_, _], _ => rfl
theorem q24 {K : PySem.W.Frag} {fa : Addr} {fd : FuncData} (F : Fun K d24.name d24.name d24.st fa fd) : Binds K fd d24.ps [] := F.binds fun _ _ _ _ _ _ us hl => match us, hl with | [_, _], _ => rfl
theorem q25 {K : PySem.W.Frag} {fa : Addr} {fd : FuncData} (F : Fun K d25.name d25.name d25.st fa fd) : Binds K fd d25.ps [] := F.binds fun _ _ _ _ _ _ us hl => match us, hl with | [_], _ => rfl
theorem q26 {K : PySem.W.Frag} {fa : Addr} {fd : FuncData} (F : Fun K d26.name d26.name d26.st fa fd) : Binds K fd d26.ps [] := F.binds fun _ _ _ _ _ _ us hl => match us, hl with | [_, _], _ => rfl
theorem q27 {K : PySem.W.Frag} {fa : Addr} {fd : FuncData} (F : Fun K d27.name d27.name d27.st fa fd) : Binds K fd d27.ps [] := F.binds fun _ _ _ _ _ _ us hl => match us, hl with | [_, _], _ => rfl
theorem q28 {K : PySem.W.Frag} {fa : Addr} {fd : FuncData} (F : Fun K d28.name d28.name d28.st fa fd) : Binds K fd d28.ps [] := F.binds fun _ _ _ _ _ _ us hl => match us, hl with | [_], _ => rfl
theorem q29 {K : PySem.W.Frag} {fa : Addr} {fd : FuncData} (F : Fun K d29.name d29.name d29.st fa fd) : Binds K fd d29.ps [] := F.binds fun _ _ _ _ _ _ us hl => match us, hl with | [_], _ => rfl
theorem q30 {K : PySem.W.Frag} {fa : Addr} {fd : FuncData} (F : Fun K d30.name d30.name d30.st fa fd) : Binds K fd d30.ps [] := F.binds fun _ _ _ _ _ _ us hl => match us, hl with | [_], _ => rfl
theorem q31 {K : PySem.W.Frag} {fa : Addr} {fd : FuncData} (F : Fun K d31.name d31.name d31.st fa fd) : Binds K fd d31.ps [] := F.binds fun _ _ _ _ _ _ us hl => match us, hl with | [_, _], _ => rfl
theorem q32 {K : PySem.W.Frag} {fa : Addr} {fd : FuncData} (F : Fun K d32.name d32.name d32.st fa fd) : Binds K fd d32.ps [] := F.binds fun _ _ _ _ _ _ us hl => match us, hl with | [_], _ => rfl
theorem hb (fd : FuncData) (fa : Addr) {K : PySem.W.Frag} (F : Fun K d32.name d32.name d32.st fa fd) (s : Shared) (v : Value) : BindsTo s fd ⟨[v], []⟩ [("script", v)] := by
  obtain ⟨oc, od, kV, doc, pm, an, cdv, ct, osl, rfl, lk, hcd⟩ := F.ex
  exact .of_eq rfl
end L50
open PySem PySem.W PyProof.Rows
set_option maxHeartbeats 0 in
theorem PySem.Challenge.cw_patternkinds_k50_whole_weights_and_prefi_holds : PySem.Challenge.rw_patternkinds_k50_whole_weights_and_prefi.Holds := by
  w_on; o_law; k_head; (case hw => w_witness2)
  k_fill
  refine PK.walk_ofG (l := PySem.Challenge.rw_patternkinds_k50_whole_weights_and_prefi) (n := 63) (k := 40) (x := "script") (CX := fun w => L2.CX PySem.Challenge.rw_patternkinds_k50_whole_weights_and_prefi.prog w) (sp := fun w => PK.spOk _ L50.pg 40 32) rfl (by decide) rfl ⟨rfl, by decide, by decide⟩ (fun w h Y => PySem.W.kIn_of Y) ?F (fun _ _ a ns hl _ hS => PK.law_endO hS (P50.law_ok ns hl)) (fun _ _ _ _ _ h => PK.cx_no h)
  case F =>
    intro w mg fa h KX G hmg
    have h0 := PK.kOf KX (P := fun K => PK.DH K L50.d0) (by
      refine' PK.dh_at (st := L50.topS 5) L50.q0 ?a ?l ?c ?k
      (case a => k_is); (case l => k_is); (case c => k_is); (case k => k_is))
    have h1 := PK.kOf KX (P := fun K => PK.DH K L50.d1) (by
      refine' PK.dh_at (st := L50.topS 6) L50.q1 ?a ?l ?c ?k
      (case a => k_is); (case l => k_is); (case c => k_is); (case k => k_is))
    have h2 := PK.kOf KX (P := fun K => PK.DH K L50.d2) (by
      refine' PK.dh_at (st := L50.topS 7) L50.q2 ?a ?l ?c ?k
      (case a => k_is); (case l => k_is); (case c => k_is); (case k => k_is))
    have h3 := PK.kOf KX (P := fun K => PK.DH K L50.d3) (by
      refine' PK.dh_at (st := L50.topS 8) L50.q3 ?a ?l ?c ?k
      (case a => k_is); (case l => k_is); (case c => k_is); (case k => k_is))
    have h4 := PK.kOf KX (P := fun K => PK.DH K L50.d4) (by
      refine' PK.dh_at (st := L50.topS 9) L50.q4 ?a ?l ?c ?k
      (case a => k_is); (case l => k_is); (case c => k_is); (case k => k_is))
    have h5 := PK.kOf KX (P := fun K => PK.DH K L50.d5) (by
      refine' PK.dh_at (st := L50.topS 14) L50.q5 ?a ?l ?c ?k
      (case a => k_is); (case l => k_is); (case c => k_is); (case k => k_is))
    have h6 := PK.kOf KX (P := fun K => PK.DH K L50.d6) (by
      refine' PK.dh_at (st := L50.topS 15) L50.q6 ?a ?l ?c ?k
      (case a => k_is); (case l => k_is); (case c => k_is); (case k => k_is))
    have h7 := PK.kOf KX (P := fun K => PK.DH K L50.d7) (by
      refine' PK.dh_at (st := L50.topS 16) L50.q7 ?a ?l ?c ?k
      (case a => k_is); (case l => k_is); (case c => k_is); (case k => k_is))
    have h8 := PK.kOf KX (P := fun K => PK.DH K L50.d8) (by
      refine' PK.dh_at (st := L50.topS 17) L50.q8 ?a ?l ?c ?k
      (case a => k_is); (case l => k_is); (case c => k_is); (case k => k_is))
    have h9 := PK.kOf KX (P := fun K => PK.DH K L50.d9) (by
      refine' PK.dh_at (st := L50.topS 18) L50.q9 ?a ?l ?c ?k
      (case a => k_is); (case l => k_is); (case c => k_is); (case k => k_is))
    have h10 := PK.kOf KX (P := fun K => PK.DH K L50.d10) (by
      refine' PK.dh_at (st := L50.topS 19) L50.q10 ?a ?l ?c ?k
      (case a => k_is); (case l => k_is); (case c => k_is); (case k => k_is))
    have h11 := PK.kOf KX (P := fun K => PK.DH K L50.d11) (by
      refine' PK.dh_at (st := L50.topS 20) L50.q11 ?a ?l ?c ?k
      (case a => k_is); (case l => k_is); (case c => k_is); (case k => k_is))
    have h12 := PK.kOf KX (P := fun K => PK.DH K L50.d12) (by
      refine' PK.dh_at (st := L50.topS 21) L50.q12 ?a ?l ?c ?k
      (case a => k_is); (case l => k_is); (case c => k_is); (case k => k_is))
    have h13 := PK.kOf KX (P := fun K => PK.DH K L50.d13) (by
      refine' PK.dh_at (st := L50.topS 22) L50.q13 ?a ?l ?c ?k
      (case a => k_is); (case l => k_is); (case c => k_is); (case k => k_is))
    have h14 := PK.kOf KX (P := fun K => PK.DH K L50.d14) (by
      refine' PK.dh_at (st := L50.topS 23) L50.q14 ?a ?l ?c ?k
      (case a => k_is); (case l => k_is); (case c => k_is); (case k => k_is))
    have h15 := PK.kOf KX (P := fun K => PK.DH K L50.d15) (by
      refine' PK.dh_at (st := L50.topS 24) L50.q15 ?a ?l ?c ?k
      (case a => k_is); (case l => k_is); (case c => k_is); (case k => k_is))
    have h16 := PK.kOf KX (P := fun K => PK.DH K L50.d16) (by
      refine' PK.dh_at (st := L50.topS 25) L50.q16 ?a ?l ?c ?k
      (case a => k_is); (case l => k_is); (case c => k_is); (case k => k_is))
    have h17 := PK.kOf KX (P := fun K => PK.DH K L50.d17) (by
      refine' PK.dh_at (st := L50.topS 26) L50.q17 ?a ?l ?c ?k
      (case a => k_is); (case l => k_is); (case c => k_is); (case k => k_is))
    have h18 := PK.kOf KX (P := fun K => PK.DH K L50.d18) (by
      refine' PK.dh_at (st := L50.topS 27) L50.q18 ?a ?l ?c ?k
      (case a => k_is); (case l => k_is); (case c => k_is); (case k => k_is))
    have h19 := PK.kOf KX (P := fun K => PK.DH K L50.d19) (by
      refine' PK.dh_at (st := L50.topS 28) L50.q19 ?a ?l ?c ?k
      (case a => k_is); (case l => k_is); (case c => k_is); (case k => k_is))
    have h20 := PK.kOf KX (P := fun K => PK.DH K L50.d20) (by
      refine' PK.dh_at (st := L50.topS 29) L50.q20 ?a ?l ?c ?k
      (case a => k_is); (case l => k_is); (case c => k_is); (case k => k_is))
    have h21 := PK.kOf KX (P := fun K => PK.DH K L50.d21) (by
      refine' PK.dh_at (st := L50.topS 30) L50.q21 ?a ?l ?c ?k
      (case a => k_is); (case l => k_is); (case c => k_is); (case k => k_is))
    have h22 := PK.kOf KX (P := fun K => PK.DH K L50.d22) (by
      refine' PK.dh_at (st := L50.topS 32) L50.q22 ?a ?l ?c ?k
      (case a => k_is); (case l => k_is); (case c => k_is); (case k => k_is))
    have h23 := PK.kOf KX (P := fun K => PK.DH K L50.d23) (by
      refine' PK.dh_at (st := L50.topS 33) L50.q23 ?a ?l ?c ?k
      (case a => k_is); (case l => k_is); (case c => k_is); (case k => k_is))
    have h24 := PK.kOf KX (P := fun K => PK.DH K L50.d24) (by
      refine' PK.dh_at (st := L50.topS 34) L50.q24 ?a ?l ?c ?k
      (case a => k_is); (case l => k_is); (case c => k_is); (case k => k_is))
    have h25 := PK.kOf KX (P := fun K => PK.DH K L50.d25) (by
      refine' PK.dh_at (st := L50.topS 35) L50.q25 ?a ?l ?c ?k
      (case a => k_is); (case l => k_is); (case c => k_is); (case k => k_is))
    have h26 := PK.kOf KX (P := fun K => PK.DH K L50.d26) (by
      refine' PK.dh_at (st := L50.topS 36) L50.q26 ?a ?l ?c ?k
      (case a => k_is); (case l => k_is); (case c => k_is); (case k => k_is))
    have h27 := PK.kOf KX (P := fun K => PK.DH K L50.d27) (by
      refine' PK.dh_at (st := L50.topS 37) L50.q27 ?a ?l ?c ?k
      (case a => k_is); (case l => k_is); (case c => k_is); (case k => k_is))
    have h28 := PK.kOf KX (P := fun K => PK.DH K L50.d28) (by
      refine' PK.dh_at (st := L50.topS 38) L50.q28 ?a ?l ?c ?k
      (case a => k_is); (case l => k_is); (case c => k_is); (case k => k_is))
    have h29 := PK.kOf KX (P := fun K => PK.DH K L50.d29) (by
      refine' PK.dh_at (st := L50.topS 39) L50.q29 ?a ?l ?c ?k
      (case a => k_is); (case l => k_is); (case c => k_is); (case k => k_is))
    have h30 := PK.kOf KX (P := fun K => PK.DH K L50.d30) (by
      refine' PK.dh_at (st := L50.topS 40) L50.q30 ?a ?l ?c ?k
      (case a => k_is); (case l => k_is); (case c => k_is); (case k => k_is))
    have h31 := PK.kOf KX (P := fun K => PK.DH K L50.d31) (by
      refine' PK.dh_at (st := L50.topS 41) L50.q31 ?a ?l ?c ?k
      (case a => k_is); (case l => k_is); (case c => k_is); (case k => k_is))
    have h32 := PK.kOf KX (P := fun K => PK.DH K L50.d32) (by
      refine' PK.dh_at (st := L50.topS 42) L50.q32 ?a ?l ?c ?k
      (case a => k_is); (case l => k_is); (case c => k_is); (case k => k_is))
    have g0 := PK.kOf KX (P := fun K => PK.GH K "SIGNS" (.int 3)) (by
      refine' PK.gh_int ?a
      (case a => k_is))
    have g1 := PK.kOf KX (P := fun K => PK.GH K "MOST_WORDS" (.int 8)) (by
      refine' PK.gh_int ?a
      (case a => k_is))
    have g2 := PK.kOf KX (P := fun K => PK.GH K "MOST_LENGTH" (.int 6)) (by
      refine' PK.gh_int ?a
      (case a => k_is))
    have z0 := PK.kOf KX (P := fun K => PySem.W.nsIn K mainGlobals "isinstance" = some none) (by k_is)
    have z1 := PK.kOf KX (P := fun K => PySem.W.nsIn K mainGlobals "int" = some none) (by k_is)
    have z2 := PK.kOf KX (P := fun K => PySem.W.nsIn K mainGlobals "bool" = some none) (by k_is)
    have z3 := PK.kOf KX (P := fun K => PySem.W.nsIn K mainGlobals "abs" = some none) (by k_is)
    have z4 := PK.kOf KX (P := fun K => PySem.W.nsIn K mainGlobals "tuple" = some none) (by k_is)
    have z5 := PK.kOf KX (P := fun K => PySem.W.nsIn K mainGlobals "len" = some none) (by k_is)
    have z6 := PK.kOf KX (P := fun K => PySem.W.nsIn K mainGlobals "all" = some none) (by k_is)
    have z7 := PK.kOf KX (P := fun K => PySem.W.nsIn K mainGlobals "zip" = some none) (by k_is)
    have z8 := PK.kOf KX (P := fun K => PySem.W.nsIn K mainGlobals "sorted" = some none) (by k_is)
    have z9 := PK.kOf KX (P := fun K => PySem.W.nsIn K mainGlobals "any" = some none) (by k_is)
    have z10 := PK.kOf KX (P := fun K => PySem.W.nsIn K mainGlobals "range" = some none) (by k_is)
    have z11 := PK.kOf KX (P := fun K => PySem.W.nsIn K mainGlobals "list" = some none) (by k_is)
    have z12 := PK.kOf KX (P := fun K => PySem.W.nsIn K mainGlobals "sum" = some none) (by k_is)
    have z13 := PK.kOf KX (P := fun K => PySem.W.nsIn K mainGlobals "repr" = some none) (by k_is)
    have cs := PK.kOf KX (P := fun K => ∃ C0 C1, PK.CH K "Malformed" C0 ∧ PK.CF PySem.Challenge.rw_patternkinds_k50_whole_weights_and_prefi.prog K "Refused" "reason" C1 ∧ PK.Apart K [C0, C1]) (by
      refine' ⟨_, _, ⟨?n0, ?e0, ?k0, ?s0, ?t0, ?d0⟩, PK.cf_at (P := PySem.Challenge.rw_patternkinds_k50_whole_weights_and_prefi.prog) ?n1 ?l1 ?i1 ?fa1 ?fb1 ?fc1 ?fd1 ?fe1 ?ff1 ?fg1 ?r1 ?x1 ?b1 ?t1 ?sa1 ?ga1 ?gg1 ?noN1 ?tC1 ?kC1 ?exC1 ?veC1 ?tyC1 ?hdC1 ?selfC1 ?sup1 ?nosup1 ?noany1, PK.apart2 ?p00 ?p01 ?p10 ?p11⟩
      (case n0 => k_is); (case e0 => k_exc); (case k0 => k_is); (case s0 => k_is); (case t0 => k_is); (case d0 => k_is)
      (case n1 => k_is); (case l1 => k_is); (case i1 => k_is); (case fa1 => k_is); (case fb1 => k_is); (case fc1 => k_is)
      (case fd1 => first | rfl | decide); (case fe1 => first | rfl | decide)
      (case ff1 => k_is); (case fg1 => first | rfl | decide); (case r1 => first | rfl | decide); (case x1 => decide +kernel); (case b1 => intros; exact .of_eq rfl); (case t1 => first | rfl | decide)
      (case sa1 => first | k_is | rfl); (case ga1 => first | k_is | rfl); (case gg1 => first | k_is | rfl); (case noN1 => first | k_is | rfl); (case tC1 => first | k_is | rfl); (case kC1 => first | k_is | rfl); (case exC1 => first | k_is | rfl); (case veC1 => first | k_is | rfl); (case tyC1 => first | k_is | rfl); (case hdC1 => first | k_is | rfl); (case selfC1 => first | k_is | rfl); (case sup1 => first | k_is | rfl); (case nosup1 => first | k_is | rfl); (case noany1 => first | k_is | rfl)
      (case p00 => first | k_is | rfl); (case p01 => first | k_is | rfl)
      (case p10 => first | k_is | rfl); (case p11 => first | k_is | rfl))
    obtain ⟨C0, C1, c0, c1, ap⟩ := cs
    exact PK.law_mk KX G hmg L50.cfg L50.pg 40 32 L50.d32 L50.globs [C0, C1] rfl rfl rfl rfl L50.chk (.cons h0 (.cons h1 (.cons h2 (.cons h3 (.cons h4 (.cons h5 (.cons h6 (.cons h7 (.cons h8 (.cons h9 (.cons h10 (.cons h11 (.cons h12 (.cons h13 (.cons h14 (.cons h15 (.cons h16 (.cons h17 (.cons h18 (.cons h19 (.cons h20 (.cons h21 (.cons h22 (.cons h23 (.cons h24 (.cons h25 (.cons h26 (.cons h27 (.cons h28 (.cons h29 (.cons h30 (.cons h31 (.cons h32 .nil))))))))))))))))))))))))))))))))) rfl rfl (.cons g0 (.cons g1 (.cons g2 .nil))) (.cons z0 (.cons z1 (.cons z2 (.cons z3 (.cons z4 (.cons z5 (.cons z6 (.cons z7 (.cons z8 (.cons z9 (.cons z10 (.cons z11 (.cons z12 (.cons z13 .nil)))))))))))))) (.cons c0 (.fld c1 .nil)) ap (fun fd fa F => L50.hb fd fa F)
end

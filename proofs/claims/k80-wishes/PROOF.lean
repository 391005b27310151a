import PyProof.Rows.All
import Wide.All
import OpenK.AllK
import Wide.FinOn
import KE.DataEq
import KE.SortData
import KE.DataMinMax
import HandS.ForMost
import HandS.Zip
import HandS.Exc
import HandS.WordsExc
import HandS.Defaults
import HandS.ExcInit
import KE.KExcSuper
import HandS.Wide
import HandS.Style
import HandS.TupAny
import HandS.Deep
import HandS.IsInst
import HandS.More
import HandS.Codes
import KE.DataIsa
import HandS.Iter
import PyProof.Draws
import PyProof.EnumMake
import HandS.Conv
import HandS.HeadHook1
import HandS.Strs
import KE.KeyNested
import HandS.Set
import HandS.SetFor
import HandS.HeadHook2
import HandS.ExcIs
import HandS.ExcField
import KE.KExcIs
import HandS.HeadEnd
import PySem.Challenge.RW_widelyheard_k80_whole_promises_of_wishes
import KE.KStateDown
import HandS.Head0
import HandS.Head1
import HandS.Head2

section
set_option Elab.async false
set_option linter.all false
set_option autoImplicit false
/-! EvCore: a small AST of expressions and statements over data, and its evaluator. -/
namespace EV
open PySem

abbrev D := PyData

/-- the law's row of draws: the cells, 1 more than the place, what is left of a cell, the seed -/
structure DS where
  cells : List Int
  p : Nat
  cur : Int
  seed : Int

inductive Exn where
  | mal
  | refu (r : Str)

inductive R (α : Type) where
  | ok (a : α) (s : DS)
  | err (x : Exn) (s : DS)
  | stuck

def R.bnd {α β : Type} (r : R α) (f : α → DS → R β) : R β := match r with
  | .ok a s => f a s
  | .err x s => .err x s
  | .stuck => .stuck
def R.lift {α : Type} (o : Option α) (s : DS) : R α := match o with
  | some a => .ok a s
  | none => .stuck
@[simp] theorem bnd_ok {α β : Type} (a : α) (s : DS) (f : α → DS → R β) : (R.ok a s).bnd f = f a s := rfl
@[simp] theorem bnd_err {α β : Type} (x : Exn) (s : DS) (f : α → DS → R β) : (R.err x s : R α).bnd f = .err x s := rfl
@[simp] theorem bnd_stuck {α β : Type} (f : α → DS → R β) : (R.stuck : R α).bnd f = .stuck := rfl
@[simp] theorem lift_some {α : Type} (a : α) (s : DS) : R.lift (some a) s = .ok a s := rfl
@[simp] theorem lift_none {α : Type} (s : DS) : R.lift (none : Option α) s = .stuck := rfl

/-! ### operators on data -/
inductive Bop where | add | sub | mul | fdiv | mod | shl | shr
inductive Cop where | eq | ne | lt | le | gt | ge | is_ | isnt | in_ | nin
inductive Ty where | int | bool | str | tuple | list
inductive Bi where | len | int | abs | min | max | sum | any | all | tuple | list | sorted
inductive Mt where | startswith | index | indexI | split

/-- the longest list that is made here -/
abbrev LIM : Nat := 1000000

def fitsMul (i j : Int) : Bool := decide (i.natAbs < 18446744073709551616) || decide (j.natAbs < 18446744073709551616) || (decide (i.natAbs.log2 < 4000) && decide (j.natAbs.log2 < 4000))
def fitsDiv (j : Int) : Bool := decide (0 < j) && (decide (j < 1073741824) || decide (j.natAbs.log2 < 4000))

def binD : Bop → D → D → Option D
  | .add, .int a, .int b => some (.int (a + b))
  | .add, .str a, .str b => if a.length + b.length ≤ LIM then some (.str (a ++ b)) else none
  | .add, .tuple a, .tuple b => if a.length + b.length ≤ LIM then some (.tuple (a ++ b)) else none
  | .add, .list a, .list b => if a.length + b.length ≤ LIM then some (.list (a ++ b)) else none
  | .sub, .int a, .int b => some (.int (a - b))
  | .mul, .int a, .int b => if fitsMul a b = true then some (.int (a * b)) else none
  | .mul, .list a, .int k => if a.length ≤ 1000 ∧ k ≤ 1000 ∧ 0 ≤ k then some (.list (List.replicate k.toNat a).flatten) else none
  | .fdiv, .int a, .int b => if fitsDiv b = true then some (.int (a / b)) else none
  | .mod, .int a, .int b => if 0 < b then some (.int (a % b)) else none
  | .shl, .int a, .int b => if 0 ≤ b ∧ b ≤ 1000 ∧ a.natAbs < 18446744073709551616 then some (.int (a * 2 ^ b.toNat)) else none
  | .shr, .int a, .int b => if 0 ≤ b then some (.int (a / 2 ^ b.toNat)) else none
  | _, _, _ => none

/-- x op= y, of whole numbers -/
def augD : Bop → D → D → Option D
  | .add, .int a, .int b => some (.int (a + b))
  | .sub, .int a, .int b => some (.int (a - b))
  | _, _, _ => none
def okEq (x y : D) : Bool := x.plain && y.plain && decide (min x.depth y.depth ≤ 60)
def okIn (x : D) (ys : List D) : Bool := x.plain && PyData.plainAll ys && decide (x.depth ≤ 60)
def isN : D → Bool
  | .none => true
  | _ => false
def cmpD : Cop → D → D → Option Bool
  | .eq, x, y => if okEq x y = true then some (PyData.eqv x y) else none
  | .ne, x, y => if okEq x y = true then some (!PyData.eqv x y) else none
  | .lt, .int a, .int b => some (decide (a < b))
  | .le, .int a, .int b => some (decide (a ≤ b))
  | .gt, .int a, .int b => some (decide (b < a))
  | .ge, .int a, .int b => some (decide (b ≤ a))
  | .is_, x, .none => some (isN x)
  | .is_, .bool a, .bool b => some (decide (a = b))
  | .isnt, x, .none => some (!isN x)
  | .isnt, .bool a, .bool b => some (!decide (a = b))
  | .in_, x, .list ys => if okIn x ys = true then some (ys.any fun z => PyData.eqv z x) else none
  | .in_, x, .tuple ys => if okIn x ys = true then some (ys.any fun z => PyData.eqv z x) else none
  | .nin, x, .list ys => if okIn x ys = true then some (!ys.any fun z => PyData.eqv z x) else none
  | .nin, x, .tuple ys => if okIn x ys = true then some (!ys.any fun z => PyData.eqv z x) else none
  | _, _, _ => none

def negD : D → Option D
  | .int a => some (.int (-a))
  | _ => none
def ixD : D → D → Option D
  | .list xs, .int i => L2.atI xs i
  | .tuple xs, .int i => L2.atI xs i
  | _, _ => none
/-- an end of a slice -/
def endD : D → Option Int
  | .int i => some i
  | _ => none
def cutL {α : Type} (xs : List α) (lo hi : Option Int) : List α := (xs.drop (HT.sIx xs.length 0 lo)).take (HT.sIx xs.length xs.length hi - HT.sIx xs.length 0 lo)
def slD : D → Option Int → Option Int → Option D
  | .list xs, lo, hi => some (.list (cutL xs lo hi))
  | .tuple xs, lo, hi => some (.tuple (cutL xs lo hi))
  | .str x, lo, hi => if x.length ≤ LIM then some (.str (Txt.slice x lo hi)) else none
  | _, _, _ => none
def isiD : D → Ty → Bool
  | .int _, .int => true
  | .bool _, .int => true
  | .bool _, .bool => true
  | .str _, .str => true
  | .tuple _, .tuple => true
  | .list _, .list => true
  | _, _ => false
def intsOf : List D → Option (List Int)
  | [] => some []
  | .int i :: r => (intsOf r).map (i :: ·)
  | _ :: _ => none
def boolsOf : List D → Option (List Bool)
  | [] => some []
  | .bool b :: r => (boolsOf r).map (b :: ·)
  | _ :: _ => none
/-- the items of a list or a tuple -/
def itemsD : D → Option (List D)
  | .list xs => some xs
  | .tuple xs => some xs
  | _ => none
/-- items that can be ordered: alike, none of them None; all tuples that are not empty, or none a tuple -/
def isTupC : D → Bool
  | .tuple (_ :: _) => true
  | _ => false
def isTup : D → Bool
  | .tuple _ => true
  | _ => false
def sortOk (xs : List D) : Bool := xs.all (fun x => xs.all fun y => W.alike x y) && xs.all (fun x => !isN x && decide (x.depth ≤ 60)) && (xs.all isTupC || xs.all fun x => !isTup x) && decide (xs.length ≤ LIM)
def biD : Bi → List D → Option D
  | .len, [.str x] => if x.length ≤ LIM then some (.int x.length) else none
  | .len, [.list xs] => some (.int xs.length)
  | .len, [.tuple xs] => some (.int xs.length)
  | .int, [.int i] => some (.int i)
  | .int, [.bool b] => some (.int (if b then 1 else 0))
  | .abs, [.int i] => some (.int (if i < 0 then -i else i))
  | .min, [.int i, .int j] => some (.int (if j < i then j else i))
  | .max, [.int i, .int j] => some (.int (if j > i then j else i))
  | .min, [.list (x :: xs)] => if sortOk (x :: xs) = true then some (W.minD x xs) else none
  | .max, [.list (x :: xs)] => if sortOk (x :: xs) = true then some (W.maxD x xs) else none
  | .max, [.tuple (x :: xs)] => if sortOk (x :: xs) = true then some (W.maxD x xs) else none
  | .sum, [.list xs] => (intsOf xs).map fun ns => .int ns.sum
  | .any, [.list xs] => (boolsOf xs).map fun bs => .bool (bs.any id)
  | .all, [.list xs] => (boolsOf xs).map fun bs => .bool (bs.all id)
  | .tuple, [.list xs] => some (.tuple xs)
  | .tuple, [.tuple xs] => some (.tuple xs)
  | .list, [.list xs] => some (.list xs)
  | .list, [.tuple xs] => some (.list xs)
  | .sorted, [.list xs] => if sortOk xs = true then some (.list (xs.mergeSort (W.dataLe false id))) else none
  | .sorted, [.tuple xs] => if sortOk xs = true then some (.list (xs.mergeSort (W.dataLe false id))) else none
  | _, _ => none
def mtD : Mt → D → List D → Option D
  | .startswith, .str a, [.str b] => some (.bool (Txt.startswith a b))
  | .indexI, .tuple xs, [.int k] => (intsOf xs).bind fun ns => if k ∈ ns then some (.int (ns.idxOf k : Nat)) else none
  | .split, .str a, [.str b] => if b.length ≠ 0 ∧ a.length ≤ 1000 then some (.list ((Txt.split a b).map .str)) else none
  | .index, .tuple xs, [y] => if okIn y xs = true then (xs.findIdx? fun z => PyData.eqv z y).map fun j => .int j else none
  | _, _, _ => none
/-- a method's receiver -/
def mtOk : Mt → D → Option Unit
  | .startswith, .str _ => some ()
  | .index, .tuple _ => some ()
  | .indexI, .tuple _ => some ()
  | .split, .str _ => some ()
  | _, _ => none
def rangeD : List D → Option (List D)
  | [.int j] => if -(LIM : Int) ≤ j ∧ j ≤ LIM then some ((List.range j.toNat).map fun i => .int (i : Nat)) else none
  | [.int i, .int j] => if (-(LIM : Int) ≤ i ∧ i ≤ LIM) ∧ (-(LIM : Int) ≤ j ∧ j ≤ LIM) then some ((List.range (j - i).toNat).map fun k => .int (i + (k : Nat))) else none
  | [.int i, .int j, .int c] => if (-(LIM : Int) ≤ i ∧ i ≤ LIM) ∧ (-(LIM : Int) ≤ j ∧ j ≤ LIM) ∧ c = -1 then some ((List.range (i - j).toNat).map fun k => .int (i + (k : Nat) * (-1))) else none
  | _ => none
def zipD : List D → List D → List D
  | x :: xs, y :: ys => .tuple [x, y] :: zipD xs ys
  | _, _ => []
/-- two lists, or two tuples -/
def zip2 : D → D → Option (List D)
  | .list xs, .list ys => some (zipD xs ys)
  | .tuple xs, .tuple ys => some (zipD xs ys)
  | _, _ => none
def enumD : Nat → List D → List D
  | _, [] => []
  | i, x :: xs => .tuple [.int (i : Nat), x] :: enumD (i + 1) xs

/-- the numbers of a tuple, as a set's members -/
def setI : D → Option (List Int)
  | .tuple xs => if xs.length ≤ 4000 then intsOf xs else none
  | _ => none
def eqsB (ns ms : List Int) : Bool := (ns.all fun k => ms.contains k) && ms.all fun k => ns.contains k

/-! ### targets -/
inductive Tg where
  | nm (i : Nat)
  | tup (ts : Tg)
  | tnil
  | tcons (t ts : Tg)
abbrev Env := List (Option D)
def mut2 : Tg → Bool × (D → Env → Option Env) × (List D → Env → Option Env)
  | .nm i => (true, fun d ρ => some (ρ.set i (some d)), fun _ _ => none)
  | .tup ts => (true, fun d ρ => match d with
    | .tuple ds => (mut2 ts).2.2 ds ρ
    | _ => none, fun _ _ => none)
  | .tnil => (false, fun _ _ => none, fun ds ρ => match ds with
    | [] => some ρ
    | _ => none)
  | .tcons t ts => (false, fun _ _ => none, fun ds ρ => match ds with
    | d :: ds => (((mut2 t).2.1 d ρ).bind fun ρ => (mut2 ts).2.2 ds ρ)
    | _ => none)
def bindT (t : Tg) : D → Env → Option Env := (mut2 t).2.1
def bindTs (t : Tg) : List D → Env → Option Env := (mut2 t).2.2
@[simp] theorem bindT_nm (i : Nat) (d : D) (ρ : Env) : bindT (.nm i) d ρ = some (ρ.set i (some d)) := rfl
@[simp] theorem bindT_tup (ts : Tg) (ds : List D) (ρ : Env) : bindT (.tup ts) (.tuple ds) ρ = bindTs ts ds ρ := rfl
@[simp] theorem bindTs_nil (ρ : Env) : bindTs .tnil [] ρ = some ρ := rfl
@[simp] theorem bindTs_cons (t ts : Tg) (d : D) (ds : List D) (ρ : Env) : bindTs (.tcons t ts) (d :: ds) ρ = (bindT t d ρ).bind fun ρ => bindTs ts ds ρ := rfl
def tgSlots : Tg → List Nat
  | .nm i => [i]
  | .tup ts => tgSlots ts
  | .tnil => []
  | .tcons t ts => tgSlots t ++ tgSlots ts

/-! ### expressions -/
inductive E where
  | var (i : Nat)
  | con (d : D)
  | glo (x : Str) (d : D)
  | bin (o : Bop) (a b : E)
  | neg (a : E)
  | not_ (a : E)
  | and_ (a b : E)
  | or_ (a b : E)
  | ife (c a b : E)
  | cmp (o : Cop) (a b : E)
  | chn (o p : Cop) (a b c : E)
  | ix (a b : E)
  | sl (a lo hi : E)
  | tup (as : E)
  | lst (as : E)
  | nil
  | cons (a as : E)
  | call (f : Nat) (as : E)
  | bi (b : Bi) (as : E)
  | mt (m : Mt) (a as : E)
  | isi (a : E) (t : Ty)
  | lens (a : E)
  | eqs (a b : E)
  | lrng (as : E)
  | comp (el : E) (tg : Tg) (it : E) (c : E)
  | rng (as : E)
  | zip (a b : E)
  | enum (a : E)
  | drw (i k : Nat)
  | ncel (i : Nat)
  | cel (i : Nat) (e : E)

/-- the draws' own numbers -/
def isDr : Option D → Option Unit
  | some (.dict []) => some ()
  | _ => none
def drwD (k : Nat) (s : DS) : Option Int := match k with
  | 1 => some ((s.p : Int) - 1)
  | 2 => some s.cur
  | 3 => some s.seed
  | _ => none
def setDr (k : Nat) (d : D) (s : DS) : Option DS := match k, d with
  | 1, .int j => if -1 ≤ j then some { s with p := (j + 1).toNat } else none
  | 2, .int j => some { s with cur := j }
  | 3, .int j => some { s with seed := j }
  | _, _ => none
def celD (d : D) (s : DS) : Option Int := match d with
  | .int j => if 0 ≤ j then s.cells[j.toNat]? else none
  | _ => none
/-- the slots of a comprehension's own names, empty at its start -/
def wipeE (ρ : Env) : List Nat → Env
  | [] => ρ
  | v :: vs => (wipeE ρ vs).set v none

/-- a comprehension's turns: an error within is not followed -/
def compL (f : D → DS → R (Option D)) : List D → DS → R (List D)
  | [], s => .ok [] s
  | x :: xs, s => match f x s with
    | .ok o s1 => (match compL f xs s1 with
      | .ok ys s2 => .ok (match o with
        | some y => y :: ys
        | none => ys) s2
      | _ => .stuck)
    | _ => .stuck

def boolR (d : D) (s : DS) : R Bool := match d with
  | .bool b => .ok b s
  | _ => .stuck
@[simp] theorem boolR_bool (b : Bool) (s : DS) : boolR (.bool b) s = .ok b s := rfl

abbrev CallF := Nat → List D → DS → R D

mutual
def ev (C : CallF) : E → Env → DS → R D
  | .var i, ρ, s => R.lift (ρ.getD i none) s
  | .con d, _, s => .ok d s
  | .glo _ d, _, s => .ok d s
  | .bin o a b, ρ, s => (ev C a ρ s).bnd fun x s => (ev C b ρ s).bnd fun y s => R.lift (binD o x y) s
  | .neg a, ρ, s => (ev C a ρ s).bnd fun x s => R.lift (negD x) s
  | .not_ a, ρ, s => (ev C a ρ s).bnd fun x s => (boolR x s).bnd fun b s => .ok (.bool (!b)) s
  | .and_ a b, ρ, s => (ev C a ρ s).bnd fun x s => (boolR x s).bnd fun k s => if k = true then ev C b ρ s else .ok (.bool false) s
  | .or_ a b, ρ, s => (ev C a ρ s).bnd fun x s => (boolR x s).bnd fun k s => if k = true then .ok (.bool true) s else ev C b ρ s
  | .ife c a b, ρ, s => (ev C c ρ s).bnd fun x s => (boolR x s).bnd fun k s => if k = true then ev C a ρ s else ev C b ρ s
  | .cmp o a b, ρ, s => (ev C a ρ s).bnd fun x s => (ev C b ρ s).bnd fun y s => R.lift ((cmpD o x y).map PyData.bool) s
  | .chn o p a b c, ρ, s => (ev C a ρ s).bnd fun x s => (ev C b ρ s).bnd fun y s => (R.lift (cmpD o x y) s).bnd fun k s =>
      if k = true then (ev C c ρ s).bnd fun z s => R.lift ((cmpD p y z).map PyData.bool) s else .ok (.bool false) s
  | .ix a b, ρ, s => (ev C a ρ s).bnd fun x s => (ev C b ρ s).bnd fun y s => R.lift (ixD x y) s
  | .sl a lo hi, ρ, s => (ev C a ρ s).bnd fun x s => (evO C lo ρ s).bnd fun l s => (evO C hi ρ s).bnd fun h s => R.lift (slD x l h) s
  | .tup as, ρ, s => (evA C as ρ s).bnd fun xs s => .ok (.tuple xs) s
  | .lst as, ρ, s => (evA C as ρ s).bnd fun xs s => .ok (.list xs) s
  | .call f as, ρ, s => (evA C as ρ s).bnd fun xs s => C f xs s
  | .bi b as, ρ, s => (evA C as ρ s).bnd fun xs s => R.lift (biD b xs) s
  | .mt m a as, ρ, s => (ev C a ρ s).bnd fun x s => (R.lift (mtOk m x) s).bnd fun _ s => (evA C as ρ s).bnd fun xs s => R.lift (mtD m x xs) s
  | .isi a t, ρ, s => (ev C a ρ s).bnd fun x s => if x.plain = true then .ok (.bool (isiD x t)) s else .stuck
  | .lens a, ρ, s => (ev C a ρ s).bnd fun x s => R.lift ((setI x).map fun ns => .int ns.eraseDups.length) s
  | .eqs a b, ρ, s => (ev C a ρ s).bnd fun x s => (R.lift (setI x) s).bnd fun ns s => (ev C b ρ s).bnd fun y s => R.lift ((setI y).map fun ms => .bool (eqsB ns ms)) s
  | .lrng as, ρ, s => (evA C as ρ s).bnd fun xs s => (R.lift (rangeD xs) s).bnd fun ys s => .ok (.list ys) s
  | .comp el tg it c, ρ, s => (evI C it ρ s).bnd fun xs s => if xs.length ≤ LIM then (compL (fun x s => match bindT tg x (wipeE ρ (tgSlots tg)) with
      | none => .stuck
      | some ρ1 => (ev C c ρ1 s).bnd fun t s => (boolR t s).bnd fun k s => if k = true then (ev C el ρ1 s).bnd fun y s => .ok (some y) s else .ok none s) xs s).bnd fun ys s => .ok (.list ys) s else .stuck
  | .drw i k, ρ, s => (R.lift (isDr (ρ.getD i none)) s).bnd fun _ s => R.lift ((drwD k s).map PyData.int) s
  | .ncel i, ρ, s => (R.lift (isDr (ρ.getD i none)) s).bnd fun _ s => .ok (.int s.cells.length) s
  | .cel i e, ρ, s => (R.lift (isDr (ρ.getD i none)) s).bnd fun _ s => (ev C e ρ s).bnd fun d s => R.lift ((celD d s).map PyData.int) s
  | .nil, _, _ => .stuck
  | .cons _ _, _, _ => .stuck
  | .rng _, _, _ => .stuck
  | .zip _ _, _, _ => .stuck
  | .enum _, _, _ => .stuck
def evA (C : CallF) : E → Env → DS → R (List D)
  | .nil, _, s => .ok [] s
  | .cons a as, ρ, s => (ev C a ρ s).bnd fun x s => (evA C as ρ s).bnd fun xs s => .ok (x :: xs) s
  | _, _, _ => .stuck
def evO (C : CallF) : E → Env → DS → R (Option Int)
  | .nil, _, s => .ok none s
  | e, ρ, s => (ev C e ρ s).bnd fun x s => R.lift ((endD x).map some) s
def evI (C : CallF) : E → Env → DS → R (List D)
  | .rng as, ρ, s => (evA C as ρ s).bnd fun xs s => R.lift (rangeD xs) s
  | .zip a b, ρ, s => (ev C a ρ s).bnd fun x s => (ev C b ρ s).bnd fun y s => R.lift (zip2 x y) s
  | .enum a, ρ, s => (ev C a ρ s).bnd fun x s => R.lift ((itemsD x).map fun xs => enumD 0 xs) s
  | e, ρ, s => (ev C e ρ s).bnd fun x s => R.lift (itemsD x) s
end

/-! ### statements -/
inductive Fl where
  | next | brk | cnt
  | ret (d : D)

inductive S where
  | nil
  | seq (a b : S)
  | expr (e : E)
  | set (i : Nat) (e : E)
  | par (ts : Tg) (as : E)
  | unp (ts : Tg) (e : E)
  | aug (i : Nat) (o : Bop) (e : E)
  | augs (i : Nat) (k : E) (o : Bop) (e : E)
  | seti (i : Nat) (k : E) (e : E)
  | app (i : Nat) (e : E)
  | ins (i : Nat) (k e : E)
  | rem (i : Nat) (e : E)
  | popAt (j i : Nat) (k : E)
  | appPop (i j : Nat) (k : E)
  | ite (c : E) (a b : S)
  | forr (tg : Tg) (it : E) (b : S)
  | whl (c : E) (b : S)
  | ret (e : E)
  | retN
  | raiM (m : Str)
  | raiR (e : E)
  | brk | cnt | pas
  | tryW (f : Nat) (a : E)
  | tryR (f : Nat) (a : E)
  | sdrw (i k : Nat) (e : E)

abbrev RS := R (Fl × Env)
def forL (f : D → Env → DS → RS) : List D → Env → DS → RS
  | [], ρ, s => .ok (.next, ρ) s
  | x :: xs, ρ, s => (f x ρ s).bnd fun q s => match q.1 with
    | .next => forL f xs q.2 s
    | .cnt => forL f xs q.2 s
    | .brk => .ok (.next, q.2) s
    | .ret d => .ok (.ret d, q.2) s
def whileL (c : Env → DS → R Bool) (f : Env → DS → RS) : Nat → Env → DS → RS
  | 0, _, _ => .stuck
  | n + 1, ρ, s => (c ρ s).bnd fun k s => if k = true then (f ρ s).bnd fun q s => (match q.1 with
      | .next => whileL c f n q.2 s
      | .cnt => whileL c f n q.2 s
      | .brk => .ok (.next, q.2) s
      | .ret d => .ok (.ret d, q.2) s) else .ok (.next, ρ) s

def getL (ρ : Env) (i : Nat) : Option (List D) := match ρ.getD i none with
  | some (.list xs) => some xs
  | _ => none
/-- the place of an index in a list of n items -/
def placeD (n : Nat) : D → Option Nat
  | .int i => L2.ixN n i
  | _ => none
/-- _law_take -/
def takeDS (m : Int) (s : DS) : Int × DS :=
  let s1 : DS := if s.cur = 0 then
      (let c1 := if s.p < s.cells.length then s.cells.getD s.p 0 else s.cur
       if c1 = 0 then { s with p := s.p + 1, cur := (s.seed * 48271 + 11) % 2147483647, seed := (s.seed * 48271 + 11) % 2147483647 } else { s with p := s.p + 1, cur := c1 })
    else s
  (s1.cur % m, { s1 with cur := s1.cur / m })
def takeR (ρ : Env) (s : DS) : RS := match ρ.getD 1 none with
  | some (.int m) => if 0 < m ∧ m < 1073741824 then .ok (.ret (.int (takeDS m s).1), ρ) (takeDS m s).2 else .stuck
  | _ => .stuck
def nextR (ρ : Option Env) (s : DS) : RS := (R.lift ρ s).bnd fun ρ s => .ok (.next, ρ) s

def evS (C : CallF) (W : Nat) : S → Env → DS → RS
  | .nil, ρ, s => .ok (.next, ρ) s
  | .seq a b, ρ, s => (evS C W a ρ s).bnd fun q s => match q.1 with
    | .next => evS C W b q.2 s
    | f => .ok (f, q.2) s
  | .expr e, ρ, s => (ev C e ρ s).bnd fun _ s => .ok (.next, ρ) s
  | .set i e, ρ, s => (ev C e ρ s).bnd fun d s => .ok (.next, ρ.set i (some d)) s
  | .par ts as, ρ, s => (evA C as ρ s).bnd fun ds s => nextR (bindTs ts ds ρ) s
  | .unp ts e, ρ, s => (ev C e ρ s).bnd fun d s => nextR (bindT (.tup ts) d ρ) s
  | .aug i o e, ρ, s => (R.lift (ρ.getD i none) s).bnd fun x s => (ev C e ρ s).bnd fun y s => nextR ((augD o x y).map fun d => ρ.set i (some d)) s
  | .augs i k o e, ρ, s => (R.lift (getL ρ i) s).bnd fun xs s => (ev C k ρ s).bnd fun kd s => (R.lift ((placeD xs.length kd).bind fun j => (xs[j]?).map fun x => (j, x)) s).bnd fun jx s =>
      (ev C e ρ s).bnd fun y s => nextR ((augD o jx.2 y).map fun d => ρ.set i (some (.list (xs.set jx.1 d)))) s
  | .seti i k e, ρ, s => (ev C e ρ s).bnd fun y s => (R.lift (getL ρ i) s).bnd fun xs s => (ev C k ρ s).bnd fun kd s => nextR ((placeD xs.length kd).map fun j => ρ.set i (some (.list (xs.set j y)))) s
  | .app i e, ρ, s => (R.lift (getL ρ i) s).bnd fun xs s => (ev C e ρ s).bnd fun y s => if xs.length < LIM then .ok (.next, ρ.set i (some (.list (xs ++ [y])))) s else .stuck
  | .ins i k e, ρ, s => (R.lift (getL ρ i) s).bnd fun xs s => (ev C k ρ s).bnd fun kd s => (ev C e ρ s).bnd fun y s => (match kd with
      | .int j => if 0 ≤ j ∧ j ≤ LIM ∧ xs.length < LIM then .ok (.next, ρ.set i (some (.list (xs.take j.toNat ++ [y] ++ xs.drop j.toNat)))) s else .stuck
      | _ => .stuck)
  | .rem i e, ρ, s => (R.lift (getL ρ i) s).bnd fun xs s => (ev C e ρ s).bnd fun y s => if okIn y xs = true then nextR ((xs.findIdx? fun z => PyData.eqv z y).map fun j => ρ.set i (some (.list (xs.eraseIdx j)))) s else .stuck
  | .popAt j i k, ρ, s => (R.lift (getL ρ i) s).bnd fun xs s => (ev C k ρ s).bnd fun kd s => if xs.length ≤ LIM then nextR ((placeD xs.length kd).bind fun p => (xs[p]?).map fun x => (ρ.set i (some (.list (xs.eraseIdx p)))).set j (some x)) s else .stuck
  | .appPop i j k, ρ, s => (R.lift (getL ρ i) s).bnd fun ys s => (R.lift (getL ρ j) s).bnd fun xs s => (ev C k ρ s).bnd fun kd s => if ys.length < LIM ∧ xs.length ≤ LIM then
      nextR ((placeD xs.length kd).bind fun p => (xs[p]?).map fun x => (ρ.set j (some (.list (xs.eraseIdx p)))).set i (some (.list (ys ++ [x])))) s else .stuck
  | .ite c a b, ρ, s => (ev C c ρ s).bnd fun x s => (boolR x s).bnd fun k s => if k = true then evS C W a ρ s else evS C W b ρ s
  | .forr tg it b, ρ, s => (evI C it ρ s).bnd fun xs s => forL (fun x ρ s => (R.lift (bindT tg x ρ) s).bnd fun ρ s => evS C W b ρ s) xs ρ s
  | .whl c b, ρ, s => whileL (fun ρ s => (ev C c ρ s).bnd fun x s => boolR x s) (fun ρ s => evS C W b ρ s) W ρ s
  | .ret e, ρ, s => (ev C e ρ s).bnd fun d s => .ok (.ret d, ρ) s
  | .retN, ρ, s => .ok (.ret .none, ρ) s
  | .raiM _, _, s => .err .mal s
  | .raiR e, ρ, s => (ev C e ρ s).bnd fun d s => (match d with
      | .str r => .err (.refu r) s
      | _ => .stuck)
  | .brk, ρ, s => .ok (.brk, ρ) s
  | .cnt, ρ, s => .ok (.cnt, ρ) s
  | .pas, ρ, s => .ok (.next, ρ) s
  | .tryW f a, ρ, s => (ev C a ρ s).bnd fun d s => (match C f [d] s with
      | .ok _ s => .ok (.ret (.str "none"), ρ) s
      | .err .mal s => .ok (.ret (.str "malformed"), ρ) s
      | .err (.refu _) _ => .stuck
      | .stuck => .stuck)
  | .tryR f a, ρ, s => (ev C a ρ s).bnd fun d s => (match C f [d] s with
      | .ok _ s => .ok (.ret (.str "none"), ρ) s
      | .err .mal s => .ok (.ret (.str "malformed"), ρ) s
      | .err (.refu r) s => .ok (.ret (.str r), ρ) s
      | .stuck => .stuck)
  | .sdrw i k e, ρ, s => (ev C e ρ s).bnd fun d s => (R.lift (isDr (ρ.getD i none)) s).bnd fun _ s => (R.lift (setDr k d s) s).bnd fun s _ => .ok (.next, ρ) s

/-! ### defs -/
structure FnI where
  name : Str
  ps : List Str
  N : List Str
  own : List Nat
  fresh : Bool
  body : S
abbrev Tab := List FnI
def isLst : D → Bool
  | .list _ => true
  | _ => false
def run (T : Tab) (W : Nat) : Nat → CallF
  | 0, _, _, _ => .stuck
  | n + 1, f, as, s => match T[f]? with
    | none => .stuck
    | some fi => if as.length = fi.ps.length then (evS (run T W n) W fi.body (as.map some ++ List.replicate (fi.N.length - as.length) none) s).bnd fun q s => (match q.1 with
        | .ret d => if (!fi.fresh || isLst d) = true then .ok d s else .stuck
        | .next => if (!fi.fresh) = true then .ok .none s else .stuck
        | _ => .stuck) else .stuck
end EV
end

section
set_option Elab.async false
set_option linter.all false
set_option autoImplicit false
set_option maxRecDepth 100000
/-! EvRel: how data lies in the heap; the state of a body. -/
namespace EV
open PySem PySem.Spec PyProof.Rows L2

/-- what all of a law's proof shares -/
structure Par where
  P : Program
  w : World
  K : PySem.W.Frag
  mg : Str → Option Value
  base : Heap
  a0 : Addr
  c0 : Addr
  T : Tab
  W : Nat
  M : Addr
  Rf : Addr

/-- a tuple of the module's own is a plain one -/
def PlnT (K : PySem.W.Frag) (H : Hp) (a : Addr) : Prop := (∃ o, K.lookup a = some o ∧ o.cls = .type "tuple" ∧ o.dict = none) ∨ ∃ o u, H a = some (.frz o u) ∧ o.cls = .type "tuple" ∧ o.dict = none
section
mutual
/-- the value v stands for the datum d; its lists and tuples are none of F -/
inductive Rp (p : Par) (F : Addr → Prop) (H : Hp) : V → D → Prop
  | non : Rp p F H .non .none
  | bl (b : Bool) : Rp p F H (.bl b) (.bool b)
  | int (i : Int) : Rp p F H (.int i) (.int i)
  | str (x : Str) : Rp p F H (.str x) (.str x)
  | lst {a : Addr} {xs : List V} {ds : List D} : ¬ F a → H a = some (.lst xs) → RpA p F H xs ds → Rp p F H (.ref a) (.list ds)
  | tup {a : Addr} {xs : List V} {ds : List D} : ¬ F a → SqT p.K H a xs → PlnT p.K H a → RpA p F H xs ds → Rp p F H (.ref a) (.tuple ds)
  | drw : Rp p F H (.ref p.a0) (.dict [])
inductive RpA (p : Par) (F : Addr → Prop) (H : Hp) : List V → List D → Prop
  | nil : RpA p F H [] []
  | cons {v : V} {vs : List V} {d : D} {ds : List D} : Rp p F H v d → RpA p F H vs ds → RpA p F H (v :: vs) (d :: ds)
end
variable {p : Par} {F F' : Addr → Prop} {H H' H1 H2 : Hp}

theorem SqL.fr {K : PySem.W.Frag} {a : Addr} {xs : List V} (h : SqL K H a xs) (k : ∀ o, H a = some o → H' a = some o) : SqL K H' a xs := by
  rcases h with (h | ⟨o, h⟩) | h
  · exact .inl (.inl (k _ h))
  · exact .inl (.inr ⟨o, k _ h⟩)
  · exact .inr h
theorem SqT.fr {K : PySem.W.Frag} {a : Addr} {xs : List V} (h : SqT K H a xs) (k : ∀ o, H a = some o → H' a = some o) : SqT K H' a xs := by
  rcases h with (h | ⟨o, h⟩) | h
  · exact .inl (.inl (k _ h))
  · exact .inl (.inr ⟨o, k _ h⟩)
  · exact .inr h
theorem SqL.there {K : PySem.W.Frag} {a : Addr} {xs : List V} (h : SqL K H a xs) : H a ≠ none ∨ K.lookup a ≠ none := by
  rcases h with (h | ⟨o, h⟩) | ⟨o, _, _, h, _⟩
  · exact .inl (by rw [h]; simp)
  · exact .inl (by rw [h]; simp)
  · exact .inr (by rw [h]; simp)
theorem SqT.there {K : PySem.W.Frag} {a : Addr} {xs : List V} (h : SqT K H a xs) : H a ≠ none ∨ K.lookup a ≠ none := by
  rcases h with (h | ⟨o, h⟩) | ⟨o, _, _, h, _⟩
  · exact .inl (by rw [h]; simp)
  · exact .inl (by rw [h]; simp)
  · exact .inr (by rw [h]; simp)

/-- one heap for another, one set for another -/
theorem Rp.to {v : V} {d : D} (h : Rp p F H v d) (k : ∀ a o, H a = some o → ¬ F a → H' a = some o) (g : ∀ a, H a ≠ none ∨ p.K.lookup a ≠ none → ¬ F a → ¬ F' a) : Rp p F' H' v d := by
  refine Rp.rec (motive_1 := fun v d _ => Rp p F' H' v d) (motive_2 := fun vs ds _ => RpA p F' H' vs ds) .non .bl .int .str ?_ ?_ .drw .nil ?_ h
  · intro a xs ds nf hs _ ih
    exact .lst (g a (.inl (by rw [hs]; simp)) nf) (k a _ hs nf) ih
  · intro a xs ds nf hs pl _ ih
    exact .tup (g a (SqT.there hs) nf) (SqT.fr hs fun o e => k a o e nf) (pl.imp id fun ⟨o, u, e, q⟩ => ⟨o, u, k a _ e nf, q⟩) ih
  · intro v vs d ds _ _ h1 h2
    exact .cons h1 h2
theorem RpA.to {vs : List V} {ds : List D} (h : RpA p F H vs ds) (k : ∀ a o, H a = some o → ¬ F a → H' a = some o) (g : ∀ a, H a ≠ none ∨ p.K.lookup a ≠ none → ¬ F a → ¬ F' a) : RpA p F' H' vs ds := by
  induction ds generalizing vs with
  | nil => cases h; exact .nil
  | cons d ds ih =>
    cases h with
    | cons h1 h2 => exact .cons (h1.to k g) (ih h2)
theorem Rp.fr {v : V} {d : D} (h : Rp p F H v d) (k : ∀ a o, H a = some o → ¬ F a → H' a = some o) : Rp p F H' v d := h.to k fun _ _ n => n
theorem RpA.fr {vs : List V} {ds : List D} (h : RpA p F H vs ds) (k : ∀ a o, H a = some o → ¬ F a → H' a = some o) : RpA p F H' vs ds := h.to k fun _ _ n => n
theorem Rp.anti {v : V} {d : D} (h : Rp p F H v d) (k : ∀ a, F' a → F a) : Rp p F' H v d := h.to (fun _ _ e _ => e) fun a _ n m => n (k a m)
theorem RpA.anti {vs : List V} {ds : List D} (h : RpA p F H vs ds) (k : ∀ a, F' a → F a) : RpA p F' H vs ds := h.to (fun _ _ e _ => e) fun a _ n m => n (k a m)
theorem RpA.len {vs : List V} {ds : List D} (h : RpA p F H vs ds) : vs.length = ds.length := by
  induction ds generalizing vs with
  | nil => cases h; rfl
  | cons d ds ih => cases h with | cons _ h2 => simp [ih h2]
theorem RpA.get {vs : List V} {ds : List D} (h : RpA p F H vs ds) {i : Nat} {d : D} (e : ds[i]? = some d) : ∃ v, vs[i]? = some v ∧ Rp p F H v d := by
  induction ds generalizing vs i with
  | nil => simp at e
  | cons d' ds ih =>
    cases h with
    | cons h1 h2 =>
      cases i with
      | zero => simp at e; subst e; exact ⟨_, rfl, h1⟩
      | succ i => simpa using ih h2 (by simpa using e)
theorem RpA.append {vs ws : List V} {ds es : List D} (h : RpA p F H vs ds) (h' : RpA p F H ws es) : RpA p F H (vs ++ ws) (ds ++ es) := by
  induction ds generalizing vs with
  | nil => cases h; exact h'
  | cons d ds ih => cases h with | cons h1 h2 => exact .cons h1 (ih h2)
theorem RpA.take {vs : List V} {ds : List D} (h : RpA p F H vs ds) (n : Nat) : RpA p F H (vs.take n) (ds.take n) := by
  induction ds generalizing vs n with
  | nil => cases h; simp; exact .nil
  | cons d ds ih =>
    cases h with
    | cons h1 h2 =>
      cases n with
      | zero => exact .nil
      | succ n => exact .cons h1 (ih h2 n)
theorem RpA.drop {vs : List V} {ds : List D} (h : RpA p F H vs ds) (n : Nat) : RpA p F H (vs.drop n) (ds.drop n) := by
  induction ds generalizing vs n with
  | nil => cases h; simp; exact .nil
  | cons d ds ih =>
    cases h with
    | cons h1 h2 =>
      cases n with
      | zero => exact .cons h1 h2
      | succ n => exact ih h2 n
theorem RpA.set {vs : List V} {ds : List D} (h : RpA p F H vs ds) (j : Nat) {v : V} {d : D} (r : Rp p F H v d) : RpA p F H (vs.set j v) (ds.set j d) := by
  induction ds generalizing vs j with
  | nil => cases h; simp; exact .nil
  | cons d' ds ih =>
    cases h with
    | cons h1 h2 =>
      cases j with
      | zero => exact .cons r h2
      | succ j => exact .cons h1 (ih h2 j)
theorem RpA.erase {vs : List V} {ds : List D} (h : RpA p F H vs ds) (j : Nat) : RpA p F H (vs.eraseIdx j) (ds.eraseIdx j) := by
  induction ds generalizing vs j with
  | nil => cases h; simp; exact .nil
  | cons d' ds ih =>
    cases h with
    | cons h1 h2 =>
      cases j with
      | zero => exact h2
      | succ j => exact .cons h1 (ih h2 j)
theorem RpA.reps {vs : List V} {ds : List D} (h : RpA p F H vs ds) (k : Nat) : RpA p F H (List.replicate k vs).flatten (List.replicate k ds).flatten := by
  induction k with
  | zero => exact .nil
  | succ k ih => rw [List.replicate_succ, List.replicate_succ, List.flatten_cons, List.flatten_cons]; exact h.append ih
mutual
theorem Rp.dp : ∀ (d : D) {v : V}, Rp p F H v d → d.plain = true → Dp p.K H v d
  | .none, _, h, _ => by cases h; exact .non
  | .bool b, _, h, _ => by cases h; exact .bl b
  | .int b, _, h, _ => by cases h; exact .int b
  | .str b, _, h, _ => by cases h; exact .str b
  | .list ds, _, h, hp => by cases h with | lst _ hs ha => exact .lst (SqL.of hs) (RpA.dp ds ha hp)
  | .tuple ds, _, h, hp => by cases h with | tup _ hs _ ha => exact .tup hs (RpA.dp ds ha hp)
  | .dict _, _, _, hp => by simp [PyData.plain] at hp
theorem RpA.dp : ∀ (ds : List D) {vs : List V}, RpA p F H vs ds → PyData.plainAll ds = true → DpAll p.K H vs ds
  | [], _, h, _ => by cases h; exact .nil
  | d :: ds, _, h, hp => by
    have hp' : d.plain = true ∧ PyData.plainAll ds = true := by simpa [PyData.plainAll] using hp
    cases h with
    | cons h1 h2 => exact .cons (Rp.dp d h1 hp'.1) (RpA.dp ds h2 hp'.2)
end
end

/-! ### frames -/
/-- what is tracked stays, but the draws' list -/
def FrE (p : Par) (H H' : Hp) : Prop := ∀ a o, H a = some o → a ≠ p.a0 → H' a = some o
/-- the draws -/
structure Dr (p : Par) (H : Hp) (s : DS) : Prop where
  at0 : H p.a0 = some (.lst [.ref p.c0, .int ((s.p : Int) - 1), .int s.cur, .int s.seed])
  cells : SqL p.K H p.c0 (s.cells.map V.int)
  ne : p.c0 ≠ p.a0
def Good (p : Par) (H : Hp) : Prop := ∀ a o, H a = some o → p.K.lookup a = none
/-- a tuple's object, with no dict -/
def PlnO (o : Obj) : Prop := o.cls = .type "tuple" ∧ o.dict = none
theorem pln_new {K : PySem.W.Frag} {H : Hp} {a : Addr} {o : Obj} {u : HO} (h : PlnO o) : PlnT K (upd H a (.frz o u)) a := .inr ⟨o, u, upd_same, h⟩
theorem SqT.ofF {K : PySem.W.Frag} {H : Hp} {a : Addr} {o : Obj} {xs : List V} : SqT K (upd H a (.frz o (.tup xs))) a xs := .inl (.inr ⟨o, upd_same⟩)
section
variable {p : Par} {H H1 H2 : Hp} {s : DS}
theorem FrE.refl : FrE p H H := fun _ _ e _ => e
theorem FrE.trans (a : FrE p H H1) (b : FrE p H1 H2) : FrE p H H2 := fun c o e n => b c o (a c o e n) n
theorem FrE.of (a : Same H H1) : FrE p H H1 := fun c o e _ => a c o e
theorem Dr.same (d : Dr p H s) (k : Same H H1) : Dr p H1 s := ⟨k _ _ d.at0, SqL.fr d.cells fun _ e => k _ _ e, d.ne⟩
theorem same_upd {a : Addr} {o : HO} (h : H a = none) : Same H (upd H a o) := fun b x e => by rw [upd_ne (ne_of_none e h)]; exact e
end

/-- a def's own matters: its own slots, what is not to be handed out, the heap at its entry, is its list its own, what is wanted of errors -/
structure Fx where
  own : List Nat
  S : Addr → Prop
  H0 : Hp
  fresh : Bool
  W : XK

structure St (p : Par) (x : Fx) (F : Addr → Prop) (σ : L2.St) (H : Hp) (ρ : Env) (s : DS) : Prop where
  len : σ.length = ρ.length
  rel : ∀ i d, ρ[i]? = some (some d) → i ∉ x.own → ∃ v, σ[i]? = some (some v) ∧ Rp p F H v d
  relO : ∀ i d, ρ[i]? = some (some d) → i ∈ x.own → ∃ a vs ds, d = .list ds ∧ σ[i]? = some (some (.ref a)) ∧ H a = some (.lst vs) ∧ F a ∧ x.H0 a = none ∧ a ≠ p.a0 ∧ RpA p F H vs ds
  inj : ∀ i j d e a, i ∈ x.own → j ∈ x.own → ρ[i]? = some (some d) → ρ[j]? = some (some e) → σ[i]? = some (some (.ref a)) → σ[j]? = some (some (.ref a)) → i = j
  dr : Dr p H s
  good : Good p H
  tr : ∀ a, F a → H a ≠ none
  fa : F p.a0
  fc : ¬ F p.c0
  sf : ∀ a, x.S a → F a
  fr : FrE p x.H0 H
  th : ∀ a, x.H0 a ≠ none → H a ≠ none

section
variable {p : Par} {x : Fx} {F : Addr → Prop} {σ : L2.St} {H H' : Hp} {ρ : Env} {s s' : DS}
theorem FrE.nf (k : FrE p H H') (fa : F p.a0) : ∀ a o, H a = some o → ¬ F a → H' a = some o := fun a o e n => k a o e fun z => n (z ▸ fa)
/-- behind an expression -/
theorem St.step (t : St p x F σ H ρ s) (k : FrE p H H') (d : Dr p H' s') (g : Good p H') : St p x F σ H' ρ s' := by
  have k' := k.nf t.fa
  have th : ∀ a, H a ≠ none → H' a ≠ none := fun a n z => by
    by_cases e : a = p.a0
    · rw [e, d.at0] at z; cases z
    · cases q : H a with
      | none => exact n q
      | some o => rw [k a o q e] at z; cases z
  refine ⟨t.len, fun i d e n => ?_, fun i d e n => ?_, t.inj, d, g, fun a f => th a (t.tr a f), t.fa, t.fc, t.sf, t.fr.trans k, fun a n => th a (t.th a n)⟩
  · obtain ⟨v, h1, h2⟩ := t.rel i d e n
    exact ⟨v, h1, h2.fr k'⟩
  · obtain ⟨a, vs, ds, h1, h2, h3, h4, h5, h6, h7⟩ := t.relO i d e n
    exact ⟨a, vs, ds, h1, h2, k a _ h3 h6, h4, h5, h6, h7.fr k'⟩
theorem St.nk (t : St p x F σ H ρ s) {a : Addr} (f : F a) : p.K.lookup a = none := by
  cases q : H a with
  | none => exact absurd q (t.tr a f)
  | some o => exact t.good a o q
/-- a new address is in no datum -/
theorem ext_new {a : Addr} (h : H a = none) (g : ∀ o, H' a = some o → p.K.lookup a = none) (q : ∃ o, H' a = some o) : ∀ b, H b ≠ none ∨ p.K.lookup b ≠ none → ¬ F b → ¬ (F b ∨ b = a) := fun b hb n z => by
  rcases z with z | z
  · exact n z
  · subst z
    obtain ⟨o, q⟩ := q
    rcases hb with hb | hb
    · exact hb h
    · exact hb (g o q)
end

/-! ### how an error lies -/
def ErrAt (p : Par) : Exn → Value → Option Addr → Hp → Prop
  | .mal, c, d, _ => c = .ref p.M ∧ d = none
  | .refu r, c, d, H => c = .ref p.Rf ∧ ∃ a, d = some a ∧ H a = some (.xd [("reason", .str r)])
end EV
end

section
set_option Elab.async false
set_option linter.all false
set_option autoImplicit false
set_option maxRecDepth 100000
set_option maxHeartbeats 4000000
/-! EvRef: an own exception over ValueError whose __init__ says super().__init__(reason); self.reason = reason. -/
namespace EV
open PySem PySem.Spec PyProof.Rows L2
/-- what __init__ keeps -/
def spRef (C : Addr) : Sp := fun vs H Q E => ∃ (a : Addr) (y : V), vs = [.ref a, y] ∧ H a = some (exo a C none) ∧ ∀ dx, H dx = none → dx ≠ a → Q .non (upd (upd H dx (exd dx [("reason", y)])) a (exo a C (some dx)))
theorem eval_mcall {o : Expr} {name : Str} {p2 p4 p3 : Pos} {x : Str} {env : PySem.Env} (hp : (p2.endLine == p4.line) = true) : eval (.Call (.Attribute o name p2) [.Name x p3] [] p4) env = (do
      let ov ← attributeBase o name env (eval o env)
      standAt p2.atName
      let (f, first) ← holding [ov] (getMethod ov name (do return (← importBound o env).getD true))
      callWith p4 f first (backTo p4 (starEach [.Name x p3] env)) []) := by
  show (do
    let ov ← attributeBase o name env (eval o env)
    standAt p2.atName
    methodCall o name p2 p4 env ov 1 (backTo p4 (starEach [.Name x p3] env)) []) = _
  have hf : methodCallForm 1 (backTo p4 (starEach [.Name x p3] env)) [] = true := by rfl
  unfold methodCall calleeOf methodCallPos
  rw [hf]
  simp only [if_true, hp, Bool.not_true, Bool.false_or, pure_bind]
section
open PySem.W
variable {P : Program} {w : World} {K : PySem.W.Frag} {mg : Str → Option Value} {base : Heap} {CX : CXT} {k : Nat} {fI C cc cda : Addr} {qual : Str} {params : Arguments} {scope : Scope} {dV kV doc pm ct oc ccl cl : Value} {an od cdd cld : Option Addr} {osl ccs csl : Array (Option Value)} {vs : Array Value} {file : Str} {tf : Tok} {p0 p1 p2 p3 p4 p5 p6 p7 p8 p9 : Pos} {ar : Arg}
abbrev refBody (p0 p1 p2 p3 p4 p5 p6 p7 p8 p9 : Pos) : List Stmt := [.Expr (.Call (.Attribute (.Call (.Name "super" p0) [] [] p1) "__init__" p2) [.Name "reason" p3] [] p4) p5, .Assign [.Attribute (.Name "self" p6) "reason" p7] (.Name "reason" p8) p9]
theorem ref_init (T : OexC K C) (hp24 : (p2.endLine == p4.line) = true)
    (lk : K.lookup fI = some ⟨oc, od, .func (fnX "__init__" qual params (refBody p0 p1 p2 p3 p4 p5 p6 p7 p8 p9) scope [("__class__", cc)] dV kV doc pm an (.ref cda) ct), osl⟩)
    (hcd : codeIn K (.ref cda) qual = true) (hcode : K.lookup cda = some ⟨ccl, cdd, .fields vs, ccs⟩) (hvs : vs[2]? = some (.str file tf)) (hfile : ((P.main.file : Str) == file) = true)
    (hcell : K.lookup cc = some ⟨cl, cld, .cell (some (.ref C)), csl⟩) (hsub : mroIn K C (.ref C) = some true) (hmg : mg "super" = none)
    (hpar : (params.posonlyargs ++ params.args).head? = some ar) (har : ar.arg = "self")
    (hks : scope.names.lookup ("super" : Str) = some .globalImplicit) (hkc : scope.names.lookup ("__class__" : Str) = some .free) (hka : scope.names.lookup ("self" : Str) = some .local) (hkr : scope.names.lookup ("reason" : Str) = some .local)
    (hk : scope.kind = .function) (hcl : ∀ x ∈ scope.names, x.2 ≠ .cell) (hco : scope.isCoroutine = false) (hgen : scope.isGenerator = false)
    (htop : (P.main.scope.names.lookup ("super" : Str)).isSome = false) (ho : nsIn K cStatics "thirdparty.any" = some none)
    (hm : ks_superIn K C C "__init__" = some (some (.builtin "ValueError.__init__"))) (hB : subIn K (.ref C) (.type "ValueError") = some true) (hno : findIn K (.ref C) "reason" = some none) :
    FnOk P w K mg base CX k fI (fnX "__init__" qual params (refBody p0 p1 p2 p3 p4 p5 p6 p7 p8 p9) scope [("__class__", cc)] dV kV doc pm an (.ref cda) ct) ["self", "reason"] (spRef C) := by
  refine ⟨fun vs H Q E hsp => ?_, fun A outer s H args us vv Q E hr e0 hb r hsp => ?_⟩
  · obtain ⟨a, y, rfl, _⟩ := hsp
    rfl
  obtain ⟨a, y, rfl, ea, hq⟩ := hsp
  obtain ⟨u, rfl, ry⟩ : ∃ u, us = [.ref a, u] ∧ RelV y u := by
    cases r with
    | cons r1 r2 =>
      cases r2 with
      | cons r3 r4 =>
        cases r4
        obtain rfl := (show _ = Value.ref a from r1)
        exact ⟨_, rfl, r3⟩
  have KX : K.In s.heap := e0.mod.kin.keeps fun b o e => (e0.bs b o e).1
  have lim : s.heap.NoLimit := e0.mod.nolimit.keeps fun b o e => (e0.bs b o e).1
  refine ks_codeAny_call_defAt (fd := fnX "__init__" qual params (refBody p0 p1 p2 p3 p4 p5 p6 p7 p8 p9) scope [("__class__", cc)] dV kV doc pm an (.ref cda) ct) (body := refBody p0 p1 p2 p3 p4 p5 p6 p7 p8 p9) (binds := (["self", "reason"] : List Str).zip [.ref a, u]) hr.depth (KX _ _ lk) rfl lim (PySem.W.codeRec_of KX hcd) rfl hb hcl ?_ (fun h₀ hns hk₁ => ?_) hco hgen hk
  · intro x hx
    simp only [List.zip_cons_cons, List.zip_nil_left, List.mem_cons, List.not_mem_nil, or_false] at hx
    rcases hx with rfl | rfl
    · exact hka
    · exact hkr
  have K0 : K.In h₀ := fun b o e => hk₁ _ _ (KX _ _ e)
  obtain ⟨nm, q, N, bs, bm, sn, sub, ab, col, dd, k0, k1, k2, k3, k5, hC, hbm⟩ := T.cls
  have hcl2 : PySem.W.clsIn K C = some { name := nm, bases := bs, mro := .ref C :: bm, ns := N, qualname := q, hasDict := true, slotNames := sn, subclasses := sub, abstract := ab, collection := col, hasDel := false } := by unfold PySem.W.clsIn; rw [hC] <;> rfl
  obtain ⟨t1, hoa⟩ := exo_at e0.hok ea
  have hoa0 := hk₁ _ _ hoa
  obtain ⟨mb, hb1, hb2⟩ := e0.mod.blt
  have up0 : ∀ b o, base.get? b = some o → h₀.get? b = some o := fun b o e => hk₁ _ _ (e0.bs b o e).1
  obtain ⟨hp, g, d, tk, os⟩ := s
  refine ks_wpAt_execs_cons (ks_wpAt_Expr_any (ks_wpAt_MethodCall (ks_wpAt_super_base (env := ksEnv qual scope hp.objs.size fI (.ref cda) cc) hks hkc rfl rfl (K0 _ _ lk) rfl hpar rfl (K0 _ _ hcode) rfl hvs hfile htop ?_) (eval_mcall hp24)) (by show interactive (ksEnv qual scope hp.objs.size fI (.ref cda) cc) = false; simp [interactive, hk]))
  refine ks_loadName_global hk hks (Calls.loadGlobal_builtin (env := ksEnv qual scope hp.objs.size fI (.ref cda) cc) (e0.mod.glob.keeps up0) hmg (hb1.keeps up0) ((hb2 "super" (by decide)).trans (by decide +kernel)) ⟨rfl, ?_⟩)
  refine wpAny_loadName_free hk hkc rfl ⟨_, K0 _ _ hcell, rfl⟩ ?_
  rw [har]
  refine wpAny_loadName_local hk hka hns rfl ?_
  obtain ⟨oD, hD1, hD2⟩ : ∃ oD, h₀.get? C = some oD ∧ oD.data = .cls { name := nm, bases := bs, mro := .ref C :: bm, ns := N, qualname := q, hasDict := true, slotNames := sn, subclasses := sub, abstract := ab, collection := col, hasDel := false } := ⟨_, K0 _ _ hC, rfl⟩
  refine ks_wpAny_isType_cls hD1 hD2 ⟨rfl, ?_⟩
  refine ks_wpAny_call_super hD1 hD2 hoa0 rfl (fun c e => by cases e) (looks_mroIn K0 hsub) (fun h1 so1 up1 => ?_)
  have K1 : K.In h1 := fun b o e => up1 _ _ (K0 _ _ e)
  have hoa1 := up1 _ _ hoa0
  have I1 : InstAt h1 a { cls := .ref C, data := .fields #[.ref t1, .none, .none, .none, .bool false, .none] } C none := ⟨hoa1, rfl, rfl, trivial⟩
  have alongV : alongIn K "__init__" (((Value.ref C :: bm).dropWhile (· != .ref C)).drop 1) = some (some (.builtin "ValueError.__init__")) := by
    unfold ks_superIn at hm
    rw [hcl2] at hm
    exact hm
  refine kxs_getMethod kxs_ValueError so1 (looks_opaque K1 ho) (l₀ := .ref C :: bm) (fun A Q E s k q => wpAny_bind ((looks_clsIn K1 hcl2) A _ E s k (wpAny_pure q))) rfl K1 alongV (I1.type.andThen (looks_subIn K1 hB)) (ks_ne K1 I1 hcl2) (by decide) ?_
  -- the call of the bound __init__
  have up2 : ∀ b o, h1.get? b = some o → (h1.push (kxs_mw "ValueError.__init__" a)).get? b = some o := fun b o e => Heap.get?_push_of_some _ e
  have hu2 : (h1.push (kxs_mw "ValueError.__init__" a)).get? h1.objs.size = some (kxs_mw "ValueError.__init__" a) := Heap.get?_push_at rfl rfl
  have up3 : ∀ b o, h₀.get? b = some o → (h1.push (kxs_mw "ValueError.__init__" a)).get? b = some o := fun b o e => up2 _ _ (up1 _ _ e)
  have hns2 := hns.keeps up3
  show wpAny _ _ (callWith p4 (.ref h1.objs.size) [] (backTo p4 (starEach [.Name "reason" p3] (ksEnv qual scope hp.objs.size fI (.ref cda) cc))) []) _ _ _
  refine kxs_callWith (i := "ValueError.__init__") (x := a) (by rfl) ?_
  refine Calls.evalArgs_plain ?_
  refine Calls.spliced_cons (wpAny_Name (wpAny_loadName_local hk hkr hns2 rfl ?_) (by decide))
  refine Calls.spliced_nil ⟨hu2, ?_⟩
  have hoa2 := up3 _ _ hoa0
  have FB := F.excBase_ValueError
  have K2 : K.In (h1.push (kxs_mw "ValueError.__init__" a)) := fun b o e => up3 _ _ (K0 _ _ e)
  refine wpAny_call (codeAny_of_tree ?_)
  show wpAny _ _ (callAny (.ref h1.objs.size) ⟨[u], []⟩) _ _ _
  simp only [callAny]
  refine wpAny_bind (wpAny_load hu2 ?_)
  simp only [kxs_mw, show (Value.type "method-wrapper" == Value.type "method" || Value.type "method-wrapper" == Value.type "builtin_function_or_method" || Value.type "method-wrapper" == Value.type "method-wrapper") = true by decide, if_true]
  refine KFB.if_so (by decide) ?_
  refine wpAny_bind (check_bound_init FB.toExcCallFacts (K2 _ _ hC) hoa2 rfl ?_)
  refine wpAny_bind (wpAny_pure (wpAny_pure ?_))
  refine ⟨plainId_quiet FB.init.plain _, codeAny_builtin FB.initEntry ?_⟩
  refine exc_init_tree (cls := .ref C) (t0 := t1) (dv := none) (c2 := .none) (c3 := .none) (b4 := .bool false) hoa2 (by simp [sizeLine_eq]) (fun h3 k3 hx3 ht3 => ?_)
  -- the field
  have nba : ∀ {b : Addr} {o : Obj}, K.lookup b = some o → b ≠ a := fun {b o} e z => by
    have := (e0.bs b o (e0.mod.kin b o e)).2
    rw [z, ea] at this
    cases this
  have K3 : K.In h3 := fun b o e => k3 b o (nba e) (K2 _ _ e)
  have hLa : hp.objs.size ≠ a := fun z => by
    have := Heap.lt_size hoa
    rw [← z] at this
    exact absurd this (Nat.lt_irrefl _)
  have hns3 : h3.Ns hp.objs.size fun x => List.lookup x (([("self" : Str), "reason"] : List Str).zip [Value.ref a, u]).reverse := by
    obtain ⟨oL, es, ep, hL, r⟩ := hns2
    exact ⟨oL, es, ep, k3 _ _ hLa hL, r⟩
  refine wpAt_of_wpAny ?_
  refine wpAny_execs_cons ?_
  refine plainObj_wpAny_Assign_Attribute (wpAny_Name (wpAny_loadName_local hk hkr hns3 rfl ?_) (by decide)) (by rfl)
  refine wpAny_Name (wpAny_loadName_local hk hka hns3 rfl ?_) (by decide)
  refine PySem.W.set_plain K3 (ox := { cls := .ref C, dict := none, data := .fields #[.ref (h1.push (kxs_mw "ValueError.__init__" a)).objs.size, .none, .none, .none, .bool false, .none] }) (od := none) ⟨hx3, rfl, rfl, trivial⟩ T.sa ?_
  refine PySem.HandSPX.exc_osa K3 hx3 hcl2 (show PySem.HandSPX.refsVE (.ref C :: bm) = true from hbm) rfl hno (fun h' tk' dx k dn dne hx hn => ?_)
  have hsz : hp.objs.size ≤ dx := by
    obtain ⟨oL, es, ep, hL, r⟩ := hns3
    exact Nat.le_trans (Nat.le_of_lt (Heap.lt_size hL)) dn
  have kk : ∀ b o, b ≠ a → hp.get? b = some o → h'.get? b = some o := fun b o hb e => k b o hb (k3 b o hb (up3 _ _ (hk₁ _ _ e)))
  have hnd : H dx = none := e0.hok.fresh hsz
  have nd : ∀ {b : Addr} {o : Obj}, hp.get? b = some o → b ≠ dx := fun {b o} q => Nat.ne_of_lt (Nat.lt_of_lt_of_le (Heap.lt_size q) hsz)
  have na : ∀ {b : Addr}, H b = none → b ≠ a := fun {b} n z => by
    rw [z, ea] at n
    cases n
  have Un1 : Un (frs outer) [] H (upd (upd H dx (exd dx [(("reason" : Str), y)])) a (exo a C (some dx))) hp h' := {
    keep := fun b o q n _ _ => kk b o (na n) q
    slot := fun b o q n _ _ => ⟨o.slots, kk b o (na n) q⟩
    free := fun b o q n _ => by rw [upd_ne (na n), upd_ne (nd q)]; exact n
    there := fun b o q _ => by
      by_cases hb : b = a
      · exact ⟨_, by rw [hb]; exact hx⟩
      · exact ⟨o, kk b o hb q⟩
    tups := fun b xs q => by rw [upd_ne (at_ne ea q exo_tup), upd_ne (ne_of_none q hnd)]; exact q
    frzs := fun b o v q => by rw [upd_ne (at_ne ea q exo_frz), upd_ne (ne_of_none q hnd)]; exact q
    tbls := fun b ps q => ⟨#[], by rw [upd_ne (at_ne ea q exo_tbl), upd_ne (ne_of_none q hnd), q]; simp⟩ }
  refine wpAny_execs_nil ?_
  refine ⟨.non, _, rfl, e0.bare, Un1, fun b o q => ?_, rfl, hq dx hnd dne⟩
  by_cases hb2 : b = a
  · subst hb2
    rw [upd_same] at q
    cases q
    exact exo_ok hx
  · rw [upd_ne hb2] at q
    by_cases hd : b = dx
    · subst hd
      rw [upd_same] at q
      cases q
      exact exd_ok hn (relO_put (fs := []) ry fun g => True.intro)
    · rw [upd_ne hd] at q
      exact (e0.hok b o q).stay (fun c v hc z => kk c v (by
          rcases hc with hc | hc
          · rw [hc]
            exact hb2
          · exact at_ne ea hc exo_own) z)
        (fun c hc => by rw [upd_ne (at_ne ea hc exo_own), upd_ne (ne_of_none hc hnd)]; exact hc) (fun c xs hc => by rw [upd_ne (at_ne ea hc exo_tup), upd_ne (ne_of_none hc hnd)]; exact hc)
end
end EV
end

section
set_option Elab.async false
set_option linter.all false
set_option autoImplicit false
set_option maxRecDepth 100000
/-! EvOps: the operators and built-ins do on values what they do on data. -/
namespace EV
open PySem PySem.Spec PyProof.Rows L2

/-- a value for a datum; b: the list itself may be one of F -/
def Rk (p : Par) (b : Bool) (F : Addr → Prop) (H : Hp) (v : V) (d : D) : Prop :=
  Rp p F H v d ∨ (b = true ∧ ∃ a vs ds, v = .ref a ∧ d = .list ds ∧ a ≠ p.a0 ∧ H a = some (.lst vs) ∧ RpA p F H vs ds)
inductive RkA (p : Par) (b : Bool) (F : Addr → Prop) (H : Hp) : List V → List D → Prop
  | nil : RkA p b F H [] []
  | cons {v : V} {vs : List V} {d : D} {ds : List D} : Rk p b F H v d → RkA p b F H vs ds → RkA p b F H (v :: vs) (d :: ds)
/-- what an operation hands out: a list is new -/
def RF (p : Par) (F : Addr → Prop) (H H' : Hp) (v : V) (d : D) : Prop := match d with
  | .list ds => ∃ a vs, v = .ref a ∧ H a = none ∧ H' a = some (.lst vs) ∧ RpA p (fun b => F b ∨ b = a) H' vs ds
  | d => Rp p F H' v d
def RX (p : Par) (fr : Bool) (F : Addr → Prop) (H H' : Hp) (v : V) (d : D) : Prop := if fr = true then RF p F H H' v d else Rp p F H' v d
def FT (F : Addr → Prop) (H : Hp) : Prop := ∀ a, F a → H a ≠ none
/-- an operation's end -/
def PO (p : Par) (fr : Bool) (F : Addr → Prop) (H : Hp) (o : Option D) (Q : VK) : Prop := match o with
  | some d => ∀ v H', Same H H' → Good p H' → RX p fr F H H' v d → Q v H'
  | none => False
section
variable {p : Par} {F : Addr → Prop} {H H' : Hp} {v : V} {d : D} {b : Bool}
theorem RF.rp (h : RF p F H H' v d) (ft : FT F H) : Rp p F H' v d := by
  cases d with
  | list ds =>
    obtain ⟨a, vs, rfl, h1, h2, h3⟩ := h
    exact .lst (fun f => ft a f h1) h2 (h3.anti fun _ f => .inl f)
  | _ => exact h
theorem RX.rp {fr : Bool} (h : RX p fr F H H' v d) (ft : FT F H) : Rp p F H' v d := by
  cases fr with
  | true => exact RF.rp h ft
  | false => exact h
theorem RF.of (hl : ∀ ds, d ≠ .list ds) (h : Rp p F H' v d) : RF p F H H' v d := by
  cases d with
  | list ds => exact absurd rfl (hl ds)
  | _ => exact h
theorem RX.of {fr : Bool} (hl : ∀ ds, d ≠ .list ds) (h : Rp p F H' v d) : RX p fr F H H' v d := by
  cases fr with
  | true => exact RF.of hl h
  | false => exact h
/-- a new list -/
theorem RX.new {fr : Bool} {a : Addr} {vs : List V} {ds : List D} (ft : FT F H) (hn : H a = none) (g : Good p (upd H a (.lst vs))) (h : RpA p F H vs ds) : RX p fr F H (upd H a (.lst vs)) (.ref a) (.list ds) := by
  have q : RF p F H (upd H a (.lst vs)) (.ref a) (.list ds) := by
    refine ⟨a, vs, rfl, hn, upd_same, h.to (fun b o e n => same_upd hn b o e) (ext_new hn (fun o e => g a o e) ⟨_, upd_same⟩)⟩
  cases fr with
  | true => exact q
  | false => exact q.rp ft
theorem Rk.mono (h : Rp p F H v d) : Rk p b F H v d := .inl h
theorem Rk.of (h : Rk p b F H v d) : Rk p true F H v d := by
  rcases h with h | ⟨_, h⟩
  · exact .inl h
  · exact .inr ⟨rfl, h⟩
theorem Rk.rp (h : Rk p false F H v d) : Rp p F H v d := by
  rcases h with h | ⟨z, _⟩
  · exact h
  · cases z
theorem Rk.fr (h : Rk p b F H v d) (k : FrE p H H') (fa : F p.a0) : Rk p b F H' v d := by
  rcases h with h | ⟨z, a, vs, ds, rfl, rfl, na, h1, h2⟩
  · exact .inl (h.fr (k.nf fa))
  · exact .inr ⟨z, a, vs, ds, rfl, rfl, na, k a _ h1 na, h2.fr (k.nf fa)⟩
theorem Rk.int {i : Int} (h : Rk p b F H v (.int i)) : v = .int i := by
  rcases h with h | ⟨_, a, vs, ds, _, z, _⟩
  · cases h; rfl
  · cases z
theorem Rk.str {i : Str} (h : Rk p b F H v (.str i)) : v = .str i := by
  rcases h with h | ⟨_, a, vs, ds, _, z, _⟩
  · cases h; rfl
  · cases z
theorem Rk.bl {i : Bool} (h : Rk p b F H v (.bool i)) : v = .bl i := by
  rcases h with h | ⟨_, a, vs, ds, _, z, _⟩
  · cases h; rfl
  · cases z
theorem Rk.non (h : Rk p b F H v .none) : v = .non := by
  rcases h with h | ⟨_, a, vs, ds, _, z, _⟩
  · cases h; rfl
  · cases z
theorem Rk.tup {ds : List D} (h : Rk p b F H v (.tuple ds)) : ∃ a vs, v = .ref a ∧ ¬ F a ∧ SqT p.K H a vs ∧ RpA p F H vs ds := by
  rcases h with h | ⟨_, a, vs, ds, _, z, _⟩
  · cases h with | tup n hs _ ha => exact ⟨_, _, rfl, n, hs, ha⟩
  · cases z
theorem Rk.pln {ds : List D} {a : Addr} (h : Rk p b F H v (.tuple ds)) (e : v = .ref a) : PlnT p.K H a := by
  rcases h with h | ⟨_, a, vs, ds, _, z, _⟩
  · cases h with | tup n hs pl ha => cases e; exact pl
  · cases z
theorem Rk.lst {ds : List D} (h : Rk p b F H v (.list ds)) : ∃ a vs, v = .ref a ∧ H a = some (.lst vs) ∧ RpA p F H vs ds := by
  rcases h with h | ⟨_, a, vs, ds, rfl, z, _, h1, h2⟩
  · cases h with | lst n hs ha => exact ⟨_, _, rfl, hs, ha⟩
  · cases z; exact ⟨_, _, rfl, h1, h2⟩
theorem Rk.dp (h : Rk p b F H v d) (hp : d.plain = true) : Dp p.K H v d := by
  rcases h with h | ⟨_, a, vs, ds, rfl, rfl, _, h1, h2⟩
  · exact h.dp d hp
  · exact .lst (SqL.of h1) (h2.dp ds hp)
theorem RpA.all {vs : List V} {ds : List D} (h : RpA p F H vs ds) : RkA p b F H vs ds := by
  induction ds generalizing vs with
  | nil => cases h; exact .nil
  | cons d ds ih => cases h with | cons h1 h2 => exact .cons (.inl h1) (ih h2)
end

theorem good_of {p : Par} {X : Cx} {pins : List (Addr × Obj)} {σ : L2.St} {H : Hp} {s : Shared} (I : Inv X pins σ H s) (hK : X.K = p.K) : Good p H := fun a o e => by
  cases q : p.K.lookup a with
  | none => rfl
  | some ob =>
    have h1 := I.ok.mod.kin a ob (by rw [hK]; exact q)
    rw [(I.bs a ob h1).2] at e
    cases e

/-! ### rules by data -/
def rBin (p : Par) (fr : Bool) (o : Bop) : R2 := fun x y H Q => ∃ F dx dy, FT F H ∧ Rk p true F H x dx ∧ Rk p true F H y dy ∧ PO p fr F H (binD o dx dy) Q
def bopO : Bop → Operator
  | .add => .Add | .sub => .Sub | .mul => .Mult | .fdiv => .FloorDiv | .mod => .Mod | .shl => .LShift | .shr => .RShift
section
variable {p : Par} {X : Cx} {fr : Bool}
/-- the end may ask that K's things are untracked -/
theorem OpR.good {f : Value → Value → Sem Value} {r : R2} (hK : X.K = p.K) (h : OpR X f r) {r' : R2} (hr : ∀ x y H Q, r' x y H Q → r x y H fun v H' => Good p H' → Q v H') : OpR X f r' := by
  intro pins s σ H x y v u Q I rx ry q
  refine thn (h pins s σ H x y v u _ I rx ry (hr x y H Q q)) fun w s' ⟨z, H', I', rz, q'⟩ => ?_
  exact ⟨z, H', I', rz, q' (good_of I' hK)⟩
theorem lim_line {n : Nat} (h : n ≤ LIM) : n ≤ sizeLine := by rw [sizeLine_eq]; have : n ≤ 1000000 := h; omega
theorem fits_mul {i j : Int} (h : fitsMul i j = true) : CMul i j ∨ CMulW i j := by
  unfold fitsMul at h
  simp only [Bool.or_eq_true, Bool.and_eq_true, decide_eq_true_eq] at h
  rcases h with (h | h) | h
  · exact .inl (.inl (by omega))
  · exact .inl (.inr (by omega))
  · exact .inr (by unfold CMulW; omega)
theorem fits_div {i j : Int} (h : fitsDiv j = true) : CDiv i j ∨ CDivW i j := by
  unfold fitsDiv at h
  simp only [Bool.or_eq_true, Bool.and_eq_true, decide_eq_true_eq] at h
  rcases h with ⟨h0, h | h⟩
  · exact .inl ⟨h0, h⟩
  · exact .inr ⟨h0, by omega⟩
theorem po_flat {F : Addr → Prop} {H : Hp} {d : D} {Q : VK} {v : V} (h : PO p fr F H (some d) Q) (g : Good p H) (hl : ∀ ds, d ≠ .list ds) (r : Rp p F H v d) : Q v H := h v H (Same.refl H) g (.of hl r)
theorem po_new {F : Addr → Prop} {H : Hp} {ds : List D} {vs : List V} {Q : VK} {a : Addr} (h : PO p fr F H (some (.list ds)) Q) (ft : FT F H) (hn : H a = none) (g : Good p (upd H a (.lst vs))) (r : RpA p F H vs ds) : Q (.ref a) (upd H a (.lst vs)) :=
  h _ _ (same_upd hn) g (.new ft hn g r)
theorem po_tup {F : Addr → Prop} {H : Hp} {ds : List D} {vs : List V} {Q : VK} {a : Addr} {o : Obj} (h : PO p fr F H (some (.tuple ds)) Q) (ft : FT F H) (hn : H a = none) (ho : PlnO o) (g : Good p (upd H a (.frz o (.tup vs)))) (r : RpA p F H vs ds) : Q (.ref a) (upd H a (.frz o (.tup vs))) :=
  h _ _ (same_upd hn) g (.of (fun _ z => nomatch z) (.tup (fun f => ft a f hn) SqT.ofF (pln_new ho) (r.fr fun b o e _ => same_upd hn b o e)))
/-! ### tuples made, their objects told -/
theorem new_tup {X : Cx} {pins : List (Addr × Obj)} {σ : L2.St} {H : Hp} {s : Shared} {xs : List V} {its : List Value} {h' : Heap} {a : Addr} {t' : Nat} (I : Inv X pins σ H s) (hk : ∀ b u, s.heap.get? b = some u → h'.get? b = some u) (hl : s.heap.objs.size ≤ a) (hg : h'.get? a = some { cls := .type "tuple", data := .seq its.toArray 0 }) (r : Vals xs its) (hz : xs.length ≤ sizeLine) :
    Inv X pins σ (upd H a (.frz { cls := .type "tuple", data := .seq its.toArray 0 } (.tup xs))) { s with heap := h', toks := t' } :=
  I.laid (t' := t') hk hl ⟨hg, hz, its, r, ⟨_, hg, rfl, _, rfl⟩⟩
/-! ### sorted(t), t a tuple -/
section
variable {prog : Program} {w : World} {A : Around} {E : Value → Shared → Prop} {s : Shared} {β : Type} {enc : β → PyData} {R : Value → β → Prop} {vs : List Value} {bs : List β}
theorem collect_tupE {l : Addr} {Q : List Value → Shared → Prop} (hl : IsTup s.heap l vs.toArray)
    (h : Q vs { s with heap := (s.heap.push (seqObj "list" #[] 0)).update s.heap.objs.size (Obj.mapSeq (· ++ vs.toArray)) }) (hsz : vs.length ≤ sizeLine) :
    wpAny (model prog w) A (collect (.ref l)) Q E s := by
  obtain ⟨o, ho, hc, n, hd⟩ := id hl
  unfold collect
  refine wpAny_bind (wpAny_runValue (codeAny_builtin entry_proto_collect' ?_))
  show wpAny _ _ (do again (.builtin "list.__iadd__" ⟨[← newList [], .ref l], []⟩)) _ _ s
  refine wpAny_bind (wpAny_newList (wpAny_pure ⟨Code.quiet_builtin _ (by decide +kernel), codeAny_builtin entry_list_iadd' ?_⟩))
  show wpAny _ _ (Builtin.List.listExtendWith (.ref s.heap.objs.size) (.ref l) (.ref s.heap.objs.size)) _ _ { s with heap := s.heap.push (seqObj "list" #[] 0) }
  unfold Builtin.List.listExtendWith
  have ho' : (s.heap.push (seqObj "list" #[] 0)).get? l = some o := Heap.get?_push_of_some _ ho
  refine wpAny_bind (wpAny_typeOf (T := "tuple") ⟨o, ho', hc⟩ ?_)
  have ht : (Value.type "tuple" == Value.type "tuple") = true := by rfl
  rw [if_pos (by rw [ht]; simp)]
  refine wpAny_bind (listItems_at ho' hd ?_)
  refine wpAny_bind (listItems_at (xs := #[]) (n := 0) (Heap.get?_push_size _ rfl) rfl ?_)
  rw [if_neg (by simp)]
  refine wpAny_bind (listUpdate_at (xs := #[]) (n := 0) (Heap.get?_push_size _ rfl) rfl ?_ (Nat.zero_le _) (by show (#[] ++ vs.toArray).size ≤ sizeLine + 1; simp only [Array.size_append, List.size_toArray, List.length_nil]; omega))
  refine wpAny_pure ?_
  show wpAny (model prog w) A (do
      let o ← load s.heap.objs.size
      match o.data with
      | .seq xs _ => pure xs.toList
      | _ => unsupported "internal:collect") Q E { s with heap := (s.heap.push (seqObj "list" #[] 0)).update s.heap.objs.size (Obj.mapSeq (· ++ vs.toArray)) }
  refine wpAny_bind (wpAny_load (get?_update_seq (Heap.get?_push_size _ rfl) _) ?_)
  show wpAny _ _ (pure ((#[] : Array Value) ++ vs.toArray).toList) Q E _
  rw [show ((#[] : Array Value) ++ vs.toArray).toList = vs by simp]
  exact wpAny_pure h
theorem sorted_of_tup {l : Addr} {Q : Value → Shared → Prop} (hl : IsTup s.heap l vs.toArray) (hL : vs.length ≤ sizeLine)
    (body : ∀ E' : Value → Shared → Prop, wpAny (model prog w) A.in1.in1 (Builtin.«list.sort» ⟨[.ref (s.heap.objs.size + 1)], []⟩) (fun f s' => f = .done (.ret .none) ∧ Q (.ref (s.heap.objs.size + 1)) s') E' { s with heap := W.copyHeap s.heap vs }) :
    wpAny (model prog w) A (call (.builtin "sorted") [.ref l]) Q E s := by
  refine Calls.call_function_entry kind_sorted plain_sorted entry_sorted (args_sorted1 _) ?_
  unfold Builtin.«sorted»
  refine wpAny_bind (m := checkCount "sorted" 1 1 _) (wpAny_pure ?_)
  refine wpAny_bind (collect_tupE hl ?_ hL)
  refine wpAny_bind (wpAny_newList ?_ hL)
  have hsz : ((s.heap.push (seqObj "list" #[] 0)).update s.heap.objs.size (Obj.mapSeq (· ++ vs.toArray))).objs.size = s.heap.objs.size + 1 := by
    rw [Heap.size_update, size_push']
  show wpAny _ _ _ _ _ { s with heap := W.copyHeap s.heap vs }
  rw [hsz]
  refine wpAny_bind (wpAny_holding (wpAny_call_entry slot_list_sort ⟨_, W.copyHeap_at s.heap vs, rfl⟩ entry_list_sort ?body (args_list_sort _)))
  case body =>
    refine wpAny_mono (body _) (fun f s' hf => ?_) fun _ _ e => e
    obtain ⟨rfl, hq⟩ := hf
    exact ⟨_, rfl, wpAny_pure ⟨_, rfl, hq⟩⟩
theorem sorted_dataT {l : Addr} {Q : Value → Shared → Prop} (hl : IsTup s.heap l vs.toArray) (e : W.EachIs R vs bs) (er : W.EachIs (fun v b => ∃ as, Reads s.heap v (enc b) as) vs bs) (hal : W.AllAlike (bs.map enc)) (hk : W.Sortable (bs.map enc)) (hL : bs.length ≤ sizeLine)
    (hu : ∀ b, b ∈ bs → A.units + 2 + (enc b).depth < cLine) (h : ∀ out, out.length = bs.length → W.EachIs R out (bs.mergeSort (W.dataLe false enc)) → Q (.ref (s.heap.objs.size + 1)) { s with heap := sortedAll s.heap vs (List.toArray out) }) :
    wpAny (model prog w) A (call (.builtin "sorted") [.ref l]) Q E s := by
  have er' : W.EachIs (fun v b => ∃ as, Reads (W.sortingHeap (W.copyHeap s.heap vs) (s.heap.objs.size + 1) vs) v (enc b) as) vs bs := er.mono fun _ _ ⟨as, r⟩ => ⟨as, PyProof.Rows.Reads.keeps (fun _ _ => W.sorting_copy_old) r⟩
  have S := W.SortsAt.data (prog := prog) (w := w) (A := A.in1.in1) (s := { s with heap := W.sortingHeap (W.copyHeap s.heap vs) (s.heap.objs.size + 1) vs }) (W.each_map (R := fun v d => ∃ as, Reads (W.sortingHeap (W.copyHeap s.heap vs) (s.heap.objs.size + 1) vs) v d as) enc er') hal hk (W.bound_map hu)
  exact sorted_of_tup hl (by rw [e.length]; exact hL) fun _ => W.list_sort_vals (s := { s with heap := W.copyHeap s.heap vs }) (W.copyHeap_at s.heap vs) S (by rw [e.length]; exact hL) ⟨rfl, h _ (by rw [W.sortVals_length false rfl]; exact e.length) (W.sortVals_data false e er' hal)⟩
end
section
variable {X : Cx}
def rCatP (K : PySem.W.Frag) : R2 := fun x y H Q => ∃ a b xs ys, x = .ref a ∧ y = .ref b ∧ SqT K H a xs ∧ SqT K H b ys ∧ xs.length + ys.length ≤ sizeLine ∧
  (xs = [] → Q (.ref b) H) ∧ (xs ≠ [] → ys = [] → Q (.ref a) H) ∧ (xs ≠ [] → ys ≠ [] → ∀ p o, H p = none → PlnO o → Q (.ref p) (upd H p (.frz o (.tup (xs ++ ys)))))
theorem op_catP : OpR X (binaryOp .Add) (rCatP X.K) := by
  intro pins s σ H x y v u Q I rx ry h
  obtain ⟨a, b, xs, ys, rfl, rfl, ha, hb, hz, q0, q1, q2⟩ := h
  by_cases hx : xs = []
  · subst hx
    cases rx
    cases ry
    obtain ⟨its, r1, p1, _⟩ := I.tuple ha
    obtain ⟨its2, r2, p2, _⟩ := I.tuple hb
    cases r1
    exact cat_tup0 p1 p2 ⟨.ref b, H, I, rfl, q0 rfl⟩
  · cases rx
    cases ry
    obtain ⟨its, r1, p1, _⟩ := I.tuple ha
    obtain ⟨its2, r2, p2, _⟩ := I.tuple hb
    refine HT.cat_tup p1 p2 (fun z => hx (r1.nil_iff.mp z)) (fun z => ⟨.ref a, H, I, rfl, q1 hx (r2.nil_iff.mp z)⟩) (fun z => ?_) (by rw [← r1.length, ← r2.length]; exact hz)
    exact ⟨.ref s.heap.objs.size, _, new_tup (t' := s.toks) I (fun b ob q => Heap.get?_push_of_some _ q) (Nat.le_refl _) (Heap.get?_push_size _ rfl) (r1.append r2) (by rw [List.length_append]; exact hz), rfl, q2 hx (fun w => z (r2.nil_iff.mpr w)) _ _ (I.hok.fresh (Nat.le_refl _)) ⟨rfl, rfl⟩⟩
theorem call_tuple_ofP : CallR X (.type "tuple") (fun xs H Q => ∃ p ys, xs = [.ref p] ∧ ((SqL X.K H p ys ∧ ∀ l o, H l = none → PlnO o → Q (.ref l) (upd H l (.frz o (.tup ys)))) ∨ (SqT X.K H p ys ∧ Q (.ref p) H))) := by
  intro pins s σ H xs us Q I r h
  obtain ⟨p, ys, rfl, h⟩ := h
  obtain ⟨u, rfl, rx⟩ := vals1 r
  cases rx
  rcases h with ⟨hq, q⟩ | ⟨hq, q⟩
  · obtain ⟨its, r', pl, hz⟩ := I.list hq
    have hlen := r'.length
    refine call_tuple_list pl.isList (fun h' kp => ?_) (by simp only [List.size_toArray] <;> omega)
    have I1 : Inv X pins σ H { s with heap := h' } := I.kept (t' := s.toks) kp
    have I2 : Inv X pins σ (upd H h'.objs.size (.frz { cls := .type "tuple", data := .seq its.toArray 0 } (.tup ys))) { s with heap := h'.push { cls := .type "tuple", data := .seq its.toArray } } :=
      new_tup (s := { s with heap := h' }) (t' := s.toks) I1 (fun b o e => Heap.get?_push_of_some _ e) (Nat.le_refl _) (Heap.get?_push_size _ rfl) r' hz
    exact ⟨.ref h'.objs.size, _, I2, rfl, q _ _ (I1.hok.fresh (Nat.le_refl _)) ⟨rfl, rfl⟩⟩
  · obtain ⟨its, r', pl, hz⟩ := I.tuple hq
    exact call_tuple_same pl ⟨.ref p, H, I, rfl, q⟩
/-- a tuple written -/
def tTupP (t : TA) : TE := fun σ H Q => t σ H fun xs H1 => xs.length ≤ sizeLine ∧ ∀ p o, H1 p = none → PlnO o → Q (.ref p) (upd H1 p (.frz o (.tup xs)))
theorem pe_tupP {es : List Expr} {t : TA} {x1 : Nat} {pos : Pos} (h : PA X es t) : PE X (.Tuple es x1 pos) (tTupP t) := by
  refine ⟨fun pins s σ H Q I hq => ?_⟩
  refine wpAny_Tuple_spliced (thn (h.run pos pins s σ H _ I hq) fun us s1 ⟨xs, H1, I1, r, z, q⟩ => ⟨by rw [← r.length]; exact z, ?_⟩)
  have hf : H1 s1.heap.objs.size = none := I1.hok.fresh (Nat.le_refl _)
  exact ⟨.ref s1.heap.objs.size, _, new_tup (t' := s1.toks) I1 (fun b u e => Heap.get?_push_of_some _ e) (Nat.le_refl _) (Heap.get?_push_size _ rfl) r z, rfl, q _ _ hf ⟨rfl, rfl⟩⟩
def rSlP (K : PySem.W.Frag) : V → Option Int → Option Int → Hp → VK → Prop := fun x lo hi H Q => ∃ a xs, x = .ref a ∧ SqT K H a xs ∧
  (HT.sIx xs.length 0 lo = 0 ∧ HT.sIx xs.length xs.length hi = xs.length → Q (.ref a) H) ∧ (¬ (HT.sIx xs.length 0 lo = 0 ∧ HT.sIx xs.length xs.length hi = xs.length) → ∀ p o, H p = none → PlnO o → Q (.ref p) (upd H p (.frz o (.tup (cutV xs lo hi)))))
theorem sl_tupP : SlR X (rSlP X.K) := by
  intro pins s σ H x v vl vu lo hi sl Q I rx hs pl pu h
  obtain ⟨a, xs, rfl, hx, q1, q2⟩ := h
  cases rx
  obtain ⟨its, r, ht, hz⟩ := I.tuple hx
  have hlen : its.toArray.size = xs.length := by rw [List.size_toArray]; exact r.length.symm
  refine ⟨"tuple", _, PyProof.Rows.slot_tuple_getitem.lookup, ht.typeIs, ?_⟩
  by_cases hw : HT.sIx xs.length 0 lo = 0 ∧ HT.sIx xs.length xs.length hi = xs.length
  · exact getItem_tuple_whole ht hs pl pu (by rw [hlen]; exact hw) ⟨.ref a, H, I, rfl, q1 hw⟩
  · refine HT.getItem_tuple_cut ht hs pl pu (by rw [hlen]; exact hw) ?_ (by rw [hlen]; exact hz)
    rw [hlen]
    exact ⟨.ref s.heap.objs.size, _, new_tup (t' := s.toks) I (fun b ob q => Heap.get?_push_of_some _ q) (Nat.le_refl _) (Heap.get?_push_size _ rfl) ((r.drop (HT.sIx xs.length 0 lo)).take (HT.sIx xs.length xs.length hi - HT.sIx xs.length 0 lo)) (Nat.le_trans (cutV_length xs lo hi) hz), rfl, q2 hw _ _ (I.hok.fresh (Nat.le_refl _)) ⟨rfl, rfl⟩⟩
end
set_option maxHeartbeats 4000000 in
theorem op_bin (hK : X.K = p.K) (o : Bop) : OpR X (binaryOp (bopO o)) (rBin p fr o) := by
  intro pins s σ H x y v u Q I rx ry h
  obtain ⟨F, dx, dy, ft, hx, hy, q⟩ := h
  have g : Good p H := good_of I hK
  have I2 : ∀ {q : R2}, OpR X (binaryOp (bopO o)) q → q x y H (fun v H' => Good p H' → Q v H') → wpAny (model X.prog X.w) X.A (binaryOp (bopO o) v u) (EP X pins σ Q) X.xe s := fun h1 h2 => OpR.good (r' := fun x y H Q => _) hK h1 (fun _ _ _ _ z => z) pins s σ H x y v u Q I rx ry h2
  unfold binD at q
  split at q
  · have ex := hx.int; have ey := hy.int
    exact I2 op_add ⟨_, _, ex, ey, fun g => po_flat q g (fun _ z => nomatch z) (.int _)⟩
  · have ex := hx.str; have ey := hy.str
    split at q
    · rename_i hz
      exact I2 op_add_str ⟨_, _, ex, ey, lim_line hz, fun g => po_flat q g (fun _ z => nomatch z) (.str _)⟩
    · exact q.elim
  · split at q
    · rename_i hz
      obtain ⟨a, vs, ex, na, ha, ra⟩ := hx.tup
      obtain ⟨c, ws, ey, nc, hc, rc⟩ := hy.tup
      have l1 := ra.len
      have l2 := rc.len
      refine I2 op_catP ⟨a, c, vs, ws, ex, ey, by rw [hK]; exact ha, by rw [hK]; exact hc, lim_line (by omega), fun e g => ?_, fun e1 e2 g => ?_, fun e1 e2 t o ht hpo g => ?_⟩
      · subst e
        cases ra
        exact po_flat q g (fun _ z => nomatch z) (.tup nc hc (hy.pln ey) rc)
      · subst e2
        cases rc
        rw [List.append_nil] at q
        exact po_flat q g (fun _ z => nomatch z) (.tup na ha (hx.pln ex) ra)
      · exact po_tup q ft ht hpo g (ra.append rc)
    · exact q.elim
  · split at q
    · rename_i hz
      obtain ⟨a, vs, ex, ha, ra⟩ := hx.lst
      obtain ⟨c, ws, ey, hc, rc⟩ := hy.lst
      have l1 := ra.len
      have l2 := rc.len
      exact I2 op_cat ⟨a, c, vs, ws, ex, ey, ha, hc, lim_line (by omega), fun t ht g => po_new q ft ht g (ra.append rc)⟩
    · exact q.elim
  · have ex := hx.int; have ey := hy.int
    exact I2 op_sub ⟨_, _, ex, ey, fun g => po_flat q g (fun _ z => nomatch z) (.int _)⟩
  · have ex := hx.int; have ey := hy.int
    split at q
    · rename_i hz
      rcases fits_mul hz with c | c
      · exact I2 op_mul ⟨_, _, ex, ey, c, fun g => po_flat q g (fun _ z => nomatch z) (.int _)⟩
      · exact I2 op_mulW ⟨_, _, ex, ey, c, fun g => po_flat q g (fun _ z => nomatch z) (.int _)⟩
    · exact q.elim
  · split at q
    · rename_i hz
      obtain ⟨a, vs, ex, ha, ra⟩ := hx.lst
      have ey := hy.int
      have l1 := ra.len
      refine I2 op_rep ⟨a, _, vs, ex, ey, ha, by omega, by omega, ?_, fun t ht g => po_new q ft ht g (ra.reps _)⟩
      refine Nat.le_trans (Nat.mul_le_mul (show vs.length ≤ 1000 by omega) (show _ ≤ 1000 by omega)) ?_
      rw [sizeLine_eq]; decide
    · exact q.elim
  · have ex := hx.int; have ey := hy.int
    split at q
    · rename_i hz
      rcases fits_div (i := 0) hz with c | c
      · exact I2 op_fdiv ⟨_, _, ex, ey, c, fun g => po_flat q g (fun _ z => nomatch z) (.int _)⟩
      · exact I2 op_fdivW ⟨_, _, ex, ey, c, fun g => po_flat q g (fun _ z => nomatch z) (.int _)⟩
    · exact q.elim
  · have ex := hx.int; have ey := hy.int
    split at q
    · rename_i hz
      exact I2 op_mod ⟨_, _, ex, ey, hz, fun g => po_flat q g (fun _ z => nomatch z) (.int _)⟩
    · exact q.elim
  · have ex := hx.int; have ey := hy.int
    split at q
    · rename_i hz
      exact I2 op_shl ⟨_, _, ex, ey, ⟨hz.1, by omega, hz.2.2⟩, fun g => po_flat q g (fun _ z => nomatch z) (.int _)⟩
    · exact q.elim
  · have ex := hx.int; have ey := hy.int
    split at q
    · rename_i hz
      exact I2 op_shr ⟨_, _, ex, ey, hz, fun g => po_flat q g (fun _ z => nomatch z) (.int _)⟩
    · exact q.elim
  · exact q.elim
end
/-! ### comparisons -/
/-- a truth's end; an item's end -/
def PB (H : Hp) (o : Option Bool) (Q : VK) : Prop := match o with
  | some b => Q (.bl b) H
  | none => False
def PV (p : Par) (F : Addr → Prop) (H : Hp) (o : Option D) (Q : VK) : Prop := match o with
  | some d => ∀ v, Rp p F H v d → Q v H
  | none => False
def rCmp (p : Par) (o : Cop) : R2 := fun x y H Q => ∃ F dx dy, Rk p true F H x dx ∧ Rk p true F H y dy ∧ PB H (cmpD o dx dy) Q
def copO : Cop → CmpOp
  | .eq => .Eq | .ne => .NotEq | .lt => .Lt | .le => .LtE | .gt => .Gt | .ge => .GtE | .is_ => .Is | .isnt => .IsNot | .in_ => .In | .nin => .NotIn
section
variable {p : Par} {X : Cx} {fr : Bool}
theorem Rk.isN {F : Addr → Prop} {H : Hp} {x : V} {d : D} {b : Bool} (h : Rk p b F H x d) : decide (x = .non) = isN d := by
  rcases h with h | ⟨_, a, vs, ds, rfl, rfl, _⟩
  · cases h <;> rfl
  · rfl
theorem Rk.reads {F : Addr → Prop} {H : Hp} {x : V} {d : D} {b : Bool} {pins : List (Addr × Obj)} {s : Shared} {σ : L2.St} {v : Value} (hK : X.K = p.K) (I : Inv X pins σ H s) (h : Rk p b F H x d) (r : RelV x v) (hp : d.plain = true) : ∃ as, Reads s.heap v d as :=
  Dp.reads I d x v (by rw [hK]; exact h.dp hp) r
theorem plain_list {xs : List D} (h : PyData.plainAll xs = true) : (PyData.list xs).plain = true := h
theorem plain_tuple {xs : List D} (h : PyData.plainAll xs = true) : (PyData.tuple xs).plain = true := h
set_option maxHeartbeats 4000000 in
theorem op_cmp (hK : X.K = p.K) (hu : X.A.units + 70 < cLine) (o : Cop) : OpR X (compareOp (copO o)) (rCmp p o) := by
  intro pins s σ H x y v u Q I rx ry h
  obtain ⟨F, dx, dy, hx, hy, q⟩ := h
  have fin : ∀ {c : Bool}, Q (.bl c) H → EP X pins σ Q (.bool c) s := fun {c} q => ⟨.bl c, H, I, rfl, q⟩
  unfold cmpD at q
  split at q
  · split at q
    · rename_i hz
      simp only [okEq, Bool.and_eq_true, decide_eq_true_eq] at hz
      obtain ⟨as, r1⟩ := hx.reads hK I rx hz.1.1
      obtain ⟨bs, r2⟩ := hy.reads hK I ry hz.1.2
      exact SeqAt.eq_plain r1 r2 hz.1.1 hz.1.2 (by omega) (fin q)
    · exact q.elim
  · split at q
    · rename_i hz
      simp only [okEq, Bool.and_eq_true, decide_eq_true_eq] at hz
      obtain ⟨as, r1⟩ := hx.reads hK I rx hz.1.1
      obtain ⟨bs, r2⟩ := hy.reads hK I ry hz.1.2
      exact SeqAt.ne_plain r1 r2 hz.1.1 hz.1.2 (by omega) (fin q)
    · exact q.elim
  · exact op_lt pins s σ H x y v u Q I rx ry ⟨_, _, hx.int, hy.int, q⟩
  · exact op_le pins s σ H x y v u Q I rx ry ⟨_, _, hx.int, hy.int, q⟩
  · exact op_gt pins s σ H x y v u Q I rx ry ⟨_, _, hx.int, hy.int, q⟩
  · exact op_ge pins s σ H x y v u Q I rx ry ⟨_, _, hx.int, hy.int, q⟩
  · exact op_isN pins s σ H x y v u Q I rx ry ⟨hy.non, by rw [hx.isN]; exact q⟩
  · exact op_isBl pins s σ H x y v u Q I rx ry ⟨_, _, hx.bl, hy.bl, q⟩
  · exact op_notN pins s σ H x y v u Q I rx ry ⟨hy.non, by rw [hx.isN]; exact q⟩
  · exact op_notBl pins s σ H x y v u Q I rx ry ⟨_, _, hx.bl, hy.bl, q⟩
  · split at q
    · rename_i hz
      simp only [okIn, Bool.and_eq_true, decide_eq_true_eq] at hz
      obtain ⟨as, r1⟩ := hx.reads hK I rx hz.1.1
      obtain ⟨bs, r2⟩ := hy.reads hK I ry (plain_list hz.1.2)
      exact SeqAt.in_list_data r2 r1 hz.1.2 hz.1.1 (by omega) (fin q)
    · exact q.elim
  · split at q
    · rename_i hz
      simp only [okIn, Bool.and_eq_true, decide_eq_true_eq] at hz
      obtain ⟨as, r1⟩ := hx.reads hK I rx hz.1.1
      obtain ⟨bs, r2⟩ := hy.reads hK I ry (plain_tuple hz.1.2)
      exact SeqAt.in_tuple_data r2 r1 hz.1.2 hz.1.1 (by omega) (fin q)
    · exact q.elim
  · split at q
    · rename_i hz
      simp only [okIn, Bool.and_eq_true, decide_eq_true_eq] at hz
      obtain ⟨as, r1⟩ := hx.reads hK I rx hz.1.1
      obtain ⟨bs, r2⟩ := hy.reads hK I ry (plain_list hz.1.2)
      exact SeqAt.notIn_list_data r2 r1 hz.1.2 hz.1.1 (by omega) (fin q)
    · exact q.elim
  · split at q
    · rename_i hz
      simp only [okIn, Bool.and_eq_true, decide_eq_true_eq] at hz
      obtain ⟨as, r1⟩ := hx.reads hK I rx hz.1.1
      obtain ⟨bs, r2⟩ := hy.reads hK I ry (plain_tuple hz.1.2)
      exact SeqAt.notIn_tuple_data r2 r1 hz.1.2 hz.1.1 (by omega) (fin q)
    · exact q.elim
  · exact q.elim

/-! ### subscripts, slices -/
def rIxD (p : Par) : R2 := fun x y H Q => ∃ F dx dy, Rk p true F H x dx ∧ Rk p true F H y dy ∧ PV p F H (ixD dx dy) Q
theorem atI_rel {F : Addr → Prop} {H : Hp} {vs : List V} {ds : List D} (h : RpA p F H vs ds) {i : Int} {d : D} (e : atI ds i = some d) : ∃ v, atI vs i = some v ∧ Rp p F H v d := by
  unfold atI at e ⊢
  rw [h.len]
  cases q : ixN ds.length i with
  | none => rw [q] at e; cases e
  | some j =>
    rw [q] at e
    exact h.get e
theorem ix_D (hK : X.K = p.K) : IxR X (rIxD p) := by
  intro value slice pins s σ H x y v u Q I rx ry h hs
  obtain ⟨F, dx, dy, hx, hy, q⟩ := h
  unfold ixD at q
  split at q
  · obtain ⟨a, vs, ex, ha, ra⟩ := hx.lst
    unfold PV at q
    split at q
    · rename_i e
      obtain ⟨w, ew, rw'⟩ := atI_rel ra e
      exact ix_list value slice pins s σ H x y v u Q I rx ry ⟨a, vs, _, w, ex, hy.int, SqL.of ha, ew, q w rw'⟩ hs
    · exact q.elim
  · obtain ⟨a, vs, ex, _, ha, ra⟩ := hx.tup
    unfold PV at q
    split at q
    · rename_i e
      obtain ⟨w, ew, rw'⟩ := atI_rel ra e
      exact ix_tup value slice pins s σ H x y v u Q I rx ry ⟨a, vs, _, w, ex, hy.int, by rw [hK]; exact ha, ew, q w rw'⟩ hs
    · exact q.elim
  · exact q.elim
def rSlD (p : Par) (fr : Bool) : V → Option Int → Option Int → Hp → VK → Prop := fun x lo hi H Q => ∃ F dx, FT F H ∧ Rk p true F H x dx ∧ PO p fr F H (slD dx lo hi) Q
theorem cut_rel {F : Addr → Prop} {H : Hp} {vs : List V} {ds : List D} (h : RpA p F H vs ds) (lo hi : Option Int) : RpA p F H (cutV vs lo hi) (cutL ds lo hi) := by
  unfold cutV cutL
  rw [h.len]
  exact (h.drop _).take _
theorem SlR.good {r r' : V → Option Int → Option Int → Hp → VK → Prop} (hK : X.K = p.K) (h : SlR X r) (hr : ∀ x lo hi H Q, r' x lo hi H Q → r x lo hi H fun v H' => Good p H' → Q v H') : SlR X r' := by
  intro pins s σ H x v vl vu lo hi sl Q I rx hs pl pu q
  obtain ⟨T, id, h1, h2, h3⟩ := h pins s σ H x v vl vu lo hi sl _ I rx hs pl pu (hr x lo hi H Q q)
  exact ⟨T, id, h1, h2, thn h3 fun w s' ⟨z, H', I', rz, q'⟩ => ⟨z, H', I', rz, q' (good_of I' hK)⟩⟩
theorem sl_D (hK : X.K = p.K) : SlR X (rSlD p fr) := by
  intro pins s σ H x v vl vu lo hi sl Q I rx hs pl pu h
  obtain ⟨F, dx, ft, hx, q⟩ := h
  have g := good_of I hK
  have go : ∀ {r : V → Option Int → Option Int → Hp → VK → Prop}, SlR X r → r x lo hi H (fun v H' => Good p H' → Q v H') → ∃ T id, typeLookup (.type T) "__getitem__" = pure (some (.builtin id)) ∧ s.TypeIs v T ∧ wpAny (model X.prog X.w) X.A (getItem v (.ref sl)) (EP X pins σ Q) X.xe s :=
    fun h1 h2 => SlR.good (r' := fun x lo hi H Q => _) hK h1 (fun _ _ _ _ _ z => z) pins s σ H x v vl vu lo hi sl Q I rx hs pl pu h2
  unfold slD at q
  split at q
  · obtain ⟨a, vs, ex, ha, ra⟩ := hx.lst
    exact go sl_list ⟨a, vs, ex, SqL.of ha, fun t ht g => po_new q ft ht g (cut_rel ra lo hi)⟩
  · obtain ⟨a, vs, ex, na, ha, ra⟩ := hx.tup
    refine go sl_tupP ⟨a, vs, ex, by rw [hK]; exact ha, fun e g => ?_, fun e t o ht hpo g => po_tup q ft ht hpo g (cut_rel ra lo hi)⟩
    refine po_flat q g (fun _ z => nomatch z) ?_
    have l := ra.len
    have e1 : ∀ zs : List D, vs.length = zs.length → cutL zs lo hi = zs := fun zs l => by
      unfold cutL
      rw [← l, e.1, e.2, l, List.drop_zero, Nat.sub_zero, List.take_length]
    rw [e1 _ l]
    exact .tup na ha (hx.pln ex) ra
  · split at q
    · rename_i hz
      exact go C8.sl_txt ⟨_, hx.str, lim_line hz, fun g => po_flat q g (fun _ z => nomatch z) (.str _)⟩
    · exact q.elim
  · exact q.elim
def rNegD (p : Par) : V → Hp → VK → Prop := fun x H Q => ∃ F dx, Rk p true F H x dx ∧ PV p F H (negD dx) Q
theorem un_D (hK : X.K = p.K) : UnR X (unaryOp .USub) (rNegD p) := by
  intro pins s σ H x v Q I rx h
  obtain ⟨F, dx, hx, q⟩ := h
  cases dx with
  | int i => exact un_neg pins s σ H x v Q I rx ⟨i, hx.int, q _ (.int _)⟩
  | _ => exact q.elim
end
/-! ### built-ins -/
def biV : Bi → Value
  | .len => .builtin "len" | .int => .type "int" | .abs => .builtin "abs" | .min => .builtin "min" | .max => .builtin "max" | .sum => .builtin "sum" | .any => .builtin "any" | .all => .builtin "all"
  | .tuple => .type "tuple" | .list => .type "list" | .sorted => .builtin "sorted"
def rBi (p : Par) (fr : Bool) (b : Bi) : List V → Hp → VK → Prop := fun xs H Q => ∃ F ds, FT F H ∧ RkA p true F H xs ds ∧ PO p fr F H (biD b ds) Q
section
variable {p : Par} {X : Cx} {fr : Bool} {F : Addr → Prop} {H : Hp}
theorem CallR.good {f : Value} {r r' : List V → Hp → VK → Prop} (hK : X.K = p.K) (h : CallR X f r) (hr : ∀ xs H Q, r' xs H Q → r xs H fun v H' => Good p H' → Q v H') : CallR X f r' := by
  intro pins s σ H xs us Q I r q
  refine thn (h pins s σ H xs us _ I r (hr xs H Q q)) fun w s' ⟨z, H', I', rz, q'⟩ => ?_
  exact ⟨z, H', I', rz, q' (good_of I' hK)⟩
theorem RkA.one {b : Bool} {xs : List V} {d : D} (h : RkA p b F H xs [d]) : ∃ x, xs = [x] ∧ Rk p b F H x d := by
  cases h with | cons h1 h2 => cases h2; exact ⟨_, rfl, h1⟩
theorem RkA.two {b : Bool} {xs : List V} {d e : D} (h : RkA p b F H xs [d, e]) : ∃ x y, xs = [x, y] ∧ Rk p b F H x d ∧ Rk p b F H y e := by
  cases h with | cons h1 h2 => cases h2 with | cons h2 h3 => cases h3; exact ⟨_, _, rfl, h1, h2⟩
theorem ints_rel : ∀ {ds : List D} {ns : List Int} {vs : List V}, RpA p F H vs ds → intsOf ds = some ns → vs = ns.map V.int
  | [], ns, vs, h, e => by cases h; simp [intsOf] at e; subst e; rfl
  | d :: ds, ns, vs, h, e => by
    cases h with
    | cons h1 h2 =>
      cases d with
      | int i =>
        simp only [intsOf, Option.map_eq_some_iff] at e
        obtain ⟨ms, e1, rfl⟩ := e
        cases h1
        rw [ints_rel h2 e1]
        rfl
      | _ => simp [intsOf] at e
theorem bools_rel : ∀ {ds : List D} {ns : List Bool} {vs : List V}, RpA p F H vs ds → boolsOf ds = some ns → vs = ns.map V.bl
  | [], ns, vs, h, e => by cases h; simp [boolsOf] at e; subst e; rfl
  | d :: ds, ns, vs, h, e => by
    cases h with
    | cons h1 h2 =>
      cases d with
      | bool i =>
        simp only [boolsOf, Option.map_eq_some_iff] at e
        obtain ⟨ms, e1, rfl⟩ := e
        cases h1
        rw [bools_rel h2 e1]
        rfl
      | _ => simp [boolsOf] at e
/-- what sortOk says -/
theorem alike_plain : ∀ (x : D), W.alike x x = true → x.plain = true := fun x => by
  refine PyData.rec (motive_1 := fun x => W.alike x x = true → x.plain = true) (motive_2 := fun xs => W.alikeAll xs xs = true → PyData.plainAll xs = true) (motive_3 := fun _ => True) (motive_4 := fun _ => True) ?_ ?_ ?_ ?_ ?_ ?_ ?_ ?_ ?_ ?_ ?_ ?_ x
  · intro _; rfl
  · intro _ _; rfl
  · intro _ _; rfl
  · intro _ _; rfl
  · intro xs ih h; exact ih h
  · intro xs ih h; exact ih h
  · intro _ _ h; simp [W.alike] at h
  · intro _; rfl
  · intro x xs ih1 ih2 h
    simp only [W.alikeAll, Bool.and_eq_true] at h
    simp [PyData.plainAll, ih1 h.1, ih2 h.2]
  · trivial
  · intros; trivial
  · intros; trivial
theorem sort_ok {xs : List D} (h : sortOk xs = true) : W.AllAlike xs ∧ (∀ x ∈ xs, x ≠ .none ∧ x.depth ≤ 60 ∧ x.plain = true) ∧ W.Sortable xs ∧ xs.length ≤ LIM := by
  simp only [sortOk, Bool.and_eq_true, Bool.or_eq_true, List.all_eq_true, decide_eq_true_eq, Bool.not_eq_true'] at h
  obtain ⟨⟨⟨h1, h2⟩, h3⟩, h4⟩ := h
  refine ⟨fun d hd e he => h1 d hd e he, fun x hx => ⟨fun e => ?_, (h2 x hx).2, alike_plain x (h1 x hx x hx)⟩, ?_, h4⟩
  · have q := (h2 x hx).1
    rw [e] at q; cases q
  · rcases h3 with h3 | h3
    · refine .inl fun d hd => ?_
      have q := h3 d hd
      unfold isTupC at q
      split at q
      · exact ⟨_, _, rfl⟩
      · cases q
    · refine .inr fun d hd => ⟨fun e => ?_, fun ys e => ?_⟩
      · have q := (h2 d hd).1
        rw [e] at q; cases q
      · have q := h3 d hd
        rw [e] at q; cases q
theorem depth_all {xs : List D} (h : ∀ x ∈ xs, x.depth ≤ 60) : PyData.depthAll xs ≤ 60 := by
  induction xs with
  | nil => exact Nat.zero_le _
  | cons x xs ih =>
    have h1 := h x List.mem_cons_self
    have h2 := ih fun y hy => h y (List.mem_cons_of_mem _ hy)
    simp only [PyData.depthAll]
    omega
theorem plain_all {xs : List D} (h : ∀ x ∈ xs, x.plain = true) : PyData.plainAll xs = true := by
  induction xs with
  | nil => rfl
  | cons x xs ih =>
    simp only [PyData.plainAll, Bool.and_eq_true]
    exact ⟨h x List.mem_cons_self, ih fun y hy => h y (List.mem_cons_of_mem _ hy)⟩
/-- an item of vs that reads as d is the one that stands for d -/
theorem item_rel {pins : List (Addr × Obj)} {s : Shared} {σ : L2.St} {vs : List V} {ds : List D} {its : List Value} (hK : X.K = p.K) (I : Inv X pins σ H s) (ra : RpA p F H vs ds) (rv : Vals vs its) (hp : ∀ x ∈ ds, x.plain = true) {h' : Heap} (k : ∀ b o, s.heap.get? b = some o → h'.get? b = some o)
    {i : Nat} {u : Value} {d : D} {bs : List Addr} (e : its[i]? = some u) (r : Reads h' u d bs) : ∃ v, RelV v u ∧ Rp p F H v d := by
  have hi : i < ds.length := by
    rw [← ra.len, rv.length]
    exact (List.getElem?_eq_some_iff.mp e).1
  obtain ⟨v, ev, rd⟩ := ra.get (List.getElem?_eq_getElem hi)
  obtain ⟨u', eu, ru⟩ := rv.get ev
  rw [e] at eu; cases eu
  have hpi := hp _ (List.getElem_mem hi)
  obtain ⟨as, r2⟩ := Rk.reads (b := false) hK I (.inl rd) ru hpi
  have eq := SeqAt.plain_unique _ _ _ _ _ hpi (PyProof.Rows.Reads.keeps k r2) r
  exact ⟨v, ru, by rw [← eq]; exact rd⟩
theorem each_of : ∀ {vs : List V} {its : List Value} {ds : List D}, Vals vs its → RpA p F H vs ds → W.EachIs (fun u d => ∃ v, RelV v u ∧ Rp p F H v d) its ds
  | [], _, ds, .nil, h => by cases h; exact .nil
  | v :: vs, _, ds, .cons r t, h => by cases h with | cons h1 h2 => exact .cons ⟨v, r, h1⟩ (each_of t h2)
theorem of_each : ∀ {its : List Value} {ds : List D}, W.EachIs (fun u d => ∃ v, RelV v u ∧ Rp p F H v d) its ds → ∃ vs, Vals vs its ∧ RpA p F H vs ds
  | _, _, .nil => ⟨[], .nil, .nil⟩
  | _, _, .cons ⟨v, r, h⟩ t => by
    obtain ⟨vs, h1, h2⟩ := of_each t
    exact ⟨v :: vs, .cons r h1, .cons h h2⟩
theorem each_mono {R R' : Value → D → Prop} : ∀ {its : List Value} {ds : List D}, W.EachIs R its ds → (∀ u d, d ∈ ds → R u d → R' u d) → W.EachIs R' its ds
  | _, _, .nil, _ => .nil
  | _, _, .cons r t, h => .cons (h _ _ List.mem_cons_self r) (each_mono t fun u d hd => h u d (List.mem_cons_of_mem _ hd))
set_option maxHeartbeats 8000000 in
theorem call_bi (hK : X.K = p.K) (hc : X.calm = true) (hu : X.A.units + 70 < cLine) (b : Bi) (hfr : fr = true → b = .list ∨ b = .sorted) : CallR X (biV b) (rBi p fr b) := by
  intro pins s σ H xs us Q I r h
  obtain ⟨F, ds, ft, hxs, q⟩ := h
  have g := good_of I hK
  have go : ∀ {r' : List V → Hp → VK → Prop}, CallR X (biV b) r' → r' xs H (fun v H' => Good p H' → Q v H') → wpAny (model X.prog X.w) X.A (call (biV b) us) (EP X pins σ Q) X.xe s :=
    fun h1 h2 => CallR.good (r' := fun xs H Q => _) hK h1 (fun _ _ _ z => z) pins s σ H xs us Q I r h2
  have nofr : b ≠ .list → b ≠ .sorted → fr = false := fun n1 n2 => by
    cases fr with
    | false => rfl
    | true => rcases hfr rfl with e | e; exact absurd e n1; exact absurd e n2
  unfold biD at q
  split at q
  · obtain ⟨x, rfl, hx⟩ := hxs.one
    split at q
    · rename_i hz
      refine go call_len ⟨_, _, rfl, by rw [hx.str]; exact ⟨lim_line hz, rfl⟩, fun g => po_flat q g (fun _ z => nomatch z) (.int _)⟩
    · exact q.elim
  · obtain ⟨x, rfl, hx⟩ := hxs.one
    obtain ⟨a, vs, rfl, ha, ra⟩ := hx.lst
    exact go call_len ⟨_, vs.length, rfl, .inl ⟨vs, SqL.of ha, rfl⟩, fun g => po_flat q g (fun _ z => nomatch z) (by rw [ra.len]; exact .int _)⟩
  · obtain ⟨x, rfl, hx⟩ := hxs.one
    obtain ⟨a, vs, rfl, _, ha, ra⟩ := hx.tup
    exact go call_len ⟨_, vs.length, rfl, .inr ⟨vs, by rw [hK]; exact ha, rfl⟩, fun g => po_flat q g (fun _ z => nomatch z) (by rw [ra.len]; exact .int _)⟩
  · obtain ⟨x, rfl, hx⟩ := hxs.one
    exact go call_int1 (.inl ⟨_, by rw [hx.int], fun g => po_flat q g (fun _ z => nomatch z) (.int _)⟩)
  · obtain ⟨x, rfl, hx⟩ := hxs.one
    exact go call_int1 (.inr ⟨_, by rw [hx.bl], fun g => po_flat q g (fun _ z => nomatch z) (.int _)⟩)
  · obtain ⟨x, rfl, hx⟩ := hxs.one
    exact go call_abs ⟨_, by rw [hx.int], fun g => po_flat q g (fun _ z => nomatch z) (.int _)⟩
  · obtain ⟨x, y, rfl, hx, hy⟩ := hxs.two
    exact go (call_min2 hc) ⟨_, _, by rw [hx.int, hy.int], fun g => po_flat q g (fun _ z => nomatch z) (.int _)⟩
  · obtain ⟨x, y, rfl, hx, hy⟩ := hxs.two
    exact go (call_max2 hc) ⟨_, _, by rw [hx.int, hy.int], fun g => po_flat q g (fun _ z => nomatch z) (.int _)⟩
  · have ef := nofr (by simp) (by simp)
    subst ef
    obtain ⟨x, rfl, hx⟩ := hxs.one
    obtain ⟨a, vs, rfl, ha, ra⟩ := hx.lst
    split at q
    · rename_i hz
      obtain ⟨h1, h2, h3, h4⟩ := sort_ok hz
      obtain ⟨its, rv, pl, hl⟩ := I.list (SqL.of (K := X.K) ha)
      obtain ⟨as, rd⟩ := Dp.readsAll I _ _ its (by rw [hK]; exact ra.dp _ (plain_all fun x hx => (h2 x hx).2.2)) rv
      rw [Vals.ref1 r]
      have hd := depth_all fun x hx => (h2 x hx).2.1
      refine W.min_list_data (I.ok.hd hc) pl.isList (by simpa using rd) ⟨h1, fun x hx => (h2 x hx).1⟩ (by omega) fun i v h' tk bs ei rr k => ?_
      obtain ⟨w, rw', rp⟩ := item_rel hK I ra rv (fun x hx => (h2 x hx).2.2) k (by simpa using ei) rr
      exact ⟨w, H, I.kept k, rw', q w H (Same.refl H) g rp⟩
    · exact q.elim
  · have ef := nofr (by simp) (by simp)
    subst ef
    obtain ⟨x, rfl, hx⟩ := hxs.one
    obtain ⟨a, vs, rfl, ha, ra⟩ := hx.lst
    split at q
    · rename_i hz
      obtain ⟨h1, h2, h3, h4⟩ := sort_ok hz
      obtain ⟨its, rv, pl, hl⟩ := I.list (SqL.of (K := X.K) ha)
      obtain ⟨as, rd⟩ := Dp.readsAll I _ _ its (by rw [hK]; exact ra.dp _ (plain_all fun x hx => (h2 x hx).2.2)) rv
      rw [Vals.ref1 r]
      have hd := depth_all fun x hx => (h2 x hx).2.1
      refine W.max_list_data (I.ok.hd hc) pl.isList (by simpa using rd) ⟨h1, fun x hx => (h2 x hx).1⟩ (by omega) fun i v h' tk bs ei rr k => ?_
      obtain ⟨w, rw', rp⟩ := item_rel hK I ra rv (fun x hx => (h2 x hx).2.2) k (by simpa using ei) rr
      exact ⟨w, H, I.kept k, rw', q w H (Same.refl H) g rp⟩
    · exact q.elim
  · have ef := nofr (by simp) (by simp)
    subst ef
    obtain ⟨x, rfl, hx⟩ := hxs.one
    obtain ⟨a, vs, rfl, _, ha, ra⟩ := hx.tup
    split at q
    · rename_i hz
      obtain ⟨h1, h2, h3, h4⟩ := sort_ok hz
      obtain ⟨its, rv, pl, hl⟩ := I.tuple (by rw [hK]; exact ha)
      obtain ⟨as, rd⟩ := Dp.readsAll I _ _ its (by rw [hK]; exact ra.dp _ (plain_all fun x hx => (h2 x hx).2.2)) rv
      rw [Vals.ref1 r]
      have hd := depth_all fun x hx => (h2 x hx).2.1
      refine W.max_tuple_data (I.ok.hd hc) (show s.heap.IsTuple a its.toArray from pl) (by simpa using rd) ⟨h1, fun x hx => (h2 x hx).1⟩ (by omega) fun i v h' tk bs ei rr k => ?_
      obtain ⟨w, rw', rp⟩ := item_rel hK I ra rv (fun x hx => (h2 x hx).2.2) k (by simpa using ei) rr
      exact ⟨w, H, I.kept k, rw', q w H (Same.refl H) g rp⟩
    · exact q.elim
  · obtain ⟨x, rfl, hx⟩ := hxs.one
    obtain ⟨a, vs, rfl, ha, ra⟩ := hx.lst
    cases e : intsOf _ with
    | none => rw [e] at q; exact q.elim
    | some ns =>
      rw [e] at q
      exact go (cr_sum hc) ⟨a, ns, rfl, by rw [← ints_rel ra e]; exact SqL.of ha, fun g => po_flat q g (fun _ z => nomatch z) (.int _)⟩
  · obtain ⟨x, rfl, hx⟩ := hxs.one
    obtain ⟨a, vs, rfl, ha, ra⟩ := hx.lst
    cases e : boolsOf _ with
    | none => rw [e] at q; exact q.elim
    | some ns =>
      rw [e] at q
      exact go (cr_any hc) ⟨a, ns, rfl, by rw [← bools_rel ra e]; exact SqL.of ha, fun g => po_flat q g (fun _ z => nomatch z) (.bl _)⟩
  · obtain ⟨x, rfl, hx⟩ := hxs.one
    obtain ⟨a, vs, rfl, ha, ra⟩ := hx.lst
    cases e : boolsOf _ with
    | none => rw [e] at q; exact q.elim
    | some ns =>
      rw [e] at q
      exact go (cr_all hc) ⟨a, ns, rfl, by rw [← bools_rel ra e]; exact SqL.of ha, fun g => po_flat q g (fun _ z => nomatch z) (.bl _)⟩
  · obtain ⟨x, rfl, hx⟩ := hxs.one
    obtain ⟨a, vs, rfl, ha, ra⟩ := hx.lst
    exact go call_tuple_ofP ⟨a, vs, rfl, .inl ⟨SqL.of ha, fun t o ht hpo g => po_tup q ft ht hpo g ra⟩⟩
  · obtain ⟨x, rfl, hx⟩ := hxs.one
    obtain ⟨a, vs, ex, na, ha, ra⟩ := hx.tup
    have pl := hx.pln ex
    subst ex
    exact go call_tuple_ofP ⟨a, vs, rfl, .inr ⟨by rw [hK]; exact ha, fun g => po_flat q g (fun _ z => nomatch z) (.tup na ha pl ra)⟩⟩
  · obtain ⟨x, rfl, hx⟩ := hxs.one
    obtain ⟨a, vs, rfl, ha, ra⟩ := hx.lst
    exact go call_list_of ⟨a, vs, rfl, .inl (SqL.of ha), fun t ht g => po_new q ft ht g ra⟩
  · obtain ⟨x, rfl, hx⟩ := hxs.one
    obtain ⟨a, vs, rfl, na, ha, ra⟩ := hx.tup
    exact go call_list_of ⟨a, vs, rfl, .inr (by rw [hK]; exact ha), fun t ht g => po_new q ft ht g ra⟩
  · obtain ⟨x, rfl, hx⟩ := hxs.one
    obtain ⟨a, vs, rfl, ha, ra⟩ := hx.lst
    split at q
    · rename_i hz
      obtain ⟨h1, h2, h3, h4⟩ := sort_ok hz
      obtain ⟨its, rv, pl, hl⟩ := I.list (SqL.of (K := X.K) ha)
      rw [Vals.ref1 r]
      have e1 := each_of rv ra
      refine W.sorted_data (R := fun u d => ∃ v, RelV v u ∧ Rp p F H v d) (enc := id) pl.isList e1 (each_mono e1 fun u d hd ⟨v, rv', rp⟩ => ?_) (by rw [List.map_id]; exact h1) (by rw [List.map_id]; exact h3) (lim_line h4) (fun d hd => ?_) fun out ho he => ?_
      · exact Rk.reads (b := false) hK I (.inl rp) rv' (h2 d hd).2.2
      · have := (h2 d hd).2.1
        show X.A.units + 2 + d.depth < cLine
        omega
      · obtain ⟨ws, rw', rp⟩ := of_each he
        obtain ⟨ep, he'⟩ := PyProof.Rows.sortedAll_at s.heap its out.toArray
        have hlen : ws.length ≤ sizeLine := by
          rw [rp.len, List.length_mergeSort]
          exact lim_line h4
        have I' : Inv X pins σ (upd H (s.heap.objs.size + 1) (.lst ws)) { s with heap := sortedAll s.heap its (List.toArray out) } := I.laid (t' := s.toks) (fun _ _ => PyProof.Rows.sortedAll_old) (Nat.le_succ _) ⟨hlen, out, ep, rw', he'⟩
        exact ⟨.ref _, _, I', rfl, po_new q ft (I.hok.fresh (Nat.le_succ _)) (good_of I' hK) rp⟩
    · exact q.elim
  · obtain ⟨x, rfl, hx⟩ := hxs.one
    obtain ⟨a, vs, rfl, na, ha, ra⟩ := hx.tup
    split at q
    · rename_i hz
      obtain ⟨h1, h2, h3, h4⟩ := sort_ok hz
      obtain ⟨its, rv, pl, hl⟩ := I.tuple (show SqT X.K H a vs by rw [hK]; exact ha)
      rw [Vals.ref1 r]
      have e1 := each_of rv ra
      refine sorted_dataT (R := fun u d => ∃ v, RelV v u ∧ Rp p F H v d) (enc := id) pl e1 (each_mono e1 fun u d hd ⟨v, rv', rp⟩ => ?_) (by rw [List.map_id]; exact h1) (by rw [List.map_id]; exact h3) (lim_line h4) (fun d hd => ?_) fun out ho he => ?_
      · exact Rk.reads (b := false) hK I (.inl rp) rv' (h2 d hd).2.2
      · have := (h2 d hd).2.1
        show X.A.units + 2 + d.depth < cLine
        omega
      · obtain ⟨ws, rw', rp⟩ := of_each he
        obtain ⟨ep, he'⟩ := PyProof.Rows.sortedAll_at s.heap its out.toArray
        have hlen : ws.length ≤ sizeLine := by
          rw [rp.len, List.length_mergeSort]
          exact lim_line h4
        have I' : Inv X pins σ (upd H (s.heap.objs.size + 1) (.lst ws)) { s with heap := sortedAll s.heap its (List.toArray out) } := I.laid (t' := s.toks) (fun _ _ => PyProof.Rows.sortedAll_old) (Nat.le_succ _) ⟨hlen, out, ep, rw', he'⟩
        exact ⟨.ref _, _, I', rfl, po_new q ft (I.hok.fresh (Nat.le_succ _)) (good_of I' hK) rp⟩
    · exact q.elim
  · exact q.elim
end
end EV
end

section
set_option Elab.async false
set_option linter.all false
set_option autoImplicit false
set_option maxRecDepth 100000
/-! EvChk: is a text of the model this small AST? -/
namespace EV
open PySem PySem.Spec PyProof.Rows L2

/-! ### the forms of expressions -/
def asName : Expr → Option Str
  | .Name x _ => some x
  | _ => none
theorem asName_eq {e : Expr} {x : Str} (h : asName e = some x) : ∃ p, e = .Name x p := by
  cases e <;> simp [asName] at h
  subst h; exact ⟨_, rfl⟩
def asBin : Expr → Option (Expr × Operator × Expr)
  | .BinOp a o b _ => some (a, o, b)
  | _ => none
theorem asBin_eq {e a b : Expr} {o : Operator} (h : asBin e = some (a, o, b)) : ∃ p, e = .BinOp a o b p := by
  cases e <;> simp [asBin] at h
  obtain ⟨rfl, rfl, rfl⟩ := h; exact ⟨_, rfl⟩
def asUn : Expr → Option (UnaryOp × Expr)
  | .UnaryOp o a _ => some (o, a)
  | _ => none
theorem asUn_eq {e a : Expr} {o : UnaryOp} (h : asUn e = some (o, a)) : ∃ p, e = .UnaryOp o a p := by
  cases e <;> simp [asUn] at h
  obtain ⟨rfl, rfl⟩ := h; exact ⟨_, rfl⟩
def asBool : Expr → Option (BoolOp × List Expr)
  | .BoolOp o a _ => some (o, a)
  | _ => none
theorem asBool_eq {e : Expr} {o : BoolOp} {a : List Expr} (h : asBool e = some (o, a)) : ∃ p, e = .BoolOp o a p := by
  cases e <;> simp [asBool] at h
  obtain ⟨rfl, rfl⟩ := h; exact ⟨_, rfl⟩
def asIf : Expr → Option (Expr × Expr × Expr)
  | .IfExp c a b _ => some (c, a, b)
  | _ => none
theorem asIf_eq {e c a b : Expr} (h : asIf e = some (c, a, b)) : ∃ p, e = .IfExp c a b p := by
  cases e <;> simp [asIf] at h
  obtain ⟨rfl, rfl, rfl⟩ := h; exact ⟨_, rfl⟩
def asCmp : Expr → Option (Expr × List CmpOp × List Expr)
  | .Compare a os bs _ => some (a, os, bs)
  | _ => none
theorem asCmp_eq {e a : Expr} {os : List CmpOp} {bs : List Expr} (h : asCmp e = some (a, os, bs)) : ∃ p, e = .Compare a os bs p := by
  cases e <;> simp [asCmp] at h
  obtain ⟨rfl, rfl, rfl⟩ := h; exact ⟨_, rfl⟩
def asCall : Expr → Option (Str × List Expr)
  | .Call (.Name x _) as [] _ => some (x, as)
  | _ => none
theorem asCall_eq {e : Expr} {x : Str} {as : List Expr} (h : asCall e = some (x, as)) : ∃ p q, e = .Call (.Name x p) as [] q := by
  unfold asCall at h
  split at h
  · cases h; exact ⟨_, _, rfl⟩
  · cases h
def asMeth : Expr → Option (Expr × Str × List Expr × Bool)
  | .Call (.Attribute o m ap) as [] q => some (o, m, as, ap.endLine == q.line)
  | _ => none
theorem asMeth_eq {e o : Expr} {m : Str} {as : List Expr} (h : asMeth e = some (o, m, as, true)) : ∃ ap q, e = .Call (.Attribute o m ap) as [] q ∧ (ap.endLine == q.line) = true := by
  unfold asMeth at h
  split at h
  · simp only [Option.some.injEq, Prod.mk.injEq] at h
    obtain ⟨rfl, rfl, rfl, h⟩ := h
    exact ⟨_, _, rfl, h⟩
  · cases h
def asSub : Expr → Option (Expr × Expr)
  | .Subscript a b _ => some (a, b)
  | _ => none
theorem asSub_eq {e a b : Expr} (h : asSub e = some (a, b)) : ∃ p, e = .Subscript a b p := by
  cases e <;> simp [asSub] at h
  obtain ⟨rfl, rfl⟩ := h; exact ⟨_, rfl⟩
def asSlice : Expr → Option (Option Expr × Option Expr)
  | .Slice a b none _ => some (a, b)
  | _ => none
theorem asSlice_eq {e : Expr} {a b : Option Expr} (h : asSlice e = some (a, b)) : ∃ p, e = .Slice a b none p := by
  unfold asSlice at h
  split at h
  · cases h; exact ⟨_, rfl⟩
  · cases h
def notSlice : Expr → Bool
  | .Slice .. => false
  | _ => true
theorem plainIx {b : Expr} (h : notSlice b = true) : PlainIx b := by
  intro o i
  cases b <;> first | rfl | (simp [notSlice] at h)
def asTup : Expr → Option (List Expr)
  | .Tuple es _ _ => some es
  | _ => none
theorem asTup_eq {e : Expr} {es : List Expr} (h : asTup e = some es) : ∃ k p, e = .Tuple es k p := by
  cases e <;> simp [asTup] at h
  subst h; exact ⟨_, _, rfl⟩
def asLst : Expr → Option (List Expr)
  | .List es _ => some es
  | _ => none
theorem asLst_eq {e : Expr} {es : List Expr} (h : asLst e = some es) : ∃ p, e = .List es p := by
  cases e <;> simp [asLst] at h
  subst h; exact ⟨_, rfl⟩
def asCon : Expr → Option D
  | .Constant .none _ _ => some .none
  | .Constant (.bool b) _ _ => some (.bool b)
  | .Constant (.int i) _ _ => some (.int i)
  | .Constant (.str x) _ _ => some (.str x)
  | _ => none
/-- [elt for tg in it if c..] -/
def asComp : Expr → Option (Expr × Expr × Expr × List Expr × Scope)
  | .ListComp el [⟨tg, it, ifs, 0⟩] sc _ => some (el, tg, it, ifs, sc)
  | _ => none
theorem asComp_eq {e el tg it : Expr} {ifs : List Expr} {sc : Scope} (h : asComp e = some (el, tg, it, ifs, sc)) : ∃ p, e = .ListComp el [⟨tg, it, ifs, 0⟩] sc p := by
  unfold asComp at h
  split at h
  · simp only [Option.some.injEq, Prod.mk.injEq] at h
    obtain ⟨rfl, rfl, rfl, rfl, rfl⟩ := h
    exact ⟨_, rfl⟩
  · cases h
def notStar : Expr → Bool
  | .Starred .. => false
  | _ => true
def notSet : Expr → Bool
  | .Set .. => false
  | _ => true
theorem star_one {e : Expr} {es : List Expr} {env : PySem.Env} (h : notStar e = true) : starEach (e :: es) env = (false, eval e env) :: starEach es env := by
  cases e <;> first | rfl | (simp [notStar] at h)
theorem star_any {pos : Pos} {env : PySem.Env} : ∀ {es : List Expr}, es.all notStar = true → (backTo pos (starEach es env)).any (·.1) = false
  | [], _ => rfl
  | e :: es, h => by
    simp only [List.all_cons, Bool.and_eq_true] at h
    rw [star_one h.1]
    show (false || (backTo pos (starEach es env)).any (·.1)) = false
    rw [star_any h.2]
    rfl
theorem folded_not {e : Expr} {env : PySem.Env} (h : notSet e = true) (x : Value) : foldedSetIterable e env x = pure x := by
  cases e <;> first | rfl | (simp [notSet] at h)
theorem marks_not {op : CmpOp} {e : Expr} (h : notSet e = true) : behindInMarks op e = false := by
  cases e <;> first | rfl | (simp [notSet] at h)

/-! ### data that are the same -/
mutual
def dEq : D → D → Bool
  | .none, .none => true
  | .bool a, .bool b => a == b
  | .int a, .int b => decide (a = b)
  | .str a, .str b => decide (a = b)
  | .list a, .list b => dEqs a b
  | .tuple a, .tuple b => dEqs a b
  | _, _ => false
def dEqs : List D → List D → Bool
  | [], [] => true
  | x :: xs, y :: ys => dEq x y && dEqs xs ys
  | _, _ => false
end
mutual
theorem dEq_ok : ∀ {a b : D}, dEq a b = true → a = b
  | .none, b, h => by cases b <;> simp [dEq] at h; rfl
  | .bool a, b, h => by cases b <;> simp [dEq] at h; rw [h]
  | .int a, b, h => by cases b <;> simp [dEq] at h; rw [h]
  | .str a, b, h => by cases b <;> simp [dEq] at h; rw [h]
  | .list a, b, h => by cases b <;> simp [dEq] at h; rw [dEqs_ok h]
  | .tuple a, b, h => by cases b <;> simp [dEq] at h; rw [dEqs_ok h]
  | .dict a, b, h => by cases b <;> simp [dEq] at h
theorem dEqs_ok : ∀ {a b : List D}, dEqs a b = true → a = b
  | [], b, h => by cases b <;> simp [dEqs] at h; rfl
  | x :: xs, b, h => by
    cases b with
    | nil => simp [dEqs] at h
    | cons y ys =>
      simp only [dEqs, Bool.and_eq_true] at h
      rw [dEq_ok h.1, dEqs_ok h.2]
end

/-! ### the tables -/
structure Glb where
  T : Tab
  cons : List (Str × D)
  rf : Bool := false
def biN : Bi → Str
  | .len => "len" | .int => "int" | .abs => "abs" | .min => "min" | .max => "max" | .sum => "sum" | .any => "any" | .all => "all" | .tuple => "tuple" | .list => "list" | .sorted => "sorted"
def tyN : Ty → Str
  | .int => "int" | .bool => "bool" | .str => "str" | .tuple => "tuple" | .list => "list"
def tyS : Ty → String
  | .int => "int" | .bool => "bool" | .str => "str" | .tuple => "tuple" | .list => "list"
/-- the built-ins' names that a text may use -/
def bts : List Str := ["len", "int", "abs", "min", "max", "sum", "any", "all", "tuple", "list", "sorted", "range", "zip", "enumerate", "isinstance", "bool", "str", "set"]
def boB : Bop → Operator → Bool := fun o q => bopO o == q
def coB : Cop → CmpOp → Bool := fun o q => copO o == q
inductive Md where | strict | borrow | fresh
  deriving DecidableEq
def visB (sc : Scope) (x : Str) : Bool := match sc.names.lookup x with
  | some .local => true
  | some .cell => true
  | some .free => true
  | _ => false
def gloB (sc : Scope) (x : Str) : Bool := match sc.names.lookup x with
  | some .globalImplicit => true
  | _ => false
def okName (x : Str) : Bool := !(x == ("__debug__" : Str)) && !(x == ("__classdict__" : Str)) && decide (x ≠ ("__name__" : Str))
/-- expressions whose value, if there is one, is a list that nothing else knows -/
def isFresh (T : Tab) : E → Bool
  | .lst _ => true
  | .comp _ _ _ _ => true
  | .lrng _ => true
  | .bi .list _ => true
  | .bi .sorted _ => true
  | .bin .mul (.lst _) _ => true
  | .call f _ => (match T[f]? with
    | some fi => fi.fresh
    | none => false)
  | _ => false
/-- a target; its names are stored in the scope sc -/
def locB (sc : Scope) (x : Str) : Bool := match sc.names.lookup x with
  | some .local => true
  | some .cell => true
  | _ => false
def chkTg (N : List Str) (sc : Scope) : Nat → Expr → Tg → Bool
  | 0, _, _ => false
  | n + 1, e, .nm i => (match asName e with
    | some x => decide (N[i]? = some x) && locB sc x
    | none => false)
  | n + 1, e, .tup ts => (match asTup e with
    | some es => chkTs n es ts
    | none => false)
  | _, _, _ => false
where chkTs : Nat → List Expr → Tg → Bool
  | 0, _, _ => false
  | _, [], .tnil => true
  | n + 1, e :: es, .tcons t ts => notStar e && chkTg N sc n e t && chkTs n es ts
  | _, _, _ => false
def notTest : Expr → Bool
  | .UnaryOp .. => false
  | .BoolOp .. => false
  | .IfExp .. => false
  | .Compare .. => false
  | _ => true
/-- a tuple of texts -/
def strsT : D → Bool
  | .tuple ds => ds.all fun d => match d with
    | .str _ => true
    | _ => false
  | _ => false
/-- zip and enumerate want a tuple for a target -/
def tgI (tg : Tg) (it : E) : Bool := match it, tg with
  | .zip _ _, .tup _ => true
  | .enum _, .tup _ => true
  | .zip _ _, _ => false
  | .enum _, _ => false
  | _, _ => true
def ownFree (own : List Nat) (tg : Tg) : Bool := (tgSlots tg).all fun i => !own.contains i

/-- draw[k], the draws at slot i -/
def drB (N : List Str) (own : List Nat) (sc : Scope) (e : Expr) (i k : Nat) : Bool := match asSub e with
  | some (x, y) => (match asName x with
    | some z => decide (N[i]? = some z) && visB sc z && okName z && !own.contains i
    | none => false) && (match asCon y with
    | some (.int j) => decide (j = (k : Int))
    | _ => false) && notSlice y
  | none => false
section
variable (g : Glb) (N : List Str) (own : List Nat)
mutual
def chkE : Nat → Md → Scope → Expr → E → Bool
  | 0, _, _, _, _ => false
  | n + 1, m, sc, e, e' => (if m = .fresh then isFresh g.T e' else true) && match e' with
    | .var i => (match asName e with
      | some x => decide (N[i]? = some x) && visB sc x && okName x && (decide (m = .borrow) || !own.contains i)
      | none => false)
    | .con d => (match asCon e, d with
      | some .none, .none => true
      | some (.bool a), .bool b => a == b
      | some (.int a), .int b => decide (a = b)
      | some (.str a), .str b => decide (a = b)
      | _, _ => false)
    | .glo x d => (match asName e with
      | some y => decide (x = y) && gloB sc x && okName x && g.cons.any fun q => decide (q.1 = x) && dEq q.2 d
      | none => false)
    | .bin o a b => (match asBin e with
      | some (x, q, y) => boB o q && chkE n .borrow sc x a && chkE n .borrow sc y b
      | none => false)
    | .neg a => (match asUn e with
      | some (.USub, x) => chkE n .borrow sc x a
      | _ => false)
    | .not_ a => (match asUn e with
      | some (.Not, x) => chkE n .strict sc x a
      | _ => false)
    | .and_ a b => (match asBool e with
      | some (.And, es) => chkB n .And sc es (.and_ a b)
      | _ => false)
    | .or_ a b => (match asBool e with
      | some (.Or, es) => chkB n .Or sc es (.or_ a b)
      | _ => false)
    | .ife c a b => (match asIf e with
      | some (x, y, z) => chkT n sc x c && chkE n .strict sc y a && chkE n .strict sc z b
      | none => false)
    | .cmp o a b => (match asCmp e with
      | some (x, [q], [y]) => coB o q && notSet y && chkE n .borrow sc x a && chkE n .borrow sc y b
      | _ => false)
    | .chn o p a b c => (match asCmp e with
      | some (x, [q, r], [y, z]) => coB o q && coB p r && notSet y && notSet z && chkE n .borrow sc x a && chkE n .borrow sc y b && chkE n .borrow sc z c
      | _ => false)
    | .ix a b => (match asSub e with
      | some (x, y) => notSlice y && chkE n .borrow sc x a && chkE n .borrow sc y b
      | none => false)
    | .sl a lo hi => (match asSub e with
      | some (x, y) => (match asSlice y with
        | some (l, h) => chkE n .borrow sc x a && chkO n sc l lo && chkO n sc h hi
        | none => false)
      | none => false)
    | .tup as => (match asTup e with
      | some es => decide (es.length ≤ 1000) && chkA n .strict sc es as
      | none => false)
    | .lst as => (match asLst e with
      | some es => decide (es.length ≤ 1000) && chkA n .strict sc es as
      | none => false)
    | .call f as => (match asCall e with
      | some (x, es) => (match g.T[f]? with
        | some fi => decide (fi.name = x) && gloB sc x && okName x && chkA n .strict sc es as
        | none => false)
      | none => false)
    | .bi b as => (match asCall e with
      | some (x, y :: es) => decide (biN b = x) && gloB sc x && chkA n .borrow sc (y :: es) as
      | _ => false)
    | .mt m a as => (match m, asMeth e with
      | .startswith, some (x, nm, [y], true) => decide (nm = ("startswith" : Str)) && notStar y && (match x with
        | .Name _ _ => true
        | _ => false) && chkE n .borrow sc x a && (match as with
        | .cons b .nil => chkE n .borrow sc y b
        | _ => false)
      | .indexI, some (x, nm, [y], true) => decide (nm = ("index" : Str)) && notStar y && (match x with
        | .Name _ _ => true
        | _ => false) && chkE n .borrow sc x a && (match as with
        | .cons b .nil => chkE n .borrow sc y b
        | _ => false)
      | .split, some (x, nm, [y], true) => decide (nm = ("split" : Str)) && notStar y && (match x with
        | .Name _ _ => true
        | _ => false) && chkE n .borrow sc x a && (match as with
        | .cons b .nil => chkE n .borrow sc y b
        | _ => false)
      | .index, some (x, nm, [y], true) => decide (nm = ("index" : Str)) && notStar y && (match asName x, a with
        | some z, .glo gy gd => decide (gy = z) && gloB sc z && okName z && (g.cons.any fun q => decide (q.1 = gy) && dEq q.2 gd) && strsT gd
        | _, _ => false) && (match as with
        | .cons b .nil => chkE n .borrow sc y b
        | _ => false)
      | _, _ => false)
    | .lens a => (match asCall e with
      | some (x, [z]) => decide (x = ("len" : Str)) && gloB sc x && notStar z && (match asCall z with
        | some (y, [w]) => decide (y = ("set" : Str)) && gloB sc y && notStar w && chkE n .borrow sc w a
        | _ => false)
      | _ => false)
    | .eqs a b => (match asCmp e with
      | some (x, [.Eq], [z]) => notSet z && (match asCall x, asCall z with
        | some (y, [w]), some (y2, [w2]) => decide (y = ("set" : Str)) && decide (y2 = ("set" : Str)) && gloB sc y && notStar w && notStar w2 && chkE n .borrow sc w a && chkE n .borrow sc w2 b
        | _, _ => false)
      | _ => false)
    | .isi a t => (match asCall e with
      | some (x, [y, z]) => decide (x = ("isinstance" : Str)) && gloB sc x && notStar y && chkE n .borrow sc y a && (match asName z with
        | some w => decide (tyN t = w) && gloB sc w
        | none => false)
      | _ => false)
    | .lrng as => (match asCall e with
      | some (x, [y]) => decide (x = ("list" : Str)) && gloB sc x && (match asCall y with
        | some (z, z1 :: zs) => decide (z = ("range" : Str)) && gloB sc z && (z1 :: zs).all notStar && decide ((z1 :: zs).length ≤ 2) && chkA n .borrow sc (z1 :: zs) as
        | _ => false)
      | _ => false)
    | .comp el tg it c => (match asComp e with
      | some (x, t, i, ifs, scope) => notSet i && tgI tg it && chkTg N scope n t tg && ownFree own tg && decide (tgSlots tg).Nodup && blkC N sc scope ((tgSlots tg).map fun k => (N.getD k "", k)) &&
          chkI n .borrow sc i it && chkE n .strict scope x el && (match ifs with
          | [] => (match c with
            | .con (.bool true) => true
            | _ => false)
          | [k] => chkT n scope k c
          | _ => false)
      | none => false)
    | .drw i k => drB N own sc e i k && decide (1 ≤ k) && decide (k ≤ 3)
    | .ncel i => (match asCall e with
      | some (x, [y]) => decide (x = ("len" : Str)) && gloB sc x && notStar y && drB N own sc y i 0
      | _ => false)
    | .cel i a => (match asSub e with
      | some (x, y) => notSlice y && drB N own sc x i 0 && chkE n .borrow sc y a
      | none => false)
    | _ => false
/-- a test -/
def chkT : Nat → Scope → Expr → E → Bool
  | 0, _, _, _ => false
  | n + 1, sc, e, e' => match e' with
    | .not_ a => (match asUn e with
      | some (.Not, x) => chkT n sc x a
      | _ => false)
    | .and_ a b => (match asBool e with
      | some (.And, es) => chkTB n .And sc es (.and_ a b)
      | _ => false)
    | .or_ a b => (match asBool e with
      | some (.Or, es) => chkTB n .Or sc es (.or_ a b)
      | _ => false)
    | .cmp o a b => (match asCmp e with
      | some (x, [q], [y]) => coB o q && notSet y && chkE n .borrow sc x a && chkE n .borrow sc y b
      | _ => false)
    | .chn o p a b c => (match asCmp e with
      | some (x, [q, r], [y, z]) => coB o q && coB p r && notSet y && notSet z && chkE n .borrow sc x a && chkE n .borrow sc y b && chkE n .borrow sc z c
      | _ => false)
    | .eqs a b => (match asCmp e with
      | some (x, [.Eq], [z]) => notSet z && (match asCall x, asCall z with
        | some (y, [w]), some (y2, [w2]) => decide (y = ("set" : Str)) && decide (y2 = ("set" : Str)) && gloB sc y && notStar w && notStar w2 && chkE n .borrow sc w a && chkE n .borrow sc w2 b
        | _, _ => false)
      | _ => false)
    | e' => notTest e && chkE n .strict sc e e'
/-- and, or: from the left -/
def chkB : Nat → BoolOp → Scope → List Expr → E → Bool
  | 0, _, _, _, _ => false
  | n + 1, o, sc, es, e' => match es, o, e' with
    | [x], _, e' => chkE n .strict sc x e'
    | x :: y :: es, .And, .and_ a b => chkE n .strict sc x a && chkB n .And sc (y :: es) b
    | x :: y :: es, .Or, .or_ a b => chkE n .strict sc x a && chkB n .Or sc (y :: es) b
    | _, _, _ => false
def chkTB : Nat → BoolOp → Scope → List Expr → E → Bool
  | 0, _, _, _, _ => false
  | n + 1, o, sc, es, e' => match es, o, e' with
    | [x], _, e' => chkT n sc x e'
    | x :: y :: es, .And, .and_ a b => chkT n sc x a && chkTB n .And sc (y :: es) b
    | x :: y :: es, .Or, .or_ a b => chkT n sc x a && chkTB n .Or sc (y :: es) b
    | _, _, _ => false
def chkA : Nat → Md → Scope → List Expr → E → Bool
  | 0, _, _, _, _ => false
  | n + 1, m, sc, es, e' => match es, e' with
    | [], .nil => true
    | x :: es, .cons a as => notStar x && chkE n m sc x a && chkA n m sc es as
    | _, _ => false
def chkO : Nat → Scope → Option Expr → E → Bool
  | 0, _, _, _ => false
  | n + 1, sc, o, e' => match o, e' with
    | none, .nil => true
    | some _, .nil => false
    | some x, e' => chkE n .borrow sc x e'
    | _, _ => false
/-- what a for walks -/
def chkI : Nat → Md → Scope → Expr → E → Bool
  | 0, _, _, _, _ => false
  | n + 1, m, sc, e, e' => match e' with
    | .rng as => (match asCall e with
      | some (z, z1 :: zs) => decide (z = ("range" : Str)) && gloB sc z && (z1 :: zs).all notStar && decide ((z1 :: zs).length ≤ 3) && chkA n .borrow sc (z1 :: zs) as
      | _ => false)
    | .zip a b => (match asCall e with
      | some (z, [x, y]) => decide (z = ("zip" : Str)) && gloB sc z && notStar x && notStar y && chkE n m sc x a && chkE n m sc y b
      | _ => false)
    | .enum a => (match asCall e with
      | some (z, [x]) => decide (z = ("enumerate" : Str)) && gloB sc z && notStar x && chkE n m sc x a
      | _ => false)
    | e' => chkE n m sc e e'
end
end
end EV
end

section
set_option Elab.async false
set_option linter.all false
set_option autoImplicit false
set_option maxRecDepth 100000
/-! EvIter: what a for walks: a list or a tuple; enumerate of either. -/
namespace EV
open PySem PySem.Spec PyProof.Rows L2

/-! ### enumerate(tuple) -/
section
open AutoSeq1 (wpAny_loadPart')
set_option maxHeartbeats 1000000 in
theorem meets_enumerate_newT (l : Addr) (items : Array Value) (n : Nat) (dct : Option Addr) (sl : Array (Option Value)) :
    Meets (Builtin.«enumerate.__new__» ⟨[.type "enumerate", .ref l], []⟩) (fun _ R s => s.heap.get? l = some { cls := .type "tuple", dict := dct, data := .seq items n, slots := sl } ∧
      R (.ok (.ret (.ref (s.heap.push { cls := .type "tuple_iterator", data := .fields #[.ref l, .int 0 0] }).objs.size)))
        { s with heap := (s.heap.push { cls := .type "tuple_iterator", data := .fields #[.ref l, .int 0 0] }).push { cls := .type "enumerate", data := .fields #[.none, .bool false, .ref s.heap.objs.size, rawInt 0, .none, .none] } }) :=
  .of_wp fun prog w A R s h => by
    obtain ⟨hp, g, d, tk, os⟩ := s; obtain ⟨hl, h⟩ := h
    have hsub := sub_enumerate
    have hL : Heap.IsTuple (Shared.heap ⟨hp, g, d, tk, os⟩) l items := ⟨_, hl, rfl, n, rfl⟩
    wp_walk using wpAny_loadPart' hl
    refine wpAny_stack_any fun st => wpAny_pure ?_
    split
    · rename_i c _ _ _ _ _
      cases (c == Value.type "enumerate")
      · wp_walk using wpAny_loadPart' hl, wpAny_pyIter_tuple hL
        exact ⟨_, rfl, h⟩
      · wp_walk using wpAny_loadPart' hl, wpAny_pyIter_tuple hL
        exact ⟨_, rfl, h⟩
    · wp_walk using wpAny_loadPart' hl, wpAny_pyIter_tuple hL
      exact ⟨_, rfl, h⟩
end
section
variable {prog : Program} {w : World} {A : Around} {E : Value → Shared → Prop} {s : Shared}
theorem call_enumerate_tuple {l : Addr} {items : Array Value} {Q : Value → Shared → Prop} (hL : s.heap.IsTuple l items)
    (h : ∀ h', IsEnum h' (s.heap.objs.size + 1) s.heap.objs.size 0 .none → h'.IsTupleIter s.heap.objs.size l 0 → h'.objs.size = s.heap.objs.size + 2 →
      (∀ b o, s.heap.get? b = some o → h'.get? b = some o) → Q (.ref (s.heap.objs.size + 1)) { s with heap := h' }) :
    wpAny (model prog w) A (call (.type "enumerate") [.ref l]) Q E s := by
  obtain ⟨⟨c, dct, dt, sl⟩, hl, hc, n, hd⟩ := hL
  replace hc : c = .type "tuple" := hc
  replace hd : dt = .seq items n := hd
  subst hc hd
  refine callType_new F.called_enumerate (by decide) (F.typeCall_enumerate_1 _) (F.newCall_enumerate_1 _) (fun obj => F.args_object_init_2 obj _) F.entry_enumerate_new
    (meets_enumerate_newT l items n dct sl) ⟨hl, ?_⟩
  have hz : (s.heap.push { cls := .type "tuple_iterator", data := .fields #[.ref l, .int 0 0] }).objs.size = s.heap.objs.size + 1 := Heap.size_push ..
  show _ ∧ _
  rw [hz]
  have he : IsEnum ((s.heap.push { cls := .type "tuple_iterator", data := .fields #[.ref l, .int 0 0] }).push
      { cls := .type "enumerate", data := .fields #[.none, .bool false, .ref s.heap.objs.size, rawInt 0, .none, .none] }) (s.heap.objs.size + 1) s.heap.objs.size 0 .none := by
    have := Heap.get?_push_size (s.heap.push { cls := .type "tuple_iterator", data := .fields #[.ref l, .int 0 0] })
      (o := { cls := .type "enumerate", data := .fields #[.none, .bool false, .ref s.heap.objs.size, rawInt 0, .none, .none] }) rfl
    rw [hz] at this; exact this
  refine ⟨⟨_, he, rfl⟩, h _ he ⟨_, Heap.get?_push_of_some _ (Heap.get?_push_size _ rfl), rfl, rfl⟩ (by rw [Heap.size_push, hz]) fun b o x => Heap.get?_push_of_some _ (Heap.get?_push_of_some _ x)⟩
theorem draws_tuple {A : Around} (hh : A.handled = none) (it l : Addr) (hne : l ≠ it) (items : Array Value) :
    Draws prog w A it [it, l] items.size (fun i v => items[i]? = some v) (fun i h => h.IsTupleIter it l i ∧ h.IsTuple l items) where
  live := fun _ _ st => let ⟨o, ho, _⟩ := st.1; ⟨o, ho⟩
  frame := fun _ _ _ st hk => ⟨st.1.at fun o e => hk it (by simp) o e, let ⟨o, ho, r⟩ := st.2; ⟨o, hk l (by simp) o ho, r⟩⟩
  item := fun i s Q E hi st hQ => by
    refine RZ.nextOf_tuple_item st.1 st.2 (x := items[i]) (by simp [hi]) fun h' hit' hs' => ?_
    exact hQ _ h' s.toks (by simp [hi]) ⟨hit', st.2.extBut hs'.extBut hne⟩ hs'
  done := fun s Q E st hE => RZ.nextOf_tuple_end hh st.1 st.2 (by simp) hE
end
/-- the tuple at a, each item in a new pair -/
def IteT (K : PySem.W.Frag) (a : Addr) : It :=
  ⟨fun i H => ∃ (xs : List V) (x : V), SqT K H a xs ∧ xs[i]? = some x, fun i H v H' => ∃ T x, v = .ref T ∧ H T = none ∧ H' = upd H T (.tup [.int (i : Nat), x]) ∧ ∀ xs, SqT K H a xs → xs[i]? = some x, fun i H => ∃ xs : List V, SqT K H a xs ∧ xs.length = i⟩
theorem turn_enumT {P : Program} {w : World} {K : PySem.W.Frag} {elts : List Expr} {kk : Nat} {tpos : Pos} (a e it : Addr) (hai : a ≠ it) (hae : a ≠ e) :
    Turn P w K (.Tuple elts kk tpos) (IteT K a) [e, it] e (fun i h => (∃ old, IsEnum h e it ((i : Nat) : Int) old) ∧ h.IsTupleIter it a i ∧ e ≠ it) where
  mem := by simp
  obj := fun i h st b hb => by
    obtain ⟨⟨old, he⟩, ⟨o, ho, hc, hd⟩, _⟩ := st
    have e' : b = e ∨ b = it := by simpa using hb
    rcases e' with z | z
    · rw [z]; exact ⟨_, he, fun v q => nomatch q⟩
    · rw [z]; exact ⟨o, ho, fun v q => by rw [hd] at q; cases q⟩
  keep := fun i h h' st k => let ⟨⟨old, he⟩, hi, hne⟩ := st; ⟨⟨old, k e (by simp) _ he⟩, hi.at fun o q => k it (by simp) o q, hne⟩
  item := by
    intro X hP hw hK hc i pins s σ H E I hf st hg
    subst hP hw hK
    obtain ⟨⟨old, he⟩, hit, hne⟩ := st
    obtain ⟨xs, x, hq, hx⟩ := hg
    obtain ⟨its, rv, p, hz⟩ := I.tuple hq
    obtain ⟨u, hu, ru⟩ := rv.get hx
    have hel : e < s.heap.objs.size := Heap.lt_size he
    have hil : it < s.heap.objs.size := by obtain ⟨_, q, _⟩ := hit; exact Heap.lt_size q
    have hlt : i < its.toArray.size := by
      have := (List.getElem?_eq_some_iff.mp hu).1
      simpa using this
    have hT0 : s.heap.IsTuple a its.toArray := p
    refine wpAny_pyNext_enum_itemD (draws_tuple (show X.A.in1.handled = none from I.ok.hd hc) it a hai its.toArray) he ⟨hit, hT0⟩ hlt hne (by simp; exact ⟨hne, fun z => hae z.symm⟩) fun x' h' tk hx' ho hit' hT hsz hk => ?_
    have ex : x' = u := by
      have h1 : its[i]? = some x' := by simpa using hx'
      rw [hu] at h1; exact (Option.some.inj h1).symm
    subst ex
    refine ⟨_, rfl, wpAny_letOwnedTupleGo_enum (s := { s with heap := h', toks := tk + 1 }) ho fun h'' he' sb => ?_⟩
    have hT2 : h''.get? s.heap.objs.size = some { cls := .type "tuple", data := .seq #[.int i tk, x'] } := (sb.2 _ (Nat.ne_of_gt hel)).trans hT
    have new : ObjOk X.prog X.w (upd H s.heap.objs.size (.tup [.int (i : Nat), x])) h'' s.heap.objs.size (.tup [.int (i : Nat), x]) :=
      ⟨by show 2 ≤ sizeLine; decide, [.int i tk, x'], .cons ⟨_, rfl⟩ (.cons ru .nil), ⟨_, hT2, rfl, _, rfl⟩⟩
    have I1 : Inv X pins σ (upd H s.heap.objs.size (.tup [.int (i : Nat), x])) { s with heap := h'', toks := tk + 1 } :=
      I.turnedNew (ch := [e, it]) (fun b ob hb q => (sb.2 b (fun z => hb (by simp [z]))).trans (hk b ob (fun z => hb (by simp [z])) (fun z => hb (by simp [z])) q)) hf (Nat.le_refl _) new
    refine ⟨.ref s.heap.objs.size, _, I1, rfl, ⟨_, x, rfl, I.hok.fresh (Nat.le_refl _), rfl, fun ys hy => by rw [I.tuple_inj hy hq]; exact hx⟩, ⟨⟨x', ?_⟩, hit'.1.at fun o q => (sb.2 it (Ne.symm hne)).trans q, hne⟩, fun b hb => ?_⟩
    · have e1 : ((i + 1 : Nat) : Int) = (i : Int) + 1 := by omega
      rw [e1]; exact he'
    · have hb' : b < s.heap.objs.size := by
        have e' : b = e ∨ b = it := by simpa using hb
        rcases e' with z | z
        · rw [z]; exact hel
        · rw [z]; exact hil
      rw [upd_ne (Nat.ne_of_lt hb')]
      exact (hf b hb).1
  done := by
    intro X hP hw hK hc i pins s σ H E I hf st hg
    subst hP hw hK
    obtain ⟨⟨old, he⟩, hit, hne⟩ := st
    obtain ⟨xs, hq, hx⟩ := hg
    obtain ⟨its, rv, p, hz⟩ := I.tuple hq
    obtain ⟨f0, f1, f2, f3, f4, f5⟩ := hf it (by simp)
    have hl := rv.length
    have hn : i = its.toArray.size := by simp; omega
    subst hn
    exact wpAny_pyNext_enum_endD (draws_tuple (show X.A.in1.handled = none from I.ok.hd hc) it a hai its.toArray) he ⟨hit, show s.heap.IsTuple a its.toArray from p⟩ fun h' eb => ⟨rfl, I.turned (t' := s.toks) (fun b o hb q => eb b o hb q) f0 f1 f3 f4 f5⟩
  self := fun A i s Q E st h => let ⟨⟨_, he⟩, _⟩ := st; wpAny_pyIter_enum he h
def iEnumA (K : PySem.W.Frag) (ta : TA) : TI := fun σ H R => ta σ H fun vs H1 => ∃ a xs, vs = [.ref a] ∧ ((SqL K H1 a xs ∧ R (Ite K a) H1) ∨ (SqT K H1 a xs ∧ R (IteT K a) H1))
theorem pi_enumA {X : Cx} {e : Expr} {ta : TA} {p pos tpos : Pos} {elts : List Expr} {kk : Nat} (hg : Gl X "enumerate") (hm : X.mg "enumerate" = none) (ha : PA X [e] ta) (hs : starEach [e] X.env = [(false, eval e X.env)]) :
    PI X (.Tuple elts kk tpos) (.Call (.Name "enumerate" p) [e] [] pos) (iEnumA X.K ta) := by
  refine ⟨fun pins s σ H R I h => ?_⟩
  refine Call_ (ld_blt I hg hm boot_enumerate (PyProof.Rows.callWith_type1 (thn (ha.run pos pins s σ H _ I h) fun us s1 ⟨vs, H1, I1, r1, q1⟩ => ?_) hs rfl))
  obtain ⟨a, xs, ex, q⟩ := q1
  subst ex
  cases r1 with
  | cons r rr =>
    cases rr
    cases r
    have fresh : ∀ b ∈ [s1.heap.objs.size + 1, s1.heap.objs.size], FpOk X pins H1 b := fun b hb => by
      have e' : b = s1.heap.objs.size + 1 ∨ b = s1.heap.objs.size := by simpa using hb
      have hle : s1.heap.objs.size ≤ b := by
        rcases e' with z | z
        · rw [z]; exact Nat.le_add_right _ _
        · rw [z]; exact Nat.le_refl _
      exact I1.fpOk hle (I1.hok.fresh hle)
    rcases q with ⟨hq, q⟩ | ⟨hq, q⟩
    · obtain ⟨its, rv, p', hz⟩ := I1.list hq
      refine call_enumerate_list p'.isList fun h' he hit hsz hk => wpAny_pyIter_enum he ?_
      have I2 : Inv X pins σ H1 { s1 with heap := h' } := I1.kept (t' := s1.toks) hk
      exact ⟨s1.heap.objs.size + 1, [s1.heap.objs.size + 1, s1.heap.objs.size], _, _, H1, rfl, I2, turn_enum a (s1.heap.objs.size + 1) s1.heap.objs.size, ⟨⟨.none, he⟩, hit, Nat.succ_ne_self _⟩, fresh, q⟩
    · obtain ⟨its, rv, p', hz⟩ := I1.tuple hq
      have hT0 : s1.heap.IsTuple a its.toArray := p'
      have hlt : a < s1.heap.objs.size := by obtain ⟨o, ho, _⟩ := hT0; exact Heap.lt_size ho
      refine call_enumerate_tuple hT0 fun h' he hit hsz hk => wpAny_pyIter_enum he ?_
      have I2 : Inv X pins σ H1 { s1 with heap := h' } := I1.kept (t' := s1.toks) hk
      exact ⟨s1.heap.objs.size + 1, [s1.heap.objs.size + 1, s1.heap.objs.size], _, _, H1, rfl, I2, turn_enumT a (s1.heap.objs.size + 1) s1.heap.objs.size (Nat.ne_of_lt hlt) (Nat.ne_of_lt (Nat.lt_succ_of_lt hlt)), ⟨⟨.none, he⟩, hit, Nat.succ_ne_self _⟩, fresh, q⟩
/-! ### a list or a tuple -/
def iSeq (K : PySem.W.Frag) (tl : TE) : TI := fun σ H R => tl σ H fun x H1 => ∃ a xs, x = .ref a ∧ ((SqL K H1 a xs ∧ R (Itl K a) H1) ∨ (SqT K H1 a xs ∧ R (Itt K a) H1))
theorem pi_seq {X : Cx} {tg l : Expr} {tl : TE} (hl : PE X l tl) : PI X tg l (iSeq X.K tl) := by
  refine ⟨fun pins s σ H R I h => ?_⟩
  refine thn (hl.run pins s σ H _ I h) fun v s1 ⟨x, H1, I1, r1, q1⟩ => ?_
  obtain ⟨a, xs, e, q⟩ := q1
  subst e
  cases r1
  rcases q with ⟨hq, q⟩ | ⟨hq, q⟩
  · obtain ⟨its, rv, p, hz⟩ := I1.list hq
    refine wpAny_pyIter_list p.isList ?_
    refine ⟨s1.heap.objs.size, [s1.heap.objs.size], _, _, H1, rfl, I1.kept (t' := s1.toks) fun b o e => Heap.get?_push_of_some _ e, turn_list a _, ⟨_, Heap.get?_push_size _ rfl, rfl, rfl⟩, fun b hb => ?_, q⟩
    have e : b = s1.heap.objs.size := by simpa using hb
    subst e
    exact I1.fpOk (Nat.le_refl _) (I1.hok.fresh (Nat.le_refl _))
  · obtain ⟨its, rv, p, hz⟩ := I1.tuple hq
    refine wpAny_pyIter_tuple (show s1.heap.IsTuple a its.toArray from p) ?_
    refine ⟨s1.heap.objs.size, [s1.heap.objs.size], _, _, H1, rfl, I1.kept (t' := s1.toks) fun b o e => Heap.get?_push_of_some _ e, turn_tuple a _, ⟨_, Heap.get?_push_size _ rfl, rfl, rfl⟩, fun b hb => ?_, q⟩
    have e : b = s1.heap.objs.size := by simpa using hb
    subst e
    exact I1.fpOk (Nat.le_refl _) (I1.hok.fresh (Nat.le_refl _))
end EV
end

section
set_option Elab.async false
set_option linter.all false
set_option autoImplicit false
set_option maxRecDepth 100000
/-! EvExpr: what the evaluator says of an expression, the model does. -/
namespace EV
open PySem PySem.Spec PyProof.Rows L2

/-! ### readings -/
theorem PE.imp {X : Cx} {e : Expr} {t t' : TE} (h : PE X e t) (k : ∀ σ H Q, t' σ H Q → t σ H Q) : PE X e t' := ⟨fun pins s σ H Q I q => h.run pins s σ H Q I (k σ H Q q)⟩
theorem PT.imp {X : Cx} {e : Expr} {t t' : TT} (h : PT X e t) (k : ∀ σ H Q, t' σ H Q → t σ H Q) : PT X e t' := ⟨fun pins s σ H Q I q => h.run pins s σ H Q I (k σ H Q q)⟩
theorem PW.imp {X : Cx} {e : Expr} {t t' : TT} (h : PW X e t) (k : ∀ σ H Q, t' σ H Q → t σ H Q) : PW X e t' := ⟨fun wh pins s σ H Q I q => h.run wh pins s σ H Q I (k σ H Q q)⟩
theorem PA.imp {X : Cx} {e : List Expr} {t t' : TA} (h : PA X e t) (k : ∀ σ H Q, t' σ H Q → t σ H Q) : PA X e t' := ⟨fun pos pins s σ H Q I q => h.run pos pins s σ H Q I (k σ H Q q)⟩
theorem PI.imp {X : Cx} {tg e : Expr} {t t' : TI} (h : PI X tg e t) (k : ∀ σ H Q, t' σ H Q → t σ H Q) : PI X tg e t' := ⟨fun pins s σ H Q I q => h.run pins s σ H Q I (k σ H Q q)⟩
theorem PO.imp' {X : Cx} {e : Option Expr} {t t' : TO} (h : L2.PO X e t) (k : ∀ σ H Q, t' σ H Q → t σ H Q) : L2.PO X e t' := ⟨fun pins s σ H Q I q => h.run pins s σ H Q I (k σ H Q q)⟩
/-- the end may ask that K's things are untracked -/
theorem PE.good {p : Par} {X : Cx} {e : Expr} {t : TE} (hK : X.K = p.K) (h : PE X e t) : PE X e (fun σ H Q => t σ H fun v H' => Good p H' → Q v H') :=
  ⟨fun pins s σ H Q I q => thn (h.run pins s σ H _ I q) fun w s' ⟨z, H', I', rz, q'⟩ => ⟨z, H', I', rz, q' (good_of I' hK)⟩⟩
theorem PG.good {p : Par} {X : Cx} {e : Expr} {t : TG} (hK : X.K = p.K) (h : PG X e t) : PG X e (fun v σ H Q => Good p H → t v σ H Q) :=
  ⟨fun pins s σ H v u Q I r q => h.run pins s σ H v u Q I r (q (good_of I hK))⟩

/-- what an evaluation's result asks of the heap behind -/
def RO {α : Type} (p : Par) (x : Fx) (H : Hp) (r : R α) (k : α → DS → Hp → Prop) : Prop := match r with
  | .ok a s' => ∀ H', FrE p H H' → Dr p H' s' → Good p H' → k a s' H'
  | .err xn s' => ∀ c dd H', FrE p H H' → Dr p H' s' → ErrAt p xn c dd H' → x.W c dd H'
  | .stuck => False
def relM (p : Par) (m : Md) (F : Addr → Prop) (H H' : Hp) (v : V) (d : D) : Prop := match m with
  | .strict => Rp p F H' v d
  | .borrow => Rk p true F H' v d
  | .fresh => RF p F H H' v d
def relL (p : Par) (m : Md) (F : Addr → Prop) (H' : Hp) (v : List V) (d : List D) : Prop := match m with
  | .strict => RkA p false F H' v d
  | _ => RkA p true F H' v d
section
variable {α β : Type} {p : Par} {x : Fx} {H H1 : Hp}
theorem RO.mono {r : R α} {k : α → DS → Hp → Prop} (h : RO p x H r k) (f : FrE p H H1) : RO p x H1 r k := by
  cases r with
  | ok a s => exact fun H' f1 d g => h H' (f.trans f1) d g
  | err xn s => exact fun c dd H' f1 d e => h c dd H' (f.trans f1) d e
  | stuck => exact h
theorem RO.imp {r : R α} {k k' : α → DS → Hp → Prop} (h : RO p x H r k) (f : ∀ a s H', r = .ok a s → FrE p H H' → Dr p H' s → Good p H' → k a s H' → k' a s H') : RO p x H r k' := by
  cases r with
  | ok a s => exact fun H' f1 d g => f a s H' rfl f1 d g (h H' f1 d g)
  | err xn s => exact h
  | stuck => exact h
theorem RO.bnd {r : R α} {f : α → DS → R β} {k : β → DS → Hp → Prop} (h : RO p x H (r.bnd f) k) : RO p x H r fun a s H1 => RO p x H1 (f a s) k := by
  cases r with
  | ok a s => exact fun H' f1 d g => RO.mono (r := f a s) h f1
  | err xn s => exact h
  | stuck => exact h
theorem RO.lift {o : Option α} {s : DS} {k : α → DS → Hp → Prop} (h : RO p x H (R.lift o s) k) (d : Dr p H s) (g : Good p H) : ∃ a, o = some a ∧ k a s H := by
  cases o with
  | some a => exact ⟨a, rfl, h H FrE.refl d g⟩
  | none => exact h.elim
theorem RO.ok {a : α} {s : DS} {k : α → DS → Hp → Prop} (h : RO p x H (.ok a s) k) (d : Dr p H s) (g : Good p H) : k a s H := h H FrE.refl d g
theorem relM.of {m : Md} {F : Addr → Prop} {v : V} {d : D} (h : RX p (decide (m = .fresh)) F H H1 v d) (ft : FT F H) : relM p m F H H1 v d := by
  cases m with
  | strict => exact h
  | borrow => exact .inl h
  | fresh => exact h
end

/-- the readings -/
def RE (p : Par) (x : Fx) (m : Md) (f : L2.St → Hp → Prop) : Prop := True
def rE (p : Par) (x : Fx) (m : Md) (f : Env → DS → R D) : TE := fun σ H Q => ∃ F ρ s, St p x F σ H ρ s ∧ RO p x H (f ρ s) fun d _ H' => ∀ v, relM p m F H H' v d → Q v H'
def rT (p : Par) (x : Fx) (f : Env → DS → R D) : TT := fun σ H Q => ∃ F ρ s, St p x F σ H ρ s ∧ RO p x H ((f ρ s).bnd boolR) fun b _ H' => Q b H'
def rA (p : Par) (x : Fx) (m : Md) (f : Env → DS → R (List D)) : TA := fun σ H Q => ∃ F ρ s, St p x F σ H ρ s ∧ RO p x H (f ρ s) fun ds _ H' => ∀ vs, relL p m F H' vs ds → Q vs H'
def rO (p : Par) (x : Fx) (f : Env → DS → R (Option Int)) : TO := fun σ H Q => ∃ F ρ s, St p x F σ H ρ s ∧ RO p x H (f ρ s) fun o _ H' => Q o H'
/-- a tuple that is taken apart at once -/
def RpI (p : Par) (F : Addr → Prop) (H : Hp) (v : V) (d : D) : Prop := Rp p F H v d ∨ ∃ a vs ds, v = .ref a ∧ d = .tuple ds ∧ ¬ F a ∧ SqT p.K H a vs ∧ RpA p F H vs ds
def RpG (p : Par) (tg : Tg) (F : Addr → Prop) (H : Hp) (v : V) (d : D) : Prop := match tg with
  | .tup _ => RpI p F H v d
  | _ => Rp p F H v d
theorem RpG.of {p : Par} {tg : Tg} {F : Addr → Prop} {H : Hp} {v : V} {d : D} (h : Rp p F H v d) : RpG p tg F H v d := by
  cases tg with
  | tup _ => exact .inl h
  | _ => exact h
/-- what is walked gives the data ds -/
def Wk (p : Par) (full : Bool) (tg : Tg) (F : Addr → Prop) (H' : Hp) (J : It) (ds : List D) : Prop := ∀ (F2 : Addr → Prop) (H2 : Hp), (∀ a, F a → F2 a) → (∀ a, F2 a → ¬ F a → H' a = none) → FT F2 H2 →
  (∀ a o, H' a = some o → (if full = true then a ≠ p.a0 else ¬ F a) → H2 a = some o) → (∀ i d, ds[i]? = some d → J.go i H2 ∧ ∀ v H3, J.yld i H2 v H3 → Same H2 H3 ∧ (Good p H3 → RpG p tg F2 H3 v d)) ∧ J.stop ds.length H2
def fullM : Md → Bool
  | .borrow => true
  | _ => false
def rI (p : Par) (x : Fx) (m : Md) (tg : Tg) (f : Env → DS → R (List D)) : TI := fun σ H Q => ∃ F ρ s, St p x F σ H ρ s ∧ RO p x H (f ρ s) fun ds _ H' => ∀ J, Wk p (fullM m) tg F H' J ds → Q J H'

/-! ### the place of a text -/
structure ScR (a raw : Scope) : Prop where
  loc : ∀ y, raw.names.lookup y = some .local → a.names.lookup y = some .local
  cel : ∀ y, raw.names.lookup y = some .cell → a.names.lookup y = some .cell
  fre : ∀ y, raw.names.lookup y = some .free → a.names.lookup y = some .free ∨ a.names.lookup y = some .cell
  glo : ∀ y, raw.names.lookup y = some .globalImplicit → a.names.lookup y = some .globalImplicit
theorem ScR.refl (a : Scope) : ScR a a := ⟨fun _ h => h, fun _ h => h, fun _ h => .inl h, fun _ h => h⟩
structure Cxt (p : Par) (n : Nat) (x : Fx) (N : List Str) (X : Cx) (sc : Scope) : Prop where
  hP : X.prog = p.P
  hw : X.w = p.w
  hK : X.K = p.K
  hmg : X.mg = p.mg
  hb : X.base = p.base
  hN : X.N = N
  nd : X.N.Nodup
  calm : X.calm = true
  room : Room (n + 1) X.A
  scr : ScR X.env.scope sc
  pass : Passes (L2.CX p.P p.w) X x.W
section
variable {p : Par} {n : Nat} {x : Fx} {N : List Str} {X : Cx} {sc : Scope}
theorem Cxt.hu (c : Cxt p n x N X sc) : X.A.units + 70 < cLine := by have := c.room.un; omega
theorem Cxt.vis (c : Cxt p n x N X sc) {y : Str} (h : visB sc y = true) : Vis X.env.scope y := by
  unfold visB at h
  split at h
  · rename_i e; exact .inl (c.scr.loc y e)
  · rename_i e; exact .inr (.inl (c.scr.cel y e))
  · rename_i e; rcases c.scr.fre y e with e | e; exact .inr (.inr e); exact .inr (.inl e)
  · cases h
theorem Cxt.loc (c : Cxt p n x N X sc) {y : Str} (h : locB sc y = true) : Loc X.env.scope y := by
  unfold locB at h
  split at h
  · rename_i e; exact .inl (c.scr.loc y e)
  · rename_i e; exact .inr (c.scr.cel y e)
  · cases h
theorem Cxt.gl (c : Cxt p n x N X sc) {y : Str} (h : gloB sc y = true) : Gl X y := by
  unfold gloB at h
  split at h
  · rename_i e; exact c.scr.glo y e
  · cases h
theorem okName_ok {y : Str} (h : okName y = true) : (y == ("__debug__" : Str)) = false ∧ (y == ("__classdict__" : Str)) = false ∧ y ≠ "__name__" := by
  unfold okName at h
  simp only [Bool.and_eq_true, Bool.not_eq_true', decide_eq_true_eq] at h
  exact ⟨h.1.1, h.1.2, h.2⟩
theorem relS_scr {sc scope : Scope} : ScR (relS scope sc) scope := by
  refine ⟨fun y h => lookup_relS_keep (by simp) h, fun y h => lookup_relS_keep (by simp) h, fun y h => ?_, fun y h => lookup_relS_keep (by simp) h⟩
  have go : ∀ names : List (Str × NameKind), names.lookup y = some .free → (names.map fun (n, k) => if (k == NameKind.free && sc.kind == .function && sc.names.lookup n == some .cell) then (n, NameKind.cell) else (n, k)).lookup y = some .free ∨
      (names.map fun (n, k) => if (k == NameKind.free && sc.kind == .function && sc.names.lookup n == some .cell) then (n, NameKind.cell) else (n, k)).lookup y = some .cell := by
    intro names
    induction names with
    | nil => intro h; simp at h
    | cons q r ih =>
      obtain ⟨m, k⟩ := q
      intro h
      rw [List.lookup_cons] at h
      rw [List.map_cons]
      cases hy : y == m with
      | true =>
        rw [hy] at h
        have hk : k = .free := Option.some.inj h
        subst hk
        by_cases hc : (NameKind.free == NameKind.free && sc.kind == .function && sc.names.lookup m == some .cell) = true
        · right
          simp only [hc, if_true, List.lookup_cons, hy]
        · left
          simp only [hc, Bool.false_eq_true, if_false, List.lookup_cons, hy]
      | false =>
        rw [hy] at h
        have := ih h
        by_cases hc : (k == NameKind.free && sc.kind == .function && sc.names.lookup m == some .cell) = true
        · simp only [hc, if_true, List.lookup_cons, hy]; exact this
        · simp only [hc, Bool.false_eq_true, if_false, List.lookup_cons, hy]; exact this
  exact go scope.names h
end

/-! ### the world of a law's defs -/
/-- what a call of the def f promises -/
def spF (p : Par) (n f : Nat) : Sp := fun vs H Q E => ∃ S ds s, FT S H ∧ S p.a0 ∧ ¬ S p.c0 ∧ Good p H ∧ Dr p H s ∧ RpA p S H vs ds ∧ ∃ fi, p.T[f]? = some fi ∧ ds.length = fi.ps.length ∧ match run p.T p.W n f ds s with
  | .ok d s' => ∀ v H', FrE p H H' → Dr p H' s' → Good p H' → RX p fi.fresh S H H' v d → Q v H'
  | .err xn s' => ∀ c dd H', FrE p H H' → Dr p H' s' → ErrAt p xn c dd H' → E c dd H'
  | .stuck => False
/-- a tuple of the module is a plain one -/
def TyK (p : Par) (v : V) (d : D) : Prop := ∀ ds, d = .tuple ds → ∃ a o, v = .ref a ∧ p.K.lookup a = some o ∧ o.cls = .type "tuple" ∧ o.dict = none
/-- what is known of the class Refused -/
structure RefK (p : Par) : Prop where
  gR : p.mg "Refused" = some (.ref p.Rf)
  ox : OexC p.K p.Rf
  ini : ∃ fI fd, PySem.W.findIn p.K (.ref p.Rf) "__init__" = some (some (.ref fI)) ∧ PySem.W.typeIn p.K (.ref fI) = some (.type "function") ∧ Binds p.K fd [("self" : Str), "reason"] [] ∧ FnOk p.P p.w p.K p.mg p.base (L2.CX p.P p.w) 0 fI fd [("self" : Str), "reason"] (spRef p.Rf)
structure Wf (p : Par) (g : Glb) (n : Nat) : Prop where
  hT : p.T = g.T
  con : ∀ q ∈ g.cons, ∃ u v, p.mg q.1 = some u ∧ RelV v u ∧ (∀ F H, (∀ a, p.K.lookup a ≠ none → ¬ F a) → Rp p F H v q.2) ∧ TyK p v q.2
  blt : ∀ y ∈ bts, p.mg y = none
  xM : ∃ B newId initId bm, ExcBaseFacts B newId initId bm ∧ PySem.W.excIn p.K p.M bm newId = true
  gM : p.mg "Malformed" = some (.ref p.M)
  kM : PySem.W.keepIn p.K (.ref p.M) = true
  bM : PySem.W.subIn p.K (.ref p.M) (.type "BaseException") = some true
  tM : PySem.W.typeIn p.K (.ref p.M) = some (.type "type")
  fn : ∀ f fi, g.T[f]? = some fi → ∃ fa fd, p.mg fi.name = some (.ref fa) ∧ PySem.W.keepIn p.K (.ref fa) = true ∧ Binds p.K fd fi.ps [] ∧ FnOk p.P p.w p.K p.mg p.base (L2.CX p.P p.w) (n + 1) fa fd fi.ps (spF p n f)
  rfk : g.rf = true → RefK p
end EV
end

section
set_option Elab.async false
set_option linter.all false
set_option autoImplicit false
set_option maxRecDepth 100000
set_option maxHeartbeats 4000000
/-! EvRef2: what the module must say of the class Refused, by a look. -/
namespace EV
open PySem PySem.Spec PyProof.Rows L2
def refBodyB : List Stmt → Bool
  | [.Expr (.Call (.Attribute (.Call (.Name s _) [] [] _) i p2) [.Name r _] [] p4) _, .Assign [.Attribute (.Name f _) r2 _] (.Name r3 _) _] =>
    decide (s = ("super" : Str)) && decide (i = ("__init__" : Str)) && decide (r = ("reason" : Str)) && decide (f = ("self" : Str)) && decide (r2 = ("reason" : Str)) && decide (r3 = ("reason" : Str)) && (p2.endLine == p4.line)
  | _ => false
theorem refBodyB_ok {l : List Stmt} (h : refBodyB l = true) : ∃ p0 p1 p2 p3 p4 p5 p6 p7 p8 p9, l = refBody p0 p1 p2 p3 p4 p5 p6 p7 p8 p9 ∧ (p2.endLine == p4.line) = true := by
  unfold refBodyB at h
  split at h
  · simp only [Bool.and_eq_true, decide_eq_true_eq] at h
    obtain ⟨⟨⟨⟨⟨⟨rfl, rfl⟩, rfl⟩, rfl⟩, rfl⟩, rfl⟩, h⟩ := h
    exact ⟨_, _, _, _, _, _, _, _, _, _, rfl, h⟩
  · cases h
def rParB : Arguments → Bool
  | ⟨[], [⟨s, _, _⟩, ⟨r, _, _⟩], none, [], [], none, []⟩ => decide (s = ("self" : Str)) && decide (r = ("reason" : Str))
  | _ => false
theorem rParB_ok {a : Arguments} (h : rParB a = true) : ∃ e1 p1 e2 p2, a = ⟨[], [⟨"self", e1, p1⟩, ⟨"reason", e2, p2⟩], none, [], [], none, []⟩ := by
  unfold rParB at h
  split at h
  · simp only [Bool.and_eq_true, decide_eq_true_eq] at h
    obtain ⟨rfl, rfl⟩ := h
    exact ⟨_, _, _, _, rfl⟩
  · cases h
def scpB (s : Scope) : Bool := decide (s.names.lookup ("super" : Str) = some .globalImplicit) && decide (s.names.lookup ("__class__" : Str) = some .free) && decide (s.names.lookup ("self" : Str) = some .local) && decide (s.names.lookup ("reason" : Str) = some .local) &&
  decide (s.kind = .function) && s.names.all (fun x => decide (x.2 ≠ .cell)) && !s.isCoroutine && !s.isGenerator
def rNonB : Value → Bool
  | .none => true
  | _ => false
theorem rNonB_ok {v : Value} (h : rNonB v = true) : v = .none := by cases v <;> first | rfl | cases h
def fdAt (K : PySem.W.Frag) (f : Addr) : Option FuncData := match K.lookup f with
  | some ⟨_, _, .func fd, _⟩ => some fd
  | _ => none
theorem fdAt_ok {K : PySem.W.Frag} {f : Addr} {fd : FuncData} (h : fdAt K f = some fd) : ∃ oc od osl, K.lookup f = some ⟨oc, od, .func fd, osl⟩ := by
  unfold fdAt at h
  split at h
  · rename_i e
    cases h
    exact ⟨_, _, _, e⟩
  · cases h
def codB (P : Program) (K : PySem.W.Frag) (cda : Addr) : Bool := match K.lookup cda with
  | some ⟨_, _, .fields vs, _⟩ => (match (vs[2]? : Option Value) with
    | some (.str file _) => (P.main.file : Str) == file
    | _ => false)
  | _ => false
theorem codB_ok {P : Program} {K : PySem.W.Frag} {cda : Addr} (h : codB P K cda = true) : ∃ ccl cdd ccs vs file tf, K.lookup cda = some ⟨ccl, cdd, .fields vs, ccs⟩ ∧ vs[2]? = some (.str file tf) ∧ ((P.main.file : Str) == file) = true := by
  unfold codB at h
  split at h
  · rename_i e
    split at h
    · rename_i e2
      exact ⟨_, _, _, _, _, _, e, e2, h⟩
    · cases h
  · cases h
def celB (K : PySem.W.Frag) (cc C : Addr) : Bool := match K.lookup cc with
  | some ⟨_, _, .cell (some (.ref D)), _⟩ => decide (D = C)
  | _ => false
theorem celB_ok {K : PySem.W.Frag} {cc C : Addr} (h : celB K cc C = true) : ∃ cl cld csl, K.lookup cc = some ⟨cl, cld, .cell (some (.ref C)), csl⟩ := by
  unfold celB at h
  split at h
  · rename_i e
    have h := of_decide_eq_true h
    subst h
    exact ⟨_, _, _, e⟩
  · cases h
def oexB (K : PySem.W.Frag) (C : Addr) : Bool := (match K.lookup C with
  | some ⟨.type "type", _, .cls cd, sl⟩ => (match cd.mro, sl.toList with
    | .ref C' :: bm, [_, _, _, _, some (.builtin n), _] => decide (C' = C) && decide (n = "ValueError.__new__") && !cd.hasDel && cd.hasDict && PySem.HandSPX.refsVE bm
    | _, _ => false)
  | _ => false) && He.eqO (PySem.W.findIn K (.ref C) "__setattr__") (some (some (.builtin "object.__setattr__"))) && decide (PySem.W.subIn K (.ref C) (.type "BaseException") = some true) && decide (PySem.W.typeIn K (.ref C) = some (.type "type")) && PySem.W.keepIn K (.ref C)
theorem oexB_ok {K : PySem.W.Frag} {C : Addr} (h : oexB K C = true) : OexC K C := by
  unfold oexB at h
  simp only [Bool.and_eq_true, decide_eq_true_eq] at h
  obtain ⟨⟨⟨⟨h1, h2⟩, h3⟩, h4⟩, h5⟩ := h
  refine ⟨?_, He.eqO_ok h2, h3, h4, h5⟩
  split at h1
  · rename_i dd cd sl ho
    split at h1
    · rename_i C' bm k0 k1 k2 k3 n k5 hm hs
      simp only [Bool.and_eq_true, decide_eq_true_eq, Bool.not_eq_true'] at h1
      obtain ⟨⟨⟨⟨rfl, rfl⟩, hdel⟩, hdct⟩, ht⟩ := h1
      obtain ⟨nm, bs, mro, ns, qn, hd, sn, sub, ab, col, del⟩ := cd
      dsimp only at hm hdel hdct
      subst hm
      subst hdel
      subst hdct
      have es : sl = #[k0, k1, k2, k3, some (.builtin "ValueError.__new__"), k5] := by
        rw [← Array.toArray_toList (xs := sl), hs]
      subst es
      exact ⟨_, _, _, _, _, _, _, _, _, _, _, _, _, _, _, ho, ht⟩
    · cases h1
  · cases h1
/-- all that raising it asks -/
def refB (P : Program) (K : PySem.W.Frag) (C : Addr) : Bool := oexB K C &&
  (match PySem.W.findIn K (.ref C) "__init__" with
  | some (some (.ref fI)) => (match fdAt K fI with
    | some fd => (match fd.body, fd.code, fd.closure with
      | .stmts l, .ref cda, [(n, cc)] => refBodyB l && decide (n = ("__class__" : Str)) && decide (fd.name = ("__init__" : Str)) && decide (fd.globals = mainGlobals) && decide (fd.builtins = builtinsNs) && rParB fd.params && scpB fd.scope && PySem.W.codeIn K (.ref cda) fd.qualname && codB P K cda && celB K cc C && rNonB fd.defaults
      | _, _, _ => false)
    | none => false) && decide (PySem.W.typeIn K (.ref fI) = some (.type "function"))
  | _ => false) &&
  decide (PySem.W.mroIn K C (.ref C) = some true) && !(P.main.scope.names.lookup ("super" : Str)).isSome && decide (PySem.W.nsIn K cStatics "thirdparty.any" = some none) && He.eqO (PySem.W.ks_superIn K C C "__init__") (some (some (.builtin "ValueError.__init__"))) &&
  decide (PySem.W.subIn K (.ref C) (.type "ValueError") = some true) && decide (PySem.W.findIn K (.ref C) "reason" = some none)
theorem refB_ok {p : Par} (h : refB p.P p.K p.Rf = true) (gR : p.mg "Refused" = some (.ref p.Rf)) (gS : p.mg "super" = none) : RefK p := by
  unfold refB at h
  simp only [Bool.and_eq_true, decide_eq_true_eq, Bool.not_eq_true'] at h
  obtain ⟨⟨⟨⟨⟨⟨⟨h1, h2⟩, h3⟩, h4⟩, h5⟩, h6⟩, h7⟩, h8⟩ := h
  have T := oexB_ok h1
  refine ⟨gR, T, ?_⟩
  split at h2
  · rename_i fI eI
    simp only [Bool.and_eq_true, decide_eq_true_eq] at h2
    obtain ⟨h2, tI⟩ := h2
    split at h2
    · rename_i fd eF
      split at h2
      · rename_i l cda n cc eb ec el
        simp only [Bool.and_eq_true, decide_eq_true_eq] at h2
        obtain ⟨⟨⟨⟨⟨⟨⟨⟨⟨⟨a1, rfl⟩, a3⟩, a4⟩, a5⟩, a6⟩, a7⟩, a8⟩, a9⟩, a10⟩, a11⟩ := h2
        have a12 := rNonB_ok a11
        obtain ⟨p0, p1, p2, p3, p4, p5, p6, p7, p8, p9, rfl, hp⟩ := refBodyB_ok a1
        obtain ⟨e1, q1, e2, q2, eP⟩ := rParB_ok a6
        obtain ⟨oc, od, osl, lk⟩ := fdAt_ok eF
        obtain ⟨ccl, cdd, ccs, vs, file, tf, k1, k2, k3⟩ := codB_ok a9
        obtain ⟨cl, cld, csl, k4⟩ := celB_ok a10
        unfold scpB at a7
        simp only [Bool.and_eq_true, decide_eq_true_eq, Bool.not_eq_true', List.all_eq_true] at a7
        obtain ⟨⟨⟨⟨⟨⟨⟨s1, s2⟩, s3⟩, s4⟩, s5⟩, s6⟩, s7⟩, s8⟩ := a7
        obtain ⟨name, qual, params, body, scope, globals, closure, dV, kV, doc, pm, an, code, ct, blt⟩ := fd
        dsimp only at eb ec el a3 a4 a5 a8 a12 eP s1 s2 s3 s4 s5 s6 s7 s8
        subst eb ec el a3 a4 a5 a12 eP
        refine ⟨fI, _, eI, tI, .all fun us hl => ?_, ref_init T hp lk a8 k1 k2 k3 k4 h3 gS rfl rfl s1 s2 s3 s4 s5 s6 s7 s8 h4 h5 (He.eqO_ok h6) h7 h8⟩
        match us, hl with
        | [_, _], _ => kernel_rfl
      · cases h2
    · cases h2
  · cases h2
end EV
end

section
set_option Elab.async false
set_option linter.all false
set_option autoImplicit false
set_option maxRecDepth 100000
/-! EvMain: expressions, by induction on the checker's fuel. -/
namespace EV
open PySem PySem.Spec PyProof.Rows L2

section
variable {p : Par} {g : Glb} {n : Nat} {N : List Str}
abbrev cf (p : Par) (n : Nat) : CallF := run p.T p.W n
structure EOk (p : Par) (g : Glb) (n : Nat) (N : List Str) (own : List Nat) (k : Nat) : Prop where
  e : ∀ m sc e e' x X, x.own = own → chkE g N own k m sc e e' = true → Cxt p n x N X sc → PE X e (rE p x m (ev (cf p n) e'))
  t : ∀ sc e e' x X, x.own = own → chkT g N own k sc e e' = true → Cxt p n x N X sc → PT X e (rT p x (ev (cf p n) e'))
  b : ∀ o sc es e' x X pos, x.own = own → chkB g N own k o sc es e' = true → Cxt p n x N X sc → PE X (.BoolOp o es pos) (rE p x .strict (ev (cf p n) e'))
  tb : ∀ o sc es e' x X pos, x.own = own → chkTB g N own k o sc es e' = true → Cxt p n x N X sc → PW X (.BoolOp o es pos) (rT p x (ev (cf p n) e'))
  a : ∀ m sc es e' x X, m ≠ .fresh → x.own = own → chkA g N own k m sc es e' = true → Cxt p n x N X sc → es.all notStar = true ∧ PA X es (rA p x m (evA (cf p n) e'))
  o : ∀ sc o e' x X, x.own = own → chkO g N own k sc o e' = true → Cxt p n x N X sc → L2.PO X o (rO p x (evO (cf p n) e'))
  i : ∀ m sc sct e e' x X tg tg' k', m ≠ .fresh → chkTg N sct k' tg tg' = true → tgI tg' e' = true → x.own = own → chkI g N own k m sc e e' = true → Cxt p n x N X sc → PI X tg e (rI p x m tg' (evI (cf p n) e'))

variable {x : Fx} {X : Cx} {sc : Scope} {F : Addr → Prop} {σ : L2.St} {H H1 H2 : Hp} {ρ : Env} {s s1 s2 : DS} {own : List Nat}
theorem relM.rp {m : Md} {v : V} {d : D} (h : Rp p F H1 v d) (hm : m ≠ .fresh) : relM p m F H H1 v d := by
  cases m with
  | strict => exact h
  | borrow => exact .inl h
  | fresh => exact absurd rfl hm
theorem St.nF (t : St p x F σ H ρ s) : ∀ a, p.K.lookup a ≠ none → ¬ F a := fun a q f => q (t.nk f)
/-- behind an operator: its result for the whole expression -/
theorem po_of {m : Md} {o : Option D} {Q : VK} {H' : Hp} (t : St p x F σ H' ρ s1) (f : FrE p H H') (fz : ∀ a, H a ≠ none → H' a ≠ none) (h : RO p x H' (R.lift o s2) fun d _ H2 => ∀ v, relM p m F H H2 v d → Q v H2) (d2 : Dr p H' s2) :
    EV.PO p (decide (m = .fresh)) F H' o Q := by
  cases o with
  | none => exact h.elim
  | some d =>
    intro v H2 sm g2 r
    refine h H2 (FrE.of sm) (d2.same sm) g2 v ?_
    cases m with
    | strict => exact r
    | borrow => exact .inl r
    | fresh =>
      have r : RF p F H' H2 v d := r
      show RF p F H H2 v d
      cases d with
      | list ds =>
        obtain ⟨a, vs, e1, e2, e3, e4⟩ := r
        refine ⟨a, vs, e1, ?_, e3, e4⟩
        cases q : H a with
        | none => rfl
        | some o => exact absurd e2 (fz a (by rw [q]; simp))
      | _ => exact r
theorem St.mono (t : St p x F σ H ρ s) (f : FrE p H H1) (d : Dr p H1 s1) : ∀ a, H a ≠ none → H1 a ≠ none := fun a n z => by
  by_cases e : a = p.a0
  · rw [e, d.at0] at z; cases z
  · cases q : H a with
    | none => exact n q
    | some o => rw [f a o q e] at z; cases z
theorem kind_relS {sc scope : Scope} : (relS scope sc).kind = scope.kind := rfl
theorem blk_of {N : List Str} {a sc scope : Scope} {own : List (Str × Nat)} (h : blkC N sc scope own = true) (r : ScR a sc) : BlkOk N a scope own := by
  have b := blkOk_by h
  refine ⟨b.kind, b.uniq, b.ix, fun y hy e => ?_, b.own⟩
  rcases b.free y hy e with q | q
  · exact .inl (r.cel _ q)
  · rcases r.fre _ q with q | q
    · exact .inr q
    · exact .inl q
theorem boot_bi (b : Bi) : bootBuiltins (biN b) = some (biV b) := by cases b <;> decide +kernel
theorem bts_bi (b : Bi) : biN b ∈ bts := by cases b <;> decide +kernel
theorem nn_bi (b : Bi) : biN b ≠ "__name__" := by cases b <;> decide +kernel
theorem nd_bi (b : Bi) : (biN b == ("__debug__" : Str)) = false := by cases b <;> decide +kernel
/-- a built-in's call by its table -/
theorem pe_bi {b : Bi} {fr : Bool} {p' pos : Pos} {e : Expr} {es : List Expr} {ta : TA} (hK : X.K = p.K) (hmg : X.mg (biN b) = none) (hc : X.calm = true) (hu : X.A.units + 70 < cLine) (hfr : fr = true → b = .list ∨ b = .sorted) (hg : Gl X (biN b)) (ha : PA X (e :: es) ta) (hs : (e :: es).all notStar = true) :
    PE X (.Call (.Name (biN b) p') (e :: es) [] pos) (tCB (rBi p fr b) ta) := by
  have h := call_bi hK hc hu b hfr
  have hv := boot_bi b
  have s1 : starEach (e :: es) X.env = (false, eval e X.env) :: starEach es X.env := star_one (by simp only [List.all_cons, Bool.and_eq_true] at hs; exact hs.1)
  have s2 : (backTo pos (starEach es X.env)).any (·.1) = false := star_any (by simp only [List.all_cons, Bool.and_eq_true] at hs; exact hs.2)
  have nn := nn_bi b
  have nd := nd_bi b
  cases b with
  | len => exact pe_callB h hg hmg hv ha nn nd s1 s2
  | int => exact pe_callTy h hg hmg hv ha nn nd s1 s2
  | abs => exact pe_callB h hg hmg hv ha nn nd s1 s2
  | min => exact pe_callB h hg hmg hv ha nn nd s1 s2
  | max => exact pe_callB h hg hmg hv ha nn nd s1 s2
  | sum => exact pe_callB h hg hmg hv ha nn nd s1 s2
  | any => exact pe_callB h hg hmg hv ha nn nd s1 s2
  | all => exact pe_callB h hg hmg hv ha nn nd s1 s2
  | tuple => exact pe_callTy h hg hmg hv ha nn nd s1 s2
  | list => exact pe_callTy h hg hmg hv ha nn nd s1 s2
  | sorted => exact pe_callB h hg hmg hv ha nn nd s1 s2

/-! ### one step of the induction, form by form -/
variable {k : Nat}
theorem case_var {m : Md} {i : Nat} {e : Expr} (ho : x.own = own) (hm : m ≠ .fresh) (h : (match asName e with
      | some y => decide (N[i]? = some y) && visB sc y && okName y && (decide (m = .borrow) || !own.contains i)
      | none => false) = true) (c : Cxt p n x N X sc) : PE X e (rE p x m (ev (cf p n) (.var i))) := by
  split at h
  · rename_i y ey
    simp only [Bool.and_eq_true, decide_eq_true_eq, Bool.or_eq_true, Bool.not_eq_true'] at h
    obtain ⟨⟨⟨h1, h2⟩, h3⟩, h4⟩ := h
    obtain ⟨pos, rfl⟩ := asName_eq ey
    obtain ⟨k1, k2, k3⟩ := okName_ok h3
    refine PE.imp (pe_var (i := i) (by rw [c.hN]; exact h1) (c.vis h2) k1 k2) fun σ H Q ⟨F, ρ, s, st, q⟩ => ?_
    unfold ev at q
    obtain ⟨d, e1, q⟩ := q.lift st.dr st.good
    have e2 : ρ[i]? = some (some d) := by
      rw [List.getD_eq_getElem?_getD] at e1
      cases z : ρ[i]? with
      | none => rw [z] at e1; cases e1
      | some w => rw [z] at e1; rw [← e1]; rfl
    by_cases hi : i ∈ x.own
    · rcases h4 with h4 | h4
      · subst h4
        obtain ⟨a, vs, ds, rfl, e3, e4, e5, e6, e7, e8⟩ := st.relO i d e2 hi
        exact ⟨_, e3, q _ (.inr ⟨rfl, a, vs, ds, rfl, rfl, e7, e4, e8⟩)⟩
      · rw [← ho] at h4
        exact absurd hi (by simpa using h4)
    · obtain ⟨v, e3, e4⟩ := st.rel i d e2 hi
      exact ⟨v, e3, q v (relM.rp e4 hm)⟩
  · cases h
theorem case_con {m : Md} {d : D} {e : Expr} (hm : m ≠ .fresh) (h : (match asCon e, d with
      | some .none, .none => true
      | some (.bool a), .bool b => a == b
      | some (.int a), .int b => decide (a = b)
      | some (.str a), .str b => decide (a = b)
      | _, _ => false) = true) (c : Cxt p n x N X sc) : PE X e (rE p x m (ev (cf p n) (.con d))) := by
  have go : ∀ {v : V}, PE X e (tC v) → (∀ F H, Rp p F H v d) → PE X e (rE p x m (ev (cf p n) (.con d))) := fun {v} h1 h2 =>
    PE.imp h1 fun σ H Q ⟨F, ρ, s, st, q⟩ => by
      unfold ev at q
      exact (q.ok st.dr st.good) v (relM.rp (h2 F H) hm)
  cases e with
  | Constant cv k pos =>
    cases cv with
    | none =>
      cases d <;> simp [asCon] at h
      exact go pe_non fun _ _ => .non
    | bool b =>
      cases d <;> simp [asCon] at h
      subst h
      exact go pe_bl fun _ _ => .bl _
    | int b =>
      cases d <;> simp [asCon] at h
      subst h
      exact go pe_int fun _ _ => .int _
    | str b =>
      cases d <;> simp [asCon] at h
      subst h
      exact go pe_str fun _ _ => .str _
    | _ => simp [asCon] at h
  | _ => simp [asCon] at h
theorem case_glo (wf : Wf p g n) {m : Md} {y : Str} {d : D} {e : Expr} (hm : m ≠ .fresh) (h : (match asName e with
      | some z => decide (y = z) && gloB sc y && okName y && g.cons.any fun q => decide (q.1 = y) && dEq q.2 d
      | none => false) = true) (c : Cxt p n x N X sc) : PE X e (rE p x m (ev (cf p n) (.glo y d))) := by
  split at h
  · rename_i z ey
    simp only [Bool.and_eq_true, decide_eq_true_eq, List.any_eq_true] at h
    obtain ⟨⟨⟨rfl, h2⟩, h3⟩, q, hq, h5, h6⟩ := h
    obtain ⟨pos, rfl⟩ := asName_eq ey
    obtain ⟨k1, k2, k3⟩ := okName_ok h3
    obtain ⟨u, v, e1, e2, e3, _⟩ := wf.con q hq
    rw [h5] at e1
    have e4 := dEq_ok h6
    subst e4
    refine PE.imp (pe_glob (c.gl h2) (by rw [c.hmg]; exact e1) e2 k1) fun σ H Q ⟨F, ρ, s, st, q⟩ => ?_
    unfold ev at q
    exact (q.ok st.dr st.good) v (relM.rp (e3 F H st.nF) hm)
  · cases h
theorem case_bin (ih : EOk p g n N own k) {m : Md} {o : Bop} {a b : E} {e : Expr} (ho : x.own = own) (h : (match asBin e with
      | some (y, q, z) => boB o q && chkE g N own k .borrow sc y a && chkE g N own k .borrow sc z b
      | none => false) = true) (c : Cxt p n x N X sc) : PE X e (rE p x m (ev (cf p n) (.bin o a b))) := by
  split at h
  · rename_i y q z ey
    simp only [Bool.and_eq_true] at h
    obtain ⟨⟨h1, h2⟩, h3⟩ := h
    obtain ⟨pos, rfl⟩ := asBin_eq ey
    have h1 : bopO o = q := by simpa [boB] using h1
    subst h1
    refine PE.imp (pe_op (op_bin (fr := decide (m = .fresh)) c.hK o) (ih.e .borrow sc y a x X ho h2 c) (ih.e .borrow sc z b x X ho h3 c)) fun σ H Q ⟨F, ρ, s, st, q⟩ => ?_
    unfold ev at q
    refine ⟨F, ρ, s, st, q.bnd.imp fun dx s1 H1 _ f1 d1 g1 q1 v rv => ⟨F, ρ, s1, st.step f1 d1 g1, q1.bnd.imp fun dy s2 H2 _ f2 d2 g2 q2 u ru => ?_⟩⟩
    have t2 := (st.step f1 d1 g1).step f2 d2 g2
    exact ⟨F, dx, dy, t2.tr, Rk.fr rv f2 st.fa, ru, po_of t2 (f1.trans f2) (st.mono (f1.trans f2) d2) q2 d2⟩
  · cases h
theorem case_neg (ih : EOk p g n N own k) {m : Md} {a : E} {e : Expr} (ho : x.own = own) (hm : m ≠ .fresh) (h : (match asUn e with
      | some (.USub, y) => chkE g N own k .borrow sc y a
      | _ => false) = true) (c : Cxt p n x N X sc) : PE X e (rE p x m (ev (cf p n) (.neg a))) := by
  split at h
  · rename_i y ey
    obtain ⟨pos, rfl⟩ := asUn_eq ey
    refine PE.imp (pe_un (un_D c.hK) (ih.e .borrow sc y a x X ho h c)) fun σ H Q ⟨F, ρ, s, st, q⟩ => ?_
    unfold ev at q
    refine ⟨F, ρ, s, st, q.bnd.imp fun dx s1 H1 _ f1 d1 g1 q1 v rv => ⟨F, dx, rv, ?_⟩⟩
    obtain ⟨d, e1, q2⟩ := q1.lift d1 g1
    rw [e1]
    exact fun w rw' => q2 w (relM.rp rw' hm)
  · cases h
theorem case_not (ih : EOk p g n N own k) {m : Md} {a : E} {e : Expr} (ho : x.own = own) (hm : m ≠ .fresh) (h : (match asUn e with
      | some (.Not, y) => chkE g N own k .strict sc y a
      | _ => false) = true) (c : Cxt p n x N X sc) : PE X e (rE p x m (ev (cf p n) (.not_ a))) := by
  split at h
  · rename_i y ey
    obtain ⟨pos, rfl⟩ := asUn_eq ey
    refine PE.imp (pe_not (ih.e .strict sc y a x X ho h c)) fun σ H Q ⟨F, ρ, s, st, q⟩ => ?_
    unfold ev at q
    refine ⟨F, ρ, s, st, q.bnd.imp fun dx s1 H1 _ f1 d1 g1 q1 v rv => ?_⟩
    cases dx with
    | bool b =>
      cases (show Rp p F H1 v (.bool b) from rv)
      exact ⟨b, rfl, (RO.ok (a := PyData.bool (!b)) q1 d1 g1) _ (relM.rp (.bl _) hm)⟩
    | _ => exact q1.elim
  · cases h
theorem case_ife (ih : EOk p g n N own k) {m : Md} {cc a b : E} {e : Expr} (ho : x.own = own) (hm : m ≠ .fresh) (h : (match asIf e with
      | some (y, z, w) => chkT g N own k sc y cc && chkE g N own k .strict sc z a && chkE g N own k .strict sc w b
      | none => false) = true) (c : Cxt p n x N X sc) : PE X e (rE p x m (ev (cf p n) (.ife cc a b))) := by
  split at h
  · rename_i y z w ey
    simp only [Bool.and_eq_true] at h
    obtain ⟨⟨h1, h2⟩, h3⟩ := h
    obtain ⟨pos, rfl⟩ := asIf_eq ey
    refine PE.imp (pe_ifExp (ih.t sc y cc x X ho h1 c) (ih.e .strict sc z a x X ho h2 c) (ih.e .strict sc w b x X ho h3 c)) fun σ H Q ⟨F, ρ, s, st, q⟩ => ?_
    unfold ev at q
    refine ⟨F, ρ, s, st, ?_⟩
    have q' : RO p x H (((ev (cf p n) cc ρ s).bnd boolR).bnd fun k s => if k = true then ev (cf p n) a ρ s else ev (cf p n) b ρ s) fun d _ H' => ∀ v, relM p m F H H' v d → Q v H' := by
      cases r : ev (cf p n) cc ρ s with
      | ok d s1 => rw [r] at q; exact q
      | err xn s1 => rw [r] at q; exact q
      | stuck => rw [r] at q; exact q
    refine q'.bnd.imp fun kk s1 H1 _ f1 d1 g1 q1 => ?_
    cases kk with
    | true => exact ⟨F, ρ, s1, st.step f1 d1 g1, RO.imp q1 fun d s2 H2 _ f2 d2 g2 q2 v rv => q2 v (relM.rp rv hm)⟩
    | false => exact ⟨F, ρ, s1, st.step f1 d1 g1, RO.imp q1 fun d s2 H2 _ f2 d2 g2 q2 v rv => q2 v (relM.rp rv hm)⟩
  · cases h
theorem PB.of {o : Option Bool} {Q : VK} {m : Md} (hm : m ≠ .fresh) (h : RO p x H1 (R.lift (o.map PyData.bool) s) fun d _ H2 => ∀ v, relM p m F H H2 v d → Q v H2) (d : Dr p H1 s) (g : Good p H1) : PB H1 o Q := by
  obtain ⟨d', e, q⟩ := h.lift d g
  cases o with
  | none => cases e
  | some b => cases e; exact q _ (relM.rp (.bl b) hm)
theorem case_cmp (ih : EOk p g n N own k) {m : Md} {o : Cop} {a b : E} {e : Expr} (ho : x.own = own) (hm : m ≠ .fresh) (h : (match asCmp e with
      | some (y, [q], [z]) => coB o q && notSet z && chkE g N own k .borrow sc y a && chkE g N own k .borrow sc z b
      | _ => false) = true) (c : Cxt p n x N X sc) : PE X e (rE p x m (ev (cf p n) (.cmp o a b))) := by
  split at h
  · rename_i y q z ey
    simp only [Bool.and_eq_true] at h
    obtain ⟨⟨⟨h1, h0⟩, h2⟩, h3⟩ := h
    obtain ⟨pos, rfl⟩ := asCmp_eq ey
    have h1 : copO o = q := by simpa [coB] using h1
    subst h1
    refine PE.imp (pe_cmpR (op_cmp c.hK c.hu o) (ih.e .borrow sc y a x X ho h2 c) (ih.e .borrow sc z b x X ho h3 c) (marks_not h0)) fun σ H Q ⟨F, ρ, s, st, q⟩ => ?_
    unfold ev at q
    refine ⟨F, ρ, s, st, q.bnd.imp fun dx s1 H1 _ f1 d1 g1 q1 v rv => ⟨F, ρ, s1, st.step f1 d1 g1, q1.bnd.imp fun dy s2 H2 _ f2 d2 g2 q2 u ru => ?_⟩⟩
    exact ⟨F, dx, dy, Rk.fr rv f2 st.fa, ru, PB.of hm q2 d2 g2⟩
  · cases h
theorem case_chn (ih : EOk p g n N own k) {m : Md} {o o2 : Cop} {a b d : E} {e : Expr} (ho : x.own = own) (hm : m ≠ .fresh) (h : (match asCmp e with
      | some (y, [q, r], [z, w]) => coB o q && coB o2 r && notSet z && notSet w && chkE g N own k .borrow sc y a && chkE g N own k .borrow sc z b && chkE g N own k .borrow sc w d
      | _ => false) = true) (c : Cxt p n x N X sc) : PE X e (rE p x m (ev (cf p n) (.chn o o2 a b d))) := by
  split at h
  · rename_i y q r z w ey
    simp only [Bool.and_eq_true] at h
    obtain ⟨⟨⟨⟨⟨⟨h1, h1'⟩, h0⟩, h0'⟩, h2⟩, h3⟩, h4⟩ := h
    obtain ⟨pos, rfl⟩ := asCmp_eq ey
    have h1 : copO o = q := by simpa [coB] using h1
    have h1' : copO o2 = r := by simpa [coB] using h1'
    subst h1 h1'
    refine PE.imp (pe_chain (op_cmp c.hK c.hu o) (op_cmp c.hK c.hu o2) (ih.e .borrow sc y a x X ho h2 c) (ih.e .borrow sc z b x X ho h3 c) (ih.e .borrow sc w d x X ho h4 c) (by show behindInMarks _ w = false; exact marks_not h0')) fun σ H Q ⟨F, ρ, s, st, q⟩ => ?_
    unfold ev at q
    refine ⟨F, ρ, s, st, q.bnd.imp fun dx s1 H1 _ f1 d1 g1 q1 v rv => ⟨F, ρ, s1, st.step f1 d1 g1, q1.bnd.imp fun dy s2 H2 _ f2 d2 g2 q2 u ru => ⟨F, dx, dy, Rk.fr rv f2 st.fa, ru, ?_⟩⟩⟩
    have t2 := (st.step f1 d1 g1).step f2 d2 g2
    obtain ⟨kk, e1, q3⟩ := q2.bnd.lift d2 g2
    rw [e1]
    refine ⟨kk, rfl, ?_⟩
    cases kk with
    | false => exact (RO.ok (a := PyData.bool false) q3 d2 g2) _ (relM.rp (.bl _) hm)
    | true =>
      refine ⟨F, ρ, s2, t2, RO.imp (RO.bnd q3) fun dz s3 H3 _ f3 d3 g3 q4 w' rw' => ⟨F, dy, dz, Rk.fr ru f3 st.fa, rw', PB.of hm q4 d3 g3⟩⟩
  · cases h
theorem case_ix (ih : EOk p g n N own k) {m : Md} {a b : E} {e : Expr} (ho : x.own = own) (hm : m ≠ .fresh) (h : (match asSub e with
      | some (y, z) => notSlice z && chkE g N own k .borrow sc y a && chkE g N own k .borrow sc z b
      | none => false) = true) (c : Cxt p n x N X sc) : PE X e (rE p x m (ev (cf p n) (.ix a b))) := by
  split at h
  · rename_i y z ey
    simp only [Bool.and_eq_true] at h
    obtain ⟨⟨h1, h2⟩, h3⟩ := h
    obtain ⟨pos, rfl⟩ := asSub_eq ey
    refine PE.imp (pe_ix (ix_D c.hK) (ih.e .borrow sc y a x X ho h2 c) (ih.e .borrow sc z b x X ho h3 c) (plainIx h1)) fun σ H Q ⟨F, ρ, s, st, q⟩ => ?_
    unfold ev at q
    refine ⟨F, ρ, s, st, q.bnd.imp fun dx s1 H1 _ f1 d1 g1 q1 v rv => ⟨F, ρ, s1, st.step f1 d1 g1, q1.bnd.imp fun dy s2 H2 _ f2 d2 g2 q2 u ru => ?_⟩⟩
    refine ⟨F, dx, dy, Rk.fr rv f2 st.fa, ru, ?_⟩
    obtain ⟨d, e1, q3⟩ := q2.lift d2 g2
    rw [e1]
    exact fun w rw' => q3 w (relM.rp rw' hm)
  · cases h
theorem case_sl (ih : EOk p g n N own k) {m : Md} {a lo hi : E} {e : Expr} (ho : x.own = own) (h : (match asSub e with
      | some (y, z) => (match asSlice z with
        | some (l, hh) => chkE g N own k .borrow sc y a && chkO g N own k sc l lo && chkO g N own k sc hh hi
        | none => false)
      | none => false) = true) (c : Cxt p n x N X sc) : PE X e (rE p x m (ev (cf p n) (.sl a lo hi))) := by
  split at h
  · rename_i y z ey
    split at h
    · rename_i l hh ez
      simp only [Bool.and_eq_true] at h
      obtain ⟨⟨h1, h2⟩, h3⟩ := h
      obtain ⟨pos, rfl⟩ := asSub_eq ey
      obtain ⟨pos2, rfl⟩ := asSlice_eq ez
      refine PE.imp (pe_slice (sl_D (fr := decide (m = .fresh)) c.hK) (ih.e .borrow sc y a x X ho h1 c) (ih.o sc l lo x X ho h2 c) (ih.o sc hh hi x X ho h3 c)) fun σ H Q ⟨F, ρ, s, st, q⟩ => ?_
      unfold ev at q
      refine ⟨F, ρ, s, st, q.bnd.imp fun dx s1 H1 _ f1 d1 g1 q1 v rv => ⟨F, ρ, s1, st.step f1 d1 g1, q1.bnd.imp fun dl s2 H2 _ f2 d2 g2 q2 => ⟨F, ρ, s2, (st.step f1 d1 g1).step f2 d2 g2, q2.bnd.imp fun dh s3 H3 _ f3 d3 g3 q3 => ?_⟩⟩⟩
      have t3 := ((st.step f1 d1 g1).step f2 d2 g2).step f3 d3 g3
      exact ⟨F, dx, t3.tr, Rk.fr rv (f2.trans f3) st.fa, po_of t3 ((f1.trans f2).trans f3) (st.mono ((f1.trans f2).trans f3) d3) q3 d3⟩
    · cases h
  · cases h
end
end EV
end

section
set_option Elab.async false
set_option linter.all false
set_option autoImplicit false
set_option maxRecDepth 100000
/-! EvMain2: displays, calls, tests, arguments. -/
namespace EV
open PySem PySem.Spec PyProof.Rows L2

section
variable {p : Par} {g : Glb} {n : Nat} {N : List Str}
variable {x : Fx} {X : Cx} {sc : Scope} {F : Addr → Prop} {σ : L2.St} {H H1 H2 : Hp} {ρ : Env} {s s1 s2 : DS} {own : List Nat} {k : Nat}
theorem RkA.rpa {vs : List V} {ds : List D} (h : RkA p false F H vs ds) : RpA p F H vs ds := by
  induction ds generalizing vs with
  | nil => cases h; exact .nil
  | cons d ds ih => cases h with | cons h1 h2 => exact .cons h1.rp (ih h2)
theorem RkA.fr {b : Bool} {vs : List V} {ds : List D} (h : RkA p b F H vs ds) (f : FrE p H H1) (fa : F p.a0) : RkA p b F H1 vs ds := by
  induction ds generalizing vs with
  | nil => cases h; exact .nil
  | cons d ds ih => cases h with | cons h1 h2 => exact .cons (h1.fr f fa) (ih h2)
theorem RkA.len {b : Bool} {vs : List V} {ds : List D} (h : RkA p b F H vs ds) : vs.length = ds.length := by
  induction ds generalizing vs with
  | nil => cases h; rfl
  | cons d ds ih => cases h with | cons h1 h2 => simp [ih h2]
theorem bnd_ok_inv {α β : Type} {r : R α} {f : α → DS → R β} {b : β} {s' : DS} (h : r.bnd f = .ok b s') : ∃ a s, r = .ok a s ∧ f a s = .ok b s' := by
  cases r with
  | ok a s => exact ⟨a, s, rfl, h⟩
  | err _ _ => cases h
  | stuck => cases h
theorem evA_len {C : CallF} : ∀ (k : Nat) {es : List Expr} {as : E} {ρ : Env} {s s' : DS} {ds : List D} {m : Md} {sc : Scope}, chkA g N own k m sc es as = true → evA C as ρ s = .ok ds s' → ds.length = es.length
  | 0, _, _, _, _, _, _, _, _, h, _ => by simp [chkA] at h
  | k + 1, es, as, ρ, s, s', ds, m, sc, h, e => by
    unfold chkA at h
    split at h
    · unfold evA at e
      cases e
      rfl
    · simp only [Bool.and_eq_true] at h
      unfold evA at e
      obtain ⟨a, s1, _, e2⟩ := bnd_ok_inv e
      obtain ⟨xs, s2, e3, e4⟩ := bnd_ok_inv e2
      cases e4
      simp [evA_len k h.2 e3]
    · cases h
theorem case_tup (ih : EOk p g n N own k) {m : Md} {as : E} {e : Expr} (ho : x.own = own) (hm : m ≠ .fresh) (h : (match asTup e with
      | some es => decide (es.length ≤ 1000) && chkA g N own k .strict sc es as
      | none => false) = true) (c : Cxt p n x N X sc) : PE X e (rE p x m (ev (cf p n) (.tup as))) := by
  split at h
  · rename_i es ey
    simp only [Bool.and_eq_true, decide_eq_true_eq] at h
    obtain ⟨h0, h⟩ := h
    obtain ⟨kk, pos, rfl⟩ := asTup_eq ey
    refine PE.imp (PE.good c.hK (pe_tupP (ih.a .strict sc es as x X (by simp) ho h c).2)) fun σ H Q ⟨F, ρ, s, st, q⟩ => ?_
    unfold ev at q
    refine ⟨F, ρ, s, st, q.bnd.imp fun ds s1 H1 er f1 d1 g1 q1 vs rv => ?_⟩
    have l := RkA.len (show RkA p false F H1 vs ds from rv)
    have l2 := evA_len k h er
    refine ⟨lim_line (by show vs.length ≤ 1000000; omega), fun t o ht hpo gt => ?_⟩
    have st1 := st.step f1 d1 g1
    have r : Rp p F (upd H1 t (.frz o (.tup vs))) (.ref t) (.tuple ds) := .tup (fun f => st1.tr t f ht) SqT.ofF (pln_new hpo) (RpA.fr (RkA.rpa rv) fun b o e _ => same_upd ht b o e)
    exact q1 _ (FrE.of (same_upd ht)) (d1.same (same_upd ht)) gt _ (relM.rp r hm)
  · cases h
theorem rf_to {F : Addr → Prop} {H H1 H2 : Hp} {v : V} {d : D} {m : Md} (fz : ∀ a, H a ≠ none → H1 a ≠ none) (ft : FT F H1) (h : RF p F H1 H2 v d) : relM p m F H H2 v d := by
  cases m with
  | strict => exact h.rp ft
  | borrow => exact .inl (h.rp ft)
  | fresh =>
    show RF p F H H2 v d
    cases d with
    | list ds =>
      obtain ⟨a, vs, e1, e2, e3, e4⟩ := h
      refine ⟨a, vs, e1, ?_, e3, e4⟩
      cases q : H a with
      | none => rfl
      | some o => exact absurd e2 (fz a (by rw [q]; simp))
    | _ => exact h
theorem case_lst (ih : EOk p g n N own k) {m : Md} {as : E} {e : Expr} (ho : x.own = own) (h : (match asLst e with
      | some es => decide (es.length ≤ 1000) && chkA g N own k .strict sc es as
      | none => false) = true) (c : Cxt p n x N X sc) : PE X e (rE p x m (ev (cf p n) (.lst as))) := by
  split at h
  · rename_i es ey
    simp only [Bool.and_eq_true, decide_eq_true_eq] at h
    obtain ⟨h0, h⟩ := h
    obtain ⟨pos, rfl⟩ := asLst_eq ey
    refine PE.imp (PE.good c.hK (pe_lst (ih.a .strict sc es as x X (by simp) ho h c).2)) fun σ H Q ⟨F, ρ, s, st, q⟩ => ?_
    unfold ev at q
    refine ⟨F, ρ, s, st, q.bnd.imp fun ds s1 H1 er f1 d1 g1 q1 vs rv => ?_⟩
    have l := RkA.len (show RkA p false F H1 vs ds from rv)
    have l2 := evA_len k h er
    refine ⟨lim_line (by show vs.length ≤ 1000000; omega), fun t ht gt => ?_⟩
    have st1 := st.step f1 d1 g1
    have r : RF p F H1 (upd H1 t (.lst vs)) (.ref t) (.list ds) := RX.new (fr := true) st1.tr ht gt (RkA.rpa rv)
    exact q1 _ (FrE.of (same_upd ht)) (d1.same (same_upd ht)) gt _ (rf_to (st.mono f1 d1) st1.tr r)
  · cases h
theorem case_call (wf : Wf p g n) (ih : EOk p g n N own k) {m : Md} {f : Nat} {as : E} {e : Expr} (ho : x.own = own) (hm : m = .fresh → isFresh g.T (.call f as) = true) (h : (match asCall e with
      | some (y, es) => (match g.T[f]? with
        | some fi => decide (fi.name = y) && gloB sc y && okName y && chkA g N own k .strict sc es as
        | none => false)
      | none => false) = true) (c : Cxt p n x N X sc) : PE X e (rE p x m (ev (cf p n) (.call f as))) := by
  split at h
  · rename_i y es ey
    split at h
    · rename_i fi ef
      simp only [Bool.and_eq_true, decide_eq_true_eq] at h
      obtain ⟨⟨⟨rfl, h2⟩, h3⟩, h4⟩ := h
      obtain ⟨pos, pos2, rfl⟩ := asCall_eq ey
      obtain ⟨fa, fd, k1, k2, k3, k4⟩ := wf.fn f fi ef
      obtain ⟨k5, k6, k7⟩ := okName_ok h3
      obtain ⟨hs, ha⟩ := ih.a .strict sc es as x X (by simp) ho h4 c
      have F1 : FnOk X.prog X.w X.K X.mg X.base (L2.CX X.prog X.w) (n + 1) fa fd fi.ps (spF p n f) := by rw [c.hP, c.hw, c.hK, c.hmg, c.hb]; exact k4
      have pass : Passes (L2.CX X.prog X.w) X x.W := by rw [c.hP, c.hw]; exact c.pass
      have key : PE X (.Call (.Name fi.name pos) es [] pos2) (tCall (spF p n f) [] x.W (rA p x .strict (evA (cf p n) as))) := by
        cases es with
        | cons z es =>
          have hs1 : notStar z = true ∧ es.all notStar = true := by simpa using hs
          exact pe_call F1 c.room (c.gl h2) (by rw [c.hmg]; exact k1) (by rw [c.hK]; exact k2) (by rw [c.hK]; exact k3) .nil pass ha k5 (star_one hs1.1) (star_any hs1.2)
        | nil =>
          refine PE.imp (pe_call0 F1 c.room (c.gl h2) (by rw [c.hmg]; exact k1) (by rw [c.hK]; exact k2) (by rw [c.hK]; exact k3) .nil pass k5) fun σ H Q ⟨F, ρ, s, st, q⟩ => ?_
          have e0 : evA (cf p n) as ρ s = .ok [] s := by
            cases k with
            | zero => simp [chkA] at h4
            | succ k =>
              cases as with
              | nil => unfold evA; rfl
              | _ => simp [chkA] at h4
          rw [e0] at q
          exact (RO.ok (a := ([] : List D)) q st.dr st.good) [] .nil
      refine PE.imp key fun σ H Q ⟨F, ρ, s, st, q⟩ => ?_
      unfold ev at q
      refine ⟨F, ρ, s, st, q.bnd.imp fun ds s1 H1 er f1 d1 g1 q1 vs rv => ?_⟩
      have st1 := st.step f1 d1 g1
      show spF p n f (vs ++ []) H1 Q x.W
      rw [List.append_nil]
      have ef' : p.T[f]? = some fi := by rw [wf.hT]; exact ef
      have q1 : RO p x H1 (run p.T p.W n f ds s1) fun d _ H' => ∀ v, relM p m F H H' v d → Q v H' := q1
      have hlen : ds.length = fi.ps.length := by
        cases n with
        | zero => exact q1.elim
        | succ n =>
          unfold run at q1
          rw [ef'] at q1
          by_cases hl : ds.length = fi.ps.length
          · exact hl
          · simp only [hl, if_false] at q1
            exact q1.elim
      refine ⟨F, ds, s1, st1.tr, st.fa, st.fc, g1, d1, RkA.rpa rv, fi, ef', hlen, ?_⟩
      cases r : run p.T p.W n f ds s1 with
      | ok d s2 =>
        rw [r] at q1
        intro v H' f2 d2 g2 rr
        refine q1 H' f2 d2 g2 v ?_
        cases hf : fi.fresh with
        | true =>
          rw [hf] at rr
          exact rf_to (st.mono f1 d1) st1.tr rr
        | false =>
          rw [hf] at rr
          refine relM.rp rr fun e => ?_
          have z := hm e
          simp [isFresh, ef, hf] at z
      | err xn s2 => rw [r] at q1; exact q1
      | stuck => rw [r] at q1; exact q1
    · cases h
  · cases h
theorem case_bi (wf : Wf p g n) (ih : EOk p g n N own k) {m : Md} {b : Bi} {as : E} {e : Expr} (ho : x.own = own) (hm : m = .fresh → isFresh g.T (.bi b as) = true) (h : (match asCall e with
      | some (y, z :: es) => decide (biN b = y) && gloB sc y && chkA g N own k .borrow sc (z :: es) as
      | _ => false) = true) (c : Cxt p n x N X sc) : PE X e (rE p x m (ev (cf p n) (.bi b as))) := by
  split at h
  · rename_i y z es ey
    simp only [Bool.and_eq_true, decide_eq_true_eq] at h
    obtain ⟨⟨rfl, h2⟩, h4⟩ := h
    obtain ⟨pos, pos2, rfl⟩ := asCall_eq ey
    obtain ⟨hs, ha⟩ := ih.a .borrow sc (z :: es) as x X (by simp) ho h4 c
    have hfr : decide (m = .fresh) = true → b = .list ∨ b = .sorted := fun e => by
      have z := hm (of_decide_eq_true e)
      cases b <;> simp [isFresh] at z
      · exact .inl rfl
      · exact .inr rfl
    refine PE.imp (pe_bi (p := p) (fr := decide (m = .fresh)) c.hK (by rw [c.hmg]; exact wf.blt _ (bts_bi b)) c.calm c.hu hfr (c.gl h2) ha hs) fun σ H Q ⟨F, ρ, s, st, q⟩ => ?_
    unfold ev at q
    refine ⟨F, ρ, s, st, q.bnd.imp fun ds s1 H1 er f1 d1 g1 q1 vs rv => ?_⟩
    have st1 := st.step f1 d1 g1
    exact ⟨F, ds, st1.tr, rv, po_of st1 f1 (st.mono f1 d1) q1 d1⟩
  · cases h

/-! ### isinstance -/
theorem isi_call (hK : X.K = p.K) (t : Ty) : CallR X (.builtin "isinstance") (fun xs H Q => ∃ F d y, xs = [y, .ty (tyS t)] ∧ Rk p true F H y d ∧ d.plain = true ∧ Q (.bl (isiD d t)) H) := by
  intro pins s σ H xs us Q I r h
  obtain ⟨F, d, y, rfl, hy, hp, q⟩ := h
  obtain ⟨u1, u2, rfl, r1, r2⟩ := vals2 r
  obtain ⟨as, rd⟩ := hy.reads hK I r1 hp
  cases (show u2 = Value.type (tyS t) from r2)
  have fin : ∀ {b : Bool} {tk : Nat}, b = isiD d t → EP X pins σ Q (.bool b) { s with toks := tk } := fun {b tk} e => ⟨.bl b, H, I.tok tk, rfl, by rw [e]; exact q⟩
  cases t with
  | int => exact W.isinstance_int_data rd fun tk _ => fin (by cases d <;> rfl)
  | bool => exact W.isinstance_bool_data rd fun tk _ => fin (by cases d <;> rfl)
  | str => exact W.isinstance_str_data rd fun tk _ => fin (by cases d <;> rfl)
  | tuple => exact W.isinstance_tuple_data rd fun tk _ => fin (by cases d <;> rfl)
  | list => exact W.isinstance_list_data rd fun tk _ => fin (by cases d <;> rfl)
theorem boot_ty (t : Ty) : bootBuiltins (tyN t) = some (.type (tyS t)) := by cases t <;> decide +kernel
theorem bts_ty (t : Ty) : tyN t ∈ bts := by cases t <;> decide +kernel
theorem case_isi (wf : Wf p g n) (ih : EOk p g n N own k) {m : Md} {a : E} {t : Ty} {e : Expr} (ho : x.own = own) (hm : m ≠ .fresh) (h : (match asCall e with
      | some (w, [y, z]) => decide (w = ("isinstance" : Str)) && gloB sc w && notStar y && chkE g N own k .borrow sc y a && (match asName z with
        | some w => decide (tyN t = w) && gloB sc w
        | none => false)
      | _ => false) = true) (c : Cxt p n x N X sc) : PE X e (rE p x m (ev (cf p n) (.isi a t))) := by
  split at h
  · rename_i w y z ey
    simp only [Bool.and_eq_true, decide_eq_true_eq] at h
    obtain ⟨⟨⟨⟨rfl, h2⟩, h3⟩, h4⟩, h5⟩ := h
    split at h5
    · rename_i w2 ez
      simp only [Bool.and_eq_true, decide_eq_true_eq] at h5
      obtain ⟨rfl, h6⟩ := h5
      obtain ⟨pos, pos2, rfl⟩ := asCall_eq ey
      obtain ⟨pos3, rfl⟩ := asName_eq ez
      have nn : tyN t ≠ "__name__" := by cases t <;> decide +kernel
      have nd : (tyN t == ("__debug__" : Str)) = false := by cases t <;> decide +kernel
      have hz : PE X (.Name (tyN t) pos3) (tC (.ty (tyS t))) := pe_bltn (c.gl h6) (by rw [c.hmg]; exact wf.blt _ (bts_ty t)) (boot_ty t) rfl nn nd
      have ha := pa_cons (ih.e .borrow sc y a x X ho h4 c) (pa_cons hz pa_nil rfl) (star_one h3)
      refine PE.imp (pe_callB (isi_call c.hK t) (c.gl h2) (by rw [c.hmg]; exact wf.blt _ (by decide +kernel)) (by decide +kernel) ha (by decide) (by decide) (star_one h3) rfl) fun σ H Q ⟨F, ρ, s, st, q⟩ => ?_
      unfold ev at q
      refine ⟨F, ρ, s, st, q.bnd.imp fun d s1 H1 er f1 d1 g1 q1 v rv => ⟨F, d, v, rfl, rv, ?_⟩⟩
      split at q1
      · rename_i hp
        exact ⟨hp, (RO.ok q1 d1 g1) _ (relM.rp (.bl _) hm)⟩
      · exact q1.elim
    · cases h5
  · cases h

/-! ### ranges -/
theorem prg_ok (wf : Wf p g n) (c : Cxt p n x N X sc) {y : Expr} {ys : List Expr} {ta : TA} {pos pos2 : Pos} (hg : Gl X "range") (hs : (y :: ys).all notStar = true) (hl : (y :: ys).length ≤ 2) (ha : PA X (y :: ys) ta) : True := trivial
end
end EV
end

section
set_option Elab.async false
set_option linter.all false
set_option autoImplicit false
set_option maxRecDepth 100000
/-! EvMain3: and, or, methods, ranges, tests, parts, what a for walks. -/
namespace EV
open PySem PySem.Spec PyProof.Rows L2

section
variable {p : Par} {g : Glb} {n : Nat} {N : List Str}
variable {x : Fx} {X : Cx} {sc : Scope} {F : Addr → Prop} {σ : L2.St} {H H1 H2 : Hp} {ρ : Env} {s s1 s2 : DS} {own : List Nat} {k : Nat}

/-! ### and, or -/
theorem case_b (ih : EOk p g n N own k) {o : BoolOp} {es : List Expr} {e' : E} {pos : Pos} (ho : x.own = own) (h : chkB g N own (k + 1) o sc es e' = true) (c : Cxt p n x N X sc) : PE X (.BoolOp o es pos) (rE p x .strict (ev (cf p n) e')) := by
  unfold chkB at h
  split at h
  · rename_i y
    exact pe_one (ih.e .strict sc y e' x X ho h c)
  · rename_i y z es a b
    simp only [Bool.and_eq_true] at h
    refine PE.imp (pe_and (ih.e .strict sc y a x X ho h.1 c) (ih.b .And sc (z :: es) b x X pos ho h.2 c)) fun σ H Q ⟨F, ρ, s, st, q⟩ => ?_
    unfold ev at q
    refine ⟨F, ρ, s, st, q.bnd.imp fun dx s1 H1 _ f1 d1 g1 q1 v rv => ?_⟩
    cases dx with
    | bool b' =>
      cases (show Rp p F H1 v (.bool b') from rv)
      refine ⟨b', rfl, ?_⟩
      cases b' with
      | true => exact ⟨F, ρ, s1, st.step f1 d1 g1, RO.imp q1 fun d s2 H2 _ f2 d2 g2 q2 v rv => q2 v rv⟩
      | false => exact (RO.ok (a := PyData.bool false) q1 d1 g1) _ (.bl _)
    | _ => exact q1.elim
  · rename_i y z es a b
    simp only [Bool.and_eq_true] at h
    refine PE.imp (pe_or (ih.e .strict sc y a x X ho h.1 c) (ih.b .Or sc (z :: es) b x X pos ho h.2 c)) fun σ H Q ⟨F, ρ, s, st, q⟩ => ?_
    unfold ev at q
    refine ⟨F, ρ, s, st, q.bnd.imp fun dx s1 H1 _ f1 d1 g1 q1 v rv => ?_⟩
    cases dx with
    | bool b' =>
      cases (show Rp p F H1 v (.bool b') from rv)
      refine ⟨b', rfl, ?_⟩
      cases b' with
      | false => exact ⟨F, ρ, s1, st.step f1 d1 g1, RO.imp q1 fun d s2 H2 _ f2 d2 g2 q2 v rv => q2 v rv⟩
      | true => exact (RO.ok (a := PyData.bool true) q1 d1 g1) _ (.bl _)
    | _ => exact q1.elim
  · cases h
theorem rE_up {X : Cx} {e : Expr} {f : Env → DS → R D} {m : Md} (hm : m ≠ .fresh) (h : PE X e (rE p x .strict f)) : PE X e (rE p x m f) :=
  PE.imp h fun σ H Q ⟨F, ρ, s, st, q⟩ => ⟨F, ρ, s, st, q.imp fun d s1 H1 _ f1 d1 g1 q1 v rv => q1 v (relM.rp rv hm)⟩
theorem rT_of {X : Cx} {e : Expr} {f : Env → DS → R D} (h : PT X e (tB (rE p x .strict f))) : PT X e (rT p x f) :=
  PT.imp h fun σ H Q ⟨F, ρ, s, st, q⟩ => ⟨F, ρ, s, st, q.bnd.imp fun d s1 H1 _ f1 d1 g1 q1 v rv => by
    cases d with
    | bool b =>
      cases (show Rp p F H1 v (.bool b) from rv)
      exact ⟨b, rfl, RO.ok (a := b) q1 d1 g1⟩
    | _ => exact q1.elim⟩
theorem boolR_bnd {d : D} {s : DS} {α : Type} {f : Bool → DS → R α} : (boolR d s).bnd f = match d with
    | .bool b => f b s
    | _ => .stuck := by cases d <;> rfl
theorem case_tb (ih : EOk p g n N own k) {o : BoolOp} {es : List Expr} {e' : E} {pos : Pos} (ho : x.own = own) (h : chkTB g N own (k + 1) o sc es e' = true) (c : Cxt p n x N X sc) : PW X (.BoolOp o es pos) (rT p x (ev (cf p n) e')) := by
  unfold chkTB at h
  split at h
  · rename_i y
    cases o with
    | And => exact pw_and1 (ih.t sc y e' x X ho h c)
    | Or => exact pw_or1 (ih.t sc y e' x X ho h c)
  · rename_i y z es a b
    simp only [Bool.and_eq_true] at h
    refine PW.imp (pw_and (ih.t sc y a x X ho h.1 c) (ih.tb .And sc (z :: es) b x X pos ho h.2 c)) fun σ H Q ⟨F, ρ, s, st, q⟩ => ?_
    unfold ev at q
    refine ⟨F, ρ, s, st, ?_⟩
    have q' : RO p x H (((ev (cf p n) a ρ s).bnd boolR).bnd fun k s => if k = true then (ev (cf p n) b ρ s).bnd boolR else .ok false s) fun b _ H' => Q b H' := by
      cases r : ev (cf p n) a ρ s with
      | ok d s1 =>
        rw [r] at q
        cases d with
        | bool b' => cases b' <;> exact q
        | _ => exact q.elim
      | err xn s1 => rw [r] at q; exact q
      | stuck => rw [r] at q; exact q
    refine q'.bnd.imp fun kk s1 H1 _ f1 d1 g1 q1 => ?_
    cases kk with
    | true => exact ⟨F, ρ, s1, st.step f1 d1 g1, q1⟩
    | false => exact RO.ok (a := false) q1 d1 g1
  · rename_i y z es a b
    simp only [Bool.and_eq_true] at h
    refine PW.imp (pw_or (ih.t sc y a x X ho h.1 c) (ih.tb .Or sc (z :: es) b x X pos ho h.2 c)) fun σ H Q ⟨F, ρ, s, st, q⟩ => ?_
    unfold ev at q
    refine ⟨F, ρ, s, st, ?_⟩
    have q' : RO p x H (((ev (cf p n) a ρ s).bnd boolR).bnd fun k s => if k = true then .ok true s else (ev (cf p n) b ρ s).bnd boolR) fun b _ H' => Q b H' := by
      cases r : ev (cf p n) a ρ s with
      | ok d s1 =>
        rw [r] at q
        cases d with
        | bool b' => cases b' <;> exact q
        | _ => exact q.elim
      | err xn s1 => rw [r] at q; exact q
      | stuck => rw [r] at q; exact q
    refine q'.bnd.imp fun kk s1 H1 _ f1 d1 g1 q1 => ?_
    cases kk with
    | false => exact ⟨F, ρ, s1, st.step f1 d1 g1, q1⟩
    | true => exact RO.ok (a := true) q1 d1 g1
  · cases h

/-! ### a method of a text -/
def isS : D → Bool
  | .str _ => true
  | _ => false
theorem strs_all : ∀ {ds : List D}, ds.all isS = true → ∃ ys : List Str, ds = ys.map PyData.str
  | [], _ => ⟨[], rfl⟩
  | d :: ds, h => by
    rw [List.all_cons, Bool.and_eq_true] at h
    obtain ⟨ys, e⟩ := strs_all h.2
    cases d with
    | str z => exact ⟨z :: ys, by rw [e]; rfl⟩
    | _ => exact absurd h.1 (by simp [isS])
theorem strs_of {d : D} (h : strsT d = true) : ∃ ys : List Str, d = .tuple (ys.map PyData.str) := by
  cases d with
  | tuple ds =>
    have h : ds.all isS = true := by
      have e : isS = fun d => match d with
        | .str _ => true
        | _ => false := by funext d; cases d <;> rfl
      rw [e]
      exact h
    obtain ⟨ys, e⟩ := strs_all h
    exact ⟨ys, by rw [e]⟩
  | _ => simp [strsT] at h
theorem rpa_strs {vs : List V} : ∀ {ys : List Str}, RpA p F H vs (ys.map PyData.str) → vs = ys.map V.str := by
  induction vs with
  | nil => intro ys h; cases ys with
    | nil => rfl
    | cons _ _ => cases h
  | cons v vs ih => intro ys h; cases ys with
    | nil => cases h
    | cons y ys => cases h with
      | cons a b => cases a; rw [ih b]; rfl
theorem find_str {dy : D} {ys : List Str} {j : Nat} (h : ((ys.map PyData.str).findIdx? fun z => PyData.eqv z dy) = some j) : ∃ t, dy = .str t ∧ ys[j]? = some t ∧ ∀ m, m < j → ys[m]? ≠ some t := by
  rw [List.findIdx?_eq_some_iff_getElem] at h
  obtain ⟨hj, h1, h2⟩ := h
  rw [List.length_map] at hj
  simp only [List.getElem_map] at h1 h2
  cases dy with
  | str t =>
    have e : ys[j] = t := by simpa [PyData.eqv] using h1
    refine ⟨t, rfl, by rw [List.getElem?_eq_getElem hj, e], fun m hm e2 => ?_⟩
    have hm' : m < ys.length := by omega
    rw [List.getElem?_eq_getElem hm'] at e2
    have := h2 m hm
    have e3 : ys[m] = t := by simpa using e2
    rw [e3] at this
    simp [PyData.eqv] at this
  | _ => simp [PyData.eqv] at h1
theorem intsOf_mapE : ∀ {xs : List D} {ns : List Int}, intsOf xs = some ns → xs = ns.map PyData.int
  | [], ns, h => by cases h; rfl
  | .int i :: r, ns, h => by
    unfold intsOf at h
    cases e : intsOf r with
    | none => rw [e] at h; cases h
    | some l =>
      rw [e] at h
      cases h
      rw [List.map_cons, ← intsOf_mapE e]
  | .none :: r, ns, h => by simp [intsOf] at h
  | .bool _ :: r, ns, h => by simp [intsOf] at h
  | .str _ :: r, ns, h => by simp [intsOf] at h
  | .list _ :: r, ns, h => by simp [intsOf] at h
  | .tuple _ :: r, ns, h => by simp [intsOf] at h
  | .dict _ :: r, ns, h => by simp [intsOf] at h
theorem RpA.intsE : ∀ {ns : List Int} {vs : List V}, RpA p F H vs (ns.map PyData.int) → vs = ns.map V.int
  | [], _, h => by cases h; rfl
  | n :: ns, _, h => by
    cases h with
    | cons h1 h2 =>
      cases h1
      rw [List.map_cons, ← RpA.intsE h2]
theorem strs_rpa : ∀ (ys : List Str), RpA p F H (ys.map V.str) (ys.map PyData.str)
  | [] => .nil
  | y :: ys => .cons (.str y) (strs_rpa ys)
theorem flat_intsE (ns : List Int) : (ns.map V.int).all flatV = true := by
  rw [List.all_map]
  exact List.all_eq_true.mpr fun _ _ => rfl
/-- t.index(k), the first place, whole numbers -/
theorem mt_idxI {X : Cx} : MtR X "tuple.index" (fun x xs H Q => ∃ p, ∃ ns : List Int, ∃ k, x = .ref p ∧ xs = [.int k] ∧ SqT X.K H p (ns.map V.int) ∧ k ∈ ns ∧ Q (.int (ns.idxOf k : Nat)) H) := by
  intro pins s σ H x xs v us Q I rx rs h
  obtain ⟨p, ys, z, rfl, rfl, hq, hmem, q⟩ := h
  cases rx
  obtain ⟨u, rfl, t, rfl⟩ := vals1 rs
  obtain ⟨its, r, pl, hz⟩ := I.tuple hq
  obtain ⟨⟨cls, dd, dt, sl⟩, ho, hc, n, hd⟩ := pl
  simp only at hc hd
  subst hc
  subst hd
  have hl : its.toArray.size = ys.length := by rw [List.size_toArray, ← r.length, List.length_map]
  have hlt : ys.idxOf z < ys.length := List.idxOf_lt_length_iff.mpr hmem
  have hj : ys.idxOf z < its.toArray.size := by rw [hl]; exact hlt
  have at' : ∀ (m : Nat) (hm : m < its.toArray.size), ∃ y t', ys[m]? = some y ∧ its.toArray[m] = Value.int y t' := fun m hm => by
    have hm' : m < ys.length := by rw [← hl]; exact hm
    obtain ⟨w, hw, t', hw'⟩ := r.get (i := m) (x := .int ys[m]) (by simp [hm'])
    refine ⟨ys[m], t', List.getElem?_eq_getElem hm', ?_⟩
    have e := (List.getElem?_eq_some_iff.mp hw).2
    rw [← hw', ← e]
    simp
  refine call_meets PySem.F.slot_tuple_index ⟨_, ho, rfl⟩ PySem.F.entry_tuple_index (PySem.F.args_tuple_index_2 _ _) (TI.tuple_indexAt p its.toArray n dd sl (.int z t) (eqU (.int z)) (ys.idxOf z) hj ?_ ?_)
    ⟨ho, fun w hw => mem_eqAt (x := .int z) ⟨t, rfl⟩ rfl r (flat_intsE ys) w (by simpa using hw), ⟨.int (ys.idxOf z : Nat), H, I.tok _, ⟨_, rfl⟩, q⟩⟩
  · obtain ⟨y, t', h1, h2⟩ := at' (ys.idxOf z) hj
    have e : ys[ys.idxOf z]? = some z := by rw [List.getElem?_eq_getElem hlt, List.getElem_idxOf hlt]
    rw [e] at h1
    cases h1
    rw [h2]
    show (z == z) = true
    exact beq_self_eq_true z
  · intro m hm hmj
    obtain ⟨y, t', h1, h2⟩ := at' m hm
    rw [h2]
    show (y == z) = false
    refine beq_eq_false_iff_ne.mpr fun e => ?_
    subst e
    have hm' : m < ys.length := by rw [← hl]; exact hm
    have hne := List.not_of_lt_findIdx (p := (· == y)) (xs := ys) (i := m) hmj
    rw [List.getElem?_eq_getElem hm'] at h1
    simp only [Option.some.injEq] at h1
    rw [h1] at hne
    simp at hne
/-- .., of a tuple with no dict -/
def tIdx (K : PySem.W.Frag) (r : V → List V → Hp → VK → Prop) (to : TE) (t : TA) : TE := fun σ H Q => to σ H fun x H1 => ∃ a, x = .ref a ∧ PlnT K H1 a ∧ t σ H1 fun xs H2 => r x xs H2 Q
theorem pe_idxI {X : Cx} {o e : Expr} {es : List Expr} {to : TE} {t : TA} {apos cpos : Pos} (ho : PE X o to) (ha : PA X (e :: es) t)
    (hbase : attributeBase o "index" X.env (eval o X.env) = eval o X.env)
    (hfew : ((backTo cpos (starEach (e :: es) X.env)).all (fun x => !x.1) && (backToKw cpos (keywordEach [] X.env)).all (fun x => x.1.isSome)
      && decide ((e :: es).length + ([] : List Keyword).length + (if ([] : List Keyword).isEmpty then 0 else 1) < 30)) = true)
    (hline : (apos.endLine == cpos.line) = true) (hs : starEach (e :: es) X.env = (false, eval e X.env) :: starEach es X.env) (hplain : (backTo cpos (starEach es X.env)).any (·.1) = false) :
    PE X (.Call (.Attribute o "index" apos) (e :: es) [] cpos) (tIdx X.K (fun x xs H Q => ∃ p, ∃ ns : List Int, ∃ k, x = .ref p ∧ xs = [.int k] ∧ SqT X.K H p (ns.map V.int) ∧ k ∈ ns ∧ Q (.int (ns.idxOf k : Nat)) H) to t) := by
  refine ⟨fun pins s σ H Q I h => ?_⟩
  refine wpAny_Call_method_late hbase hfew hline rfl (thn (ho.run pins s σ H _ I h) fun v s1 ⟨x, H1, I1, r1, a, ex, pl, q1⟩ => ?_)
  subst ex
  cases r1
  obtain ⟨ob, e1, e2, e3⟩ : ∃ ob, s1.heap.get? a = some ob ∧ ob.cls = .type "tuple" ∧ ob.dict = none := by
    rcases pl with ⟨ob, e1, e2, e3⟩ | ⟨ob, u, e1, e2, e3⟩
    · exact ⟨ob, I1.kIn a ob e1, e2, e3⟩
    · exact ⟨ob, (I1.hok a _ e1).1, e2, e3⟩
  refine ⟨"tuple", _, F.plainAttrs_tuple, F.slot_tuple_index, F.type_tuple_index, ⟨ob, e1, e2⟩, fun b eb => by cases eb; exact ⟨ob, e1, e3⟩, ?_⟩
  have hA := ha.run cpos pins s1 σ H1 _ I1 q1
  rw [hs] at hA ⊢
  refine Calls.callWith_builtin (by show (false || (backTo cpos (starEach es X.env)).any (·.1)) = false; rw [hplain] <;> rfl) (Calls.evalArgs_plain ?_)
  exact thn hA fun us s2 ⟨vs, H2, I2, r2, q2⟩ => mt_idxI pins s2 σ H2 (.ref a) vs (.ref a) us Q I2 rfl r2 q2
theorem case_mt (wf : Wf p g n) (ih : EOk p g n N own k) {m : Md} {mt : Mt} {a as : E} {e : Expr} (ho : x.own = own) (hm : m ≠ .fresh) (h : (match mt, asMeth e with
      | .startswith, some (y, nm, [z], true) => decide (nm = ("startswith" : Str)) && notStar z && (match y with
        | .Name _ _ => true
        | _ => false) && chkE g N own k .borrow sc y a && (match as with
        | .cons b .nil => chkE g N own k .borrow sc z b
        | _ => false)
      | .indexI, some (y, nm, [z], true) => decide (nm = ("index" : Str)) && notStar z && (match y with
        | .Name _ _ => true
        | _ => false) && chkE g N own k .borrow sc y a && (match as with
        | .cons b .nil => chkE g N own k .borrow sc z b
        | _ => false)
      | .split, some (y, nm, [z], true) => decide (nm = ("split" : Str)) && notStar z && (match y with
        | .Name _ _ => true
        | _ => false) && chkE g N own k .borrow sc y a && (match as with
        | .cons b .nil => chkE g N own k .borrow sc z b
        | _ => false)
      | .index, some (y, nm, [z], true) => decide (nm = ("index" : Str)) && notStar z && (match asName y, a with
        | some z, .glo gy gd => decide (gy = z) && gloB sc z && okName z && (g.cons.any fun q => decide (q.1 = gy) && dEq q.2 gd) && strsT gd
        | _, _ => false) && (match as with
        | .cons b .nil => chkE g N own k .borrow sc z b
        | _ => false)
      | _, _ => false) = true) (c : Cxt p n x N X sc) : PE X e (rE p x m (ev (cf p n) (.mt mt a as))) := by
  split at h
  · rename_i y nm z ey
    simp only [Bool.and_eq_true, decide_eq_true_eq] at h
    obtain ⟨⟨⟨⟨rfl, h1⟩, h2⟩, h3⟩, h4⟩ := h
    obtain ⟨ap, q, rfl, hl⟩ := asMeth_eq ey
    split at h2
    · split at h4
      · rename_i b
        refine PE.imp (pe_m1 F.slot_str_startswith F.type_str_startswith mt_startswith (ih.e .borrow sc _ a x X ho h3 c) (ih.e .borrow sc z b x X ho h4 c) (star_one h1) rfl hl) fun σ H Q ⟨F, ρ, s, st, q⟩ => ?_
        unfold ev at q
        refine ⟨F, ρ, s, st, q.bnd.imp fun dx s1 H1 _ f1 d1 g1 q1 v rv => ?_⟩
        cases dx with
        | str t =>
          have ev' := Rk.str rv
          subst ev'
          have q2 : RO p x H1 ((ev (cf p n) b ρ s1).bnd fun y s => R.lift (mtD .startswith (.str t) [y]) s) fun d _ H' => ∀ v, relM p m F H H' v d → Q v H' := by
            have q1 : RO p x H1 ((evA (cf p n) (.cons b .nil) ρ s1).bnd fun xs s => R.lift (mtD .startswith (.str t) xs) s) fun d _ H' => ∀ v, relM p m F H H' v d → Q v H' := q1
            unfold evA at q1
            cases r : ev (cf p n) b ρ s1 with
            | ok d s2 => rw [r] at q1; unfold evA at q1; exact q1
            | err xn s2 => rw [r] at q1; exact q1
            | stuck => rw [r] at q1; exact q1
          refine ⟨⟨t, rfl⟩, F, ρ, s1, st.step f1 d1 g1, q2.bnd.imp fun dy s2 H2 _ f2 d2 g2 q3 u ru => ?_⟩
          cases dy with
          | str t2 =>
            have eu := Rk.str ru
            subst eu
            exact ⟨t, t2, rfl, rfl, (RO.lift q3 d2 g2).elim fun d hd => by obtain ⟨e, hd⟩ := hd; cases e; exact hd _ (relM.rp (.bl _) hm)⟩
          | _ => exact q3.elim
        | _ => exact q1.elim
      · cases h4
    · cases h2
  · rename_i y nm z ey
    simp only [Bool.and_eq_true, decide_eq_true_eq] at h
    obtain ⟨⟨⟨⟨rfl, h1⟩, h2⟩, h3⟩, h4⟩ := h
    obtain ⟨ap, q0, rfl, hl⟩ := asMeth_eq ey
    split at h2
    · split at h4
      · rename_i b
        have pa := pa_cons (ih.e .borrow sc z b x X ho h4 c) pa_nil (star_one h1)
        refine PE.imp (pe_idxI (ih.e .borrow sc _ a x X ho h3 c) pa rfl (by rw [star_one h1]; rfl) hl (star_one h1) rfl) fun σ H Q ⟨F, ρ, s, st, q⟩ => ?_
        unfold ev at q
        refine ⟨F, ρ, s, st, q.bnd.imp fun dx s1 H1 _ f1 d1 g1 q1 v rv => ?_⟩
        cases dx with
        | tuple xs =>
          obtain ⟨a', vs, ex, na, hs, ra⟩ := Rk.tup (show Rk p true F H1 v (.tuple xs) from rv)
          have pl := Rk.pln (show Rk p true F H1 v (.tuple xs) from rv) ex
          subst ex
          have q1 : RO p x H1 ((evA (cf p n) (.cons b .nil) ρ s1).bnd fun ys s => R.lift (mtD .indexI (.tuple xs) ys) s) fun d _ H' => ∀ v, relM p m F H H' v d → Q v H' := q1
          refine ⟨a', rfl, by rw [c.hK]; exact pl, F, ρ, s1, st.step f1 d1 g1, ?_⟩
          have q2 : RO p x H1 ((ev (cf p n) b ρ s1).bnd fun y s => R.lift (mtD .indexI (.tuple xs) [y]) s) fun d _ H' => ∀ v, relM p m F H H' v d → Q v H' := by
            unfold evA at q1
            cases r : ev (cf p n) b ρ s1 with
            | ok d s2 => rw [r] at q1; unfold evA at q1; exact q1
            | err xn s2 => rw [r] at q1; exact q1
            | stuck => rw [r] at q1; exact q1
          refine q2.bnd.imp fun dy s2 H2 _ f2 d2 gd2 q3 w rw' => ?_
          obtain ⟨d, ed2, q4⟩ := q3.lift d2 gd2
          cases dy with
          | int kk =>
            have ew := Rk.int rw'
            subst ew
            have ed2 : ((intsOf xs).bind fun ns => if kk ∈ ns then some (PyData.int (ns.idxOf kk : Nat)) else none) = some d := ed2
            cases ei : intsOf xs with
            | none => rw [ei] at ed2; cases ed2
            | some ns =>
              rw [ei] at ed2
              simp only [Option.bind_some] at ed2
              split at ed2
              · rename_i hmem
                cases ed2
                have exs := intsOf_mapE ei
                subst exs
                have hs2 : SqT p.K H2 a' vs := SqT.fr hs fun o e => f2.nf st.fa _ o e na
                rw [RpA.intsE ra] at hs2
                exact ⟨a', ns, kk, rfl, rfl, by rw [c.hK]; exact hs2, hmem, q4 _ (relM.rp (.int _) hm)⟩
              · cases ed2
          | _ => cases ed2
        | _ => exact q1.elim
      · cases h4
    · cases h2
  · rename_i y nm z ey
    simp only [Bool.and_eq_true, decide_eq_true_eq] at h
    obtain ⟨⟨⟨⟨rfl, h1⟩, h2⟩, h3⟩, h4⟩ := h
    obtain ⟨ap, q, rfl, hl⟩ := asMeth_eq ey
    split at h2
    · split at h4
      · rename_i b
        refine PE.imp (PE.good c.hK (pe_m1 F.slot_str_split F.type_str_split mt_split (ih.e .borrow sc _ a x X ho h3 c) (ih.e .borrow sc z b x X ho h4 c) (star_one h1) rfl hl)) fun σ H Q ⟨F, ρ, s, st, q⟩ => ?_
        unfold ev at q
        refine ⟨F, ρ, s, st, q.bnd.imp fun dx s1 H1 _ f1 d1 g1 q1 v rv => ?_⟩
        cases dx with
        | str t =>
          have ev' := Rk.str rv
          subst ev'
          have q2 : RO p x H1 ((ev (cf p n) b ρ s1).bnd fun y s => R.lift (mtD .split (.str t) [y]) s) fun d _ H' => ∀ v, relM p m F H H' v d → Q v H' := by
            have q1 : RO p x H1 ((evA (cf p n) (.cons b .nil) ρ s1).bnd fun xs s => R.lift (mtD .split (.str t) xs) s) fun d _ H' => ∀ v, relM p m F H H' v d → Q v H' := q1
            unfold evA at q1
            cases r : ev (cf p n) b ρ s1 with
            | ok d s2 => rw [r] at q1; unfold evA at q1; exact q1
            | err xn s2 => rw [r] at q1; exact q1
            | stuck => rw [r] at q1; exact q1
          refine ⟨⟨t, rfl⟩, F, ρ, s1, st.step f1 d1 g1, q2.bnd.imp fun dy s2 H2 _ f2 d2 g2 q3 u ru => ?_⟩
          cases dy with
          | str t2 =>
            have eu := Rk.str ru
            subst eu
            have q3 : RO p x H2 (R.lift (if t2.length ≠ 0 ∧ t.length ≤ 1000 then some (PyData.list ((Txt.split t t2).map .str)) else none) s2) fun d _ H' => ∀ v, relM p m F H H' v d → Q v H' := q3
            split at q3
            · rename_i hc
              obtain ⟨hc1, hc2⟩ := hc
              have hz : t.length + 2 ≤ sizeLine := by rw [sizeLine_eq]; omega
              refine ⟨t, t2, rfl, rfl, by simpa using hc1, hz, fun pp hp g3 => ?_⟩
              have q3 := q3.mono (FrE.of (same_upd (o := .lst ((Txt.split t t2).map V.str)) hp))
              refine (RO.ok q3 (d2.same (same_upd hp)) g3) _ (relM.rp ?_ hm)
              exact .lst (fun f => ((st.step f1 d1 g1).step f2 d2 g2).tr pp f hp) upd_same (strs_rpa _)
            · exact q3.elim
          | _ => exact q3.elim
        | _ => exact q1.elim
      · cases h4
    · cases h2
  · rename_i y nm z ey
    simp only [Bool.and_eq_true, decide_eq_true_eq] at h
    obtain ⟨⟨⟨rfl, h1⟩, h2⟩, h4⟩ := h
    obtain ⟨ap, q0, rfl, hl⟩ := asMeth_eq ey
    split at h2
    · rename_i gz gy gd eg
      simp only [Bool.and_eq_true, decide_eq_true_eq, List.any_eq_true] at h2
      obtain ⟨⟨⟨⟨rfl, g2⟩, g3⟩, qc, hq, g5, g6⟩, g7⟩ := h2
      split at h4
      · rename_i b
        obtain ⟨pos, rfl⟩ := asName_eq eg
        obtain ⟨k1, k2, k3⟩ := okName_ok g3
        obtain ⟨u, v, e1, e2, e3, e4⟩ := wf.con qc hq
        rw [g5] at e1
        have g6 := dEq_ok g6
        subst g6
        have pa := pa_cons (ih.e .borrow sc z b x X ho h4 c) pa_nil (star_one h1)
        refine PE.imp (pe_bm F.plainAttrs_tuple F.slot_tuple_index F.type_tuple_index mt_tup_index (pe_glob (c.gl g2) (by rw [c.hmg]; exact e1) e2 k1) pa rfl (by rw [star_one h1]; rfl) hl (star_one h1) rfl) fun σ H Q ⟨F, ρ, s, st, q⟩ => ?_
        obtain ⟨ys, ed⟩ := strs_of g7
        obtain ⟨a, o, ea, el, ec, eo⟩ := e4 _ ed
        subst ea
        refine ⟨.inr (.inl ⟨rfl, o, by rw [c.hK]; exact el, ec, eo⟩), F, ρ, s, st, ?_⟩
        unfold ev at q
        have q : RO p x H ((ev (cf p n) (.glo gy qc.2) ρ s).bnd fun x s => (R.lift (mtOk .index x) s).bnd fun _ s => (evA (cf p n) (.cons b .nil) ρ s).bnd fun xs s => R.lift (mtD .index x xs) s) fun d _ H' => ∀ v, relM p m F H H' v d → Q v H' := q
        rw [ed] at q
        have q : RO p x H ((evA (cf p n) (.cons b .nil) ρ s).bnd fun xs s => R.lift (mtD .index (.tuple (ys.map PyData.str)) xs) s) fun d _ H' => ∀ v, relM p m F H H' v d → Q v H' := by
          unfold ev at q
          exact q
        have q2 : RO p x H ((ev (cf p n) b ρ s).bnd fun y s => R.lift (mtD .index (.tuple (ys.map PyData.str)) [y]) s) fun d _ H' => ∀ v, relM p m F H H' v d → Q v H' := by
          unfold evA at q
          cases r : ev (cf p n) b ρ s with
          | ok d s2 => rw [r] at q; unfold evA at q; exact q
          | err xn s2 => rw [r] at q; exact q
          | stuck => rw [r] at q; exact q
        refine q2.bnd.imp fun dy s2 H2 _ f2 d2 gd2 q3 w rw' => ?_
        obtain ⟨d, ed2, q4⟩ := q3.lift d2 gd2
        have ed2 : (if okIn dy (ys.map PyData.str) = true then ((ys.map PyData.str).findIdx? fun z => PyData.eqv z dy).map fun j => PyData.int j else none) = some d := ed2
        split at ed2
        · cases ef : (ys.map PyData.str).findIdx? fun z => PyData.eqv z dy with
          | none => rw [ef] at ed2; cases ed2
          | some j =>
            rw [ef] at ed2
            have ed2 : some (PyData.int (j : Nat)) = some d := ed2
            cases ed2
            have hT := (Rk.tup (p := p) (b := false) (F := F) (H := H2) (.inl (ed ▸ e3 F H2 st.nF)))
            obtain ⟨a', vs, ea', _, hs, hr⟩ := hT
            cases ea'
            have evs := rpa_strs hr
            subst evs
            obtain ⟨tx, edy, hj1, hj2⟩ := find_str ef
            subst edy
            have ew := Rk.str rw'
            subst ew
            exact ⟨a, ys, tx, j, rfl, rfl, by rw [c.hK]; exact hs, hj1, hj2, q4 _ (relM.rp (.int _) hm)⟩
        · cases ed2
      · cases h4
    · cases h2
  · cases h

/-! ### ranges -/
theorem rpa_ints {f : Nat → Int} (ns : List Nat) : RpA p F H (ns.map fun i => V.int (f i)) (ns.map fun i => PyData.int (f i)) := by
  induction ns with
  | nil => exact .nil
  | cons a r ih => exact .cons (.int _) ih
theorem range_one {ds ys : List D} (h : rangeD ds = some ys) (hl : ds.length = 1) : ∃ j : Int, ds = [.int j] ∧ -(LIM : Int) ≤ j ∧ j ≤ LIM ∧ ys = (List.range j.toNat).map fun i => .int (i : Nat) := by
  unfold rangeD at h
  split at h
  · split at h
    · rename_i hz
      cases h
      exact ⟨_, rfl, hz.1, hz.2, rfl⟩
    · cases h
  · simp at hl
  · simp at hl
  · cases h
theorem range_two {ds ys : List D} (h : rangeD ds = some ys) (hl : ds.length = 2) : ∃ i j : Int, ds = [.int i, .int j] ∧ (-(LIM : Int) ≤ i ∧ i ≤ LIM) ∧ (-(LIM : Int) ≤ j ∧ j ≤ LIM) ∧ ys = (List.range (j - i).toNat).map fun k => .int (i + (k : Nat)) := by
  unfold rangeD at h
  split at h
  · simp at hl
  · split at h
    · rename_i hz
      cases h
      exact ⟨_, _, rfl, hz.1, hz.2, rfl⟩
    · cases h
  · simp at hl
  · cases h
theorem range_three {ds ys : List D} (h : rangeD ds = some ys) (hl : ds.length = 3) : ∃ i j : Int, ds = [.int i, .int j, .int (-1)] ∧ (-(LIM : Int) ≤ i ∧ i ≤ LIM) ∧ (-(LIM : Int) ≤ j ∧ j ≤ LIM) ∧ ys = (List.range (i - j).toNat).map fun k => .int (i + (k : Nat) * (-1)) := by
  unfold rangeD at h
  split at h
  · simp at hl
  · simp at hl
  · split at h
    · rename_i hz
      cases h
      obtain ⟨h1, h2, rfl⟩ := hz
      exact ⟨_, _, rfl, h1, h2, rfl⟩
    · cases h
  · cases h
/-- a range from its arguments -/
def tRgA (ta : TA) : L2.St → Hp → (Int → Int → Hp → Prop) → Prop := fun σ H Q => ta σ H fun vs H1 => (∃ j, vs = [.int j] ∧ Q 0 j H1) ∨ ∃ i j, vs = [.int i, .int j] ∧ Q i j H1
theorem prg_a {y : Expr} {ys : List Expr} {ta : TA} {pos pos2 : Pos} (hg : Gl X "range") (hm : X.mg "range" = none) (hs : (y :: ys).all notStar = true) (ha : PA X (y :: ys) ta) : PRg X (.Call (.Name "range" pos) (y :: ys) [] pos2) (tRgA ta) := by
  intro pins s σ H Q I h
  have hs' : notStar y = true ∧ ys.all notStar = true := by simpa using hs
  refine Call_ (ld_blt I hg hm boot_range (PyProof.Rows.callWith_type1 (thn (ha.run pos2 pins s σ H _ I h) fun us s1 ⟨vs, H1, I1, r1, q1⟩ => ?_) (star_one hs'.1) (star_any hs'.2)))
  rcases q1 with ⟨j, e, q⟩ | ⟨i, j, e, q⟩
  · subst e
    cases r1 with
    | cons r rr =>
      cases rr
      obtain ⟨t, rfl⟩ := r
      exact call_range_1 ⟨_, 0, j, _, _, _, H1, rfl, IsRange.new _ _ _ _ _ _ _, I1.kept fun b u e => Heap.get?_push_of_some _ e, q⟩
  · subst e
    cases r1 with
    | cons r rr =>
      cases rr with
      | cons r' rr =>
        cases rr
        obtain ⟨t, rfl⟩ := r
        obtain ⟨t', rfl⟩ := r'
        exact call_range_2 ⟨_, i, j, _, _, _, H1, rfl, IsRange.new _ _ _ _ _ _ _, I1.kept fun b u e => Heap.get?_push_of_some _ e, q⟩
theorem case_lrng (wf : Wf p g n) (ih : EOk p g n N own k) {m : Md} {as : E} {e : Expr} (ho : x.own = own) (h : (match asCall e with
      | some (w, [y]) => decide (w = ("list" : Str)) && gloB sc w && (match asCall y with
        | some (z, z1 :: zs) => decide (z = ("range" : Str)) && gloB sc z && (z1 :: zs).all notStar && decide ((z1 :: zs).length ≤ 2) && chkA g N own k .borrow sc (z1 :: zs) as
        | _ => false)
      | _ => false) = true) (c : Cxt p n x N X sc) : PE X e (rE p x m (ev (cf p n) (.lrng as))) := by
  split at h
  · rename_i w y ey
    simp only [Bool.and_eq_true, decide_eq_true_eq] at h
    obtain ⟨⟨rfl, h2⟩, h⟩ := h
    split at h
    · rename_i z z1 zs ez
      simp only [Bool.and_eq_true, decide_eq_true_eq] at h
      obtain ⟨⟨⟨⟨rfl, h3⟩, h4⟩, h5⟩, h6⟩ := h
      obtain ⟨p1, p2, rfl⟩ := asCall_eq ey
      obtain ⟨p3, p4, rfl⟩ := asCall_eq ez
      obtain ⟨hs, ha⟩ := ih.a .borrow sc (z1 :: zs) as x X (by simp) ho h6 c
      refine PE.imp (PE.good c.hK (pe_listRg c.calm (c.gl h2) (by rw [c.hmg]; exact wf.blt _ (by decide +kernel)) (prg_a (c.gl h3) (by rw [c.hmg]; exact wf.blt _ (by decide +kernel)) hs ha))) fun σ H Q ⟨F, ρ, s, st, q⟩ => ?_
      unfold ev at q
      refine ⟨F, ρ, s, st, q.bnd.imp fun ds s1 H1 er f1 d1 g1 q1 vs rv => ?_⟩
      have l2 := evA_len k h6 er
      obtain ⟨ys, e1, q2⟩ := q1.bnd.lift d1 g1
      have st1 := st.step f1 d1 g1
      have fin : ∀ (i j : Int), ys = ((List.range (j - i).toNat).map fun k => .int (i + (k : Nat))) → -(LIM : Int) ≤ i ∧ i ≤ LIM → -(LIM : Int) ≤ j ∧ j ≤ LIM → RgOk i j ∧ ∀ t, H1 t = none → Good p (upd H1 t (.lst (rgV i j))) → Q (.ref t) (upd H1 t (.lst (rgV i j))) := fun i j ey hi hj => by
        have hi : -(1000000 : Int) ≤ i ∧ i ≤ 1000000 := hi
        have hj : -(1000000 : Int) ≤ j ∧ j ≤ 1000000 := hj
        refine ⟨⟨by omega, by omega, by omega, by omega, by omega⟩, fun t ht gt => ?_⟩
        have r : RF p F H1 (upd H1 t (.lst (rgV i j))) (.ref t) (.list ys) := by
          rw [ey]
          exact RX.new (fr := true) st1.tr ht gt (rpa_ints (f := fun k => i + (k : Nat)) _)
        exact (RO.ok (a := PyData.list ys) q2 d1 g1) |> fun _ => q2 _ (FrE.of (same_upd ht)) (d1.same (same_upd ht)) gt _ (rf_to (st.mono f1 d1) st1.tr r)
      rcases (show ds.length = 1 ∨ ds.length = 2 by simp at h5 l2; omega) with l | l
      · obtain ⟨j, rfl, hj1, hj2, ey⟩ := range_one e1 l
        obtain ⟨v, rfl, rv1⟩ := RkA.one (show RkA p true F H1 vs [.int j] from rv)
        have e2 := rv1.int
        subst e2
        exact .inl ⟨j, rfl, fin 0 j (by rw [ey]; simp) ⟨by decide, by decide⟩ ⟨hj1, hj2⟩⟩
      · obtain ⟨i, j, rfl, hi, hj, ey⟩ := range_two e1 l
        obtain ⟨v, u, rfl, rv1, ru1⟩ := RkA.two (show RkA p true F H1 vs [.int i, .int j] from rv)
        have e2 := rv1.int
        have e3 := ru1.int
        subst e2 e3
        exact .inr ⟨i, j, rfl, fin i j ey hi hj⟩
    · cases h
  · cases h

/-! ### arguments, parts -/
theorem case_a (ih : EOk p g n N own k) {m : Md} {es : List Expr} {e' : E} (hm : m ≠ .fresh) (ho : x.own = own) (h : chkA g N own (k + 1) m sc es e' = true) (c : Cxt p n x N X sc) : es.all notStar = true ∧ PA X es (rA p x m (evA (cf p n) e')) := by
  unfold chkA at h
  split at h
  · refine ⟨rfl, PA.imp pa_nil fun σ H Q ⟨F, ρ, s, st, q⟩ => ?_⟩
    unfold evA at q
    exact (RO.ok (a := ([] : List D)) q st.dr st.good) [] (by cases m <;> exact .nil)
  · rename_i y es a as
    simp only [Bool.and_eq_true] at h
    obtain ⟨⟨h1, h2⟩, h3⟩ := h
    obtain ⟨hs, ha⟩ := ih.a m sc es as x X hm ho h3 c
    refine ⟨by simp only [List.all_cons, Bool.and_eq_true]; exact ⟨h1, hs⟩, PA.imp (pa_cons (ih.e m sc y a x X ho h2 c) ha (star_one h1)) fun σ H Q ⟨F, ρ, s, st, q⟩ => ?_⟩
    unfold evA at q
    refine ⟨F, ρ, s, st, q.bnd.imp fun d s1 H1 _ f1 d1 g1 q1 v rv => ⟨F, ρ, s1, st.step f1 d1 g1, q1.bnd.imp fun ds s2 H2 _ f2 d2 g2 q2 vs rvs => ?_⟩⟩
    refine (RO.ok (a := d :: ds) q2 d2 g2) (v :: vs) ?_
    cases m with
    | strict => exact .cons (Rk.fr (.inl rv) f2 st.fa) rvs
    | borrow => exact .cons (Rk.fr rv f2 st.fa) rvs
    | fresh => exact absurd rfl hm
  · cases h
theorem case_o (ih : EOk p g n N own k) {o : Option Expr} {e' : E} (ho : x.own = own) (h : chkO g N own (k + 1) sc o e' = true) (c : Cxt p n x N X sc) : L2.PO X o (rO p x (evO (cf p n) e')) := by
  unfold chkO at h
  split at h
  · refine PO.imp' po_none fun σ H Q ⟨F, ρ, s, st, q⟩ => ?_
    unfold evO at q
    exact RO.ok (a := (none : Option Int)) q st.dr st.good
  · cases h
  · rename_i y hne
    refine PO.imp' (po_some (ih.e .borrow sc y e' x X ho h c)) fun σ H Q ⟨F, ρ, s, st, q⟩ => ?_
    have q : RO p x H ((ev (cf p n) e' ρ s).bnd fun d s => R.lift ((endD d).map some) s) fun o _ H' => Q o H' := by
      cases e' with
      | nil => exact absurd rfl hne
      | _ => unfold evO at q; exact q
    refine ⟨F, ρ, s, st, q.bnd.imp fun d s1 H1 _ f1 d1 g1 q1 v rv => ?_⟩
    obtain ⟨o, e1, q2⟩ := q1.lift d1 g1
    cases d with
    | int i =>
      cases e1
      have e2 := Rk.int rv
      subst e2
      exact ⟨i, rfl, q2⟩
    | _ => cases e1
  · cases h

/-! ### tests -/
theorem notTest_ok {e : Expr} {env : PySem.Env} (h : notTest e = true) : ∀ whole, isTrue e env whole = (do let v ← whole; standAt e.pos; holding [v] (truthy v)) := by
  intro whole
  cases e <;> first | rfl | (simp [notTest] at h)
end
end EV
end

section
set_option Elab.async false
set_option linter.all false
set_option autoImplicit false
set_option maxRecDepth 100000
/-! EvSet: len(set(t)) and set(t) == set(u), tuples of whole numbers. -/
namespace EV
open PySem PySem.Spec PyProof.Rows L2 PySem.Builtin PySem.Builtin.Frozenset
section
variable {prog : Program} {w : World} {A : Around} {E : Value → Shared → Prop} {s : Shared} {a b : Addr} {S T : Int → Bool} {m n : Nat}
theorem entry_set_eq : entryFor table "set.__eq__" = some Builtin.«frozenset.__eq__» :=
  entryFor_alias (id' := "frozenset.__eq__") (by kernel_rfl) rfl (by decide +kernel) (by kernel_rfl)
theorem wp_unseen (ra : SetR w s.heap a S m) (rb : SetR w s.heap b T n) {Q : List (Int × Value) → Shared → Prop} (h : ∀ o es ep t, s.heap.get? a = some o → o.data = .set es ep t → t.fits es.size = true → (∀ e ∈ es.toList, GoodE e) → (∀ k, S k = true ↔ k ∈ es.toList.map keyOf) → Q es.toList s) :
    wpAny (model prog w) A (walkUnseen a b) Q E s := by
  obtain ⟨o, es, ep, t, ho, hx, hd, hg, hnd, hm, hb, hf, hn, _⟩ := ra
  obtain ⟨o2, es2, ep2, t2, ho2, hx2, hd2, hg2, hnd2, hm2, hb2, hf2, hn2, _⟩ := rb
  unfold walkUnseen
  refine wpAny_bind (wpAny_setEntries_of ho hd hf ?_)
  refine wpAny_bind (wpAny_setEntries_of ho2 hd2 hf2 ?_)
  refine wpAny_bind ?_
  refine wpAny_forIn_list _ (fun rest r s' => r.1 = none ∧ s' = s ∧ ∀ e ∈ rest, GoodE e) _ ?_ ?_ _ _ ⟨rfl, rfl, fun e he => (List.mem_append.mp he).elim (hg e) (hg2 e)⟩
  · rintro ⟨hh, v⟩ rest r s' ⟨hr, rfl, hall⟩
    obtain ⟨k, tk, e1, e2⟩ := hall _ List.mem_cons_self
    have e1 : v = .int k tk := e1
    subst e1
    show wpAny _ _ (quietEq (.int k tk) >>= _) _ _ s'
    unfold quietEq
    refine wpAny_bind (wpAny_pure ?_)
    simp only [Bool.not_true, Bool.false_eq_true, if_false]
    exact wpAny_pure ⟨rfl, rfl, fun u hu' => hall u (List.mem_cons_of_mem _ hu')⟩
  · rintro ⟨r1, r2⟩ s' ⟨hr, rfl, _⟩
    simp only at hr
    subst hr
    exact wpAny_pure (h o es ep t ho hd hf hg hm)
theorem wp_size (ra : SetR w s.heap a S m) {Q : Nat → Shared → Prop} (h : Q m s) : wpAny (model prog w) A (Frozenset.sizeOf a) Q E s := by
  obtain ⟨o, es, ep, t, ho, hx, hd, hg, hnd, hm, hb, hf, hn, _⟩ := ra
  unfold Frozenset.sizeOf
  refine wpAny_bind (wpAny_setEntries_of ho hd hf ?_)
  rw [← hn] at h
  exact wpAny_pure h
theorem wp_subset {id : String} (ra : SetR w s.heap a S m) (rb : SetR w s.heap b T n) (hmn : ¬ m > n) {r : Bool} (hr : r = true ↔ ∀ k, S k = true → T k = true) {Q : Bool → Shared → Prop} (h : Q r s) :
    wpAny (model prog w) A (subsetOf id a b) Q E s := by
  unfold subsetOf
  refine wpAny_bind (wp_size ra ?_)
  refine wpAny_bind (wp_size rb ?_)
  rw [if_neg hmn]
  have ra' := ra
  obtain ⟨o, es, ep, t, ho, hx, hd, hg, hnd, hm, hb, hf, hn, _⟩ := ra'
  refine wpAny_bind (wpAny_setEpoch_of ho hd hf ?_)
  refine wpAny_bind (wp_unseen ra rb fun o' es' ep' t' ho' hd' hf' hg' hm' => ?_)
  rw [ho] at ho'
  cases ho'
  rw [hd] at hd'
  cases hd'
  refine wpAny_bind ?_
  refine wpAny_forIn_list _ (fun rest st s' => s' = s ∧ (∀ e ∈ rest, GoodE e) ∧ ((st.1 = none ∧ (r = true ↔ ∀ e ∈ rest, T (keyOf e) = true)))) _ ?_ ?_ _ _ ⟨rfl, hg, rfl, ?_⟩
  · rintro ⟨hh, v⟩ rest st s' ⟨rfl, hall, hst, hrr⟩
    obtain ⟨k, tk, e1, e2⟩ := hall _ List.mem_cons_self
    have e1 : v = .int k tk := e1
    have e2 : hh = hashInt k := e2
    subst e1
    subst e2
    refine wpAny_bind (wpAny_holding (wpAny_setFind_of (knd := intKind prog w) (k := k) (intKind_is _ _ _ _) rfl rb.setOf fun q hq => ?_))
    have hk : keyOf (hashInt k, Value.int k tk) = k := rfl
    have hkr : (r = true ↔ T k = true ∧ ∀ e ∈ rest, T (keyOf e) = true) := by
      rw [hrr]
      constructor
      · intro z
        exact ⟨z _ List.mem_cons_self, fun e he => z e (List.mem_cons_of_mem _ he)⟩
      · rintro ⟨z1, z2⟩ e he
        rcases List.mem_cons.mp he with rfl | he
        · exact z1
        · exact z2 e he
    cases q with
    | none =>
      have hT : T k = false := by rw [← hq]; rfl
      rw [if_pos (show (none : Option Nat).isNone = true from rfl)]
      refine wpAny_pure ?_
      have er : r = false := by
        cases r with
        | false => rfl
        | true =>
          have := (hkr.mp rfl).1
          rw [hT] at this; cases this
      subst er
      exact wpAny_pure h
    | some j =>
      have hT : T k = true := by rw [← hq]; rfl
      rw [if_neg (show ¬ (some j).isNone = true from by simp)]
      refine wpAny_bind ?_
      unfold unchanged
      refine wpAny_bind (wpAny_setEpoch_of ho hd hf ?_)
      rw [if_neg (by simp)]
      refine wpAny_pure (wpAny_pure ⟨rfl, fun e he => hall e (List.mem_cons_of_mem _ he), rfl, ?_⟩)
      rw [hkr, hT]
      simp
  · rintro ⟨b1, b2⟩ s' ⟨rfl, _, hb1, hbr⟩
    simp only at hb1
    subst hb1
    have er : r = true := hbr.mpr fun e he => nomatch he
    subst er
    exact wpAny_pure h
  · rw [hr]
    constructor
    · intro z e he
      exact z _ ((hm _).mpr (List.mem_map_of_mem he))
    · intro z k hk
      obtain ⟨e, he, rfl⟩ := List.mem_map.mp ((hm k).mp hk)
      exact z e he
theorem wp_set_eq (ra : SetR w s.heap a S m) (rb : SetR w s.heap b T n) (hu : A.units < cLine) {r : Bool} (hr : r = true ↔ m = n ∧ ∀ k, S k = true → T k = true) {Q : Value → Shared → Prop} (h : Q (.bool r) s) :
    wpAny (model prog w) A (compareOp .Eq (.ref a) (.ref b)) Q E s := by
  have ta := (ra.setOf (P := prog)).typeIs
  have tb := (rb.setOf (P := prog)).typeIs
  refine wpAny_richCompare_same_room (op := .Eq) ta tb PySem.F.slot_set_eq (wpAny_call_entry PySem.F.slot_set_eq ta entry_set_eq ?_ (PySem.F.args_set_eq_2 _ _)) hu
  unfold Builtin.«frozenset.__eq__»
  show wpAny _ _ (slot1 "__eq__" ⟨[.ref a, .ref b], []⟩ >>= _) _ _ s
  refine wpAny_bind ?_
  unfold slot1 slotArgs
  simp only [List.isEmpty_nil, Bool.not_true, Bool.false_eq_true, ↓reduceIte, bind_assoc, List.length_nil, List.length_cons, bne_self_eq_false]
  refine wpAny_bind (wpAny_pure (wpAny_pure ?_))
  have any : ∀ {A' : Around} {Q' : Bool → Shared → Prop}, Q' true s → wpAny (model prog w) A' (isAnySet (.ref b)) Q' (fun e s' => E e s') s := fun {A' Q'} q => by
    unfold isAnySet orM
    refine wpAny_bind (wpAny_isInstance tb F.sub_set_set ?_)
    exact wpAny_pure q
  refine wpAny_bind (any ?_)
  rw [if_neg (by decide)]
  unfold addrOf
  refine wpAny_bind (wpAny_pure ?_)
  refine wpAny_bind (wpAny_pure ?_)
  refine wpAny_bind (wp_size ra ?_)
  refine wpAny_bind (wp_size rb ?_)
  by_cases hmn : m = n
  · rw [if_neg (by simp [hmn])]
    refine wpAny_bind ?_
    have fin : ∀ s', s' = s → wpAny (model prog w) A.in1 (isInstance (Value.ref a) (Value.type "frozenset") <&&> isInstance (Value.ref b) (Value.type "frozenset")) (fun r s' => r = false ∧ s' = s) E s := fun _ _ => by
      unfold andM
      refine wpAny_bind (wpAny_isInstance ta F.sub_set_frozenset ?_)
      exact wpAny_pure ⟨rfl, rfl⟩
    refine wpAny_bind (wpAny_mono (fin s rfl) ?_ (fun _ _ e => e))
    rintro q s' ⟨rfl, rfl⟩
    rw [if_neg (by decide)]
    have hr2 : r = true ↔ ∀ k, S k = true → T k = true := by rw [hr]; simp [hmn]
    refine wp_subset ra rb (by omega) hr2 ?_
    exact wpAny_pure ⟨_, rfl, (fun z => nomatch z), h⟩
  · rw [if_pos (by simpa using hmn)]
    have er : r = false := by
      cases r with
      | false => rfl
      | true => exact absurd (hr.mp rfl).1 hmn
    subst er
    refine wpAny_bind (wpAny_pure ?_)
    exact wpAny_pure ⟨_, rfl, (fun z => nomatch z), h⟩
end
end EV
end

section
set_option Elab.async false
set_option linter.all false
set_option autoImplicit false
set_option maxRecDepth 100000
/-! EvSet2: sets of numbers, over the layer. -/
namespace EV
open PySem PySem.Spec PyProof.Rows L2
theorem sub_len : ∀ {l m : List Int}, l.Nodup → (∀ x ∈ l, x ∈ m) → l.length ≤ m.length
  | [], m, _, _ => Nat.zero_le _
  | x :: l, m, h, k => by
    obtain ⟨h1, h2⟩ := List.nodup_cons.mp h
    have hx := k x List.mem_cons_self
    have e := List.length_erase_of_mem hx
    have : l.length ≤ (m.erase x).length := sub_len h2 fun y hy => by
      refine (List.mem_erase_of_ne fun z => h1 (by rw [← z]; exact hy)).mpr (k y (List.mem_cons_of_mem _ hy))
    have hp : 0 < m.length := List.length_pos_of_mem hx
    rw [List.length_cons]
    omega
theorem sub_back {l m : List Int} (hl : l.Nodup) (k : ∀ x ∈ l, x ∈ m) (e : m.length ≤ l.length) : ∀ x ∈ m, x ∈ l := by
  intro x hx
  refine Classical.byContradiction fun n => ?_
  have : (x :: l).length ≤ m.length := sub_len (List.nodup_cons.mpr ⟨n, hl⟩) fun y hy => by
    rcases List.mem_cons.mp hy with rfl | hy
    · exact hx
    · exact k y hy
  rw [List.length_cons] at this
  omega
theorem nodup_dedup : ∀ (k : Nat) (ns : List Int), ns.length ≤ k → ns.eraseDups.Nodup
  | _, [], _ => by simp
  | k + 1, x :: ns, h => by
    rw [List.eraseDups_cons]
    refine List.nodup_cons.mpr ⟨fun z => ?_, nodup_dedup k _ ?_⟩
    · rw [List.mem_eraseDups] at z
      have := (List.mem_filter.mp z).2
      simp at this
    · have := List.length_filter_le (fun b => !b == x) ns
      rw [List.length_cons] at h
      omega
theorem count_dedup {ns ks : List Int} (h : ks.Nodup) (hm : ∀ k, k ∈ ks ↔ k ∈ ns) : ks.length = ns.eraseDups.length := by
  have hd := nodup_dedup _ ns (Nat.le_refl _)
  have h1 : ks.length ≤ ns.eraseDups.length := sub_len h fun x hx => List.mem_eraseDups.mpr ((hm x).mp hx)
  have h2 : ns.eraseDups.length ≤ ks.length := sub_len hd fun x hx => (hm x).mpr (List.mem_eraseDups.mp hx)
  omega
theorem dedup_le (ns : List Int) : ns.eraseDups.length ≤ ns.length := sub_len (nodup_dedup _ ns (Nat.le_refl _)) fun x hx => List.mem_eraseDups.mp hx
theorem eqs_iff (ns ms : List Int) : eqsB ns ms = true ↔ ns.eraseDups.length = ms.eraseDups.length ∧ ∀ k, decide (k ∈ ns) = true → decide (k ∈ ms) = true := by
  unfold eqsB
  simp only [Bool.and_eq_true, List.all_eq_true, List.contains_iff_mem, decide_eq_true_eq]
  constructor
  · rintro ⟨h1, h2⟩
    exact ⟨count_dedup (nodup_dedup _ ns (Nat.le_refl _)) fun k => by rw [List.mem_eraseDups]; exact ⟨h1 k, h2 k⟩, h1⟩
  · rintro ⟨h1, h2⟩
    refine ⟨h2, fun k hk => ?_⟩
    have := sub_back (l := ns.eraseDups) (m := ms.eraseDups) (nodup_dedup _ ns (Nat.le_refl _)) (fun x hx => List.mem_eraseDups.mpr (h2 x (List.mem_eraseDups.mp hx))) (by omega) k (List.mem_eraseDups.mpr hk)
    exact List.mem_eraseDups.mp this
section
variable {X : Cx} {a : Expr} {ta : TE} {p2 q : Pos} {t : TE}
def tSetT (X : Cx) (ta : TE) : TE := fun σ H Q => ta σ H fun x H1 => ∃ (l : Addr) (ns : List Int), x = .ref l ∧ SqT X.K H1 l (ns.map V.int) ∧ ns.length ≤ 4000 ∧
  ∀ p, H1 p = none → Q (.ref p) (upd H1 p (SetO X.w p (fun j => decide (j ∈ ns)) ns.eraseDups.length))
theorem pe_setT (hc : X.calm = true) (hg : Gl X "set") (hm : X.mg "set" = none) (ha : PE X a ta) (na : starEach [a] X.env = (false, eval a X.env) :: starEach [] X.env) : PE X (.Call (.Name "set" p2) [a] [] q) (tSetT X ta) := by
  refine ⟨fun pins s σ H Q I h => ?_⟩
  refine Call_ (ld_blt I hg hm boot_set ?_)
  refine PyProof.Rows.callWith_type1 (PyProof.Rows.args_cons (thn (ha.run pins s σ H _ I h) fun v s1 ⟨x, H1, I1, r1, q1⟩ => PyProof.Rows.args_nil ?_) na) na rfl
  obtain ⟨l, ns, rfl, hq, hl, q1⟩ := q1
  cases r1
  obtain ⟨its, r, pl, hz⟩ := I1.tuple hq
  refine call_set_tupI ns (I1.ok.hd hc) pl (by simpa using r.ints) (by unfold scanBound; omega) fun h' tk c hS hle hk => ?_
  have ec : c = ns.eraseDups.length := by
    obtain ⟨o, es, ep, t, ho, hx, hd, hg, hnd, hmm, hb, hf, hn, _⟩ := hS
    rw [← hn, ← count_dedup hnd fun k => by rw [← hmm k]; simp]
    simp
  subst ec
  exact ⟨.ref _, upd H1 s1.heap.objs.size (SetO X.w s1.heap.objs.size (fun j => decide (j ∈ ns)) ns.eraseDups.length), I1.laid (t' := tk) hk (Nat.le_refl _) (setO_new hS), rfl, q1 _ (I1.hok.fresh (Nat.le_refl _))⟩
theorem cr_lenS : CallR X (.builtin "len") (fun xs H Q => ∃ (a : Addr) (S : Int → Bool) (n : Nat), xs = [.ref a] ∧ H a = some (SetO X.w a S n) ∧ n ≤ 4000 ∧ Q (.int n) H) := by
  intro pins s σ H xs us Q I r h
  obtain ⟨a, S, n, rfl, ha, hn4, q⟩ := h
  rw [Vals.ref1 r]
  obtain ⟨o, es, ep, t, ho, hx, hd, hg, hnd, hmm, hb, hf, hn, _⟩ := setO_get I ha
  exact call_len_set ho hx hd hf (by rw [hn]; omega) ⟨.int n, H, I.tok _, ⟨_, by rw [hn]⟩, q⟩
theorem or_seteq (hu : X.A.units < cLine) : OpR X (compareOp .Eq) (fun x y H Q => ∃ (a b : Addr) (S T : Int → Bool) (m n : Nat) (r : Bool), x = .ref a ∧ y = .ref b ∧ H a = some (SetO X.w a S m) ∧ H b = some (SetO X.w b T n) ∧ (r = true ↔ m = n ∧ ∀ k, S k = true → T k = true) ∧ Q (.bl r) H) := by
  intro pins s σ H x y v u Q I rx ry h
  obtain ⟨a, b, S, T, m, n, r, rfl, rfl, ha, hb, hr, q⟩ := h
  cases rx
  cases ry
  exact wp_set_eq (setO_get I ha) (setO_get I hb) hu hr ⟨.bl r, H, I, rfl, q⟩
end
section
variable {p : Par} {g : Glb} {n : Nat} {N : List Str}
variable {x : Fx} {X : Cx} {sc : Scope} {F : Addr → Prop} {σ : L2.St} {H H1 H2 : Hp} {ρ : Env} {s s1 s2 : DS} {own : List Nat} {k : Nat}
theorem intsOf_map : ∀ {xs : List D} {ns : List Int}, intsOf xs = some ns → xs = ns.map PyData.int
  | [], ns, h => by cases h; rfl
  | .int i :: r, ns, h => by
    unfold intsOf at h
    cases e : intsOf r with
    | none => rw [e] at h; cases h
    | some l =>
      rw [e] at h
      cases h
      rw [List.map_cons, ← intsOf_map e]
  | .none :: r, ns, h => by simp [intsOf] at h
  | .bool _ :: r, ns, h => by simp [intsOf] at h
  | .str _ :: r, ns, h => by simp [intsOf] at h
  | .list _ :: r, ns, h => by simp [intsOf] at h
  | .tuple _ :: r, ns, h => by simp [intsOf] at h
  | .dict _ :: r, ns, h => by simp [intsOf] at h
theorem RpA.intsV : ∀ {ns : List Int} {vs : List V}, RpA p F H vs (ns.map PyData.int) → vs = ns.map V.int
  | [], _, h => by cases h; rfl
  | n :: ns, _, h => by
    cases h with
    | cons h1 h2 =>
      cases h1
      rw [List.map_cons, ← RpA.intsV h2]
theorem setI_of {d : D} {ns : List Int} {v : V} (h : setI d = some ns) (r : Rk p true F H v d) : ∃ l, v = .ref l ∧ SqT p.K H l (ns.map V.int) ∧ ns.length ≤ 4000 := by
  unfold setI at h
  split at h
  · rename_i xs
    split at h
    · rename_i hl
      obtain ⟨a, vs, ex, na, ha, ra⟩ := r.tup
      have e := intsOf_map h
      subst e
      rw [RpA.intsV ra] at ha
      rw [List.length_map] at hl
      exact ⟨a, ex, ha, hl⟩
    · cases h
  · cases h
theorem case_lens (wf : Wf p g n) (ih : EOk p g n N own k) {m : Md} {a : E} {e : Expr} (ho : x.own = own) (hm : m ≠ .fresh) (h : (match asCall e with
      | some (w, [z]) => decide (w = ("len" : Str)) && gloB sc w && notStar z && (match asCall z with
        | some (y, [w]) => decide (y = ("set" : Str)) && gloB sc y && notStar w && chkE g N own k .borrow sc w a
        | _ => false)
      | _ => false) = true) (c : Cxt p n x N X sc) : PE X e (rE p x m (ev (cf p n) (.lens a))) := by
  split at h
  · rename_i w z ey
    simp only [Bool.and_eq_true, decide_eq_true_eq] at h
    obtain ⟨⟨⟨rfl, h2⟩, h3⟩, h5⟩ := h
    split at h5
    · rename_i y w ez
      simp only [Bool.and_eq_true, decide_eq_true_eq] at h5
      obtain ⟨⟨⟨rfl, h6⟩, h7⟩, h8⟩ := h5
      obtain ⟨pos, pos2, rfl⟩ := asCall_eq ey
      obtain ⟨pos3, pos4, rfl⟩ := asCall_eq ez
      have ps := PE.good (p := p) c.hK (pe_setT (p2 := pos3) (q := pos4) c.calm (c.gl h6) (by rw [c.hmg]; exact wf.blt _ (by decide +kernel)) (ih.e .borrow sc w a x X ho h8 c) (star_one h7))
      have ha := pa_cons ps pa_nil rfl
      refine PE.imp (pe_callB cr_lenS (c.gl h2) (by rw [c.hmg]; exact wf.blt _ (by decide +kernel)) (by decide +kernel) ha (by decide) (by decide) (star_one h3) rfl) fun σ H Q ⟨F, ρ, s, st, q⟩ => ?_
      unfold ev at q
      refine ⟨F, ρ, s, st, q.bnd.imp fun d s1 H1 er f1 d1 g1 q1 v rv => ?_⟩
      cases e2 : setI d with
      | none => rw [e2] at q1; exact q1.elim
      | some ns =>
        rw [e2] at q1
        have q1 : RO p x H1 (R.ok (PyData.int ns.eraseDups.length) s1) _ := q1
        obtain ⟨l, rfl, hs, hl⟩ := setI_of e2 rv
        refine ⟨l, ns, rfl, by rw [c.hK]; exact hs, hl, fun pp hp g2 => ?_⟩
        refine ⟨pp, _, _, rfl, upd_same, by have := dedup_le ns; omega, ?_⟩
        have sm := same_upd (o := SetO X.w pp (fun j => decide (j ∈ ns)) ns.eraseDups.length) hp
        exact (RO.ok (q1.mono (FrE.of sm)) (d1.same sm) g2) _ (relM.rp (.int _) hm)
    · cases h5
  · cases h
theorem case_eqs (wf : Wf p g n) (ih : EOk p g n N own k) {m : Md} {a b : E} {e : Expr} (ho : x.own = own) (hm : m ≠ .fresh) (h : (match asCmp e with
      | some (w, [.Eq], [z]) => notSet z && (match asCall w, asCall z with
        | some (y, [w]), some (y2, [w2]) => decide (y = ("set" : Str)) && decide (y2 = ("set" : Str)) && gloB sc y && notStar w && notStar w2 && chkE g N own k .borrow sc w a && chkE g N own k .borrow sc w2 b
        | _, _ => false)
      | _ => false) = true) (c : Cxt p n x N X sc) : PE X e (rE p x m (ev (cf p n) (.eqs a b))) := by
  split at h
  · rename_i y z ey
    simp only [Bool.and_eq_true] at h
    obtain ⟨h0, h⟩ := h
    split at h
    · rename_i n1 w n2 w2 e1 e2
      simp only [Bool.and_eq_true, decide_eq_true_eq] at h
      obtain ⟨⟨⟨⟨⟨⟨rfl, rfl⟩, h2⟩, h3⟩, h4⟩, h5⟩, h6⟩ := h
      obtain ⟨pos, rfl⟩ := asCmp_eq ey
      obtain ⟨pos3, pos4, rfl⟩ := asCall_eq e1
      obtain ⟨pos5, pos6, rfl⟩ := asCall_eq e2
      have hms : X.mg "set" = none := by rw [c.hmg]; exact wf.blt _ (by decide +kernel)
      have p1 := PE.good (p := p) c.hK (pe_setT (p2 := pos3) (q := pos4) c.calm (c.gl h2) hms (ih.e .borrow sc w a x X ho h5 c) (star_one h3))
      have p2 := PE.good (p := p) c.hK (pe_setT (p2 := pos5) (q := pos6) c.calm (c.gl h2) hms (ih.e .borrow sc w2 b x X ho h6 c) (star_one h4))
      refine PE.imp (pe_cmpR (or_seteq (by have := c.hu; omega)) p1 p2 (marks_not h0)) fun σ H Q ⟨F, ρ, s, st, q⟩ => ?_
      unfold ev at q
      refine ⟨F, ρ, s, st, q.bnd.imp fun d s1 H1 er f1 d1 g1 q1 v rv => ?_⟩
      cases e2 : setI d with
      | none => rw [e2] at q1; exact q1.elim
      | some ns =>
        rw [e2] at q1
        have q1 : RO p x H1 ((ev (cf p n) b ρ s1).bnd fun y s => R.lift ((setI y).map fun ms => PyData.bool (eqsB ns ms)) s) _ := q1
        obtain ⟨l, rfl, hs, hl⟩ := setI_of e2 rv
        refine ⟨l, ns, rfl, by rw [c.hK]; exact hs, hl, fun pp hp g2 => ?_⟩
        have sm := same_upd (o := SetO X.w pp (fun j => decide (j ∈ ns)) ns.eraseDups.length) hp
        have st1 := (st.step f1 d1 g1).step (FrE.of sm) (d1.same sm) g2
        have q1 := q1.mono (FrE.of sm)
        refine ⟨F, ρ, s1, st1, q1.bnd.imp fun d' s2 H2 _ f2 d2 g3 q2 u ru => ?_⟩
        cases e3 : setI d' with
        | none => rw [e3] at q2; exact q2.elim
        | some ms =>
          rw [e3] at q2
          have q2 : RO p x H2 (R.ok (PyData.bool (eqsB ns ms)) s2) _ := q2
          obtain ⟨l2, rfl, hs2, hl2⟩ := setI_of e3 ru
          refine ⟨l2, ms, rfl, by rw [c.hK]; exact hs2, hl2, fun pp2 hp2 g4 => ?_⟩
          have sm2 := same_upd (o := SetO X.w pp2 (fun j => decide (j ∈ ms)) ms.eraseDups.length) hp2
          have na : pp ≠ p.a0 := fun z => by rw [z] at hp; rw [d1.at0] at hp; cases hp
          refine ⟨pp, pp2, _, _, _, _, eqsB ns ms, rfl, rfl, sm2 _ _ (f2 _ _ upd_same na), upd_same, eqs_iff ns ms, ?_⟩
          exact (RO.ok (q2.mono (FrE.of sm2)) (d2.same sm2) g4) _ (relM.rp (.bl _) hm)
    · cases h
  · cases h
theorem bnd_assoc {α β γ : Type} (r : R α) (f : α → DS → R β) (h : β → DS → R γ) : (r.bnd f).bnd h = r.bnd fun a s => (f a s).bnd h := by cases r <;> rfl
theorem case_eqsT (wf : Wf p g n) (ih : EOk p g n N own k) {a b : E} {e : Expr} (ho : x.own = own) (h : (match asCmp e with
      | some (w, [.Eq], [z]) => notSet z && (match asCall w, asCall z with
        | some (y, [w]), some (y2, [w2]) => decide (y = ("set" : Str)) && decide (y2 = ("set" : Str)) && gloB sc y && notStar w && notStar w2 && chkE g N own k .borrow sc w a && chkE g N own k .borrow sc w2 b
        | _, _ => false)
      | _ => false) = true) (c : Cxt p n x N X sc) : PT X e (rT p x (ev (cf p n) (.eqs a b))) := by
  split at h
  · rename_i y z ey
    simp only [Bool.and_eq_true] at h
    obtain ⟨h0, h⟩ := h
    split at h
    · rename_i n1 w n2 w2 e1 e2
      simp only [Bool.and_eq_true, decide_eq_true_eq] at h
      obtain ⟨⟨⟨⟨⟨⟨rfl, rfl⟩, h2⟩, h3⟩, h4⟩, h5⟩, h6⟩ := h
      obtain ⟨pos, rfl⟩ := asCmp_eq ey
      obtain ⟨pos3, pos4, rfl⟩ := asCall_eq e1
      obtain ⟨pos5, pos6, rfl⟩ := asCall_eq e2
      have hms : X.mg "set" = none := by rw [c.hmg]; exact wf.blt _ (by decide +kernel)
      have p1 := PE.good (p := p) c.hK (pe_setT (p2 := pos3) (q := pos4) c.calm (c.gl h2) hms (ih.e .borrow sc w a x X ho h5 c) (star_one h3))
      have p2 := PE.good (p := p) c.hK (pe_setT (p2 := pos5) (q := pos6) c.calm (c.gl h2) hms (ih.e .borrow sc w2 b x X ho h6 c) (star_one h4))
      refine PT.imp (pt_cmpR (or_seteq (by have := c.hu; omega)) p1 p2 (marks_not h0)) fun σ H Q ⟨F, ρ, s, st, q⟩ => ?_
      unfold ev at q
      rw [bnd_assoc] at q
      refine ⟨F, ρ, s, st, q.bnd.imp fun d s1 H1 er f1 d1 g1 q1 v rv => ?_⟩
      cases e2 : setI d with
      | none => rw [e2] at q1; exact q1.elim
      | some ns =>
        rw [e2] at q1
        have q1 : RO p x H1 (((ev (cf p n) b ρ s1).bnd fun y s => R.lift ((setI y).map fun ms => PyData.bool (eqsB ns ms)) s).bnd boolR) _ := q1
        rw [bnd_assoc] at q1
        obtain ⟨l, rfl, hs, hl⟩ := setI_of e2 rv
        refine ⟨l, ns, rfl, by rw [c.hK]; exact hs, hl, fun pp hp g2 => ?_⟩
        have sm := same_upd (o := SetO X.w pp (fun j => decide (j ∈ ns)) ns.eraseDups.length) hp
        have st1 := (st.step f1 d1 g1).step (FrE.of sm) (d1.same sm) g2
        have q1 := q1.mono (FrE.of sm)
        refine ⟨F, ρ, s1, st1, q1.bnd.imp fun d' s2 H2 _ f2 d2 g3 q2 u ru => ?_⟩
        cases e3 : setI d' with
        | none => rw [e3] at q2; exact q2.elim
        | some ms =>
          rw [e3] at q2
          have q2 : RO p x H2 (R.ok (eqsB ns ms) s2) _ := q2
          obtain ⟨l2, rfl, hs2, hl2⟩ := setI_of e3 ru
          refine ⟨l2, ms, rfl, by rw [c.hK]; exact hs2, hl2, fun pp2 hp2 g4 => ?_⟩
          have sm2 := same_upd (o := SetO X.w pp2 (fun j => decide (j ∈ ms)) ms.eraseDups.length) hp2
          have na : pp ≠ p.a0 := fun z => by rw [z] at hp; rw [d1.at0] at hp; cases hp
          refine ⟨pp, pp2, _, _, _, _, eqsB ns ms, rfl, rfl, sm2 _ _ (f2 _ _ upd_same na), upd_same, eqs_iff ns ms, _, rfl, ?_⟩
          exact RO.ok (q2.mono (FrE.of sm2)) (d2.same sm2) g4
    · cases h
  · cases h
end
end EV
end

section
set_option Elab.async false
set_option linter.all false
set_option autoImplicit false
set_option maxRecDepth 100000
/-! EvMain4: tests; what a for walks; targets. -/
namespace EV
open PySem PySem.Spec PyProof.Rows L2

section
variable {p : Par} {g : Glb} {n : Nat} {N : List Str}
variable {x : Fx} {X : Cx} {sc : Scope} {F : Addr → Prop} {σ : L2.St} {H H1 H2 : Hp} {ρ : Env} {s s1 s2 : DS} {own : List Nat} {k : Nat}
theorem PB.ofT {o : Option Bool} {Q : Bool → Hp → Prop} (h : RO p x H1 ((R.lift (o.map PyData.bool) s).bnd boolR) fun b _ H2 => Q b H2) (d : Dr p H1 s) (g : Good p H1) : ∃ b, o = some b ∧ Q b H1 := by
  cases o with
  | none => exact h.elim
  | some b => exact ⟨b, rfl, RO.ok (a := b) h d g⟩
theorem case_t (wf : Wf p g n) (ih : EOk p g n N own k) {e : Expr} {e' : E} (ho : x.own = own) (h : chkT g N own (k + 1) sc e e' = true) (c : Cxt p n x N X sc) : PT X e (rT p x (ev (cf p n) e')) := by
  unfold chkT at h
  split at h
  · rename_i a
    split at h
    · rename_i y ey
      obtain ⟨pos, rfl⟩ := asUn_eq ey
      refine PT.imp (pt_not (ih.t sc y a x X ho h c)) fun σ H Q ⟨F, ρ, s, st, q⟩ => ?_
      unfold ev at q
      refine ⟨F, ρ, s, st, ?_⟩
      have q' : RO p x H (((ev (cf p n) a ρ s).bnd boolR).bnd fun k s => .ok (!k) s) fun b _ H' => Q b H' := by
        cases r : ev (cf p n) a ρ s with
        | ok d s1 => rw [r] at q; cases d <;> exact q
        | err xn s1 => rw [r] at q; exact q
        | stuck => rw [r] at q; exact q
      exact q'.bnd.imp fun b s1 H1 _ f1 d1 g1 q1 => RO.ok (a := !b) q1 d1 g1
    · cases h
  · split at h
    · rename_i a b es ey
      obtain ⟨pos, rfl⟩ := asBool_eq ey
      exact ⟨fun pins s σ H Q I q => (ih.tb .And sc es _ x X pos ho h c).run _ pins s σ H Q I q⟩
    · cases h
  · split at h
    · rename_i a b es ey
      obtain ⟨pos, rfl⟩ := asBool_eq ey
      exact ⟨fun pins s σ H Q I q => (ih.tb .Or sc es _ x X pos ho h c).run _ pins s σ H Q I q⟩
    · cases h
  · rename_i o a b
    split at h
    · rename_i y q z ey
      simp only [Bool.and_eq_true] at h
      obtain ⟨⟨⟨h1, h0⟩, h2⟩, h3⟩ := h
      obtain ⟨pos, rfl⟩ := asCmp_eq ey
      have h1 : copO o = q := by simpa [coB] using h1
      subst h1
      refine PT.imp (pt_cmpR (op_cmp c.hK c.hu o) (ih.e .borrow sc y a x X ho h2 c) (ih.e .borrow sc z b x X ho h3 c) (marks_not h0)) fun σ H Q ⟨F, ρ, s, st, q⟩ => ?_
      unfold ev at q
      rw [bnd_assoc] at q
      refine ⟨F, ρ, s, st, q.bnd.imp fun dx s1 H1 _ f1 d1 g1 q1 v rv => ⟨F, ρ, s1, st.step f1 d1 g1, ?_⟩⟩
      rw [bnd_assoc] at q1
      refine q1.bnd.imp fun dy s2 H2 _ f2 d2 g2 q2 u ru => ?_
      obtain ⟨b, eb, q3⟩ := PB.ofT q2 d2 g2
      exact ⟨F, dx, dy, Rk.fr rv f2 st.fa, ru, by rw [eb]; exact ⟨b, rfl, q3⟩⟩
    · cases h
  · rename_i o o2 a b d
    split at h
    · rename_i y q r z w ey
      simp only [Bool.and_eq_true] at h
      obtain ⟨⟨⟨⟨⟨⟨h1, h1'⟩, h0⟩, h0'⟩, h2⟩, h3⟩, h4⟩ := h
      obtain ⟨pos, rfl⟩ := asCmp_eq ey
      have h1 : copO o = q := by simpa [coB] using h1
      have h1' : copO o2 = r := by simpa [coB] using h1'
      subst h1 h1'
      refine PT.imp (pt_chain (op_cmp c.hK c.hu o) (op_cmp c.hK c.hu o2) (ih.e .borrow sc y a x X ho h2 c) (ih.e .borrow sc z b x X ho h3 c) (ih.e .borrow sc w d x X ho h4 c) (by show behindInMarks _ w = false; exact marks_not h0')) fun σ H Q ⟨F, ρ, s, st, q⟩ => ?_
      unfold ev at q
      rw [bnd_assoc] at q
      refine ⟨F, ρ, s, st, q.bnd.imp fun dx s1 H1 _ f1 d1 g1 q1 v rv => ⟨F, ρ, s1, st.step f1 d1 g1, ?_⟩⟩
      rw [bnd_assoc] at q1
      refine q1.bnd.imp fun dy s2 H2 _ f2 d2 g2 q2 u ru => ⟨F, dx, dy, Rk.fr rv f2 st.fa, ru, ?_⟩
      have t2 := (st.step f1 d1 g1).step f2 d2 g2
      rw [bnd_assoc] at q2
      obtain ⟨kk, e1, q3⟩ := q2.bnd.lift d2 g2
      rw [e1]
      refine ⟨kk, rfl, ?_⟩
      cases kk with
      | false => exact ⟨false, rfl, RO.ok (a := false) q3 d2 g2⟩
      | true =>
        have q3 : RO p x H2 (((ev (cf p n) d ρ s2).bnd fun z s => R.lift ((cmpD o2 dy z).map PyData.bool) s).bnd boolR) fun b _ H' => Q b H' := q3
        rw [bnd_assoc] at q3
        refine ⟨F, ρ, s2, t2, RO.imp (RO.bnd q3) fun dz s3 H3 _ f3 d3 g3 q4 w' rw' => ⟨F, dy, dz, Rk.fr ru f3 st.fa, rw', ?_⟩⟩
        obtain ⟨b, eb, q5⟩ := PB.ofT q4 d3 g3
        rw [eb]
        exact ⟨b, rfl, q5⟩
    · cases h
  · exact case_eqsT wf ih ho h c
  · simp only [Bool.and_eq_true] at h
    exact rT_of (pt_val (ih.e .strict sc e _ x X ho h.2 c) (notTest_ok h.1))

/-! ### what a for walks -/
theorem Wk.range {full : Bool} {tgt : Tg} {i : Int} {m : Nat} {J : It} (hJ : J = Itr i m) {ds : List D} (hd : ds = (List.range m).map fun k => PyData.int (i + (k : Nat))) : Wk p full tgt F H J ds := by
  subst hJ hd
  intro F2 H2 _ _ _ _
  refine ⟨fun j d e => ?_, ?_⟩
  · rw [List.getElem?_map] at e
    cases q : (List.range m)[j]? with
    | none => rw [q] at e; cases e
    | some t =>
      rw [q] at e
      cases e
      have hj : j < m := by
        have := (List.getElem?_eq_some_iff.mp q).1
        simpa using this
      rw [List.getElem?_range hj] at q
      cases q
      refine ⟨hj, fun v H3 y => ?_⟩
      obtain ⟨rfl, rfl⟩ := y
      exact ⟨Same.refl _, fun _ => RpG.of (.int _)⟩
  · show m ≤ _
    simp
theorem Wk.rangec {full : Bool} {tgt : Tg} {i c : Int} {m : Nat} {J : It} (hJ : J = Itc i c m) {ds : List D} (hd : ds = (List.range m).map fun k => PyData.int (i + (k : Nat) * c)) : Wk p full tgt F H J ds := by
  subst hJ hd
  intro F2 H2 _ _ _ _
  refine ⟨fun j d e => ?_, ?_⟩
  · rw [List.getElem?_map] at e
    cases q : (List.range m)[j]? with
    | none => rw [q] at e; cases e
    | some t =>
      rw [q] at e
      cases e
      have hj : j < m := by
        have := (List.getElem?_eq_some_iff.mp q).1
        simpa using this
      rw [List.getElem?_range hj] at q
      cases q
      refine ⟨hj, fun v H3 y => ?_⟩
      obtain ⟨rfl, rfl⟩ := y
      exact ⟨Same.refl _, fun _ => RpG.of (.int _)⟩
  · show m ≤ _
    simp
theorem Rp.to2 {F2 : Addr → Prop} {v : V} {d : D} {full : Bool} (h : Rp p F H v d) (k : ∀ a, F a → F2 a) (nw : ∀ a, F2 a → ¬ F a → H a = none) (ft : FT F2 H2) (g : Good p H2) (fa : F p.a0) (hh : ∀ a o, H a = some o → (if full = true then a ≠ p.a0 else ¬ F a) → H2 a = some o) : Rp p F2 H2 v d := by
  refine h.to (fun a o e n => hh a o e ?_) fun a q n f2 => ?_
  · cases full with
    | true => exact fun z => n (z ▸ fa)
    | false => exact n
  · rcases q with q | q
    · exact q (nw a f2 n)
    · cases e : H2 a with
      | none => exact ft a f2 e
      | some o => exact q (g a o e)
theorem RpA.to2 {F2 : Addr → Prop} {v : List V} {d : List D} {full : Bool} (h : RpA p F H v d) (k : ∀ a, F a → F2 a) (nw : ∀ a, F2 a → ¬ F a → H a = none) (ft : FT F2 H2) (g : Good p H2) (fa : F p.a0) (hh : ∀ a o, H a = some o → (if full = true then a ≠ p.a0 else ¬ F a) → H2 a = some o) : RpA p F2 H2 v d := by
  induction d generalizing v with
  | nil => cases h; exact .nil
  | cons d ds ih =>
    cases h with
    | cons h1 h2 => exact .cons (h1.to2 k nw ft g fa hh) (ih h2)
theorem ndr {full : Bool} (fa : F p.a0) {a : Addr} (n : ¬ F a) : (if full = true then a ≠ p.a0 else ¬ F a) := by
  cases full with
  | true => exact fun z => n (z ▸ fa)
  | false => exact n
theorem fr_upd {T : Addr} {o : HO} {G : Addr → Prop} {v : V} {d : D} (ht : H T = none) (h : Rp p G H v d) : Rp p G (upd H T o) v d := h.fr fun a u e _ => same_upd ht a u e
/-- a list -/
theorem Wk.lst {full : Bool} {tgt : Tg} {a : Addr} {vs : List V} {ds : List D} (fa : F p.a0) (ha : H a = some (.lst vs)) (hf : if full = true then a ≠ p.a0 else ¬ F a) (ra : RpA p F H vs ds) : Wk p full tgt F H (Itl p.K a) ds := by
  intro F2 H2 k nw ft hh
  have hl : SqL p.K H2 a vs := SqL.of (hh a _ ha hf)
  refine ⟨fun i d e => ?_, vs, hl, by rw [ra.len]; exact Nat.le_refl _⟩
  obtain ⟨v, ev, rv⟩ := ra.get e
  refine ⟨⟨vs, v, hl, ev⟩, fun w H3 y => ?_⟩
  obtain ⟨rfl, y⟩ := y
  have e2 := y vs hl
  rw [ev] at e2; cases e2
  exact ⟨Same.refl _, fun g => RpG.of (rv.to2 k nw ft g fa hh)⟩
theorem Wk.tup {full : Bool} {tgt : Tg} {a : Addr} {vs : List V} {ds : List D} (fa : F p.a0) (ha : SqT p.K H a vs) (hf : ¬ F a) (ra : RpA p F H vs ds) : Wk p full tgt F H (Itt p.K a) ds := by
  intro F2 H2 k nw ft hh
  have hl : SqT p.K H2 a vs := SqT.fr ha fun o e => hh a o e (ndr fa hf)
  refine ⟨fun i d e => ?_, vs, hl, by rw [ra.len]; exact Nat.le_refl _⟩
  obtain ⟨v, ev, rv⟩ := ra.get e
  refine ⟨⟨vs, v, hl, ev⟩, fun w H3 y => ?_⟩
  obtain ⟨rfl, y⟩ := y
  have e2 := y vs hl
  rw [ev] at e2; cases e2
  exact ⟨Same.refl _, fun g => RpG.of (rv.to2 k nw ft g fa hh)⟩
theorem enumD_len : ∀ (i : Nat) (ds : List D), (enumD i ds).length = ds.length
  | _, [] => rfl
  | i, _ :: ds => by simp [enumD, enumD_len (i + 1) ds]
theorem enumD_get : ∀ {ds : List D} {i j : Nat} {d : D}, (enumD i ds)[j]? = some d → ∃ e, ds[j]? = some e ∧ d = .tuple [.int ((i + j : Nat) : Int), e]
  | [], i, j, d, h => by simp [enumD] at h
  | e :: ds, i, 0, d, h => by simp [enumD] at h; exact ⟨e, rfl, by rw [← h]; rfl⟩
  | e :: ds, i, j + 1, d, h => by
    simp only [enumD, List.getElem?_cons_succ] at h
    obtain ⟨e', h1, h2⟩ := enumD_get h
    exact ⟨e', by simpa using h1, by rw [h2]; congr 3; omega⟩
theorem Wk.enum {full : Bool} {tgs : Tg} {J : It} {a : Addr} {vs : List V} {ds : List D} (fa : F p.a0) (ra : RpA p F H vs ds) (hJ : (J = Ite p.K a ∧ H a = some (.lst vs) ∧ (if full = true then a ≠ p.a0 else ¬ F a)) ∨ (J = IteT p.K a ∧ SqT p.K H a vs ∧ ¬ F a)) : Wk p full (.tup tgs) F H J (enumD 0 ds) := by
  intro F2 H2 k nw ft hh
  have pair : ∀ {T : Addr} {i : Nat} {v : V} {d : D}, H2 T = none → Rp p F H v d → Good p (upd H2 T (.tup [.int (i : Nat), v])) → RpI p F2 (upd H2 T (.tup [.int (i : Nat), v])) (.ref T) (.tuple [.int ((0 + i : Nat) : Int), d]) := fun {T i v d} ht rv g => by
    rw [Nat.zero_add]
    have g2 : Good p H2 := fun b o e => g b o (same_upd ht b o e)
    exact .inr ⟨_, _, _, rfl, rfl, (fun f => ft T f ht), SqT.of upd_same, (.cons (.int _) (.cons (fr_upd ht (rv.to2 k nw ft g2 fa hh)) .nil))⟩
  rcases hJ with ⟨rfl, ha, hf⟩ | ⟨rfl, ha, hf⟩
  · have hl : SqL p.K H2 a vs := SqL.of (hh a _ ha hf)
    refine ⟨fun i d e => ?_, vs, hl, by rw [ra.len, enumD_len]; exact Nat.le_refl _⟩
    obtain ⟨d', e1, rfl⟩ := enumD_get e
    obtain ⟨v, ev, rv⟩ := ra.get e1
    refine ⟨⟨vs, v, hl, ev⟩, fun w H3 y => ?_⟩
    obtain ⟨T, v', rfl, ht, rfl, y⟩ := y
    have e2 := y vs hl
    rw [ev] at e2; cases e2
    exact ⟨same_upd ht, fun g => pair ht rv g⟩
  · have hl : SqT p.K H2 a vs := SqT.fr ha fun o e => hh a o e (ndr fa hf)
    refine ⟨fun i d e => ?_, vs, hl, by rw [ra.len, enumD_len]⟩
    obtain ⟨d', e1, rfl⟩ := enumD_get e
    obtain ⟨v, ev, rv⟩ := ra.get e1
    refine ⟨⟨vs, v, hl, ev⟩, fun w H3 y => ?_⟩
    obtain ⟨T, v', rfl, ht, rfl, y⟩ := y
    have e2 := y vs hl
    rw [ev] at e2; cases e2
    exact ⟨same_upd ht, fun g => pair ht rv g⟩
theorem zipD_len : ∀ (xs ys : List D), (zipD xs ys).length = min xs.length ys.length
  | [], _ => by simp [zipD]
  | _ :: _, [] => by simp [zipD]
  | x :: xs, y :: ys => by simp [zipD, zipD_len xs ys]
theorem zipD_get : ∀ {xs ys : List D} {j : Nat} {d : D}, (zipD xs ys)[j]? = some d → ∃ e f, xs[j]? = some e ∧ ys[j]? = some f ∧ d = .tuple [e, f]
  | [], _, j, d, h => by simp [zipD] at h
  | _ :: _, [], j, d, h => by simp [zipD] at h
  | x :: xs, y :: ys, 0, d, h => by simp [zipD] at h; exact ⟨x, y, rfl, rfl, h.symm⟩
  | x :: xs, y :: ys, j + 1, d, h => by
    simp only [zipD, List.getElem?_cons_succ] at h
    obtain ⟨e, f, h1, h2, h3⟩ := zipD_get h
    exact ⟨e, f, by simpa using h1, by simpa using h2, h3⟩
theorem Wk.zip {full : Bool} {tgs : Tg} {J : It} {a b : Addr} {vs ws : List V} {ds es : List D} (fa : F p.a0) (ra : RpA p F H vs ds) (rb : RpA p F H ws es)
    (hJ : (J = Itz p.K a b ∧ (H a = some (.lst vs) ∧ (if full = true then a ≠ p.a0 else ¬ F a)) ∧ (H b = some (.lst ws) ∧ (if full = true then b ≠ p.a0 else ¬ F b))) ∨ (J = RZ.ItzT p.K a b ∧ (SqT p.K H a vs ∧ ¬ F a) ∧ (SqT p.K H b ws ∧ ¬ F b))) : Wk p full (.tup tgs) F H J (zipD ds es) := by
  intro F2 H2 k nw ft hh
  have pair : ∀ {T : Addr} {v w : V} {d e : D}, H2 T = none → Rp p F H v d → Rp p F H w e → Good p (upd H2 T (.tup [v, w])) → RpI p F2 (upd H2 T (.tup [v, w])) (.ref T) (.tuple [d, e]) := fun {T v w d e} ht rv rw' g => by
    have g2 : Good p H2 := fun b o e => g b o (same_upd ht b o e)
    exact .inr ⟨_, _, _, rfl, rfl, (fun f => ft T f ht), SqT.of upd_same, (.cons (fr_upd ht (rv.to2 k nw ft g2 fa hh)) (.cons (fr_upd ht (rw'.to2 k nw ft g2 fa hh)) .nil))⟩
  have stop : vs.length ≤ (zipD ds es).length ∨ ws.length ≤ (zipD ds es).length := by
    rw [zipD_len, ra.len, rb.len]
    omega
  rcases hJ with ⟨rfl, ⟨ha, hf⟩, hb, hg⟩ | ⟨rfl, ⟨ha, hf⟩, hb, hg⟩
  · have hl : SqL p.K H2 a vs := SqL.of (hh a _ ha hf)
    have hm : SqL p.K H2 b ws := SqL.of (hh b _ hb hg)
    refine ⟨fun i d e => ?_, vs, ws, hl, hm, stop⟩
    obtain ⟨d1, d2, e1, e2, rfl⟩ := zipD_get e
    obtain ⟨v, ev, rv⟩ := ra.get e1
    obtain ⟨w, ew, rw'⟩ := rb.get e2
    refine ⟨⟨vs, ws, v, w, hl, hm, ev, ew⟩, fun u H3 y => ?_⟩
    obtain ⟨T, v', w', rfl, ht, rfl, y1, y2⟩ := y
    have e3 := y1 vs hl
    rw [ev] at e3; cases e3
    have e3 := y2 ws hm
    rw [ew] at e3; cases e3
    exact ⟨same_upd ht, fun g => pair ht rv rw' g⟩
  · have hl : SqT p.K H2 a vs := SqT.fr ha fun o e => hh a o e (ndr fa hf)
    have hm : SqT p.K H2 b ws := SqT.fr hb fun o e => hh b o e (ndr fa hg)
    refine ⟨fun i d e => ?_, vs, ws, hl, hm, stop⟩
    obtain ⟨d1, d2, e1, e2, rfl⟩ := zipD_get e
    obtain ⟨v, ev, rv⟩ := ra.get e1
    obtain ⟨w, ew, rw'⟩ := rb.get e2
    refine ⟨⟨vs, ws, v, w, hl, hm, ev, ew⟩, fun u H3 y => ?_⟩
    obtain ⟨T, v', w', rfl, ht, rfl, y1, y2⟩ := y
    have e3 := y1 vs hl
    rw [ev] at e3; cases e3
    have e3 := y2 ws hm
    rw [ew] at e3; cases e3
    exact ⟨same_upd ht, fun g => pair ht rv rw' g⟩

theorem relM_lst {m : Md} {v : V} {ds : List D} (hm : m ≠ .fresh) (fa : F p.a0) (h : relM p m F H H1 v (.list ds)) : ∃ a vs, v = .ref a ∧ H1 a = some (.lst vs) ∧ (if fullM m = true then a ≠ p.a0 else ¬ F a) ∧ RpA p F H1 vs ds := by
  cases m with
  | strict =>
    cases (show Rp p F H1 v (.list ds) from h) with
    | lst n hs ha => exact ⟨_, _, rfl, hs, n, ha⟩
  | borrow =>
    rcases (show Rk p true F H1 v (.list ds) from h) with h | ⟨_, a, vs, ds', rfl, e, na, h1, h2⟩
    · cases h with
      | lst n hs ha => exact ⟨_, _, rfl, hs, fun z => n (z ▸ fa), ha⟩
    · cases e
      exact ⟨a, vs, rfl, h1, na, h2⟩
  | fresh => exact absurd rfl hm
theorem relM_tup {m : Md} {v : V} {ds : List D} (hm : m ≠ .fresh) (h : relM p m F H H1 v (.tuple ds)) : ∃ a vs, v = .ref a ∧ ¬ F a ∧ SqT p.K H1 a vs ∧ RpA p F H1 vs ds := by
  cases m with
  | strict =>
    cases (show Rp p F H1 v (.tuple ds) from h) with
    | tup n hs _ ha => exact ⟨_, _, rfl, n, hs, ha⟩
  | borrow => exact Rk.tup (show Rk p true F H1 v (.tuple ds) from h)
  | fresh => exact absurd rfl hm
/-- a list or a tuple, walked -/
theorem i_seq {tgt : Tg} {m : Md} {e tg : Expr} {f : Env → DS → R D} (hK : X.K = p.K) (hm : m ≠ .fresh) (h : PE X e (rE p x m f)) : PI X tg e (rI p x m tgt fun ρ s => (f ρ s).bnd fun d s => R.lift (itemsD d) s) := by
  refine PI.imp (pi_seq h) fun σ H Q ⟨F, ρ, s, st, q⟩ => ⟨F, ρ, s, st, q.bnd.imp fun d s1 H1 _ f1 d1 g1 q1 v rv => ?_⟩
  obtain ⟨ds, e1, q2⟩ := q1.lift d1 g1
  rw [hK]
  cases d with
  | list xs =>
    cases e1
    obtain ⟨a, vs, rfl, ha, hf, ra⟩ := relM_lst hm st.fa rv
    exact ⟨a, vs, rfl, .inl ⟨SqL.of ha, q2 _ (Wk.lst st.fa ha hf ra)⟩⟩
  | tuple xs =>
    cases e1
    obtain ⟨a, vs, rfl, hf, ha, ra⟩ := relM_tup hm rv
    exact ⟨a, vs, rfl, .inr ⟨ha, q2 _ (Wk.tup st.fa ha hf ra)⟩⟩
  | _ => cases e1
theorem relM.fr {m : Md} {v : V} {d : D} (hm : m ≠ .fresh) (h : relM p m F H H1 v d) (k : FrE p H1 H2) (fa : F p.a0) : relM p m F H H2 v d := by
  cases m with
  | strict => exact Rp.fr (show Rp p F H1 v d from h) (k.nf fa)
  | borrow => exact Rk.fr (show Rk p true F H1 v d from h) k fa
  | fresh => exact absurd rfl hm
theorem case_i (wf : Wf p g n) (ih : EOk p g n N own k) {m : Md} {e : Expr} {e' : E} {tg : Expr} {tg' : Tg} {k' : Nat} {sct : Scope} (hm : m ≠ .fresh) (ht : chkTg N sct k' tg tg' = true) (hti : tgI tg' e' = true) (ho : x.own = own) (h : chkI g N own (k + 1) m sc e e' = true) (c : Cxt p n x N X sc) : PI X tg e (rI p x m tg' (evI (cf p n) e')) := by
  have tup : ∀ ts, tg' = .tup ts → ∃ es kk pos, tg = .Tuple es kk pos := fun ts e1 => by
    subst e1
    cases k' with
    | zero => simp [chkTg] at ht
    | succ k' =>
      unfold chkTg at ht
      split at ht
      · rename_i es ey
        obtain ⟨kk, pos, rfl⟩ := asTup_eq ey
        exact ⟨es, kk, pos, rfl⟩
      · cases ht
  unfold chkI at h
  split at h
  · rename_i as
    split at h
    · rename_i z z1 zs ez
      simp only [Bool.and_eq_true, decide_eq_true_eq] at h
      obtain ⟨⟨⟨⟨rfl, h3⟩, h4⟩, h5⟩, h6⟩ := h
      obtain ⟨p1, p2, rfl⟩ := asCall_eq ez
      obtain ⟨hs, ha⟩ := ih.a .borrow sc (z1 :: zs) as x X (by simp) ho h6 c
      have hs1 : notStar z1 = true ∧ zs.all notStar = true := by simpa using hs
      have hb : X.mg "range" = none := by rw [c.hmg]; exact wf.blt _ (by decide +kernel)
      cases zs with
      | nil =>
        refine PI.imp (pi_range1 (c.gl h3) hb ha (star_one hs1.1)) fun σ H Q ⟨F, ρ, s, st, q⟩ => ?_
        unfold evI at q
        refine ⟨F, ρ, s, st, q.bnd.imp fun ds s1 H1 er f1 d1 g1 q1 vs rv => ?_⟩
        have l2 := evA_len k h6 er
        obtain ⟨ys, e1, q2⟩ := q1.lift d1 g1
        obtain ⟨j, rfl, hj1, hj2, ey⟩ := range_one e1 (by simpa using l2)
        obtain ⟨v, rfl, rv1⟩ := RkA.one (show RkA p true F H1 vs [.int j] from rv)
        have e2 := rv1.int
        subst e2
        have hj1 : -(1000000 : Int) ≤ j := hj1
        have hj2 : j ≤ 1000000 := hj2
        exact ⟨j, rfl, by omega, by omega, q2 _ (Wk.range rfl (by rw [ey]; simp))⟩
      | cons z2 zs =>
        cases zs with
        | cons z3 zs =>
          cases zs with
          | cons _ _ => simp at h5
          | nil =>
            have hs2 : notStar z2 = true ∧ notStar z3 = true := by simpa using hs1.2
            refine PI.imp (pi_range3 (c.gl h3) hb ha (by rw [star_one hs1.1] <;> rfl) (by rw [star_one hs2.1, star_one hs2.2] <;> rfl)) fun σ H Q ⟨F, ρ, s, st, q⟩ => ?_
            unfold evI at q
            refine ⟨F, ρ, s, st, q.bnd.imp fun ds s1 H1 er f1 d1 g1 q1 vs rv => ?_⟩
            have l2 := evA_len k h6 er
            obtain ⟨ys, e1, q2⟩ := q1.lift d1 g1
            obtain ⟨i, j, rfl, hi, hj, ey⟩ := range_three e1 (by simpa using l2)
            obtain ⟨v, u, w, rfl, rv1, ru1, rw1⟩ : ∃ v u w, vs = [v, u, w] ∧ Rk p true F H1 v (.int i) ∧ Rk p true F H1 u (.int j) ∧ Rk p true F H1 w (.int (-1)) := by
              have rv : RkA p true F H1 vs [.int i, .int j, .int (-1)] := rv
              cases rv with
              | cons r1 rv => cases rv with
                | cons r2 rv => cases rv with
                  | cons r3 rv => cases rv; exact ⟨_, _, _, rfl, r1, r2, r3⟩
            have e2 := rv1.int
            have e3 := ru1.int
            have e4 := rw1.int
            subst e2 e3 e4
            have hi : -(1000000 : Int) ≤ i ∧ i ≤ 1000000 := hi
            have hj : -(1000000 : Int) ≤ j ∧ j ≤ 1000000 := hj
            exact ⟨i, j, -1, (i - j).toNat, rfl, RgC.neg (by omega) (by omega) (by omega) (by omega), q2 _ (Wk.rangec rfl ey)⟩
        | nil =>
          have hs2 : notStar z2 = true := by simpa using hs1.2
          refine PI.imp (pi_range2 (c.gl h3) hb ha (by rw [star_one hs1.1, star_one hs2]; rfl) (by rw [star_one hs2]; rfl)) fun σ H Q ⟨F, ρ, s, st, q⟩ => ?_
          unfold evI at q
          refine ⟨F, ρ, s, st, q.bnd.imp fun ds s1 H1 er f1 d1 g1 q1 vs rv => ?_⟩
          have l2 := evA_len k h6 er
          obtain ⟨ys, e1, q2⟩ := q1.lift d1 g1
          obtain ⟨i, j, rfl, hi, hj, ey⟩ := range_two e1 (by simpa using l2)
          obtain ⟨v, u, rfl, rv1, ru1⟩ := RkA.two (show RkA p true F H1 vs [.int i, .int j] from rv)
          have e2 := rv1.int
          have e3 := ru1.int
          subst e2 e3
          have hi : -(1000000 : Int) ≤ i ∧ i ≤ 1000000 := hi
          have hj : -(1000000 : Int) ≤ j ∧ j ≤ 1000000 := hj
          exact ⟨i, j, rfl, ⟨by omega, by omega, by omega, by omega⟩, q2 _ (Wk.range rfl ey)⟩
    · cases h
  · rename_i a b
    split at h
    · rename_i z y1 y2 ez
      simp only [Bool.and_eq_true, decide_eq_true_eq] at h
      obtain ⟨⟨⟨⟨⟨rfl, h3⟩, h4⟩, h5⟩, h6⟩, h7⟩ := h
      obtain ⟨p1, p2, rfl⟩ := asCall_eq ez
      have hb : X.mg "zip" = none := by rw [c.hmg]; exact wf.blt _ (by decide +kernel)
      cases tg' with
      | tup ts =>
        obtain ⟨es, kk, pos, rfl⟩ := tup ts rfl
        refine PI.imp (RZ.pi_zipA (c.gl h3) hb (pa_cons (ih.e m sc y1 a x X ho h6 c) (pa_cons (ih.e m sc y2 b x X ho h7 c) pa_nil (star_one h5)) (star_one h4)) (star_one h4) (by rw [star_one h5]; rfl)) fun σ H Q ⟨F, ρ, s, st, q⟩ => ?_
        unfold evI at q
        rw [c.hK]
        refine ⟨F, ρ, s, st, q.bnd.imp fun d s1 H1 er f1 d1 g1 q1 v rv => ⟨F, ρ, s1, st.step f1 d1 g1, q1.bnd.imp fun e s2 H2 er2 f2 d2 g2 q2 w rw' => ?_⟩⟩
        obtain ⟨ys, e1, q3⟩ := q2.lift d2 g2
        have rv := relM.fr hm rv f2 st.fa
        have rw' : relM p m F H1 H2 w e := rw'
        cases d with
        | list xs =>
          cases e with
          | list ys' =>
            cases e1
            obtain ⟨a1, vs, rfl, ha, hf, ra⟩ := relM_lst hm st.fa rv
            obtain ⟨b1, ws, rfl, hb1, hg, rb⟩ := relM_lst hm st.fa rw'
            exact ⟨a1, b1, vs, ws, rfl, .inl ⟨SqL.of ha, SqL.of hb1, q3 _ (Wk.zip st.fa ra rb (.inl ⟨rfl, ⟨ha, hf⟩, hb1, hg⟩))⟩⟩
          | _ => cases e1
        | tuple xs =>
          cases e with
          | tuple ys' =>
            cases e1
            obtain ⟨a1, vs, rfl, hf, ha, ra⟩ := relM_tup hm rv
            obtain ⟨b1, ws, rfl, hg, hb1, rb⟩ := relM_tup hm rw'
            exact ⟨a1, b1, vs, ws, rfl, .inr ⟨ha, hb1, q3 _ (Wk.zip st.fa ra rb (.inr ⟨rfl, ⟨ha, hf⟩, hb1, hg⟩))⟩⟩
          | _ => cases e1
        | _ => cases e1
      | _ => simp [tgI] at hti
    · cases h
  · rename_i a
    split at h
    · rename_i z y1 ez
      simp only [Bool.and_eq_true, decide_eq_true_eq] at h
      obtain ⟨⟨⟨rfl, h3⟩, h4⟩, h6⟩ := h
      obtain ⟨p1, p2, rfl⟩ := asCall_eq ez
      have hb : X.mg "enumerate" = none := by rw [c.hmg]; exact wf.blt _ (by decide +kernel)
      cases tg' with
      | tup ts =>
        obtain ⟨es, kk, pos, rfl⟩ := tup ts rfl
        refine PI.imp (pi_enumA (c.gl h3) hb (pa_cons (ih.e m sc y1 a x X ho h6 c) pa_nil (star_one h4)) (star_one h4)) fun σ H Q ⟨F, ρ, s, st, q⟩ => ?_
        unfold evI at q
        rw [c.hK]
        refine ⟨F, ρ, s, st, q.bnd.imp fun d s1 H1 er f1 d1 g1 q1 v rv => ?_⟩
        obtain ⟨ys, e1, q3⟩ := q1.lift d1 g1
        cases d with
        | list xs =>
          cases e1
          obtain ⟨a1, vs, rfl, ha, hf, ra⟩ := relM_lst hm st.fa rv
          exact ⟨a1, vs, rfl, .inl ⟨SqL.of ha, q3 _ (Wk.enum st.fa ra (.inl ⟨rfl, ha, hf⟩))⟩⟩
        | tuple xs =>
          cases e1
          obtain ⟨a1, vs, rfl, hf, ha, ra⟩ := relM_tup hm rv
          exact ⟨a1, vs, rfl, .inr ⟨ha, q3 _ (Wk.enum st.fa ra (.inr ⟨rfl, ha, hf⟩))⟩⟩
        | _ => cases e1
      | _ => simp [tgI] at hti
    · cases h
  · rename_i n1 n2 n3
    have q := i_seq (tg := tg) (tgt := tg') c.hK hm (ih.e m sc e e' x X ho h c)
    refine PI.imp q fun σ H Q ⟨F, ρ, s, st, q⟩ => ⟨F, ρ, s, st, ?_⟩
    cases e' with
    | rng as => exact absurd rfl (n1 as)
    | zip a b => exact absurd rfl (n2 a b)
    | enum a => exact absurd rfl (n3 a)
    | _ => unfold evI at q; exact q
end
end EV
end

section
set_option Elab.async false
set_option linter.all false
set_option autoImplicit false
set_option maxRecDepth 100000
/-! EvMain5: targets, comprehensions; all expressions. -/
namespace EV
open PySem PySem.Spec PyProof.Rows L2

section
variable {p : Par} {g : Glb} {n : Nat} {N : List Str}
variable {x : Fx} {X : Cx} {sc : Scope} {F : Addr → Prop} {σ : L2.St} {H H1 H2 : Hp} {ρ : Env} {s s1 s2 : DS} {own : List Nat} {k : Nat}

/-! ### a state with a slot set -/
theorem St.set (t : St p x F σ H ρ s) {i : Nat} {v : V} {d : D} (hi : i ∉ x.own) (r : Rp p F H v d) : St p x F (σ.set i (some v)) H (ρ.set i (some d)) s := by
  have out : ∀ {j : Nat} {e : D}, (ρ.set i (some d))[j]? = some (some e) → j = i ∧ e = d ∧ i < ρ.length ∨ j ≠ i ∧ ρ[j]? = some (some e) := fun {j e} h => by
    by_cases hij : i = j
    · subst hij
      by_cases hl : i < ρ.length
      · rw [List.getElem?_set_self hl] at h
        exact .inl ⟨rfl, (Option.some.inj (Option.some.inj h)).symm, hl⟩
      · rw [List.getElem?_eq_none (by simpa using hl)] at h; cases h
    · rw [List.getElem?_set_ne hij] at h
      exact .inr ⟨fun z => hij z.symm, h⟩
  refine ⟨by simp [t.len], fun j e h hj => ?_, fun j e h hj => ?_, fun j1 j2 e1 e2 a h1 h2 q1 q2 q3 q4 => ?_, t.dr, t.good, t.tr, t.fa, t.fc, t.sf, t.fr, t.th⟩
  · rcases out h with ⟨rfl, rfl, hl⟩ | ⟨hne, h⟩
    · exact ⟨v, List.getElem?_set_self (by rw [t.len]; exact hl), r⟩
    · rw [List.getElem?_set_ne (fun z => hne z.symm)]
      exact t.rel j e h hj
  · rcases out h with ⟨rfl, rfl, hl⟩ | ⟨hne, h⟩
    · exact absurd hj hi
    · rw [List.getElem?_set_ne (fun z => hne z.symm)]
      exact t.relO j e h hj
  · have n1 : j1 ≠ i := fun z => hi (z ▸ h1)
    have n2 : j2 ≠ i := fun z => hi (z ▸ h2)
    rw [List.getElem?_set_ne (fun z => n1 z.symm)] at q1 q3
    rw [List.getElem?_set_ne (fun z => n2 z.symm)] at q2 q4
    exact t.inj j1 j2 e1 e2 a h1 h2 q1 q2 q3 q4
/-- a slot forgotten -/
theorem St.unset (t : St p x F σ H ρ s) {i : Nat} (hi : i ∉ x.own) : St p x F (σ.set i none) H (ρ.set i none) s := by
  have out : ∀ {j : Nat} {e : D}, (ρ.set i none)[j]? = some (some e) → j ≠ i ∧ ρ[j]? = some (some e) := fun {j e} h => by
    by_cases hij : i = j
    · subst hij
      by_cases hl : i < ρ.length
      · rw [List.getElem?_set_self hl] at h; cases h
      · rw [List.getElem?_eq_none (by simpa using hl)] at h; cases h
    · rw [List.getElem?_set_ne hij] at h
      exact ⟨fun z => hij z.symm, h⟩
  refine ⟨by simp [t.len], fun j e h hj => ?_, fun j e h hj => ?_, fun j1 j2 e1 e2 a h1 h2 q1 q2 q3 q4 => ?_, t.dr, t.good, t.tr, t.fa, t.fc, t.sf, t.fr, t.th⟩
  · obtain ⟨hne, h⟩ := out h
    rw [List.getElem?_set_ne (fun z => hne z.symm)]
    exact t.rel j e h hj
  · obtain ⟨hne, h⟩ := out h
    rw [List.getElem?_set_ne (fun z => hne z.symm)]
    exact t.relO j e h hj
  · have n1 : j1 ≠ i := fun z => hi (z ▸ h1)
    have n2 : j2 ≠ i := fun z => hi (z ▸ h2)
    rw [List.getElem?_set_ne (fun z => n1 z.symm)] at q1 q3
    rw [List.getElem?_set_ne (fun z => n2 z.symm)] at q2 q4
    exact t.inj j1 j2 e1 e2 a h1 h2 q1 q2 q3 q4
theorem St.wipe (t : St p x F σ H ρ s) : ∀ (vs : List Nat), (∀ i ∈ vs, i ∉ x.own) → St p x F (L2.wipe σ vs) H (wipeE ρ vs) s
  | [], _ => t
  | v :: vs, h => (St.wipe t vs fun i hi => h i (List.mem_cons_of_mem _ hi)).unset (h v List.mem_cons_self)
theorem wipe_set {i : Nat} {v : Option V} : ∀ {vs : List Nat} (σ : L2.St), i ∈ vs → L2.wipe (σ.set i v) vs = L2.wipe σ vs
  | w :: vs, σ, h => by
    by_cases hw : i = w
    · subst hw
      by_cases hi : i ∈ vs
      · unfold L2.wipe
        rw [wipe_set σ hi]
      · have aux : ∀ {us : List Nat} (σ : L2.St), i ∉ us → L2.wipe (σ.set i v) us = (L2.wipe σ us).set i v := fun {us} => by
          induction us with
          | nil => intro _ _; rfl
          | cons u us ih =>
            intro σ h
            have h1 : i ≠ u := fun e => h (e ▸ List.mem_cons_self)
            show (L2.wipe (σ.set i v) us).set u none = ((L2.wipe σ us).set u none).set i v
            rw [ih σ fun m => h (List.mem_cons_of_mem _ m), List.set_comm _ _ h1]
        show (L2.wipe (σ.set i v) vs).set i none = (L2.wipe σ vs).set i none
        rw [aux σ hi, List.set_set]
    · have hi : i ∈ vs := by
        rcases List.mem_cons.mp h with e | e
        · exact absurd e hw
        · exact e
      show (L2.wipe (σ.set i v) vs).set w none = (L2.wipe σ vs).set w none
      rw [wipe_set σ hi]

/-! ### targets -/
/-- a target's reading: the slots vs hold what it may store -/
def rG (p : Par) (x : Fx) (vs : List Nat) (tg : Tg) : TG := fun v σ H Q => ∃ F ρ s d ρ1, St p x F σ H ρ s ∧ RpG p tg F H v d ∧ bindT tg d ρ = some ρ1 ∧ ∀ σ1, St p x F σ1 H ρ1 s → L2.wipe σ1 vs = L2.wipe σ vs → Q σ1 H
def rGs (p : Par) (x : Fx) (vs : List Nat) (tg : Tg) : TGs := fun v σ H Q => ∃ F ρ s d ρ1, St p x F σ H ρ s ∧ RpA p F H v d ∧ bindTs tg d ρ = some ρ1 ∧ ∀ σ1, St p x F σ1 H ρ1 s → L2.wipe σ1 vs = L2.wipe σ vs → Q σ1 H
theorem PG.imp {X : Cx} {e : Expr} {t t' : TG} (h : PG X e t) (k : ∀ v σ H Q, t' v σ H Q → t v σ H Q) : PG X e t' := ⟨fun pins s σ H v u Q I r q => h.run pins s σ H v u Q I r (k v σ H Q q)⟩
theorem PGs.imp {X : Cx} {e : List Expr} {t t' : TGs} (h : PGs X e t) (k : ∀ v σ H Q, t' v σ H Q → t v σ H Q) : PGs X e t' := ⟨fun pins s σ H v u Q I r q => h.run pins s σ H v u Q I r (k v σ H Q q)⟩
theorem as_one {e : Expr} {es : List Expr} {env : PySem.Env} (h : notStar e = true) : assignEach (e :: es) env = (false, assign e env) :: assignEach es env := by
  cases e <;> first | rfl | (simp [notStar] at h)
mutual
theorem pg_tg (hN : X.N = N) (nd : X.N.Nodup) (hc : X.calm = true) (hK : X.K = p.K) (hl : ∀ y, locB sc y = true → Loc X.env.scope y ∧ (X.fn y = true ∨ X.env.scope.names.lookup y = some .local)) (vs : List Nat) :
    ∀ (k : Nat) (e : Expr) (tg : Tg), chkTg N sc k e tg = true → (∀ i ∈ tgSlots tg, i ∉ x.own ∧ i ∈ vs) → PG X e (rG p x vs tg)
  | 0, e, tg, h, _ => by simp [chkTg] at h
  | k + 1, e, .nm i, h, ho => by
    unfold chkTg at h
    split at h
    · rename_i y ey
      simp only [Bool.and_eq_true, decide_eq_true_eq] at h
      obtain ⟨h1, h2⟩ := h
      obtain ⟨pos, rfl⟩ := asName_eq ey
      obtain ⟨h3, h4⟩ := hl y h2
      refine PG.imp (pg_name nd (by rw [hN]; exact h1) h3 h4) fun v σ H Q ⟨F, ρ, s, d, ρ1, st, r, e1, q⟩ => ?_
      rw [bindT_nm] at e1
      cases e1
      obtain ⟨o1, o2⟩ := ho i (by simp [tgSlots])
      exact q _ (st.set o1 r) (wipe_set σ o2)
    · cases h
  | k + 1, e, .tup ts, h, ho => by
    unfold chkTg at h
    split at h
    · rename_i es ey
      obtain ⟨kk, pos, rfl⟩ := asTup_eq ey
      obtain ⟨g1, g2, g3, g4⟩ := pgs_tg hN nd hc hK hl vs k es ts h (fun i hi => ho i hi)
      refine PG.imp (pg_tup (n := es.length) hc g1 g2 g3) fun v σ H Q ⟨F, ρ, s, d, ρ1, st, r, e1, q⟩ => ?_
      cases d with
      | tuple ds =>
        rw [bindT_tup] at e1
        obtain ⟨a, xs, rfl, hs, ra⟩ : ∃ a xs, v = .ref a ∧ SqT p.K H a xs ∧ RpA p F H xs ds := by
          rcases (show RpI p F H v (.tuple ds) from r) with r | ⟨a, vs, ds', e, ed, _, hs, ra⟩
          · cases r with
            | @tup a xs _ nf hs _ ra => exact ⟨a, xs, rfl, hs, ra⟩
          · cases ed
            exact ⟨a, vs, e, hs, ra⟩
        refine ⟨a, xs, rfl, by rw [hK]; exact hs, ?_, F, ρ, s, ds, ρ1, st, ra, e1, q⟩
        rw [ra.len]
        exact g4 ds ρ ρ1 e1
      | _ => cases e1
    · cases h
  | k + 1, e, .tnil, h, _ => by simp [chkTg] at h
  | k + 1, e, .tcons _ _, h, _ => by simp [chkTg] at h
theorem pgs_tg (hN : X.N = N) (nd : X.N.Nodup) (hc : X.calm = true) (hK : X.K = p.K) (hl : ∀ y, locB sc y = true → Loc X.env.scope y ∧ (X.fn y = true ∨ X.env.scope.names.lookup y = some .local)) (vs : List Nat) :
    ∀ (k : Nat) (es : List Expr) (tg : Tg), chkTg.chkTs N sc k es tg = true → (∀ i ∈ tgSlots tg, i ∉ x.own ∧ i ∈ vs) →
      PGs X es (rGs p x vs tg) ∧ (assignEach es X.env).length = es.length ∧ (assignEach es X.env).findIdx? (·.1) = none ∧ ∀ ds ρ ρ1, bindTs tg ds ρ = some ρ1 → ds.length = es.length
  | 0, es, tg, h, _ => by simp [chkTg.chkTs] at h
  | k + 1, [], .tnil, h, ho => by
    refine ⟨PGs.imp pgs_nil fun v σ H Q ⟨F, ρ, s, d, ρ1, st, r, e1, q⟩ => ?_, rfl, rfl, fun ds ρ ρ1 e1 => ?_⟩
    · cases d with
      | nil =>
        cases r
        rw [bindTs_nil] at e1
        cases e1
        exact ⟨rfl, q σ st rfl⟩
      | cons _ _ => cases e1
    · cases ds with
      | nil => rfl
      | cons _ _ => cases e1
  | k + 1, y :: es, .tcons t ts, h, ho => by
    have h : (notStar y && chkTg N sc k y t && chkTg.chkTs N sc k es ts) = true := h
    simp only [Bool.and_eq_true] at h
    obtain ⟨⟨h1, h2⟩, h3⟩ := h
    have a1 := pg_tg hN nd hc hK hl vs k y t h2 fun i hi => ho i (by simp [tgSlots, hi])
    obtain ⟨b1, b2, b3, b4⟩ := pgs_tg hN nd hc hK hl vs k es ts h3 fun i hi => ho i (by simp [tgSlots, hi])
    refine ⟨PGs.imp (pgs_cons a1 b1 (by rw [as_one h1]; rfl)) fun v σ H Q ⟨F, ρ, s, d, ρ1, st, r, e1, q⟩ => ?_, by rw [as_one h1]; simp [b2], by rw [as_one h1]; simp [List.findIdx?_cons, b3], fun ds ρ ρ1 e1 => ?_⟩
    · cases d with
      | nil => cases e1
      | cons d ds =>
        rw [bindTs_cons] at e1
        obtain ⟨ρ2, e2, e3⟩ := Option.bind_eq_some_iff.mp e1
        cases r with
        | @cons v vs' _ _ r1 r2 =>
          exact ⟨v, vs', rfl, F, ρ, s, d, ρ2, st, RpG.of r1, e2, fun σ1 st1 w1 => ⟨F, ρ2, s, ds, ρ1, st1, r2.fr fun _ _ e _ => e, e3, fun σ2 st2 w2 => q σ2 st2 (w2.trans w1)⟩⟩
    · cases ds with
      | nil => cases e1
      | cons d ds =>
        rw [bindTs_cons] at e1
        obtain ⟨ρ2, e2, e3⟩ := Option.bind_eq_some_iff.mp e1
        simp [b4 ds ρ2 ρ1 e3]
  | k + 1, [], .nm _, h, _ => by simp [chkTg.chkTs] at h
  | k + 1, [], .tup _, h, _ => by simp [chkTg.chkTs] at h
  | k + 1, [], .tcons _ _, h, _ => by simp [chkTg.chkTs] at h
  | k + 1, _ :: _, .nm _, h, _ => by simp [chkTg.chkTs] at h
  | k + 1, _ :: _, .tup _, h, _ => by simp [chkTg.chkTs] at h
  | k + 1, _ :: _, .tnil, h, _ => by simp [chkTg.chkTs] at h
end
end
end EV
end

section
set_option Elab.async false
set_option linter.all false
set_option autoImplicit false
set_option maxRecDepth 100000
/-! EvDraw: the row of draws, read. -/
namespace EV
open PySem PySem.Spec PyProof.Rows L2
section
variable {p : Par} {g : Glb} {n : Nat} {N : List Str}
variable {x : Fx} {X : Cx} {sc : Scope} {F : Addr → Prop} {σ : L2.St} {H H1 H2 : Hp} {ρ : Env} {s s1 s2 : DS} {own : List Nat} {k : Nat}
/-- the row at a0 -/
abbrev rowV (p : Par) (s : DS) : List V := [.ref p.c0, .int ((s.p : Int) - 1), .int s.cur, .int s.seed]
def rDr (p : Par) (x : Fx) (i k : Nat) : TE := fun σ H Q => ∃ F ρ s, St p x F σ H ρ s ∧ ρ.getD i none = some (.dict []) ∧ ∃ v, L2.atI (rowV p s) (k : Int) = some v ∧ Q v H
theorem isDr_ok {o : Option D} {u : Unit} (h : isDr o = some u) : o = some (.dict []) := by
  unfold isDr at h
  split at h
  · rfl
  · cases h
theorem drow (t : St p x F σ H ρ s) {i : Nat} (hi : i ∉ x.own) (e : ρ.getD i none = some (.dict [])) : σ[i]? = some (some (.ref p.a0)) := by
  have e2 : ρ[i]? = some (some (.dict [])) := by
    rw [List.getD_eq_getElem?_getD] at e
    cases z : ρ[i]? with
    | none => rw [z] at e; cases e
    | some w => rw [z] at e; rw [← show w = some (.dict []) from e]
  obtain ⟨v, e3, r⟩ := t.rel i _ e2 hi
  cases r
  exact e3
theorem asCon_int {e : Expr} {j : Int} (h : asCon e = some (.int j)) : ∃ k p, e = .Constant (.int j) k p := by
  unfold asCon at h
  split at h <;> cases h
  exact ⟨_, _, rfl⟩
theorem pe_row {e : Expr} {i k : Nat} (ho : x.own = own) (h : drB N own sc e i k = true) (c : Cxt p n x N X sc) : PE X e (rDr p x i k) := by
  unfold drB at h
  split at h
  · rename_i y z ey
    simp only [Bool.and_eq_true] at h
    obtain ⟨⟨h1, h2⟩, h3⟩ := h
    obtain ⟨pos, rfl⟩ := asSub_eq ey
    split at h1
    · rename_i w ew
      simp only [Bool.and_eq_true, decide_eq_true_eq, Bool.not_eq_true'] at h1
      obtain ⟨⟨⟨k1, k2⟩, k3⟩, k4⟩ := h1
      obtain ⟨pos2, rfl⟩ := asName_eq ew
      obtain ⟨m1, m2, m3⟩ := okName_ok k3
      split at h2
      · rename_i j ej
        have h2 : j = (k : Int) := of_decide_eq_true h2
        subst h2
        obtain ⟨kk, pos3, rfl⟩ := asCon_int ej
        have hi : i ∉ x.own := by rw [ho]; simpa using k4
        refine PE.imp (pe_ix ix_list (pe_var (i := i) (by rw [c.hN]; exact k1) (c.vis k2) m1 m2) pe_int (plainIx h3)) fun σ H Q ⟨F, ρ, s, st, e1, v, e2, q⟩ => ?_
        exact ⟨_, drow st hi e1, p.a0, rowV p s, _, v, rfl, rfl, SqL.of st.dr.at0, e2, q⟩
      · cases h2
    · cases h1
  · cases h
theorem atI_nat {α : Type} {xs : List α} {k : Nat} (h : k < xs.length) : L2.atI xs (k : Int) = xs[k]? := by
  unfold L2.atI L2.ixN
  rw [if_pos (by omega), if_pos (by omega)]
  simp
theorem case_drw {m : Md} {i j : Nat} {e : Expr} (ho : x.own = own) (hm : m ≠ .fresh) (h : (drB N own sc e i j && decide (1 ≤ j) && decide (j ≤ 3)) = true) (c : Cxt p n x N X sc) : PE X e (rE p x m (ev (cf p n) (.drw i j))) := by
  simp only [Bool.and_eq_true, decide_eq_true_eq] at h
  obtain ⟨⟨h1, h2⟩, h3⟩ := h
  refine PE.imp (pe_row ho h1 c) fun σ H Q ⟨F, ρ, s, st, q⟩ => ?_
  unfold ev at q
  obtain ⟨u, e1, q⟩ := q.bnd.lift st.dr st.good
  refine ⟨F, ρ, s, st, isDr_ok e1, ?_⟩
  obtain ⟨d, e2, q⟩ := RO.lift q st.dr st.good
  rw [atI_nat (show j < (rowV p s).length from Nat.lt_succ_of_le h3)]
  have key : ∀ w : Int, drwD j s = some w → (rowV p s)[j]? = some (.int w) := fun w hw => by
    rcases (show j = 1 ∨ j = 2 ∨ j = 3 by omega) with rfl | rfl | rfl
    · cases hw; rfl
    · cases hw; rfl
    · cases hw; rfl
  cases hw : drwD j s with
  | none => rw [hw] at e2; cases e2
  | some w =>
    rw [hw] at e2
    cases e2
    exact ⟨_, key w hw, q _ (relM.rp (.int _) hm)⟩
theorem case_ncel (wf : Wf p g n) {m : Md} {i : Nat} {e : Expr} (ho : x.own = own) (hm : m ≠ .fresh) (h : (match asCall e with
      | some (y, [z]) => decide (y = ("len" : Str)) && gloB sc y && notStar z && drB N own sc z i 0
      | _ => false) = true) (c : Cxt p n x N X sc) : PE X e (rE p x m (ev (cf p n) (.ncel i))) := by
  split at h
  · rename_i y z ey
    simp only [Bool.and_eq_true, decide_eq_true_eq] at h
    obtain ⟨⟨⟨rfl, h2⟩, h3⟩, h4⟩ := h
    obtain ⟨pos, pos2, rfl⟩ := asCall_eq ey
    refine PE.imp (pe_callB call_len (c.gl h2) (by rw [c.hmg]; exact wf.blt _ (by decide +kernel)) boot_len (pa_cons (pe_row ho h4 c) pa_nil (star_one h3)) (by decide) (by decide) (star_one h3) rfl) fun σ H Q ⟨F, ρ, s, st, q⟩ => ?_
    unfold ev at q
    obtain ⟨u, e1, q⟩ := q.bnd.lift st.dr st.good
    have q := RO.ok (a := PyData.int (s.cells.length : Int)) q st.dr st.good
    refine ⟨F, ρ, s, st, isDr_ok e1, .ref p.c0, atI_nat (k := 0) (Nat.succ_pos _), .ref p.c0, s.cells.length, rfl, .inl ⟨s.cells.map V.int, by rw [c.hK]; exact st.dr.cells, by simp⟩, q _ (relM.rp (.int _) hm)⟩
  · cases h
theorem case_cel (ih : EOk p g n N own k) {m : Md} {i : Nat} {a : E} {e : Expr} (ho : x.own = own) (hm : m ≠ .fresh) (h : (match asSub e with
      | some (y, z) => notSlice z && drB N own sc y i 0 && chkE g N own k .borrow sc z a
      | none => false) = true) (c : Cxt p n x N X sc) : PE X e (rE p x m (ev (cf p n) (.cel i a))) := by
  split at h
  · rename_i y z ey
    simp only [Bool.and_eq_true] at h
    obtain ⟨⟨h1, h2⟩, h3⟩ := h
    obtain ⟨pos, rfl⟩ := asSub_eq ey
    refine PE.imp (pe_ix ix_list (pe_row ho h2 c) (ih.e .borrow sc z a x X ho h3 c) (plainIx h1)) fun σ H Q ⟨F, ρ, s, st, q⟩ => ?_
    unfold ev at q
    obtain ⟨u, e1, q⟩ := q.bnd.lift st.dr st.good
    refine ⟨F, ρ, s, st, isDr_ok e1, .ref p.c0, atI_nat (k := 0) (Nat.succ_pos _), F, ρ, s, st, q.bnd.imp fun d s1 H1 _ f1 d1 g1 q1 v rv => ?_⟩
    obtain ⟨d', e2, q2⟩ := q1.lift d1 g1
    cases d with
    | int j =>
      have ev' := Rk.int rv
      subst ev'
      cases e3 : celD (.int j) s1 with
      | none => rw [e3] at e2; cases e2
      | some w =>
        rw [e3] at e2
        cases e2
        unfold celD at e3
        split at e3
        · rename_i j' ej
          cases ej
          split at e3
          · rename_i hj
            refine ⟨p.c0, s1.cells.map V.int, j, .int w, rfl, rfl, by rw [c.hK]; exact d1.cells, ?_, q2 _ (relM.rp (.int _) hm)⟩
            have hlt : j.toNat < s1.cells.length := (List.getElem?_eq_some_iff.mp e3).1
            have ej : j = ((j.toNat : Nat) : Int) := by omega
            rw [ej, atI_nat (by rw [List.length_map]; exact hlt), List.getElem?_map, e3]
            rfl
          · cases e3
        · rename_i hz
          exact absurd rfl (hz j)
    | _ => cases e2
  · cases h
end
end EV
end

section
set_option Elab.async false
set_option linter.all false
set_option autoImplicit false
set_option maxRecDepth 100000
/-! EvMain6: comprehensions; all expressions. -/
namespace EV
open PySem PySem.Spec PyProof.Rows L2

section
variable {p : Par} {g : Glb} {n : Nat} {N : List Str}
variable {x : Fx} {X : Cx} {sc : Scope} {F : Addr → Prop} {σ : L2.St} {H H1 H2 : Hp} {ρ : Env} {s s1 s2 : DS} {own : List Nat} {k : Nat}
/-- the comprehension's own view -/
abbrev Fx.in_ (x : Fx) : Fx := { x with W := E0 }
theorem St.in_ (t : St p x F σ H ρ s) : St p x.in_ F σ H ρ s := ⟨t.len, t.rel, t.relO, t.inj, t.dr, t.good, t.tr, t.fa, t.fc, t.sf, t.fr, t.th⟩
/-- the state a while later, the new list at D apart -/
theorem St.later (t : St p x F σ H1 ρ s1) {D : Addr} {acc : List V} (hD : H1 D = none) (f : FrE p H1 H) (d : Dr p H s) (g : Good p H) (h : H D = some (.lst acc)) : St p x (fun a => F a ∨ a = D) σ H ρ s := by
  have st := t.step f d g
  have nw : ∀ b, F b ∨ b = D → ¬ F b → H1 b = none := fun b z n => by
    rcases z with z | z
    · exact absurd z n
    · rw [z]; exact hD
  have ft : FT (fun a => F a ∨ a = D) H := fun a z => by
    rcases z with z | z
    · exact st.tr a z
    · rw [z, h]; simp
  have k : ∀ a, F a → F a ∨ a = D := fun _ z => .inl z
  have hh : ∀ a o, H1 a = some o → (if true = true then a ≠ p.a0 else ¬ F a) → H a = some o := fun a o e n => f a o e (by simpa using n)
  refine ⟨t.len, fun i d e n => ?_, fun i d e n => ?_, t.inj, d, g, ft, .inl t.fa, fun z => ?_, fun a z => .inl (t.sf a z), st.fr, st.th⟩
  · obtain ⟨v, h1, h2⟩ := t.rel i d e n
    exact ⟨v, h1, Rp.to2 (full := true) h2 k nw ft g t.fa hh⟩
  · obtain ⟨a, vs, ds, h1, h2, h3, h4, h5, h6, h7⟩ := t.relO i d e n
    exact ⟨a, vs, ds, h1, h2, f a _ h3 h6, .inl h4, h5, h6, RpA.to2 (full := true) h7 k nw ft g t.fa hh⟩
  · rcases z with z | z
    · exact t.fc z
    · rcases SqL.there t.dr.cells with q | q
      · rw [z, hD] at q; exact q rfl
      · exact q (by rw [z]; exact g D _ h)
theorem blk_cxt (c : Cxt p n x N X sc) {scope : Scope} {s : Shared} {H : Hp} {C : Addr} {cl : List (Str × Addr)} {fp : List Addr} : Cxt p n x.in_ N (X.blk s H scope (compEnvC scope cl C X.env) fp) scope :=
  ⟨c.hP, c.hw, c.hK, c.hmg, c.hb, c.hN, c.nd, c.calm, c.room, relS_scr, by
    have := passL (X := X.blk s H scope (compEnvC scope cl C X.env) fp)
    have e : L2.CX X.prog X.w = L2.CX p.P p.w := by rw [c.hP, c.hw]
    exact e ▸ this⟩
theorem blk_loc {scope : Scope} {s : Shared} {H : Hp} {C : Addr} {cl : List (Str × Addr)} {fp : List Addr} : ∀ y, locB scope y = true → Loc (X.blk s H scope (compEnvC scope cl C X.env) fp).env.scope y ∧ ((X.blk s H scope (compEnvC scope cl C X.env) fp).fn y = true ∨ (X.blk s H scope (compEnvC scope cl C X.env) fp).env.scope.names.lookup y = some .local) := fun y h => by
  have r := relS_scr (sc := X.env.scope) (scope := scope)
  unfold locB at h
  split at h
  · rename_i e
    exact ⟨.inl (r.loc y e), .inr (r.loc y e)⟩
  · rename_i e
    exact ⟨.inr (r.cel y e), .inl (by show (scope.names.lookup y == some NameKind.cell) = true; rw [e]; rfl)⟩
  · cases h
/-- what one turn of a comprehension says -/
theorem comp_turn {C : CallF} {el c : E} {tg : Tg} {d : D} {o : Option D} (h : (match bindT tg d (wipeE ρ (tgSlots tg)) with
      | none => R.stuck
      | some ρ1 => (ev C c ρ1 s).bnd fun t s => (boolR t s).bnd fun k s => if k = true then (ev C el ρ1 s).bnd fun y s => .ok (some y) s else .ok none s) = .ok o s1) :
    ∃ ρ1 b s2, bindT tg d (wipeE ρ (tgSlots tg)) = some ρ1 ∧ (ev C c ρ1 s).bnd boolR = .ok b s2 ∧ (b = true → ∃ y, o = some y ∧ ev C el ρ1 s2 = .ok y s1) ∧ (b = false → o = none ∧ s2 = s1) := by
  cases e : bindT tg d (wipeE ρ (tgSlots tg)) with
  | none => rw [e] at h; cases h
  | some ρ1 =>
    rw [e] at h
    obtain ⟨t, s2, e1, h⟩ := bnd_ok_inv h
    cases t with
    | bool b =>
      refine ⟨ρ1, b, s2, rfl, by rw [e1]; rfl, fun eb => ?_, fun eb => ?_⟩
      · subst eb
        have h : ((ev C el ρ1 s2).bnd fun y s => R.ok (some y) s) = .ok o s1 := h
        obtain ⟨y, s3, e2, h⟩ := bnd_ok_inv h
        cases h
        exact ⟨y, rfl, e2⟩
      · subst eb
        have h : (R.ok (none : Option D) s2) = .ok o s1 := h
        cases h
        exact ⟨rfl, rfl⟩
    | _ => cases h
theorem compL_cons {f : D → DS → R (Option D)} {d : D} {ds ys : List D} {s s' : DS} (h : compL f (d :: ds) s = .ok ys s') : ∃ o s1 zs, f d s = .ok o s1 ∧ compL f ds s1 = .ok zs s' ∧ ys = (match o with
    | some y => y :: zs
    | none => zs) := by
  unfold compL at h
  split at h
  · rename_i o s1 e
    split at h
    · rename_i zs s2 e2
      cases h
      exact ⟨o, s1, zs, e, e2, rfl⟩
    · cases h
  · cases h
theorem compL_ok {f : D → DS → R (Option D)} : ∀ {ds : List D} {s : DS}, compL f ds s = .stuck ∨ ∃ ys s', compL f ds s = .ok ys s'
  | [], s => .inr ⟨[], s, rfl⟩
  | d :: ds, s => by
    unfold compL
    split
    · split
      · exact .inr ⟨_, _, rfl⟩
      · exact .inl rfl
    · exact .inl rfl
theorem compOwn_snd {N : List Str} : ∀ (l : List Nat), (l.map fun k => (N.getD k "", k)).map (·.2) = l
  | [] => rfl
  | a :: r => congrArg (a :: ·) (compOwn_snd r)
set_option maxHeartbeats 2000000 in
/-- the loop of a comprehension, for a given reading of target, test and element -/
theorem lc_run {C : CallF} {m : Md} {el c : E} {tg : Tg} {it : E} {Q : VK} {J : It} {ds : List D} (hm : m ≠ .fresh ∨ True) (hown : ∀ i ∈ tgSlots tg, i ∉ x.own) (st0 : St p x F σ H ρ s) (st : St p x F σ H1 ρ s1) (f0 : FrE p H H1) (hW : Wk p true tg F H1 J ds) (hl : ds.length ≤ LIM)
    (q : RO p x H1 ((compL (fun x s => match bindT tg x (wipeE ρ (tgSlots tg)) with
      | none => .stuck
      | some ρ1 => (ev C c ρ1 s).bnd fun t s => (boolR t s).bnd fun k s => if k = true then (ev C el ρ1 s).bnd fun y s => .ok (some y) s else .ok none s) ds s1).bnd fun ys s => .ok (PyData.list ys) s) fun d _ H' => ∀ v, relM p m F H H' v d → Q v H') :
    ∀ D, H1 D = none → ∃ W : Nat → Nat → Hp → Prop, (∃ m, W 0 m (upd H1 D (.lst []))) ∧ ∀ i m H, W i m H →
      (J.stop i H ∧ (Good p H → Q (.ref D) H)) ∨ (J.go i H ∧ ∃ Nx : Hp → Prop, (∀ H', Nx H' → ∃ m', m' < m ∧ W (i + 1) m' H') ∧ ∀ v H', J.yld i H v H' → (fun v σ H Q => Good p H → rG p x.in_ (tgSlots tg) tg v σ H Q) v (L2.wipe σ (tgSlots tg)) H' fun σ2 H2 => L2.wipe σ2 (tgSlots tg) = L2.wipe σ (tgSlots tg) ∧ rT p x.in_ (ev C c) σ2 H2 fun b H3 =>
        if b = true then rE p x.in_ .strict (ev C el) σ2 H3 fun y H4 => ∃ acc, H4 D = some (.lst acc) ∧ acc.length < sizeLine ∧ Nx (upd H4 D (.lst (acc ++ [y]))) else Nx H3) := by
  generalize hf : (fun (x : PyData) (s : DS) => match bindT tg x (wipeE ρ (tgSlots tg)) with
      | none => (.stuck : R (Option PyData))
      | some ρ1 => (ev C c ρ1 s).bnd fun t s => (boolR t s).bnd fun k s => if k = true then (ev C el ρ1 s).bnd fun y s => .ok (some y) s else .ok none s) = f at q
  intro D hD
  rcases compL_ok (f := f) (ds := ds) (s := s1) with e | ⟨ys, s', e⟩
  · rw [e] at q; exact q.elim
  rw [e] at q
  have lenw : ∀ σ : L2.St, (L2.wipe σ (tgSlots tg)).length = σ.length := fun σ => wipe_length σ _
  refine ⟨fun i m H => m = ds.length - i ∧ i ≤ ds.length ∧ ∃ si done rest acc, done ++ rest = ys ∧ done.length ≤ i ∧ compL f (ds.drop i) si = .ok rest s' ∧ H D = some (.lst acc) ∧ RpA p (fun a => F a ∨ a = D) H acc done ∧ FrE p H1 H ∧ Dr p H si ∧ (∀ a, H1 a ≠ none → H a ≠ none), ⟨ds.length, rfl, Nat.zero_le _, s1, [], ys, [], rfl, Nat.zero_le _, e, upd_same, .nil, FrE.of (same_upd hD), st.dr.same (same_upd hD), fun a n => by
    cases z : H1 a with
    | none => exact absurd z n
    | some o => rw [same_upd hD a o z]; simp⟩, ?_⟩
  rintro i m H3 ⟨rfl, hi, si, done, rest, acc, e1, e2, e3, e4, e5, e6, e7, e8⟩
  -- the walked thing at this turn
  have nD : p.a0 ≠ D := fun z => by rw [← z, st.dr.at0] at hD; cases hD
  have wk := hW (fun a => F a ∨ a = D) H3 (fun _ z => .inl z) (fun b z n => by
      rcases z with z | z
      · exact absurd z n
      · rw [z]; exact hD) (fun a z => by
      rcases z with z | z
      · exact e8 a (st.tr a z)
      · rw [z, e4]; simp) (fun a o h n => e6 a o h (by simpa using n))
  by_cases hlt : i < ds.length
  · have ed : ds.drop i = ds[i] :: ds.drop (i + 1) := List.drop_eq_getElem_cons hlt
    rw [ed] at e3
    obtain ⟨o, sj, zs, h1, h2, h3⟩ := compL_cons e3
    obtain ⟨w1, w2⟩ := wk.1 i ds[i] (List.getElem?_eq_getElem hlt)
    rw [← hf] at h1
    obtain ⟨ρ1, b, sk, b1, b2, b3, b4⟩ := comp_turn h1
    refine .inr ⟨w1, fun H' => ∃ si done rest acc, done ++ rest = ys ∧ done.length ≤ i + 1 ∧ compL f (ds.drop (i + 1)) si = .ok rest s' ∧ H' D = some (.lst acc) ∧ RpA p (fun a => F a ∨ a = D) H' acc done ∧ FrE p H1 H' ∧ Dr p H' si ∧ (∀ a, H1 a ≠ none → H' a ≠ none), fun H' z => ⟨ds.length - (i + 1), by omega, rfl, hlt, z⟩, fun v H4 y => ?_⟩
    intro g4
    obtain ⟨sm, rv⟩ := w2 v H4 y
    have rv := rv g4
    have e4' : H4 D = some (.lst acc) := sm _ _ e4
    have e6' : FrE p H1 H4 := e6.trans (FrE.of sm)
    have e7' : Dr p H4 si := e7.same sm
    have st4 : St p x.in_ (fun a => F a ∨ a = D) σ H4 ρ si := (st.later hD e6' e7' g4 e4').in_
    have e5' : RpA p (fun a => F a ∨ a = D) H4 acc done := e5.fr fun a o h _ => sm a o h
    refine ⟨fun a => F a ∨ a = D, wipeE ρ (tgSlots tg), si, ds[i], ρ1, st4.wipe _ hown, rv, b1, fun σ1 st5 w5 => ?_⟩
    have ww : ∀ (vs : List Nat) (σ : L2.St), L2.wipe (L2.wipe σ vs) vs = L2.wipe σ vs := fun vs σ => by
      have aux : ∀ (us : List Nat) (σ : L2.St), (∀ i ∈ us, i ∈ vs) → L2.wipe (L2.wipe σ us) vs = L2.wipe σ vs := fun us => by
        induction us with
        | nil => intro _ _; rfl
        | cons u us ih =>
          intro σ h
          show L2.wipe ((L2.wipe σ us).set u none) vs = _
          rw [wipe_set _ (h u List.mem_cons_self)]
          exact ih σ fun i hi => h i (List.mem_cons_of_mem _ hi)
      exact aux vs σ fun _ h => h
    refine ⟨w5.trans (ww _ σ), fun a => F a ∨ a = D, ρ1, si, st5, ?_⟩
    rw [b2]
    intro H5 f5 d5 g5
    have mono : ∀ {Ha Hb : Hp} {sa : DS}, FrE p Ha Hb → Dr p Hb sa → ∀ a, Ha a ≠ none → Hb a ≠ none := fun {Ha Hb sa} f d a nz z => by
      by_cases ea : a = p.a0
      · rw [ea, d.at0] at z; cases z
      · cases q : Ha a with
        | none => exact nz q
        | some o => rw [f a o q ea] at z; cases z
    have e8' : ∀ a, H1 a ≠ none → H4 a ≠ none := fun a nz => by
      have := e8 a nz
      cases q : H3 a with
      | none => exact absurd q this
      | some o => rw [sm a o q]; simp
    cases b with
    | false =>
      obtain ⟨rfl, rfl⟩ := b4 rfl
      have h3 : rest = zs := h3
      subst h3
      exact ⟨sk, done, rest, acc, e1, by omega, h2, f5 D _ e4' (fun z => nD z.symm), RpA.fr e5' (f5.nf (.inl st.fa)), e6'.trans f5, d5, fun a nz => mono f5 d5 a (e8' a nz)⟩
    | true =>
      obtain ⟨y, rfl, b5⟩ := b3 rfl
      have h3 : rest = y :: zs := h3
      subst h3
      have st6 := st5.step f5 d5 g5
      refine ⟨fun a => F a ∨ a = D, ρ1, sk, st6, ?_⟩
      rw [b5]
      intro H6 f6 d6 g6 w rw'
      have rw' : Rp p (fun a => F a ∨ a = D) H6 w y := rw'
      have f46 := f5.trans f6
      have e5'' : RpA p (fun a => F a ∨ a = D) H6 acc done := RpA.fr e5' (f46.nf (.inl st.fa))
      have up : ∀ a o, H6 a = some o → ¬ (F a ∨ a = D) → (upd H6 D (.lst (acc ++ [w]))) a = some o := fun a o h n => by rw [upd_ne (fun z => n (.inr z))]; exact h
      have hDr : Dr p (upd H6 D (.lst (acc ++ [w]))) sj := by
        refine ⟨by rw [upd_ne nD]; exact d6.at0, SqL.fr d6.cells fun o e => ?_, d6.ne⟩
        refine up _ _ e ?_
        intro z
        rcases z with z | z
        · exact st.fc z
        · rcases SqL.there st.dr.cells with q | q
          · rw [z, hD] at q; exact q rfl
          · exact q (by rw [z]; exact g4 D _ e4')
      refine ⟨acc, f46 D _ e4' (fun z => nD z.symm), ?_, sj, done ++ [y], zs, acc ++ [w], by rw [List.append_assoc]; exact e1, by simp; omega, h2, upd_same, (e5''.append (.cons rw' .nil)).fr up, ?_, hDr, ?_⟩
      · have l := e5.len
        have hl : ds.length ≤ 1000000 := hl
        rw [sizeLine_eq]
        omega
      · intro a o h n
        by_cases ea : a = D
        · rw [ea, hD] at h; cases h
        · rw [upd_ne ea]
          exact (e6'.trans f46) a o h n
      · intro a nz
        by_cases ea : a = D
        · rw [ea, upd_same]; simp
        · rw [upd_ne ea]
          exact mono f46 d6 a (e8' a nz)
  · have e : i = ds.length := by omega
    subst e
    refine .inl ⟨wk.2, fun g3 => ?_⟩
    rw [List.drop_length] at e3
    have e3 : (R.ok ([] : List PyData) si) = .ok rest s' := e3
    cases e3
    rw [List.append_nil] at e1
    subst e1
    refine q H3 e6 e7 g3 (.ref D) ?_
    have r : RF p F H1 H3 (.ref D) (.list done) := ⟨D, acc, rfl, hD, e4, e5⟩
    have fz : ∀ a, H a ≠ none → H1 a ≠ none := fun a nz z => by
      by_cases ea : a = p.a0
      · rw [ea, st.dr.at0] at z; cases z
      · cases q : H a with
        | none => exact nz q
        | some o => rw [f0 a o q ea] at z; cases z
    exact rf_to fz st.tr r
theorem comp_parts (wf : Wf p g n) (ih : EOk p g n N own k) {m : Md} {el c : E} {tg : Tg} {it : E} {e : Expr} (ho : x.own = own) (h : (match asComp e with
      | some (y, t, i, ifs, scope) => notSet i && tgI tg it && chkTg N scope k t tg && ownFree own tg && decide (tgSlots tg).Nodup && blkC N sc scope ((tgSlots tg).map fun k => (N.getD k "", k)) &&
          chkI g N own k .borrow sc i it && chkE g N own k .strict scope y el && (match ifs with
          | [] => (match c with
            | .con (.bool true) => true
            | _ => false)
          | [z] => chkT g N own k scope z c
          | _ => false)
      | none => false) = true) (cx : Cxt p n x N X sc) : ∃ y t i ifs scope pos, e = .ListComp y [⟨t, i, ifs, 0⟩] scope pos ∧ notSet i = true ∧ PI X t i (rI p x .borrow tg (evI (cf p n) it)) ∧ BlkOk X.N X.env.scope scope ((tgSlots tg).map fun k => (N.getD k "", k)) ∧
      (∀ (s : Shared) (H : Hp) (C : Addr) (cl : List (Str × Addr)) (fp : List Addr), PG (X.blk s H scope (compEnvC scope cl C X.env) fp) t (fun v σ H Q => Good p H → rG p x.in_ (tgSlots tg) tg v σ H Q)) ∧
      (∀ (s : Shared) (H : Hp) (C : Addr) (cl : List (Str × Addr)) (fp : List Addr), PTs (X.blk s H scope (compEnvC scope cl C X.env) fp) ifs (rT p x.in_ (ev (cf p n) c))) ∧
      (∀ (s : Shared) (H : Hp) (C : Addr) (cl : List (Str × Addr)) (fp : List Addr), PE (X.blk s H scope (compEnvC scope cl C X.env) fp) y (rE p x.in_ .strict (ev (cf p n) el))) ∧
      ∀ σ H Q, rE p x m (ev (cf p n) (.comp el tg it c)) σ H Q → tLc (rI p x .borrow tg (evI (cf p n) it)) (fun v σ H Q => Good p H → rG p x.in_ (tgSlots tg) tg v σ H Q) (rT p x.in_ (ev (cf p n) c)) (rE p x.in_ .strict (ev (cf p n) el)) (((tgSlots tg).map fun k => (N.getD k "", k)).map (·.2)) σ H (fun v H' => Good p H' → Q v H') := by
  split at h
  · rename_i y t i ifs scope ey
    simp only [Bool.and_eq_true, decide_eq_true_eq] at h
    obtain ⟨⟨⟨⟨⟨⟨⟨⟨h1, h2⟩, h3⟩, h4⟩, h5⟩, h6⟩, h7⟩, h8⟩, h9⟩ := h
    obtain ⟨pos, rfl⟩ := asComp_eq ey
    have hown : ∀ j ∈ tgSlots tg, j ∉ x.own := fun j hj => by
      rw [ho]
      simpa using (List.all_eq_true.mp h4) j hj
    have bk : BlkOk X.N X.env.scope scope ((tgSlots tg).map fun k => (N.getD k "", k)) := by
      rw [cx.hN]
      exact blk_of h6 cx.scr
    have htg : PI X t i (rI p x .borrow tg (evI (cf p n) it)) := (ih.i .borrow sc scope i it x X t tg k (by simp) h3 h2 ho h7 cx)
    have pt : ∀ (s : Shared) (H : Hp) (C : Addr) (cl : List (Str × Addr)) (fp : List Addr), PTs (X.blk s H scope (compEnvC scope cl C X.env) fp) ifs (rT p x.in_ (ev (cf p n) c)) := fun s H C cl fp => by
      split at h9
      · split at h9
        · refine ⟨fun pins s' σ H Q I q => pts_nil.run pins s' σ H Q I ?_⟩
          obtain ⟨F, ρ, s, st, q⟩ := q
          unfold ev at q
          exact RO.ok (a := true) q st.dr st.good
        · cases h9
      · rename_i z
        exact pts_one (ih.t scope z c x.in_ _ ho h9 (blk_cxt cx))
      · cases h9
    have pg : ∀ (s : Shared) (H : Hp) (C : Addr) (cl : List (Str × Addr)) (fp : List Addr), PG (X.blk s H scope (compEnvC scope cl C X.env) fp) t (fun v σ H Q => Good p H → rG p x.in_ (tgSlots tg) tg v σ H Q) := fun s H C cl fp =>
      PG.good cx.hK (pg_tg (X := X.blk s H scope (compEnvC scope cl C X.env) fp) (x := x.in_) (sc := scope) cx.hN cx.nd cx.calm cx.hK blk_loc (tgSlots tg) k t tg h3 fun j hj => ⟨hown j hj, hj⟩)
    have pe : ∀ (s : Shared) (H : Hp) (C : Addr) (cl : List (Str × Addr)) (fp : List Addr), PE (X.blk s H scope (compEnvC scope cl C X.env) fp) y (rE p x.in_ .strict (ev (cf p n) el)) := fun s H C cl fp =>
      ih.e .strict scope y el x.in_ _ ho h8 (blk_cxt cx)
    refine ⟨y, t, i, ifs, scope, pos, rfl, h1, htg, bk, pg, pt, pe, fun σ H Q ⟨F, ρ, s, st, q⟩ => ?_⟩
    unfold ev at q
    refine ⟨F, ρ, s, st, q.bnd.imp fun ds s1 H1 er f1 d1 g1 q1 J hW => ?_⟩
    rw [compOwn_snd]
    split at q1
    · rename_i hl
      exact lc_run (m := m) (it := it) (.inr trivial) hown st (st.step f1 d1 g1) f1 hW hl q1
    · exact q1.elim
  · cases h
theorem case_comp (wf : Wf p g n) (ih : EOk p g n N own k) {m : Md} {el c : E} {tg : Tg} {it : E} {e : Expr} (ho : x.own = own) (h : (match asComp e with
      | some (y, t, i, ifs, scope) => notSet i && tgI tg it && chkTg N scope k t tg && ownFree own tg && decide (tgSlots tg).Nodup && blkC N sc scope ((tgSlots tg).map fun k => (N.getD k "", k)) &&
          chkI g N own k .borrow sc i it && chkE g N own k .strict scope y el && (match ifs with
          | [] => (match c with
            | .con (.bool true) => true
            | _ => false)
          | [z] => chkT g N own k scope z c
          | _ => false)
      | none => false) = true) (cx : Cxt p n x N X sc) : PE X e (rE p x m (ev (cf p n) (.comp el tg it c))) := by
  obtain ⟨y, t, i, ifs, scope, pos, rfl, h1, htg, bk, pg, pt, pe, imp⟩ := comp_parts (m := m) wf ih ho h cx
  exact PE.imp (PE.good cx.hK (pe_lc cx.calm cx.nd htg bk pg pt pe fun v => folded_not h1 v)) imp
/-- every expression -/
theorem eok (wf : Wf p g n) (own : List Nat) : ∀ k, EOk p g n N own k
  | 0 => {
      e := fun m sc e e' x X _ h _ => by simp [chkE] at h
      t := fun sc e e' x X _ h _ => by simp [chkT] at h
      b := fun o sc es e' x X pos _ h _ => by simp [chkB] at h
      tb := fun o sc es e' x X pos _ h _ => by simp [chkTB] at h
      a := fun m sc es e' x X _ _ h _ => by simp [chkA] at h
      o := fun sc o e' x X _ h _ => by simp [chkO] at h
      i := fun m sc sct e e' x X tg tg' k' _ _ _ _ h _ => by simp [chkI] at h }
  | k + 1 =>
    have ih := eok wf own k
    { e := fun m sc e e' x X ho h c => by
        unfold chkE at h
        rw [Bool.and_eq_true] at h
        obtain ⟨hf, h⟩ := h
        have hm : m = .fresh → isFresh g.T e' = true := fun z => by rw [if_pos z] at hf; exact hf
        have nf : isFresh g.T e' = false → m ≠ .fresh := fun z1 z2 => by rw [hm z2] at z1; cases z1
        cases e' with
        | var i => exact case_var ho (nf rfl) h c
        | con d => exact case_con (nf rfl) h c
        | glo y d => exact case_glo wf (nf rfl) h c
        | bin o a b => exact case_bin ih ho h c
        | neg a => exact case_neg ih ho (nf rfl) h c
        | not_ a => exact case_not ih ho (nf rfl) h c
        | and_ a b =>
          simp only at h
          split at h
          · rename_i es ey
            obtain ⟨pos, rfl⟩ := asBool_eq ey
            exact rE_up (nf rfl) (ih.b .And sc es _ x X pos ho h c)
          · cases h
        | or_ a b =>
          simp only at h
          split at h
          · rename_i es ey
            obtain ⟨pos, rfl⟩ := asBool_eq ey
            exact rE_up (nf rfl) (ih.b .Or sc es _ x X pos ho h c)
          · cases h
        | ife cc a b => exact case_ife ih ho (nf rfl) h c
        | cmp o a b => exact case_cmp ih ho (nf rfl) h c
        | chn o q a b d => exact case_chn ih ho (nf rfl) h c
        | ix a b => exact case_ix ih ho (nf rfl) h c
        | sl a lo hi => exact case_sl ih ho h c
        | tup as => exact case_tup ih ho (nf rfl) h c
        | lst as => exact case_lst ih ho h c
        | call f as => exact case_call wf ih ho hm h c
        | bi b as => exact case_bi wf ih ho hm h c
        | mt q a as => exact case_mt wf ih ho (nf rfl) h c
        | isi a t => exact case_isi wf ih ho (nf rfl) h c
        | lens a => exact case_lens wf ih ho (nf rfl) h c
        | eqs a b => exact case_eqs wf ih ho (nf rfl) h c
        | lrng as => exact case_lrng wf ih ho h c
        | comp el tg it cc => exact case_comp wf ih ho h c
        | drw i j => exact case_drw ho (nf rfl) h c
        | ncel i => exact case_ncel wf ho (nf rfl) h c
        | cel i a => exact case_cel ih ho (nf rfl) h c
        | nil => cases h
        | cons _ _ => cases h
        | rng _ => cases h
        | zip _ _ => cases h
        | enum _ => cases h
      t := fun sc e e' x X ho h c => case_t wf ih ho h c
      b := fun o sc es e' x X pos ho h c => case_b ih ho h c
      tb := fun o sc es e' x X pos ho h c => case_tb ih ho h c
      a := fun m sc es e' x X hm ho h c => case_a ih hm ho h c
      o := fun sc o e' x X ho h c => case_o ih ho h c
      i := fun m sc sct e e' x X tg tg' k' hm ht hti ho h c => case_i wf ih hm ht hti ho h c }
end
end EV
end

section
set_option Elab.async false
set_option linter.all false
set_option autoImplicit false
set_option maxRecDepth 100000
/-! EvStmt: what the evaluator says of a statement. -/
namespace EV
open PySem PySem.Spec PyProof.Rows L2

/-- a later state: more lists of one's own, what is not one's own as before -/
structure Ext (p : Par) (F : Addr → Prop) (H : Hp) (F' : Addr → Prop) (H' : Hp) : Prop where
  sub : ∀ a, F a → F' a
  new : ∀ a, F' a → ¬ F a → H a = none
  keep : ∀ a o, H a = some o → ¬ F a → H' a = some o
def SO (p : Par) (x : Fx) (F : Addr → Prop) (H : Hp) (r : RS) (D : Ends) : Prop := match r with
  | .ok q s' => (match q.1 with
    | .next => ∀ F' σ' H', Ext p F H F' H' → St p x F' σ' H' q.2 s' → D.nx σ' H'
    | .brk => ∀ F' σ' H', Ext p F H F' H' → St p x F' σ' H' q.2 s' → D.bk σ' H'
    | .cnt => ∀ F' σ' H', Ext p F H F' H' → St p x F' σ' H' q.2 s' → D.ct σ' H'
    | .ret d => ∀ v H', FrE p x.H0 H' → Dr p H' s' → Good p H' → RX p x.fresh x.S x.H0 H' v d → D.rt v H')
  | .err xn s' => ∀ c dd H', FrE p x.H0 H' → Dr p H' s' → ErrAt p xn c dd H' → x.W c dd H'
  | .stuck => False
def rS (p : Par) (x : Fx) (f : Env → DS → RS) : TS := fun D σ H => ∃ F ρ s, St p x F σ H ρ s ∧ SO p x F H (f ρ s) D

section
variable {p : Par} {x : Fx} {F F1 F2 : Addr → Prop} {σ : L2.St} {H H1 H2 : Hp} {ρ : Env} {s s1 s2 : DS} {D : Ends} {r : RS}
theorem Ext.refl : Ext p F H F H := ⟨fun _ h => h, fun _ h n => absurd h n, fun _ _ e _ => e⟩
theorem Ext.trans (a : Ext p F H F1 H1) (b : Ext p F1 H1 F2 H2) : Ext p F H F2 H2 := by
  refine ⟨fun c h => b.sub c (a.sub c h), fun c h n => ?_, fun c o e n => ?_⟩
  · by_cases h1 : F1 c
    · exact a.new c h1 n
    · cases q : H c with
      | none => rfl
      | some o =>
        have := b.new c h h1
        rw [a.keep c o q n] at this; cases this
  · refine b.keep c o (a.keep c o e n) fun h1 => ?_
    rw [a.new c h1 n] at e; cases e
theorem Ext.of (f : FrE p H H1) (fa : F p.a0) : Ext p F H F H1 := ⟨fun _ h => h, fun _ h n => absurd h n, fun a o e n => f a o e fun z => n (z ▸ fa)⟩
theorem SO.mono (h : SO p x F H r D) (k : Ext p F H F1 H1) : SO p x F1 H1 r D := by
  cases r with
  | ok q s' =>
    obtain ⟨fl, ρ'⟩ := q
    cases fl with
    | next => exact fun F' σ' H' e st => h F' σ' H' (k.trans e) st
    | brk => exact fun F' σ' H' e st => h F' σ' H' (k.trans e) st
    | cnt => exact fun F' σ' H' e st => h F' σ' H' (k.trans e) st
    | ret d => exact h
  | err xn s' => exact h
  | stuck => exact h
theorem SO.exp {α : Type} {r : R α} {f : α → DS → RS} (st : St p x F σ H ρ s) (h : SO p x F H (r.bnd f) D) : RO p x H r fun a s H1 => SO p x F H1 (f a s) D := by
  cases r with
  | ok a s' => exact fun H1 f1 d1 g1 => SO.mono (r := f a s') h (Ext.of f1 st.fa)
  | err xn s' => exact fun c dd H' f1 d1 e => h c dd H' (st.fr.trans f1) d1 e
  | stuck => exact h
theorem SO.exp0 {α : Type} {r : R α} {f : α → DS → RS} (st : St p x F σ H ρ s) (h : SO p x F H (r.bnd f) D) : RO p x H r fun a s H1 => SO p x F H (f a s) D := by
  cases r with
  | ok a s' => exact fun H1 f1 d1 g1 => h
  | err xn s' => exact fun c dd H' f1 d1 e => h c dd H' (st.fr.trans f1) d1 e
  | stuck => exact h
theorem SO.lift {α : Type} {o : Option α} {f : α → DS → RS} (h : SO p x F H ((R.lift o s).bnd f) D) : ∃ a, o = some a ∧ SO p x F H (f a s) D := by
  cases o with
  | none => exact h.elim
  | some a => exact ⟨a, rfl, h⟩
theorem SO.next (h : SO p x F H (.ok (.next, ρ) s) D) (st : St p x F σ H ρ s) : D.nx σ H := h F σ H Ext.refl st
/-- the ends may ask that K's things are untracked -/
theorem PS.good {p : Par} {X : Cx} {e : Stmt} {t : TS} (hK : X.K = p.K) (h : PS X e t) : PS X e (fun D σ H => t { nx := fun σ H => Good p H → D.nx σ H, rt := fun v H => Good p H → D.rt v H, bk := fun σ H => Good p H → D.bk σ H, ct := fun σ H => Good p H → D.ct σ H } σ H) := by
  refine ⟨fun pins s σ H D I q => thn (h.run pins s σ H _ I q) fun f s' sp => ?_⟩
  cases f with
  | next => obtain ⟨σ', H', I', q'⟩ := sp; exact ⟨σ', H', I', q' (good_of I' hK)⟩
  | brk => obtain ⟨σ', H', I', q'⟩ := sp; exact ⟨σ', H', I', q' (good_of I' hK)⟩
  | cont => obtain ⟨σ', H', I', q'⟩ := sp; exact ⟨σ', H', I', q' (good_of I' hK)⟩
  | ret u => obtain ⟨v, σ', H', I', r', q'⟩ := sp; exact ⟨v, σ', H', I', r', q' (good_of I' hK)⟩
theorem PS.imp {X : Cx} {e : Stmt} {t t' : TS} (h : PS X e t) (k : ∀ D σ H, t' D σ H → t D σ H) : PS X e t' := ⟨fun pins s σ H D I q => h.run pins s σ H D I (k D σ H q)⟩
theorem PSs.imp {X : Cx} {e : List Stmt} {t t' : TS} (h : PSs X e t) (k : ∀ D σ H, t' D σ H → t D σ H) : PSs X e t' := ⟨fun pins s σ H D I q => h.run pins s σ H D I (k D σ H q)⟩

/-! ### the states behind a change -/
/-- a slot of one's own gets a new list -/
theorem St.own (t : St p x F σ H1 ρ s1) (f : FrE p H1 H) (d : Dr p H s) (g : Good p H) {i : Nat} {a : Addr} {vs : List V} {ds : List PyData} (hi : i ∈ x.own) (hn : H1 a = none) (ha : H a = some (.lst vs)) (ra : RpA p (fun b => F b ∨ b = a) H vs ds) :
    St p x (fun b => F b ∨ b = a) (σ.set i (some (.ref a))) H (ρ.set i (some (.list ds))) s ∧ Ext p F H1 (fun b => F b ∨ b = a) H := by
  have st := t.later hn f d g ha
  have h0 : x.H0 a = none := by
    cases q : x.H0 a with
    | none => rfl
    | some o => exact absurd hn (t.th a (by rw [q]; simp))
  have na : a ≠ p.a0 := fun z => by rw [z, t.dr.at0] at hn; cases hn
  have out : ∀ {j : Nat} {e : PyData}, (ρ.set i (some (.list ds)))[j]? = some (some e) → (j = i ∧ e = .list ds ∧ i < ρ.length) ∨ (j ≠ i ∧ ρ[j]? = some (some e)) := fun {j e} h => by
    by_cases hij : i = j
    · subst hij
      by_cases hl : i < ρ.length
      · rw [List.getElem?_set_self hl] at h
        exact .inl ⟨rfl, (Option.some.inj (Option.some.inj h)).symm, hl⟩
      · rw [List.getElem?_eq_none (by simpa using hl)] at h; cases h
    · rw [List.getElem?_set_ne hij] at h
      exact .inr ⟨fun z => hij z.symm, h⟩
  have old : ∀ {j : Nat} {b : Addr} {e : PyData}, j ∈ x.own → ρ[j]? = some (some e) → σ[j]? = some (some (.ref b)) → b ≠ a := fun {j b e} hj he hs z => by
    obtain ⟨a', vs', ds', _, h1, h2, _⟩ := t.relO j e he hj
    rw [hs] at h1
    cases h1
    rw [z, hn] at h2; cases h2
  refine ⟨⟨by simp [t.len], fun j e h hj => ?_, fun j e h hj => ?_, fun j1 j2 e1 e2 b h1 h2 q1 q2 q3 q4 => ?_, st.dr, st.good, st.tr, st.fa, st.fc, st.sf, st.fr, st.th⟩, fun _ h => .inl h, fun b h n => ?_, fun b o e n => f b o e fun z => n (z ▸ t.fa)⟩
  · rcases out h with ⟨rfl, _, _⟩ | ⟨hne, h⟩
    · exact absurd hi hj
    · rw [List.getElem?_set_ne (fun z => hne z.symm)]
      exact st.rel j e h hj
  · rcases out h with ⟨rfl, rfl, hl⟩ | ⟨hne, h⟩
    · exact ⟨a, vs, ds, rfl, List.getElem?_set_self (by rw [t.len]; exact hl), ha, .inr rfl, h0, na, ra⟩
    · rw [List.getElem?_set_ne (fun z => hne z.symm)]
      exact st.relO j e h hj
  · rcases out q1 with ⟨rfl, rfl, hl1⟩ | ⟨n1, q1⟩
    · rw [List.getElem?_set_self (by rw [t.len]; exact hl1)] at q3
      cases q3
      rcases out q2 with ⟨rfl, _, _⟩ | ⟨n2, q2⟩
      · rfl
      · rw [List.getElem?_set_ne (fun z => n2 z.symm)] at q4
        exact absurd rfl (old h2 q2 q4)
    · rw [List.getElem?_set_ne (fun z => n1 z.symm)] at q3
      have nb := old h1 q1 q3
      rcases out q2 with ⟨rfl, rfl, hl2⟩ | ⟨n2, q2⟩
      · rw [List.getElem?_set_self (by rw [t.len]; exact hl2)] at q4
        cases q4
        exact absurd rfl nb
      · rw [List.getElem?_set_ne (fun z => n2 z.symm)] at q4
        exact st.inj j1 j2 e1 e2 b h1 h2 q1 q2 q3 q4
  · rcases h with h | h
    · exact absurd h n
    · rw [h]; exact hn
/-- one's own list rewritten -/
theorem St.wr (t : St p x F σ H ρ s) {i : Nat} {a : Addr} {ws : List V} {ds es : List PyData} (hi : i ∈ x.own) (e1 : ρ[i]? = some (some (.list ds))) (e2 : σ[i]? = some (some (.ref a))) (g : Good p (upd H a (.lst ws))) (rw' : RpA p F H ws es) :
    St p x F σ (upd H a (.lst ws)) (ρ.set i (some (.list es))) s ∧ Ext p F H F (upd H a (.lst ws)) := by
  obtain ⟨a', vs', ds', ed, h1, h2, h3, h4, h5, h6⟩ := t.relO i _ e1 hi
  rw [e2] at h1
  cases h1
  have up : ∀ b o, H b = some o → ¬ F b → (upd H a (.lst ws)) b = some o := fun b o e n => by rw [upd_ne (fun z => n (by rw [z]; exact h3))]; exact e
  have there : ∀ b, H b ≠ none → (upd H a (.lst ws)) b ≠ none := fun b n => by
    by_cases z : b = a
    · rw [z, upd_same]; simp
    · rw [upd_ne z]; exact n
  have hl : i < ρ.length := (List.getElem?_eq_some_iff.mp e1).1
  have out : ∀ {j : Nat} {e : PyData}, (ρ.set i (some (.list es)))[j]? = some (some e) → (j = i ∧ e = .list es) ∨ (j ≠ i ∧ ρ[j]? = some (some e)) := fun {j e} h => by
    by_cases hij : i = j
    · subst hij
      rw [List.getElem?_set_self hl] at h
      exact .inl ⟨rfl, (Option.some.inj (Option.some.inj h)).symm⟩
    · rw [List.getElem?_set_ne hij] at h
      exact .inr ⟨fun z => hij z.symm, h⟩
  have src : ∀ {j : Nat} {e : PyData}, (ρ.set i (some (.list es)))[j]? = some (some e) → ∃ e', ρ[j]? = some (some e') := fun {j e} h => by
    rcases out h with ⟨rfl, _⟩ | ⟨_, h⟩
    · exact ⟨_, e1⟩
    · exact ⟨_, h⟩
  refine ⟨⟨by simp [t.len], fun j e h hj => ?_, fun j e h hj => ?_, fun j1 j2 e1' e2' b h1 h2 q1 q2 q3 q4 => ?_, ⟨by rw [upd_ne (fun z => h5 z.symm)]; exact t.dr.at0, SqL.fr t.dr.cells fun o e => up _ _ e t.fc, t.dr.ne⟩, g, fun b f => there b (t.tr b f), t.fa, t.fc, t.sf, fun b o e n => ?_, fun b n => there b (t.th b n)⟩, fun _ h => h, fun b h n => absurd h n, up⟩
  · rcases out h with ⟨rfl, _⟩ | ⟨hne, h⟩
    · exact absurd hi hj
    · obtain ⟨v, k1, k2⟩ := t.rel j e h hj
      exact ⟨v, k1, k2.fr up⟩
  · rcases out h with ⟨rfl, rfl⟩ | ⟨hne, h⟩
    · exact ⟨a, ws, es, rfl, e2, upd_same, h3, h4, h5, rw'.fr up⟩
    · obtain ⟨b, us, cs, k1, k2, k3, k4, k5, k6, k7⟩ := t.relO j e h hj
      have nb : b ≠ a := fun z => hne (t.inj j i e _ a hj hi h e1 (by rw [k2, z]) e2)
      exact ⟨b, us, cs, k1, k2, by rw [upd_ne nb]; exact k3, k4, k5, k6, k7.fr up⟩
  · obtain ⟨c1, q1⟩ := src q1
    obtain ⟨c2, q2⟩ := src q2
    exact t.inj j1 j2 c1 c2 b h1 h2 q1 q2 q3 q4
  · have z : b ≠ a := fun z => by rw [z, h4] at e; cases e
    rw [upd_ne z]
    exact t.fr b o e n
end
end EV
end

section
set_option Elab.async false
set_option linter.all false
set_option autoImplicit false
set_option maxRecDepth 100000
/-! EvChkS: is a statement of the model this small one? -/
namespace EV
open PySem PySem.Spec PyProof.Rows L2

def notComp : Expr → Bool
  | .ListComp .. => false
  | .SetComp .. => false
  | .DictComp .. => false
  | _ => true
theorem sw_not {e : Expr} {t : Option Expr} {l : Nat} {env : PySem.Env} (h : notComp e = true) : swapsWith e t l env = pure false := by
  cases e <;> first | rfl | (simp [notComp] at h)
theorem sws_not {e t : Expr} {l : Nat} {env : PySem.Env} (h : notComp e = true) : swapsWithSole [t] e l env = pure false := sw_not h
def notTup : Expr → Bool
  | .Tuple .. => false
  | _ => true
theorem ss_not {e t : Expr} {env : PySem.Env} (h : notTup e = true) : swappedStores [t] e env = pure none := by
  cases e <;> first | (simp [notTup] at h; done) | (cases t <;> rfl)
/-- a comprehension whose name does not swap: the name is a cell -/
theorem sw_cell {el : Expr} {gs : List Comprehension} {sc : Scope} {pos py : Pos} {y : Str} {l : Nat} {env : PySem.Env} (hy : env.scope.names.lookup y = some .cell) : swapsWith (.ListComp el gs sc pos) (some (.Name y py)) l env = pure false := by
  have ky : env.kindOf y = some .cell := hy
  unfold swapsWith
  simp only [ky]
  have e : (some NameKind.cell == some NameKind.local) = false := by decide
  rw [e]
  simp
def asAsg : Stmt → Option (Expr × Expr × Nat)
  | .Assign [t] e p => some (t, e, p.line)
  | _ => none
theorem asAsg_eq {st : Stmt} {t e : Expr} {l : Nat} (h : asAsg st = some (t, e, l)) : ∃ p, st = .Assign [t] e p ∧ l = p.line := by
  unfold asAsg at h
  split at h
  · simp only [Option.some.injEq, Prod.mk.injEq] at h
    obtain ⟨rfl, rfl, rfl⟩ := h
    exact ⟨_, rfl, rfl⟩
  · cases h
def asExpr : Stmt → Option Expr
  | .Expr e _ => some e
  | _ => none
theorem asExpr_eq {st : Stmt} {e : Expr} (h : asExpr st = some e) : ∃ p, st = .Expr e p := by
  unfold asExpr at h
  split at h
  · cases h; exact ⟨_, rfl⟩
  · cases h
def asRet : Stmt → Option (Option Expr)
  | .Return e _ => some e
  | _ => none
theorem asRet_eq {st : Stmt} {e : Option Expr} (h : asRet st = some e) : ∃ p, st = .Return e p := by
  unfold asRet at h
  split at h
  · cases h; exact ⟨_, rfl⟩
  · cases h
def asIfS : Stmt → Option (Expr × List Stmt × List Stmt)
  | .If c a b _ => some (c, a, b)
  | _ => none
theorem asIfS_eq {st : Stmt} {c : Expr} {a b : List Stmt} (h : asIfS st = some (c, a, b)) : ∃ p, st = .If c a b p := by
  unfold asIfS at h
  split at h
  · cases h; exact ⟨_, rfl⟩
  · cases h
def asFor : Stmt → Option (Expr × Expr × List Stmt)
  | .For t i b [] _ => some (t, i, b)
  | _ => none
theorem asFor_eq {st : Stmt} {t i : Expr} {b : List Stmt} (h : asFor st = some (t, i, b)) : ∃ p, st = .For t i b [] p := by
  unfold asFor at h
  split at h
  · cases h; exact ⟨_, rfl⟩
  · cases h
def asWhile : Stmt → Option (Expr × List Stmt)
  | .While c b [] _ => some (c, b)
  | _ => none
theorem asWhile_eq {st : Stmt} {c : Expr} {b : List Stmt} (h : asWhile st = some (c, b)) : ∃ p, st = .While c b [] p := by
  unfold asWhile at h
  split at h
  · cases h; exact ⟨_, rfl⟩
  · cases h
/-- raise X('m') -/
def asRaise : Stmt → Option (Str × Expr)
  | .Raise (some (.Call (.Name x _) [e] [] _)) none _ => some (x, e)
  | _ => none
theorem asRaise_eq {st : Stmt} {x : Str} {e : Expr} (h : asRaise st = some (x, e)) : ∃ p1 p2 p3, st = .Raise (some (.Call (.Name x p1) [e] [] p2)) none p3 := by
  unfold asRaise at h
  split at h
  · cases h; exact ⟨_, _, _, rfl⟩
  · cases h
def asStr : Expr → Option Str
  | .Constant (.str m) _ _ => some m
  | _ => none
theorem asStr_eq {e : Expr} {m : Str} (h : asStr e = some m) : ∃ j p, e = .Constant (.str m) j p := by
  unfold asStr at h
  split at h
  · cases h; exact ⟨_, _, rfl⟩
  · cases h
def asAug : Stmt → Option (Expr × Operator × Expr)
  | .AugAssign t o e _ => some (t, o, e)
  | _ => none
theorem asAug_eq {st : Stmt} {t e : Expr} {o : Operator} (h : asAug st = some (t, o, e)) : ∃ p, st = .AugAssign t o e p := by
  unfold asAug at h
  split at h
  · cases h; exact ⟨_, rfl⟩
  · cases h

/-- how a name's value must come -/
def mdO (own : List Nat) (i : Nat) : Md := if own.contains i then .fresh else .strict
/-- x.m(a, b), one by one -/
def augB : Bop → Operator → Bool
  | .add, .Add => true
  | .sub, .Sub => true
  | _, _ => false

/-- the kind of a name -/
def locN (sc : Scope) (x : Str) : Bool := match sc.names.lookup x with
  | some .local => true
  | _ => false
def celN (sc : Scope) (x : Str) : Bool := match sc.names.lookup x with
  | some .cell => true
  | _ => false
/-- does the value's comprehension swap with the name's store? some b: surely b -/
def swB (sc : Scope) (y : Str) (ly : Nat) (e : Expr) : Option Bool := match e with
  | .ListComp _ _ scope pos => if celN sc y = true then some false else if locN sc y && (ly == pos.line) && !(scope.names.any fun (n, k) => n == y && (k == .local || k == .cell)) then some true else none
  | .SetComp .. => none
  | .DictComp .. => none
  | _ => some false
/-- two or three plain local names on one line -/
def parB (sc : Scope) (ts vs : List Expr) : Bool := match ts, vs with
  | [.Name x px, .Name y py, .Name z pz], [a, b, c] => locN sc x && locN sc y && locN sc z && (py.line == px.line) && (pz.line == px.line) && decide (x ≠ y) && decide (x ≠ z) && decide (y ≠ z) && notStar a && notStar b && notStar c && !([a, b, c].all (foldedForSure 8)) && !([a, b, c].all (constantsAlone 8))
  | [.Name x px, .Name y py], [a, b] => locN sc x && locN sc y && (py.line == px.line) && decide (x ≠ y) && notStar a && notStar b && !([a, b].all (foldedForSure 8)) && !([a, b].all (constantsAlone 8))
  | _, _ => false
/-- one of the names is a cell -/
def cellB (sc : Scope) (ts : List Expr) : Bool := ts.any fun t => match t with
  | .Name x _ => !locN sc x
  | _ => true

section
variable (g : Glb) (N : List Str) (own : List Nat) (fr : Bool)
mutual
def chkS : Nat → Scope → Stmt → S → Bool
  | 0, _, _, _ => false
  | k + 1, sc, st, s' => match s' with
    | .expr e => (match asExpr st with
      | some x => notComp x && chkE g N own k .strict sc x e
      | none => false)
    | .set i e => (match asAsg st with
      | some (.Name y py, x, _) => decide (N[i]? = some y) && locB sc y && (swB sc y py.line x).isSome && chkE g N own k (if own.contains i then .fresh else .strict) sc x e
      | _ => false)
    | .par ts as => (match asAsg st with
      | some (.Tuple [.Name y py, .Name z pz] _ _, .Tuple [a, b] _ _, _) => parB sc [.Name y py, .Name z pz] [a, b] && (match ts, as with
        | .tcons (.nm i) (.tcons (.nm j) .tnil), .cons ea (.cons eb .nil) => decide (N[i]? = some y) && decide (N[j]? = some z) && decide (i ≠ j) && chkE g N own k (mdO own i) sc a ea && chkE g N own k (mdO own j) sc b eb
        | _, _ => false)
      | some (.Tuple [.Name y py, .Name z pz, .Name w pw] _ _, .Tuple [a, b, d] _ _, _) => parB sc [.Name y py, .Name z pz, .Name w pw] [a, b, d] && (match ts, as with
        | .tcons (.nm i) (.tcons (.nm j) (.tcons (.nm l) .tnil)), .cons ea (.cons eb (.cons ed .nil)) => decide (N[i]? = some y) && decide (N[j]? = some z) && decide (N[l]? = some w) && decide (i ≠ j) && decide (i ≠ l) && decide (j ≠ l) && chkE g N own k (mdO own i) sc a ea && chkE g N own k (mdO own j) sc b eb && chkE g N own k (mdO own l) sc d ed
        | _, _ => false)
      | _ => false)
    | .unp ts e => (match asAsg st with
      | some (.Tuple tes kt pt, x, _) => notComp x && (notTup x || cellB sc tes) && chkTg N sc k (.Tuple tes kt pt) (.tup ts) && ownFree own ts && chkE g N own k .strict sc x e
      | _ => false)
    | .app i e => (match asExpr st with
      | some x => (match asMeth x with
        | some (.Name y _, nm, [a], true) => decide (nm = ("append" : Str)) && decide (N[i]? = some y) && visB sc y && okName y && own.contains i && notStar a && chkE g N own k .strict sc a e
        | _ => false)
      | none => false)
    | .aug i o e => (match asAug st with
      | some (.Name y _, q, z) => augB o q && decide (N[i]? = some y) && locB sc y && !own.contains i && chkE g N own k .strict sc z e
      | _ => false)
    | .augs i kx o e => (match asAug st with
      | some (t, q, z) => (match asSub t with
        | some (.Name y _, w) => notSlice w && augB o q && decide (N[i]? = some y) && visB sc y && okName y && own.contains i && chkE g N own k .strict sc w kx && chkE g N own k .strict sc z e
        | _ => false)
      | _ => false)
    | .seti i kx e => (match asAsg st with
      | some (t, z, _) => (match asSub t with
        | some (.Name y _, w) => notSlice w && decide (N[i]? = some y) && visB sc y && okName y && own.contains i && notComp z && chkE g N own k .strict sc w kx && chkE g N own k .strict sc z e
        | _ => false)
      | _ => false)
    | .ins i kx e => (match asExpr st with
      | some x => (match asMeth x with
        | some (.Name y _, nm, [w, a], true) => decide (nm = ("insert" : Str)) && decide (N[i]? = some y) && visB sc y && okName y && own.contains i && notStar w && notStar a && chkE g N own k .strict sc w kx && chkE g N own k .strict sc a e
        | _ => false)
      | none => false)
    | .popAt j i kx => (match asAsg st with
      | some (.Name z _, x, _) => (match asMeth x with
        | some (.Name y _, nm, [w], true) => decide (nm = ("pop" : Str)) && decide (N[i]? = some y) && visB sc y && okName y && own.contains i && notStar w && decide (N[j]? = some z) && locB sc z && !own.contains j && chkE g N own k .strict sc w kx
        | _ => false)
      | _ => false)
    | .appPop j i kx => (match asExpr st with
      | some x => (match asMeth x with
        | some (.Name z _, nm, [x2], true) => (match asMeth x2 with
          | some (.Name y _, nm2, [w], true) => decide (nm = ("append" : Str)) && decide (nm2 = ("pop" : Str)) && decide (N[i]? = some y) && visB sc y && okName y && own.contains i && decide (N[j]? = some z) && visB sc z && okName z && own.contains j && notStar w && decide (i ≠ j) && notStar x2 && chkE g N own k .strict sc w kx
          | _ => false)
        | _ => false)
      | none => false)
    | .ite c a b => (match asIfS st with
      | some (x, y, z) => chkT g N own k sc x c && chkSs k sc y a && chkSs k sc z b
      | none => false)
    | .forr tg it b => (match asFor st with
      | some (t, i, y) => notSet i && tgI tg it && chkTg N sc k t tg && ownFree own tg && chkI g N own k .strict sc i it && chkSs k sc y b
      | none => false)
    | .whl c b => (match asWhile st with
      | some (x, y) => chkT g N own k sc x c && chkSs k sc y b
      | none => false)
    | .ret e => (match asRet st with
      | some (some x) => if fr = true then (match e with
          | .var i => own.contains i && chkE g N own k .borrow sc x (.var i)
          | e => chkE g N own k .fresh sc x e) else chkE g N own k .strict sc x e
      | _ => false)
    | .retN => (match asRet st with
      | some none => true
      | _ => false)
    | .raiM m => (match asRaise st with
      | some (x, e) => decide (x = ("Malformed" : Str)) && gloB sc x && (match asStr e with
        | some y => decide (m = y)
        | none => false)
      | none => false)
    | .raiR e => (match e with
      | .con (.str m) => (match asRaise st with
        | some (x, y) => decide (x = ("Refused" : Str)) && gloB sc x && g.rf && (match asStr y with
          | some z => decide (m = z)
          | none => false)
        | none => false)
      | _ => false)
    | .sdrw i j e => (match asAsg st with
      | some (t, x, _) => drB N own sc t i j && decide (1 ≤ j) && decide (j ≤ 3) && notComp x && chkE g N own k .borrow sc x e
      | _ => false)
    | .brk => (match st with
      | .Break _ => true
      | _ => false)
    | .cnt => (match st with
      | .Continue _ => true
      | _ => false)
    | .pas => (match st with
      | .Pass _ => true
      | _ => false)
    | _ => false
def chkSs : Nat → Scope → List Stmt → S → Bool
  | 0, _, _, _ => false
  | k + 1, sc, sts, s' => match sts, s' with
    | [], .nil => true
    | st :: r, .seq a b => chkS k sc st a && chkSs k sc r b
    | _, _ => false
end
end

/-! ### the stores of a pair -/
theorem locN_eq {sc : Scope} {x : Str} (h : locN sc x = true) : sc.names.lookup x = some .local := by
  unfold locN at h
  split at h
  · rename_i e; exact e
  · cases h
theorem locN_no {sc : Scope} {x : Str} (h : locN sc x = false) : (sc.names.lookup x == some .local) = false := by
  unfold locN at h
  split at h
  · cases h
  · rename_i e
    cases q : (sc.names.lookup x == some NameKind.local) with
    | false => rfl
    | true => exact absurd (by simpa using q) (fun z => e z)
theorem fm_le {α β : Type} (f : α → Option β) : ∀ l : List α, (l.filterMap f).length ≤ l.length
  | [] => Nat.le_refl _
  | a :: r => by
    rw [List.filterMap_cons]
    split
    · exact Nat.le_succ_of_le (fm_le f r)
    · exact Nat.succ_le_succ (fm_le f r)
theorem fm_lt {α β : Type} (f : α → Option β) : ∀ l : List α, (∃ a ∈ l, f a = none) → (l.filterMap f).length < l.length
  | [], h => by obtain ⟨_, h, _⟩ := h; cases h
  | a :: r, h => by
    rw [List.filterMap_cons]
    split
    · exact Nat.lt_succ_of_le (fm_le f r)
    · rename_i b e
      obtain ⟨c, hc, h⟩ := h
      rcases List.mem_cons.mp hc with z | z
      · rw [z] at h; rw [h] at e; cases e
      · exact Nat.succ_lt_succ (fm_lt f r ⟨c, z, h⟩)
theorem ss_cell {ts vs : List Expr} {kt k2 : Nat} {pt p2 : Pos} {env : PySem.Env} (h : cellB env.scope ts = true) : swappedStores [.Tuple ts kt pt] (.Tuple vs k2 p2) env = pure none := by
  obtain ⟨t, ht, hb⟩ := List.any_eq_true.mp h
  unfold swappedStores
  dsimp only
  split
  · rfl
  · split
    · rfl
    · split
      · rfl
      · rename_i h3
        exfalso
        apply h3
        rw [Bool.or_eq_true]
        left
        rw [bne_iff_ne]
        refine Nat.ne_of_lt (fm_lt _ ts ⟨t, ht, ?_⟩)
        cases t with
        | Name x p' =>
          have e : (env.kindOf x == some NameKind.local) = false := locN_no (by simpa using hb)
          simp only [e, Bool.false_and, Bool.false_eq_true, if_false]
        | _ => rfl
theorem ss_two {x y : Str} {px py pt p2 : Pos} {kt k2 : Nat} {a b : Expr} {env : PySem.Env} (hk : env.blockKind = .function) (h : parB env.scope [.Name x px, .Name y py] [a, b] = true) :
    swappedStores [.Tuple [.Name x px, .Name y py] kt pt] (.Tuple [a, b] k2 p2) env = pure (some [x, y]) := by
  unfold parB at h
  simp only [Bool.and_eq_true, decide_eq_true_eq, Bool.not_eq_true'] at h
  obtain ⟨⟨⟨⟨⟨⟨⟨h1, h2⟩, h3⟩, h4⟩, h5⟩, h6⟩, h7⟩, h8⟩ := h
  have kx : env.kindOf x = some .local := locN_eq h1
  have ky : env.kindOf y = some .local := locN_eq h2
  unfold swappedStores
  have hl : ((Expr.Name x px).pos.line) = px.line := rfl
  have s1 : ([a, b].any fun | .Starred .. => true | _ => false) = false := by
    simp only [List.any_cons, List.any_nil, Bool.or_false, Bool.or_eq_false_iff]
    constructor
    · cases a <;> first | rfl | (simp [notStar] at h5)
    · cases b <;> first | rfl | (simp [notStar] at h6)
  have hl2 : ((Option.map (fun (x : Expr) => x.pos.line) [Expr.Name x px, Expr.Name y py].head?).getD 0) = px.line := rfl
  dsimp only
  have e0 : (some NameKind.local == some NameKind.local) = true := by decide
  have e1 : (px.line == px.line) = true := by simp
  have ed : [x, y].eraseDups = [x, y] := by
    rw [List.eraseDups_cons, List.filter_cons]
    have : (y == x) = false := by simpa using fun z => h4 z.symm
    simp [this, List.eraseDups_cons]
  split
  · rename_i z; exfalso; simp [hk] at z
  · split
    · rename_i z; exact absurd (s1.symm.trans z) (by decide)
    · have key : ∀ (ns : List Str), ns = [x, y] → (if (ns.length != [Expr.Name x px, Expr.Name y py].length || ns.eraseDups.length != ns.length) = true then (pure none : Sem (Option (List Str))) else if [a, b].all (foldedForSure 8) = true then pure none else if [a, b].all (constantsAlone 8) = true then (do
          unsupported "assign.tuple-of-constant-expressions:order-of-the-stores"
          pure (some ns)) else pure (some ns)) = pure (some [x, y]) := by
        intro ns e
        subst e
        rw [ed, h7, h8]
        rfl
      refine key _ ?_
      simp only [List.filterMap_cons, List.filterMap_nil, kx, ky, e0, e1, h3, Bool.and_self, if_true, List.head?_cons, Option.map_some, Option.getD_some, Expr.pos]
theorem ss_three {x y z : Str} {px py pz pt p2 : Pos} {kt k2 : Nat} {a b c : Expr} {env : PySem.Env} (hk : env.blockKind = .function) (h : parB env.scope [.Name x px, .Name y py, .Name z pz] [a, b, c] = true) :
    swappedStores [.Tuple [.Name x px, .Name y py, .Name z pz] kt pt] (.Tuple [a, b, c] k2 p2) env = pure (some [x, y, z]) := by
  unfold parB at h
  simp only [Bool.and_eq_true, decide_eq_true_eq, Bool.not_eq_true'] at h
  obtain ⟨⟨⟨⟨⟨⟨⟨⟨⟨⟨⟨⟨h1, h2⟩, h2'⟩, h3⟩, h3'⟩, h4⟩, h4'⟩, h4''⟩, h5⟩, h6⟩, h6'⟩, h7⟩, h8⟩ := h
  have kx : env.kindOf x = some .local := locN_eq h1
  have ky : env.kindOf y = some .local := locN_eq h2
  have kz : env.kindOf z = some .local := locN_eq h2'
  unfold swappedStores
  have s1 : ([a, b, c].any fun | .Starred .. => true | _ => false) = false := by
    simp only [List.any_cons, List.any_nil, Bool.or_false, Bool.or_eq_false_iff]
    refine ⟨?_, ?_, ?_⟩
    · cases a <;> first | rfl | (simp [notStar] at h5)
    · cases b <;> first | rfl | (simp [notStar] at h6)
    · cases c <;> first | rfl | (simp [notStar] at h6')
  dsimp only
  have e0 : (some NameKind.local == some NameKind.local) = true := by decide
  have e1 : (px.line == px.line) = true := by simp
  have ed : [x, y, z].eraseDups = [x, y, z] := by
    have q1 : (y == x) = false := by simpa using fun z => h4 z.symm
    have q2 : (z == x) = false := by simpa using fun z => h4' z.symm
    have q3 : (z == y) = false := by simpa using fun z => h4'' z.symm
    simp [List.eraseDups_cons, List.filter_cons, q1, q2, q3]
  split
  · rename_i q; exfalso; simp [hk] at q
  · split
    · rename_i q; exact absurd (s1.symm.trans q) (by decide)
    · have key : ∀ (ns : List Str), ns = [x, y, z] → (if (ns.length != [Expr.Name x px, Expr.Name y py, Expr.Name z pz].length || ns.eraseDups.length != ns.length) = true then (pure none : Sem (Option (List Str))) else if [a, b, c].all (foldedForSure 8) = true then pure none else if [a, b, c].all (constantsAlone 8) = true then (do
          unsupported "assign.tuple-of-constant-expressions:order-of-the-stores"
          pure (some ns)) else pure (some ns)) = pure (some [x, y, z]) := by
        intro ns e
        subst e
        rw [ed, h7, h8]
        rfl
      refine key _ ?_
      simp only [List.filterMap_cons, List.filterMap_nil, kx, ky, kz, e0, e1, h3, h3', Bool.and_self, if_true, List.head?_cons, Option.map_some, Option.getD_some, Expr.pos]
end EV
end

section
set_option Elab.async false
set_option linter.all false
set_option autoImplicit false
set_option maxRecDepth 100000
/-! EvStmt2: what the evaluator says of a statement, the model does. -/
namespace EV
open PySem PySem.Spec PyProof.Rows L2

structure SCxt (p : Par) (n : Nat) (x : Fx) (N : List Str) (X : Cx) (sc : Scope) : Prop where
  c : Cxt p n x N X sc
  scE : X.env.scope = sc
  kind : X.env.scope.kind = .function
  own : PassesOwn (model X.prog X.w) X.A X.env X.xe
  tk : Takes X (fun c d _ H => x.W c d H)
  fnt : ∀ y, X.fn y = true
section
variable {p : Par} {g : Glb} {n : Nat} {N : List Str}
variable {x : Fx} {X : Cx} {sc : Scope} {F : Addr → Prop} {σ : L2.St} {H H1 H2 : Hp} {ρ : Env} {s s1 s2 : DS} {own : List Nat} {k : Nat}
theorem bi_list {xs : List D} {d : D} (h : biD .list xs = some d) : ∃ ds, d = .list ds := by
  unfold biD at h
  split at h <;> first | contradiction | (cases h; exact ⟨_, rfl⟩)
theorem bi_sorted {xs : List D} {d : D} (h : biD .sorted xs = some d) : ∃ ds, d = .list ds := by
  unfold biD at h
  split at h <;> first | contradiction | (split at h <;> first | contradiction | (cases h; exact ⟨_, rfl⟩))
theorem bin_mul {xs : List D} {y d : D} (h : binD .mul (.list xs) y = some d) : ∃ ds, d = .list ds := by
  unfold binD at h
  split at h <;> first | contradiction | (split at h <;> first | contradiction | (cases h; exact ⟨_, rfl⟩))
theorem lift_inv {α : Type} {o : Option α} {a : α} (h : R.lift o s = .ok a s1) : o = some a := by
  cases o with
  | none => cases h
  | some b => cases h; rfl
/-- a value that is new is a list -/
theorem fresh_list {T : Tab} {e : E} {m : Nat} {d : D} (h : isFresh T e = true) (hv : ev (run T p.W m) e ρ s = .ok d s1) : ∃ ds, d = .list ds := by
  cases e with
  | lst as =>
    unfold ev at hv
    obtain ⟨xs, s2, _, h2⟩ := bnd_ok_inv hv
    cases h2; exact ⟨_, rfl⟩
  | comp el tg it c =>
    unfold ev at hv
    obtain ⟨xs, s2, _, h2⟩ := bnd_ok_inv hv
    split at h2
    · obtain ⟨ys, s3, _, h3⟩ := bnd_ok_inv h2
      cases h3; exact ⟨_, rfl⟩
    · cases h2
  | lrng as =>
    unfold ev at hv
    obtain ⟨xs, s2, _, h2⟩ := bnd_ok_inv hv
    obtain ⟨ys, s3, _, h3⟩ := bnd_ok_inv h2
    cases h3; exact ⟨_, rfl⟩
  | bi b as =>
    unfold ev at hv
    obtain ⟨xs, s2, _, h2⟩ := bnd_ok_inv hv
    have e2 : biD b xs = some d := by
      cases q : biD b xs with
      | none => rw [q] at h2; cases h2
      | some d' => rw [q] at h2; cases h2; rfl
    cases b <;> simp [isFresh] at h
    · exact bi_list e2
    · exact bi_sorted e2
  | bin o a b =>
    cases o <;> simp [isFresh] at h
    cases a <;> simp [isFresh] at h
    unfold ev at hv
    obtain ⟨xv, s2, h1, h2⟩ := bnd_ok_inv hv
    obtain ⟨yv, s3, _, h3⟩ := bnd_ok_inv h2
    unfold ev at h1
    obtain ⟨xs, s4, _, h4⟩ := bnd_ok_inv h1
    cases h4
    exact bin_mul (lift_inv h3)
  | call f as =>
    simp only [isFresh] at h
    unfold ev at hv
    obtain ⟨xs, s2, _, h2⟩ := bnd_ok_inv hv
    cases m with
    | zero => cases h2
    | succ m =>
      unfold run at h2
      split at h
      · rename_i fi ef
        rw [ef] at h2
        dsimp only at h2
        split at h2
        · obtain ⟨q, s3, _, h3⟩ := bnd_ok_inv h2
          rw [h] at h3
          split at h3
          · split at h3
            · rename_i hd
              cases h3
              cases d <;> simp [isLst] at hd
              exact ⟨_, rfl⟩
            · cases h3
          · cases h3
          · cases h3
        · cases h2
      · cases h
  | _ => simp [isFresh] at h

/-! ### forms -/
theorem SCxt.loc (c : SCxt p n x N X sc) : ∀ y, locB sc y = true → Loc X.env.scope y ∧ (X.fn y = true ∨ X.env.scope.names.lookup y = some .local) := fun y h => ⟨c.c.loc h, .inl (c.fnt y)⟩
/-- name = e -/
theorem set_ps (wf : Wf p g n) {m : Md} {i : Nat} {y : Str} {py pos : Pos} {e : Expr} {e' : E} (ho : x.own = own) (h1 : N[i]? = some y) (h2 : locB sc y = true) (h3 : (swB sc y py.line e).isSome = true) (h4 : chkE g N own (k + 1) m sc e e' = true) (c : SCxt p n x N X sc) :
    PS X (.Assign [.Name y py] e pos) (fun D σ H => tAsg (rE p x m (ev (cf p n) e')) (gName i) { D with nx := fun σ H => Good p H → D.nx σ H } σ H) := by
  have ih := eok (N := N) wf own k
  have pe := (eok (N := N) wf own (k + 1)).e m sc e e' x X ho h4 c.c
  have hi : X.N[i]? = some y := by rw [c.c.hN]; exact h1
  have plain : swapsWith e (some (.Name y py)) pos.line X.env = pure false → PS X (.Assign [.Name y py] e pos) (fun D σ H => tAsg (rE p x m (ev (cf p n) e')) (gName i) { D with nx := fun σ H => Good p H → D.nx σ H } σ H) := fun hs =>
    PS.imp (PS.good c.c.hK (ps_set c.c.nd hi (c.c.loc h2) pe hs (.inl (c.fnt y)))) fun D σ H q => q
  cases e with
  | ListComp el gs scope cpos =>
    unfold swB at h3
    dsimp only at h3
    by_cases hc : celN sc y = true
    · refine plain (sw_cell ?_)
      rw [c.scE]
      unfold celN at hc
      split at hc
      · rename_i z; exact z
      · cases hc
    · rw [if_neg hc] at h3
      by_cases hl : (locN sc y && (py.line == cpos.line) && !(scope.names.any fun (n, k) => n == y && (k == .local || k == .cell))) = true
      · simp only [Bool.and_eq_true, Bool.not_eq_true'] at hl
        have hyl : X.env.scope.names.lookup y = some .local := by rw [c.scE]; exact locN_eq hl.1.1
        unfold chkE at h4
        rw [Bool.and_eq_true] at h4
        cases e' with
        | comp elt tg it cc =>
          obtain ⟨y', t, i', ifs, scope', pos', ee, hn, htg, bk, pg, pt, pe', imp⟩ := comp_parts (m := m) wf ih ho h4.2 c.c
          cases ee
          have sw : swapsWith (.ListComp el [⟨t, i', ifs, 0⟩] scope cpos) (some (.Name y py)) pos.line X.env = pure true := sw_true c.kind hyl hl.1.2 hl.2
          refine PS.imp (PS.good c.c.hK (ps_setLc c.c.calm c.c.nd hi hyl sw htg bk pg pt pe' fun v => folded_not hn v)) fun D σ H q => ?_
          refine imp σ H (fun v H1 => D.nx (σ.set i (some v)) H1) ?_
          obtain ⟨F, ρ, s, st, q⟩ := q
          exact ⟨F, ρ, s, st, q.imp fun d s1 H1 _ f1 d1 g1 q1 v rv => q1 v rv g1⟩
        | lrng _ => have h4 := h4.2; simp [asCall] at h4
        | drw _ _ => have h4 := h4.2; simp [drB, asSub] at h4
        | ncel _ => have h4 := h4.2; simp [asCall] at h4
        | cel _ _ => have h4 := h4.2; simp [asSub] at h4
        | con d =>
          have h4 := h4.2
          simp [asCon] at h4
        | _ => have h4 := h4.2; simp [asName, asBin, asUn, asBool, asIf, asCmp, asSub, asTup, asLst, asCall, asMeth] at h4
      · rw [if_neg hl] at h3; cases h3
  | SetComp el gs sc2 cpos => simp [swB] at h3
  | DictComp a b gs sc2 cpos => simp [swB] at h3
  | _ => exact plain rfl
/-- the end of an assignment -/
theorem set_end {i : Nat} {m : Md} {e' : E} (hm : m ≠ .borrow) (hi : (i ∈ x.own ∧ m = .fresh ∧ isFresh p.T e' = true) ∨ (i ∉ x.own)) {D : Ends} (q : rS p x (evS (cf p n) p.W (.set i e')) D σ H) : tAsg (rE p x m (ev (cf p n) e')) (gName i) { D with nx := fun σ H => Good p H → D.nx σ H } σ H := by
  obtain ⟨F, ρ, s, st, q⟩ := q
  unfold evS at q
  refine ⟨F, ρ, s, st, (q.exp0 st).imp fun d s1 H1 er f1 d1 g1 q1 v rv _ => ?_⟩
  have st1 := st.step f1 d1 g1
  rcases hi with ⟨hi, rfl, hf⟩ | hi
  · obtain ⟨ds, rfl⟩ := fresh_list hf er
    obtain ⟨a, vs, rfl, hn, ha, ra⟩ := (show RF p F H H1 v (.list ds) from rv)
    obtain ⟨st2, e2⟩ := St.own st f1 d1 g1 hi hn ha ra
    exact q1 _ _ _ e2 st2
  · have r : Rp p F H1 v d := by
      cases m with
      | strict => exact rv
      | borrow => exact absurd rfl hm
      | fresh => exact RF.rp (show RF p F H H1 v d from rv) st.tr
    exact q1 F _ H1 (Ext.of f1 st.fa) (st1.set hi r)
end
end EV
end

section
set_option Elab.async false
set_option linter.all false
set_option autoImplicit false
set_option maxRecDepth 100000
/-! EvStmt3: statements, by induction on the checker's fuel. -/
namespace EV
open PySem PySem.Spec PyProof.Rows L2

section
variable {p : Par} {g : Glb} {n : Nat} {N : List Str}
variable {x : Fx} {X : Cx} {sc : Scope} {F : Addr → Prop} {σ : L2.St} {H H1 H2 : Hp} {ρ : Env} {s s1 s2 : DS} {own : List Nat} {fr : Bool} {k : Nat}
structure SOk (p : Par) (g : Glb) (n : Nat) (N : List Str) (own : List Nat) (fr : Bool) (k : Nat) : Prop where
  s : ∀ sc st s' x X, x.own = own → x.fresh = fr → chkS g N own fr k sc st s' = true → SCxt p n x N X sc → PS X st (rS p x (evS (cf p n) p.W s'))
  ss : ∀ sc sts s' x X, x.own = own → x.fresh = fr → chkSs g N own fr k sc sts s' = true → SCxt p n x N X sc → PSs X sts (rS p x (evS (cf p n) p.W s'))

theorem case_expr (wf : Wf p g n) {st : Stmt} {e : E} (ho : x.own = own) (h : (match asExpr st with
      | some y => notComp y && chkE g N own k .strict sc y e
      | none => false) = true) (c : SCxt p n x N X sc) : PS X st (rS p x (evS (cf p n) p.W (.expr e))) := by
  split at h
  · rename_i y ey
    simp only [Bool.and_eq_true] at h
    obtain ⟨pos, rfl⟩ := asExpr_eq ey
    refine PS.imp (ps_expr ((eok wf own k).e .strict sc y e x X ho h.2 c.c) (sw_not h.1)) fun D σ H ⟨F, ρ, s, st, q⟩ => ?_
    unfold evS at q
    exact ⟨F, ρ, s, st, (q.exp st).imp fun d s1 H1 _ f1 d1 g1 q1 v rv => q1.next (st.step f1 d1 g1)⟩
  · cases h
theorem case_set (wf : Wf p g n) {st : Stmt} {i : Nat} {e : E} (ho : x.own = own) (h : (match asAsg st with
      | some (.Name y py, z, _) => decide (N[i]? = some y) && locB sc y && (swB sc y py.line z).isSome && chkE g N own k (if own.contains i then .fresh else .strict) sc z e
      | _ => false) = true) (c : SCxt p n x N X sc) : PS X st (rS p x (evS (cf p n) p.W (.set i e))) := by
  split at h
  · rename_i y py z l ey
    simp only [Bool.and_eq_true, decide_eq_true_eq] at h
    obtain ⟨⟨⟨h1, h2⟩, h3⟩, h4⟩ := h
    obtain ⟨pos, rfl, _⟩ := asAsg_eq ey
    cases k with
    | zero => simp [chkE] at h4
    | succ k =>
      refine PS.imp (set_ps wf ho h1 h2 h3 h4 c) fun D σ H q => set_end ?_ ?_ q
      · split <;> simp
      · by_cases hi : own.contains i = true
        · rw [if_pos hi] at h4
          left
          refine ⟨by rw [ho]; simpa using hi, if_pos hi, ?_⟩
          unfold chkE at h4
          rw [Bool.and_eq_true, if_pos rfl] at h4
          rw [wf.hT]
          exact h4.1
        · right
          rw [ho]
          simpa using hi
  · cases h
/-- a value evaluated, then bound: the state to go on with, the state that holds it -/
theorem bind_one {e' : E} {m' : Nat} {i : Nat} {d : D} {v : V} {σT : L2.St} {ρT : Env} (ho : x.own = own) (st : St p x F σ H ρ s) (sT : St p x F σT H ρT s) (hf : mdO own i = .fresh → isFresh p.T e' = true) (er : ev (run p.T p.W m') e' ρ s = .ok d s1) (f1 : FrE p H H1) (d1 : Dr p H1 s1) (g1 : Good p H1) (r : relM p (mdO own i) F H H1 v d) :
    ∃ F1, St p x F1 σ H1 ρ s1 ∧ St p x F1 (σT.set i (some v)) H1 (ρT.set i (some d)) s1 ∧ Ext p F H F1 H1 := by
  by_cases hi : own.contains i = true
  · have em : mdO own i = .fresh := if_pos hi
    rw [em] at r
    obtain ⟨ds, rfl⟩ := fresh_list (hf em) er
    obtain ⟨a, vs, rfl, hn, ha, ra⟩ := (show RF p F H H1 v (.list ds) from r)
    obtain ⟨st2, e2⟩ := St.own sT f1 d1 g1 (show i ∈ x.own by rw [ho]; simpa using hi) hn ha ra
    exact ⟨_, St.later st hn f1 d1 g1 ha, st2, e2⟩
  · have em : mdO own i = .strict := if_neg hi
    rw [em] at r
    exact ⟨F, st.step f1 d1 g1, (sT.step f1 d1 g1).set (by rw [ho]; simpa using hi) r, Ext.of f1 st.fa⟩
/-- three names at once -/
def tPar3 (i j l : Nat) (ta : TA) : TS := fun D σ H => ta σ H fun vs H1 => ∃ u v w, vs = [u, v, w] ∧ D.nx (((σ.set i (some u)).set j (some v)).set l (some w)) H1
theorem ps_par3 {X : Cx} {pos : Pos} {i j l : Nat} {x y z : Str} {a b c : Expr} {ta : TA} {px py pz pt : Pos} {kt k2 pt2} (hc : X.calm = true) (hN : X.N.Nodup) (hi : X.N[i]? = some x) (hj : X.N[j]? = some y) (hl : X.N[l]? = some z) (hij : i ≠ j) (hil : i ≠ l) (hjl : j ≠ l)
    (hx : X.env.scope.names.lookup x = some .local) (hy : X.env.scope.names.lookup y = some .local) (hz : X.env.scope.names.lookup z = some .local) (ha : PA X [a, b, c] ta)
    (hw : swappedStores [.Tuple [.Name x px, .Name y py, .Name z pz] kt pt] (.Tuple [a, b, c] k2 pt2) X.env = pure (some [x, y, z]))
    (hs : swapsWithSole [.Tuple [.Name x px, .Name y py, .Name z pz] kt pt] (.Tuple [a, b, c] k2 pt2) pos.line X.env = pure false) :
    PS X (.Assign [.Tuple [.Name x px, .Name y py, .Name z pz] kt pt] (.Tuple [a, b, c] k2 pt2) pos) (tPar3 i j l ta) := by
  refine ⟨fun pins s σ H D I h => ?_⟩
  rw [exec_Assign_arm]
  refine wpAny_bind (wpAny_standAt ?_)
  rw [hs]
  refine wpAny_bind (wpAny_pure ?_)
  rw [if_neg (by decide)]
  refine wpAny_bind (Tuple_ (thn (ha.run _ pins s σ H _ I h) fun us s1 ⟨vs, H1, I1, r1, q1⟩ => ?_))
  obtain ⟨u, v, w, e1, q1⟩ := q1
  subst e1
  obtain ⟨u1, u2, u3, rfl, ru, rv, rw'⟩ : ∃ u1 u2 u3, us = [u1, u2, u3] ∧ RelV u u1 ∧ RelV v u2 ∧ RelV w u3 := by
    cases r1 with
    | cons p q =>
      cases q with
      | cons p' q' =>
        cases q' with
        | cons p2 q2 =>
          cases q2
          exact ⟨_, _, _, rfl, p, p', p2⟩
  refine wpAny_newObj_type ?_ (by show 3 ≤ sizeLine; decide)
  have I2 : Inv X pins σ H1 { s1 with heap := s1.heap.push { cls := .type "tuple", data := .seq [u1, u2, u3].toArray } } := I1.kept (t' := s1.toks) fun b o e => Heap.get?_push_of_some _ e
  rw [hw]
  refine wpAny_bind (wpAny_pure ?_)
  show wpAny (model X.prog X.w) X.A (do rule "assign.swapped-stores"; let items ← unpackItems (.ref s1.heap.objs.size) 3 none; assignInOrder [fun v => bindName X.env z v, fun v => bindName X.env y v, fun v => bindName X.env x v] items.reverse; pure Flow.next) _ _ _
  refine wpAny_bind (wpAny_rule (wpAny_bind (unpackItems_tuple (items := #[u1, u2, u3]) (I.ok.hd hc) (IsTup.new s1.heap _) fun h' hx' => ?_)))
  have I3 := I2.kept (h' := h') (t' := s1.toks) fun b o e => hx' b o (Nat.ne_of_lt (Heap.lt_size e)) e
  show wpAny _ _ (assignInOrder [fun v => bindName X.env z v, fun v => bindName X.env y v, fun v => bindName X.env x v] [u3, u2, u1] >>= fun _ => pure Flow.next) _ _ _
  refine wpAny_bind (assignInOrder_cons (wpAny_bindName (store_ok I3 hN hl (.inl hz) rw' (fun s2 I4 => ?_) (.inr hz))))
  refine assignInOrder_cons (wpAny_bindName (store_ok I4 hN hj (.inl hy) rv (fun s3 I5 => ?_) (.inr hy)))
  refine assignInOrder_cons (wpAny_bindName (store_ok I5 hN hi (.inl hx) ru (fun s4 I6 => assignInOrder_nil (wpAny_pure ?_)) (.inr hx)))
  have e : (((σ.set l (some w)).set j (some v)).set i (some u)) = ((σ.set i (some u)).set j (some v)).set l (some w) := by
    rw [List.set_comm _ _ (Ne.symm hij), List.set_comm _ _ (Ne.symm hil), List.set_comm _ _ (Ne.symm hjl)]
  rw [e] at I6
  exact ⟨_, H1, I6, q1⟩
theorem case_par (wf : Wf p g n) {st : Stmt} {ts : Tg} {as : E} (ho : x.own = own) (h : (match asAsg st with
      | some (.Tuple [.Name y py, .Name z pz] _ _, .Tuple [a, b] _ _, _) => parB sc [.Name y py, .Name z pz] [a, b] && (match ts, as with
        | .tcons (.nm i) (.tcons (.nm j) .tnil), .cons ea (.cons eb .nil) => decide (N[i]? = some y) && decide (N[j]? = some z) && decide (i ≠ j) && chkE g N own k (mdO own i) sc a ea && chkE g N own k (mdO own j) sc b eb
        | _, _ => false)
      | some (.Tuple [.Name y py, .Name z pz, .Name w pw] _ _, .Tuple [a, b, d] _ _, _) => parB sc [.Name y py, .Name z pz, .Name w pw] [a, b, d] && (match ts, as with
        | .tcons (.nm i) (.tcons (.nm j) (.tcons (.nm l) .tnil)), .cons ea (.cons eb (.cons ed .nil)) => decide (N[i]? = some y) && decide (N[j]? = some z) && decide (N[l]? = some w) && decide (i ≠ j) && decide (i ≠ l) && decide (j ≠ l) && chkE g N own k (mdO own i) sc a ea && chkE g N own k (mdO own j) sc b eb && chkE g N own k (mdO own l) sc d ed
        | _, _ => false)
      | _ => false) = true) (c : SCxt p n x N X sc) : PS X st (rS p x (evS (cf p n) p.W (.par ts as))) := by
  have bk : X.env.blockKind = .function := by unfold PySem.Env.blockKind; rw [c.kind]; rfl
  have frs : ∀ {q : Nat} {e0 : Expr} {e' : E}, chkE g N own k (mdO own q) sc e0 e' = true → mdO own q = .fresh → isFresh p.T e' = true := fun {q e0 e'} h em => by
    cases k with
    | zero => simp [chkE] at h
    | succ k =>
      unfold chkE at h
      rw [Bool.and_eq_true, em, if_pos rfl] at h
      rw [wf.hT]
      exact h.1
  split at h
  · rename_i y py z pz kt pt a b k2 p2 l ey
    rw [Bool.and_eq_true] at h
    obtain ⟨hb, h⟩ := h
    obtain ⟨pos, rfl, _⟩ := asAsg_eq ey
    split at h
    · rename_i i j ea eb
      simp only [Bool.and_eq_true, decide_eq_true_eq] at h
      obtain ⟨⟨⟨⟨hi, hj⟩, hij⟩, h1⟩, h2⟩ := h
      have hb' := hb
      unfold parB at hb'
      simp only [Bool.and_eq_true, decide_eq_true_eq, Bool.not_eq_true'] at hb'
      obtain ⟨⟨⟨⟨⟨⟨⟨l1, l2⟩, l3⟩, l4⟩, l5⟩, l6⟩, l7⟩, l8⟩ := hb'
      have pa := pa_cons ((eok wf own k).e (mdO own i) sc a ea x X ho h1 c.c) (pa_cons ((eok wf own k).e (mdO own j) sc b eb x X ho h2 c.c) pa_nil (star_one l6)) (star_one l5)
      refine PS.imp (ps_par (i := i) (j := j) c.c.calm c.c.nd (by rw [c.c.hN]; exact hi) (by rw [c.c.hN]; exact hj) hij (by rw [c.scE]; exact locN_eq l1) (by rw [c.scE]; exact locN_eq l2) pa (ss_two bk (by rw [c.scE]; exact hb)) (sws_not rfl)) fun D σ H ⟨F, ρ, s, st, q⟩ => ?_
      unfold evS at q
      have q : SO p x F H ((ev (cf p n) ea ρ s).bnd fun u s => (ev (cf p n) eb ρ s).bnd fun w s => .ok (.next, (ρ.set i (some u)).set j (some w)) s) D := by
        unfold evA at q
        cases r1 : ev (cf p n) ea ρ s with
        | stuck => rw [r1] at q; exact q
        | err xn s' => rw [r1] at q; exact q
        | ok u s1 =>
          rw [r1] at q
          unfold evA at q
          cases r2 : ev (cf p n) eb ρ s1 with
          | stuck => simp only [bnd_ok, r2, bnd_stuck] at q ⊢; exact q
          | err xn s' => simp only [bnd_ok, r2, bnd_err] at q ⊢; exact q
          | ok w s2 =>
            simp only [bnd_ok, r2] at q ⊢
            unfold evA at q
            exact q
      refine ⟨F, ρ, s, st, (q.exp0 st).imp fun d s1 H1 er1 f1 d1 g1 q1 v rv => ?_⟩
      obtain ⟨F1, stE, stT, x1⟩ := bind_one ho st st (frs h1) er1 f1 d1 g1 rv
      refine ⟨F1, ρ, s1, stE, ((q1.mono x1).exp0 stE).imp fun d' s2 H2 er2 f2 d2 g2 q2 w rw' => ?_⟩
      obtain ⟨F2, stE2, stT2, x2⟩ := bind_one ho stE stT (frs h2) er2 f2 d2 g2 rw'
      exact ⟨v, w, rfl, q2 _ _ _ x2 stT2⟩
    · cases h
  · rename_i y py z pz w pw kt pt a b d k2 p2 ln ey
    rw [Bool.and_eq_true] at h
    obtain ⟨hb, h⟩ := h
    obtain ⟨pos, rfl, _⟩ := asAsg_eq ey
    split at h
    · rename_i i j l ea eb ed
      simp only [Bool.and_eq_true, decide_eq_true_eq] at h
      obtain ⟨⟨⟨⟨⟨⟨⟨⟨hi, hj⟩, hl⟩, hij⟩, hil⟩, hjl⟩, h1⟩, h2⟩, h3⟩ := h
      have hb' := hb
      unfold parB at hb'
      simp only [Bool.and_eq_true, decide_eq_true_eq, Bool.not_eq_true'] at hb'
      obtain ⟨⟨⟨⟨⟨⟨⟨⟨⟨⟨⟨⟨l1, l2⟩, l2'⟩, _⟩, _⟩, _⟩, _⟩, _⟩, l5⟩, l6⟩, l6'⟩, _⟩, _⟩ := hb'
      have pa := pa_cons ((eok wf own k).e (mdO own i) sc a ea x X ho h1 c.c) (pa_cons ((eok wf own k).e (mdO own j) sc b eb x X ho h2 c.c) (pa_cons ((eok wf own k).e (mdO own l) sc d ed x X ho h3 c.c) pa_nil (star_one l6')) (star_one l6)) (star_one l5)
      refine PS.imp (ps_par3 (i := i) (j := j) (l := l) c.c.calm c.c.nd (by rw [c.c.hN]; exact hi) (by rw [c.c.hN]; exact hj) (by rw [c.c.hN]; exact hl) hij hil hjl (by rw [c.scE]; exact locN_eq l1) (by rw [c.scE]; exact locN_eq l2) (by rw [c.scE]; exact locN_eq l2') pa (ss_three bk (by rw [c.scE]; exact hb)) (sws_not rfl)) fun D σ H ⟨F, ρ, s, st, q⟩ => ?_
      unfold evS at q
      have q : SO p x F H ((ev (cf p n) ea ρ s).bnd fun u s => (ev (cf p n) eb ρ s).bnd fun w s => (ev (cf p n) ed ρ s).bnd fun z s => .ok (.next, ((ρ.set i (some u)).set j (some w)).set l (some z)) s) D := by
        unfold evA at q
        cases r1 : ev (cf p n) ea ρ s with
        | stuck => rw [r1] at q; exact q
        | err xn s' => rw [r1] at q; exact q
        | ok u s1 =>
          rw [r1] at q
          unfold evA at q
          cases r2 : ev (cf p n) eb ρ s1 with
          | stuck => simp only [bnd_ok, r2, bnd_stuck] at q ⊢; exact q
          | err xn s' => simp only [bnd_ok, r2, bnd_err] at q ⊢; exact q
          | ok w s2 =>
            simp only [bnd_ok, r2] at q ⊢
            unfold evA at q
            cases r3 : ev (cf p n) ed ρ s2 with
            | stuck => simp only [bnd_ok, r3, bnd_stuck] at q ⊢; exact q
            | err xn s' => simp only [bnd_ok, r3, bnd_err] at q ⊢; exact q
            | ok z s3 =>
              simp only [bnd_ok, r3] at q ⊢
              unfold evA at q
              exact q
      refine ⟨F, ρ, s, st, (q.exp0 st).imp fun d1 s1 H1 er1 f1 dd1 g1 q1 v rv => ?_⟩
      obtain ⟨F1, stE, stT, x1⟩ := bind_one ho st st (frs h1) er1 f1 dd1 g1 rv
      refine ⟨F1, ρ, s1, stE, ((q1.mono x1).exp0 stE).imp fun d2 s2 H2 er2 f2 dd2 g2 q2 w rw' => ?_⟩
      obtain ⟨F2, stE2, stT2, x2⟩ := bind_one ho stE stT (frs h2) er2 f2 dd2 g2 rw'
      refine ⟨F2, ρ, s2, stE2, ((q2.mono x2).exp0 stE2).imp fun d3 s3 H3 er3 f3 dd3 g3 q3 u ru => ?_⟩
      obtain ⟨F3, stE3, stT3, x3⟩ := bind_one ho stE2 stT2 (frs h3) er3 f3 dd3 g3 ru
      exact ⟨v, w, u, rfl, q3 _ _ _ x3 stT3⟩
    · cases h
  · cases h
end
end EV
end

section
set_option Elab.async false
set_option linter.all false
set_option autoImplicit false
set_option maxRecDepth 100000
/-! EvStmt4: statements, the rest. -/
namespace EV
open PySem PySem.Spec PyProof.Rows L2

section
variable {p : Par} {g : Glb} {n : Nat} {N : List Str}
variable {x : Fx} {X : Cx} {sc : Scope} {F : Addr → Prop} {σ : L2.St} {H H1 H2 : Hp} {ρ : Env} {s s1 s2 : DS} {own : List Nat} {fr : Bool} {k : Nat}
theorem case_unp (wf : Wf p g n) {st : Stmt} {ts : Tg} {e : E} (ho : x.own = own) (h : (match asAsg st with
      | some (.Tuple tes kt pt, y, _) => notComp y && (notTup y || cellB sc tes) && chkTg N sc k (.Tuple tes kt pt) (.tup ts) && ownFree own ts && chkE g N own k .strict sc y e
      | _ => false) = true) (c : SCxt p n x N X sc) : PS X st (rS p x (evS (cf p n) p.W (.unp ts e))) := by
  split at h
  · rename_i tes kt pt y l ey
    simp only [Bool.and_eq_true, Bool.or_eq_true] at h
    obtain ⟨⟨⟨⟨h1, h2⟩, h3⟩, h5⟩, h4⟩ := h
    obtain ⟨pos, rfl, _⟩ := asAsg_eq ey
    have hw : swappedStores [.Tuple tes kt pt] y X.env = pure none := by
      rcases h2 with h2 | h2
      · exact ss_not h2
      · cases y with
        | Tuple ves k2 p2 => exact ss_cell (by rw [c.scE]; exact h2)
        | _ => first | exact ss_not rfl
    have hown : ∀ i ∈ tgSlots (.tup ts), i ∉ x.own ∧ i ∈ tgSlots (.tup ts) := fun i hi => ⟨by
      rw [ho]
      have := List.all_eq_true.mp h5 i hi
      simpa using this, hi⟩
    have pg := pg_tg (X := X) (x := x) (sc := sc) (p := p) c.c.hN c.c.nd c.c.calm c.c.hK c.loc (tgSlots (.tup ts)) k _ _ h3 hown
    refine PS.imp (ps_asg ((eok wf own k).e .strict sc y e x X ho h4 c.c) pg (sws_not h1) hw (by rw [as_one rfl]; rfl)) fun D σ H ⟨F, ρ, s, st, q⟩ => ?_
    unfold evS at q
    refine ⟨F, ρ, s, st, (q.exp st).imp fun d s1 H1 _ f1 d1 g1 q1 v rv => ?_⟩
    have st1 := st.step f1 d1 g1
    unfold nextR at q1
    obtain ⟨ρ1, e1, q2⟩ := q1.lift
    exact ⟨F, ρ, s1, d, ρ1, st1, RpG.of rv, e1, fun σ1 st2 _ => q2.next st2⟩
  · cases h
theorem getL_ok {i : Nat} {xs : List D} (h : getL ρ i = some xs) : ρ[i]? = some (some (.list xs)) := by
  unfold getL at h
  split at h
  · rename_i ys e
    cases h
    rw [List.getD_eq_getElem?_getD] at e
    cases q : ρ[i]? with
    | none => rw [q] at e; cases e
    | some o => rw [q] at e; rw [← show o = some (.list xs) from e]
  · cases h
theorem case_app (wf : Wf p g n) {st : Stmt} {i : Nat} {e : E} (ho : x.own = own) (h : (match asExpr st with
      | some y => (match asMeth y with
        | some (.Name z _, nm, [a], true) => decide (nm = ("append" : Str)) && decide (N[i]? = some z) && visB sc z && okName z && own.contains i && notStar a && chkE g N own k .strict sc a e
        | _ => false)
      | none => false) = true) (c : SCxt p n x N X sc) : PS X st (rS p x (evS (cf p n) p.W (.app i e))) := by
  split at h
  · rename_i y ey
    obtain ⟨pos, rfl⟩ := asExpr_eq ey
    split at h
    · rename_i z pz nm a em
      simp only [Bool.and_eq_true, decide_eq_true_eq] at h
      obtain ⟨⟨⟨⟨⟨⟨rfl, h1⟩, h2⟩, h3⟩, h4⟩, h5⟩, h6⟩ := h
      obtain ⟨ap, q0, rfl, hl⟩ := asMeth_eq em
      obtain ⟨k1, k2, k3⟩ := okName_ok h3
      have hi : i ∈ x.own := by rw [ho]; simpa using h4
      have pv : PE X (.Name z pz) (tVar i) := pe_var (by rw [c.c.hN]; exact h1) (c.c.vis h2) k1 k2
      have pa := pa_cons ((eok wf own k).e .strict sc a e x X ho h6 c.c) pa_nil (star_one h5)
      refine PS.imp (PS.good c.c.hK (ps_expr (pe_bm F.plainAttrs_list F.slot_list_append F.type_list_append mt_append pv pa rfl (by rw [star_one h5]; rfl) hl (star_one h5) rfl) rfl)) fun D σ H ⟨F, ρ, s, st, q⟩ => ?_
      unfold evS at q
      obtain ⟨xs, e1, q⟩ := q.lift
      have e1 := getL_ok e1
      obtain ⟨b, vs, ds, ed, e2, e3, e4, e5, e6, e7⟩ := st.relO i _ e1 hi
      cases ed
      refine ⟨_, e2, .inl ⟨rfl, vs, SqL.of e3⟩, F, ρ, s, st, (q.exp st).imp fun d s1 H1 _ f1 d1 g1 q1 v rv => ?_⟩
      have st1 := st.step f1 d1 g1
      obtain ⟨b', vs', ds', ed', e2', e3', e4', e5', e6', e7'⟩ := st1.relO i _ e1 hi
      cases ed'
      rw [e2] at e2'
      cases e2'
      split at q1
      · rename_i hz
        have l := e7'.len
        have hz : xs.length < 1000000 := hz
        refine ⟨b, vs', v, rfl, rfl, e3', by rw [sizeLine_eq]; omega, fun g2 => ?_⟩
        obtain ⟨st2, x2⟩ := st1.wr (ws := vs' ++ [v]) (es := xs ++ [d]) hi e1 e2 g2 (e7'.append (.cons rv .nil))
        exact q1 _ _ _ x2 st2
      · exact q1.elim
    · cases h
  · cases h
theorem case_ite (wf : Wf p g n) (ih : SOk p g n N own fr k) {st : Stmt} {c' : E} {a b : S} (ho : x.own = own) (hf : x.fresh = fr) (h : (match asIfS st with
      | some (u, y, z) => chkT g N own k sc u c' && chkSs g N own fr k sc y a && chkSs g N own fr k sc z b
      | none => false) = true) (c : SCxt p n x N X sc) : PS X st (rS p x (evS (cf p n) p.W (.ite c' a b))) := by
  split at h
  · rename_i u y z ey
    simp only [Bool.and_eq_true] at h
    obtain ⟨⟨h1, h2⟩, h3⟩ := h
    obtain ⟨pos, rfl⟩ := asIfS_eq ey
    refine PS.imp (ps_if ((eok wf own k).t sc u c' x X ho h1 c.c) (ih.ss sc y a x X ho hf h2 c) (ih.ss sc z b x X ho hf h3 c)) fun D σ H ⟨F, ρ, s, st, q⟩ => ?_
    unfold evS at q
    have q : SO p x F H (((ev (cf p n) c' ρ s).bnd boolR).bnd fun k s => if k = true then evS (cf p n) p.W a ρ s else evS (cf p n) p.W b ρ s) D := by rw [bnd_assoc]; exact q
    refine ⟨F, ρ, s, st, (q.exp st).imp fun kk s1 H1 _ f1 d1 g1 q1 => ?_⟩
    have st1 := st.step f1 d1 g1
    cases kk with
    | true => exact ⟨F, ρ, s1, st1, q1⟩
    | false => exact ⟨F, ρ, s1, st1, q1⟩
  · cases h
/-- behind a part: how it ends -/
theorem SO.seq {r : RS} {f : Fl × Env → DS → RS} {D : Ends} {nx : L2.St → Hp → Prop} (hn : ∀ ρ' s' F' σ' H', r = .ok (.next, ρ') s' → SO p x F' H' (f (.next, ρ') s') D → St p x F' σ' H' ρ' s' → nx σ' H') (hf : ∀ fl ρ' s', fl ≠ .next → f (fl, ρ') s' = .ok (fl, ρ') s') (h : SO p x F H (r.bnd f) D) : SO p x F H r { D with nx := nx } := by
  cases r with
  | ok q s' =>
    obtain ⟨fl, ρ'⟩ := q
    have h : SO p x F H (f (fl, ρ') s') D := h
    cases fl with
    | next => exact fun F' σ' H' e st => hn ρ' s' F' σ' H' rfl (h.mono e) st
    | brk => rw [hf _ ρ' s' (by simp)] at h; exact h
    | cnt => rw [hf _ ρ' s' (by simp)] at h; exact h
    | ret d => rw [hf _ ρ' s' (by simp)] at h; exact h
  | err xn s' => exact h
  | stuck => exact h
/-- a loop's turn: what its end says -/
theorem SO.turn {r : RS} {f : Fl × Env → DS → RS} {D : Ends} {nx : L2.St → Hp → Prop} (hn : ∀ fl ρ' s' F' σ' H', (fl = .next ∨ fl = .cnt) → SO p x F' H' (f (fl, ρ') s') D → Ext p F H F' H' → St p x F' σ' H' ρ' s' → nx σ' H')
    (hb : ∀ ρ' s', f (.brk, ρ') s' = .ok (.next, ρ') s') (hr : ∀ d ρ' s', f (.ret d, ρ') s' = .ok (.ret d, ρ') s') (h : SO p x F H (r.bnd f) D) : SO p x F H r { D with nx := nx, ct := nx, bk := D.nx } := by
  cases r with
  | ok q s' =>
    obtain ⟨fl, ρ'⟩ := q
    have h : SO p x F H (f (fl, ρ') s') D := h
    cases fl with
    | next => exact fun F' σ' H' e st => hn _ ρ' s' F' σ' H' (.inl rfl) (h.mono e) e st
    | brk => rw [hb] at h; exact h
    | cnt => exact fun F' σ' H' e st => hn _ ρ' s' F' σ' H' (.inr rfl) (h.mono e) e st
    | ret d => rw [hr] at h; exact h
  | err xn s' => exact h
  | stuck => exact h
theorem case_for (wf : Wf p g n) (ih : SOk p g n N own fr k) {st : Stmt} {tg : Tg} {it : E} {b : S} (ho : x.own = own) (hf : x.fresh = fr) (h : (match asFor st with
      | some (t, i, y) => notSet i && tgI tg it && chkTg N sc k t tg && ownFree own tg && chkI g N own k .strict sc i it && chkSs g N own fr k sc y b
      | none => false) = true) (c : SCxt p n x N X sc) : PS X st (rS p x (evS (cf p n) p.W (.forr tg it b))) := by
  split at h
  · rename_i t i y ey
    simp only [Bool.and_eq_true] at h
    obtain ⟨⟨⟨⟨⟨h1, h2⟩, h3⟩, h4⟩, h5⟩, h6⟩ := h
    obtain ⟨pos, rfl⟩ := asFor_eq ey
    have hown : ∀ i ∈ tgSlots tg, i ∉ x.own ∧ i ∈ tgSlots tg := fun i hi => ⟨by
      rw [ho]
      have := List.all_eq_true.mp h4 i hi
      simpa using this, hi⟩
    have pg := PG.good c.c.hK (pg_tg (X := X) (x := x) (sc := sc) (p := p) c.c.hN c.c.nd c.c.calm c.c.hK c.loc (tgSlots tg) k _ _ h3 hown)
    refine PS.imp (ps_for c.own c.c.calm ((eok wf own k).i .strict sc sc i it x X t tg k (by simp) h3 h2 ho h5 c.c) pg (ih.ss sc y b x X ho hf h6 c) fun v => folded_not h1 v) fun D σ H ⟨F, ρ, s, st, q⟩ => ?_
    unfold evS at q
    refine ⟨F, ρ, s, st, (q.exp st).imp fun ds s1 H1 _ f1 d1 g1 q1 J hW => ?_⟩
    have st1 := st.step f1 d1 g1
    generalize hfn : (fun (x : PyData) (ρ : Env) (s : DS) => (R.lift (bindT tg x ρ) s).bnd fun ρ s => evS (cf p n) p.W b ρ s) = f at q1
    refine ⟨fun i m σ H => m = ds.length - i ∧ i ≤ ds.length ∧ ∃ F' ρ s, St p x F' σ H ρ s ∧ Ext p F H1 F' H ∧ SO p x F' H (forL f (ds.drop i) ρ s) D, ⟨ds.length, rfl, Nat.zero_le _, F, ρ, s1, st1, Ext.refl, q1⟩, ?_⟩
    rintro i m σ3 H3 ⟨rfl, hi, F3, ρ3, s3, st3, x3, q3⟩
    have wk := hW F3 H3 x3.sub x3.new st3.tr (fun a o e n => x3.keep a o e (by simpa [fullM] using n))
    by_cases hlt : i < ds.length
    · have ed : ds.drop i = ds[i] :: ds.drop (i + 1) := List.drop_eq_getElem_cons hlt
      rw [ed] at q3
      unfold forL at q3
      obtain ⟨w1, w2⟩ := wk.1 i ds[i] (List.getElem?_eq_getElem hlt)
      refine .inr ⟨w1, fun σ' H' => ∃ F' ρ s, St p x F' σ' H' ρ s ∧ Ext p F H1 F' H' ∧ SO p x F' H' (forL f (ds.drop (i + 1)) ρ s) D, fun σ' H' z => ⟨ds.length - (i + 1), by omega, rfl, hlt, z⟩, fun v H4 yl => ?_⟩
      intro g4
      obtain ⟨sm, rv⟩ := w2 v H4 yl
      have st4 := st3.step (FrE.of sm) (st3.dr.same sm) g4
      have e34 : Ext p F3 H3 F3 H4 := Ext.of (FrE.of sm) st3.fa
      rw [← hfn] at q3
      dsimp only at q3
      rw [bnd_assoc] at q3
      obtain ⟨ρ4, e4, q4⟩ := (q3.mono e34).lift
      refine ⟨F3, ρ3, s3, ds[i], ρ4, st4, rv g4, e4, fun σ5 st5 _ => ⟨F3, ρ4, s3, st5, ?_⟩⟩
      refine SO.turn (D := D) ?_ ?_ ?_ q4
      · intro fl ρ' s' F' σ' H' hfl qq e st'
        refine ⟨F', ρ', s', st', x3.trans (e34.trans e), ?_⟩
        rw [← hfn]
        rcases hfl with rfl | rfl <;> exact qq
      · intro _ _; rfl
      · intro _ _ _; rfl
    · have e : i = ds.length := by omega
      subst e
      rw [List.drop_length] at q3
      exact .inl ⟨wk.2, SO.next q3 st3⟩
  · cases h
theorem case_whl (wf : Wf p g n) (ih : SOk p g n N own fr k) {st : Stmt} {c' : E} {b : S} (ho : x.own = own) (hf : x.fresh = fr) (h : (match asWhile st with
      | some (u, y) => chkT g N own k sc u c' && chkSs g N own fr k sc y b
      | none => false) = true) (c : SCxt p n x N X sc) : PS X st (rS p x (evS (cf p n) p.W (.whl c' b))) := by
  split at h
  · rename_i u y ey
    simp only [Bool.and_eq_true] at h
    obtain ⟨h1, h2⟩ := h
    obtain ⟨pos, rfl⟩ := asWhile_eq ey
    refine PS.imp (ps_while c.own ((eok wf own k).t sc u c' x X ho h1 c.c) (ih.ss sc y b x X ho hf h2 c)) fun D σ H ⟨F, ρ, s, st, q⟩ => ?_
    unfold evS at q
    generalize hc : (fun (ρ : Env) (s : DS) => (ev (cf p n) c' ρ s).bnd fun x s => boolR x s) = cc at q
    generalize hb : (fun (ρ : Env) (s : DS) => evS (cf p n) p.W b ρ s) = bb at q
    refine ⟨fun m σ H => ∃ F ρ s, St p x F σ H ρ s ∧ SO p x F H (whileL cc bb m ρ s) D, ⟨p.W, F, ρ, s, st, q⟩, ?_⟩
    rintro m σ3 H3 ⟨F3, ρ3, s3, st3, q3⟩
    cases m with
    | zero => exact q3.elim
    | succ m =>
      unfold whileL at q3
      rw [← hc] at q3
      refine ⟨F3, ρ3, s3, st3, (q3.exp st3).imp fun kk s1 H1 _ f1 d1 g1 q1 => ?_⟩
      have st1 := st3.step f1 d1 g1
      cases kk with
      | false => exact SO.next q1 st1
      | true =>
        refine ⟨fun σ' H' => ∃ F ρ s, St p x F σ' H' ρ s ∧ SO p x F H' (whileL cc bb m ρ s) D, fun σ' H' z => ⟨m, Nat.lt_succ_self _, z⟩, F3, ρ3, s1, st1, ?_⟩
        have q1 : SO p x F3 H1 ((bb ρ3 s1).bnd fun q s => (match q.1 with
          | .next => whileL cc bb m q.2 s
          | .cnt => whileL cc bb m q.2 s
          | .brk => .ok (.next, q.2) s
          | .ret d => .ok (.ret d, q.2) s)) D := by rw [← hc]; exact q1
        rw [← hb] at q1
        refine SO.turn (D := D) ?_ ?_ ?_ q1
        · intro fl ρ' s' F' σ' H' hfl qq e st'
          refine ⟨F', ρ', s', st', ?_⟩
          rw [← hb]
          rcases hfl with rfl | rfl <;> exact qq
        · intro _ _; rfl
        · intro _ _ _; rfl
  · cases h
end
end EV
end

section
set_option Elab.async false
set_option linter.all false
set_option autoImplicit false
set_option maxRecDepth 100000
/-! EvStmt4b: statements that change a list; name op= e. -/
namespace EV
open PySem PySem.Spec PyProof.Rows L2

section
variable {p : Par} {g : Glb} {n : Nat} {N : List Str}
variable {x : Fx} {X : Cx} {sc : Scope} {F : Addr → Prop} {σ : L2.St} {H H1 H2 : Hp} {ρ : Env} {s s1 s2 : DS} {own : List Nat} {fr : Bool} {k : Nat}
theorem getD_ok {i : Nat} {d : D} (h : ρ.getD i none = some d) : ρ[i]? = some (some d) := by
  rw [List.getD_eq_getElem?_getD] at h
  cases q : ρ[i]? with
  | none => rw [q] at h; cases h
  | some o => rw [q] at h; rw [← show o = some d from h]
theorem augD_inv {o : Bop} {a b d : D} (h : augD o a b = some d) : ∃ i j : Int, a = .int i ∧ b = .int j ∧ ((o = .add ∧ d = .int (i + j)) ∨ (o = .sub ∧ d = .int (i - j))) := by
  unfold augD at h
  split at h
  · cases h; exact ⟨_, _, rfl, rfl, .inl ⟨rfl, rfl⟩⟩
  · cases h; exact ⟨_, _, rfl, rfl, .inr ⟨rfl, rfl⟩⟩
  · cases h
def augF : Bop → Int → Int → Int
  | .sub, i, j => i - j
  | _, i, j => i + j
theorem augD_f {o : Bop} {a b d : D} (h : augD o a b = some d) : ∃ i j : Int, a = .int i ∧ b = .int j ∧ d = .int (augF o i j) := by
  obtain ⟨i, j, h1, h2, h3⟩ := augD_inv h
  rcases h3 with ⟨rfl, h3⟩ | ⟨rfl, h3⟩
  · exact ⟨i, j, h1, h2, h3⟩
  · exact ⟨i, j, h1, h2, h3⟩
theorem ip_aug {X : Cx} {o : Bop} {q : Operator} (h : augB o q = true) : PIp X q (ipI (augF o)) := by
  unfold augB at h
  split at h
  · exact ip_add
  · exact ip_sub
  · cases h
theorem case_aug (wf : Wf p g n) {st : Stmt} {i : Nat} {o : Bop} {e : E} (ho : x.own = own) (h : (match asAug st with
      | some (.Name y _, q, z) => augB o q && decide (N[i]? = some y) && locB sc y && !own.contains i && chkE g N own k .strict sc z e
      | _ => false) = true) (c : SCxt p n x N X sc) : PS X st (rS p x (evS (cf p n) p.W (.aug i o e))) := by
  split at h
  · rename_i y py q z ey
    simp only [Bool.and_eq_true, decide_eq_true_eq, Bool.not_eq_true'] at h
    obtain ⟨⟨⟨⟨h0, h1⟩, h2⟩, h3⟩, h4⟩ := h
    obtain ⟨pos, rfl⟩ := asAug_eq ey
    have hi : i ∉ x.own := by rw [ho]; simpa using h3
    refine PS.imp (ps_aug c.c.nd (by rw [c.c.hN]; exact h1) (c.c.loc h2) ((eok wf own k).e .strict sc z e x X ho h4 c.c) (ip_aug h0) (.inl (c.fnt y))) fun D σ H ⟨F, ρ, s, st, q⟩ => ?_
    unfold evS at q
    obtain ⟨d0, e1, q⟩ := q.lift
    have e1 := getD_ok e1
    obtain ⟨v, k1, k2⟩ := st.rel i _ e1 hi
    refine ⟨v, k1, F, ρ, s, st, (q.exp st).imp fun d s1 H1 _ f1 d1 g1 q1 w rw' => ?_⟩
    have st1 := st.step f1 d1 g1
    unfold nextR at q1
    obtain ⟨ρ1, e2, q2⟩ := q1.lift
    cases e3 : augD o d0 d with
    | none => rw [e3] at e2; cases e2
    | some d2 =>
      rw [e3] at e2
      cases e2
      obtain ⟨a, b, rfl, rfl, rfl⟩ := augD_f e3
      have rw' : Rp p F H1 w (.int b) := rw'
      cases rw'
      cases k2
      exact ⟨a, b, rfl, rfl, SO.next q2 (st1.set hi (.int _))⟩
  · cases h
theorem place_ok {m : Nat} {d : D} {j : Nat} (h : placeD m d = some j) : ∃ i : Int, d = .int i ∧ L2.ixN m i = some j := by
  unfold placeD at h
  split at h
  · exact ⟨_, rfl, h⟩
  · cases h
theorem case_seti (wf : Wf p g n) {st : Stmt} {i : Nat} {kx e : E} (ho : x.own = own) (h : (match asAsg st with
      | some (t, z, _) => (match asSub t with
        | some (.Name y _, w) => notSlice w && decide (N[i]? = some y) && visB sc y && okName y && own.contains i && notComp z && chkE g N own k .strict sc w kx && chkE g N own k .strict sc z e
        | _ => false)
      | _ => false) = true) (c : SCxt p n x N X sc) : PS X st (rS p x (evS (cf p n) p.W (.seti i kx e))) := by
  split at h
  · rename_i t z l ey
    obtain ⟨pos, rfl, _⟩ := asAsg_eq ey
    split at h
    · rename_i y py w et
      simp only [Bool.and_eq_true, decide_eq_true_eq] at h
      obtain ⟨⟨⟨⟨⟨⟨⟨h0, h1⟩, h2⟩, h3⟩, h4⟩, h5⟩, h6⟩, h7⟩ := h
      obtain ⟨pos1, rfl⟩ := asSub_eq et
      obtain ⟨k1, k2, k3⟩ := okName_ok h3
      have hi : i ∈ x.own := by rw [ho]; simpa using h4
      have pv : PE X (.Name y py) (tVar i) := pe_var (by rw [c.c.hN]; exact h1) (c.c.vis h2) k1 k2
      refine PS.imp (PS.good c.c.hK (ps_asg ((eok wf own k).e .strict sc z e x X ho h7 c.c) (pg_sub pv ((eok wf own k).e .strict sc w kx x X ho h6 c.c) set_list (by intro v; cases w <;> first | rfl | (simp [notSlice] at h0))) (sws_not h5) rfl rfl)) fun D σ H ⟨F, ρ, s, st, q⟩ => ?_
      unfold evS at q
      refine ⟨F, ρ, s, st, (q.exp st).imp fun d s1 H1 _ f1 d1 g1 q1 v rv => ?_⟩
      have st1 := st.step f1 d1 g1
      obtain ⟨xs, e1, q1⟩ := q1.lift
      have e1 := getL_ok e1
      obtain ⟨b, vs, ds, ed, e2, e3, e4, e5, e6, e7⟩ := st1.relO i _ e1 hi
      cases ed
      refine ⟨_, e2, F, ρ, s1, st1, (q1.exp st1).imp fun kd s2 H2 _ f2 d2 g2 q2 kv rk => ?_⟩
      have st2 := st1.step f2 d2 g2
      obtain ⟨b', vs', ds', ed', e2', e3', e4', e5', e6', e7'⟩ := st2.relO i _ e1 hi
      cases ed'
      rw [e2] at e2'
      cases e2'
      unfold nextR at q2
      obtain ⟨ρ1, ej, q3⟩ := q2.lift
      cases e8 : placeD xs.length kd with
      | none => rw [e8] at ej; cases ej
      | some j =>
        rw [e8] at ej
        cases ej
        obtain ⟨iv, rfl, hx⟩ := place_ok e8
        have rk : Rp p F H2 kv (.int iv) := rk
        cases rk
        have l := e7'.len
        refine ⟨b, vs', iv, j, rfl, rfl, e3', by rw [l]; exact hx, fun g3 => ?_⟩
        have rv : Rp p F H1 v d := rv
        obtain ⟨st3, x3⟩ := st2.wr (ws := vs'.set j v) (es := xs.set j d) hi e1 e2 g3 (e7'.set j (rv.fr (f2.nf st1.fa)))
        exact q3 _ _ _ x3 st3
    · cases h
  · cases h
theorem get_listP {X : Cx} : PGet X (fun o i H Q => ∃ b vs j iv v, o = .ref b ∧ i = .int iv ∧ H b = some (.lst vs) ∧ L2.ixN vs.length iv = some j ∧ vs[j]? = some v ∧ Q v H) := by
  intro pins s σ H o i ov iv Q I ro ri h
  obtain ⟨b, xs, j, i, z, rfl, rfl, hb, hj, hv, q⟩ := h
  cases ro
  obtain ⟨t, rfl⟩ := ri
  obtain ⟨its, r, pl, hz⟩ := I.list (SqL.of hb)
  obtain ⟨h1, h2, h4, h5⟩ := L2.ixN_seq hj
  obtain ⟨w, ew, rw'⟩ := r.get hv
  have hl := r.length
  have hn := line63
  have fin : EP X pins σ Q w s := ⟨z, H, I, rw', q⟩
  by_cases h0 : 0 ≤ i
  · have hj : i.toNat = j := by
      rw [seqIndex_of h0 h5] at h1
      exact Option.some.inj h1
    exact wpAny_getItem_list pl.isList h0 (by omega) (by rw [hj]; simpa using ew) fin
  · have hj : (i + (its.toArray.size : Int)).toNat = j := by
      rw [seqIndex_neg (by omega) h4] at h1
      rw [List.size_toArray, ← hl]
      exact Option.some.inj h1
    exact wpAny_getItem_list_neg pl.isList (by omega) (by rw [List.size_toArray] <;> omega) (by omega) (by rw [hj]; simpa using ew) fin
theorem case_augs (wf : Wf p g n) {st : Stmt} {i : Nat} {o : Bop} {kx e : E} (ho : x.own = own) (h : (match asAug st with
      | some (t, q, z) => (match asSub t with
        | some (.Name y _, w) => notSlice w && augB o q && decide (N[i]? = some y) && visB sc y && okName y && own.contains i && chkE g N own k .strict sc w kx && chkE g N own k .strict sc z e
        | _ => false)
      | _ => false) = true) (c : SCxt p n x N X sc) : PS X st (rS p x (evS (cf p n) p.W (.augs i kx o e))) := by
  split at h
  · rename_i t q0 z ey
    obtain ⟨pos, rfl⟩ := asAug_eq ey
    split at h
    · rename_i y py w et
      simp only [Bool.and_eq_true, decide_eq_true_eq] at h
      obtain ⟨⟨⟨⟨⟨⟨⟨h0, hq⟩, h1⟩, h2⟩, h3⟩, h4⟩, h6⟩, h7⟩ := h
      obtain ⟨pos1, rfl⟩ := asSub_eq et
      obtain ⟨k1, k2, k3⟩ := okName_ok h3
      have hi : i ∈ x.own := by rw [ho]; simpa using h4
      have pv : PE X (.Name y py) (tVar i) := pe_var (by rw [c.c.hN]; exact h1) (c.c.vis h2) k1 k2
      refine PS.imp (PS.good c.c.hK (ps_augS pv ((eok wf own k).e .strict sc w kx x X ho h6 c.c) get_listP ((eok wf own k).e .strict sc z e x X ho h7 c.c) (ip_aug hq) set_list (by intro ov iv new; cases w <;> first | rfl | (simp [notSlice] at h0)))) fun D σ H ⟨F, ρ, s, st, q⟩ => ?_
      unfold evS at q
      obtain ⟨xs, e1, q⟩ := q.lift
      have e1 := getL_ok e1
      obtain ⟨b, vs, ds, ed, e2, e3, e4, e5, e6, e7⟩ := st.relO i _ e1 hi
      cases ed
      refine ⟨_, e2, F, ρ, s, st, (q.exp st).imp fun kd s1 H1 _ f1 d1 g1 q1 kv rk => ?_⟩
      have st1 := st.step f1 d1 g1
      obtain ⟨jx, ej, q1⟩ := q1.lift
      cases e8 : placeD xs.length kd with
      | none => rw [e8] at ej; cases ej
      | some j =>
        rw [e8] at ej
        obtain ⟨iv, rfl, hx⟩ := place_ok e8
        have rk : Rp p F H1 kv (.int iv) := rk
        cases rk
        cases e9 : xs[j]? with
        | none => simp only [Option.bind_some, e9, Option.map_none] at ej; cases ej
        | some xj =>
          simp only [Option.bind_some, e9, Option.map_some, Option.some.injEq] at ej
          subst ej
          obtain ⟨b1, vs1, ds1, ed1, e21, e31, e41, e51, e61, e71⟩ := st1.relO i _ e1 hi
          cases ed1
          rw [e2] at e21
          cases e21
          obtain ⟨vj, hv, rj⟩ := e71.get e9
          have l1 := e71.len
          refine ⟨b, vs1, j, iv, vj, rfl, rfl, e31, by rw [l1]; exact hx, hv, F, ρ, s1, st1, (q1.exp st1).imp fun d s2 H2 _ f2 d2 g2 q2 v rv => ?_⟩
          have st2 := st1.step f2 d2 g2
          obtain ⟨b2, vs2, ds2, ed2, e22, e32, e42, e52, e62, e72⟩ := st2.relO i _ e1 hi
          cases ed2
          rw [e2] at e22
          cases e22
          have l2 := e72.len
          unfold nextR at q2
          obtain ⟨ρ1, ek, q3⟩ := q2.lift
          cases ea : augD o xj d with
          | none => rw [ea] at ek; cases ek
          | some d3 =>
            rw [ea] at ek
            cases ek
            obtain ⟨a, b', rfl, rfl, rfl⟩ := augD_f ea
            have rv : Rp p F H2 v (.int b') := rv
            cases rv
            cases rj
            refine ⟨a, b', rfl, rfl, b, vs2, iv, j, rfl, rfl, e32, by rw [l2]; exact hx, fun g3 => ?_⟩
            obtain ⟨st3, x3⟩ := st2.wr (ws := vs2.set j (.int (augF o a b'))) (es := xs.set j (.int (augF o a b'))) hi e1 e2 g3 (e72.set j (.int _))
            exact q3 _ _ _ x3 st3
    · cases h
  · cases h
theorem case_ins (wf : Wf p g n) {st : Stmt} {i : Nat} {kx e : E} (ho : x.own = own) (h : (match asExpr st with
      | some y => (match asMeth y with
        | some (.Name z _, nm, [w, a], true) => decide (nm = ("insert" : Str)) && decide (N[i]? = some z) && visB sc z && okName z && own.contains i && notStar w && notStar a && chkE g N own k .strict sc w kx && chkE g N own k .strict sc a e
        | _ => false)
      | none => false) = true) (c : SCxt p n x N X sc) : PS X st (rS p x (evS (cf p n) p.W (.ins i kx e))) := by
  split at h
  · rename_i y ey
    obtain ⟨pos, rfl⟩ := asExpr_eq ey
    split at h
    · rename_i z pz nm w a em
      simp only [Bool.and_eq_true, decide_eq_true_eq] at h
      obtain ⟨⟨⟨⟨⟨⟨⟨⟨rfl, h1⟩, h2⟩, h3⟩, h4⟩, h5⟩, h5'⟩, h6⟩, h7⟩ := h
      obtain ⟨ap, q0, rfl, hl⟩ := asMeth_eq em
      obtain ⟨k1, k2, k3⟩ := okName_ok h3
      have hi : i ∈ x.own := by rw [ho]; simpa using h4
      have pv : PE X (.Name z pz) (tVar i) := pe_var (by rw [c.c.hN]; exact h1) (c.c.vis h2) k1 k2
      have pa := pa_cons ((eok wf own k).e .strict sc w kx x X ho h6 c.c) (pa_cons ((eok wf own k).e .strict sc a e x X ho h7 c.c) pa_nil (star_one h5')) (star_one h5)
      refine PS.imp (PS.good c.c.hK (ps_expr (pe_bm F.plainAttrs_list F.slot_list_insert F.type_list_insert mt_insert pv pa rfl (by rw [star_one h5, star_one h5']; rfl) hl (star_one h5) (by rw [star_one h5']; rfl)) rfl)) fun D σ H ⟨F, ρ, s, st, q⟩ => ?_
      unfold evS at q
      obtain ⟨xs, e1, q⟩ := q.lift
      have e1 := getL_ok e1
      obtain ⟨b, vs, ds, ed, e2, e3, e4, e5, e6, e7⟩ := st.relO i _ e1 hi
      cases ed
      refine ⟨_, e2, .inl ⟨rfl, vs, SqL.of e3⟩, F, ρ, s, st, (q.exp st).imp fun kd s1 H1 _ f1 d1 g1 q1 kv rk => ?_⟩
      have st1 := st.step f1 d1 g1
      refine ⟨F, ρ, s1, st1, (q1.exp st1).imp fun d s2 H2 _ f2 d2 g2 q2 v rv => ?_⟩
      have st2 := st1.step f2 d2 g2
      obtain ⟨b', vs', ds', ed', e2', e3', e4', e5', e6', e7'⟩ := st2.relO i _ e1 hi
      cases ed'
      rw [e2] at e2'
      cases e2'
      cases kd with
      | int j =>
        simp only at q2
        split at q2
        · rename_i hz
          have rk : Rp p F H1 kv (.int j) := rk
          cases rk
          have rv : Rp p F H2 v d := rv
          have l := e7'.len
          obtain ⟨z0, z1, z2⟩ := hz
          have z1 : j ≤ 1000000 := z1
          have z2 : xs.length < 1000000 := z2
          refine ⟨b, vs', j, v, rfl, rfl, e3', by rw [sizeLine_eq]; omega, z0, by omega, fun g3 => ?_⟩
          obtain ⟨st3, x3⟩ := st2.wr (ws := vs'.take j.toNat ++ [v] ++ vs'.drop j.toNat) (es := xs.take j.toNat ++ [d] ++ xs.drop j.toNat) hi e1 e2 g3 (((e7'.take _).append (.cons rv .nil)).append (e7'.drop _))
          exact q2 _ _ _ x3 st3
        · exact q2.elim
      | _ => exact q2.elim
    · cases h
  · cases h
theorem seq_ok {m : Nat} {i : Int} {j : Nat} (h : L2.ixN m i = some j) (hm : m ≤ 1000000) : -(2 ^ 63) ≤ i ∧ i < 2 ^ 63 ∧ seqIndex? i m = some j := by
  obtain ⟨h1, h2, h3, h4⟩ := L2.ixN_seq h
  exact ⟨by omega, by omega, h1⟩
theorem popD {xs : List D} {kd : D} {ρ1 : Env} {f : Nat → D → Env} (h : ((placeD xs.length kd).bind fun q => (xs[q]?).map fun y => f q y) = some ρ1) : ∃ (i : Int) (j : Nat) (y : D), kd = .int i ∧ L2.ixN xs.length i = some j ∧ xs[j]? = some y ∧ ρ1 = f j y := by
  cases e8 : placeD xs.length kd with
  | none => rw [e8] at h; cases h
  | some j =>
    rw [e8] at h
    obtain ⟨iv, rfl, hx⟩ := place_ok e8
    cases e9 : xs[j]? with
    | none => simp only [Option.bind_some, e9, Option.map_none] at h; cases h
    | some y =>
      simp only [Option.bind_some, e9, Option.map_some, Option.some.injEq] at h
      exact ⟨iv, j, y, rfl, hx, e9, h.symm⟩
theorem case_popAt (wf : Wf p g n) {st : Stmt} {j i : Nat} {kx : E} (ho : x.own = own) (h : (match asAsg st with
      | some (.Name z _, y, _) => (match asMeth y with
        | some (.Name y _, nm, [w], true) => decide (nm = ("pop" : Str)) && decide (N[i]? = some y) && visB sc y && okName y && own.contains i && notStar w && decide (N[j]? = some z) && locB sc z && !own.contains j && chkE g N own k .strict sc w kx
        | _ => false)
      | _ => false) = true) (c : SCxt p n x N X sc) : PS X st (rS p x (evS (cf p n) p.W (.popAt j i kx))) := by
  split at h
  · rename_i z pz y l ey
    obtain ⟨pos, rfl, _⟩ := asAsg_eq ey
    split at h
    · rename_i y2 py nm w em
      simp only [Bool.and_eq_true, decide_eq_true_eq, Bool.not_eq_true'] at h
      obtain ⟨⟨⟨⟨⟨⟨⟨⟨⟨rfl, h1⟩, h2⟩, h3⟩, h4⟩, h5⟩, h6⟩, h7⟩, h8⟩, h9⟩ := h
      obtain ⟨ap, q0, rfl, hl⟩ := asMeth_eq em
      obtain ⟨k1, k2, k3⟩ := okName_ok h3
      have hi : i ∈ x.own := by rw [ho]; simpa using h4
      have hj : j ∉ x.own := by rw [ho]; simpa using h8
      have pv : PE X (.Name y2 py) (tVar i) := pe_var (by rw [c.c.hN]; exact h1) (c.c.vis h2) k1 k2
      have pa := pa_cons ((eok wf own k).e .strict sc w kx x X ho h9 c.c) pa_nil (star_one h5)
      refine PS.imp (PS.good c.c.hK (ps_set c.c.nd (by rw [c.c.hN]; exact h6) (c.c.loc h7) (pe_bm F.plainAttrs_list F.slot_list_pop F.type_list_pop mt_popAt pv pa rfl (by rw [star_one h5]; rfl) hl (star_one h5) rfl) rfl (.inl (c.fnt z)))) fun D σ H ⟨F, ρ, s, st, q⟩ => ?_
      unfold evS at q
      obtain ⟨xs, e1, q⟩ := q.lift
      have e1 := getL_ok e1
      obtain ⟨b, vs, ds, ed, e2, e3, e4, e5, e6, e7⟩ := st.relO i _ e1 hi
      cases ed
      refine ⟨_, e2, .inl ⟨rfl, vs, SqL.of e3⟩, F, ρ, s, st, (q.exp st).imp fun kd s1 H1 _ f1 d1 g1 q1 kv rk => ?_⟩
      have st1 := st.step f1 d1 g1
      obtain ⟨b', vs', ds', ed', e2', e3', e4', e5', e6', e7'⟩ := st1.relO i _ e1 hi
      cases ed'
      rw [e2] at e2'
      cases e2'
      split at q1
      case isFalse => exact q1.elim
      rename_i hlim
      unfold nextR at q1
      obtain ⟨ρ1, ek, q2⟩ := q1.lift
      obtain ⟨iv, jj, yv, rfl, hx, e9, rfl⟩ := popD ek
      have rk : Rp p F H1 kv (.int iv) := rk
      cases rk
      obtain ⟨v, hv, rv⟩ := e7'.get e9
      have l := e7'.len
      have hlim : xs.length ≤ 1000000 := hlim
      rw [← l] at hx
      obtain ⟨z1, z2, z3⟩ := seq_ok hx (by omega)
      refine ⟨b, vs', iv, jj, v, rfl, rfl, e3', z1, z2, z3, hv, fun g3 => ?_⟩
      obtain ⟨st3, x3⟩ := st1.wr (ws := vs'.eraseIdx jj) (es := xs.eraseIdx jj) hi e1 e2 g3 (e7'.erase jj)
      have up : ∀ a o, H1 a = some o → ¬ F a → (upd H1 b (.lst (vs'.eraseIdx jj))) a = some o := fun a o e n => by rw [upd_ne (fun z => n (by rw [z]; exact e4'))]; exact e
      exact q2 _ _ _ x3 (st3.set hj (rv.fr up))
    · cases h
  · cases h
theorem case_appPop (wf : Wf p g n) {st : Stmt} {j i : Nat} {kx : E} (ho : x.own = own) (h : (match asExpr st with
      | some y => (match asMeth y with
        | some (.Name z _, nm, [x2], true) => (match asMeth x2 with
          | some (.Name y _, nm2, [w], true) => decide (nm = ("append" : Str)) && decide (nm2 = ("pop" : Str)) && decide (N[i]? = some y) && visB sc y && okName y && own.contains i && decide (N[j]? = some z) && visB sc z && okName z && own.contains j && notStar w && decide (i ≠ j) && notStar x2 && chkE g N own k .strict sc w kx
          | _ => false)
        | _ => false)
      | none => false) = true) (c : SCxt p n x N X sc) : PS X st (rS p x (evS (cf p n) p.W (.appPop j i kx))) := by
  split at h
  · rename_i y ey
    obtain ⟨pos, rfl⟩ := asExpr_eq ey
    split at h
    · rename_i z pz nm x2 em
      obtain ⟨ap, q0, rfl, hl⟩ := asMeth_eq em
      split at h
      · rename_i y2 py nm2 w em2
        simp only [Bool.and_eq_true, decide_eq_true_eq] at h
        obtain ⟨⟨⟨⟨⟨⟨⟨⟨⟨⟨⟨⟨⟨rfl, rfl⟩, h1⟩, h2⟩, h3⟩, h4⟩, h1'⟩, h2'⟩, h3'⟩, h4'⟩, h5⟩, hij⟩, h5'⟩, h9⟩ := h
        obtain ⟨ap2, q2, rfl, hl2⟩ := asMeth_eq em2
        obtain ⟨k1, k2, k3⟩ := okName_ok h3
        obtain ⟨m1, m2, m3⟩ := okName_ok h3'
        have hi : i ∈ x.own := by rw [ho]; simpa using h4
        have hj : j ∈ x.own := by rw [ho]; simpa using h4'
        have pv : PE X (.Name y2 py) (tVar i) := pe_var (by rw [c.c.hN]; exact h1) (c.c.vis h2) k1 k2
        have pz' : PE X (.Name z pz) (tVar j) := pe_var (by rw [c.c.hN]; exact h1') (c.c.vis h2') m1 m2
        have pa := pa_cons ((eok wf own k).e .strict sc w kx x X ho h9 c.c) pa_nil (star_one h5)
        have pp := pe_bm F.plainAttrs_list F.slot_list_pop F.type_list_pop mt_popAt pv pa rfl (by rw [star_one h5]; rfl) hl2 (star_one h5) rfl
        have pa2 := pa_cons pp pa_nil (star_one h5')
        refine PS.imp (PS.good c.c.hK (ps_expr (pe_bm F.plainAttrs_list F.slot_list_append F.type_list_append mt_append pz' pa2 rfl (by rw [star_one h5']; rfl) hl (star_one h5') rfl) rfl)) fun D σ H ⟨F, ρ, s, st, q⟩ => ?_
        unfold evS at q
        obtain ⟨ys, e0, q⟩ := q.lift
        have e0 := getL_ok e0
        obtain ⟨xs, e1, q⟩ := q.lift
        have e1 := getL_ok e1
        obtain ⟨a, us, es, ee, r2, r3, r4, r5, r6, r7⟩ := st.relO j _ e0 hj
        cases ee
        obtain ⟨b, vs, ds, ed, e2, e3, e4, e5, e6, e7⟩ := st.relO i _ e1 hi
        cases ed
        refine ⟨_, r2, .inl ⟨rfl, us, SqL.of r3⟩, _, e2, .inl ⟨rfl, vs, SqL.of e3⟩, F, ρ, s, st, (q.exp st).imp fun kd s1 H1 _ f1 d1 g1 q1 kv rk => ?_⟩
        have st1 := st.step f1 d1 g1
        obtain ⟨b', vs', ds', ed', e2', e3', e4', e5', e6', e7'⟩ := st1.relO i _ e1 hi
        cases ed'
        rw [e2] at e2'
        cases e2'
        obtain ⟨a', us', es', ee', r2', r3', r4', r5', r6', r7'⟩ := st1.relO j _ e0 hj
        cases ee'
        rw [r2] at r2'
        cases r2'
        split at q1
        case isFalse => exact q1.elim
        rename_i hlim
        obtain ⟨hl0, hl1⟩ := hlim
        unfold nextR at q1
        obtain ⟨ρ1, ek, q3⟩ := q1.lift
        obtain ⟨iv, jj, yv, rfl, hx, e9, rfl⟩ := popD ek
        have rk : Rp p F H1 kv (.int iv) := rk
        cases rk
        obtain ⟨v, hv, rv⟩ := e7'.get e9
        have l := e7'.len
        have hl1 : xs.length ≤ 1000000 := hl1
        have hl0 : ys.length < 1000000 := hl0
        rw [← l] at hx
        obtain ⟨z1, z2, z3⟩ := seq_ok hx (by omega)
        have nab : a ≠ b := fun z => hij (st1.inj i j _ _ b hi hj e1 e0 e2 (by rw [r2, z]))
        refine ⟨b, vs', iv, jj, v, rfl, rfl, e3', z1, z2, z3, hv, ?_⟩
        have l2 := r7'.len
        refine ⟨a, us', v, rfl, rfl, by rw [upd_ne nab]; exact r3', by rw [sizeLine_eq]; omega, fun g3 => ?_⟩
        have gI : Good p (upd H1 b (.lst (vs'.eraseIdx jj))) := fun a o e => by
          by_cases z : a = b
          · rw [z]; exact st1.good _ _ e3'
          · rw [upd_ne z] at e; exact st1.good _ _ e
        obtain ⟨st3, x3⟩ := st1.wr (ws := vs'.eraseIdx jj) (es := xs.eraseIdx jj) hi e1 e2 gI (e7'.erase jj)
        have up : ∀ a o, H1 a = some o → ¬ F a → (upd H1 b (.lst (vs'.eraseIdx jj))) a = some o := fun a o e n => by rw [upd_ne (fun z => n (by rw [z]; exact e4'))]; exact e
        have e0' : (ρ.set i (some (.list (xs.eraseIdx jj))))[j]? = some (some (.list ys)) := by rw [List.getElem?_set_ne hij]; exact e0
        obtain ⟨st4, x4⟩ := st3.wr (ws := us' ++ [v]) (es := ys ++ [yv]) hj e0' r2 g3 ((r7'.fr up).append (.cons (rv.fr up) .nil))
        exact q3 _ _ _ (x3.trans x4) st4
      · cases h
    · cases h
  · cases h
end
end EV
end

section
set_option Elab.async false
set_option linter.all false
set_option autoImplicit false
set_option maxRecDepth 100000
/-! EvStmt5: return, raise; all statements. -/
namespace EV
open PySem PySem.Spec PyProof.Rows L2

section
variable {p : Par} {g : Glb} {n : Nat} {N : List Str}
variable {x : Fx} {X : Cx} {sc : Scope} {F : Addr → Prop} {σ : L2.St} {H H1 H2 : Hp} {ρ : Env} {s s1 s2 : DS} {own : List Nat} {fr : Bool} {k : Nat}
theorem St.dead (t : St p x F σ H ρ s) {v : V} {d : D} (h : Rp p F H v d) : Rp p x.S H v d := h.anti t.sf
theorem case_ret (wf : Wf p g n) {st : Stmt} {e : E} (ho : x.own = own) (hf : x.fresh = fr) (h : (match asRet st with
      | some (some y) => if fr = true then (match e with
          | .var i => own.contains i && chkE g N own k .borrow sc y (.var i)
          | e => chkE g N own k .fresh sc y e) else chkE g N own k .strict sc y e
      | _ => false) = true) (c : SCxt p n x N X sc) : PS X st (rS p x (evS (cf p n) p.W (.ret e))) := by
  split at h
  · rename_i y ey
    obtain ⟨pos, rfl⟩ := asRet_eq ey
    cases hfr : fr with
    | false =>
      subst hf
      rw [hfr, if_neg (by decide)] at h
      refine PS.imp (PS.good c.c.hK (ps_ret ((eok wf own k).e .strict sc y e x X ho h c.c))) fun D σ H ⟨F, ρ, s, st, q⟩ => ?_
      unfold evS at q
      refine ⟨F, ρ, s, st, (q.exp st).imp fun d s1 H1 _ f1 d1 g1 q1 v rv g2 => ?_⟩
      refine q1 v H1 (st.fr.trans f1) d1 g1 ?_
      rw [hfr]
      exact (st.step f1 d1 g1).dead rv
    | true =>
      have hfx : x.fresh = true := hf.trans hfr
      rw [hfr, if_pos rfl] at h
      have fresh : chkE g N own k .fresh sc y e = true → PS X (.Return (some y) pos) (rS p x (evS (cf p n) p.W (.ret e))) := fun h => by
        refine PS.imp (PS.good c.c.hK (ps_ret ((eok wf own k).e .fresh sc y e x X ho h c.c))) fun D σ H ⟨F, ρ, s, st, q⟩ => ?_
        unfold evS at q
        refine ⟨F, ρ, s, st, (q.exp st).imp fun d s1 H1 _ f1 d1 g1 q1 v rv g2 => ?_⟩
        refine q1 v H1 (st.fr.trans f1) d1 g1 ?_
        rw [hfx]
        show RF p x.S x.H0 H1 v d
        have rv : RF p F H H1 v d := rv
        have h0 : ∀ a, H a = none → x.H0 a = none := fun a z => by
          cases q : x.H0 a with
          | none => rfl
          | some o => exact absurd z (st.th a (by rw [q]; simp))
        cases d with
        | list ds =>
          obtain ⟨a, vs, rfl, h1, h2, h3⟩ := rv
          exact ⟨a, vs, rfl, h0 a h1, h2, h3.anti fun b z => by
            rcases z with z | z
            · exact .inl (st.sf b z)
            · exact .inr z⟩
        | _ => exact (st.step f1 d1 g1).dead rv
      cases e with
      | var i =>
        simp only [Bool.and_eq_true] at h
        have hi : i ∈ x.own := by rw [ho]; simpa using h.1
        have h2 := h.2
        cases k with
        | zero => simp [chkE] at h2
        | succ k =>
          unfold chkE at h2
          rw [Bool.and_eq_true] at h2
          have h2 := h2.2
          simp only at h2
          split at h2
          · rename_i y' ey'
            simp only [Bool.and_eq_true, decide_eq_true_eq] at h2
            obtain ⟨⟨⟨h2a, h2b⟩, h2c⟩, _⟩ := h2
            obtain ⟨pos', rfl⟩ := asName_eq ey'
            obtain ⟨k1, k2, k3⟩ := okName_ok h2c
            refine PS.imp (PS.good c.c.hK (ps_ret (pe_var (i := i) (by rw [c.c.hN]; exact h2a) (c.c.vis h2b) k1 k2))) fun D σ H ⟨F, ρ, s, st, q⟩ => ?_
            unfold evS ev at q
            obtain ⟨d, e1, q⟩ := q.lift
            have e2 : ρ[i]? = some (some d) := by
              rw [List.getD_eq_getElem?_getD] at e1
              cases z : ρ[i]? with
              | none => rw [z] at e1; cases e1
              | some w => rw [z] at e1; rw [← e1]; rfl
            obtain ⟨a, vs, ds, rfl, e3, e4, e5, e6, e7, e8⟩ := st.relO i d e2 hi
            refine ⟨_, e3, fun g2 => q (.ref a) H st.fr st.dr st.good ?_⟩
            rw [hfx]
            exact ⟨a, vs, rfl, e6, e4, e8.anti fun b z => by
              rcases z with z | z
              · exact st.sf b z
              · rw [z]; exact e5⟩
          · cases h2
      | _ => exact fresh h
  · cases h
theorem case_retN {st : Stmt} (h : (match asRet st with
      | some none => true
      | _ => false) = true) (c : SCxt p n x N X sc) : PS X st (rS p x (evS (cf p n) p.W .retN)) := by
  split at h
  · rename_i ey
    obtain ⟨pos, rfl⟩ := asRet_eq ey
    refine PS.imp (PS.good c.c.hK ps_retN) fun D σ H ⟨F, ρ, s, st, q⟩ => fun g2 => ?_
    unfold evS at q
    exact q .non H st.fr st.dr st.good (.of (fun _ z => nomatch z) .non)
  · cases h
theorem case_raiM (wf : Wf p g n) {st : Stmt} {m : Str} (h : (match asRaise st with
      | some (y, e) => decide (y = ("Malformed" : Str)) && gloB sc y && (match asStr e with
        | some z => decide (m = z)
        | none => false)
      | none => false) = true) (c : SCxt p n x N X sc) : PS X st (rS p x (evS (cf p n) p.W (.raiM m))) := by
  split at h
  · rename_i y e ey
    simp only [Bool.and_eq_true, decide_eq_true_eq] at h
    obtain ⟨⟨rfl, h2⟩, h3⟩ := h
    obtain ⟨p1, p2, p3, rfl⟩ := asRaise_eq ey
    split at h3
    · rename_i z ez
      obtain ⟨j, p4, rfl⟩ := asStr_eq ez
      obtain ⟨B, nw, ii, bm, FF, hx⟩ := wf.xM
      have r : Raises X (.ref p.M) := raises_own (by rw [c.c.hK]; exact wf.bM) (by rw [c.c.hK]; exact wf.tM)
      refine PS.imp (ps_raise c.c.calm c.tk (pmk_own FF (by rw [c.c.hK]; exact hx) (by rw [c.c.hmg]; exact wf.gM) (by rw [c.c.hK]; exact wf.kM) r (c.c.gl h2) (by decide))) fun D σ H ⟨F, ρ, s, st, q⟩ => ?_
      unfold evS at q
      exact q _ none H st.fr st.dr ⟨rfl, rfl⟩
    · cases h3
  · cases h
theorem case_raiR (wf : Wf p g n) {st : Stmt} {e : E} (h : (match e with
      | .con (.str m) => (match asRaise st with
        | some (x, y) => decide (x = ("Refused" : Str)) && gloB sc x && g.rf && (match asStr y with
          | some z => decide (m = z)
          | none => false)
        | none => false)
      | _ => false) = true) (c : SCxt p n x N X sc) : PS X st (rS p x (evS (cf p n) p.W (.raiR e))) := by
  split at h
  · rename_i m
    split at h
    · rename_i y e2 ey
      simp only [Bool.and_eq_true, decide_eq_true_eq] at h
      obtain ⟨⟨⟨rfl, h2⟩, h3⟩, h4⟩ := h
      obtain ⟨p1, p2, p3, rfl⟩ := asRaise_eq ey
      split at h4
      · rename_i z ez
        have h4 : m = z := of_decide_eq_true h4
        subst h4
        obtain ⟨j, p4, rfl⟩ := asStr_eq ez
        have R := wf.rfk h3
        obtain ⟨fI, fd, i1, i2, i3, i4⟩ := R.ini
        have F1 : FnOk X.prog X.w X.K X.mg X.base (L2.CX X.prog X.w) 0 fI fd [("self" : Str), "reason"] (spRef p.Rf) := by rw [c.c.hP, c.c.hw, c.c.hK, c.c.hmg, c.c.hb]; exact i4
        have hx : Passes (L2.CX X.prog X.w) X (fun _ _ _ => False) := passes_call c.tk fun _ _ _ _ z => z.elim
        have mk := pmk_oex (X := X) (p := p1) (pos := p2) (T := (by rw [c.c.hK]; exact R.ox : OexC X.K p.Rf)) (by rw [c.c.hK]; exact i1) (by rw [c.c.hK]; exact i2) F1 (c.c.room.mono (by omega)) (ds := []) (dvs := []) (by rw [c.c.hK]; exact i3) .nil hx (c.c.gl h2) (by rw [c.c.hmg]; exact R.gR) (pa_cons (pe_str (x := m) (j := j) (pos := p4)) pa_nil) (by decide) (by rfl) (by rfl)
        refine PS.imp (ps_raise c.c.calm c.tk mk) fun D σ H ⟨F, ρ, s, st, q⟩ => ?_
        have ee : evS (cf p n) p.W (.raiR (.con (.str m))) ρ s = .err (.refu m) s := by
          unfold evS ev
          rfl
        rw [ee] at q
        refine ⟨by simp, fun a ha => ⟨a, .str m, rfl, upd_same, fun dx hdx hne => ⟨rfl, dx, [(("reason" : Str), V.str m)], upd_same, ?_, ?_, ?_⟩⟩⟩
        · rw [upd_ne hne, upd_same]
        · rw [upd_ne hne] at hdx
          exact hdx
        · have hdx' : H dx = none := by rw [upd_ne hne] at hdx; exact hdx
          have same : ∀ b o, H b = some o → (upd (del (upd (upd (upd H a (exo a p.Rf none)) dx (exd dx [(("reason" : Str), V.str m)])) a (exo a p.Rf (some dx))) a) dx (.xd [(("reason" : Str), V.str m)])) b = some o := fun b o e => by
            have n1 : b ≠ dx := fun z => by rw [z, hdx'] at e; cases e
            have n2 : b ≠ a := fun z => by rw [z, ha] at e; cases e
            rw [upd_ne n1, del_ne n2, upd_ne n2, upd_ne n1, upd_ne n2]
            exact e
          refine q _ _ _ (fun b o e n => same b o (st.fr b o e n)) ⟨same _ _ st.dr.at0, SqL.fr st.dr.cells fun o e => same _ o e, st.dr.ne⟩ ⟨rfl, dx, rfl, upd_same⟩
      · cases h4
    · cases h
  · cases h
theorem St.draw (t : St p x F σ H ρ s) {s' : DS} (hc : s'.cells = s.cells) (g : Good p (upd H p.a0 (.lst (rowV p s')))) : St p x F σ (upd H p.a0 (.lst (rowV p s'))) ρ s' ∧ Ext p F H F (upd H p.a0 (.lst (rowV p s'))) := by
  have up : ∀ b o, H b = some o → ¬ F b → (upd H p.a0 (.lst (rowV p s'))) b = some o := fun b o e n => by rw [upd_ne (fun z => n (by rw [z]; exact t.fa))]; exact e
  have there : ∀ b, H b ≠ none → (upd H p.a0 (.lst (rowV p s'))) b ≠ none := fun b n => by
    by_cases z : b = p.a0
    · rw [z, upd_same]; simp
    · rw [upd_ne z]; exact n
  refine ⟨⟨t.len, fun i d e n => ?_, fun i d e n => ?_, t.inj, ⟨upd_same, by rw [hc]; exact SqL.fr t.dr.cells fun o e => up _ _ e t.fc, t.dr.ne⟩, g, fun b f => there b (t.tr b f), t.fa, t.fc, t.sf, fun b o e n => ?_, fun b n => there b (t.th b n)⟩, fun _ h => h, fun b h n => absurd h n, up⟩
  · obtain ⟨v, k1, k2⟩ := t.rel i d e n
    exact ⟨v, k1, k2.fr up⟩
  · obtain ⟨a, vs, ds, k1, k2, k3, k4, k5, k6, k7⟩ := t.relO i d e n
    exact ⟨a, vs, ds, k1, k2, by rw [upd_ne k6]; exact k3, k4, k5, k6, k7.fr up⟩
  · rw [upd_ne n]
    exact t.fr b o e n
theorem case_sdrw (wf : Wf p g n) {st : Stmt} {i j : Nat} {e : E} (ho : x.own = own) (h : (match asAsg st with
      | some (t, y, _) => drB N own sc t i j && decide (1 ≤ j) && decide (j ≤ 3) && notComp y && chkE g N own k .borrow sc y e
      | _ => false) = true) (c : SCxt p n x N X sc) : PS X st (rS p x (evS (cf p n) p.W (.sdrw i j e))) := by
  split at h
  · rename_i t y l ey
    simp only [Bool.and_eq_true, decide_eq_true_eq] at h
    obtain ⟨⟨⟨⟨h1, h2⟩, h3⟩, h4⟩, h5⟩ := h
    obtain ⟨pos, rfl, _⟩ := asAsg_eq ey
    unfold drB at h1
    split at h1
    · rename_i a b eab
      simp only [Bool.and_eq_true] at h1
      obtain ⟨⟨h1, h6⟩, h7⟩ := h1
      obtain ⟨pos1, rfl⟩ := asSub_eq eab
      split at h1
      · rename_i w ew
        simp only [Bool.and_eq_true, decide_eq_true_eq, Bool.not_eq_true'] at h1
        obtain ⟨⟨⟨k1, k2⟩, k3⟩, k4⟩ := h1
        obtain ⟨pos2, rfl⟩ := asName_eq ew
        obtain ⟨m1, m2, m3⟩ := okName_ok k3
        split at h6
        · rename_i jj ejj
          have h6 : jj = (j : Int) := of_decide_eq_true h6
          subst h6
          obtain ⟨kk, pos3, rfl⟩ := asCon_int ejj
          have hi : i ∉ x.own := by rw [ho]; simpa using k4
          refine PS.imp (PS.good c.c.hK (ps_asg ((eok wf own k).e .borrow sc y e x X ho h5 c.c) (pg_sub (pe_var (i := i) (by rw [c.c.hN]; exact k1) (c.c.vis k2) m1 m2) pe_int set_list) (sws_not h4) rfl rfl)) fun D σ H ⟨F, ρ, s, st, q⟩ => ?_
          unfold evS at q
          refine ⟨F, ρ, s, st, (q.exp st).imp fun d s1 H1 _ f1 d1 g1 q1 v rv => ?_⟩
          have st1 := st.step f1 d1 g1
          obtain ⟨u, e1, qa⟩ := q1.lift
          obtain ⟨s2, e2, qb⟩ := qa.lift
          have e1 := isDr_ok e1
          have ix : L2.ixN (rowV p s1).length (j : Int) = some j := by
            unfold L2.ixN
            rw [if_pos (by omega), if_pos (by show (j : Int) < ((4 : Nat) : Int); omega)]
            simp
          have key : ∃ w : Int, d = .int w ∧ (rowV p s1).set j (.int w) = rowV p s2 ∧ s2.cells = s1.cells := by
            cases d with
            | int w =>
              refine ⟨w, rfl, ?_⟩
              rcases (show j = 1 ∨ j = 2 ∨ j = 3 by omega) with rfl | rfl | rfl
              · unfold setDr at e2
                simp only at e2
                split at e2
                · cases e2
                  refine ⟨?_, rfl⟩
                  have ew : (((w + 1).toNat : Nat) : Int) - 1 = w := by omega
                  show [V.ref p.c0, V.int w, V.int s1.cur, V.int s1.seed] = [V.ref p.c0, V.int ((((w + 1).toNat : Nat) : Int) - 1), V.int s1.cur, V.int s1.seed]
                  rw [ew]
                · cases e2
              · cases e2; exact ⟨rfl, rfl⟩
              · cases e2; exact ⟨rfl, rfl⟩
            | _ => rcases (show j = 1 ∨ j = 2 ∨ j = 3 by omega) with rfl | rfl | rfl <;> cases e2
          obtain ⟨w, rfl, er, ec⟩ := key
          have ev' := Rk.int (show Rk p true F H1 v (.int w) from rv)
          subst ev'
          refine ⟨_, drow st1 hi e1, p.a0, rowV p s1, _, j, rfl, rfl, st1.dr.at0, ix, ?_⟩
          rw [er]
          intro g2
          obtain ⟨st2, x2⟩ := st1.draw ec g2
          exact qb _ _ _ x2 st2
        · cases h6
      · cases h1
    · cases h1
  · cases h
/-- every statement -/
theorem sok (wf : Wf p g n) (own : List Nat) (fr : Bool) : ∀ k, SOk p g n N own fr k
  | 0 => {
      s := fun sc st s' x X _ _ h _ => by simp [chkS] at h
      ss := fun sc sts s' x X _ _ h _ => by simp [chkSs] at h }
  | k + 1 =>
    have ih := sok wf own fr k
    { s := fun sc st s' x X ho hf h c => by
        unfold chkS at h
        cases s' with
        | expr e => exact case_expr wf ho h c
        | set i e => exact case_set wf ho h c
        | par ts as => exact case_par wf ho h c
        | unp ts e => exact case_unp wf ho h c
        | app i e => exact case_app wf ho h c
        | aug i o e => exact case_aug wf ho h c
        | augs i kx o e => exact case_augs wf ho h c
        | seti i kx e => exact case_seti wf ho h c
        | ins i kx e => exact case_ins wf ho h c
        | popAt j i kx => exact case_popAt wf ho h c
        | appPop j i kx => exact case_appPop wf ho h c
        | ite a b d => exact case_ite wf ih ho hf h c
        | forr a b d => exact case_for wf ih ho hf h c
        | whl a b => exact case_whl wf ih ho hf h c
        | ret e => exact case_ret wf ho hf h c
        | retN => exact case_retN h c
        | raiM m => exact case_raiM wf h c
        | raiR e => exact case_raiR wf h c
        | sdrw i j e => exact case_sdrw wf ho h c
        | brk =>
          simp only at h
          split at h
          · exact PS.imp ps_break fun D σ H ⟨F, ρ, s, st, q⟩ => by unfold evS at q; exact q F σ H Ext.refl st
          · cases h
        | cnt =>
          simp only at h
          split at h
          · exact PS.imp ps_continue fun D σ H ⟨F, ρ, s, st, q⟩ => by unfold evS at q; exact q F σ H Ext.refl st
          · cases h
        | pas =>
          simp only at h
          split at h
          · exact PS.imp ps_pass fun D σ H ⟨F, ρ, s, st, q⟩ => by unfold evS at q; exact q F σ H Ext.refl st
          · cases h
        | _ => cases h
      ss := fun sc sts s' x X ho hf h c => by
        unfold chkSs at h
        split at h
        · exact PSs.imp pss_nil fun D σ H ⟨F, ρ, s, st, q⟩ => by unfold evS at q; exact q F σ H Ext.refl st
        · rename_i st r a b
          simp only [Bool.and_eq_true] at h
          refine PSs.imp (pss_cons (ih.s sc st a x X ho hf h.1 c) (ih.ss sc r b x X ho hf h.2 c)) fun D σ H ⟨F, ρ, s, st, q⟩ => ?_
          unfold evS at q
          refine ⟨F, ρ, s, st, SO.seq (D := D) ?_ ?_ q⟩
          · intro ρ' s' F' σ' H' _ qq st'
            exact ⟨F', ρ', s', st', qq⟩
          · intro fl ρ' s' hfl
            cases fl with
            | next => exact absurd rfl hfl
            | _ => rfl
        · cases h }
end
end EV
end

section
set_option Elab.async false
set_option linter.all false
set_option autoImplicit false
set_option maxRecDepth 100000
/-! EvFn: a def whose text is the small one keeps the evaluator's promise. -/
namespace EV
open PySem PySem.Spec PyProof.Rows L2

section
variable {p : Par} {g : Glb} {n : Nat}
/-- the state at a def's entry -/
theorem St.entry {fi : FnI} {S : Addr → Prop} {H : Hp} {vs : List V} {ds : List D} {s : DS} {E : XK} (hS : FT S H) (h0 : S p.a0) (h1 : ¬ S p.c0) (gd : Good p H) (dr : Dr p H s) (ra : RpA p S H vs ds) (hl : ds.length = fi.ps.length) (hN : fi.ps.length ≤ fi.N.length) (ho : ∀ i ∈ fi.own, fi.ps.length ≤ i) :
    St p ⟨fi.own, S, H, fi.fresh, E⟩ S (L2.start fi.N vs) H (ds.map some ++ List.replicate (fi.N.length - ds.length) none) s := by
  have lv := ra.len
  have at_ : ∀ {i : Nat} {d : D}, (ds.map some ++ List.replicate (fi.N.length - ds.length) none)[i]? = some (some d) → i < ds.length ∧ ds[i]? = some d := fun {i d} h => by
    by_cases hi : i < ds.length
    · rw [List.getElem?_append_left (by simpa using hi), List.getElem?_map] at h
      refine ⟨hi, ?_⟩
      cases q : ds[i]? with
      | none => rw [q] at h; cases h
      | some e => rw [q] at h; cases h; rfl
    · rw [List.getElem?_append_right (by simpa using hi), List.getElem?_replicate] at h
      split at h <;> cases h
  refine ⟨?_, fun i d h hi => ?_, fun i d h hi => ?_, fun i j d e a h1 h2 q1 q2 q3 q4 => ?_, dr, gd, hS, h0, h1, fun _ h => h, FrE.refl, fun _ h => h⟩
  · unfold L2.start
    simp [lv]
  · obtain ⟨hlt, e⟩ := at_ h
    obtain ⟨v, ev, rv⟩ := ra.get e
    refine ⟨v, ?_, rv⟩
    unfold L2.start
    rw [List.getElem?_append_left (by simp; omega), List.getElem?_map, ev]
    rfl
  · obtain ⟨hlt, e⟩ := at_ h
    have := ho i hi
    omega
  · obtain ⟨hlt, e⟩ := at_ q1
    have := ho i h1
    omega
/-- the promise's shape -/
theorem spF_len {f : Nat} {fi : FnI} (ef : p.T[f]? = some fi) : ∀ vs H Q E, spF p n f vs H Q E → vs.length = fi.ps.length := fun vs H Q E ⟨S, ds, s, hS, h0, h1, gd, dr, ra, fi', ef', hl, q⟩ => by
  rw [ef] at ef'
  cases ef'
  rw [ra.len, hl]
/-- at level 0 nothing is promised -/
theorem fn_zero {f : Nat} {fi : FnI} {fa : Addr} {fd : FuncData} (ef : p.T[f]? = some fi) : FnOk p.P p.w p.K p.mg p.base (L2.CX p.P p.w) 1 fa fd fi.ps (spF p 0 f) :=
  ⟨spF_len ef, fun A outer s H args us vs Q E hr he hb hv hs => by
    obtain ⟨S, ds, s, hS, h0, h1, gd, dr, ra, fi', ef', hl, q⟩ := hs
    exact q.elim⟩
/-- a def's own facts -/
structure DefF (p : Par) (fi : FnI) (params : Arguments) (body : List Stmt) (scope : Scope) (fa : Addr) (fd : FuncData) : Prop where
  F : FunD p.K fi.name fi.name params body scope [] [] fa fd
  S : FnScope fi.N fi.ps scope
  hN : fi.ps.length ≤ fi.N.length
  ho : ∀ i ∈ fi.own, fi.ps.length ≤ i
theorem fn_step (wf : Wf p g n) {f : Nat} {fi : FnI} {fa : Addr} {fd : FuncData} {params : Arguments} {body : List Stmt} {scope : Scope} (ef : g.T[f]? = some fi) (d : DefF p fi params body scope fa fd) {k : Nat} (h : chkSs g fi.N fi.own fi.fresh k scope body fi.body = true) :
    FnOk p.P p.w p.K p.mg p.base (L2.CX p.P p.w) (n + 2) fa fd fi.ps (spF p (n + 1) f) := by
  have ef' : p.T[f]? = some fi := by rw [wf.hT]; exact ef
  refine d.F.ok d.S (spF_len ef') fun cdv A outer s H vs Q E hr hsp => ?_
  obtain ⟨S, ds, s', hS, h0, h1, gd, dr, ra, fi', ef2, hl, q⟩ := hsp
  rw [ef'] at ef2
  cases ef2
  have tk : Takes (cxOf (L2.CX p.P p.w) p.P p.w p.K p.mg p.base fi.N fi.name scope fa cdv A outer s H E) (fun c d _ H => E c d H) := takes_of rfl rfl rfl rfl
  have cx : SCxt p n ⟨fi.own, S, H, fi.fresh, E⟩ fi.N (cxOf (L2.CX p.P p.w) p.P p.w p.K p.mg p.base fi.N fi.name scope fa cdv A outer s H E) scope :=
    ⟨⟨rfl, rfl, rfl, rfl, rfl, rfl, d.S.nd, rfl, hr, ScR.refl _, passes_call tk fun _ _ _ _ h => h⟩, rfl, d.S.kind, passes_of rfl, tk, fun _ => rfl⟩
  refine ⟨_, (sok wf fi.own fi.fresh k).ss scope body fi.body _ _ rfl rfl h cx, S, _, s', St.entry hS h0 h1 gd dr ra hl d.hN d.ho, ?_⟩
  unfold run at q
  rw [ef'] at q
  dsimp only at q
  rw [if_pos hl] at q
  cases r : evS (run p.T p.W n) p.W fi.body (ds.map some ++ List.replicate (fi.N.length - ds.length) none) s' with
  | stuck => rw [r] at q; exact q.elim
  | err xn s2 => rw [r] at q; exact q
  | ok z s2 =>
    obtain ⟨fl, ρ'⟩ := z
    rw [r] at q
    cases fl with
    | next =>
      intro F' σ' H' x2 st
      have q : (match (if (!fi.fresh) = true then R.ok PyData.none s2 else R.stuck : R PyData) with
        | .ok d s' => ∀ v H', FrE p H H' → Dr p H' s' → Good p H' → RX p fi.fresh S H H' v d → Q v H'
        | .err xn s' => ∀ c dd H', FrE p H H' → Dr p H' s' → ErrAt p xn c dd H' → E c dd H'
        | .stuck => False) := q
      cases hf : fi.fresh with
      | true => rw [hf] at q; exact q.elim
      | false =>
        rw [hf] at q
        exact q .non H' st.fr st.dr st.good .non
    | brk => exact q.elim
    | cnt => exact q.elim
    | ret dd =>
      intro v H' f2 d2 g2 rx
      have q : (match (if (!fi.fresh || isLst dd) = true then R.ok dd s2 else R.stuck : R PyData) with
        | .ok d s' => ∀ v H', FrE p H H' → Dr p H' s' → Good p H' → RX p fi.fresh S H H' v d → Q v H'
        | .err xn s' => ∀ c dd H', FrE p H H' → Dr p H' s' → ErrAt p xn c dd H' → E c dd H'
        | .stuck => False) := q
      by_cases hz : (!fi.fresh || isLst dd) = true
      · rw [if_pos hz] at q
        exact q v H' f2 d2 g2 rx
      · rw [if_neg hz] at q
        exact q.elim

/-! ### the module's tables -/
mutual
def valB (K : PySem.W.Frag) : D → Value → Bool
  | .none, .none => true
  | .bool a, .bool b => a == b
  | .int i, .int j _ => decide (i = j)
  | .str x, .str y _ => decide (x = y)
  | .tuple ds, .ref a => (match K.lookup a with
    | some ⟨.type c, none, .seq its _, _⟩ => decide (c = "tuple") && (decide (its.size ≤ sizeLine) && valBs K ds its.toList)
    | _ => false)
  | _, _ => false
def valBs (K : PySem.W.Frag) : List D → List Value → Bool
  | [], [] => true
  | d :: ds, u :: us => valB K d u && valBs K ds us
  | _, _ => false
end
mutual
theorem valB_ok : ∀ (d : D) (u : Value), valB p.K d u = true → ∃ v, RelV v u ∧ ∀ (F : Addr → Prop) H, (∀ a, p.K.lookup a ≠ none → ¬ F a) → Rp p F H v d
  | .none, u, h => by cases u <;> simp [valB] at h; exact ⟨.non, rfl, fun _ _ _ => .non⟩
  | .bool a, u, h => by cases u <;> simp [valB] at h; exact ⟨.bl a, by rw [h]; rfl, fun _ _ _ => .bl _⟩
  | .int i, u, h => by
    cases u <;> simp [valB] at h
    rename_i j t
    exact ⟨.int i, ⟨t, by rw [h]⟩, fun _ _ _ => .int _⟩
  | .str x, u, h => by
    cases u <;> simp [valB] at h
    rename_i y t
    exact ⟨.str x, ⟨t, by rw [h]⟩, fun _ _ _ => .str _⟩
  | .tuple ds, u, h => by
    cases u with
    | ref a =>
      have h : (match p.K.lookup a with
        | some ⟨.type c, none, .seq its _, _⟩ => decide (c = "tuple") && (decide (its.size ≤ sizeLine) && valBs p.K ds its.toList)
        | _ => false) = true := h
      split at h
      · rename_i c its m osl e
        simp only [Bool.and_eq_true, decide_eq_true_eq] at h
        obtain ⟨h1, h2, h3⟩ := h
        obtain ⟨vs, r1, r2⟩ := valBs_ok ds its.toList h3
        exact ⟨.ref a, rfl, fun F H nF => .tup (nF a (by rw [e]; simp)) (.inr ⟨_, its, m, e, by rw [h1], rfl, h2, r1⟩) (.inl ⟨_, e, by rw [h1], rfl⟩) (r2 F H nF)⟩
      · cases h
    | _ => simp [valB] at h
  | .list ds, u, h => by cases u <;> simp [valB] at h
  | .dict ds, u, h => by cases u <;> simp [valB] at h
theorem valBs_ok : ∀ (ds : List D) (us : List Value), valBs p.K ds us = true → ∃ vs, Vals vs us ∧ ∀ (F : Addr → Prop) H, (∀ a, p.K.lookup a ≠ none → ¬ F a) → RpA p F H vs ds
  | [], us, h => by cases us <;> simp [valBs] at h; exact ⟨[], .nil, fun _ _ _ => .nil⟩
  | d :: ds, us, h => by
    cases us with
    | nil => simp [valBs] at h
    | cons u us =>
      simp only [valBs, Bool.and_eq_true] at h
      obtain ⟨v, r1, r2⟩ := valB_ok d u h.1
      obtain ⟨vs, r3, r4⟩ := valBs_ok ds us h.2
      exact ⟨v :: vs, .cons r1 r3, fun F H nF => .cons (r2 F H nF) (r4 F H nF)⟩
end
/-- a tuple of the module is a plain one -/
def nodB (K : PySem.W.Frag) : D → Value → Bool
  | .tuple _, .ref a => (match K.lookup a with
    | some o => (match o.cls, o.dict with
      | .type c, none => decide (c = "tuple")
      | _, _ => false)
    | none => false)
  | .tuple _, _ => false
  | _, _ => true
theorem nodB_ok {d : D} {u : Value} {v : V} (h : nodB p.K d u = true) (r : RelV v u) : TyK p v d := fun ds e => by
  subst e
  cases u with
  | ref a =>
    have h : (match p.K.lookup a with
      | some o => (match o.cls, o.dict with
        | .type c, none => decide (c = "tuple")
        | _, _ => false)
      | none => false) = true := h
    split at h
    · rename_i o e
      split at h
      · rename_i c e1 e2
        have h : c = "tuple" := by simpa using h
        cases v with
        | ref b =>
          have r : Value.ref a = Value.ref b := r
          cases r
          exact ⟨_, o, rfl, e, by rw [e1, h], e2⟩
        | _ => first | (cases r; done) | (obtain ⟨t, r⟩ := r; cases r)
      · cases h
    · cases h
  | _ => simp [nodB] at h
def conB (K : PySem.W.Frag) (q : Str × D) : Bool := match PySem.W.nsIn K mainGlobals q.1 with
  | some (some u) => valB K q.2 u && nodB K q.2 u
  | _ => false
theorem conB_ok {h : Heap} (X : p.K.In h) (G : h.Ns mainGlobals p.mg) {q : Str × D} (c : conB p.K q = true) : ∃ u v, p.mg q.1 = some u ∧ RelV v u ∧ (∀ F H, (∀ a, p.K.lookup a ≠ none → ¬ F a) → Rp p F H v q.2) ∧ TyK p v q.2 := by
  unfold conB at c
  split at c
  · rename_i u e
    rw [Bool.and_eq_true] at c
    obtain ⟨v, r1, r2⟩ := valB_ok q.2 u c.1
    exact ⟨u, v, PySem.W.mg_of X G e, r1, r2, nodB_ok c.2 r1⟩
  · cases c
end
end EV
end

section
set_option Elab.async false
set_option linter.all false
set_option autoImplicit false
set_option maxRecDepth 100000
/-! EvTry: try with except .. as .. clauses of which the first one always fits; the law's def that tells how a call ends. -/
namespace EV
open PySem PySem.Spec PyProof.Rows L2

/-- the ends of a suite whose name goes -/
def goneE (i : Nat) (D : Ends) : Ends := { nx := fun σ H => D.nx (σ.set i none) H, rt := D.rt, bk := fun σ H => D.bk (σ.set i none) H, ct := fun σ H => D.ct (σ.set i none) H }
/-- what the first clause wishes of an exception -/
def wA2 (K : PySem.W.Frag) (c : Value) (i : Nat) (ts : Addr → Value → Option Addr → TS) (D : Ends) : WX := fun cls d σ H =>
  PySem.W.exmOne K cls c = some true ∧ ∀ a, H a = none → ts a cls d (goneE i D) (σ.set i (some (.ref a))) H
section
variable {X : Cx} {x nm : Str} {c : Value} {i : Nat} {body suite : List Stmt} {b0 : Stmt} {np pos pos1 : Pos} {hs2 : List ExceptHandler} {tb : WX → TS} {ts : Addr → Value → Option Addr → TS}
theorem ps_try_a2 (hs : X.stack = X.env :: X.outer) (hf : X.env.frame = some X.env.locals) (hN : X.N.Nodup) (hi : X.N[i]? = some nm) (hln : X.env.kindOf nm = some .local) (hc : Names X x c)
    (hb : ∀ (W : WX) (pn : List (Addr × Obj)) (xe : Value → Shared → Prop), Takes (X.tr pn xe) W → PassesOwn (model X.prog X.w) X.A X.env xe → PSs (X.tr pn xe) body (tb W))
    (hsu : ∀ (a : Addr) (oe : Obj) (cls : Value) (d : Option Addr) (pn : List (Addr × Obj)), Zc cls d oe → (∃ vs, oe.data = .fields vs) → PSs (X.suite a ((a, oe) :: pn)) (b0 :: suite) (ts a cls d)) :
    PS X (.Try body (.ExceptHandler (some (.Name x np)) (some nm) (b0 :: suite) pos1 :: hs2) [] [] pos) (fun D σ H => tb (wA2 X.K c i ts D) D σ H) := by
  refine ⟨fun pins s σ H D I h => ?_⟩
  have ok := I.ok
  have hfr : X.A.frames = some (X.env :: X.outer) := by rw [ok.frames, hs]
  refine wpAny_Try_except ?_
  -- what is wanted where the body raises: the catch
  have catch_ : Takes (X.tr (X.pn ++ pins) fun e s1 => wpAny (model X.prog X.w) X.A (noteFrame e X.env) (fun _ s2 => wpAny (model X.prog X.w) X.A (setFlight e none) (fun _ s3 =>
      wpAny (model X.prog X.w) X.A (handleBy e X.env (.ExceptHandler (some (.Name x np)) (some nm) (b0 :: suite) pos1 :: hs2)) (SP X pins D) X.xe s3) X.xe s2) X.xe s1) (wA2 X.K c i ts D) := by
    rintro u s' ⟨a, B, sI, pins', σ1, H1, cls, d, rfl, J0, nb, up, sky, na, os, ag, hx, hyes⟩
    have J : Inv X pins σ1 H1 sI := J0.ofTry ok
    have sky2 : Sky B (X.env :: X.outer) a (Zc cls d) X.env.locals s'.heap := hs ▸ sky
    refine Sky.land Zc.steady hfr hf sky2 fun h3 fl3 up3 => ?_
    have J3 : Inv X pins σ1 H1 { s' with heap := h3 } := J.landed nb fl3.1 (up.trans up3) os ag
    obtain ⟨oe3, vs3, he3, hz3, hd3⟩ := fl3.there
    have nfr : a ∉ frs (X.env :: X.outer) := fun hm => by
      obtain ⟨_, o', e', hnf⟩ := fl3.2.2.1.mem hm
      rw [he3] at e'
      cases e'
      exact hnf _ hd3
    have nL : a ≠ X.env.locals := fun z => nfr (List.mem_filterMap.mpr ⟨X.env, List.mem_cons_self, by rw [hf, z]⟩)
    have nF : a ∉ X.fs := fun hm => by
      obtain ⟨e1, he1, q⟩ := List.mem_filterMap.mp hm
      exact nfr (List.mem_filterMap.mpr ⟨e1, List.mem_cons_of_mem _ he1, q⟩)
    have S3 := J3.suite he3 hd3 na nL nF
    refine wpAny_handleBy_cons (codeAny_handlers_test ?_) (by intro q; cases q)
    have LM := PySem.W.exm_one (M := model X.prog X.w) J3.kIn (show PySem.W.Looks (model X.prog X.w) h3 (typeOf (.ref a)) cls from fun A Q E s k q => wpAny_typeOf_ref (k _ _ he3) (by rw [hz3.1]; exact q)) hx
    have test : ∀ {Q : Value → Shared → Prop} {E : Value → Shared → Prop}, Q c { s' with heap := h3 } → wpAny (model X.prog X.w) (X.A.mark (some (.ref a))) (eval (.Name x np) X.env) Q E { s' with heap := h3 } := fun {Q E} q => by
      obtain ⟨hg, hdb, hm | ⟨hm, hv, hnn⟩⟩ := hc
      · exact ld_glob (X := X.suite a ((a, oe3) :: (X.pn ++ pins))) S3 hg hm q hdb
      · exact ld_blt (X := X.suite a ((a, oe3) :: (X.pn ++ pins))) S3 hg hm hv q hnn hdb
    refine test (LM.here (codeAny_handlers_suite_as ?_))
    refine HandSPX.lands_againZ fl3 fun h4 fl4 up4 => ?_
    have J4 : Inv X pins σ1 H1 { s' with heap := h4 } := J.landed nb fl4.1 ((up.trans up3).trans up4) os ag
    obtain ⟨oe4, vs4, he4, hz4, hd4⟩ := fl4.there
    have S4 := J4.suite he4 hd4 na nL nF
    refine store_ok (X := X.suite a ((a, oe4) :: (X.pn ++ pins))) (v := .ref a) S4 hN hi (.inl hln) rfl (fun s5 S5 => ?_) (.inr hln)
    refine wpAny_mono ((hsu a oe4 cls d (X.pn ++ pins) hz4 ⟨_, hd4⟩).run [] s5 _ H1 _ S5 (hyes a na)) (fun f s6 hsp => ?_) (fun _ _ z => False.elim z)
    have end_ : ∀ {σ6 : L2.St} {H6 : Hp} {Q : Shared → Prop}, Inv (X.suite a ((a, oe4) :: (X.pn ++ pins))) [] σ6 H6 s6 → (∀ s7, Inv X pins (σ6.set i none) H6 s7 → Q s7) →
        wpAny (model X.prog X.w) X.A (do bindName X.env nm .none; unbindBehindTheSuite X.env nm pos1) (fun _ s7 => Q s7) X.xe s6 := fun {σ6 H6 Q} S6 hq => gone_ok (S6.unsuite ok) hN hi hln hq
    cases f with
    | next => obtain ⟨σ6, H6, S6, q6⟩ := hsp; exact end_ S6 fun s7 J7 => ⟨_, _, J7, q6⟩
    | brk => obtain ⟨σ6, H6, S6, q6⟩ := hsp; exact end_ S6 fun s7 J7 => ⟨_, _, J7, q6⟩
    | cont => obtain ⟨σ6, H6, S6, q6⟩ := hsp; exact end_ S6 fun s7 J7 => ⟨_, _, J7, q6⟩
    | ret u => obtain ⟨v6, σ6, H6, S6, r6, q6⟩ := hsp; exact end_ S6 fun s7 J7 => ⟨_, _, _, J7, r6, q6⟩
  refine wpAny_mono ((hb (wA2 X.K c i ts D) _ _ catch_ PassesOwn.looking).run [] s σ H D (I.toTry _) h) (fun f s1 hsp => ?_) (fun e s1 he => he)
  cases f with
  | next => obtain ⟨σ2, H2, J2, q⟩ := hsp; exact wpAny_execs_nil ⟨σ2, H2, J2.ofTry ok, q⟩
  | brk => obtain ⟨σ2, H2, J2, q⟩ := hsp; exact ⟨σ2, H2, J2.ofTry ok, q⟩
  | cont => obtain ⟨σ2, H2, J2, q⟩ := hsp; exact ⟨σ2, H2, J2.ofTry ok, q⟩
  | ret u => obtain ⟨v, σ2, H2, J2, r, q⟩ := hsp; exact ⟨v, σ2, H2, J2.ofTry ok, r, q⟩
end
/-- what two clauses wish of an exception -/
def wAA (K : PySem.W.Frag) (c1 c2 : Value) (i : Nat) (ts1 ts2 : Addr → Value → Option Addr → TS) (D : Ends) : WX := fun cls d σ H =>
  (PySem.W.exmOne K cls c1 = some true ∧ ∀ a, H a = none → ts1 a cls d (goneE i D) (σ.set i (some (.ref a))) H) ∨
  (PySem.W.exmOne K cls c1 = some false ∧ PySem.W.exmOne K cls c2 = some true ∧ ∀ a, H a = none → ts2 a cls d (goneE i D) (σ.set i (some (.ref a))) H)
section
variable {X : Cx} {x1 x2 nm : Str} {c1 c2 : Value} {i : Nat} {body suite1 suite2 : List Stmt} {b1 b2 : Stmt} {np1 np2 pos pos1 pos2 : Pos} {hs2 : List ExceptHandler} {tb : WX → TS} {ts1 ts2 : Addr → Value → Option Addr → TS}
theorem ps_try_aa (hs : X.stack = X.env :: X.outer) (hf : X.env.frame = some X.env.locals) (hN : X.N.Nodup) (hi : X.N[i]? = some nm) (hln : X.env.kindOf nm = some .local) (hc1 : Names X x1 c1) (hc2 : Names X x2 c2)
    (hb : ∀ (W : WX) (pn : List (Addr × Obj)) (xe : Value → Shared → Prop), Takes (X.tr pn xe) W → PassesOwn (model X.prog X.w) X.A X.env xe → PSs (X.tr pn xe) body (tb W))
    (hsu1 : ∀ (a : Addr) (oe : Obj) (cls : Value) (d : Option Addr) (pn : List (Addr × Obj)), Zc cls d oe → (∃ vs, oe.data = .fields vs) → PSs (X.suite a ((a, oe) :: pn)) (b1 :: suite1) (ts1 a cls d))
    (hsu2 : ∀ (a : Addr) (oe : Obj) (cls : Value) (d : Option Addr) (pn : List (Addr × Obj)), Zc cls d oe → (∃ vs, oe.data = .fields vs) → PSs (X.suite a ((a, oe) :: pn)) (b2 :: suite2) (ts2 a cls d)) :
    PS X (.Try body (.ExceptHandler (some (.Name x1 np1)) (some nm) (b1 :: suite1) pos1 :: .ExceptHandler (some (.Name x2 np2)) (some nm) (b2 :: suite2) pos2 :: hs2) [] [] pos) (fun D σ H => tb (wAA X.K c1 c2 i ts1 ts2 D) D σ H) := by
  refine ⟨fun pins s σ H D I h => ?_⟩
  have ok := I.ok
  have hfr : X.A.frames = some (X.env :: X.outer) := by rw [ok.frames, hs]
  refine wpAny_Try_except ?_
  -- what is wanted where the body raises: the catch
  have catch_ : Takes (X.tr (X.pn ++ pins) fun e s1 => wpAny (model X.prog X.w) X.A (noteFrame e X.env) (fun _ s2 => wpAny (model X.prog X.w) X.A (setFlight e none) (fun _ s3 =>
      wpAny (model X.prog X.w) X.A (handleBy e X.env (.ExceptHandler (some (.Name x1 np1)) (some nm) (b1 :: suite1) pos1 :: .ExceptHandler (some (.Name x2 np2)) (some nm) (b2 :: suite2) pos2 :: hs2)) (SP X pins D) X.xe s3) X.xe s2) X.xe s1) (wAA X.K c1 c2 i ts1 ts2 D) := by
    rintro u s' ⟨a, B, sI, pins', σ1, H1, cls, d, rfl, J0, nb, up, sky, na, os, ag, hw⟩
    have J : Inv X pins σ1 H1 sI := J0.ofTry ok
    have sky2 : Sky B (X.env :: X.outer) a (Zc cls d) X.env.locals s'.heap := hs ▸ sky
    refine Sky.land Zc.steady hfr hf sky2 fun h3 fl3 up3 => ?_
    have J3 : Inv X pins σ1 H1 { s' with heap := h3 } := J.landed nb fl3.1 (up.trans up3) os ag
    obtain ⟨oe3, vs3, he3, hz3, hd3⟩ := fl3.there
    have nfr : a ∉ frs (X.env :: X.outer) := fun hm => by
      obtain ⟨_, o', e', hnf⟩ := fl3.2.2.1.mem hm
      rw [he3] at e'
      cases e'
      exact hnf _ hd3
    have nL : a ≠ X.env.locals := fun z => nfr (List.mem_filterMap.mpr ⟨X.env, List.mem_cons_self, by rw [hf, z]⟩)
    have nF : a ∉ X.fs := fun hm => by
      obtain ⟨e1, he1, q⟩ := List.mem_filterMap.mp hm
      exact nfr (List.mem_filterMap.mpr ⟨e1, List.mem_cons_of_mem _ he1, q⟩)
    have S3 := J3.suite he3 hd3 na nL nF
    have test : ∀ {x : Str} {c : Value} {np : Pos} {Q : Value → Shared → Prop} {E : Value → Shared → Prop}, Names X x c → Q c { s' with heap := h3 } → wpAny (model X.prog X.w) (X.A.mark (some (.ref a))) (eval (.Name x np) X.env) Q E { s' with heap := h3 } := fun {x c np Q E} hc q => by
      obtain ⟨hg, hdb, hm | ⟨hm, hv, hnn⟩⟩ := hc
      · exact ld_glob (X := X.suite a ((a, oe3) :: (X.pn ++ pins))) S3 hg hm q hdb
      · exact ld_blt (X := X.suite a ((a, oe3) :: (X.pn ++ pins))) S3 hg hm hv q hnn hdb
    have LM : ∀ {c : Value} {b : Bool}, PySem.W.exmOne X.K cls c = some b → PySem.W.Looks (model X.prog X.w) h3 (excMatches (.ref a) c) b := fun {c b} hx => PySem.W.exm_one (M := model X.prog X.w) J3.kIn (show PySem.W.Looks (model X.prog X.w) h3 (typeOf (.ref a)) cls from fun A Q E s k q => wpAny_typeOf_ref (k _ _ he3) (by rw [hz3.1]; exact q)) hx
    have clause : ∀ {x : Str} {c : Value} {np pos1 : Pos} {b0 : Stmt} {suite : List Stmt} {rest : List ExceptHandler} {ts : Addr → Value → Option Addr → TS}, Names X x c → PySem.W.exmOne X.K cls c = some true →
        (∀ (a : Addr) (oe : Obj) (cls : Value) (d : Option Addr) (pn : List (Addr × Obj)), Zc cls d oe → (∃ vs, oe.data = .fields vs) → PSs (X.suite a ((a, oe) :: pn)) (b0 :: suite) (ts a cls d)) →
        (∀ a, H1 a = none → ts a cls d (goneE i D) (σ1.set i (some (.ref a))) H1) →
        wpAny (model X.prog X.w) X.A (handleBy (.ref a) X.env (.ExceptHandler (some (.Name x np)) (some nm) (b0 :: suite) pos1 :: rest)) (SP X pins D) X.xe { s' with heap := h3 } := fun {x c np pos1 b0 suite rest ts} hc hx hsu hyes => by
      refine wpAny_handleBy_cons (codeAny_handlers_test ?_) (by intro q; cases q)
      refine test hc ((LM hx).here (codeAny_handlers_suite_as ?_))
      refine HandSPX.lands_againZ fl3 fun h4 fl4 up4 => ?_
      have J4 : Inv X pins σ1 H1 { s' with heap := h4 } := J.landed nb fl4.1 ((up.trans up3).trans up4) os ag
      obtain ⟨oe4, vs4, he4, hz4, hd4⟩ := fl4.there
      have S4 := J4.suite he4 hd4 na nL nF
      refine store_ok (X := X.suite a ((a, oe4) :: (X.pn ++ pins))) (v := .ref a) S4 hN hi (.inl hln) rfl (fun s5 S5 => ?_) (.inr hln)
      refine wpAny_mono ((hsu a oe4 cls d (X.pn ++ pins) hz4 ⟨_, hd4⟩).run [] s5 _ H1 _ S5 (hyes a na)) (fun f s6 hsp => ?_) (fun _ _ z => False.elim z)
      have end_ : ∀ {σ6 : L2.St} {H6 : Hp} {Q : Shared → Prop}, Inv (X.suite a ((a, oe4) :: (X.pn ++ pins))) [] σ6 H6 s6 → (∀ s7, Inv X pins (σ6.set i none) H6 s7 → Q s7) →
          wpAny (model X.prog X.w) X.A (do bindName X.env nm .none; unbindBehindTheSuite X.env nm pos1) (fun _ s7 => Q s7) X.xe s6 := fun {σ6 H6 Q} S6 hq => gone_ok (S6.unsuite ok) hN hi hln hq
      cases f with
      | next => obtain ⟨σ6, H6, S6, q6⟩ := hsp; exact end_ S6 fun s7 J7 => ⟨_, _, J7, q6⟩
      | brk => obtain ⟨σ6, H6, S6, q6⟩ := hsp; exact end_ S6 fun s7 J7 => ⟨_, _, J7, q6⟩
      | cont => obtain ⟨σ6, H6, S6, q6⟩ := hsp; exact end_ S6 fun s7 J7 => ⟨_, _, J7, q6⟩
      | ret u => obtain ⟨v6, σ6, H6, S6, r6, q6⟩ := hsp; exact end_ S6 fun s7 J7 => ⟨_, _, _, J7, r6, q6⟩
    rcases hw with ⟨hx, hyes⟩ | ⟨hx1, hx2, hyes⟩
    · exact clause hc1 hx hsu1 hyes
    · refine wpAny_handleBy_cons (codeAny_handlers_test ?_) (by intro q; cases q)
      refine test hc1 ((LM hx1).here ?_)
      exact clause hc2 hx2 hsu2 hyes
  refine wpAny_mono ((hb (wAA X.K c1 c2 i ts1 ts2 D) _ _ catch_ PassesOwn.looking).run [] s σ H D (I.toTry _) h) (fun f s1 hsp => ?_) (fun e s1 he => he)
  cases f with
  | next => obtain ⟨σ2, H2, J2, q⟩ := hsp; exact wpAny_execs_nil ⟨σ2, H2, J2.ofTry ok, q⟩
  | brk => obtain ⟨σ2, H2, J2, q⟩ := hsp; exact ⟨σ2, H2, J2.ofTry ok, q⟩
  | cont => obtain ⟨σ2, H2, J2, q⟩ := hsp; exact ⟨σ2, H2, J2.ofTry ok, q⟩
  | ret u => obtain ⟨v, σ2, H2, J2, r, q⟩ := hsp; exact ⟨v, σ2, H2, J2.ofTry ok, r, q⟩
end
end EV
end

section
set_option Elab.async false
set_option linter.all false
set_option autoImplicit false
set_option maxRecDepth 100000
/-! EvIsD: isinstance of a caught error of an own class, one that has its dict. -/
namespace EV
open PySem PySem.Spec PyProof.Rows L2
def rIsD (K : PySem.W.Frag) (D a dx : Addr) : List V → Hp → VK → Prop := fun xs H Q => ∃ (c : V) (cv : Value) (b : Bool) (fs : List (Str × V)), xs = [.ref a, c] ∧ (∀ u, RelV c u → u = cv) ∧ PySem.W.kitOne K (.ref D) cv = some b ∧ H dx = some (.xd fs) ∧ Q (.bl b) H
theorem call_isD {X : Cx} {a D dx : Addr} {oe : Obj} {pn : List (Addr × Obj)} (C : ExcC X.K D) (hz : Zc (.ref D) (some dx) oe) (hf : ∃ vs, oe.data = .fields vs) : CallR (X.suite a ((a, oe) :: pn)) (.builtin "isinstance") (rIsD X.K D a dx) := by
  intro pins s σ H xs us Q I r h
  obtain ⟨c, cv, b, fs, rfl, hcv, e, hH, q⟩ := h
  cases r with
  | cons rx rr =>
    cases rr with
    | cons rt rr =>
      cases rr
      cases rx
      have ec := hcv _ rt
      subst ec
      obtain ⟨hget, _⟩ := I.pin (a, oe) (List.mem_append.mpr (.inl List.mem_cons_self))
      obtain ⟨vs, hv⟩ := hf
      have hx : ObjOk X.prog X.w H s.heap dx (.xd fs) := I.hok dx _ hH
      obtain ⟨mA, hns, hr⟩ := hx
      obtain ⟨od, ho, hl⟩ := lookIn_ns hns
      have J : PySem.W.InstAt s.heap a oe D (some od) := ⟨hget, hz.1, by unfold PySem.W.notCls; rw [hv] <;> rfl, by rw [hz.2]; exact ho⟩
      have hcl : (PySem.W.clsIn X.K D).isSome = true := by
        obtain ⟨cd, hc, _⟩ := PySem.W.any_some C.hd
        rw [hc]; rfl
      exact PySem.W.kia_one (PySem.W.kitx_exc hcl C.hg C.hk C.hs C.ha C.hn C.ht C.hm) I.kIn J e (fun z => nomatch z) fun tk => ⟨.bl b, H, I.kept (t' := tk) fun _ _ z => z, rfl, q⟩
end EV
end

section
set_option Elab.async false
set_option linter.all false
set_option autoImplicit false
set_option maxRecDepth 100000
/-! EvWord: the def that tells how a call ends. -/
namespace EV
open PySem PySem.Spec PyProof.Rows L2

/-- what the module must say of the two classes -/
structure WordF (p : Par) (ft : Addr) : Prop where
  gF : p.mg "Fault" = some (.ref ft)
  gI : p.mg "isinstance" = none
  gM : p.mg "Malformed" = some (.ref p.M)
  ec : ExcC p.K p.M
  kit : PySem.W.kitOne p.K (.ref p.M) (.ref ft) = some true
  exm : PySem.W.exmOne p.K (.ref p.M) (.ref p.M) = some true
def wordK (K : PySem.W.Frag) (M ft : Addr) : Bool :=
  He.eqO (PySem.W.findIn K (.ref M) "__getattribute__") (some (some (.builtin "BaseException.__getattribute__"))) && (He.eqO (PySem.W.findIn K (.ref M) "__getattr__") (some none) && (decide (PySem.W.subIn K (.ref M) (.type "BaseException") = some true) && (PySem.W.hasDictIn K M &&
  (He.eqO (PySem.W.findIn K (.ref M) "__class__") (some (some (.builtin "object.__class__"))) && (He.eqO (PySem.W.specialIn K (.builtin "object.__class__") "__get__") (some (some (.builtin "getset_descriptor.__get__"))) && (decide (PySem.W.takesIn K (.builtin "object.__class__") = some true) &&
  (decide (PySem.W.mroIn K M (.type "object") = some true) && (decide (PySem.W.kitOne K (.ref M) (.ref ft) = some true) && decide (PySem.W.exmOne K (.ref M) (.ref M) = some true)))))))))
theorem wordK_ok {p : Par} {ft : Addr} (h : wordK p.K p.M ft = true) (gF : p.mg "Fault" = some (.ref ft)) (gI : p.mg "isinstance" = none) (gM : p.mg "Malformed" = some (.ref p.M)) : WordF p ft := by
  unfold wordK at h
  obtain ⟨h1, h⟩ := He.ba h
  obtain ⟨h2, h⟩ := He.ba h
  obtain ⟨h3, h⟩ := He.ba h
  obtain ⟨h4, h⟩ := He.ba h
  obtain ⟨h5, h⟩ := He.ba h
  obtain ⟨h6, h⟩ := He.ba h
  obtain ⟨h7, h⟩ := He.ba h
  obtain ⟨h8, h⟩ := He.ba h
  obtain ⟨h9, h0⟩ := He.ba h
  exact ⟨gF, gI, gM, ⟨He.eqO_ok h1, He.eqO_ok h2, of_decide_eq_true h3, h4, He.eqO_ok h5, He.eqO_ok h6, of_decide_eq_true h7, of_decide_eq_true h8⟩, of_decide_eq_true h9, of_decide_eq_true h0⟩
/-- its text -/
def wordB (sc : Scope) (cn : Str) : List Stmt → Bool
  | [.Try [.Expr (.Call (.Name c1 _) [.Name c2 _] [] _) _] (.ExceptHandler (some (.Name x1 _)) (some e1) [.Return (some (.IfExp (.Call (.Name i1 _) [.Name e2 _, .Name f1 _] [] _) (.Constant (.str m1) _ _) (.Constant (.str _) _ _) _)) _] _ :: _) [] [] _, .Return (some (.Constant (.str n1) _ _)) _] =>
    decide (c1 = cn) && gloB sc c1 && okName c1 && decide (c2 = ("call" : Str)) && visB sc c2 && decide (x1 = ("Malformed" : Str)) && gloB sc x1 && decide (e1 = ("e" : Str)) && locN sc e1 && decide (i1 = ("isinstance" : Str)) && gloB sc i1 && decide (e2 = ("e" : Str)) &&
      decide (f1 = ("Fault" : Str)) && gloB sc f1 && decide (m1 = ("malformed" : Str)) && decide (n1 = ("none" : Str))
  | _ => false
theorem word_step {p : Par} {g : Glb} {n : Nat} (wf : Wf p g n) {ft : Addr} (wd : WordF p ft) {f fc : Nat} {fi fj : FnI} {fa : Addr} {fd : FuncData} {params : Arguments} {body : List Stmt} {scope : Scope} (ef : g.T[f]? = some fi) (ec : g.T[fc]? = some fj) (hps : fi.ps = ([("call" : Str)] : List Str)) (hNN : fi.N = ([("call" : Str), ("e" : Str)] : List Str))
    (hb : fi.body = .tryW fc (.var 0)) (hown : fi.own = []) (hfr : fi.fresh = false) (hpj : fj.ps.length = 1) (d : DefF p fi params body scope fa fd) (h : wordB scope fj.name body = true) :
    FnOk p.P p.w p.K p.mg p.base (L2.CX p.P p.w) (n + 2) fa fd fi.ps (spF p (n + 1) f) := by
  have ef' : p.T[f]? = some fi := by rw [wf.hT]; exact ef
  have ec' : p.T[fc]? = some fj := by rw [wf.hT]; exact ec
  refine d.F.ok d.S (spF_len ef') fun cdv A outer s H vs Q E hr hsp => ?_
  obtain ⟨S, ds, s', hS, h0, h1, gd, dr, ra, fi', ef2, hl, q⟩ := hsp
  rw [ef'] at ef2
  cases ef2
  rw [hps] at hl
  -- the argument
  obtain ⟨dc, rfl⟩ : ∃ dc, ds = [dc] := by
    match ds, hl with
    | [dc], _ => exact ⟨dc, rfl⟩
  obtain ⟨v, rfl, rv⟩ : ∃ v, vs = [v] ∧ Rp p S H v dc := by
    cases ra with
    | cons r1 r2 => cases r2; exact ⟨_, rfl, r1⟩
  unfold wordB at h
  split at h
  · rename_i c1 p1 c2 p2 p3 p4 x1 p5 e1 i1 p6 e2 p7 f1 p8 p9 m1 j1 p10 o1 j2 p11 p12 p13 p14 hds p15 n1 j3 p16 p17
    simp only [Bool.and_eq_true, decide_eq_true_eq] at h
    obtain ⟨⟨⟨⟨⟨⟨⟨⟨⟨⟨⟨⟨⟨⟨⟨rfl, k2⟩, k3⟩, rfl⟩, k5⟩, rfl⟩, k7⟩, rfl⟩, k9⟩, rfl⟩, k11⟩, rfl⟩, rfl⟩, k14⟩, rfl⟩, rfl⟩ := h
    generalize hX : cxOf (L2.CX p.P p.w) p.P p.w p.K p.mg p.base fi.N fi.name scope fa cdv A outer s H E = X
    have eN : X.N = ([("call" : Str), ("e" : Str)] : List Str) := by rw [← hX]; exact hNN
    have eP : X.prog = p.P := by rw [← hX]; rfl
    have ew : X.w = p.w := by rw [← hX]; rfl
    have eK : X.K = p.K := by rw [← hX]; rfl
    have emg : X.mg = p.mg := by rw [← hX]; rfl
    have eb : X.base = p.base := by rw [← hX]; rfl
    have esc : X.env.scope = scope := by rw [← hX]; rfl
    have hrm : Room (n + 1) X.A := by rw [← hX]; exact hr
    have hst : X.stack = X.env :: X.outer := by rw [← hX]; rfl
    have hfrm : X.env.frame = some X.env.locals := by rw [← hX]; rfl
    have hcalm : X.calm = true := by rw [← hX]; rfl
    have hgl : ∀ {y : Str}, gloB scope y = true → Gl X y := fun {y} hy => by
      unfold gloB at hy
      split at hy
      · rename_i e
        show X.env.scope.names.lookup y = _
        rw [esc]; exact e
      · cases hy
    have hvc : Vis X.env.scope "call" := by
      rw [esc]
      unfold visB at k5
      split at k5
      · rename_i e; exact .inl e
      · rename_i e; exact .inr (.inl e)
      · rename_i e; exact .inr (.inr e)
      · cases k5
    have hle : X.env.scope.names.lookup ("e" : Str) = some .local := by rw [esc]; exact locN_eq k9
    obtain ⟨fca, fcd, g1, g2, g3, g4⟩ := wf.fn fc fj ec
    have G4 : FnOk X.prog X.w X.K X.mg X.base (L2.CX X.prog X.w) (n + 1) fca fcd fj.ps (spF p n fc) := by rw [eP, ew, eK, emg, eb]; exact g4
    let tb : WX → TS := fun W => tDrop (tCallS (spF p n fc) (WE W) (tCons (tVar 0) tNil))
    let ts : Addr → Value → Option Addr → TS := fun a cls dd D σ H => cls = .ref p.M ∧ dd = none ∧ σ[1]? = some (some (.ref a)) ∧ D.rt (.str "malformed") H
    have hbody : ∀ (W : WX) (pn : List (Addr × Obj)) (xe : Value → Shared → Prop), Takes (X.tr pn xe) W → PassesOwn (model X.prog X.w) X.A X.env xe → PSs (X.tr pn xe) [.Expr (.Call (.Name fj.name p1) [.Name "call" p2] [] p3) p4] (tb W) := fun W pn xe tk _ =>
      pss_one (ps_expr (pe_callS (X := X.tr pn xe) G4 hrm (hgl k2) (show X.mg fj.name = _ by rw [emg]; exact g1) (show PySem.W.keepIn X.K _ = true by rw [eK]; exact g2) (show Binds X.K fcd fj.ps [] by rw [eK]; exact g3) (fun σ => passAt tk σ)
        (pa_cons (pe_var (X := X.tr pn xe) (i := 0) (by show X.N[0]? = _; rw [eN]; rfl) hvc (by decide) (by decide)) pa_nil) (okName_ok k3).1))
    have hsuite : ∀ (a : Addr) (oe : Obj) (cls : Value) (dd : Option Addr) (pn : List (Addr × Obj)), Zc cls dd oe → (∃ vs, oe.data = .fields vs) →
        PSs (X.suite a ((a, oe) :: pn)) [.Return (some (.IfExp (.Call (.Name "isinstance" p6) [.Name "e" p7, .Name "Fault" p8] [] p9) (.Constant (.str "malformed") j1 p10) (.Constant (.str o1) j2 p11) p12)) p13] (ts a cls dd) := fun a oe cls dd pn hz hv => by
      refine ⟨fun pins s σ H D I h => ?_⟩
      obtain ⟨rfl, rfl, hσ, hq⟩ := h
      have C : ExcC X.K p.M := by rw [eK]; exact wd.ec
      have pa := pa_cons (X := X.suite a ((a, oe) :: pn)) (pe_var (X := X.suite a ((a, oe) :: pn)) (pos := p7) (i := 1) (x := "e") (by show X.N[1]? = _; rw [eN]; rfl) (.inl hle) (by decide) (by decide))
        (pa_cons (pe_glob (X := X.suite a ((a, oe) :: pn)) (pos := p8) (x := "Fault") (v := .ref ft) (hgl k14) (show X.mg "Fault" = _ by rw [emg]; exact wd.gF) rfl (by decide)) pa_nil)
      refine (pss_one (ps_ret (pe_ifExp (pt_val (pe_callB (p := p6) (pos := p9) (call_isE (pn := pn) C hz hv) (hgl k11) (show X.mg "isinstance" = none by rw [emg]; exact wd.gI) (by decide +kernel) pa (by decide) (by decide))) pe_str pe_str))).run pins s σ H D I ?_
      refine ⟨.ref a, hσ, .ref ft, .ref ft, true, rfl, fun u r => r, by rw [eK]; exact wd.kit, true, rfl, ?_⟩
      exact hq
    have tr := PS.good eK (ps_try_a2 (X := X) (i := 1) (c := .ref p.M) (np := p5) (pos := p15) (pos1 := p14) (hs2 := hds) hst hfrm (by rw [eN]; decide) (by rw [eN]; rfl) hle ⟨hgl k7, by decide, .inl (by rw [emg]; exact wd.gM)⟩ hbody hsuite)
    refine ⟨_, pss_cons tr (pss_one (ps_ret pe_str)), ?_⟩
    have q : match run p.T p.W (n + 1) f [dc] s' with
      | .ok d s' => ∀ v H', FrE p H H' → Dr p H' s' → Good p H' → RX p fi.fresh S H H' v d → Q v H'
      | .err xn s' => ∀ c dd H', FrE p H H' → Dr p H' s' → ErrAt p xn c dd H' → E c dd H'
      | .stuck => False := q
    have er : run p.T p.W (n + 1) f [dc] s' = (match run p.T p.W n fc [dc] s' with
      | .ok _ s => .ok (.str "none") s
      | .err .mal s => .ok (.str "malformed") s
      | .err (.refu _) _ => .stuck
      | .stuck => .stuck) := by
      have e0 : run p.T p.W (n + 1) f [dc] s' = (if [dc].length = fi.ps.length then (evS (run p.T p.W n) p.W fi.body ([dc].map some ++ List.replicate (fi.N.length - [dc].length) none) s').bnd fun q s => (match q.1 with
          | .ret d => if (!fi.fresh || isLst d) = true then .ok d s else .stuck
          | .next => if (!fi.fresh) = true then .ok .none s else .stuck
          | _ => .stuck) else .stuck) := by
        show (match p.T[f]? with
          | none => (.stuck : R D)
          | some fi => _) = _
        rw [ef'] <;> rfl
      rw [e0, hps, hb, hfr, hNN]
      have e1 : evS (run p.T p.W n) p.W (.tryW fc (.var 0)) [some dc, none] s' = (match run p.T p.W n fc [dc] s' with
          | .ok _ s => .ok (.ret (.str "none"), [some dc, none]) s
          | .err .mal s => .ok (.ret (.str "malformed"), [some dc, none]) s
          | .err (.refu _) _ => .stuck
          | .stuck => .stuck) := by
        unfold evS ev
        rfl
      rw [if_pos (show [dc].length = ([("call" : Str)] : List Str).length from rfl)]
      show ((evS (run p.T p.W n) p.W (.tryW fc (.var 0)) [some dc, none] s').bnd _) = _
      rw [e1]
      cases run p.T p.W n fc [dc] s' with
      | ok d s2 => rfl
      | err xn s2 => cases xn <;> rfl
      | stuck => rfl
    rw [er, hfr] at q
    show tb _ _ (L2.start fi.N [v]) H
    have e0 : L2.start fi.N [v] = [some v, none] := by rw [hNN]; rfl
    rw [e0]
    refine ⟨v, rfl, ?_⟩
    refine ⟨S, [dc], s', hS, h0, h1, gd, dr, .cons rv .nil, fj, ec', by rw [hpj]; rfl, ?_⟩
    cases r : run p.T p.W n fc [dc] s' with
    | stuck => rw [r] at q; exact q
    | ok d2 s2 =>
      rw [r] at q
      intro w H2 f2 d2 g2 rx _
      exact q _ H2 f2 d2 g2 (.str _)
    | err xn s2 =>
      rw [r] at q
      cases xn with
      | refu _ => exact q.elim
      | mal =>
        intro cc dd H2 f2 d2 ee
        obtain ⟨rfl, rfl⟩ := ee
        refine ⟨by rw [eK]; exact wd.exm, fun a na => ⟨rfl, rfl, rfl, fun g2 => ?_⟩⟩
        exact q _ H2 f2 d2 g2 (.str _)
  · cases h
/-- what the module must say of the two classes -/
structure WordR (p : Par) (ft : Addr) : Prop where
  gF : p.mg "Fault" = some (.ref ft)
  gI : p.mg "isinstance" = none
  gM : p.mg "Malformed" = some (.ref p.M)
  ec : ExcC p.K p.M
  kit : PySem.W.kitOne p.K (.ref p.M) (.ref ft) = some true
  exm : PySem.W.exmOne p.K (.ref p.M) (.ref p.M) = some true
  gR : p.mg "Refused" = some (.ref p.Rf)
  ec2 : ExcC p.K p.Rf
  kit2 : PySem.W.kitOne p.K (.ref p.Rf) (.ref ft) = some true
  exm1 : PySem.W.exmOne p.K (.ref p.Rf) (.ref p.M) = some false
  exm2 : PySem.W.exmOne p.K (.ref p.Rf) (.ref p.Rf) = some true
  xf : XfC p.K p.Rf
  hno : PySem.W.findIn p.K (.ref p.Rf) "reason" = some none
/-- its text -/
def wordRB (sc : Scope) (cn : Str) : List Stmt → Bool
  | [.Try [.Expr (.Call (.Name c1 _) [.Name c2 _] [] _) _] (.ExceptHandler (some (.Name x1 _)) (some e1) [.Return (some (.IfExp (.Call (.Name i1 _) [.Name e2 _, .Name f1 _] [] _) (.Constant (.str m1) _ _) (.Constant (.str _) _ _) _)) _] _ :: .ExceptHandler (some (.Name x2 _)) (some e3) [.Return (some (.IfExp (.Call (.Name i2 _) [.Name e4 _, .Name f2 _] [] _) (.Attribute (.Name e5 _) r1 _) (.Constant (.str _) _ _) _)) _] _ :: _) [] [] _, .Return (some (.Constant (.str n1) _ _)) _] =>
    decide (c1 = cn) && gloB sc c1 && okName c1 && decide (c2 = ("call" : Str)) && visB sc c2 && decide (x1 = ("Malformed" : Str)) && gloB sc x1 && decide (e1 = ("e" : Str)) && locN sc e1 && decide (i1 = ("isinstance" : Str)) && gloB sc i1 && decide (e2 = ("e" : Str)) &&
      decide (f1 = ("Fault" : Str)) && gloB sc f1 && decide (m1 = ("malformed" : Str)) && decide (n1 = ("none" : Str)) && (decide (x2 = ("Refused" : Str)) && gloB sc x2 && decide (e3 = ("e" : Str)) && decide (i2 = ("isinstance" : Str)) && decide (e4 = ("e" : Str)) && decide (f2 = ("Fault" : Str)) && decide (e5 = ("e" : Str)) && decide (r1 = ("reason" : Str)))
  | _ => false
theorem wordR_step {p : Par} {g : Glb} {n : Nat} (wf : Wf p g n) {ft : Addr} (wd : WordR p ft) {f fc : Nat} {fi fj : FnI} {fa : Addr} {fd : FuncData} {params : Arguments} {body : List Stmt} {scope : Scope} (ef : g.T[f]? = some fi) (ec : g.T[fc]? = some fj) (hps : fi.ps = ([("call" : Str)] : List Str)) (hNN : fi.N = ([("call" : Str), ("e" : Str)] : List Str))
    (hb : fi.body = .tryR fc (.var 0)) (hown : fi.own = []) (hfr : fi.fresh = false) (hpj : fj.ps.length = 1) (d : DefF p fi params body scope fa fd) (h : wordRB scope fj.name body = true) :
    FnOk p.P p.w p.K p.mg p.base (L2.CX p.P p.w) (n + 2) fa fd fi.ps (spF p (n + 1) f) := by
  have ef' : p.T[f]? = some fi := by rw [wf.hT]; exact ef
  have ec' : p.T[fc]? = some fj := by rw [wf.hT]; exact ec
  refine d.F.ok d.S (spF_len ef') fun cdv A outer s H vs Q E hr hsp => ?_
  obtain ⟨S, ds, s', hS, h0, h1, gd, dr, ra, fi', ef2, hl, q⟩ := hsp
  rw [ef'] at ef2
  cases ef2
  rw [hps] at hl
  -- the argument
  obtain ⟨dc, rfl⟩ : ∃ dc, ds = [dc] := by
    match ds, hl with
    | [dc], _ => exact ⟨dc, rfl⟩
  obtain ⟨v, rfl, rv⟩ : ∃ v, vs = [v] ∧ Rp p S H v dc := by
    cases ra with
    | cons r1 r2 => cases r2; exact ⟨_, rfl, r1⟩
  unfold wordRB at h
  split at h
  · rename_i c1 p1 c2 p2 p3 p4 x1 p5 e1 i1 p6 e2 p7 f1 p8 p9 m1 j1 p10 o1 j2 p11 p12 p13 p14 x2 q5 e3 i2 q6 e4 q7 f2 q8 q9 e5 q10 r1 q11 o2 j4 q12 q13 q14 q15 hds p15 n1 j3 p16 p17
    simp only [Bool.and_eq_true, decide_eq_true_eq] at h
    obtain ⟨⟨⟨⟨⟨⟨⟨⟨⟨⟨⟨⟨⟨⟨⟨⟨rfl, k2⟩, k3⟩, rfl⟩, k5⟩, rfl⟩, k7⟩, rfl⟩, k9⟩, rfl⟩, k11⟩, rfl⟩, rfl⟩, k14⟩, rfl⟩, rfl⟩, ⟨⟨⟨⟨⟨⟨⟨rfl, l2⟩, rfl⟩, rfl⟩, rfl⟩, rfl⟩, rfl⟩, rfl⟩⟩ := h
    generalize hX : cxOf (L2.CX p.P p.w) p.P p.w p.K p.mg p.base fi.N fi.name scope fa cdv A outer s H E = X
    have eN : X.N = ([("call" : Str), ("e" : Str)] : List Str) := by rw [← hX]; exact hNN
    have eP : X.prog = p.P := by rw [← hX]; rfl
    have ew : X.w = p.w := by rw [← hX]; rfl
    have eK : X.K = p.K := by rw [← hX]; rfl
    have emg : X.mg = p.mg := by rw [← hX]; rfl
    have eb : X.base = p.base := by rw [← hX]; rfl
    have esc : X.env.scope = scope := by rw [← hX]; rfl
    have hrm : Room (n + 1) X.A := by rw [← hX]; exact hr
    have hst : X.stack = X.env :: X.outer := by rw [← hX]; rfl
    have hfrm : X.env.frame = some X.env.locals := by rw [← hX]; rfl
    have hcalm : X.calm = true := by rw [← hX]; rfl
    have hgl : ∀ {y : Str}, gloB scope y = true → Gl X y := fun {y} hy => by
      unfold gloB at hy
      split at hy
      · rename_i e
        show X.env.scope.names.lookup y = _
        rw [esc]; exact e
      · cases hy
    have hvc : Vis X.env.scope "call" := by
      rw [esc]
      unfold visB at k5
      split at k5
      · rename_i e; exact .inl e
      · rename_i e; exact .inr (.inl e)
      · rename_i e; exact .inr (.inr e)
      · cases k5
    have hle : X.env.scope.names.lookup ("e" : Str) = some .local := by rw [esc]; exact locN_eq k9
    obtain ⟨fca, fcd, g1, g2, g3, g4⟩ := wf.fn fc fj ec
    have G4 : FnOk X.prog X.w X.K X.mg X.base (L2.CX X.prog X.w) (n + 1) fca fcd fj.ps (spF p n fc) := by rw [eP, ew, eK, emg, eb]; exact g4
    let tb : WX → TS := fun W => tDrop (tCallS (spF p n fc) (WE W) (tCons (tVar 0) tNil))
    let ts : Addr → Value → Option Addr → TS := fun a cls dd D σ H => cls = .ref p.M ∧ dd = none ∧ σ[1]? = some (some (.ref a)) ∧ D.rt (.str "malformed") H
    let ts2 : Addr → Value → Option Addr → TS := fun a cls dd D σ H => cls = .ref p.Rf ∧ σ[1]? = some (some (.ref a)) ∧ ∃ (b : Addr) (r : Str), dd = some b ∧ H b = some (.xd [(("reason" : Str), .str r)]) ∧ D.rt (.str r) H
    have hbody : ∀ (W : WX) (pn : List (Addr × Obj)) (xe : Value → Shared → Prop), Takes (X.tr pn xe) W → PassesOwn (model X.prog X.w) X.A X.env xe → PSs (X.tr pn xe) [.Expr (.Call (.Name fj.name p1) [.Name "call" p2] [] p3) p4] (tb W) := fun W pn xe tk _ =>
      pss_one (ps_expr (pe_callS (X := X.tr pn xe) G4 hrm (hgl k2) (show X.mg fj.name = _ by rw [emg]; exact g1) (show PySem.W.keepIn X.K _ = true by rw [eK]; exact g2) (show Binds X.K fcd fj.ps [] by rw [eK]; exact g3) (fun σ => passAt tk σ)
        (pa_cons (pe_var (X := X.tr pn xe) (i := 0) (by show X.N[0]? = _; rw [eN]; rfl) hvc (by decide) (by decide)) pa_nil) (okName_ok k3).1))
    have hsuite : ∀ (a : Addr) (oe : Obj) (cls : Value) (dd : Option Addr) (pn : List (Addr × Obj)), Zc cls dd oe → (∃ vs, oe.data = .fields vs) →
        PSs (X.suite a ((a, oe) :: pn)) [.Return (some (.IfExp (.Call (.Name "isinstance" p6) [.Name "e" p7, .Name "Fault" p8] [] p9) (.Constant (.str "malformed") j1 p10) (.Constant (.str o1) j2 p11) p12)) p13] (ts a cls dd) := fun a oe cls dd pn hz hv => by
      refine ⟨fun pins s σ H D I h => ?_⟩
      obtain ⟨rfl, rfl, hσ, hq⟩ := h
      have C : ExcC X.K p.M := by rw [eK]; exact wd.ec
      have pa := pa_cons (X := X.suite a ((a, oe) :: pn)) (pe_var (X := X.suite a ((a, oe) :: pn)) (pos := p7) (i := 1) (x := "e") (by show X.N[1]? = _; rw [eN]; rfl) (.inl hle) (by decide) (by decide))
        (pa_cons (pe_glob (X := X.suite a ((a, oe) :: pn)) (pos := p8) (x := "Fault") (v := .ref ft) (hgl k14) (show X.mg "Fault" = _ by rw [emg]; exact wd.gF) rfl (by decide)) pa_nil)
      refine (pss_one (ps_ret (pe_ifExp (pt_val (pe_callB (p := p6) (pos := p9) (call_isE (pn := pn) C hz hv) (hgl k11) (show X.mg "isinstance" = none by rw [emg]; exact wd.gI) (by decide +kernel) pa (by decide) (by decide))) pe_str pe_str))).run pins s σ H D I ?_
      refine ⟨.ref a, hσ, .ref ft, .ref ft, true, rfl, fun u r => r, by rw [eK]; exact wd.kit, true, rfl, ?_⟩
      exact hq
    have hsuite2 : ∀ (a : Addr) (oe : Obj) (cls : Value) (dd : Option Addr) (pn : List (Addr × Obj)), Zc cls dd oe → (∃ vs, oe.data = .fields vs) →
        PSs (X.suite a ((a, oe) :: pn)) [.Return (some (.IfExp (.Call (.Name "isinstance" q6) [.Name "e" q7, .Name "Fault" q8] [] q9) (.Attribute (.Name "e" q10) "reason" q11) (.Constant (.str o2) j4 q12) q13)) q14] (ts2 a cls dd) := fun a oe cls dd pn hz hv => by
      refine ⟨fun pins s σ H D I h => ?_⟩
      obtain ⟨rfl, hσ, b, r, rfl, hH, hq⟩ := h
      have C : ExcC X.K p.Rf := by rw [eK]; exact wd.ec2
      have TX : XfC X.K p.Rf := by rw [eK]; exact wd.xf
      have hnr : PySem.W.findIn X.K (.ref p.Rf) "reason" = some none := by rw [eK]; exact wd.hno
      have ve := pe_var (X := X.suite a ((a, oe) :: pn)) (pos := q10) (i := 1) (x := "e") (by show X.N[1]? = _; rw [eN]; rfl) (.inl hle) (by decide) (by decide)
      have pa := pa_cons (X := X.suite a ((a, oe) :: pn)) (pe_var (X := X.suite a ((a, oe) :: pn)) (pos := q7) (i := 1) (x := "e") (by show X.N[1]? = _; rw [eN]; rfl) (.inl hle) (by decide) (by decide))
        (pa_cons (pe_glob (X := X.suite a ((a, oe) :: pn)) (pos := q8) (x := "Fault") (v := .ref ft) (hgl k14) (show X.mg "Fault" = _ by rw [emg]; exact wd.gF) rfl (by decide)) pa_nil)
      refine (pss_one (ps_ret (pe_ifExp (pt_val (pe_callB (p := q6) (pos := q9) (call_isD (pn := pn) C hz hv) (hgl k11) (show X.mg "isinstance" = none by rw [emg]; exact wd.gI) (by decide +kernel) pa (by decide) (by decide))) (pe_xf (pn := pn) (pos := q11) TX hnr hz hv ve) pe_str))).run pins s σ H D I ?_
      refine ⟨.ref a, hσ, .ref ft, .ref ft, true, _, rfl, fun u r => r, by rw [eK]; exact wd.kit2, hH, true, rfl, ?_⟩
      exact ⟨.ref a, hσ, rfl, rfl, b, _, .str r, rfl, hH, rfl, hq⟩
    have tr := PS.good eK (ps_try_aa (X := X) (i := 1) (c1 := .ref p.M) (c2 := .ref p.Rf) (np1 := p5) (np2 := q5) (pos := p15) (pos1 := p14) (pos2 := q15) (hs2 := hds) hst hfrm (by rw [eN]; decide) (by rw [eN]; rfl) hle ⟨hgl k7, by decide, .inl (by rw [emg]; exact wd.gM)⟩ ⟨hgl l2, by decide, .inl (by rw [emg]; exact wd.gR)⟩ hbody hsuite hsuite2)
    refine ⟨_, pss_cons tr (pss_one (ps_ret pe_str)), ?_⟩
    have q : match run p.T p.W (n + 1) f [dc] s' with
      | .ok d s' => ∀ v H', FrE p H H' → Dr p H' s' → Good p H' → RX p fi.fresh S H H' v d → Q v H'
      | .err xn s' => ∀ c dd H', FrE p H H' → Dr p H' s' → ErrAt p xn c dd H' → E c dd H'
      | .stuck => False := q
    have er : run p.T p.W (n + 1) f [dc] s' = (match run p.T p.W n fc [dc] s' with
      | .ok _ s => .ok (.str "none") s
      | .err .mal s => .ok (.str "malformed") s
      | .err (.refu r) s => .ok (.str r) s
      | .stuck => .stuck) := by
      have e0 : run p.T p.W (n + 1) f [dc] s' = (if [dc].length = fi.ps.length then (evS (run p.T p.W n) p.W fi.body ([dc].map some ++ List.replicate (fi.N.length - [dc].length) none) s').bnd fun q s => (match q.1 with
          | .ret d => if (!fi.fresh || isLst d) = true then .ok d s else .stuck
          | .next => if (!fi.fresh) = true then .ok .none s else .stuck
          | _ => .stuck) else .stuck) := by
        show (match p.T[f]? with
          | none => (.stuck : R D)
          | some fi => _) = _
        rw [ef'] <;> rfl
      rw [e0, hps, hb, hfr, hNN]
      have e1 : evS (run p.T p.W n) p.W (.tryR fc (.var 0)) [some dc, none] s' = (match run p.T p.W n fc [dc] s' with
          | .ok _ s => .ok (.ret (.str "none"), [some dc, none]) s
          | .err .mal s => .ok (.ret (.str "malformed"), [some dc, none]) s
          | .err (.refu r) s => .ok (.ret (.str r), [some dc, none]) s
          | .stuck => .stuck) := by
        unfold evS ev
        rfl
      rw [if_pos (show [dc].length = ([("call" : Str)] : List Str).length from rfl)]
      show ((evS (run p.T p.W n) p.W (.tryR fc (.var 0)) [some dc, none] s').bnd _) = _
      rw [e1]
      cases run p.T p.W n fc [dc] s' with
      | ok d s2 => rfl
      | err xn s2 => cases xn <;> rfl
      | stuck => rfl
    rw [er, hfr] at q
    show tb _ _ (L2.start fi.N [v]) H
    have e0 : L2.start fi.N [v] = [some v, none] := by rw [hNN]; rfl
    rw [e0]
    refine ⟨v, rfl, ?_⟩
    refine ⟨S, [dc], s', hS, h0, h1, gd, dr, .cons rv .nil, fj, ec', by rw [hpj]; rfl, ?_⟩
    cases r : run p.T p.W n fc [dc] s' with
    | stuck => rw [r] at q; exact q
    | ok d2 s2 =>
      rw [r] at q
      intro w H2 f2 d2 g2 rx _
      exact q _ H2 f2 d2 g2 (.str _)
    | err xn s2 =>
      rw [r] at q
      cases xn with
      | refu rs =>
        intro cc dd H2 f2 d2 ee
        obtain ⟨rfl, b, rfl, hH⟩ := ee
        refine .inr ⟨by rw [eK]; exact wd.exm1, by rw [eK]; exact wd.exm2, fun a na => ⟨rfl, rfl, b, rs, rfl, hH, fun g2 => ?_⟩⟩
        exact q _ H2 f2 d2 g2 (.str _)
      | mal =>
        intro cc dd H2 f2 d2 ee
        obtain ⟨rfl, rfl⟩ := ee
        refine .inl ⟨by rw [eK]; exact wd.exm, fun a na => ⟨rfl, rfl, rfl, fun g2 => ?_⟩⟩
        exact q _ H2 f2 d2 g2 (.str _)
  · cases h
end EV
end

section
set_option Elab.async false
set_option linter.all false
set_option autoImplicit false
set_option maxRecDepth 100000
/-! EvLaw: all defs, by the depth of calls; the law's own def. -/
namespace EV
open PySem PySem.Spec PyProof.Rows L2

/-- what a def of the table gives -/
def PK (g : Glb) (K : PySem.W.Frag) (mg : Str → Option Value) (f : Nat) (fi : FnI) : Prop := ∃ fa fd, mg fi.name = some (.ref fa) ∧ PySem.W.keepIn K (.ref fa) = true ∧ L2.Binds K fd fi.ps [] ∧
  ∀ (p : Par) (n : Nat), p.K = K → p.mg = mg → p.T = g.T → Wf p g n → FnOk p.P p.w p.K p.mg p.base (L2.CX p.P p.w) (n + 2) fa fd fi.ps (spF p (n + 1) f)
def AllK (g : Glb) (K : PySem.W.Frag) (mg : Str → Option Value) : Nat → List FnI → Prop
  | _, [] => True
  | k, x :: r => PK g K mg k x ∧ AllK g K mg (k + 1) r
theorem AllK.get {g : Glb} {K : PySem.W.Frag} {mg : Str → Option Value} : ∀ {l : List FnI} {k : Nat}, AllK g K mg k l → ∀ i fi, l[i]? = some fi → PK g K mg (k + i) fi
  | [], _, _, i, fi, e => by simp at e
  | x :: r, k, h, 0, fi, e => by simp at e; subst e; exact h.1
  | x :: r, k, h, i + 1, fi, e => by
    have := AllK.get h.2 i fi (by simpa using e)
    have e2 : k + 1 + i = k + (i + 1) := by omega
    rw [e2] at this
    exact this
/-- a plain def -/
theorem pk_def {g : Glb} {K : PySem.W.Frag} {mg : Str → Option Value} {f : Nat} {fi : FnI} {fa : Addr} {fd : FuncData} {params : Arguments} {body : List Stmt} {scope : Scope} {k : Nat} (ef : g.T[f]? = some fi) (gl : mg fi.name = some (.ref fa)) (b : L2.Binds K fd fi.ps []) (F : FunD K fi.name fi.name params body scope [] [] fa fd)
    (S : FnScope fi.N fi.ps scope) (hN : fi.ps.length ≤ fi.N.length) (ho : ∀ i ∈ fi.own, fi.ps.length ≤ i) (h : chkSs g fi.N fi.own fi.fresh k scope body fi.body = true) : PK g K mg f fi :=
  ⟨fa, fd, gl, F.kp, b, fun p n hK hmg hT wf => fn_step wf ef ⟨by rw [hK]; exact F, S, hN, ho⟩ h⟩
/-- the def that tells how a call ends -/
theorem pk_word {g : Glb} {K : PySem.W.Frag} {mg : Str → Option Value} {f fc : Nat} {fi fj : FnI} {fa M ft : Addr} {fd : FuncData} {params : Arguments} {body : List Stmt} {scope : Scope} (ef : g.T[f]? = some fi) (ec : g.T[fc]? = some fj) (gl : mg fi.name = some (.ref fa)) (b : L2.Binds K fd fi.ps []) (F : FunD K fi.name fi.name params body scope [] [] fa fd)
    (S : FnScope fi.N fi.ps scope) (hN : fi.ps.length ≤ fi.N.length) (hps : fi.ps = ([("call" : Str)] : List Str)) (hNN : fi.N = ([("call" : Str), ("e" : Str)] : List Str)) (hb : fi.body = .tryW fc (.var 0)) (hown : fi.own = []) (hfr : fi.fresh = false) (hpj : fj.ps.length = 1)
    (gF : mg "Fault" = some (.ref ft)) (gI : mg "isinstance" = none) (gM : mg "Malformed" = some (.ref M)) (wk : wordK K M ft = true) (h : wordB scope fj.name body = true) : PK g K mg f fi :=
  ⟨fa, fd, gl, F.kp, b, fun p n hK hmg hT wf => by
    have eM : p.M = M := by
      have := wf.gM
      rw [hmg, gM] at this
      cases this; rfl
    refine word_step wf (wordK_ok (by rw [hK, eM]; exact wk) (by rw [hmg]; exact gF) (by rw [hmg]; exact gI) wf.gM) ef ec hps hNN hb hown hfr hpj ⟨by rw [hK]; exact F, S, hN, fun i hi => ?_⟩ h
    rw [hown] at hi
    cases hi⟩
theorem wordK_parts {K : PySem.W.Frag} {M ft : Addr} (h : wordK K M ft = true) : ExcC K M ∧ PySem.W.kitOne K (.ref M) (.ref ft) = some true ∧ PySem.W.exmOne K (.ref M) (.ref M) = some true := by
  unfold wordK at h
  obtain ⟨h1, h⟩ := He.ba h
  obtain ⟨h2, h⟩ := He.ba h
  obtain ⟨h3, h⟩ := He.ba h
  obtain ⟨h4, h⟩ := He.ba h
  obtain ⟨h5, h⟩ := He.ba h
  obtain ⟨h6, h⟩ := He.ba h
  obtain ⟨h7, h⟩ := He.ba h
  obtain ⟨h8, h⟩ := He.ba h
  obtain ⟨h9, h0⟩ := He.ba h
  exact ⟨⟨He.eqO_ok h1, He.eqO_ok h2, of_decide_eq_true h3, h4, He.eqO_ok h5, He.eqO_ok h6, of_decide_eq_true h7, of_decide_eq_true h8⟩, of_decide_eq_true h9, of_decide_eq_true h0⟩
def wordRK (K : PySem.W.Frag) (M Rf ft : Addr) : Bool := wordK K M ft && (wordK K Rf ft && (decide (PySem.W.exmOne K (.ref Rf) (.ref M) = some false) && (xfB K Rf && decide (PySem.W.findIn K (.ref Rf) "reason" = some none))))
/-- .., its two clauses told -/
theorem pk_wordR {g : Glb} {K : PySem.W.Frag} {mg : Str → Option Value} {f fc : Nat} {fi fj : FnI} {fa M Rf ft : Addr} {fd : FuncData} {params : Arguments} {body : List Stmt} {scope : Scope} (hrf : g.rf = true) (ef : g.T[f]? = some fi) (ec : g.T[fc]? = some fj) (gl : mg fi.name = some (.ref fa)) (b : L2.Binds K fd fi.ps []) (F : FunD K fi.name fi.name params body scope [] [] fa fd)
    (S : FnScope fi.N fi.ps scope) (hN : fi.ps.length ≤ fi.N.length) (hps : fi.ps = ([("call" : Str)] : List Str)) (hNN : fi.N = ([("call" : Str), ("e" : Str)] : List Str)) (hb : fi.body = .tryR fc (.var 0)) (hown : fi.own = []) (hfr : fi.fresh = false) (hpj : fj.ps.length = 1)
    (gF : mg "Fault" = some (.ref ft)) (gI : mg "isinstance" = none) (gM : mg "Malformed" = some (.ref M)) (gR : mg "Refused" = some (.ref Rf)) (wk : wordRK K M Rf ft = true) (h : wordRB scope fj.name body = true) : PK g K mg f fi :=
  ⟨fa, fd, gl, F.kp, b, fun p n hK hmg hT wf => by
    have eM : p.M = M := by
      have := wf.gM
      rw [hmg, gM] at this
      cases this; rfl
    have eR : p.Rf = Rf := by
      have := (wf.rfk hrf).gR
      rw [hmg, gR] at this
      cases this; rfl
    unfold wordRK at wk
    obtain ⟨w1, wk⟩ := He.ba wk
    obtain ⟨w2, wk⟩ := He.ba wk
    obtain ⟨w3, wk⟩ := He.ba wk
    obtain ⟨w4, w5⟩ := He.ba wk
    obtain ⟨a1, a2, a3⟩ := wordK_parts w1
    obtain ⟨b1, b2, b3⟩ := wordK_parts w2
    subst hK eM eR
    refine wordR_step wf ⟨by rw [hmg]; exact gF, by rw [hmg]; exact gI, wf.gM, a1, a2, a3, (wf.rfk hrf).gR, b1, b2, of_decide_eq_true w3, b3, xfB_ok w4, of_decide_eq_true w5⟩ ef ec hps hNN hb hown hfr hpj ⟨F, S, hN, fun i hi => ?_⟩ h
    rw [hown] at hi
    cases hi⟩
/-- the module's facts -/
structure ModF (g : Glb) (K : PySem.W.Frag) (mg : Str → Option Value) (M : Addr) : Prop where
  con : ∀ q ∈ g.cons, conB K q = true
  blt : ∀ y ∈ bts, mg y = none
  gM : mg "Malformed" = some (.ref M)
  xM : PySem.W.excIn K M He.veBase "ValueError.__new__" = true
  kM : PySem.W.keepIn K (.ref M) = true
  bM : PySem.W.subIn K (.ref M) (.type "BaseException") = some true
  tM : PySem.W.typeIn K (.ref M) = some (.type "type")
theorem wf_all {g : Glb} {K : PySem.W.Frag} {mg : Str → Option Value} {M : Addr} {h : Heap} (X : K.In h) (G : h.Ns mainGlobals mg) (m : ModF g K mg M) (all : AllK g K mg 0 g.T) (p : Par) (hK : p.K = K) (hmg : p.mg = mg) (hT : p.T = g.T) (hM : p.M = M) (hR : g.rf = true → RefK p) : ∀ n, Wf p g n := by
  have base : ∀ n, (∀ f fi, g.T[f]? = some fi → ∃ fa fd, p.mg fi.name = some (.ref fa) ∧ PySem.W.keepIn p.K (.ref fa) = true ∧ L2.Binds p.K fd fi.ps [] ∧ FnOk p.P p.w p.K p.mg p.base (L2.CX p.P p.w) (n + 1) fa fd fi.ps (spF p n f)) → Wf p g n := fun n hfn =>
    ⟨hT, fun q hq => conB_ok (by rw [hK]; exact X) (by rw [hmg]; exact G) (by rw [hK]; exact m.con q hq), fun y hy => by rw [hmg]; exact m.blt y hy, ⟨_, _, _, _, PySem.F.excBase_ValueError, by rw [hK, hM]; exact m.xM⟩, by rw [hmg, hM]; exact m.gM, by rw [hK, hM]; exact m.kM, by rw [hK, hM]; exact m.bM, by rw [hK, hM]; exact m.tM, hfn, hR⟩
  intro n
  induction n with
  | zero =>
    refine base 0 fun f fi ef => ?_
    obtain ⟨fa, fd, h1, h2, h3, h4⟩ := all.get f fi ef
    exact ⟨fa, fd, by rw [hmg]; exact h1, by rw [hK]; exact h2, by rw [hK]; exact h3, fn_zero (by rw [hT]; exact ef)⟩
  | succ n ih =>
    refine base (n + 1) fun f fi ef => ?_
    obtain ⟨fa, fd, h1, h2, h3, h4⟩ := all.get f fi ef
    rw [Nat.zero_add] at h4
    exact ⟨fa, fd, by rw [hmg]; exact h1, by rw [hK]; exact h2, by rw [hK]; exact h3, h4 p n hK hmg hT ih⟩

/-! ### the draws' row, made -/
def spDraw (K : PySem.W.Frag) : Sp := fun vs H Q _ => ∃ (a : Addr) (ns : List Int), vs = [.ref a] ∧ SqL K H a (ns.map V.int) ∧ ns.length ≤ 63 ∧
  ∀ (c L : Addr) (seed : Int), H c = none → c ≠ L → H L = none → Q (.ref L) (upd (upd H c (.lst ((ns.map fun i => if i < 0 then -i else i).map V.int))) L (.lst [.ref c, .int (-1), .int 0, .int seed]))
def spLaw (K : PySem.W.Frag) : Sp := fun vs H Q _ => ∃ (a : Addr) (ns : List Int), vs = [.ref a] ∧ SqL K H a (ns.map V.int) ∧ ns.length ≤ 63 ∧ ∀ H', Q (.bl true) H'
/-- the law: its row of draws made, then the rest by the evaluator -/
theorem law_step {P : Program} {w : World} {K : PySem.W.Frag} {mg : Str → Option Value} {base h : Heap} {g : Glb} {M Rf : Addr} {W n k : Nat} {fi : FnI} {fa fb : Addr} {fd fdb : FuncData} {params : Arguments} {body : List Stmt} {scope : Scope} {p0 p1 p2 p3 p4 : Pos}
    (X : K.In h) (G : h.Ns mainGlobals mg) (m : ModF g K mg M) (all : AllK g K mg 0 g.T) (F : FunD K fi.name fi.name params (.Assign [.Name "draw" p0] (.Call (.Name "_law_draw" p1) [.Name "script" p2] [] p3) p4 :: body) scope [] [] fa fd) (S : FnScope fi.N fi.ps scope) (hps : fi.ps = ([("script" : Str)] : List Str)) (hN : ∃ r, fi.N = ("script" : Str) :: ("draw" : Str) :: r)
    (hown : ∀ i ∈ fi.own, 2 ≤ i) (hfr : fi.fresh = false) (hc : chkSs g fi.N fi.own fi.fresh k scope body fi.body = true) (gd : mg "_law_draw" = some (.ref fb)) (kd : PySem.W.keepIn K (.ref fb) = true) (bd : L2.Binds K fdb ["script"] []) (hd : gloB scope "_law_draw" = true) (hs : visB scope "script" = true) (hdl : locB scope "draw" = true)
    (rq : g.rf = true → refB P K Rf = true ∧ mg "Refused" = some (.ref Rf) ∧ mg "super" = none)
    (FD : FnOk P w K mg base (L2.CX P w) (n + 1) fb fdb ["script"] (spDraw K))
    (plain : ∀ (cells : List Int) (seed : Int), (∀ c ∈ cells, 0 ≤ c) → cells.length ≤ 63 → ∃ ρ s', evS (run g.T W n) W fi.body (none :: some (.dict []) :: List.replicate (fi.N.length - 2) none) ⟨cells, 0, 0, seed⟩ = .ok (.ret (.bool true), ρ) s') :
    FnOk P w K mg base (L2.CX P w) (n + 2) fa fd ["script"] (spLaw K) := by
  have S' : FnScope fi.N ["script"] scope := by rw [← hps]; exact S
  refine F.ok S' (fun vs H Q E ⟨a, ns, e, _⟩ => by rw [e]; rfl) fun cdv A outer s H vs Q E hr hsp => ?_
  obtain ⟨a, ns, rfl, hS, hlen, hQ⟩ := hsp
  obtain ⟨r, hN⟩ := hN
  have tk : Takes (cxOf (L2.CX P w) P w K mg base fi.N fi.name scope fa cdv A outer s H E) (fun c d _ H => E c d H) := takes_of rfl rfl rfl rfl
  have gl : ∀ {y : Str}, gloB scope y = true → Gl (cxOf (L2.CX P w) P w K mg base fi.N fi.name scope fa cdv A outer s H E) y := fun {y} hy => by
    unfold gloB at hy
    split at hy
    · rename_i e; exact e
    · cases hy
  have vs' : Vis scope "script" := by
    unfold visB at hs
    split at hs
    · rename_i e; exact .inl e
    · rename_i e; exact .inr (.inl e)
    · rename_i e; exact .inr (.inr e)
    · cases hs
  have ld : Loc scope "draw" := by
    unfold locB at hdl
    split at hdl
    · rename_i e; exact .inl e
    · rename_i e; exact .inr e
    · cases hdl
  -- the rest, for any place of the row
  have rest : ∀ (p : Par) (x : Fx), p.P = P → p.w = w → p.K = K → p.mg = mg → p.base = base → p.T = g.T → p.M = M → p.Rf = Rf → x.W = E → x.own = fi.own → x.fresh = fi.fresh →
      PSs (cxOf (L2.CX P w) P w K mg base fi.N fi.name scope fa cdv A outer s H E) body (rS p x (evS (cf p n) p.W fi.body)) := fun p x e1 e2 e3 e4 e5 e6 e7 eR e8 e9 e10 => by
    have wf := wf_all X G m all p e3 e4 e6 e7 (fun z => by
      obtain ⟨q1, q2, q3⟩ := rq z
      exact refB_ok (by rw [e1, e3, eR]; exact q1) (by rw [e4, eR]; exact q2) (by rw [e4]; exact q3)) n
    subst e1 e2 e3 e4 e5
    have cx : SCxt p n x fi.N (cxOf (L2.CX p.P p.w) p.P p.w p.K p.mg p.base fi.N fi.name scope fa cdv A outer s H E) scope :=
      ⟨⟨rfl, rfl, rfl, rfl, rfl, rfl, S.nd, rfl, hr, ScR.refl _, by rw [e8]; exact passes_call tk fun _ _ _ _ h => h⟩, rfl, S.kind, passes_of rfl, by rw [e8]; exact tk, fun _ => rfl⟩
    exact (sok wf fi.own fi.fresh k).ss scope body fi.body x _ e9 e10 hc cx
  have restE : PSs (cxOf (L2.CX P w) P w K mg base fi.N fi.name scope fa cdv A outer s H E) body (fun D σ H1 => ∃ (p : Par) (x : Fx), p.P = P ∧ p.w = w ∧ p.K = K ∧ p.mg = mg ∧ p.base = base ∧ p.T = g.T ∧ p.M = M ∧ p.Rf = Rf ∧ x.W = E ∧ x.own = fi.own ∧ x.fresh = fi.fresh ∧ rS p x (evS (cf p n) p.W fi.body) D σ H1) :=
    ⟨fun pins s σ H D I ⟨p, x, e1, e2, e3, e4, e5, e6, e7, eR, e8, e9, e10, q⟩ => (rest p x e1 e2 e3 e4 e5 e6 e7 eR e8 e9 e10).run pins s σ H D I q⟩
  have first := PS.good (p := ⟨P, w, K, mg, base, 0, 0, g.T, W, M, Rf⟩) rfl (ps_set (X := cxOf (L2.CX P w) P w K mg base fi.N fi.name scope fa cdv A outer s H E) (pos := p4) (pos' := p0) (i := 1) S.nd (show fi.N[1]? = some ("draw" : Str) by rw [hN]; rfl) ld
    (pe_call (p := p1) (pos := p3) FD hr (gl hd) gd kd bd .nil (passes_call tk fun _ _ _ _ h => h) (pa_cons (pe_var (pos := p2) (i := 0) (show fi.N[0]? = some ("script" : Str) by rw [hN]; rfl) vs' (by decide) (by decide)) pa_nil) (by decide)) rfl (.inl rfl))
  refine ⟨_, pss_cons first restE, ?_⟩
  have e0 : L2.start fi.N [.ref a] = some (.ref a) :: none :: List.replicate r.length none := by
    rw [hN]
    show some (V.ref a) :: List.replicate (r.length + 1) none = _
    rfl
  rw [e0]
  refine ⟨.ref a, rfl, a, ns, rfl, hS, hlen, fun c L seed hc0 hcl hL0 => ?_⟩
  intro g2
  have hcells : ∀ c ∈ ns.map (fun i => if i < 0 then -i else i), 0 ≤ c := fun c hc => by
    obtain ⟨i, _, rfl⟩ := List.mem_map.mp hc
    split <;> omega
  obtain ⟨ρ, s', pl⟩ := plain (ns.map fun i => if i < 0 then -i else i) seed hcells (by rw [List.length_map]; exact hlen)
  let p : Par := ⟨P, w, K, mg, base, L, c, g.T, W, M, Rf⟩
  let H2 : Hp := upd (upd H c (.lst ((ns.map fun i => if i < 0 then -i else i).map V.int))) L (.lst [.ref c, .int (-1), .int 0, .int seed])
  let x : Fx := ⟨fi.own, fun b => b = L, H2, fi.fresh, E⟩
  have hdr : Dr p H2 ⟨ns.map fun i => if i < 0 then -i else i, 0, 0, seed⟩ := ⟨upd_same, SqL.of (by show H2 c = _; rw [show H2 = upd (upd H c (.lst ((ns.map fun i => if i < 0 then -i else i).map V.int))) L (.lst [.ref c, .int (-1), .int 0, .int seed]) from rfl, upd_ne hcl, upd_same]), hcl⟩
  refine ⟨p, x, rfl, rfl, rfl, rfl, rfl, rfl, rfl, rfl, rfl, rfl, rfl, fun b => b = L, none :: some (.dict []) :: List.replicate (fi.N.length - 2) none, _, ⟨?_, fun i d e hi => ?_, fun i d e hi => ?_, fun i j d e b h1 h2 q1 q2 q3 q4 => ?_, hdr, g2, fun b hb => ?_, rfl, fun z => hcl z, fun _ h => h, FrE.refl, fun _ h => h⟩, ?_⟩
  · rw [hN]; simp
  · match i, e with
    | 0, e => cases e
    | 1, e => cases e; exact ⟨.ref L, rfl, .drw⟩
    | i + 2, e =>
      have e : (List.replicate (fi.N.length - 2) (none : Option D))[i]? = some (some d) := by simpa using e
      rw [List.getElem?_replicate] at e
      split at e <;> cases e
  · have h2 := hown i hi
    match i, h2, e with
    | i + 2, _, e =>
      have e : (List.replicate (fi.N.length - 2) (none : Option D))[i]? = some (some d) := by simpa using e
      rw [List.getElem?_replicate] at e
      split at e <;> cases e
  · have h3 := hown i h1
    match i, h3, q1 with
    | i + 2, _, q1 =>
      have q1 : (List.replicate (fi.N.length - 2) (none : Option D))[i]? = some (some d) := by simpa using q1
      rw [List.getElem?_replicate] at q1
      split at q1 <;> cases q1
  · have hb : b = L := hb
    rw [hb]
    show H2 L ≠ none
    rw [show H2 L = _ from upd_same]
    simp
  · show SO p x _ H2 (evS (run g.T W n) W fi.body _ _) _
    rw [pl]
    intro v H3 f3 d3 g3 rx
    have rx : RX p fi.fresh _ H2 H3 v (.bool true) := rx
    rw [hfr] at rx
    cases (show Rp p _ H3 v (.bool true) from rx)
    exact hQ H3
/-! ### the head, with more facts -/
section
variable (ex : PySem.W.Frag → Bool) (fa : List He.Fa) (fn : List He.DefD)
def obsX (K : PySem.W.Frag) : He.AlD := ((He.obsD fa fn K).1 && ex K, (He.obsD fa fn K).2)
def obsXG (n : Nat) (gt : Addr → Option Obj) : He.AlD := obsX ex fa fn (He.frG gt (cStatics :: He.asD gt n))
def hookX (n : Nat) : PySem.W.Hook where
  α := He.AlD
  obs := fun s => obsXG ex fa fn n s.heap.get?
  val := fun _ => He.valD fn
  says := fun _ h => ∃ K : PySem.W.Frag, K.In h ∧ obsX ex fa fn K = He.valD fn
  of := fun _ _ e => ⟨_, He.frG_in, e⟩
  keeps := fun _ _ _ ⟨K, hK, c⟩ k => ⟨K, PySem.W.Frag.In.keeps hK k, c⟩
theorem obsX_eq {n : Nat} {gt : Addr → Option Obj} {s : Shared} (h : ∀ a, gt a = s.heap.get? a) : obsXG ex fa fn n gt = (hookX ex fa fn n).obs s := by
  have e : gt = s.heap.get? := funext h
  rw [e] <;> rfl
theorem saysX {K : PySem.W.Frag} (h : obsX ex fa fn K = He.valD fn) : He.SaysD fa fn K ∧ ex K = true := by
  have h1 : ((He.obsD fa fn K).1 && ex K) = true := congrArg (fun z : He.AlD => z.1) h
  have h2 : (He.obsD fa fn K).2 = fn.map He.DefD.val := congrArg (fun z : He.AlD => z.2) h
  obtain ⟨h3, h4⟩ := He.ba h1
  exact ⟨Prod.ext h3 h2, h4⟩
end
/-- what may be let out, in any world -/
def CX1 (P : Program) : CXT := fun outer H s E e s' => ∃ w, L2.CX P w outer H s E e s'
theorem fn_cx {P : Program} {w : World} {K : PySem.W.Frag} {mg : Str → Option Value} {base : Heap} {k : Nat} {f : Addr} {fd : FuncData} {ps : List Str} {sp : Sp} (F : FnOk P w K mg base (L2.CX P w) k f fd ps sp) : FnOk P w K mg base (CX1 P) k f fd ps sp :=
  ⟨F.len, fun A outer s H args us vs Q E hr he hb hv hs => codeAny_mono (F.run A outer s H args us vs Q E hr he hb hv hs) fun r s' h => by
    cases r with
    | error e => exact ⟨w, h⟩
    | ok fl => cases fl <;> exact h⟩
theorem cx1_no {P : Program} (H : Hp) (s : Shared) (e : Value) (s' : Shared) (h : CX1 P [] H s (fun _ _ _ => False) e s') : False := by
  obtain ⟨w, _, _, _, _, _, _, _, _, _, _, _, _, z⟩ := h
  exact z
/-- the law's first row -/
def lawShape : List Stmt → Bool
  | .Assign [.Name x _] (.Call (.Name y _) [.Name z _] [] _) _ :: _ => decide (x = ("draw" : Str)) && decide (y = ("_law_draw" : Str)) && decide (z = ("script" : Str))
  | _ => false
theorem lawShape_ok {b : List Stmt} (h : lawShape b = true) : ∃ p0 p1 p2 p3 p4, b = .Assign [.Name "draw" p0] (.Call (.Name "_law_draw" p1) [.Name "script" p2] [] p3) p4 :: b.drop 1 := by
  unfold lawShape at h
  split at h
  · simp only [Bool.and_eq_true, decide_eq_true_eq] at h
    obtain ⟨⟨rfl, rfl⟩, rfl⟩ := h
    exact ⟨_, _, _, _, _, rfl⟩
  · cases h
end EV
end

section
set_option Elab.async false
set_option linter.all false
set_option autoImplicit false
/-! EvWp: what must hold so that the evaluator ends well, whatever the draws are. -/
namespace EV
open PySem

abbrev XP := Exn → Prop
/-- no error -/
def nox : XP := fun _ => False
/-- Malformed -/
def malx : XP := fun x => match x with
  | .mal => True
  | _ => False
/-- Refused -/
def refx (r : Str) : XP := fun x => match x with
  | .refu q => q = r
  | _ => False
/-- ends well with P, or with an error of X -/
def OkE {α : Type} (r : R α) (P : α → Prop) (X : XP) : Prop := match r with
  | .ok a _ => P a
  | .err x _ => X x
  | .stuck => False
theorem OkE.imp {α : Type} {r : R α} {P P' : α → Prop} {X X' : XP} (h : OkE r P X) (k : ∀ a, P a → P' a) (k2 : ∀ x, X x → X' x) : OkE r P' X' := by
  cases r with
  | ok a s => exact k a h
  | err x s => exact k2 x h
  | stuck => exact h
theorem OkE.bnd {α β : Type} {r : R α} {f : α → DS → R β} {P : α → Prop} {Q : β → Prop} {X : XP} (h : OkE r P X) (k : ∀ a s, P a → OkE (f a s) Q X) : OkE (r.bnd f) Q X := by
  cases r with
  | ok a s => exact k a s h
  | err x s => exact h
  | stuck => exact h
def oP {α : Type} (o : Option α) (P : α → Prop) : Prop := match o with
  | some a => P a
  | none => False
@[simp] theorem oP_some {α : Type} (a : α) (P : α → Prop) : oP (some a) P = P a := rfl
@[simp] theorem oP_none {α : Type} (P : α → Prop) : oP none P = False := rfl
theorem oP.lift {α : Type} {o : Option α} {P : α → Prop} {X : XP} {s : DS} (h : oP o P) : OkE (R.lift o s) P X := by
  cases o with
  | some a => exact h
  | none => exact h.elim
def bP (d : D) (P : Bool → Prop) : Prop := match d with
  | .bool b => P b
  | _ => False
@[simp] theorem bP_bool (b : Bool) (P : Bool → Prop) : bP (.bool b) P = P b := rfl
theorem bP.ok {d : D} {P : Bool → Prop} {X : XP} {s : DS} (h : bP d P) : OkE (boolR d s) P X := by
  cases d with
  | bool b => exact h
  | _ => exact h.elim
def oCons (o : Option D) (ys : List D) : List D := match o with
  | some y => y :: ys
  | none => ys
@[simp] theorem oCons_some (y : D) (ys : List D) : oCons (some y) ys = y :: ys := rfl
@[simp] theorem oCons_none (ys : List D) : oCons none ys = ys := rfl
def wC (f : D → (Option D → Prop) → Prop) : List D → (List D → Prop) → Prop
  | [], P => P []
  | x :: xs, P => f x fun o => wC f xs fun ys => P (oCons o ys)
abbrev CS := Nat → List D → (D → Prop) → XP → Prop
mutual
def wE (cs : CS) : E → Env → (D → Prop) → XP → Prop
  | .var i, ρ, P, _ => oP (ρ.getD i none) P
  | .con d, _, P, _ => P d
  | .glo _ d, _, P, _ => P d
  | .bin o a b, ρ, P, X => wE cs a ρ (fun x => wE cs b ρ (fun y => oP (binD o x y) P) X) X
  | .neg a, ρ, P, X => wE cs a ρ (fun x => oP (negD x) P) X
  | .not_ a, ρ, P, X => wE cs a ρ (fun x => bP x fun b => P (.bool (!b))) X
  | .and_ a b, ρ, P, X => wE cs a ρ (fun x => bP x fun k => if k = true then wE cs b ρ P X else P (.bool false)) X
  | .or_ a b, ρ, P, X => wE cs a ρ (fun x => bP x fun k => if k = true then P (.bool true) else wE cs b ρ P X) X
  | .ife c a b, ρ, P, X => wE cs c ρ (fun x => bP x fun k => if k = true then wE cs a ρ P X else wE cs b ρ P X) X
  | .cmp o a b, ρ, P, X => wE cs a ρ (fun x => wE cs b ρ (fun y => oP (cmpD o x y) fun k => P (.bool k)) X) X
  | .chn o p a b c, ρ, P, X => wE cs a ρ (fun x => wE cs b ρ (fun y => oP (cmpD o x y) fun k => if k = true then wE cs c ρ (fun z => oP (cmpD p y z) fun k => P (.bool k)) X else P (.bool false)) X) X
  | .ix a b, ρ, P, X => wE cs a ρ (fun x => wE cs b ρ (fun y => oP (ixD x y) P) X) X
  | .sl a lo hi, ρ, P, X => wE cs a ρ (fun x => wO cs lo ρ (fun l => wO cs hi ρ (fun h => oP (slD x l h) P) X) X) X
  | .tup as, ρ, P, X => wA cs as ρ (fun xs => P (.tuple xs)) X
  | .lst as, ρ, P, X => wA cs as ρ (fun xs => P (.list xs)) X
  | .call f as, ρ, P, X => wA cs as ρ (fun xs => cs f xs P X) X
  | .bi b as, ρ, P, X => wA cs as ρ (fun xs => oP (biD b xs) P) X
  | .mt m a as, ρ, P, X => wE cs a ρ (fun x => oP (mtOk m x) fun _ => wA cs as ρ (fun xs => oP (mtD m x xs) P) X) X
  | .isi a t, ρ, P, X => wE cs a ρ (fun x => x.plain = true ∧ P (.bool (isiD x t))) X
  | .lens a, ρ, P, X => wE cs a ρ (fun x => oP (setI x) fun ns => P (.int ns.eraseDups.length)) X
  | .eqs a b, ρ, P, X => wE cs a ρ (fun x => oP (setI x) fun ns => wE cs b ρ (fun y => oP (setI y) fun ms => P (.bool (eqsB ns ms))) X) X
  | .lrng as, ρ, P, X => wA cs as ρ (fun xs => oP (rangeD xs) fun ys => P (.list ys)) X
  | .comp el tg it c, ρ, P, X => wI cs it ρ (fun xs => xs.length ≤ LIM ∧ wC (fun x P => oP (bindT tg x (wipeE ρ (tgSlots tg))) fun ρ1 => wE cs c ρ1 (fun t => bP t fun k => if k = true then wE cs el ρ1 (fun y => P (some y)) nox else P none) nox) xs fun ys => P (.list ys)) X
  | .drw _ _, _, _, _ => False
  | .ncel _, _, _, _ => False
  | .cel _ _, _, _, _ => False
  | .nil, _, _, _ => False
  | .cons _ _, _, _, _ => False
  | .rng _, _, _, _ => False
  | .zip _ _, _, _, _ => False
  | .enum _, _, _, _ => False
def wA (cs : CS) : E → Env → (List D → Prop) → XP → Prop
  | .nil, _, P, _ => P []
  | .cons a as, ρ, P, X => wE cs a ρ (fun x => wA cs as ρ (fun xs => P (x :: xs)) X) X
  | _, _, _, _ => False
def wO (cs : CS) : E → Env → (Option Int → Prop) → XP → Prop
  | .nil, _, P, _ => P none
  | e, ρ, P, X => wE cs e ρ (fun x => oP (endD x) fun i => P (some i)) X
def wI (cs : CS) : E → Env → (List D → Prop) → XP → Prop
  | .rng as, ρ, P, X => wA cs as ρ (fun xs => oP (rangeD xs) P) X
  | .zip a b, ρ, P, X => wE cs a ρ (fun x => wE cs b ρ (fun y => oP (zip2 x y) P) X) X
  | .enum a, ρ, P, X => wE cs a ρ (fun x => oP (itemsD x) fun xs => P (enumD 0 xs)) X
  | e, ρ, P, X => wE cs e ρ (fun x => oP (itemsD x) P) X
end
/-- the calls do what cs says -/
def Snd (cs : CS) (C : CallF) : Prop := ∀ f xs P X, cs f xs P X → ∀ s, OkE (C f xs s) P X
theorem wC.ok {f : D → (Option D → Prop) → Prop} {F : D → DS → R (Option D)} (h : ∀ x P, f x P → ∀ s, OkE (F x s) P nox) {X : XP} : ∀ {xs : List D} {P : List D → Prop}, wC f xs P → ∀ s, OkE (compL F xs s) P X
  | [], P, q, s => q
  | x :: xs, P, q, s => by
    unfold compL
    have h1 := h x _ q s
    cases r : F x s with
    | ok o s1 =>
      rw [r] at h1
      have h2 : wC f xs fun ys => P (oCons o ys) := h1
      have h3 := wC.ok h (X := nox) h2 s1
      dsimp only
      cases r2 : compL F xs s1 with
      | ok ys s2 =>
        rw [r2] at h3
        cases o <;> exact h3
      | err xn s2 => rw [r2] at h3; exact h3.elim
      | stuck => rw [r2] at h3; exact h3.elim
    | err xn s1 => rw [r] at h1; exact h1.elim
    | stuck => rw [r] at h1; exact h1.elim
theorem endOk {x : D} {P : Option Int → Prop} {X : XP} {s : DS} (h : oP (endD x) fun i => P (some i)) : OkE (R.lift ((endD x).map some) s) P X := by
  cases q : endD x with
  | none => rw [q] at h; exact h.elim
  | some k => rw [q] at h; exact h
theorem enumOk {x : D} {P : List D → Prop} {X : XP} {s : DS} (h : oP (itemsD x) fun xs => P (enumD 0 xs)) : OkE (R.lift ((itemsD x).map fun xs => enumD 0 xs) s) P X := by
  cases q : itemsD x with
  | none => rw [q] at h; exact h.elim
  | some k => rw [q] at h; exact h
theorem w_ok {cs : CS} {C : CallF} (hs : Snd cs C) (e : E) : (∀ (ρ : Env) (P : D → Prop) (X : XP), wE cs e ρ P X → ∀ s, OkE (ev C e ρ s) P X) ∧ (∀ (ρ : Env) (P : List D → Prop) (X : XP), wA cs e ρ P X → ∀ s, OkE (evA C e ρ s) P X) ∧
    (∀ (ρ : Env) (P : Option Int → Prop) (X : XP), wO cs e ρ P X → ∀ s, OkE (evO C e ρ s) P X) ∧ (∀ (ρ : Env) (P : List D → Prop) (X : XP), wI cs e ρ P X → ∀ s, OkE (evI C e ρ s) P X) := by
  induction e with
  | var i =>
    have A : ∀ (ρ : Env) (P : D → Prop) (X : XP), wE cs (E.var i) ρ P X → ∀ s, OkE (ev C (E.var i) ρ s) P X := by
      intro ρ P X h s
      unfold wE at h; unfold ev; exact oP.lift h
    exact ⟨A, fun _ _ _ h => by simp [wA] at h, fun ρ P X h s => by unfold wO at h; unfold evO; exact (A ρ _ X h s).bnd fun x s h => endOk h, fun ρ P X h s => by unfold wI at h; unfold evI; exact (A ρ _ X h s).bnd fun x s h => oP.lift h⟩
  | con d =>
    have A : ∀ (ρ : Env) (P : D → Prop) (X : XP), wE cs (E.con d) ρ P X → ∀ s, OkE (ev C (E.con d) ρ s) P X := by
      intro ρ P X h s
      unfold wE at h; unfold ev; exact h
    exact ⟨A, fun _ _ _ h => by simp [wA] at h, fun ρ P X h s => by unfold wO at h; unfold evO; exact (A ρ _ X h s).bnd fun x s h => endOk h, fun ρ P X h s => by unfold wI at h; unfold evI; exact (A ρ _ X h s).bnd fun x s h => oP.lift h⟩
  | glo y d =>
    have A : ∀ (ρ : Env) (P : D → Prop) (X : XP), wE cs (E.glo y d) ρ P X → ∀ s, OkE (ev C (E.glo y d) ρ s) P X := by
      intro ρ P X h s
      unfold wE at h; unfold ev; exact h
    exact ⟨A, fun _ _ _ h => by simp [wA] at h, fun ρ P X h s => by unfold wO at h; unfold evO; exact (A ρ _ X h s).bnd fun x s h => endOk h, fun ρ P X h s => by unfold wI at h; unfold evI; exact (A ρ _ X h s).bnd fun x s h => oP.lift h⟩
  | bin o a b iha ihb =>
    have A : ∀ (ρ : Env) (P : D → Prop) (X : XP), wE cs (E.bin o a b) ρ P X → ∀ s, OkE (ev C (E.bin o a b) ρ s) P X := by
      intro ρ P X h s
      unfold wE at h; unfold ev
      exact (iha.1 ρ _ X h s).bnd fun x s h => (ihb.1 ρ _ X h s).bnd fun y s h => oP.lift h
    exact ⟨A, fun _ _ _ h => by simp [wA] at h, fun ρ P X h s => by unfold wO at h; unfold evO; exact (A ρ _ X h s).bnd fun x s h => endOk h, fun ρ P X h s => by unfold wI at h; unfold evI; exact (A ρ _ X h s).bnd fun x s h => oP.lift h⟩
  | neg a iha =>
    have A : ∀ (ρ : Env) (P : D → Prop) (X : XP), wE cs (E.neg a) ρ P X → ∀ s, OkE (ev C (E.neg a) ρ s) P X := by
      intro ρ P X h s
      unfold wE at h; unfold ev
      exact (iha.1 ρ _ X h s).bnd fun x s h => oP.lift h
    exact ⟨A, fun _ _ _ h => by simp [wA] at h, fun ρ P X h s => by unfold wO at h; unfold evO; exact (A ρ _ X h s).bnd fun x s h => endOk h, fun ρ P X h s => by unfold wI at h; unfold evI; exact (A ρ _ X h s).bnd fun x s h => oP.lift h⟩
  | not_ a iha =>
    have A : ∀ (ρ : Env) (P : D → Prop) (X : XP), wE cs (E.not_ a) ρ P X → ∀ s, OkE (ev C (E.not_ a) ρ s) P X := by
      intro ρ P X h s
      unfold wE at h; unfold ev
      exact (iha.1 ρ _ X h s).bnd fun x s h => (bP.ok h).bnd fun b s h => h
    exact ⟨A, fun _ _ _ h => by simp [wA] at h, fun ρ P X h s => by unfold wO at h; unfold evO; exact (A ρ _ X h s).bnd fun x s h => endOk h, fun ρ P X h s => by unfold wI at h; unfold evI; exact (A ρ _ X h s).bnd fun x s h => oP.lift h⟩
  | and_ a b iha ihb =>
    have A : ∀ (ρ : Env) (P : D → Prop) (X : XP), wE cs (E.and_ a b) ρ P X → ∀ s, OkE (ev C (E.and_ a b) ρ s) P X := by
      intro ρ P X h s
      unfold wE at h; unfold ev
      exact (iha.1 ρ _ X h s).bnd fun x s h => (bP.ok h).bnd fun k s h => by
        cases k with
        | true => exact ihb.1 ρ P X h s
        | false => exact h
    exact ⟨A, fun _ _ _ h => by simp [wA] at h, fun ρ P X h s => by unfold wO at h; unfold evO; exact (A ρ _ X h s).bnd fun x s h => endOk h, fun ρ P X h s => by unfold wI at h; unfold evI; exact (A ρ _ X h s).bnd fun x s h => oP.lift h⟩
  | or_ a b iha ihb =>
    have A : ∀ (ρ : Env) (P : D → Prop) (X : XP), wE cs (E.or_ a b) ρ P X → ∀ s, OkE (ev C (E.or_ a b) ρ s) P X := by
      intro ρ P X h s
      unfold wE at h; unfold ev
      exact (iha.1 ρ _ X h s).bnd fun x s h => (bP.ok h).bnd fun k s h => by
        cases k with
        | true => exact h
        | false => exact ihb.1 ρ P X h s
    exact ⟨A, fun _ _ _ h => by simp [wA] at h, fun ρ P X h s => by unfold wO at h; unfold evO; exact (A ρ _ X h s).bnd fun x s h => endOk h, fun ρ P X h s => by unfold wI at h; unfold evI; exact (A ρ _ X h s).bnd fun x s h => oP.lift h⟩
  | ife c a b ihc iha ihb =>
    have A : ∀ (ρ : Env) (P : D → Prop) (X : XP), wE cs (E.ife c a b) ρ P X → ∀ s, OkE (ev C (E.ife c a b) ρ s) P X := by
      intro ρ P X h s
      unfold wE at h; unfold ev
      exact (ihc.1 ρ _ X h s).bnd fun x s h => (bP.ok h).bnd fun k s h => by
        cases k with
        | true => exact iha.1 ρ P X h s
        | false => exact ihb.1 ρ P X h s
    exact ⟨A, fun _ _ _ h => by simp [wA] at h, fun ρ P X h s => by unfold wO at h; unfold evO; exact (A ρ _ X h s).bnd fun x s h => endOk h, fun ρ P X h s => by unfold wI at h; unfold evI; exact (A ρ _ X h s).bnd fun x s h => oP.lift h⟩
  | cmp o a b iha ihb =>
    have A : ∀ (ρ : Env) (P : D → Prop) (X : XP), wE cs (E.cmp o a b) ρ P X → ∀ s, OkE (ev C (E.cmp o a b) ρ s) P X := by
      intro ρ P X h s
      unfold wE at h; unfold ev
      exact (iha.1 ρ _ X h s).bnd fun x s h => (ihb.1 ρ _ X h s).bnd fun y s h => by
        cases q : cmpD o x y with
        | none => rw [q] at h; exact h.elim
        | some k => rw [q] at h; exact h
    exact ⟨A, fun _ _ _ h => by simp [wA] at h, fun ρ P X h s => by unfold wO at h; unfold evO; exact (A ρ _ X h s).bnd fun x s h => endOk h, fun ρ P X h s => by unfold wI at h; unfold evI; exact (A ρ _ X h s).bnd fun x s h => oP.lift h⟩
  | chn o p a b c iha ihb ihc =>
    have A : ∀ (ρ : Env) (P : D → Prop) (X : XP), wE cs (E.chn o p a b c) ρ P X → ∀ s, OkE (ev C (E.chn o p a b c) ρ s) P X := by
      intro ρ P X h s
      unfold wE at h; unfold ev
      exact (iha.1 ρ _ X h s).bnd fun x s h => (ihb.1 ρ _ X h s).bnd fun y s h => (oP.lift h).bnd fun k s h => by
        cases k with
        | false => exact h
        | true =>
          refine (ihc.1 ρ _ X h s).bnd fun z s h => ?_
          cases q : cmpD p y z with
          | none => rw [q] at h; exact h.elim
          | some k => rw [q] at h; exact h
    exact ⟨A, fun _ _ _ h => by simp [wA] at h, fun ρ P X h s => by unfold wO at h; unfold evO; exact (A ρ _ X h s).bnd fun x s h => endOk h, fun ρ P X h s => by unfold wI at h; unfold evI; exact (A ρ _ X h s).bnd fun x s h => oP.lift h⟩
  | ix a b iha ihb =>
    have A : ∀ (ρ : Env) (P : D → Prop) (X : XP), wE cs (E.ix a b) ρ P X → ∀ s, OkE (ev C (E.ix a b) ρ s) P X := by
      intro ρ P X h s
      unfold wE at h; unfold ev
      exact (iha.1 ρ _ X h s).bnd fun x s h => (ihb.1 ρ _ X h s).bnd fun y s h => oP.lift h
    exact ⟨A, fun _ _ _ h => by simp [wA] at h, fun ρ P X h s => by unfold wO at h; unfold evO; exact (A ρ _ X h s).bnd fun x s h => endOk h, fun ρ P X h s => by unfold wI at h; unfold evI; exact (A ρ _ X h s).bnd fun x s h => oP.lift h⟩
  | sl a lo hi iha ihlo ihhi =>
    have A : ∀ (ρ : Env) (P : D → Prop) (X : XP), wE cs (E.sl a lo hi) ρ P X → ∀ s, OkE (ev C (E.sl a lo hi) ρ s) P X := by
      intro ρ P X h s
      unfold wE at h; unfold ev
      exact (iha.1 ρ _ X h s).bnd fun x s h => (ihlo.2.2.1 ρ _ X h s).bnd fun l s h => (ihhi.2.2.1 ρ _ X h s).bnd fun k s h => oP.lift h
    exact ⟨A, fun _ _ _ h => by simp [wA] at h, fun ρ P X h s => by unfold wO at h; unfold evO; exact (A ρ _ X h s).bnd fun x s h => endOk h, fun ρ P X h s => by unfold wI at h; unfold evI; exact (A ρ _ X h s).bnd fun x s h => oP.lift h⟩
  | tup as ihas =>
    have A : ∀ (ρ : Env) (P : D → Prop) (X : XP), wE cs (E.tup as) ρ P X → ∀ s, OkE (ev C (E.tup as) ρ s) P X := by
      intro ρ P X h s
      unfold wE at h; unfold ev
      exact (ihas.2.1 ρ _ X h s).bnd fun x s h => h
    exact ⟨A, fun _ _ _ h => by simp [wA] at h, fun ρ P X h s => by unfold wO at h; unfold evO; exact (A ρ _ X h s).bnd fun x s h => endOk h, fun ρ P X h s => by unfold wI at h; unfold evI; exact (A ρ _ X h s).bnd fun x s h => oP.lift h⟩
  | lst as ihas =>
    have A : ∀ (ρ : Env) (P : D → Prop) (X : XP), wE cs (E.lst as) ρ P X → ∀ s, OkE (ev C (E.lst as) ρ s) P X := by
      intro ρ P X h s
      unfold wE at h; unfold ev
      exact (ihas.2.1 ρ _ X h s).bnd fun x s h => h
    exact ⟨A, fun _ _ _ h => by simp [wA] at h, fun ρ P X h s => by unfold wO at h; unfold evO; exact (A ρ _ X h s).bnd fun x s h => endOk h, fun ρ P X h s => by unfold wI at h; unfold evI; exact (A ρ _ X h s).bnd fun x s h => oP.lift h⟩
  | call f as ihas =>
    have A : ∀ (ρ : Env) (P : D → Prop) (X : XP), wE cs (E.call f as) ρ P X → ∀ s, OkE (ev C (E.call f as) ρ s) P X := by
      intro ρ P X h s
      unfold wE at h; unfold ev
      exact (ihas.2.1 ρ _ X h s).bnd fun x s h => hs f x P X h s
    exact ⟨A, fun _ _ _ h => by simp [wA] at h, fun ρ P X h s => by unfold wO at h; unfold evO; exact (A ρ _ X h s).bnd fun x s h => endOk h, fun ρ P X h s => by unfold wI at h; unfold evI; exact (A ρ _ X h s).bnd fun x s h => oP.lift h⟩
  | bi b as ihas =>
    have A : ∀ (ρ : Env) (P : D → Prop) (X : XP), wE cs (E.bi b as) ρ P X → ∀ s, OkE (ev C (E.bi b as) ρ s) P X := by
      intro ρ P X h s
      unfold wE at h; unfold ev
      exact (ihas.2.1 ρ _ X h s).bnd fun x s h => oP.lift h
    exact ⟨A, fun _ _ _ h => by simp [wA] at h, fun ρ P X h s => by unfold wO at h; unfold evO; exact (A ρ _ X h s).bnd fun x s h => endOk h, fun ρ P X h s => by unfold wI at h; unfold evI; exact (A ρ _ X h s).bnd fun x s h => oP.lift h⟩
  | mt m a as iha ihas =>
    have A : ∀ (ρ : Env) (P : D → Prop) (X : XP), wE cs (E.mt m a as) ρ P X → ∀ s, OkE (ev C (E.mt m a as) ρ s) P X := by
      intro ρ P X h s
      unfold wE at h; unfold ev
      exact (iha.1 ρ _ X h s).bnd fun x s h => (oP.lift h).bnd fun _ s h => (ihas.2.1 ρ _ X h s).bnd fun xs s h => oP.lift h
    exact ⟨A, fun _ _ _ h => by simp [wA] at h, fun ρ P X h s => by unfold wO at h; unfold evO; exact (A ρ _ X h s).bnd fun x s h => endOk h, fun ρ P X h s => by unfold wI at h; unfold evI; exact (A ρ _ X h s).bnd fun x s h => oP.lift h⟩
  | isi a t iha =>
    have A : ∀ (ρ : Env) (P : D → Prop) (X : XP), wE cs (E.isi a t) ρ P X → ∀ s, OkE (ev C (E.isi a t) ρ s) P X := by
      intro ρ P X h s
      unfold wE at h; unfold ev
      exact (iha.1 ρ _ X h s).bnd fun x s h => by rw [if_pos h.1]; exact h.2
    exact ⟨A, fun _ _ _ h => by simp [wA] at h, fun ρ P X h s => by unfold wO at h; unfold evO; exact (A ρ _ X h s).bnd fun x s h => endOk h, fun ρ P X h s => by unfold wI at h; unfold evI; exact (A ρ _ X h s).bnd fun x s h => oP.lift h⟩
  | lens a iha =>
    have A : ∀ (ρ : Env) (P : D → Prop) (X : XP), wE cs (E.lens a) ρ P X → ∀ s, OkE (ev C (E.lens a) ρ s) P X := by
      intro ρ P X h s
      unfold wE at h; unfold ev
      refine (iha.1 ρ _ X h s).bnd fun x s h => ?_
      cases q : setI x with
      | none => rw [q] at h; exact h.elim
      | some ns => rw [q] at h; exact h
    exact ⟨A, fun _ _ _ h => by simp [wA] at h, fun ρ P X h s => by unfold wO at h; unfold evO; exact (A ρ _ X h s).bnd fun x s h => endOk h, fun ρ P X h s => by unfold wI at h; unfold evI; exact (A ρ _ X h s).bnd fun x s h => oP.lift h⟩
  | eqs a b iha ihb =>
    have A : ∀ (ρ : Env) (P : D → Prop) (X : XP), wE cs (E.eqs a b) ρ P X → ∀ s, OkE (ev C (E.eqs a b) ρ s) P X := by
      intro ρ P X h s
      unfold wE at h; unfold ev
      refine (iha.1 ρ _ X h s).bnd fun x s h => ?_
      cases q : setI x with
      | none => rw [q] at h; exact h.elim
      | some ns =>
        rw [q] at h
        refine (ihb.1 ρ _ X h s).bnd fun y s h => ?_
        cases q2 : setI y with
        | none => rw [q2] at h; exact h.elim
        | some ms => rw [q2] at h; exact h
    exact ⟨A, fun _ _ _ h => by simp [wA] at h, fun ρ P X h s => by unfold wO at h; unfold evO; exact (A ρ _ X h s).bnd fun x s h => endOk h, fun ρ P X h s => by unfold wI at h; unfold evI; exact (A ρ _ X h s).bnd fun x s h => oP.lift h⟩
  | lrng as ihas =>
    have A : ∀ (ρ : Env) (P : D → Prop) (X : XP), wE cs (E.lrng as) ρ P X → ∀ s, OkE (ev C (E.lrng as) ρ s) P X := by
      intro ρ P X h s
      unfold wE at h; unfold ev
      exact (ihas.2.1 ρ _ X h s).bnd fun xs s h => (oP.lift h).bnd fun ys s h => h
    exact ⟨A, fun _ _ _ h => by simp [wA] at h, fun ρ P X h s => by unfold wO at h; unfold evO; exact (A ρ _ X h s).bnd fun x s h => endOk h, fun ρ P X h s => by unfold wI at h; unfold evI; exact (A ρ _ X h s).bnd fun x s h => oP.lift h⟩
  | comp el tg it c ihel ihit ihc =>
    have A : ∀ (ρ : Env) (P : D → Prop) (X : XP), wE cs (E.comp el tg it c) ρ P X → ∀ s, OkE (ev C (E.comp el tg it c) ρ s) P X := by
      intro ρ P X h s
      unfold wE at h; unfold ev
      refine (ihit.2.2.2 ρ _ X h s).bnd fun xs s h => ?_
      rw [if_pos h.1]
      refine (wC.ok (X := X) (fun x P q s => ?_) h.2 s).bnd fun ys s h => h
      cases e : bindT tg x (wipeE ρ (tgSlots tg)) with
      | none => rw [e] at q; exact q.elim
      | some ρ1 =>
        rw [e] at q
        refine (ihc.1 ρ1 _ nox q s).bnd fun t s h => (bP.ok h).bnd fun k s h => ?_
        cases k with
        | true => exact (ihel.1 ρ1 _ nox h s).bnd fun y s h => h
        | false => exact h
    exact ⟨A, fun _ _ _ h => by simp [wA] at h, fun ρ P X h s => by unfold wO at h; unfold evO; exact (A ρ _ X h s).bnd fun x s h => endOk h, fun ρ P X h s => by unfold wI at h; unfold evI; exact (A ρ _ X h s).bnd fun x s h => oP.lift h⟩
  | drw i k =>
    have A : ∀ (ρ : Env) (P : D → Prop) (X : XP), wE cs (E.drw i k) ρ P X → ∀ s, OkE (ev C (E.drw i k) ρ s) P X := by
      intro ρ P X h s
      unfold wE at h; exact h.elim
    exact ⟨A, fun _ _ _ h => by simp [wA] at h, fun ρ P X h s => by unfold wO at h; unfold evO; exact (A ρ _ X h s).bnd fun x s h => endOk h, fun ρ P X h s => by unfold wI at h; unfold evI; exact (A ρ _ X h s).bnd fun x s h => oP.lift h⟩
  | ncel i =>
    have A : ∀ (ρ : Env) (P : D → Prop) (X : XP), wE cs (E.ncel i) ρ P X → ∀ s, OkE (ev C (E.ncel i) ρ s) P X := by
      intro ρ P X h s
      unfold wE at h; exact h.elim
    exact ⟨A, fun _ _ _ h => by simp [wA] at h, fun ρ P X h s => by unfold wO at h; unfold evO; exact (A ρ _ X h s).bnd fun x s h => endOk h, fun ρ P X h s => by unfold wI at h; unfold evI; exact (A ρ _ X h s).bnd fun x s h => oP.lift h⟩
  | cel i a iha =>
    have A : ∀ (ρ : Env) (P : D → Prop) (X : XP), wE cs (E.cel i a) ρ P X → ∀ s, OkE (ev C (E.cel i a) ρ s) P X := by
      intro ρ P X h s
      unfold wE at h; exact h.elim
    exact ⟨A, fun _ _ _ h => by simp [wA] at h, fun ρ P X h s => by unfold wO at h; unfold evO; exact (A ρ _ X h s).bnd fun x s h => endOk h, fun ρ P X h s => by unfold wI at h; unfold evI; exact (A ρ _ X h s).bnd fun x s h => oP.lift h⟩
  | nil =>
    have A : ∀ (ρ : Env) (P : D → Prop) (X : XP), wE cs (E.nil) ρ P X → ∀ s, OkE (ev C (E.nil) ρ s) P X := by
      intro ρ P X h s
      unfold wE at h; exact h.elim
    exact ⟨A, fun ρ P X h s => by unfold wA at h; unfold evA; exact h, fun ρ P X h s => by unfold wO at h; unfold evO; exact h, fun ρ P X h s => by unfold wI at h; unfold evI; exact (A ρ _ X h s).bnd fun x s h => oP.lift h⟩
  | cons a as iha ihas =>
    have A : ∀ (ρ : Env) (P : D → Prop) (X : XP), wE cs (E.cons a as) ρ P X → ∀ s, OkE (ev C (E.cons a as) ρ s) P X := by
      intro ρ P X h s
      unfold wE at h; exact h.elim
    refine ⟨A, fun ρ P X h s => ?_, fun ρ P X h s => by unfold wO at h; unfold evO; exact (A ρ _ X h s).bnd fun x s h => endOk h, fun ρ P X h s => by unfold wI at h; unfold evI; exact (A ρ _ X h s).bnd fun x s h => oP.lift h⟩
    unfold wA at h; unfold evA
    exact (iha.1 ρ _ X h s).bnd fun x s h => (ihas.2.1 ρ _ X h s).bnd fun xs s h => h
  | rng as ihas =>
    have A : ∀ (ρ : Env) (P : D → Prop) (X : XP), wE cs (E.rng as) ρ P X → ∀ s, OkE (ev C (E.rng as) ρ s) P X := by
      intro ρ P X h s
      unfold wE at h; exact h.elim
    exact ⟨A, fun _ _ _ h => by simp [wA] at h, fun ρ P X h s => by unfold wO at h; unfold evO; exact (A ρ _ X h s).bnd fun x s h => endOk h, fun ρ P X h s => by unfold wI at h; unfold evI; exact (ihas.2.1 ρ _ X h s).bnd fun xs s h => oP.lift h⟩
  | zip a b iha ihb =>
    have A : ∀ (ρ : Env) (P : D → Prop) (X : XP), wE cs (E.zip a b) ρ P X → ∀ s, OkE (ev C (E.zip a b) ρ s) P X := by
      intro ρ P X h s
      unfold wE at h; exact h.elim
    exact ⟨A, fun _ _ _ h => by simp [wA] at h, fun ρ P X h s => by unfold wO at h; unfold evO; exact (A ρ _ X h s).bnd fun x s h => endOk h, fun ρ P X h s => by unfold wI at h; unfold evI; exact (iha.1 ρ _ X h s).bnd fun x s h => (ihb.1 ρ _ X h s).bnd fun y s h => oP.lift h⟩
  | enum a iha =>
    have A : ∀ (ρ : Env) (P : D → Prop) (X : XP), wE cs (E.enum a) ρ P X → ∀ s, OkE (ev C (E.enum a) ρ s) P X := by
      intro ρ P X h s
      unfold wE at h; exact h.elim
    exact ⟨A, fun _ _ _ h => by simp [wA] at h, fun ρ P X h s => by unfold wO at h; unfold evO; exact (A ρ _ X h s).bnd fun x s h => endOk h, fun ρ P X h s => by unfold wI at h; unfold evI; exact (iha.1 ρ _ X h s).bnd fun x s h => enumOk h⟩
end EV
end

section
set_option Elab.async false
set_option linter.all false
set_option autoImplicit false
/-! EvWs: .. of statements, of defs. -/
namespace EV
open PySem

def wL (f : D → Env → (Fl → Env → Prop) → Prop) : List D → Env → (Fl → Env → Prop) → Prop
  | [], ρ, Q => Q .next ρ
  | x :: xs, ρ, Q => f x ρ fun fl ρ => match fl with
    | .next => wL f xs ρ Q
    | .cnt => wL f xs ρ Q
    | .brk => Q .next ρ
    | .ret d => Q (.ret d) ρ
def wW (c : Env → (Bool → Prop) → Prop) (f : Env → (Fl → Env → Prop) → Prop) : Nat → Env → (Fl → Env → Prop) → Prop
  | 0, _, _ => False
  | n + 1, ρ, Q => c ρ fun k => if k = true then f ρ (fun fl ρ => match fl with
    | .next => wW c f n ρ Q
    | .cnt => wW c f n ρ Q
    | .brk => Q .next ρ
    | .ret d => Q (.ret d) ρ) else Q .next ρ
def seqK (Q : Fl → Env → Prop) (k : Env → Prop) : Fl → Env → Prop := fun fl ρ => match fl with
  | .next => k ρ
  | f => Q f ρ
@[simp] theorem seqK_next (Q : Fl → Env → Prop) (k : Env → Prop) (ρ : Env) : seqK Q k .next ρ = k ρ := rfl
@[simp] theorem seqK_ret (Q : Fl → Env → Prop) (k : Env → Prop) (ρ : Env) (d : D) : seqK Q k (.ret d) ρ = Q (.ret d) ρ := rfl
def strD : D → Option Str
  | .str x => some x
  | _ => none
def wS (cs : CS) (W : Nat) : S → Env → (Fl → Env → Prop) → XP → Prop
  | .nil, ρ, Q, _ => Q .next ρ
  | .seq a b, ρ, Q, X => wS cs W a ρ (seqK Q fun ρ => wS cs W b ρ Q X) X
  | .expr e, ρ, Q, X => wE cs e ρ (fun _ => Q .next ρ) X
  | .set i e, ρ, Q, X => wE cs e ρ (fun d => Q .next (ρ.set i (some d))) X
  | .par ts as, ρ, Q, X => wA cs as ρ (fun ds => oP (bindTs ts ds ρ) fun ρ => Q .next ρ) X
  | .unp ts e, ρ, Q, X => wE cs e ρ (fun d => oP (bindT (.tup ts) d ρ) fun ρ => Q .next ρ) X
  | .app i e, ρ, Q, X => oP (getL ρ i) fun xs => wE cs e ρ (fun y => xs.length < LIM ∧ Q .next (ρ.set i (some (.list (xs ++ [y]))))) X
  | .ite c a b, ρ, Q, X => wE cs c ρ (fun x => bP x fun k => if k = true then wS cs W a ρ Q X else wS cs W b ρ Q X) X
  | .forr tg it b, ρ, Q, X => wI cs it ρ (fun xs => wL (fun x ρ Q => oP (bindT tg x ρ) fun ρ => wS cs W b ρ Q X) xs ρ Q) X
  | .whl c b, ρ, Q, X => wW (fun ρ P => wE cs c ρ (fun x => bP x P) X) (fun ρ Q => wS cs W b ρ Q X) W ρ Q
  | .ret e, ρ, Q, X => wE cs e ρ (fun d => Q (.ret d) ρ) X
  | .retN, ρ, Q, _ => Q (.ret .none) ρ
  | .raiM _, _, _, X => X .mal
  | .raiR e, ρ, _, X => wE cs e ρ (fun d => oP (strD d) fun r => X (.refu r)) X
  | .aug i o e, ρ, Q, X => oP (ρ.getD i none) fun x => wE cs e ρ (fun y => oP (augD o x y) fun d => Q .next (ρ.set i (some d))) X
  | .augs i k o e, ρ, Q, X => oP (getL ρ i) fun xs => wE cs k ρ (fun kd => oP ((placeD xs.length kd).bind fun j => (xs[j]?).map fun x => (j, x)) fun jx => wE cs e ρ (fun y => oP (augD o jx.2 y) fun d => Q .next (ρ.set i (some (.list (xs.set jx.1 d))))) X) X
  | .seti i k e, ρ, Q, X => wE cs e ρ (fun y => oP (getL ρ i) fun xs => wE cs k ρ (fun kd => oP (placeD xs.length kd) fun j => Q .next (ρ.set i (some (.list (xs.set j y))))) X) X
  | .ins i k e, ρ, Q, X => oP (getL ρ i) fun xs => wE cs k ρ (fun kd => wE cs e ρ (fun y => oP (endD kd) fun j => (0 ≤ j ∧ j ≤ LIM ∧ xs.length < LIM) ∧ Q .next (ρ.set i (some (.list (xs.take j.toNat ++ [y] ++ xs.drop j.toNat))))) X) X
  | .popAt j i k, ρ, Q, X => oP (getL ρ i) fun xs => wE cs k ρ (fun kd => xs.length ≤ LIM ∧ oP ((placeD xs.length kd).bind fun p => (xs[p]?).map fun x => (p, x)) fun q => Q .next ((ρ.set i (some (.list (xs.eraseIdx q.1)))).set j (some q.2))) X
  | .appPop i j k, ρ, Q, X => oP (getL ρ i) fun ys => oP (getL ρ j) fun xs => wE cs k ρ (fun kd => (ys.length < LIM ∧ xs.length ≤ LIM) ∧ oP ((placeD xs.length kd).bind fun p => (xs[p]?).map fun x => (p, x)) fun q => Q .next ((ρ.set j (some (.list (xs.eraseIdx q.1)))).set i (some (.list (ys ++ [q.2]))))) X
  | .brk, ρ, Q, _ => Q .brk ρ
  | .cnt, ρ, Q, _ => Q .cnt ρ
  | .pas, ρ, Q, _ => Q .next ρ
  | .tryW f a, ρ, Q, X => wE cs a ρ (fun d => cs f [d] (fun _ => Q (.ret (.str "none")) ρ) (fun x => match x with
    | .mal => Q (.ret (.str "malformed")) ρ
    | .refu _ => False)) X
  | .tryR f a, ρ, Q, X => wE cs a ρ (fun d => cs f [d] (fun _ => Q (.ret (.str "none")) ρ) (fun x => match x with
    | .mal => Q (.ret (.str "malformed")) ρ
    | .refu r => Q (.ret (.str r)) ρ)) X
  | _, _, _, _ => False
def OkS (r : RS) (Q : Fl → Env → Prop) (X : XP) : Prop := OkE r (fun q => Q q.1 q.2) X
theorem wL.ok {f : D → Env → (Fl → Env → Prop) → Prop} {F : D → Env → DS → RS} {X : XP} (h : ∀ x ρ Q, f x ρ Q → ∀ s, OkS (F x ρ s) Q X) : ∀ {xs : List D} {ρ : Env} {Q : Fl → Env → Prop}, wL f xs ρ Q → ∀ s, OkS (forL F xs ρ s) Q X
  | [], ρ, Q, q, s => q
  | x :: xs, ρ, Q, q, s => by
    unfold forL
    refine OkE.bnd (h x ρ _ q s) fun a s1 q1 => ?_
    obtain ⟨fl, ρ1⟩ := a
    cases fl with
    | next => exact wL.ok h q1 s1
    | cnt => exact wL.ok h q1 s1
    | brk => exact q1
    | ret d => exact q1
theorem wW.ok {c : Env → (Bool → Prop) → Prop} {f : Env → (Fl → Env → Prop) → Prop} {Cf : Env → DS → R Bool} {F : Env → DS → RS} {X : XP} (hc : ∀ ρ P, c ρ P → ∀ s, OkE (Cf ρ s) P X) (h : ∀ ρ Q, f ρ Q → ∀ s, OkS (F ρ s) Q X) :
    ∀ {n : Nat} {ρ : Env} {Q : Fl → Env → Prop}, wW c f n ρ Q → ∀ s, OkS (whileL Cf F n ρ s) Q X
  | 0, ρ, Q, q, s => q.elim
  | n + 1, ρ, Q, q, s => by
    unfold whileL
    refine OkE.bnd (hc ρ _ q s) fun k s1 q1 => ?_
    cases k with
    | false => exact q1
    | true =>
      refine OkE.bnd (h ρ _ q1 s1) fun a s2 q2 => ?_
      obtain ⟨fl, ρ1⟩ := a
      cases fl with
      | next => exact wW.ok hc h q2 s2
      | cnt => exact wW.ok hc h q2 s2
      | brk => exact q2
      | ret d => exact q2
theorem s_ok {cs : CS} {C : CallF} {W : Nat} (hs : Snd cs C) (st : S) : ∀ (ρ : Env) (Q : Fl → Env → Prop) (X : XP), wS cs W st ρ Q X → ∀ s, OkS (evS C W st ρ s) Q X := by
  induction st with
  | nil => intro ρ Q X h s; unfold wS at h; unfold evS; exact h
  | seq a b iha ihb =>
    intro ρ Q X h s; unfold wS at h; unfold evS
    refine OkE.bnd (iha ρ _ X h s) fun q s1 q1 => ?_
    obtain ⟨fl, ρ1⟩ := q
    cases fl with
    | next => exact ihb ρ1 Q X q1 s1
    | brk => exact q1
    | cnt => exact q1
    | ret d => exact q1
  | expr e => intro ρ Q X h s; unfold wS at h; unfold evS; exact ((w_ok hs e).1 ρ _ X h s).bnd fun _ s h => h
  | set i e => intro ρ Q X h s; unfold wS at h; unfold evS; exact ((w_ok hs e).1 ρ _ X h s).bnd fun _ s h => h
  | par ts as => intro ρ Q X h s; unfold wS at h; unfold evS nextR; exact ((w_ok hs as).2.1 ρ _ X h s).bnd fun _ s h => (oP.lift h).bnd fun _ s h => h
  | unp ts e => intro ρ Q X h s; unfold wS at h; unfold evS nextR; exact ((w_ok hs e).1 ρ _ X h s).bnd fun _ s h => (oP.lift h).bnd fun _ s h => h
  | app i e =>
    intro ρ Q X h s; unfold wS at h; unfold evS
    exact (oP.lift h).bnd fun xs s h => ((w_ok hs e).1 ρ _ X h s).bnd fun y s h => by rw [if_pos h.1]; exact h.2
  | ite c a b iha ihb =>
    intro ρ Q X h s; unfold wS at h; unfold evS
    refine ((w_ok hs c).1 ρ _ X h s).bnd fun x s h => (bP.ok h).bnd fun k s h => ?_
    cases k with
    | true => exact iha ρ Q X h s
    | false => exact ihb ρ Q X h s
  | forr tg it b ih =>
    intro ρ Q X h s; unfold wS at h; unfold evS
    exact ((w_ok hs it).2.2.2 ρ _ X h s).bnd fun xs s h => wL.ok (f := fun x ρ Q => oP (bindT tg x ρ) fun ρ => wS cs W b ρ Q X) (F := fun x ρ s => (R.lift (bindT tg x ρ) s).bnd fun ρ s => evS C W b ρ s) (fun x ρ Q q s => OkE.bnd (oP.lift q) fun ρ s q => ih ρ Q X q s) h s
  | whl c b ih =>
    intro ρ Q X h s; unfold wS at h; unfold evS
    exact wW.ok (c := fun ρ P => wE cs c ρ (fun x => bP x P) X) (f := fun ρ Q => wS cs W b ρ Q X) (fun ρ P q s => OkE.bnd ((w_ok hs c).1 ρ _ X q s) fun x s q => bP.ok q) (fun ρ Q q s => ih ρ Q X q s) h s
  | ret e => intro ρ Q X h s; unfold wS at h; unfold evS; exact ((w_ok hs e).1 ρ _ X h s).bnd fun _ s h => h
  | retN => intro ρ Q X h s; unfold wS at h; unfold evS; exact h
  | raiM m => intro ρ Q X h s; unfold wS at h; unfold evS; exact h
  | raiR e =>
    intro ρ Q X h s; unfold wS at h; unfold evS
    refine ((w_ok hs e).1 ρ _ X h s).bnd fun d s h => ?_
    cases d <;> first | exact h | exact h.elim
  | aug i o e =>
    intro ρ Q X h s; unfold wS at h; unfold evS nextR
    refine (oP.lift h).bnd fun x s h => ((w_ok hs e).1 ρ _ X h s).bnd fun y s h => ?_
    cases q : augD o x y with
    | none => rw [q] at h; exact h.elim
    | some d => rw [q] at h; exact h
  | augs i k o e =>
    intro ρ Q X h s; unfold wS at h; unfold evS nextR
    refine (oP.lift h).bnd fun xs s h => ((w_ok hs k).1 ρ _ X h s).bnd fun kd s h => (oP.lift h).bnd fun jx s h => ((w_ok hs e).1 ρ _ X h s).bnd fun y s h => ?_
    cases q : augD o jx.2 y with
    | none => rw [q] at h; exact h.elim
    | some d => rw [q] at h; exact h
  | seti i k e =>
    intro ρ Q X h s; unfold wS at h; unfold evS nextR
    refine ((w_ok hs e).1 ρ _ X h s).bnd fun y s h => (oP.lift h).bnd fun xs s h => ((w_ok hs k).1 ρ _ X h s).bnd fun kd s h => ?_
    cases q : placeD xs.length kd with
    | none => rw [q] at h; exact h.elim
    | some j => rw [q] at h; exact h
  | ins i k e =>
    intro ρ Q X h s; unfold wS at h; unfold evS
    refine (oP.lift h).bnd fun xs s h => ((w_ok hs k).1 ρ _ X h s).bnd fun kd s h => ((w_ok hs e).1 ρ _ X h s).bnd fun y s h => ?_
    cases kd with
    | int j =>
      have h : (0 ≤ j ∧ j ≤ LIM ∧ xs.length < LIM) ∧ _ := h
      simp only
      rw [if_pos h.1]
      exact h.2
    | _ => exact h.elim
  | popAt j i k =>
    intro ρ Q X h s; unfold wS at h; unfold evS nextR
    refine (oP.lift h).bnd fun xs s h => ((w_ok hs k).1 ρ _ X h s).bnd fun kd s h => ?_
    rw [if_pos h.1]
    have h := h.2
    cases q : placeD xs.length kd with
    | none => rw [q] at h; exact h.elim
    | some p =>
      rw [q] at h
      simp only [Option.bind_some] at h ⊢
      cases q2 : xs[p]? with
      | none => rw [q2] at h; exact h.elim
      | some x => rw [q2] at h; exact h
  | appPop i j k =>
    intro ρ Q X h s; unfold wS at h; unfold evS nextR
    refine (oP.lift h).bnd fun ys s h => (oP.lift h).bnd fun xs s h => ((w_ok hs k).1 ρ _ X h s).bnd fun kd s h => ?_
    rw [if_pos h.1]
    have h := h.2
    cases q : placeD xs.length kd with
    | none => rw [q] at h; exact h.elim
    | some p =>
      rw [q] at h
      simp only [Option.bind_some] at h ⊢
      cases q2 : xs[p]? with
      | none => rw [q2] at h; exact h.elim
      | some x => rw [q2] at h; exact h
  | brk => intro ρ Q X h s; unfold wS at h; unfold evS; exact h
  | cnt => intro ρ Q X h s; unfold wS at h; unfold evS; exact h
  | pas => intro ρ Q X h s; unfold wS at h; unfold evS; exact h
  | tryW f a =>
    intro ρ Q X h s; unfold wS at h; unfold evS
    refine ((w_ok hs a).1 ρ _ X h s).bnd fun d s h => ?_
    have h2 := hs f [d] _ _ h s
    cases r : C f [d] s with
    | ok v s1 => rw [r] at h2; exact h2
    | err xn s1 =>
      rw [r] at h2
      cases xn with
      | mal => exact h2
      | refu _ => exact h2.elim
    | stuck => rw [r] at h2; exact h2.elim
  | tryR f a =>
    intro ρ Q X h s; unfold wS at h; unfold evS
    refine ((w_ok hs a).1 ρ _ X h s).bnd fun d s h => ?_
    have h2 := hs f [d] _ _ h s
    cases r : C f [d] s with
    | ok v s1 => rw [r] at h2; exact h2
    | err xn s1 =>
      rw [r] at h2
      cases xn with
      | mal => exact h2
      | refu _ => exact h2
    | stuck => rw [r] at h2; exact h2.elim
  | _ => intro ρ Q X h s; unfold wS at h; exact h.elim

/-! ### defs -/
section
variable {T : Tab} {W : Nat}
def Run (T : Tab) (W n : Nat) : CS := fun f xs P X => ∀ s, OkE (run T W n f xs s) P X
theorem run_snd (n : Nat) : Snd (Run T W n) (run T W n) := fun f xs P X h s => h s
theorem Run.imp {n f : Nat} {xs : List D} {P P' : D → Prop} {X X' : XP} (h : Run T W n f xs P X) (k : ∀ d, P d → P' d) (k2 : ∀ x, X x → X' x) : Run T W n f xs P' X' := fun s => (h s).imp k k2
/-- how a def's body ends -/
def fnK (fr : Bool) (P : D → Prop) : Fl → Env → Prop := fun fl _ => match fl with
  | .ret d => (!fr || isLst d) = true ∧ P d
  | .next => (!fr) = true ∧ P .none
  | _ => False
@[simp] theorem fnK_ret (fr : Bool) (P : D → Prop) (d : D) (ρ : Env) : fnK fr P (.ret d) ρ = ((!fr || isLst d) = true ∧ P d) := rfl
@[simp] theorem fnK_next (fr : Bool) (P : D → Prop) (ρ : Env) : fnK fr P .next ρ = ((!fr) = true ∧ P .none) := rfl
theorem run_of {n f : Nat} {fi : FnI} {xs : List D} {P : D → Prop} {X : XP} (ef : T[f]? = some fi) (hl : xs.length = fi.ps.length) (h : wS (Run T W n) W fi.body (xs.map some ++ List.replicate (fi.N.length - xs.length) none) (fnK fi.fresh P) X) : Run T W (n + 1) f xs P X := by
  intro s
  unfold run
  rw [ef]
  dsimp only
  rw [if_pos hl]
  refine OkE.bnd (s_ok (run_snd n) fi.body _ _ X h s) fun q s1 q1 => ?_
  obtain ⟨fl, ρ⟩ := q
  cases fl with
  | next => have q1 : (!fi.fresh) = true ∧ P .none := q1; dsimp only; rw [if_pos q1.1]; exact q1.2
  | brk => exact q1.elim
  | cnt => exact q1.elim
  | ret d => have q1 : (!fi.fresh || isLst d) = true ∧ P d := q1; dsimp only; rw [if_pos q1.1]; exact q1.2
/-- a def that always gives v -/
theorem Run.val {n f : Nat} {xs : List D} {v : D} (h : Run T W n f xs (· = v) nox) (P : D → Prop) (X : XP) : Run T W n f xs P X ↔ P v := by
  constructor
  · intro q
    have h1 := h ⟨[], 0, 0, 0⟩
    have h2 := q ⟨[], 0, 0, 0⟩
    cases r : run T W n f xs ⟨[], 0, 0, 0⟩ with
    | ok d s => rw [r] at h1 h2; cases h1; exact h2
    | err xn s => rw [r] at h1; exact h1.elim
    | stuck => rw [r] at h1; exact h1.elim
  · intro q
    exact h.imp (fun d e => by rw [e]; exact q) fun _ z => z.elim
end
/-! ### comprehensions of a known turn -/
theorem wC_eq {f : D → (Option D → Prop) → Prop} {g : D → Option D} : ∀ {xs : List D}, (∀ x ∈ xs, ∀ P, f x P ↔ P (g x)) → ∀ P, wC f xs P ↔ P (xs.filterMap g)
  | [], _, P => Iff.rfl
  | x :: xs, h, P => by
    unfold wC
    rw [h x List.mem_cons_self, wC_eq fun y hy => h y (List.mem_cons_of_mem _ hy)]
    rw [List.filterMap_cons]
    cases g x <;> rfl
end EV
end

section
set_option Elab.async false
set_option linter.all false
set_option autoImplicit false
set_option maxRecDepth 100000
set_option maxHeartbeats 0
namespace EV.Law
open PySem PySem.Spec PyProof.Rows L2 EV
def top (i : Nat) : Stmt := PySem.Challenge.pw_widelyheard_k80_whole_promises_of_wishes.main.body.getD i (.Pass ⟨0, 0, 0, 0⟩)
def fis_whole : Nat := 0
def fis_order : Nat := 1
def fis_profile : Nat := 2
def fcheck_profile : Nat := 3
def fis_seated : Nat := 4
def fcheck_seated : Nat := 5
def fsolid_voters : Nat := 6
def fsolid : Nat := 7
def fis_part : Nat := 8
def fis_due : Nat := 9
def ffails_solid : Nat := 10
def fplace_of : Nat := 11
def frising_voters : Nat := 12
def ffails_local : Nat := 13
def fall_wish_parts : Nat := 14
def fcheck_wish_word : Nat := 15
def ffound_wish_objection : Nat := 16
def fwish_objection : Nat := 17
def fwish_notions : Nat := 18
def ftakes_wish_objection : Nat := 19
def fquota_of : Nat := 20
def fwished_committees : Nat := 21
def f_law_take : Nat := 22
def f_law_whole : Nat := 23
def f_law_profile : Nat := 24
def f_law_parts : Nat := 25
def f_law_committee : Nat := 26
def f_law_words : Nat := 27
def f_law_solid : Nat := 28
def f_law_worth : Nat := 29
def f_law_preferring : Nat := 30
def f_law_objects : Nat := 31
def f_law_keeps : Nat := 32
def f_law_is_profile : Nat := 33
def f_law_is_seated : Nat := 34
def f_law_bent : Nat := 35
def f_law_call : Nat := 36
def f_law_word : Nat := 37
def c_MOST_ORDERS : D := (.int 30)
def c_MOST_WISHED : D := (.int 8)
def c_WISH_WORDS : D := (.tuple [(.str "droop"), (.str "hare"), (.str "weakdroop"), (.str "weakhare"), (.str "local"), (.str "localhare"), (.str "firstdroop"), (.str "first")])
def b_is_whole : S := (.seq (.ret (.and_ (.isi (.var 0) .int) (.not_ (.isi (.var 0) .bool))))
  .nil)
def b_is_order : S := (.seq (.ite (.or_ (.not_ (.isi (.var 0) .tuple)) (.or_ (.not_ (.chn .le .le (.con (.int 1)) (.bi .len (.cons (.var 0) .nil)) (.var 1))) (.not_ (.bi .all (.cons (.comp (.call fis_whole (.cons (.var 2) .nil)) (.nm 2) (.var 0) (.con (.bool true))) .nil))))) (.seq (.ret (.con (.bool false)))
  .nil) .nil)
  (.seq (.ret (.and_ (.bi .all (.cons (.comp (.chn .le .lt (.con (.int 0)) (.var 2) (.var 1)) (.nm 2) (.var 0) (.con (.bool true))) .nil)) (.cmp .eq (.lens (.var 0)) (.bi .len (.cons (.var 0) .nil)))))
  .nil))
def b_is_profile : S := (.seq (.ite (.or_ (.not_ (.isi (.var 0) .tuple)) (.or_ (.cmp .ne (.bi .len (.cons (.var 0) .nil)) (.con (.int 3))) (.or_ (.not_ (.call fis_whole (.cons (.ix (.var 0) (.con (.int 0))) .nil))) (.not_ (.call fis_whole (.cons (.ix (.var 0) (.con (.int 2))) .nil)))))) (.seq (.ret (.con (.bool false)))
  .nil) .nil)
  (.seq (.ite (.or_ (.not_ (.chn .le .le (.con (.int 1)) (.ix (.var 0) (.con (.int 0))) (.glo "MOST_WISHED" c_MOST_WISHED))) (.not_ (.chn .le .le (.con (.int 1)) (.ix (.var 0) (.con (.int 2))) (.ix (.var 0) (.con (.int 0)))))) (.seq (.ret (.con (.bool false)))
  .nil) .nil)
  (.seq (.ite (.or_ (.not_ (.isi (.ix (.var 0) (.con (.int 1))) .tuple)) (.not_ (.chn .le .le (.con (.int 1)) (.bi .len (.cons (.ix (.var 0) (.con (.int 1))) .nil)) (.glo "MOST_ORDERS" c_MOST_ORDERS)))) (.seq (.ret (.con (.bool false)))
  .nil) .nil)
  (.seq (.ret (.bi .all (.cons (.comp (.call fis_order (.cons (.var 1) (.cons (.ix (.var 0) (.con (.int 0))) .nil))) (.nm 1) (.ix (.var 0) (.con (.int 1))) (.con (.bool true))) .nil)))
  .nil))))
def b_check_profile : S := (.seq (.ite (.not_ (.call fis_profile (.cons (.var 0) .nil))) (.seq (.raiM "no profile")
  .nil) .nil)
  .nil)
def b_is_seated : S := (.seq (.ite (.or_ (.not_ (.isi (.var 1) .tuple)) (.or_ (.cmp .ne (.bi .len (.cons (.var 1) .nil)) (.ix (.var 0) (.con (.int 2)))) (.not_ (.bi .all (.cons (.comp (.call fis_whole (.cons (.var 2) .nil)) (.nm 2) (.var 1) (.con (.bool true))) .nil))))) (.seq (.ret (.con (.bool false)))
  .nil) .nil)
  (.seq (.ret (.and_ (.bi .all (.cons (.comp (.chn .le .lt (.con (.int 0)) (.var 2) (.ix (.var 0) (.con (.int 0)))) (.nm 2) (.var 1) (.con (.bool true))) .nil)) (.bi .all (.cons (.comp (.cmp .lt (.ix (.var 1) (.bin .sub (.var 3) (.con (.int 1)))) (.ix (.var 1) (.var 3))) (.nm 3) (.rng (.cons (.con (.int 1)) (.cons (.bi .len (.cons (.var 1) .nil)) .nil))) (.con (.bool true))) .nil))))
  .nil))
def b_check_seated : S := (.seq (.expr (.call fcheck_profile (.cons (.var 0) .nil)))
  (.seq (.ite (.not_ (.call fis_seated (.cons (.var 0) (.cons (.var 1) .nil)))) (.seq (.raiM "no committee")
  .nil) .nil)
  .nil))
def b_solid_voters : S := (.seq (.ret (.bi .len (.cons (.comp (.var 2) (.nm 2) (.ix (.var 0) (.con (.int 1))) (.and_ (.eqs (.sl (.var 2) .nil (.bi .len (.cons (.var 1) .nil))) (.var 1)) (.cmp .ge (.bi .len (.cons (.var 2) .nil)) (.bi .len (.cons (.var 1) .nil))))) .nil)))
  .nil)
def b_solid : S := (.seq (.expr (.call fcheck_profile (.cons (.var 0) .nil)))
  (.seq (.ite (.not_ (.call fis_part (.cons (.var 0) (.cons (.var 1) .nil)))) (.seq (.raiM "no candidates")
  .nil) .nil)
  (.seq (.ret (.call fsolid_voters (.cons (.var 0) (.cons (.var 1) .nil))))
  .nil)))
def b_is_part : S := (.seq (.ite (.or_ (.not_ (.isi (.var 1) .tuple)) (.or_ (.cmp .eq (.bi .len (.cons (.var 1) .nil)) (.con (.int 0))) (.not_ (.bi .all (.cons (.comp (.call fis_whole (.cons (.var 2) .nil)) (.nm 2) (.var 1) (.con (.bool true))) .nil))))) (.seq (.ret (.con (.bool false)))
  .nil) .nil)
  (.seq (.ret (.and_ (.cmp .le (.con (.int 0)) (.ix (.var 1) (.con (.int 0)))) (.and_ (.cmp .lt (.ix (.var 1) (.neg (.con (.int 1)))) (.ix (.var 0) (.con (.int 0)))) (.bi .all (.cons (.comp (.cmp .lt (.ix (.var 1) (.bin .sub (.var 3) (.con (.int 1)))) (.ix (.var 1) (.var 3))) (.nm 3) (.rng (.cons (.con (.int 1)) (.cons (.bi .len (.cons (.var 1) .nil)) .nil))) (.con (.bool true))) .nil)))))
  .nil))
def b_is_due : S := (.seq (.ite (.var 3) (.seq (.ret (.cmp .gt (.bin .mul (.var 1) (.bin .add (.ix (.var 0) (.con (.int 2))) (.con (.int 1)))) (.bin .mul (.var 2) (.bi .len (.cons (.ix (.var 0) (.con (.int 1))) .nil)))))
  .nil) .nil)
  (.seq (.ret (.cmp .ge (.bin .mul (.var 1) (.ix (.var 0) (.con (.int 2)))) (.bin .mul (.var 2) (.bi .len (.cons (.ix (.var 0) (.con (.int 1))) .nil)))))
  .nil))
def b_fails_solid : S := (.seq (.set 5 (.cmp .in_ (.var 2) (.tup (.cons (.con (.str "droop")) (.cons (.con (.str "weakdroop")) (.cons (.con (.str "firstdroop")) .nil))))))
  (.seq (.ite (.and_ (.mt .startswith (.var 2) (.cons (.con (.str "weak")) .nil)) (.cmp .gt (.bi .len (.cons (.var 3) .nil)) (.var 4))) (.seq (.ret (.con (.bool false)))
  .nil) .nil)
  (.seq (.ite (.and_ (.mt .startswith (.var 2) (.cons (.con (.str "first")) .nil)) (.or_ (.cmp .ne (.bi .len (.cons (.var 3) .nil)) (.con (.int 1))) (.cmp .ne (.var 4) (.con (.int 1))))) (.seq (.ret (.con (.bool false)))
  .nil) .nil)
  (.seq (.set 6 (.call fsolid_voters (.cons (.var 0) (.cons (.var 3) .nil))))
  (.seq (.set 7 (.bi .len (.cons (.comp (.var 8) (.nm 8) (.var 1) (.cmp .in_ (.var 8) (.var 3))) .nil)))
  (.seq (.ret (.and_ (.cmp .gt (.var 6) (.con (.int 0))) (.and_ (.call fis_due (.cons (.var 0) (.cons (.var 6) (.cons (.var 4) (.cons (.var 5) .nil))))) (.cmp .lt (.var 7) (.bi .min (.cons (.var 4) (.cons (.bi .len (.cons (.var 3) .nil)) .nil)))))))
  .nil))))))
def b_place_of : S := (.seq (.ret (.ife (.cmp .in_ (.var 1) (.var 0)) (.mt .indexI (.var 0) (.cons (.var 1) .nil)) (.bin .add (.bi .len (.cons (.var 0) .nil)) (.con (.int 100)))))
  .nil)
def l_rising_voters_1 : S := (.seq (.set 5 (.call fplace_of (.cons (.var 4) (.cons (.var 2) .nil))))
  (.seq (.ite (.and_ (.cmp .in_ (.var 2) (.var 4)) (.bi .all (.cons (.comp (.cmp .lt (.var 5) (.call fplace_of (.cons (.var 4) (.cons (.var 6) .nil)))) (.nm 6) (.var 1) (.con (.bool true))) .nil))) (.seq (.aug 3 .add (.con (.int 1)))
  .nil) .nil)
  .nil))
def b_rising_voters : S := (.seq (.set 3 (.con (.int 0)))
  (.seq (.forr (.nm 4) (.ix (.var 0) (.con (.int 1))) l_rising_voters_1)
  (.seq (.ret (.var 3))
  .nil)))
def b_fails_local : S := (.seq (.set 4 (.call frising_voters (.cons (.var 0) (.cons (.var 1) (.cons (.var 3) .nil)))))
  (.seq (.ret (.and_ (.cmp .nin (.var 3) (.var 1)) (.and_ (.cmp .gt (.var 4) (.con (.int 0))) (.call fis_due (.cons (.var 0) (.cons (.var 4) (.cons (.con (.int 1)) (.cons (.cmp .eq (.var 2) (.con (.str "local"))) .nil))))))))
  .nil))
def l_all_wish_parts_1 : S := (.seq (.set 1 (.bin .add (.var 1) (.comp (.bin .add (.var 3) (.tup (.cons (.var 2) .nil))) (.nm 3) (.var 1) (.con (.bool true)))))
  .nil)
def b_all_wish_parts : S := (.seq (.set 1 (.lst (.cons (.tup .nil) .nil)))
  (.seq (.forr (.nm 2) (.rng (.cons (.var 0) .nil)) l_all_wish_parts_1)
  (.seq (.ret (.bi .sorted (.cons (.sl (.var 1) (.con (.int 1)) .nil) .nil)))
  .nil)))
def b_check_wish_word : S := (.seq (.ite (.or_ (.not_ (.isi (.var 0) .str)) (.cmp .nin (.var 0) (.glo "WISH_WORDS" c_WISH_WORDS))) (.seq (.raiM "no word of wishes")
  .nil) .nil)
  .nil)
def l_found_wish_objection_1 : S := (.seq (.ite (.call ffails_solid (.cons (.var 0) (.cons (.var 1) (.cons (.var 2) (.cons (.var 4) (.cons (.var 5) .nil)))))) (.seq (.ret (.tup (.cons (.var 2) (.cons (.var 4) (.cons (.var 5) .nil)))))
  .nil) .nil)
  .nil)
def l_found_wish_objection_2 : S := (.seq (.forr (.nm 5) (.rng (.cons (.con (.int 1)) (.cons (.bin .add (.ix (.var 0) (.con (.int 2))) (.con (.int 1))) .nil))) l_found_wish_objection_1)
  .nil)
def l_found_wish_objection_3 : S := (.seq (.ite (.call ffails_local (.cons (.var 0) (.cons (.var 1) (.cons (.var 2) (.cons (.var 3) .nil))))) (.seq (.ret (.tup (.cons (.var 2) (.cons (.var 3) .nil))))
  .nil) .nil)
  .nil)
def b_found_wish_objection : S := (.seq (.ite (.mt .startswith (.var 2) (.cons (.con (.str "local")) .nil)) (.seq (.forr (.nm 3) (.rng (.cons (.ix (.var 0) (.con (.int 0))) .nil)) l_found_wish_objection_3)
  (.seq (.ret (.con .none))
  .nil)) .nil)
  (.seq (.forr (.nm 4) (.call fall_wish_parts (.cons (.ix (.var 0) (.con (.int 0))) .nil)) l_found_wish_objection_2)
  (.seq (.ret (.con .none))
  .nil)))
def b_wish_objection : S := (.seq (.expr (.call fcheck_seated (.cons (.var 0) (.cons (.var 1) .nil))))
  (.seq (.expr (.call fcheck_wish_word (.cons (.var 2) .nil)))
  (.seq (.ret (.call ffound_wish_objection (.cons (.var 0) (.cons (.var 1) (.cons (.var 2) .nil)))))
  .nil)))
def b_wish_notions : S := (.seq (.expr (.call fcheck_seated (.cons (.var 0) (.cons (.var 1) .nil))))
  (.seq (.ret (.bi .tuple (.cons (.comp (.var 2) (.nm 2) (.glo "WISH_WORDS" c_WISH_WORDS) (.cmp .is_ (.call ffound_wish_objection (.cons (.var 0) (.cons (.var 1) (.cons (.var 2) .nil)))) (.con .none))) .nil)))
  .nil))
def b_takes_wish_objection : S := (.seq (.expr (.call fcheck_seated (.cons (.var 0) (.cons (.var 1) .nil))))
  (.seq (.ite (.or_ (.not_ (.isi (.var 2) .tuple)) (.or_ (.cmp .lt (.bi .len (.cons (.var 2) .nil)) (.con (.int 2))) (.or_ (.not_ (.isi (.ix (.var 2) (.con (.int 0))) .str)) (.cmp .nin (.ix (.var 2) (.con (.int 0))) (.glo "WISH_WORDS" c_WISH_WORDS))))) (.seq (.ret (.con (.bool false)))
  .nil) .nil)
  (.seq (.set 3 (.ix (.var 2) (.con (.int 0))))
  (.seq (.ite (.mt .startswith (.var 3) (.cons (.con (.str "local")) .nil)) (.seq (.ite (.or_ (.cmp .ne (.bi .len (.cons (.var 2) .nil)) (.con (.int 2))) (.or_ (.not_ (.call fis_whole (.cons (.ix (.var 2) (.con (.int 1))) .nil))) (.not_ (.chn .le .lt (.con (.int 0)) (.ix (.var 2) (.con (.int 1))) (.ix (.var 0) (.con (.int 0))))))) (.seq (.ret (.con (.bool false)))
  .nil) .nil)
  (.seq (.ret (.call ffails_local (.cons (.var 0) (.cons (.var 1) (.cons (.var 3) (.cons (.ix (.var 2) (.con (.int 1))) .nil))))))
  .nil)) .nil)
  (.seq (.ite (.or_ (.cmp .ne (.bi .len (.cons (.var 2) .nil)) (.con (.int 3))) (.or_ (.not_ (.call fis_part (.cons (.var 0) (.cons (.ix (.var 2) (.con (.int 1))) .nil)))) (.not_ (.call fis_whole (.cons (.ix (.var 2) (.con (.int 2))) .nil))))) (.seq (.ret (.con (.bool false)))
  .nil) .nil)
  (.seq (.ret (.and_ (.chn .le .le (.con (.int 1)) (.ix (.var 2) (.con (.int 2))) (.ix (.var 0) (.con (.int 2)))) (.call ffails_solid (.cons (.var 0) (.cons (.var 1) (.cons (.var 3) (.cons (.ix (.var 2) (.con (.int 1))) (.cons (.ix (.var 2) (.con (.int 2))) .nil))))))))
  .nil))))))
def b_quota_of : S := (.seq (.expr (.call fcheck_profile (.cons (.var 0) .nil)))
  (.seq (.ret (.bin .add (.bin .fdiv (.bi .len (.cons (.ix (.var 0) (.con (.int 1))) .nil)) (.bin .add (.ix (.var 0) (.con (.int 2))) (.con (.int 1)))) (.con (.int 1))))
  .nil))
def b_wished_committees : S := (.seq (.expr (.call fcheck_profile (.cons (.var 0) .nil)))
  (.seq (.expr (.call fcheck_wish_word (.cons (.var 1) .nil)))
  (.seq (.ite (.cmp .gt (.ix (.var 0) (.con (.int 0))) (.con (.int 6))) (.seq (.raiR (.con (.str "large")))
  .nil) .nil)
  (.seq (.set 2 (.comp (.var 3) (.nm 3) (.call fall_wish_parts (.cons (.ix (.var 0) (.con (.int 0))) .nil)) (.cmp .eq (.bi .len (.cons (.var 3) .nil)) (.ix (.var 0) (.con (.int 2))))))
  (.seq (.ret (.bi .tuple (.cons (.comp (.var 3) (.nm 3) (.var 2) (.cmp .is_ (.call ffound_wish_objection (.cons (.var 0) (.cons (.var 3) (.cons (.var 1) .nil)))) (.con .none))) .nil)))
  .nil)))))
def b__law_take : S := (.seq (.ite (.cmp .eq (.drw 0 2) (.con (.int 0))) (.seq (.sdrw 0 1 (.bin .add (.drw 0 1) (.con (.int 1))))
  (.seq (.ite (.cmp .lt (.drw 0 1) (.ncel 0)) (.seq (.sdrw 0 2 (.cel 0 (.drw 0 1)))
  .nil) .nil)
  (.seq (.ite (.cmp .eq (.drw 0 2) (.con (.int 0))) (.seq (.sdrw 0 3 (.bin .mod (.bi .int (.cons (.bin .add (.bin .mul (.drw 0 3) (.con (.int 48271))) (.con (.int 11))) .nil)) (.con (.int 2147483647))))
  (.seq (.sdrw 0 2 (.drw 0 3))
  .nil)) .nil)
  .nil))) .nil)
  (.seq (.set 2 (.bin .mod (.bi .int (.cons (.drw 0 2) .nil)) (.var 1)))
  (.seq (.sdrw 0 2 (.bin .fdiv (.drw 0 2) (.var 1)))
  (.seq (.ret (.var 2))
  .nil))))
def b__law_whole : S := (.seq (.ret (.and_ (.isi (.var 0) .int) (.and_ (.not_ (.isi (.var 0) .bool)) (.chn .le .le (.var 1) (.var 0) (.var 2)))))
  .nil)
def l__law_profile_1 : S := (.seq (.popAt 5 8 (.call f_law_take (.cons (.var 0) (.cons (.bi .len (.cons (.var 8) .nil)) .nil))))
  (.seq (.ins 8 (.call f_law_take (.cons (.var 0) (.cons (.bin .add (.bi .len (.cons (.var 8) .nil)) (.con (.int 1))) .nil))) (.var 5))
  .nil))
def l__law_profile_2 : S := (.seq (.set 8 (.bi .list (.cons (.var 4) .nil)))
  (.seq (.forr (.nm 9) (.rng (.cons (.call f_law_take (.cons (.var 0) (.cons (.con (.int 3)) .nil))) .nil)) l__law_profile_1)
  (.seq (.ite (.cmp .eq (.call f_law_take (.cons (.var 0) (.cons (.con (.int 4)) .nil))) (.con (.int 0))) (.seq (.set 8 (.comp (.ix (.var 8) (.var 10)) (.nm 10) (.rng (.cons (.bi .len (.cons (.var 8) .nil)) .nil)) (.or_ (.cmp .lt (.bin .add (.var 10) (.con (.int 1))) (.bi .len (.cons (.var 8) .nil))) (.cmp .eq (.var 10) (.con (.int 0))))))
  .nil) .nil)
  (.seq (.app 6 (.bi .tuple (.cons (.sl (.var 8) .nil (.bi .max (.cons (.con (.int 1)) (.cons (.bin .sub (.bi .len (.cons (.var 8) .nil)) (.ix (.lst (.cons (.con (.int 0)) (.cons (.con (.int 0)) (.cons (.con (.int 1)) (.cons (.con (.int 3)) .nil))))) (.call f_law_take (.cons (.var 0) (.cons (.con (.int 4)) .nil))))) .nil)))) .nil)))
  .nil))))
def l__law_profile_3 : S := (.seq (.ins 4 (.call f_law_take (.cons (.var 0) (.cons (.bin .add (.bi .len (.cons (.var 4) .nil)) (.con (.int 1))) .nil))) (.var 5))
  .nil)
def b__law_profile : S := (.seq (.set 3 (.bin .add (.con (.int 1)) (.call f_law_take (.cons (.var 0) (.cons (.var 1) .nil)))))
  (.seq (.set 4 (.lst .nil))
  (.seq (.forr (.nm 5) (.rng (.cons (.var 3) .nil)) l__law_profile_3)
  (.seq (.set 6 (.lst .nil))
  (.seq (.forr (.nm 7) (.rng (.cons (.bin .add (.con (.int 1)) (.call f_law_take (.cons (.var 0) (.cons (.var 2) .nil)))) .nil)) l__law_profile_2)
  (.seq (.ret (.tup (.cons (.var 3) (.cons (.bi .tuple (.cons (.var 6) .nil)) (.cons (.bin .add (.con (.int 1)) (.call f_law_take (.cons (.var 0) (.cons (.var 3) .nil)))) .nil)))))
  .nil))))))
def l__law_parts_1 : S := (.seq (.set 1 (.bin .add (.var 1) (.comp (.bin .add (.var 3) (.tup (.cons (.var 2) .nil))) (.nm 3) (.var 1) (.con (.bool true)))))
  .nil)
def b__law_parts : S := (.seq (.set 1 (.lst (.cons (.tup .nil) .nil)))
  (.seq (.forr (.nm 2) (.rng (.cons (.var 0) .nil)) l__law_parts_1)
  (.seq (.ret (.bi .sorted (.cons (.sl (.var 1) (.con (.int 1)) .nil) .nil)))
  .nil)))
def l__law_committee_1 : S := (.seq (.ins 2 (.call f_law_take (.cons (.var 0) (.cons (.bin .add (.bi .len (.cons (.var 2) .nil)) (.con (.int 1))) .nil))) (.var 3))
  .nil)
def b__law_committee : S := (.seq (.set 2 (.lst .nil))
  (.seq (.forr (.nm 3) (.rng (.cons (.ix (.var 1) (.con (.int 0))) .nil)) l__law_committee_1)
  (.seq (.ret (.bi .tuple (.cons (.bi .sorted (.cons (.sl (.var 2) .nil (.ix (.var 1) (.con (.int 2)))) .nil)) .nil)))
  .nil)))
def b__law_words : S := (.seq (.ret (.lst (.cons (.con (.str "droop")) (.cons (.con (.str "hare")) (.cons (.con (.str "weakdroop")) (.cons (.con (.str "weakhare")) (.cons (.con (.str "local")) (.cons (.con (.str "localhare")) (.cons (.con (.str "firstdroop")) (.cons (.con (.str "first")) .nil))))))))))
  .nil)
def b__law_solid : S := (.seq (.ret (.bi .len (.cons (.comp (.var 2) (.nm 2) (.ix (.var 0) (.con (.int 1))) (.cmp .eq (.bi .tuple (.cons (.bi .sorted (.cons (.sl (.var 2) .nil (.bi .len (.cons (.var 1) .nil))) .nil)) .nil)) (.var 1))) .nil)))
  .nil)
def b__law_worth : S := (.seq (.ite (.var 3) (.seq (.ret (.cmp .gt (.bin .mul (.var 1) (.bin .add (.ix (.var 0) (.con (.int 2))) (.con (.int 1)))) (.bin .mul (.var 2) (.bi .len (.cons (.ix (.var 0) (.con (.int 1))) .nil)))))
  .nil) .nil)
  (.seq (.ret (.cmp .ge (.bin .mul (.var 1) (.ix (.var 0) (.con (.int 2)))) (.bin .mul (.var 2) (.bi .len (.cons (.ix (.var 0) (.con (.int 1))) .nil)))))
  .nil))
def l__law_preferring_1 : S := (.seq (.ite (.cmp .in_ (.var 2) (.var 4)) (.seq (.set 5 (.sl (.var 4) .nil (.mt .indexI (.var 4) (.cons (.var 2) .nil))))
  (.seq (.set 3 (.bin .add (.var 3) (.bi .int (.cons (.cmp .eq (.comp (.var 6) (.nm 6) (.var 5) (.cmp .in_ (.var 6) (.var 1))) (.lst .nil)) .nil))))
  .nil)) .nil)
  .nil)
def b__law_preferring : S := (.seq (.set 3 (.con (.int 0)))
  (.seq (.forr (.nm 4) (.ix (.var 0) (.con (.int 1))) l__law_preferring_1)
  (.seq (.ret (.var 3))
  .nil)))
def b__law_objects : S := (.seq (.ite (.or_ (.not_ (.isi (.var 2) .tuple)) (.or_ (.cmp .lt (.bi .len (.cons (.var 2) .nil)) (.con (.int 2))) (.or_ (.not_ (.isi (.ix (.var 2) (.con (.int 0))) .str)) (.cmp .nin (.ix (.var 2) (.con (.int 0))) (.call f_law_words .nil))))) (.seq (.ret (.con (.bool false)))
  .nil) .nil)
  (.seq (.par (.tcons (.nm 3) (.tcons (.nm 4) (.tcons (.nm 5) .tnil))) (.cons (.ix (.var 2) (.con (.int 0))) (.cons (.ix (.var 0) (.con (.int 0))) (.cons (.ix (.var 0) (.con (.int 2))) .nil))))
  (.seq (.ite (.cmp .in_ (.var 3) (.lst (.cons (.con (.str "local")) (.cons (.con (.str "localhare")) .nil)))) (.seq (.ite (.or_ (.cmp .ne (.bi .len (.cons (.var 2) .nil)) (.con (.int 2))) (.or_ (.not_ (.call f_law_whole (.cons (.ix (.var 2) (.con (.int 1))) (.cons (.con (.int 0)) (.cons (.bin .sub (.var 4) (.con (.int 1))) .nil))))) (.cmp .in_ (.ix (.var 2) (.con (.int 1))) (.var 1)))) (.seq (.ret (.con (.bool false)))
  .nil) .nil)
  (.seq (.set 6 (.call f_law_preferring (.cons (.var 0) (.cons (.var 1) (.cons (.ix (.var 2) (.con (.int 1))) .nil)))))
  (.seq (.ret (.and_ (.cmp .gt (.var 6) (.con (.int 0))) (.call f_law_worth (.cons (.var 0) (.cons (.var 6) (.cons (.con (.int 1)) (.cons (.cmp .eq (.var 3) (.con (.str "local"))) .nil)))))))
  .nil))) .nil)
  (.seq (.ite (.or_ (.cmp .ne (.bi .len (.cons (.var 2) .nil)) (.con (.int 3))) (.or_ (.not_ (.isi (.ix (.var 2) (.con (.int 1))) .tuple)) (.or_ (.cmp .nin (.ix (.var 2) (.con (.int 1))) (.call f_law_parts (.cons (.var 4) .nil))) (.not_ (.call f_law_whole (.cons (.ix (.var 2) (.con (.int 2))) (.cons (.con (.int 1)) (.cons (.var 5) .nil)))))))) (.seq (.ret (.con (.bool false)))
  .nil) .nil)
  (.seq (.ite (.cmp .ne (.comp (.var 7) (.nm 7) (.ix (.var 2) (.con (.int 1))) (.isi (.var 7) .bool)) (.lst .nil)) (.seq (.ret (.con (.bool false)))
  .nil) .nil)
  (.seq (.par (.tcons (.nm 8) (.tcons (.nm 9) .tnil)) (.cons (.ix (.var 2) (.con (.int 1))) (.cons (.ix (.var 2) (.con (.int 2))) .nil)))
  (.seq (.ite (.or_ (.and_ (.cmp .in_ (.var 3) (.lst (.cons (.con (.str "weakdroop")) (.cons (.con (.str "weakhare")) .nil)))) (.cmp .gt (.bi .len (.cons (.var 8) .nil)) (.var 9))) (.and_ (.cmp .in_ (.var 3) (.lst (.cons (.con (.str "firstdroop")) (.cons (.con (.str "first")) .nil)))) (.or_ (.cmp .ne (.bi .len (.cons (.var 8) .nil)) (.con (.int 1))) (.cmp .ne (.var 9) (.con (.int 1)))))) (.seq (.ret (.con (.bool false)))
  .nil) .nil)
  (.seq (.set 6 (.call f_law_solid (.cons (.var 0) (.cons (.var 8) .nil))))
  (.seq (.ite (.or_ (.cmp .eq (.var 6) (.con (.int 0))) (.not_ (.call f_law_worth (.cons (.var 0) (.cons (.var 6) (.cons (.var 9) (.cons (.cmp .in_ (.var 3) (.lst (.cons (.con (.str "droop")) (.cons (.con (.str "weakdroop")) (.cons (.con (.str "firstdroop")) .nil))))) .nil))))))) (.seq (.ret (.con (.bool false)))
  .nil) .nil)
  (.seq (.ret (.cmp .lt (.bi .len (.cons (.comp (.var 7) (.nm 7) (.var 8) (.cmp .in_ (.var 7) (.var 1))) .nil)) (.bi .min (.cons (.var 9) (.cons (.bi .len (.cons (.var 8) .nil)) .nil)))))
  .nil))))))))))
def l__law_keeps_1 : S := (.seq (.ite (.cmp .ne (.comp (.var 5) (.nm 5) (.rng (.cons (.con (.int 1)) (.cons (.bin .add (.ix (.var 0) (.con (.int 2))) (.con (.int 1))) .nil))) (.call f_law_objects (.cons (.var 0) (.cons (.var 1) (.cons (.tup (.cons (.var 2) (.cons (.var 4) (.cons (.var 5) .nil)))) .nil))))) (.lst .nil)) (.seq (.ret (.con (.bool false)))
  .nil) .nil)
  .nil)
def b__law_keeps : S := (.seq (.ite (.cmp .in_ (.var 2) (.lst (.cons (.con (.str "local")) (.cons (.con (.str "localhare")) .nil)))) (.seq (.ret (.cmp .eq (.comp (.var 3) (.nm 3) (.rng (.cons (.ix (.var 0) (.con (.int 0))) .nil)) (.call f_law_objects (.cons (.var 0) (.cons (.var 1) (.cons (.tup (.cons (.var 2) (.cons (.var 3) .nil))) .nil))))) (.lst .nil)))
  .nil) .nil)
  (.seq (.forr (.nm 4) (.call f_law_parts (.cons (.ix (.var 0) (.con (.int 0))) .nil)) l__law_keeps_1)
  (.seq (.ret (.con (.bool true)))
  .nil)))
def l__law_is_profile_1 : S := (.seq (.ite (.or_ (.not_ (.isi (.var 1) .tuple)) (.or_ (.cmp .eq (.var 1) (.tup .nil)) (.cmp .ne (.comp (.var 2) (.nm 2) (.var 1) (.not_ (.call f_law_whole (.cons (.var 2) (.cons (.con (.int 0)) (.cons (.bin .sub (.ix (.var 0) (.con (.int 0))) (.con (.int 1))) .nil)))))) (.lst .nil)))) (.seq (.ret (.con (.bool false)))
  .nil) .nil)
  (.seq (.ite (.cmp .ne (.lens (.var 1)) (.bi .len (.cons (.var 1) .nil))) (.seq (.ret (.con (.bool false)))
  .nil) .nil)
  .nil))
def b__law_is_profile : S := (.seq (.ite (.or_ (.not_ (.isi (.var 0) .tuple)) (.or_ (.cmp .ne (.bi .len (.cons (.var 0) .nil)) (.con (.int 3))) (.or_ (.not_ (.call f_law_whole (.cons (.ix (.var 0) (.con (.int 0))) (.cons (.con (.int 1)) (.cons (.con (.int 8)) .nil))))) (.not_ (.call f_law_whole (.cons (.ix (.var 0) (.con (.int 2))) (.cons (.con (.int 1)) (.cons (.ix (.var 0) (.con (.int 0))) .nil)))))))) (.seq (.ret (.con (.bool false)))
  .nil) .nil)
  (.seq (.ite (.or_ (.not_ (.isi (.ix (.var 0) (.con (.int 1))) .tuple)) (.not_ (.chn .le .le (.con (.int 1)) (.bi .len (.cons (.ix (.var 0) (.con (.int 1))) .nil)) (.con (.int 30))))) (.seq (.ret (.con (.bool false)))
  .nil) .nil)
  (.seq (.forr (.nm 1) (.ix (.var 0) (.con (.int 1))) l__law_is_profile_1)
  (.seq (.ret (.con (.bool true)))
  .nil))))
def b__law_is_seated : S := (.seq (.ite (.or_ (.not_ (.isi (.var 1) .tuple)) (.or_ (.cmp .ne (.bi .len (.cons (.var 1) .nil)) (.ix (.var 0) (.con (.int 2)))) (.cmp .ne (.comp (.var 2) (.nm 2) (.var 1) (.not_ (.call f_law_whole (.cons (.var 2) (.cons (.con (.int 0)) (.cons (.bin .sub (.ix (.var 0) (.con (.int 0))) (.con (.int 1))) .nil)))))) (.lst .nil)))) (.seq (.ret (.con (.bool false)))
  .nil) .nil)
  (.seq (.ret (.cmp .eq (.comp (.var 3) (.nm 3) (.rng (.cons (.con (.int 1)) (.cons (.bi .len (.cons (.var 1) .nil)) .nil))) (.cmp .ge (.ix (.var 1) (.bin .sub (.var 3) (.con (.int 1)))) (.ix (.var 1) (.var 3)))) (.lst .nil)))
  .nil))
def b__law_bent : S := (.seq (.ite (.and_ (.isi (.var 1) .tuple) (.and_ (.cmp .gt (.bi .len (.cons (.var 1) .nil)) (.con (.int 0))) (.cmp .gt (.call f_law_take (.cons (.var 0) (.cons (.con (.int 7)) .nil))) (.con (.int 0))))) (.seq (.set 2 (.call f_law_take (.cons (.var 0) (.cons (.bi .len (.cons (.var 1) .nil)) .nil))))
  (.seq (.ret (.bin .add (.bin .add (.sl (.var 1) .nil (.var 2)) (.tup (.cons (.call f_law_bent (.cons (.var 0) (.cons (.ix (.var 1) (.var 2)) .nil))) .nil))) (.sl (.var 1) (.bin .add (.var 2) (.con (.int 1))) .nil)))
  .nil)) .nil)
  (.seq (.ite (.isi (.var 1) .tuple) (.seq (.ret (.ix (.lst (.cons (.bi .list (.cons (.var 1) .nil)) (.cons (.sl (.var 1) .nil (.neg (.con (.int 1)))) (.cons (.bin .add (.var 1) (.sl (.var 1) .nil (.con (.int 1)))) (.cons (.con .none) (.cons (.tup .nil) (.cons (.bin .add (.var 1) (.tup (.cons (.con (.int 0)) .nil))) .nil))))))) (.call f_law_take (.cons (.var 0) (.cons (.con (.int 6)) .nil)))))
  .nil) .nil)
  (.seq (.ite (.isi (.var 1) .str) (.seq (.ret (.ix (.lst (.cons (.con (.str "jr")) (.cons (.con (.str "weakejr")) (.cons (.con (.str "chain")) (.cons (.con (.str "droop")) (.cons (.con (.str "local")) (.cons (.con (.str "")) (.cons (.con .none) .nil)))))))) (.call f_law_take (.cons (.var 0) (.cons (.con (.int 7)) .nil)))))
  .nil) .nil)
  (.seq (.ite (.isi (.var 1) .int) (.seq (.ret (.ix (.lst (.cons (.bin .add (.var 1) (.con (.int 1))) (.cons (.bin .sub (.var 1) (.con (.int 1))) (.cons (.con (.int 0)) (.cons (.con (.int 1)) (.cons (.con (.int 2)) (.cons (.con (.bool true)) (.cons (.con .none) (.cons (.tup (.cons (.var 1) (.cons (.con (.int 1)) .nil))) .nil))))))))) (.call f_law_take (.cons (.var 0) (.cons (.con (.int 8)) .nil)))))
  .nil) .nil)
  (.seq (.ret (.con .none))
  .nil)))))
def b__law_call : S := (.seq (.unp (.tcons (.nm 1) (.tcons (.nm 2) (.tcons (.nm 3) (.tcons (.nm 4) .tnil)))) (.var 0))
  (.seq (.ite (.cmp .eq (.var 1) (.con (.int 0))) (.seq (.expr (.call fwish_objection (.cons (.var 2) (.cons (.var 3) (.cons (.var 4) .nil)))))
  .nil) (.seq (.ite (.cmp .eq (.var 1) (.con (.int 1))) (.seq (.expr (.call fwish_notions (.cons (.var 2) (.cons (.var 3) .nil))))
  .nil) (.seq (.ite (.cmp .eq (.var 1) (.con (.int 2))) (.seq (.expr (.call ftakes_wish_objection (.cons (.var 2) (.cons (.var 3) (.cons (.con .none) .nil)))))
  .nil) (.seq (.ite (.cmp .eq (.var 1) (.con (.int 3))) (.seq (.expr (.call fwished_committees (.cons (.var 2) (.cons (.var 4) .nil))))
  .nil) (.seq (.ite (.cmp .eq (.var 1) (.con (.int 4))) (.seq (.expr (.call fsolid (.cons (.var 2) (.cons (.var 3) .nil))))
  .nil) (.seq (.expr (.call fquota_of (.cons (.var 2) .nil)))
  .nil))
  .nil))
  .nil))
  .nil))
  .nil))
  .nil))
def b__law_word : S := (.tryR f_law_call (.var 0))
def l_law_1 : S := (.seq (.set 21 (.call f_law_bent (.cons (.var 1) (.cons (.var 2) .nil))))
  (.seq (.set 16 (.call fis_profile (.cons (.var 21) .nil)))
  (.seq (.ite (.or_ (.not_ (.isi (.var 16) .bool)) (.cmp .ne (.var 16) (.call f_law_is_profile (.cons (.var 21) .nil)))) (.seq (.ret (.con (.bool false)))
  .nil) .nil)
  (.seq (.ite (.and_ (.not_ (.var 16)) (.cmp .ne (.comp (.var 22) (.nm 22) (.rng (.cons (.con (.int 6)) .nil)) (.cmp .ne (.call f_law_word (.cons (.tup (.cons (.var 22) (.cons (.var 21) (.cons (.ife (.cmp .lt (.var 22) (.con (.int 3))) (.var 6) (.tup (.cons (.con (.int 0)) .nil))) (.cons (.var 10) .nil))))) .nil)) (.con (.str "malformed")))) (.lst .nil))) (.seq (.ret (.con (.bool false)))
  .nil) .nil)
  .nil))))
def l_law_2 : S := (.seq (.set 16 (.call ftakes_wish_objection (.cons (.var 2) (.cons (.var 6) (.cons (.var 15) .nil)))))
  (.seq (.ite (.or_ (.not_ (.isi (.var 16) .bool)) (.cmp .ne (.var 16) (.call f_law_objects (.cons (.var 2) (.cons (.var 6) (.cons (.var 15) .nil)))))) (.seq (.ret (.con (.bool false)))
  .nil) .nil)
  .nil))
def l_law_3 : S := (.seq (.set 11 (.call fwish_objection (.cons (.var 2) (.cons (.var 6) (.cons (.var 10) .nil)))))
  (.seq (.set 12 (.call f_law_keeps (.cons (.var 2) (.cons (.var 6) (.cons (.var 10) .nil)))))
  (.seq (.ite (.or_ (.cmp .ne (.cmp .is_ (.var 11) (.con .none)) (.var 12)) (.and_ (.cmp .isnt (.var 11) (.con .none)) (.or_ (.not_ (.call f_law_objects (.cons (.var 2) (.cons (.var 6) (.cons (.var 11) .nil))))) (.cmp .ne (.ix (.var 11) (.con (.int 0))) (.var 10))))) (.seq (.ret (.con (.bool false)))
  .nil) .nil)
  (.seq (.set 8 (.bin .add (.var 8) (.bin .mul (.lst (.cons (.var 10) .nil)) (.bi .int (.cons (.var 12) .nil)))))
  (.seq (.set 13 (.bin .add (.con (.int 1)) (.call f_law_take (.cons (.var 1) (.cons (.var 5) .nil)))))
  (.seq (.set 14 (.ife (.cmp .isnt (.var 11) (.con .none)) (.var 11) (.tup (.cons (.var 10) (.cons (.var 7) (.cons (.var 13) .nil))))))
  (.seq (.set 9 (.bin .add (.var 9) (.lst (.cons (.var 14) (.cons (.tup (.cons (.var 10) (.cons (.var 7) (.cons (.var 13) .nil)))) (.cons (.tup (.cons (.var 10) (.cons (.call f_law_take (.cons (.var 1) (.cons (.var 3) .nil))) .nil))) (.cons (.tup (.cons (.var 10) (.cons (.var 7) (.cons (.con (.int 0)) .nil)))) (.cons (.tup (.cons (.var 10) (.cons (.var 7) (.cons (.bin .add (.var 5) (.con (.int 1))) .nil)))) (.cons (.tup (.cons (.var 10) (.cons (.var 3) .nil))) (.cons (.call f_law_bent (.cons (.var 1) (.cons (.var 14) .nil))) .nil))))))))))
  .nil)))))))
def b_law : S := (.seq (.set 2 (.call f_law_profile (.cons (.var 1) (.cons (.con (.int 5)) (.cons (.con (.int 7)) .nil)))))
  (.seq (.unp (.tcons (.nm 3) (.tcons (.nm 4) (.tcons (.nm 5) .tnil))) (.var 2))
  (.seq (.set 6 (.call f_law_committee (.cons (.var 1) (.cons (.var 2) .nil))))
  (.seq (.ite (.or_ (.cmp .isnt (.call fis_profile (.cons (.var 2) .nil)) (.con (.bool true))) (.cmp .ne (.call fquota_of (.cons (.var 2) .nil)) (.bin .add (.bin .fdiv (.bi .len (.cons (.var 4) .nil)) (.bin .add (.var 5) (.con (.int 1)))) (.con (.int 1))))) (.seq (.ret (.con (.bool false)))
  .nil) .nil)
  (.seq (.set 7 (.ix (.call f_law_parts (.cons (.var 3) .nil)) (.call f_law_take (.cons (.var 1) (.cons (.bi .len (.cons (.call f_law_parts (.cons (.var 3) .nil)) .nil)) .nil)))))
  (.seq (.ite (.cmp .ne (.call fsolid (.cons (.var 2) (.cons (.var 7) .nil))) (.call f_law_solid (.cons (.var 2) (.cons (.var 7) .nil)))) (.seq (.ret (.con (.bool false)))
  .nil) .nil)
  (.seq (.par (.tcons (.nm 8) (.tcons (.nm 9) .tnil)) (.cons (.lst .nil) (.cons (.lst (.cons (.con .none) (.cons (.tup .nil) (.cons (.con (.str "droop")) (.cons (.tup (.cons (.con (.str "droop")) .nil)) (.cons (.tup (.cons (.con (.str "droop")) (.cons (.var 7) .nil))) (.cons (.tup (.cons (.con (.str "local")) (.cons (.var 7) .nil))) (.cons (.tup (.cons (.con (.str "none")) (.cons (.var 7) (.cons (.con (.int 1)) .nil)))) (.cons (.lst (.cons (.con (.str "droop")) (.cons (.var 7) (.cons (.con (.int 1)) .nil)))) (.cons (.tup (.cons (.var 7) (.cons (.con (.str "droop")) (.cons (.con (.int 1)) .nil)))) .nil)))))))))) .nil)))
  (.seq (.forr (.nm 10) (.call f_law_words .nil) l_law_3)
  (.seq (.ite (.cmp .ne (.call fwish_notions (.cons (.var 2) (.cons (.var 6) .nil))) (.bi .tuple (.cons (.var 8) .nil))) (.seq (.ret (.con (.bool false)))
  .nil) .nil)
  (.seq (.forr (.nm 15) (.var 9) l_law_2)
  (.seq (.set 10 (.ix (.call f_law_words .nil) (.call f_law_take (.cons (.var 1) (.cons (.con (.int 8)) .nil)))))
  (.seq (.set 17 (.comp (.var 18) (.nm 18) (.call f_law_parts (.cons (.var 3) .nil)) (.cmp .eq (.bi .len (.cons (.var 18) .nil)) (.var 5))))
  (.seq (.ite (.cmp .ne (.call fwished_committees (.cons (.var 2) (.cons (.var 10) .nil))) (.bi .tuple (.cons (.comp (.var 18) (.nm 18) (.var 17) (.call f_law_keeps (.cons (.var 2) (.cons (.var 18) (.cons (.var 10) .nil))))) .nil))) (.seq (.ret (.con (.bool false)))
  .nil) .nil)
  (.seq (.set 19 (.tup (.cons (.bin .add (.con (.int 7)) (.call f_law_take (.cons (.var 1) (.cons (.con (.int 2)) .nil)))) (.cons (.var 4) (.cons (.var 5) .nil)))))
  (.seq (.ite (.cmp .ne (.call f_law_word (.cons (.tup (.cons (.con (.int 3)) (.cons (.var 19) (.cons (.con (.int 0)) (.cons (.var 10) .nil))))) .nil)) (.con (.str "large"))) (.seq (.ret (.con (.bool false)))
  .nil) .nil)
  (.seq (.forr (.nm 20) (.rng (.cons (.con (.int 5)) .nil)) l_law_1)
  (.seq (.set 23 (.call f_law_bent (.cons (.var 1) (.cons (.var 6) .nil))))
  (.seq (.ite (.and_ (.not_ (.call f_law_is_seated (.cons (.var 2) (.cons (.var 23) .nil)))) (.cmp .ne (.comp (.var 22) (.nm 22) (.rng (.cons (.con (.int 3)) .nil)) (.cmp .ne (.call f_law_word (.cons (.tup (.cons (.var 22) (.cons (.var 2) (.cons (.var 23) (.cons (.var 10) .nil))))) .nil)) (.con (.str "malformed")))) (.lst .nil))) (.seq (.ret (.con (.bool false)))
  .nil) .nil)
  (.seq (.set 24 (.ix (.lst (.cons (.con .none) (.cons (.con (.str "")) (.cons (.con (.str "Droop")) (.cons (.con (.str "strong")) (.cons (.con (.int 0)) (.cons (.tup (.cons (.con (.str "hare")) .nil)) .nil))))))) (.call f_law_take (.cons (.var 1) (.cons (.con (.int 6)) .nil)))))
  (.seq (.set 25 (.lst (.cons (.tup (.cons (.con (.int 0)) (.cons (.var 2) (.cons (.var 6) (.cons (.var 24) .nil))))) (.cons (.tup (.cons (.con (.int 3)) (.cons (.var 2) (.cons (.con (.int 0)) (.cons (.var 24) .nil))))) .nil))))
  (.seq (.set 25 (.bin .add (.var 25) (.lst (.cons (.tup (.cons (.con (.int 4)) (.cons (.var 2) (.cons (.ix (.lst (.cons (.con .none) (.cons (.tup .nil) (.cons (.tup (.cons (.var 3) .nil)) (.cons (.tup (.cons (.neg (.con (.int 1))) .nil)) (.cons (.tup (.cons (.con (.int 0)) (.cons (.con (.int 0)) .nil))) (.cons (.lst (.cons (.con (.int 0)) .nil)) (.cons (.tup (.cons (.con (.bool true)) .nil)) .nil)))))))) (.call f_law_take (.cons (.var 1) (.cons (.con (.int 7)) .nil)))) (.cons (.con (.int 0)) .nil))))) .nil))))
  (.seq (.ret (.cmp .eq (.comp (.var 26) (.nm 26) (.var 25) (.cmp .ne (.call f_law_word (.cons (.var 26) .nil)) (.con (.str "malformed")))) (.lst .nil)))
  .nil))))))))))))))))))))))
def i_is_whole : FnI := ⟨"is_whole", ["value"], ["value"], [], false, b_is_whole⟩
def i_is_order : FnI := ⟨"is_order", ["value", "many"], ["value", "many", "c"], [], false, b_is_order⟩
def i_is_profile : FnI := ⟨"is_profile", ["value"], ["value", "order"], [], false, b_is_profile⟩
def i_check_profile : FnI := ⟨"check_profile", ["value"], ["value"], [], false, b_check_profile⟩
def i_is_seated : FnI := ⟨"is_seated", ["profile", "value"], ["profile", "value", "c", "k"], [], false, b_is_seated⟩
def i_check_seated : FnI := ⟨"check_seated", ["profile", "value"], ["profile", "value"], [], false, b_check_seated⟩
def i_solid_voters : FnI := ⟨"solid_voters", ["profile", "part"], ["profile", "part", "order"], [], false, b_solid_voters⟩
def i_solid : FnI := ⟨"solid", ["profile", "part"], ["profile", "part"], [], false, b_solid⟩
def i_is_part : FnI := ⟨"is_part", ["profile", "value"], ["profile", "value", "c", "k"], [], false, b_is_part⟩
def i_is_due : FnI := ⟨"is_due", ["profile", "voters", "level", "droop"], ["profile", "voters", "level", "droop"], [], false, b_is_due⟩
def i_fails_solid : FnI := ⟨"fails_solid", ["profile", "committee", "word", "part", "level"], ["profile", "committee", "word", "part", "level", "droop", "voters", "own", "c"], [], false, b_fails_solid⟩
def i_place_of : FnI := ⟨"place_of", ["order", "candidate"], ["order", "candidate"], [], false, b_place_of⟩
def i_rising_voters : FnI := ⟨"rising_voters", ["profile", "committee", "candidate"], ["profile", "committee", "candidate", "found", "order", "mine", "member"], [], false, b_rising_voters⟩
def i_fails_local : FnI := ⟨"fails_local", ["profile", "committee", "word", "candidate"], ["profile", "committee", "word", "candidate", "voters"], [], false, b_fails_local⟩
def i_all_wish_parts : FnI := ⟨"all_wish_parts", ["many"], ["many", "found", "c", "part"], [], false, b_all_wish_parts⟩
def i_check_wish_word : FnI := ⟨"check_wish_word", ["word"], ["word"], [], false, b_check_wish_word⟩
def i_found_wish_objection : FnI := ⟨"found_wish_objection", ["profile", "committee", "word"], ["profile", "committee", "word", "candidate", "part", "level"], [], false, b_found_wish_objection⟩
def i_wish_objection : FnI := ⟨"wish_objection", ["profile", "committee", "word"], ["profile", "committee", "word"], [], false, b_wish_objection⟩
def i_wish_notions : FnI := ⟨"wish_notions", ["profile", "committee"], ["profile", "committee", "word"], [], false, b_wish_notions⟩
def i_takes_wish_objection : FnI := ⟨"takes_wish_objection", ["profile", "committee", "value"], ["profile", "committee", "value", "word"], [], false, b_takes_wish_objection⟩
def i_quota_of : FnI := ⟨"quota_of", ["profile"], ["profile"], [], false, b_quota_of⟩
def i_wished_committees : FnI := ⟨"wished_committees", ["profile", "word"], ["profile", "word", "found", "part"], [], false, b_wished_committees⟩
def i__law_take : FnI := ⟨"_law_take", ["draw", "many"], ["draw", "many", "found"], [], false, b__law_take⟩
def i__law_whole : FnI := ⟨"_law_whole", ["value", "low", "high"], ["value", "low", "high"], [], false, b__law_whole⟩
def i__law_profile : FnI := ⟨"_law_profile", ["draw", "many", "voters"], ["draw", "many", "voters", "m", "base", "c", "orders", "voter", "order", "turn", "k"], [4, 6, 8], false, b__law_profile⟩
def i__law_parts : FnI := ⟨"_law_parts", ["m"], ["m", "found", "k", "row"], [], false, b__law_parts⟩
def i__law_committee : FnI := ⟨"_law_committee", ["draw", "profile"], ["draw", "profile", "row", "c"], [2], false, b__law_committee⟩
def i__law_words : FnI := ⟨"_law_words", [], [], [], false, b__law_words⟩
def i__law_solid : FnI := ⟨"_law_solid", ["profile", "part"], ["profile", "part", "order"], [], false, b__law_solid⟩
def i__law_worth : FnI := ⟨"_law_worth", ["profile", "voters", "seats", "droop"], ["profile", "voters", "seats", "droop"], [], false, b__law_worth⟩
def i__law_preferring : FnI := ⟨"_law_preferring", ["profile", "committee", "candidate"], ["profile", "committee", "candidate", "found", "order", "ahead", "c"], [], false, b__law_preferring⟩
def i__law_objects : FnI := ⟨"_law_objects", ["profile", "committee", "value"], ["profile", "committee", "value", "word", "m", "k", "voters", "c", "part", "seats"], [], false, b__law_objects⟩
def i__law_keeps : FnI := ⟨"_law_keeps", ["profile", "committee", "word"], ["profile", "committee", "word", "c", "part", "seats"], [], false, b__law_keeps⟩
def i__law_is_profile : FnI := ⟨"_law_is_profile", ["value"], ["value", "order", "c"], [], false, b__law_is_profile⟩
def i__law_is_seated : FnI := ⟨"_law_is_seated", ["profile", "value"], ["profile", "value", "c", "k"], [], false, b__law_is_seated⟩
def i__law_bent : FnI := ⟨"_law_bent", ["draw", "data"], ["draw", "data", "k"], [], false, b__law_bent⟩
def i__law_call : FnI := ⟨"_law_call", ["call"], ["call", "which", "profile", "other", "word"], [], false, b__law_call⟩
def i__law_word : FnI := ⟨"_law_word", ["call"], ["call", "e"], [], false, b__law_word⟩
def i_law : FnI := ⟨"law", ["script"], ["script", "draw", "profile", "m", "orders", "k", "committee", "part", "kept", "values", "word", "told", "keeps", "seats", "base", "value", "said", "rows", "row", "wide", "turn", "other", "which", "odd", "strange", "calls", "call"], [], false, b_law⟩
def T : Tab := [i_is_whole, i_is_order, i_is_profile, i_check_profile, i_is_seated, i_check_seated, i_solid_voters, i_solid, i_is_part, i_is_due, i_fails_solid, i_place_of, i_rising_voters, i_fails_local, i_all_wish_parts, i_check_wish_word, i_found_wish_objection, i_wish_objection, i_wish_notions, i_takes_wish_objection] ++ [i_quota_of, i_wished_committees, i__law_take, i__law_whole, i__law_profile, i__law_parts, i__law_committee, i__law_words, i__law_solid, i__law_worth, i__law_preferring, i__law_objects, i__law_keeps, i__law_is_profile, i__law_is_seated, i__law_bent, i__law_call, i__law_word]
def cons : List (Str × D) := [("MOST_ORDERS", c_MOST_ORDERS), ("MOST_WISHED", c_MOST_WISHED), ("WISH_WORDS", c_WISH_WORDS)]
def g : Glb := ⟨T, cons, true⟩
theorem k_is_whole : chkSs g i_is_whole.N i_is_whole.own i_is_whole.fresh 60 (defScope (top 5)) (defBody (top 5)) i_is_whole.body = true := by kernel_rfl
theorem k_is_order : chkSs g i_is_order.N i_is_order.own i_is_order.fresh 60 (defScope (top 10)) (defBody (top 10)) i_is_order.body = true := by kernel_rfl
theorem k_is_profile : chkSs g i_is_profile.N i_is_profile.own i_is_profile.fresh 60 (defScope (top 11)) (defBody (top 11)) i_is_profile.body = true := by kernel_rfl
theorem k_check_profile : chkSs g i_check_profile.N i_check_profile.own i_check_profile.fresh 60 (defScope (top 12)) (defBody (top 12)) i_check_profile.body = true := by kernel_rfl
theorem k_is_seated : chkSs g i_is_seated.N i_is_seated.own i_is_seated.fresh 60 (defScope (top 13)) (defBody (top 13)) i_is_seated.body = true := by kernel_rfl
theorem k_check_seated : chkSs g i_check_seated.N i_check_seated.own i_check_seated.fresh 60 (defScope (top 14)) (defBody (top 14)) i_check_seated.body = true := by kernel_rfl
theorem k_solid_voters : chkSs g i_solid_voters.N i_solid_voters.own i_solid_voters.fresh 60 (defScope (top 15)) (defBody (top 15)) i_solid_voters.body = true := by kernel_rfl
theorem k_solid : chkSs g i_solid.N i_solid.own i_solid.fresh 60 (defScope (top 16)) (defBody (top 16)) i_solid.body = true := by kernel_rfl
theorem k_is_part : chkSs g i_is_part.N i_is_part.own i_is_part.fresh 60 (defScope (top 17)) (defBody (top 17)) i_is_part.body = true := by kernel_rfl
theorem k_is_due : chkSs g i_is_due.N i_is_due.own i_is_due.fresh 60 (defScope (top 18)) (defBody (top 18)) i_is_due.body = true := by kernel_rfl
theorem k_fails_solid : chkSs g i_fails_solid.N i_fails_solid.own i_fails_solid.fresh 60 (defScope (top 19)) (defBody (top 19)) i_fails_solid.body = true := by kernel_rfl
theorem k_place_of : chkSs g i_place_of.N i_place_of.own i_place_of.fresh 60 (defScope (top 20)) (defBody (top 20)) i_place_of.body = true := by kernel_rfl
theorem k_rising_voters : chkSs g i_rising_voters.N i_rising_voters.own i_rising_voters.fresh 60 (defScope (top 21)) (defBody (top 21)) i_rising_voters.body = true := by kernel_rfl
theorem k_fails_local : chkSs g i_fails_local.N i_fails_local.own i_fails_local.fresh 60 (defScope (top 22)) (defBody (top 22)) i_fails_local.body = true := by kernel_rfl
theorem k_all_wish_parts : chkSs g i_all_wish_parts.N i_all_wish_parts.own i_all_wish_parts.fresh 60 (defScope (top 23)) (defBody (top 23)) i_all_wish_parts.body = true := by kernel_rfl
theorem k_check_wish_word : chkSs g i_check_wish_word.N i_check_wish_word.own i_check_wish_word.fresh 60 (defScope (top 24)) (defBody (top 24)) i_check_wish_word.body = true := by kernel_rfl
theorem k_found_wish_objection : chkSs g i_found_wish_objection.N i_found_wish_objection.own i_found_wish_objection.fresh 60 (defScope (top 25)) (defBody (top 25)) i_found_wish_objection.body = true := by kernel_rfl
theorem k_wish_objection : chkSs g i_wish_objection.N i_wish_objection.own i_wish_objection.fresh 60 (defScope (top 26)) (defBody (top 26)) i_wish_objection.body = true := by kernel_rfl
theorem k_wish_notions : chkSs g i_wish_notions.N i_wish_notions.own i_wish_notions.fresh 60 (defScope (top 27)) (defBody (top 27)) i_wish_notions.body = true := by kernel_rfl
theorem k_takes_wish_objection : chkSs g i_takes_wish_objection.N i_takes_wish_objection.own i_takes_wish_objection.fresh 60 (defScope (top 28)) (defBody (top 28)) i_takes_wish_objection.body = true := by kernel_rfl
theorem k_quota_of : chkSs g i_quota_of.N i_quota_of.own i_quota_of.fresh 60 (defScope (top 29)) (defBody (top 29)) i_quota_of.body = true := by kernel_rfl
theorem k_wished_committees : chkSs g i_wished_committees.N i_wished_committees.own i_wished_committees.fresh 60 (defScope (top 30)) (defBody (top 30)) i_wished_committees.body = true := by kernel_rfl
theorem k__law_take : chkSs g i__law_take.N i__law_take.own i__law_take.fresh 60 (defScope (top 33)) (defBody (top 33)) i__law_take.body = true := by kernel_rfl
theorem k__law_whole : chkSs g i__law_whole.N i__law_whole.own i__law_whole.fresh 60 (defScope (top 34)) (defBody (top 34)) i__law_whole.body = true := by kernel_rfl
theorem k__law_profile : chkSs g i__law_profile.N i__law_profile.own i__law_profile.fresh 60 (defScope (top 35)) (defBody (top 35)) i__law_profile.body = true := by kernel_rfl
theorem k__law_parts : chkSs g i__law_parts.N i__law_parts.own i__law_parts.fresh 60 (defScope (top 36)) (defBody (top 36)) i__law_parts.body = true := by kernel_rfl
theorem k__law_committee : chkSs g i__law_committee.N i__law_committee.own i__law_committee.fresh 60 (defScope (top 37)) (defBody (top 37)) i__law_committee.body = true := by kernel_rfl
theorem k__law_words : chkSs g i__law_words.N i__law_words.own i__law_words.fresh 60 (defScope (top 38)) (defBody (top 38)) i__law_words.body = true := by kernel_rfl
theorem k__law_solid : chkSs g i__law_solid.N i__law_solid.own i__law_solid.fresh 60 (defScope (top 39)) (defBody (top 39)) i__law_solid.body = true := by kernel_rfl
theorem k__law_worth : chkSs g i__law_worth.N i__law_worth.own i__law_worth.fresh 60 (defScope (top 40)) (defBody (top 40)) i__law_worth.body = true := by kernel_rfl
theorem k__law_preferring : chkSs g i__law_preferring.N i__law_preferring.own i__law_preferring.fresh 60 (defScope (top 41)) (defBody (top 41)) i__law_preferring.body = true := by kernel_rfl
theorem k__law_objects : chkSs g i__law_objects.N i__law_objects.own i__law_objects.fresh 60 (defScope (top 42)) (defBody (top 42)) i__law_objects.body = true := by kernel_rfl
theorem k__law_keeps : chkSs g i__law_keeps.N i__law_keeps.own i__law_keeps.fresh 60 (defScope (top 43)) (defBody (top 43)) i__law_keeps.body = true := by kernel_rfl
theorem k__law_is_profile : chkSs g i__law_is_profile.N i__law_is_profile.own i__law_is_profile.fresh 60 (defScope (top 44)) (defBody (top 44)) i__law_is_profile.body = true := by kernel_rfl
theorem k__law_is_seated : chkSs g i__law_is_seated.N i__law_is_seated.own i__law_is_seated.fresh 60 (defScope (top 45)) (defBody (top 45)) i__law_is_seated.body = true := by kernel_rfl
theorem k__law_bent : chkSs g i__law_bent.N i__law_bent.own i__law_bent.fresh 60 (defScope (top 46)) (defBody (top 46)) i__law_bent.body = true := by kernel_rfl
theorem k__law_call : chkSs g i__law_call.N i__law_call.own i__law_call.fresh 60 (defScope (top 47)) (defBody (top 47)) i__law_call.body = true := by kernel_rfl
end EV.Law
end

section
set_option Elab.async false
set_option linter.all false
set_option autoImplicit false
set_option maxRecDepth 100000
set_option maxHeartbeats 0
namespace EV.Law
open PySem PySem.Spec PyProof.Rows L2 EV
abbrev sD : Stmt := top 32
abbrev sL : Stmt := top 49
/-! the row of draws -/
theorem scD : FnScope ["script", "seed", "cell"] ["script"] (defScope sD) := ⟨by kernel_rfl, by kernel_rfl, by kernel_rfl, by decide +kernel, by kernel_rfl, by decide +kernel, by decide +kernel⟩
theorem ok_draw {P : Program} {w : World} {K : PySem.W.Frag} {mg : Str → Option Value} {base : Heap} {f : Addr} {fd : FuncData} {n : Nat} (F : FunD K "_law_draw" "_law_draw" (defArgs sD) (defBody sD) (defScope sD) [] [] f fd) (gI : mg "int" = none) (gA : mg "abs" = none) : FnOk P w K mg base (L2.CX P w) (n + 1) f fd ["script"] (spDraw K) := by
  refine F.ok scD (fun vs H Q E ⟨a, ns, e, _⟩ => by rw [e]; rfl) fun cdv A outer s H vs Q E hr h => ?_
  refine ⟨_, pss_cons (ps_set (i := 1) scD.nd rfl (Or.inl rfl) pe_int) (pss_cons (ps_for (passes_of rfl) rfl (pi_list (pv 0)) (pg_name (i := 2) scD.nd rfl (Or.inl rfl)) (pss_one (ps_set (i := 1) scD.nd rfl (Or.inl rfl)
      (pe_op op_mod (pe_callTy call_int1 rfl gI boot_int (pa_cons (pe_op op_add (pe_op op_add (pe_op op_mul (pv 1) pe_int) (pe_op op_mod (pe_callB call_abs rfl gA boot_abs (pa_cons (pe_callTy call_int1 rfl gI boot_int (pa_cons (pv 2) pa_nil)) pa_nil)) pe_int)) pe_int) pa_nil)) pe_int))))
    (pss_one (ps_ret (pe_lst (pa_cons (pe_lc (own := [("cell", 2)]) rfl scD.nd (pi_list (pv 0)) (blkOk_by (by kernel_rfl)) (fun s H C cl fp => pg_name (i := 2) scD.nd rfl (Or.inl rfl)) (fun s H C cl fp => pts_nil) (fun s H C cl fp => pe_callB call_abs rfl gA boot_abs (pa_cons (pe_callTy call_int1 rfl gI boot_int (pa_cons (pv 2) pa_nil)) pa_nil)))
      (pa_cons (pe_un un_neg pe_int) (pa_cons pe_int (pa_cons (pv 1) pa_nil)))))))), ?_⟩
  obtain ⟨a, ns, rfl, hS, hlen, hQ⟩ := h
  refine ⟨.ref a, rfl, a, rfl, ⟨_, hS⟩, for_list (xs := ns.map V.int) (fun i σ H' => H' = H ∧ ∃ z c, σ = [some (.ref a), some (.int z), c]) ⟨rfl, 7, none, rfl⟩ (fun i σ H' _ ⟨e, _⟩ => by rw [e]; exact hS) (fun i x σ H' ex ⟨e, z, c, eσ⟩ => ?_) fun σ H' ⟨e, z, c, eσ⟩ => ?_⟩
  · subst e eσ
    obtain ⟨j, _, rfl⟩ : ∃ j, ns[i]? = some j ∧ V.int j = x := by
      rw [List.getElem?_map] at ex
      cases q : ns[i]? with
      | none => rw [q] at ex; cases ex
      | some j => rw [q] at ex; cases ex; exact ⟨j, rfl, rfl⟩
    refine ⟨_, rfl, _, _, rfl, rfl, .inr (by decide), ?_⟩
    exact ⟨_, rfl, .inl ⟨_, rfl, _, rfl, _, _, rfl, rfl, by show (0 : Int) < 65521; decide, _, _, rfl, rfl, _, _, rfl, rfl, .inl ⟨_, rfl, _, _, rfl, rfl, by show (0 : Int) < 2147483647; decide, rfl, _, _, rfl⟩⟩⟩
  · subst e eσ
    refine ⟨.ref a, rfl, a, rfl, ⟨_, hS⟩, fun D hD => lc_list (xs := ns.map V.int) (fun i H2 => H2 = upd H' D (.lst (((ns.take i).map fun j => if j < 0 then -j else j).map V.int))) rfl (fun i H2 _ e => by rw [e]; exact EV.SqL.fr hS fun o q => EV.same_upd hD a o q) (fun i x H2 ex e => ?_) fun H2 e => ?_⟩
    · subst e
      obtain ⟨j, ej, rfl⟩ : ∃ j, ns[i]? = some j ∧ V.int j = x := by
        rw [List.getElem?_map] at ex
        cases q : ns[i]? with
        | none => rw [q] at ex; cases ex
        | some j => rw [q] at ex; cases ex; exact ⟨j, rfl, rfl⟩
      refine ⟨rfl, ?_⟩
      refine ⟨_, rfl, .inl ⟨_, rfl, _, rfl, _, upd_same, ?_, ?_⟩⟩
      · rw [List.length_map, List.length_map, List.length_take, sizeLine_eq]; omega
      · have hi : i < ns.length := (List.getElem?_eq_some_iff.mp ej).1
        have e1 : ns.take (i + 1) = ns.take i ++ [j] := by rw [List.take_succ, ej]; rfl
        rw [e1, List.map_append, List.map_append]
        funext b
        by_cases hb : b = D
        · subst hb; rw [upd_same, upd_same]; rfl
        · rw [upd_ne hb, upd_ne hb, upd_ne hb]
    · subst e
      refine ⟨_, rfl, _, rfl, by show 4 ≤ sizeLine; decide, fun L hL => ?_⟩
      have nD : D ≠ L := fun z => by rw [← z, upd_same] at hL; cases hL
      rw [List.length_map, List.take_length] at hL ⊢
      rw [upd_ne (fun z => nD z.symm)] at hL
      exact hQ D L _ hD nD hL

def dd (x : Str) (i : Nat) : He.DefD := ⟨(x, none), x, x, defArgs (top i), defBody (top i), defScope (top i), [], []⟩
def fn : List He.DefD := ([dd "is_whole" 5, dd "is_order" 10, dd "is_profile" 11, dd "check_profile" 12, dd "is_seated" 13, dd "check_seated" 14, dd "solid_voters" 15, dd "solid" 16, dd "is_part" 17, dd "is_due" 18, dd "fails_solid" 19, dd "place_of" 20, dd "rising_voters" 21, dd "fails_local" 22, dd "all_wish_parts" 23, dd "check_wish_word" 24, dd "found_wish_objection" 25, dd "wish_objection" 26, dd "wish_notions" 27, dd "takes_wish_objection" 28, dd "quota_of" 29, dd "wished_committees" 30, dd "_law_take" 33, dd "_law_whole" 34, dd "_law_profile" 35, dd "_law_parts" 36, dd "_law_committee" 37, dd "_law_words" 38, dd "_law_solid" 39, dd "_law_worth" 40] : List He.DefD) ++ ([dd "_law_preferring" 41, dd "_law_objects" 42, dd "_law_keeps" 43, dd "_law_is_profile" 44, dd "_law_is_seated" 45, dd "_law_bent" 46, dd "_law_call" 47, dd "_law_word" 48, dd "_law_draw" 32, dd "law" 49] : List He.DefD)
def fa : List He.Fa := ([.exc "Malformed", .glo "Malformed", .glo "Fault", .glo "is_whole", .glo "is_order", .glo "is_profile", .glo "check_profile", .glo "is_seated", .glo "check_seated", .glo "solid_voters", .glo "solid", .glo "is_part", .glo "is_due", .glo "fails_solid", .glo "place_of", .glo "rising_voters", .glo "fails_local", .glo "all_wish_parts", .glo "check_wish_word", .glo "found_wish_objection", .glo "wish_objection", .glo "wish_notions", .glo "takes_wish_objection", .glo "quota_of", .glo "wished_committees", .glo "_law_take", .glo "_law_whole", .glo "_law_profile", .glo "_law_parts", .glo "_law_committee"] : List He.Fa) ++ ([.glo "_law_words", .glo "_law_solid", .glo "_law_worth", .glo "_law_preferring", .glo "_law_objects", .glo "_law_keeps", .glo "_law_is_profile", .glo "_law_is_seated", .glo "_law_bent", .glo "_law_call", .glo "_law_word", .glo "_law_draw", .glo "law", .free "len", .free "int", .free "abs", .free "min", .free "max", .free "sum", .free "any", .free "all", .free "tuple", .free "list", .free "sorted", .free "range", .free "zip", .free "enumerate", .free "isinstance", .free "bool", .free "str"] : List He.Fa) ++ ([.free "set", .glo "Refused", .free "super"] : List He.Fa)
def exB (K : PySem.W.Frag) : Bool := (cons.all fun q => conB K q) && (wordRK K (He.ga K "Malformed") (He.ga K "Refused") (He.ga K "Fault") && refB (PySem.Challenge.rw_widelyheard_k80_whole_promises_of_wishes).prog K (He.ga K "Refused"))
abbrev R : PySem.W.OpenRow := PySem.W.OpenLaw.row PySem.Challenge.rw_widelyheard_k80_whole_promises_of_wishes
abbrev hk : PySem.W.Hook := hookX exB fa fn 9
def ob (s : PySem.W.SharedT) : He.AlD := obsXG exB fa fn 9 (HandSHeadRun.getT s)
theorem ob_eq (s : PySem.W.SharedT) : ob s = hk.obs s.abs := obsX_eq exB fa fn (HandSHeadRun.getT_eq s)
def loose : List PySem.Str := (["Fault", "Malformed", "Refused", "is_whole", "MOST_WISHED", "MOST_ORDERS", "WISH_WORDS", "is_order", "is_profile", "check_profile", "is_seated", "check_seated", "solid_voters", "solid", "is_part", "is_due", "fails_solid", "place_of", "rising_voters", "fails_local", "all_wish_parts", "check_wish_word", "found_wish_objection", "wish_objection", "wish_notions", "takes_wish_objection", "quota_of", "wished_committees", "_law_draw", "_law_take"] : List PySem.Str) ++ (["_law_whole", "_law_profile", "_law_parts", "_law_committee", "_law_words", "_law_solid", "_law_worth", "_law_preferring", "_law_objects", "_law_keeps", "_law_is_profile", "_law_is_seated", "_law_bent", "_law_call", "_law_word"] : List PySem.Str)
theorem headRun (w : World) : HandSHeadRun.RunEq R (PySem.W.view R.prog [49]) hk ob 3000 loose w := by
  intro os
  kernel_rfl
section
variable {P : Program} {w : World} {K : PySem.W.Frag} {h : Heap} {mg : Str → Option Value}
theorem pk_is_whole (X : K.In h) (G : h.Ns mainGlobals mg) (c : He.SaysD fa fn K) : PK g K mg 0 i_is_whole := by
  obtain ⟨fd, F⟩ := c.def_ 0 (d := dd "is_whole" 5) rfl
  exact pk_def (fi := i_is_whole) rfl (He.glo_ok X G (c.fact 3 (f := .glo "is_whole") rfl)) (FunD.bindsN F fun _ _ _ _ _ _ us hl => match us, hl with | [_], _ => by kernel_rfl) F ⟨by kernel_rfl, by kernel_rfl, by kernel_rfl, by decide +kernel, by kernel_rfl, by decide +kernel, by decide +kernel⟩ (by decide +kernel) (by decide +kernel) k_is_whole
theorem pk_is_order (X : K.In h) (G : h.Ns mainGlobals mg) (c : He.SaysD fa fn K) : PK g K mg 1 i_is_order := by
  obtain ⟨fd, F⟩ := c.def_ 1 (d := dd "is_order" 10) rfl
  exact pk_def (fi := i_is_order) rfl (He.glo_ok X G (c.fact 4 (f := .glo "is_order") rfl)) (FunD.bindsN F fun _ _ _ _ _ _ us hl => match us, hl with | [_, _], _ => by kernel_rfl) F ⟨by kernel_rfl, by kernel_rfl, by kernel_rfl, by decide +kernel, by kernel_rfl, by decide +kernel, by decide +kernel⟩ (by decide +kernel) (by decide +kernel) k_is_order
theorem pk_is_profile (X : K.In h) (G : h.Ns mainGlobals mg) (c : He.SaysD fa fn K) : PK g K mg 2 i_is_profile := by
  obtain ⟨fd, F⟩ := c.def_ 2 (d := dd "is_profile" 11) rfl
  exact pk_def (fi := i_is_profile) rfl (He.glo_ok X G (c.fact 5 (f := .glo "is_profile") rfl)) (FunD.bindsN F fun _ _ _ _ _ _ us hl => match us, hl with | [_], _ => by kernel_rfl) F ⟨by kernel_rfl, by kernel_rfl, by kernel_rfl, by decide +kernel, by kernel_rfl, by decide +kernel, by decide +kernel⟩ (by decide +kernel) (by decide +kernel) k_is_profile
theorem pk_check_profile (X : K.In h) (G : h.Ns mainGlobals mg) (c : He.SaysD fa fn K) : PK g K mg 3 i_check_profile := by
  obtain ⟨fd, F⟩ := c.def_ 3 (d := dd "check_profile" 12) rfl
  exact pk_def (fi := i_check_profile) rfl (He.glo_ok X G (c.fact 6 (f := .glo "check_profile") rfl)) (FunD.bindsN F fun _ _ _ _ _ _ us hl => match us, hl with | [_], _ => by kernel_rfl) F ⟨by kernel_rfl, by kernel_rfl, by kernel_rfl, by decide +kernel, by kernel_rfl, by decide +kernel, by decide +kernel⟩ (by decide +kernel) (by decide +kernel) k_check_profile
theorem pk_is_seated (X : K.In h) (G : h.Ns mainGlobals mg) (c : He.SaysD fa fn K) : PK g K mg 4 i_is_seated := by
  obtain ⟨fd, F⟩ := c.def_ 4 (d := dd "is_seated" 13) rfl
  exact pk_def (fi := i_is_seated) rfl (He.glo_ok X G (c.fact 7 (f := .glo "is_seated") rfl)) (FunD.bindsN F fun _ _ _ _ _ _ us hl => match us, hl with | [_, _], _ => by kernel_rfl) F ⟨by kernel_rfl, by kernel_rfl, by kernel_rfl, by decide +kernel, by kernel_rfl, by decide +kernel, by decide +kernel⟩ (by decide +kernel) (by decide +kernel) k_is_seated
theorem pk_check_seated (X : K.In h) (G : h.Ns mainGlobals mg) (c : He.SaysD fa fn K) : PK g K mg 5 i_check_seated := by
  obtain ⟨fd, F⟩ := c.def_ 5 (d := dd "check_seated" 14) rfl
  exact pk_def (fi := i_check_seated) rfl (He.glo_ok X G (c.fact 8 (f := .glo "check_seated") rfl)) (FunD.bindsN F fun _ _ _ _ _ _ us hl => match us, hl with | [_, _], _ => by kernel_rfl) F ⟨by kernel_rfl, by kernel_rfl, by kernel_rfl, by decide +kernel, by kernel_rfl, by decide +kernel, by decide +kernel⟩ (by decide +kernel) (by decide +kernel) k_check_seated
theorem pk_solid_voters (X : K.In h) (G : h.Ns mainGlobals mg) (c : He.SaysD fa fn K) : PK g K mg 6 i_solid_voters := by
  obtain ⟨fd, F⟩ := c.def_ 6 (d := dd "solid_voters" 15) rfl
  exact pk_def (fi := i_solid_voters) rfl (He.glo_ok X G (c.fact 9 (f := .glo "solid_voters") rfl)) (FunD.bindsN F fun _ _ _ _ _ _ us hl => match us, hl with | [_, _], _ => by kernel_rfl) F ⟨by kernel_rfl, by kernel_rfl, by kernel_rfl, by decide +kernel, by kernel_rfl, by decide +kernel, by decide +kernel⟩ (by decide +kernel) (by decide +kernel) k_solid_voters
theorem pk_solid (X : K.In h) (G : h.Ns mainGlobals mg) (c : He.SaysD fa fn K) : PK g K mg 7 i_solid := by
  obtain ⟨fd, F⟩ := c.def_ 7 (d := dd "solid" 16) rfl
  exact pk_def (fi := i_solid) rfl (He.glo_ok X G (c.fact 10 (f := .glo "solid") rfl)) (FunD.bindsN F fun _ _ _ _ _ _ us hl => match us, hl with | [_, _], _ => by kernel_rfl) F ⟨by kernel_rfl, by kernel_rfl, by kernel_rfl, by decide +kernel, by kernel_rfl, by decide +kernel, by decide +kernel⟩ (by decide +kernel) (by decide +kernel) k_solid
theorem pk_is_part (X : K.In h) (G : h.Ns mainGlobals mg) (c : He.SaysD fa fn K) : PK g K mg 8 i_is_part := by
  obtain ⟨fd, F⟩ := c.def_ 8 (d := dd "is_part" 17) rfl
  exact pk_def (fi := i_is_part) rfl (He.glo_ok X G (c.fact 11 (f := .glo "is_part") rfl)) (FunD.bindsN F fun _ _ _ _ _ _ us hl => match us, hl with | [_, _], _ => by kernel_rfl) F ⟨by kernel_rfl, by kernel_rfl, by kernel_rfl, by decide +kernel, by kernel_rfl, by decide +kernel, by decide +kernel⟩ (by decide +kernel) (by decide +kernel) k_is_part
theorem pk_is_due (X : K.In h) (G : h.Ns mainGlobals mg) (c : He.SaysD fa fn K) : PK g K mg 9 i_is_due := by
  obtain ⟨fd, F⟩ := c.def_ 9 (d := dd "is_due" 18) rfl
  exact pk_def (fi := i_is_due) rfl (He.glo_ok X G (c.fact 12 (f := .glo "is_due") rfl)) (FunD.bindsN F fun _ _ _ _ _ _ us hl => match us, hl with | [_, _, _, _], _ => by kernel_rfl) F ⟨by kernel_rfl, by kernel_rfl, by kernel_rfl, by decide +kernel, by kernel_rfl, by decide +kernel, by decide +kernel⟩ (by decide +kernel) (by decide +kernel) k_is_due
theorem pk_fails_solid (X : K.In h) (G : h.Ns mainGlobals mg) (c : He.SaysD fa fn K) : PK g K mg 10 i_fails_solid := by
  obtain ⟨fd, F⟩ := c.def_ 10 (d := dd "fails_solid" 19) rfl
  exact pk_def (fi := i_fails_solid) rfl (He.glo_ok X G (c.fact 13 (f := .glo "fails_solid") rfl)) (FunD.bindsN F fun _ _ _ _ _ _ us hl => match us, hl with | [_, _, _, _, _], _ => by kernel_rfl) F ⟨by kernel_rfl, by kernel_rfl, by kernel_rfl, by decide +kernel, by kernel_rfl, by decide +kernel, by decide +kernel⟩ (by decide +kernel) (by decide +kernel) k_fails_solid
theorem pk_place_of (X : K.In h) (G : h.Ns mainGlobals mg) (c : He.SaysD fa fn K) : PK g K mg 11 i_place_of := by
  obtain ⟨fd, F⟩ := c.def_ 11 (d := dd "place_of" 20) rfl
  exact pk_def (fi := i_place_of) rfl (He.glo_ok X G (c.fact 14 (f := .glo "place_of") rfl)) (FunD.bindsN F fun _ _ _ _ _ _ us hl => match us, hl with | [_, _], _ => by kernel_rfl) F ⟨by kernel_rfl, by kernel_rfl, by kernel_rfl, by decide +kernel, by kernel_rfl, by decide +kernel, by decide +kernel⟩ (by decide +kernel) (by decide +kernel) k_place_of
theorem pk_rising_voters (X : K.In h) (G : h.Ns mainGlobals mg) (c : He.SaysD fa fn K) : PK g K mg 12 i_rising_voters := by
  obtain ⟨fd, F⟩ := c.def_ 12 (d := dd "rising_voters" 21) rfl
  exact pk_def (fi := i_rising_voters) rfl (He.glo_ok X G (c.fact 15 (f := .glo "rising_voters") rfl)) (FunD.bindsN F fun _ _ _ _ _ _ us hl => match us, hl with | [_, _, _], _ => by kernel_rfl) F ⟨by kernel_rfl, by kernel_rfl, by kernel_rfl, by decide +kernel, by kernel_rfl, by decide +kernel, by decide +kernel⟩ (by decide +kernel) (by decide +kernel) k_rising_voters
theorem pk_fails_local (X : K.In h) (G : h.Ns mainGlobals mg) (c : He.SaysD fa fn K) : PK g K mg 13 i_fails_local := by
  obtain ⟨fd, F⟩ := c.def_ 13 (d := dd "fails_local" 22) rfl
  exact pk_def (fi := i_fails_local) rfl (He.glo_ok X G (c.fact 16 (f := .glo "fails_local") rfl)) (FunD.bindsN F fun _ _ _ _ _ _ us hl => match us, hl with | [_, _, _, _], _ => by kernel_rfl) F ⟨by kernel_rfl, by kernel_rfl, by kernel_rfl, by decide +kernel, by kernel_rfl, by decide +kernel, by decide +kernel⟩ (by decide +kernel) (by decide +kernel) k_fails_local
theorem pk_all_wish_parts (X : K.In h) (G : h.Ns mainGlobals mg) (c : He.SaysD fa fn K) : PK g K mg 14 i_all_wish_parts := by
  obtain ⟨fd, F⟩ := c.def_ 14 (d := dd "all_wish_parts" 23) rfl
  exact pk_def (fi := i_all_wish_parts) rfl (He.glo_ok X G (c.fact 17 (f := .glo "all_wish_parts") rfl)) (FunD.bindsN F fun _ _ _ _ _ _ us hl => match us, hl with | [_], _ => by kernel_rfl) F ⟨by kernel_rfl, by kernel_rfl, by kernel_rfl, by decide +kernel, by kernel_rfl, by decide +kernel, by decide +kernel⟩ (by decide +kernel) (by decide +kernel) k_all_wish_parts
theorem pk_check_wish_word (X : K.In h) (G : h.Ns mainGlobals mg) (c : He.SaysD fa fn K) : PK g K mg 15 i_check_wish_word := by
  obtain ⟨fd, F⟩ := c.def_ 15 (d := dd "check_wish_word" 24) rfl
  exact pk_def (fi := i_check_wish_word) rfl (He.glo_ok X G (c.fact 18 (f := .glo "check_wish_word") rfl)) (FunD.bindsN F fun _ _ _ _ _ _ us hl => match us, hl with | [_], _ => by kernel_rfl) F ⟨by kernel_rfl, by kernel_rfl, by kernel_rfl, by decide +kernel, by kernel_rfl, by decide +kernel, by decide +kernel⟩ (by decide +kernel) (by decide +kernel) k_check_wish_word
theorem pk_found_wish_objection (X : K.In h) (G : h.Ns mainGlobals mg) (c : He.SaysD fa fn K) : PK g K mg 16 i_found_wish_objection := by
  obtain ⟨fd, F⟩ := c.def_ 16 (d := dd "found_wish_objection" 25) rfl
  exact pk_def (fi := i_found_wish_objection) rfl (He.glo_ok X G (c.fact 19 (f := .glo "found_wish_objection") rfl)) (FunD.bindsN F fun _ _ _ _ _ _ us hl => match us, hl with | [_, _, _], _ => by kernel_rfl) F ⟨by kernel_rfl, by kernel_rfl, by kernel_rfl, by decide +kernel, by kernel_rfl, by decide +kernel, by decide +kernel⟩ (by decide +kernel) (by decide +kernel) k_found_wish_objection
theorem pk_wish_objection (X : K.In h) (G : h.Ns mainGlobals mg) (c : He.SaysD fa fn K) : PK g K mg 17 i_wish_objection := by
  obtain ⟨fd, F⟩ := c.def_ 17 (d := dd "wish_objection" 26) rfl
  exact pk_def (fi := i_wish_objection) rfl (He.glo_ok X G (c.fact 20 (f := .glo "wish_objection") rfl)) (FunD.bindsN F fun _ _ _ _ _ _ us hl => match us, hl with | [_, _, _], _ => by kernel_rfl) F ⟨by kernel_rfl, by kernel_rfl, by kernel_rfl, by decide +kernel, by kernel_rfl, by decide +kernel, by decide +kernel⟩ (by decide +kernel) (by decide +kernel) k_wish_objection
theorem pk_wish_notions (X : K.In h) (G : h.Ns mainGlobals mg) (c : He.SaysD fa fn K) : PK g K mg 18 i_wish_notions := by
  obtain ⟨fd, F⟩ := c.def_ 18 (d := dd "wish_notions" 27) rfl
  exact pk_def (fi := i_wish_notions) rfl (He.glo_ok X G (c.fact 21 (f := .glo "wish_notions") rfl)) (FunD.bindsN F fun _ _ _ _ _ _ us hl => match us, hl with | [_, _], _ => by kernel_rfl) F ⟨by kernel_rfl, by kernel_rfl, by kernel_rfl, by decide +kernel, by kernel_rfl, by decide +kernel, by decide +kernel⟩ (by decide +kernel) (by decide +kernel) k_wish_notions
theorem pk_takes_wish_objection (X : K.In h) (G : h.Ns mainGlobals mg) (c : He.SaysD fa fn K) : PK g K mg 19 i_takes_wish_objection := by
  obtain ⟨fd, F⟩ := c.def_ 19 (d := dd "takes_wish_objection" 28) rfl
  exact pk_def (fi := i_takes_wish_objection) rfl (He.glo_ok X G (c.fact 22 (f := .glo "takes_wish_objection") rfl)) (FunD.bindsN F fun _ _ _ _ _ _ us hl => match us, hl with | [_, _, _], _ => by kernel_rfl) F ⟨by kernel_rfl, by kernel_rfl, by kernel_rfl, by decide +kernel, by kernel_rfl, by decide +kernel, by decide +kernel⟩ (by decide +kernel) (by decide +kernel) k_takes_wish_objection
theorem pk_quota_of (X : K.In h) (G : h.Ns mainGlobals mg) (c : He.SaysD fa fn K) : PK g K mg 20 i_quota_of := by
  obtain ⟨fd, F⟩ := c.def_ 20 (d := dd "quota_of" 29) rfl
  exact pk_def (fi := i_quota_of) rfl (He.glo_ok X G (c.fact 23 (f := .glo "quota_of") rfl)) (FunD.bindsN F fun _ _ _ _ _ _ us hl => match us, hl with | [_], _ => by kernel_rfl) F ⟨by kernel_rfl, by kernel_rfl, by kernel_rfl, by decide +kernel, by kernel_rfl, by decide +kernel, by decide +kernel⟩ (by decide +kernel) (by decide +kernel) k_quota_of
theorem pk_wished_committees (X : K.In h) (G : h.Ns mainGlobals mg) (c : He.SaysD fa fn K) : PK g K mg 21 i_wished_committees := by
  obtain ⟨fd, F⟩ := c.def_ 21 (d := dd "wished_committees" 30) rfl
  exact pk_def (fi := i_wished_committees) rfl (He.glo_ok X G (c.fact 24 (f := .glo "wished_committees") rfl)) (FunD.bindsN F fun _ _ _ _ _ _ us hl => match us, hl with | [_, _], _ => by kernel_rfl) F ⟨by kernel_rfl, by kernel_rfl, by kernel_rfl, by decide +kernel, by kernel_rfl, by decide +kernel, by decide +kernel⟩ (by decide +kernel) (by decide +kernel) k_wished_committees
theorem pk__law_take (X : K.In h) (G : h.Ns mainGlobals mg) (c : He.SaysD fa fn K) : PK g K mg 22 i__law_take := by
  obtain ⟨fd, F⟩ := c.def_ 22 (d := dd "_law_take" 33) rfl
  exact pk_def (fi := i__law_take) rfl (He.glo_ok X G (c.fact 25 (f := .glo "_law_take") rfl)) (FunD.bindsN F fun _ _ _ _ _ _ us hl => match us, hl with | [_, _], _ => by kernel_rfl) F ⟨by kernel_rfl, by kernel_rfl, by kernel_rfl, by decide +kernel, by kernel_rfl, by decide +kernel, by decide +kernel⟩ (by decide +kernel) (by decide +kernel) k__law_take
theorem pk__law_whole (X : K.In h) (G : h.Ns mainGlobals mg) (c : He.SaysD fa fn K) : PK g K mg 23 i__law_whole := by
  obtain ⟨fd, F⟩ := c.def_ 23 (d := dd "_law_whole" 34) rfl
  exact pk_def (fi := i__law_whole) rfl (He.glo_ok X G (c.fact 26 (f := .glo "_law_whole") rfl)) (FunD.bindsN F fun _ _ _ _ _ _ us hl => match us, hl with | [_, _, _], _ => by kernel_rfl) F ⟨by kernel_rfl, by kernel_rfl, by kernel_rfl, by decide +kernel, by kernel_rfl, by decide +kernel, by decide +kernel⟩ (by decide +kernel) (by decide +kernel) k__law_whole
theorem pk__law_profile (X : K.In h) (G : h.Ns mainGlobals mg) (c : He.SaysD fa fn K) : PK g K mg 24 i__law_profile := by
  obtain ⟨fd, F⟩ := c.def_ 24 (d := dd "_law_profile" 35) rfl
  exact pk_def (fi := i__law_profile) rfl (He.glo_ok X G (c.fact 27 (f := .glo "_law_profile") rfl)) (FunD.bindsN F fun _ _ _ _ _ _ us hl => match us, hl with | [_, _, _], _ => by kernel_rfl) F ⟨by kernel_rfl, by kernel_rfl, by kernel_rfl, by decide +kernel, by kernel_rfl, by decide +kernel, by decide +kernel⟩ (by decide +kernel) (by decide +kernel) k__law_profile
theorem pk__law_parts (X : K.In h) (G : h.Ns mainGlobals mg) (c : He.SaysD fa fn K) : PK g K mg 25 i__law_parts := by
  obtain ⟨fd, F⟩ := c.def_ 25 (d := dd "_law_parts" 36) rfl
  exact pk_def (fi := i__law_parts) rfl (He.glo_ok X G (c.fact 28 (f := .glo "_law_parts") rfl)) (FunD.bindsN F fun _ _ _ _ _ _ us hl => match us, hl with | [_], _ => by kernel_rfl) F ⟨by kernel_rfl, by kernel_rfl, by kernel_rfl, by decide +kernel, by kernel_rfl, by decide +kernel, by decide +kernel⟩ (by decide +kernel) (by decide +kernel) k__law_parts
theorem pk__law_committee (X : K.In h) (G : h.Ns mainGlobals mg) (c : He.SaysD fa fn K) : PK g K mg 26 i__law_committee := by
  obtain ⟨fd, F⟩ := c.def_ 26 (d := dd "_law_committee" 37) rfl
  exact pk_def (fi := i__law_committee) rfl (He.glo_ok X G (c.fact 29 (f := .glo "_law_committee") rfl)) (FunD.bindsN F fun _ _ _ _ _ _ us hl => match us, hl with | [_, _], _ => by kernel_rfl) F ⟨by kernel_rfl, by kernel_rfl, by kernel_rfl, by decide +kernel, by kernel_rfl, by decide +kernel, by decide +kernel⟩ (by decide +kernel) (by decide +kernel) k__law_committee
theorem pk__law_words (X : K.In h) (G : h.Ns mainGlobals mg) (c : He.SaysD fa fn K) : PK g K mg 27 i__law_words := by
  obtain ⟨fd, F⟩ := c.def_ 27 (d := dd "_law_words" 38) rfl
  exact pk_def (fi := i__law_words) rfl (He.glo_ok X G (c.fact 30 (f := .glo "_law_words") rfl)) (FunD.bindsN F fun _ _ _ _ _ _ us hl => match us, hl with | [], _ => by kernel_rfl) F ⟨by kernel_rfl, by kernel_rfl, by kernel_rfl, by decide +kernel, by kernel_rfl, by decide +kernel, by decide +kernel⟩ (by decide +kernel) (by decide +kernel) k__law_words
theorem pk__law_solid (X : K.In h) (G : h.Ns mainGlobals mg) (c : He.SaysD fa fn K) : PK g K mg 28 i__law_solid := by
  obtain ⟨fd, F⟩ := c.def_ 28 (d := dd "_law_solid" 39) rfl
  exact pk_def (fi := i__law_solid) rfl (He.glo_ok X G (c.fact 31 (f := .glo "_law_solid") rfl)) (FunD.bindsN F fun _ _ _ _ _ _ us hl => match us, hl with | [_, _], _ => by kernel_rfl) F ⟨by kernel_rfl, by kernel_rfl, by kernel_rfl, by decide +kernel, by kernel_rfl, by decide +kernel, by decide +kernel⟩ (by decide +kernel) (by decide +kernel) k__law_solid
theorem pk__law_worth (X : K.In h) (G : h.Ns mainGlobals mg) (c : He.SaysD fa fn K) : PK g K mg 29 i__law_worth := by
  obtain ⟨fd, F⟩ := c.def_ 29 (d := dd "_law_worth" 40) rfl
  exact pk_def (fi := i__law_worth) rfl (He.glo_ok X G (c.fact 32 (f := .glo "_law_worth") rfl)) (FunD.bindsN F fun _ _ _ _ _ _ us hl => match us, hl with | [_, _, _, _], _ => by kernel_rfl) F ⟨by kernel_rfl, by kernel_rfl, by kernel_rfl, by decide +kernel, by kernel_rfl, by decide +kernel, by decide +kernel⟩ (by decide +kernel) (by decide +kernel) k__law_worth
theorem pk__law_preferring (X : K.In h) (G : h.Ns mainGlobals mg) (c : He.SaysD fa fn K) : PK g K mg 30 i__law_preferring := by
  obtain ⟨fd, F⟩ := c.def_ 30 (d := dd "_law_preferring" 41) rfl
  exact pk_def (fi := i__law_preferring) rfl (He.glo_ok X G (c.fact 33 (f := .glo "_law_preferring") rfl)) (FunD.bindsN F fun _ _ _ _ _ _ us hl => match us, hl with | [_, _, _], _ => by kernel_rfl) F ⟨by kernel_rfl, by kernel_rfl, by kernel_rfl, by decide +kernel, by kernel_rfl, by decide +kernel, by decide +kernel⟩ (by decide +kernel) (by decide +kernel) k__law_preferring
theorem pk__law_objects (X : K.In h) (G : h.Ns mainGlobals mg) (c : He.SaysD fa fn K) : PK g K mg 31 i__law_objects := by
  obtain ⟨fd, F⟩ := c.def_ 31 (d := dd "_law_objects" 42) rfl
  exact pk_def (fi := i__law_objects) rfl (He.glo_ok X G (c.fact 34 (f := .glo "_law_objects") rfl)) (FunD.bindsN F fun _ _ _ _ _ _ us hl => match us, hl with | [_, _, _], _ => by kernel_rfl) F ⟨by kernel_rfl, by kernel_rfl, by kernel_rfl, by decide +kernel, by kernel_rfl, by decide +kernel, by decide +kernel⟩ (by decide +kernel) (by decide +kernel) k__law_objects
theorem pk__law_keeps (X : K.In h) (G : h.Ns mainGlobals mg) (c : He.SaysD fa fn K) : PK g K mg 32 i__law_keeps := by
  obtain ⟨fd, F⟩ := c.def_ 32 (d := dd "_law_keeps" 43) rfl
  exact pk_def (fi := i__law_keeps) rfl (He.glo_ok X G (c.fact 35 (f := .glo "_law_keeps") rfl)) (FunD.bindsN F fun _ _ _ _ _ _ us hl => match us, hl with | [_, _, _], _ => by kernel_rfl) F ⟨by kernel_rfl, by kernel_rfl, by kernel_rfl, by decide +kernel, by kernel_rfl, by decide +kernel, by decide +kernel⟩ (by decide +kernel) (by decide +kernel) k__law_keeps
theorem pk__law_is_profile (X : K.In h) (G : h.Ns mainGlobals mg) (c : He.SaysD fa fn K) : PK g K mg 33 i__law_is_profile := by
  obtain ⟨fd, F⟩ := c.def_ 33 (d := dd "_law_is_profile" 44) rfl
  exact pk_def (fi := i__law_is_profile) rfl (He.glo_ok X G (c.fact 36 (f := .glo "_law_is_profile") rfl)) (FunD.bindsN F fun _ _ _ _ _ _ us hl => match us, hl with | [_], _ => by kernel_rfl) F ⟨by kernel_rfl, by kernel_rfl, by kernel_rfl, by decide +kernel, by kernel_rfl, by decide +kernel, by decide +kernel⟩ (by decide +kernel) (by decide +kernel) k__law_is_profile
theorem pk__law_is_seated (X : K.In h) (G : h.Ns mainGlobals mg) (c : He.SaysD fa fn K) : PK g K mg 34 i__law_is_seated := by
  obtain ⟨fd, F⟩ := c.def_ 34 (d := dd "_law_is_seated" 45) rfl
  exact pk_def (fi := i__law_is_seated) rfl (He.glo_ok X G (c.fact 37 (f := .glo "_law_is_seated") rfl)) (FunD.bindsN F fun _ _ _ _ _ _ us hl => match us, hl with | [_, _], _ => by kernel_rfl) F ⟨by kernel_rfl, by kernel_rfl, by kernel_rfl, by decide +kernel, by kernel_rfl, by decide +kernel, by decide +kernel⟩ (by decide +kernel) (by decide +kernel) k__law_is_seated
theorem pk__law_bent (X : K.In h) (G : h.Ns mainGlobals mg) (c : He.SaysD fa fn K) : PK g K mg 35 i__law_bent := by
  obtain ⟨fd, F⟩ := c.def_ 35 (d := dd "_law_bent" 46) rfl
  exact pk_def (fi := i__law_bent) rfl (He.glo_ok X G (c.fact 38 (f := .glo "_law_bent") rfl)) (FunD.bindsN F fun _ _ _ _ _ _ us hl => match us, hl with | [_, _], _ => by kernel_rfl) F ⟨by kernel_rfl, by kernel_rfl, by kernel_rfl, by decide +kernel, by kernel_rfl, by decide +kernel, by decide +kernel⟩ (by decide +kernel) (by decide +kernel) k__law_bent
theorem pk__law_call (X : K.In h) (G : h.Ns mainGlobals mg) (c : He.SaysD fa fn K) : PK g K mg 36 i__law_call := by
  obtain ⟨fd, F⟩ := c.def_ 36 (d := dd "_law_call" 47) rfl
  exact pk_def (fi := i__law_call) rfl (He.glo_ok X G (c.fact 39 (f := .glo "_law_call") rfl)) (FunD.bindsN F fun _ _ _ _ _ _ us hl => match us, hl with | [_], _ => by kernel_rfl) F ⟨by kernel_rfl, by kernel_rfl, by kernel_rfl, by decide +kernel, by kernel_rfl, by decide +kernel, by decide +kernel⟩ (by decide +kernel) (by decide +kernel) k__law_call
theorem pk__law_word (X : K.In h) (G : h.Ns mainGlobals mg) (c : He.SaysD fa fn K) (ce : exB K = true) : PK g K mg 37 i__law_word := by
  obtain ⟨fd, F⟩ := c.def_ 37 (d := dd "_law_word" 48) rfl
  exact pk_wordR (fi := i__law_word) (fj := i__law_call) (fc := 36) (M := He.ga K "Malformed") (Rf := He.ga K "Refused") (ft := He.ga K "Fault") rfl rfl rfl (He.glo_ok X G (c.fact 40 (f := .glo "_law_word") rfl)) (FunD.bindsN F fun _ _ _ _ _ _ us hl => match us, hl with | [_], _ => by kernel_rfl) F ⟨by kernel_rfl, by kernel_rfl, by kernel_rfl, by decide +kernel, by kernel_rfl, by decide +kernel, by decide +kernel⟩ (by decide +kernel) rfl rfl rfl rfl rfl rfl (He.glo_ok X G (c.fact 2 (f := .glo "Fault") rfl)) (He.free_ok X G (c.fact 57 (f := .free "isinstance") rfl)) (He.glo_ok X G (c.fact 1 (f := .glo "Malformed") rfl)) (He.glo_ok X G (c.fact 61 (f := .glo "Refused") rfl)) (He.ba (He.ba ce).2).1 (by kernel_rfl)
theorem all_pk (X : K.In h) (G : h.Ns mainGlobals mg) (c : He.SaysD fa fn K) (ce : exB K = true) : AllK g K mg 0 T :=
  ⟨pk_is_whole X G c, pk_is_order X G c, pk_is_profile X G c, pk_check_profile X G c, pk_is_seated X G c, pk_check_seated X G c, pk_solid_voters X G c, pk_solid X G c, pk_is_part X G c, pk_is_due X G c, pk_fails_solid X G c, pk_place_of X G c, pk_rising_voters X G c, pk_fails_local X G c, pk_all_wish_parts X G c, pk_check_wish_word X G c, pk_found_wish_objection X G c, pk_wish_objection X G c, pk_wish_notions X G c, pk_takes_wish_objection X G c, pk_quota_of X G c, pk_wished_committees X G c, pk__law_take X G c, pk__law_whole X G c, pk__law_profile X G c, pk__law_parts X G c, pk__law_committee X G c, pk__law_words X G c, pk__law_solid X G c, pk__law_worth X G c, pk__law_preferring X G c, pk__law_objects X G c, pk__law_keeps X G c, pk__law_is_profile X G c, pk__law_is_seated X G c, pk__law_bent X G c, pk__law_call X G c, pk__law_word X G c ce, trivial⟩
theorem mod_ok (X : K.In h) (G : h.Ns mainGlobals mg) (c : He.SaysD fa fn K) (ce : exB K = true) : ModF g K mg (He.ga K "Malformed") := by
  obtain ⟨e1, e2, e3, e4⟩ := He.exc_ok (c.fact 0 (f := .exc "Malformed") rfl)
  refine ⟨fun q hq => List.all_eq_true.mp (He.ba ce).1 q hq, fun y hy => ?_, He.glo_ok X G (c.fact 1 (f := .glo "Malformed") rfl), e1, e2, e3, e4⟩
  simp only [bts, List.mem_cons, List.not_mem_nil, or_false] at hy
  rcases hy with rfl | rfl | rfl | rfl | rfl | rfl | rfl | rfl | rfl | rfl | rfl | rfl | rfl | rfl | rfl | rfl | rfl | rfl
  · exact He.free_ok X G (c.fact 43 (f := .free "len") rfl)
  · exact He.free_ok X G (c.fact 44 (f := .free "int") rfl)
  · exact He.free_ok X G (c.fact 45 (f := .free "abs") rfl)
  · exact He.free_ok X G (c.fact 46 (f := .free "min") rfl)
  · exact He.free_ok X G (c.fact 47 (f := .free "max") rfl)
  · exact He.free_ok X G (c.fact 48 (f := .free "sum") rfl)
  · exact He.free_ok X G (c.fact 49 (f := .free "any") rfl)
  · exact He.free_ok X G (c.fact 50 (f := .free "all") rfl)
  · exact He.free_ok X G (c.fact 51 (f := .free "tuple") rfl)
  · exact He.free_ok X G (c.fact 52 (f := .free "list") rfl)
  · exact He.free_ok X G (c.fact 53 (f := .free "sorted") rfl)
  · exact He.free_ok X G (c.fact 54 (f := .free "range") rfl)
  · exact He.free_ok X G (c.fact 55 (f := .free "zip") rfl)
  · exact He.free_ok X G (c.fact 56 (f := .free "enumerate") rfl)
  · exact He.free_ok X G (c.fact 57 (f := .free "isinstance") rfl)
  · exact He.free_ok X G (c.fact 58 (f := .free "bool") rfl)
  · exact He.free_ok X G (c.fact 59 (f := .free "str") rfl)
  · exact He.free_ok X G (c.fact 60 (f := .free "set") rfl)
end
abbrev W0 : Nat := 2000
abbrev LV : Nat := 14
def lawBody : S := b_law
theorem k_law : chkSs g i_law.N i_law.own i_law.fresh 60 (defScope sL) ((defBody sL).drop 1) i_law.body = true := by kernel_rfl
theorem shape_law : lawShape (defBody sL) = true := by kernel_rfl
theorem facts {P : Program} {w : World} {K : PySem.W.Frag} {h : Heap} {mg : Str → Option Value} {f : Addr} (X : K.In h) (G : h.Ns mainGlobals mg) (hfa : mg ("law" : Str) = some (.ref f)) (c : He.SaysD fa fn K) (ce : exB K = true) (hP : P = (PySem.Challenge.rw_widelyheard_k80_whole_promises_of_wishes).prog)
    (plain : ∀ (cells : List Int) (seed : Int), (∀ c ∈ cells, 0 ≤ c) → cells.length ≤ 63 → ∃ ρ s', evS (run g.T W0 LV) W0 i_law.body (none :: some (.dict []) :: List.replicate (i_law.N.length - 2) none) ⟨cells, 0, 0, seed⟩ = .ok (.ret (.bool true), ρ) s') :
    ∃ fd : FuncData, (∀ (s : Shared) (v : Value), BindsTo s fd ⟨[v], []⟩ [("script", v)]) ∧ ∀ base : Heap, K.In base → base.Ns mainGlobals mg → FnOk P w K mg base (L2.CX P w) (LV + 2) f fd ["script"] (spLaw K) := by
  obtain ⟨fdD, FD⟩ := c.def_ 38 (d := dd "_law_draw" 32) rfl
  obtain ⟨fd, F⟩ := c.def_ 39 (d := dd "law" 49) rfl
  have e := hfa.symm.trans (He.glo_ok X G (c.fact 42 (f := .glo "law") rfl))
  cases e
  have b := FunD.bindsA (ps := ["script"]) F fun _ _ _ _ _ _ us hl => match us, hl with | [_], _ => by kernel_rfl
  have bD : L2.Binds K fdD ["script"] [] := FunD.bindsN FD fun _ _ _ _ _ _ us hl => match us, hl with | [_], _ => by kernel_rfl
  refine ⟨fd, fun s v => b s [v] rfl, fun base _ _ => ?_⟩
  obtain ⟨p0, p1, p2, p3, p4, eb⟩ := lawShape_ok shape_law
  have F2 : FunD K i_law.name i_law.name (defArgs sL) (.Assign [.Name "draw" p0] (.Call (.Name "_law_draw" p1) [.Name "script" p2] [] p3) p4 :: (defBody sL).drop 1) (defScope sL) [] [] (He.fAd K ("law", none)) fd := eb ▸ F
  exact law_step (Rf := He.ga K "Refused") (k := 60) X G (mod_ok X G c ce) (all_pk X G c ce) F2 ⟨by kernel_rfl, by kernel_rfl, by kernel_rfl, by decide +kernel, by kernel_rfl, by decide +kernel, by decide +kernel⟩ rfl ⟨_, rfl⟩ (by decide +kernel) rfl k_law
    (He.glo_ok X G (c.fact 41 (f := .glo "_law_draw") rfl)) FD.kp bD (by kernel_rfl) (by kernel_rfl) (by kernel_rfl) (fun _ => ⟨by rw [hP]; exact (He.ba (He.ba ce).2).2, He.glo_ok X G (c.fact 61 (f := .glo "Refused") rfl), He.free_ok X G (c.fact 62 (f := .free "super") rfl)⟩)
    (ok_draw FD (He.free_ok X G (c.fact 44 (f := .free "int") rfl)) (He.free_ok X G (c.fact 45 (f := .free "abs") rfl))) plain
end EV.Law
end

section
set_option Elab.async false
set_option linter.all false
set_option autoImplicit false
set_option maxRecDepth 100000
set_option maxHeartbeats 1000000
namespace EV.Law
open PySem EV
theorem Run.mal {T : Tab} {W n f : Nat} {xs : List D} (h : Run T W n f xs (fun _ => False) malx) (P : D → Prop) (X : XP) : Run T W n f xs P X ↔ X .mal := by
  constructor
  · intro q
    have h1 := h ⟨[], 0, 0, 0⟩
    have h2 := q ⟨[], 0, 0, 0⟩
    cases r : run T W n f xs ⟨[], 0, 0, 0⟩ with
    | ok d s => rw [r] at h1; exact h1.elim
    | err xn s =>
      rw [r] at h1 h2
      cases xn with
      | mal => exact h2
      | refu _ => exact h1.elim
    | stuck => rw [r] at h1; exact h1.elim
  · intro q
    exact h.imp (fun d e => e.elim) fun x hx => by
      cases x with
      | mal => exact q
      | refu _ => exact hx.elim
theorem wC_fil {α : Type} {f : D → (Option D → Prop) → Prop} {enc : α → D} {c : α → Bool} {g : α → D} : ∀ {xs : List α}, (∀ x ∈ xs, ∀ P, f (enc x) P ↔ P (if c x = true then some (g x) else none)) → ∀ P, wC f (xs.map enc) P ↔ P ((xs.filter c).map g)
  | [], _, P => Iff.rfl
  | x :: xs, h, P => by
    rw [List.map_cons]
    unfold wC
    rw [h x List.mem_cons_self, wC_fil fun y hy => h y (List.mem_cons_of_mem _ hy)]
    rw [List.filter_cons]
    by_cases hc : c x = true
    · rw [if_pos hc, if_pos hc]; rfl
    · rw [if_neg hc, if_neg hc]; rfl
theorem wC_map {α : Type} {f : D → (Option D → Prop) → Prop} {enc : α → D} {g : α → D} : ∀ {xs : List α}, (∀ x ∈ xs, ∀ P, f (enc x) P ↔ P (some (g x))) → ∀ P, wC f (xs.map enc) P ↔ P (xs.map g)
  | [], _, P => Iff.rfl
  | x :: xs, h, P => by
    rw [List.map_cons]
    unfold wC
    rw [h x List.mem_cons_self, wC_map fun y hy => h y (List.mem_cons_of_mem _ hy)]
    rfl
theorem wC_id {f : D → (Option D → Prop) → Prop} {g : D → D} {xs : List D} (h : ∀ x ∈ xs, ∀ P, f x P ↔ P (some (g x))) (P : List D → Prop) : wC f xs P ↔ P (xs.map g) := by
  have := wC_map (enc := fun x : D => x) h P
  rwa [List.map_id'] at this
theorem wC_fid {f : D → (Option D → Prop) → Prop} {c : D → Bool} {g : D → D} {xs : List D} (h : ∀ x ∈ xs, ∀ P, f x P ↔ P (if c x = true then some (g x) else none)) (P : List D → Prop) : wC f xs P ↔ P ((xs.filter c).map g) := by
  have := wC_fil (enc := fun x : D => x) h P
  rwa [List.map_id'] at this
/-! ### fine values: no dict, no long list -/
mutual
def fine : D → Bool
  | .list ds => decide (ds.length ≤ 4000) && fineA ds
  | .tuple ds => decide (ds.length ≤ 4000) && fineA ds
  | .dict _ => false
  | _ => true
def fineA : List D → Bool
  | [] => true
  | d :: ds => fine d && fineA ds
end
mutual
theorem fine.pl : ∀ {d : D}, fine d = true → d.plain = true
  | .none, _ => rfl
  | .bool _, _ => rfl
  | .int _, _ => rfl
  | .str _, _ => rfl
  | .list ds, h => by
    simp only [fine, Bool.and_eq_true] at h
    exact fineA.pl h.2
  | .tuple ds, h => by
    simp only [fine, Bool.and_eq_true] at h
    exact fineA.pl h.2
  | .dict _, h => by simp [fine] at h
theorem fineA.pl : ∀ {ds : List D}, fineA ds = true → PyData.plainAll ds = true
  | [], _ => rfl
  | d :: ds, h => by
    simp only [fineA, Bool.and_eq_true] at h
    simp only [PyData.plainAll, Bool.and_eq_true]
    exact ⟨fine.pl h.1, fineA.pl h.2⟩
end
theorem fineA.mem {ds : List D} (h : fineA ds = true) : ∀ d ∈ ds, fine d = true := by
  induction ds with
  | nil => intro d hd; cases hd
  | cons e es ih =>
    simp only [fineA, Bool.and_eq_true] at h
    intro d hd
    rcases List.mem_cons.mp hd with rfl | hd
    · exact h.1
    · exact ih h.2 d hd
theorem fineA.of {ds : List D} (h : ∀ d ∈ ds, fine d = true) : fineA ds = true := by
  induction ds with
  | nil => rfl
  | cons e es ih =>
    simp only [fineA, Bool.and_eq_true]
    exact ⟨h e List.mem_cons_self, ih fun d hd => h d (List.mem_cons_of_mem _ hd)⟩
theorem fine.tup {ds : List D} (h : fine (.tuple ds) = true) : ds.length ≤ 4000 ∧ ∀ d ∈ ds, fine d = true := by
  simp only [fine, Bool.and_eq_true, decide_eq_true_eq] at h
  exact ⟨h.1, fineA.mem h.2⟩
def isWhole : D → Bool
  | .int _ => true
  | _ => false
theorem s_is_whole {n : Nat} (hn : 1 ≤ n) {v : D} (hv : fine v = true) (P : D → Prop) (X : XP) : Run T 2000 n fis_whole [v] P X ↔ P (.bool (isWhole v)) := by
  obtain ⟨m, rfl⟩ : ∃ m, n = m + 1 := ⟨n - 1, by omega⟩
  have hv := fine.pl hv
  refine Run.val (run_of (fi := i_is_whole) rfl rfl ?_) P X
  simp only [i_is_whole, b_is_whole]
  simp only [wS, wE, wA, wO, wI, seqK_next, seqK_ret, fnK_ret, fnK_next, oP_some, oP_none, bP_bool, List.map_cons, List.map_nil, List.length_cons, List.length_nil, List.reduceReplicate, List.cons_append, List.nil_append, List.getD_cons_zero, List.getD_cons_succ, List.set_cons_zero, List.set_cons_succ, Nat.reduceAdd, Nat.reduceSub, Nat.zero_add, bindT_nm, bindT_tup, bindTs_nil, bindTs_cons, Option.bind_some, tgSlots, wipeE, List.append_nil, Bool.not_true, Bool.not_false, Bool.false_eq_true, if_true, if_false, reduceIte, Bool.or_true, Bool.or_false, Bool.true_or, Bool.false_or, true_and, and_true]
  refine ⟨hv, ?_⟩
  cases v <;> simp [isiD, isWhole, PyData.plain]
theorem boolsOf_map {α : Type} (f : α → Bool) (xs : List α) : boolsOf (xs.map fun x => .bool (f x)) = some (xs.map f) := by
  induction xs with
  | nil => rfl
  | cons x xs ih => simp only [List.map_cons, boolsOf, ih, Option.map_some]
theorem bi_all {α : Type} (f : α → Bool) (xs : List α) : biD .all [.list (xs.map fun x => .bool (f x))] = some (.bool (xs.all f)) := by
  simp only [biD, boolsOf_map, Option.map_some, List.all_map]
  congr 2
theorem bi_any {α : Type} (f : α → Bool) (xs : List α) : biD .any [.list (xs.map fun x => .bool (f x))] = some (.bool (xs.any f)) := by
  simp only [biD, boolsOf_map, Option.map_some, List.any_map]
  congr 2
/-- a ballot: all its choices are whole numbers from 0, rising -/
def inR (a : Int) : D → Bool
  | .int i => decide (0 ≤ i) && decide (i < a)
  | _ => false
def lt2 (cs : List D) (k : Nat) : Bool := match cs[k]?, cs[k + 1]? with
  | some (.int i), some (.int j) => decide (i < j)
  | _, _ => false
def rising (cs : List D) : Bool := (List.range (cs.length - 1)).all fun k => lt2 cs k
theorem atI_nat {α : Type} {xs : List α} {k : Nat} (h : k < xs.length) : L2.atI xs (k : Int) = xs[k]? := by
  unfold L2.atI L2.ixN
  rw [if_pos (by omega), if_pos (by omega)]
  simp
theorem cmp_ne_int (a b : Int) : cmpD .ne (.int a) (.int b) = some (!decide (a = b)) := by
  simp [cmpD, okEq, PyData.plain, PyData.depth, PyData.eqv, Bool.beq_eq_decide_eq]
theorem cmp_lt (a b : Int) : cmpD .lt (.int a) (.int b) = some (decide (a < b)) := rfl
theorem cmp_le (a b : Int) : cmpD .le (.int a) (.int b) = some (decide (a ≤ b)) := rfl
theorem cmp_ge (a b : Int) : cmpD .ge (.int a) (.int b) = some (decide (b ≤ a)) := rfl
theorem cmp_gt (a b : Int) : cmpD .gt (.int a) (.int b) = some (decide (b < a)) := rfl
theorem len_tup (xs : List D) : biD .len [.tuple xs] = some (.int xs.length) := rfl
theorem len_lst (xs : List D) : biD .len [.list xs] = some (.int xs.length) := rfl
theorem ix_tup (xs : List D) (i : Int) : ixD (.tuple xs) (.int i) = L2.atI xs i := rfl
theorem ix_lst (xs : List D) (i : Int) : ixD (.list xs) (.int i) = L2.atI xs i := rfl
theorem at2_0 (x y : D) : L2.atI [x, y] 0 = some x := rfl
theorem at2_1 (x y : D) : L2.atI [x, y] 1 = some y := rfl
theorem isi_tt (xs : List D) : isiD (.tuple xs) .tuple = true := rfl
theorem pl_int (i : Int) : (PyData.int i).plain = true := rfl
theorem it_tup (xs : List D) : itemsD (.tuple xs) = some xs := rfl
theorem it_lst (xs : List D) : itemsD (.list xs) = some xs := rfl
theorem rg1 {j : Int} (h1 : -1000000 ≤ j) (h2 : j ≤ 1000000) : rangeD [.int j] = some ((List.range j.toNat).map fun i => .int (i : Nat)) := if_pos ⟨h1, h2⟩
theorem rg2 {i j : Int} (h1 : -1000000 ≤ i) (h2 : i ≤ 1000000) (h3 : -1000000 ≤ j) (h4 : j ≤ 1000000) : rangeD [.int i, .int j] = some ((List.range (j - i).toNat).map fun k => .int (i + (k : Nat))) := if_pos ⟨⟨h1, h2⟩, h3, h4⟩
theorem inR_int {a : Int} {c : D} (h : inR a c = true) : ∃ i, c = .int i := by
  cases c <;> simp [inR] at h
  exact ⟨_, rfl⟩
theorem isi_it (i : Int) : isiD (.int i) .tuple = false := rfl
theorem cast2 : ((2 : Nat) : Int) = 2 := rfl
end EV.Law
end

section
set_option Elab.async false
set_option linter.all false
set_option autoImplicit false
set_option maxRecDepth 100000
set_option maxHeartbeats 1000000
namespace EV.Law
open PySem EV
def vI : D → Int
  | .int i => i
  | _ => 0
theorem whole_int {c : D} (h : isWhole c = true) : c = .int (vI c) := by cases c <;> simp [isWhole] at h; rfl
theorem inR_whole {a : Int} {c : D} (h : inR a c = true) : isWhole c = true := by cases c <;> simp [inR] at h; rfl
theorem inR_all {a : Int} {cs : List D} (h : cs.all (inR a) = true) : cs.all isWhole = true := List.all_eq_true.mpr fun c hc => inR_whole (List.all_eq_true.mp h c hc)
theorem inR_b {a : Int} {c : D} (h : inR a c = true) : 0 ≤ vI c ∧ vI c < a := by
  cases c <;> simp [inR] at h
  exact h
theorem ints_all : ∀ {cs : List D}, cs.all isWhole = true → intsOf cs = some (cs.map vI)
  | [], _ => rfl
  | c :: cs, h => by
    rw [List.all_cons, Bool.and_eq_true] at h
    rw [whole_int h.1]
    show (intsOf cs).map _ = _
    rw [ints_all h.2]
    rfl
theorem cast3 : ((3 : Nat) : Int) = 3 := rfl
theorem cast1 : ((1 : Nat) : Int) = 1 := rfl
theorem cast0 : ((0 : Nat) : Int) = 0 := rfl
theorem cmp_eq_int (a b : Int) : cmpD .eq (.int a) (.int b) = some (decide (a = b)) := by
  simp [cmpD, okEq, PyData.plain, PyData.depth, PyData.eqv, Bool.beq_eq_decide_eq]
def nod (cs : List D) : Bool := decide ((cs.map vI).eraseDups.length = cs.length)
def isOrder (m : Int) : D → Bool
  | .tuple cs => decide (1 ≤ cs.length) && (cs.all (inR m) && nod cs)
  | _ => false
theorem nodup_of_len {l : List Int} (h : l.eraseDups.length = l.length) : l.Nodup := by
  have hd := nodup_dedup _ l (Nat.le_refl _)
  refine Classical.byContradiction fun n => ?_
  have key : ∀ (l : List Int), ¬ l.Nodup → l.eraseDups.length < l.length := fun l => by
    induction l with
    | nil => intro z; exact absurd List.nodup_nil z
    | cons x l ih =>
      intro z
      rw [List.eraseDups_cons, List.length_cons, List.length_cons]
      by_cases hx : x ∈ l
      · have h1 := dedup_le (l.filter fun b => !b == x)
        have h2 : (l.filter fun b => !b == x).length < l.length := by
          refine List.length_filter_lt_length_iff_exists.mpr ⟨x, hx, by simp⟩
        omega
      · have e : (l.filter fun b => !b == x) = l := List.filter_eq_self.mpr fun b hb => by
          have : b ≠ x := fun z => hx (z ▸ hb)
          simp [this]
        rw [e]
        have := ih fun z2 => z (List.nodup_cons.mpr ⟨hx, z2⟩)
        omega
  have := key l n
  omega
theorem len_of_nodup {l : List Int} (h : l.Nodup) : l.eraseDups.length = l.length := (count_dedup h fun _ => Iff.rfl).symm
theorem nod_iff {cs : List D} : nod cs = true ↔ (cs.map vI).Nodup := by
  unfold nod
  rw [decide_eq_true_eq, ← List.length_map (f := vI) (as := cs)]
  exact ⟨nodup_of_len, len_of_nodup⟩
theorem ord_len {m : Int} {cs : List D} (hm : 0 ≤ m) (h1 : cs.all (inR m) = true) (h2 : nod cs = true) : (cs.length : Int) ≤ m := by
  have h := sub_len (nod_iff.mp h2) (m := (List.range m.toNat).map fun k : Nat => (k : Int)) fun x hx => by
    obtain ⟨c, hc, rfl⟩ := List.mem_map.mp hx
    have := inR_b (List.all_eq_true.mp h1 c hc)
    exact List.mem_map.mpr ⟨(vI c).toNat, List.mem_range.mpr (by omega), by omega⟩
  rw [List.length_map, List.length_map, List.length_range] at h
  omega
theorem s_is_order {n : Nat} (hn : 2 ≤ n) {v : D} (hv : fine v = true) {m : Int} (hm : 0 ≤ m) (P : D → Prop) (X : XP) : Run T 2000 n fis_order [v, .int m] P X ↔ P (.bool (isOrder m v)) := by
  obtain ⟨t, rfl⟩ : ∃ t, n = t + 1 := ⟨n - 1, by omega⟩
  have ht : 1 ≤ t := by omega
  have hp := fine.pl hv
  refine Run.val (run_of (fi := i_is_order) rfl rfl ?_) P X
  simp only [i_is_order, b_is_order]
  simp only [wS, wE, wA, wO, wI, seqK_next, seqK_ret, fnK_ret, fnK_next, oP_some, oP_none, bP_bool, List.map_cons, List.map_nil, List.length_cons, List.length_nil, List.reduceReplicate, List.cons_append, List.nil_append, List.getD_cons_zero, List.getD_cons_succ, List.set_cons_zero, List.set_cons_succ, Nat.reduceAdd, Nat.reduceSub, Nat.zero_add, bindT_nm, bindT_tup, bindTs_nil, bindTs_cons, Option.bind_some, tgSlots, wipeE, List.append_nil, Bool.not_true, Bool.not_false, Bool.false_eq_true, if_true, if_false, reduceIte, Bool.or_true, Bool.or_false, Bool.true_or, Bool.false_or, true_and, and_true]
  refine ⟨hp, ?_⟩
  cases v with
  | tuple cs =>
    obtain ⟨hl, hf⟩ := fine.tup hv
    simp only [wS, wE, wA, wO, wI, seqK_next, seqK_ret, fnK_ret, fnK_next, oP_some, oP_none, bP_bool, List.map_cons, List.map_nil, List.length_cons, List.length_nil, List.reduceReplicate, List.cons_append, List.nil_append, List.getD_cons_zero, List.getD_cons_succ, List.set_cons_zero, List.set_cons_succ, Nat.reduceAdd, Nat.reduceSub, Nat.zero_add, bindT_nm, bindT_tup, bindTs_nil, bindTs_cons, Option.bind_some, tgSlots, wipeE, List.append_nil, Bool.not_true, Bool.not_false, Bool.false_eq_true, if_true, if_false, reduceIte, Bool.or_true, Bool.or_false, Bool.true_or, Bool.false_or, true_and, and_true, isi_tt, len_tup, cmp_le, it_tup]
    by_cases h1 : 1 ≤ cs.length
    · have h1' : (1 : Int) ≤ (cs.length : Int) := by omega
      rw [decide_eq_true h1']
      simp only [wS, wE, wA, wO, wI, seqK_next, seqK_ret, fnK_ret, fnK_next, oP_some, oP_none, bP_bool, List.map_cons, List.map_nil, List.length_cons, List.length_nil, List.reduceReplicate, List.cons_append, List.nil_append, List.getD_cons_zero, List.getD_cons_succ, List.set_cons_zero, List.set_cons_succ, Nat.reduceAdd, Nat.reduceSub, Nat.zero_add, bindT_nm, bindT_tup, bindTs_nil, bindTs_cons, Option.bind_some, tgSlots, wipeE, List.append_nil, Bool.not_true, Bool.not_false, Bool.false_eq_true, if_true, if_false, reduceIte, Bool.or_true, Bool.or_false, Bool.true_or, Bool.false_or, true_and, and_true]
      by_cases h2 : (cs.length : Int) ≤ m
      · rw [decide_eq_true h2]
        simp only [wS, wE, wA, wO, wI, seqK_next, seqK_ret, fnK_ret, fnK_next, oP_some, oP_none, bP_bool, List.map_cons, List.map_nil, List.length_cons, List.length_nil, List.reduceReplicate, List.cons_append, List.nil_append, List.getD_cons_zero, List.getD_cons_succ, List.set_cons_zero, List.set_cons_succ, Nat.reduceAdd, Nat.reduceSub, Nat.zero_add, bindT_nm, bindT_tup, bindTs_nil, bindTs_cons, Option.bind_some, tgSlots, wipeE, List.append_nil, Bool.not_true, Bool.not_false, Bool.false_eq_true, if_true, if_false, reduceIte, Bool.or_true, Bool.or_false, Bool.true_or, Bool.false_or, true_and, and_true]
        refine ⟨by show _ ≤ 1000000; omega, ?_⟩
        refine (wC_id (g := fun c => .bool (isWhole c)) (fun c hc P => ?_) _).mpr ?_
        · rw [s_is_whole ht (hf c hc)]
        · rw [bi_all]
          simp only [wS, wE, wA, wO, wI, seqK_next, seqK_ret, fnK_ret, fnK_next, oP_some, oP_none, bP_bool, List.map_cons, List.map_nil, List.length_cons, List.length_nil, List.reduceReplicate, List.cons_append, List.nil_append, List.getD_cons_zero, List.getD_cons_succ, List.set_cons_zero, List.set_cons_succ, Nat.reduceAdd, Nat.reduceSub, Nat.zero_add, bindT_nm, bindT_tup, bindTs_nil, bindTs_cons, Option.bind_some, tgSlots, wipeE, List.append_nil, Bool.not_true, Bool.not_false, Bool.false_eq_true, if_true, if_false, reduceIte, Bool.or_true, Bool.or_false, Bool.true_or, Bool.false_or, true_and, and_true]
          cases hw : cs.all isWhole with
          | false =>
            simp only [wS, wE, wA, wO, wI, seqK_next, seqK_ret, fnK_ret, fnK_next, oP_some, oP_none, bP_bool, List.map_cons, List.map_nil, List.length_cons, List.length_nil, List.reduceReplicate, List.cons_append, List.nil_append, List.getD_cons_zero, List.getD_cons_succ, List.set_cons_zero, List.set_cons_succ, Nat.reduceAdd, Nat.reduceSub, Nat.zero_add, bindT_nm, bindT_tup, bindTs_nil, bindTs_cons, Option.bind_some, tgSlots, wipeE, List.append_nil, Bool.not_true, Bool.not_false, Bool.false_eq_true, if_true, if_false, reduceIte, Bool.or_true, Bool.or_false, Bool.true_or, Bool.false_or, true_and, and_true]
            have : cs.all (inR m) = false := by
              cases z : cs.all (inR m) with
              | false => rfl
              | true => rw [inR_all z] at hw; cases hw
            simp [isOrder, this]
          | true =>
            simp only [wS, wE, wA, wO, wI, seqK_next, seqK_ret, fnK_ret, fnK_next, oP_some, oP_none, bP_bool, List.map_cons, List.map_nil, List.length_cons, List.length_nil, List.reduceReplicate, List.cons_append, List.nil_append, List.getD_cons_zero, List.getD_cons_succ, List.set_cons_zero, List.set_cons_succ, Nat.reduceAdd, Nat.reduceSub, Nat.zero_add, bindT_nm, bindT_tup, bindTs_nil, bindTs_cons, Option.bind_some, tgSlots, wipeE, List.append_nil, Bool.not_true, Bool.not_false, Bool.false_eq_true, if_true, if_false, reduceIte, Bool.or_true, Bool.or_false, Bool.true_or, Bool.false_or, true_and, and_true]
            refine ⟨by show _ ≤ 1000000; omega, ?_⟩
            refine (wC_id (g := fun c => .bool (inR m c)) (fun c hc P => ?_) _).mpr ?_
            · have e := whole_int (List.all_eq_true.mp hw c hc)
              rw [e]
              simp only [cmp_le, cmp_lt, oP_some, inR]
              by_cases h0 : 0 ≤ vI c <;> simp [h0]
            · rw [bi_all]
              simp only [wS, wE, wA, wO, wI, seqK_next, seqK_ret, fnK_ret, fnK_next, oP_some, oP_none, bP_bool, List.map_cons, List.map_nil, List.length_cons, List.length_nil, List.reduceReplicate, List.cons_append, List.nil_append, List.getD_cons_zero, List.getD_cons_succ, List.set_cons_zero, List.set_cons_succ, Nat.reduceAdd, Nat.reduceSub, Nat.zero_add, bindT_nm, bindT_tup, bindTs_nil, bindTs_cons, Option.bind_some, tgSlots, wipeE, List.append_nil, Bool.not_true, Bool.not_false, Bool.false_eq_true, if_true, if_false, reduceIte, Bool.or_true, Bool.or_false, Bool.true_or, Bool.false_or, true_and, and_true]
              cases hr : cs.all (inR m) with
              | false => simp [isOrder, hr]
              | true =>
                have hs : setI (.tuple cs) = some (cs.map vI) := by
                  show (if cs.length ≤ 4000 then intsOf cs else none) = _
                  rw [if_pos hl, ints_all hw]
                simp only [wS, wE, wA, wO, wI, seqK_next, seqK_ret, fnK_ret, fnK_next, oP_some, oP_none, bP_bool, List.map_cons, List.map_nil, List.length_cons, List.length_nil, List.reduceReplicate, List.cons_append, List.nil_append, List.getD_cons_zero, List.getD_cons_succ, List.set_cons_zero, List.set_cons_succ, Nat.reduceAdd, Nat.reduceSub, Nat.zero_add, bindT_nm, bindT_tup, bindTs_nil, bindTs_cons, Option.bind_some, tgSlots, wipeE, List.append_nil, Bool.not_true, Bool.not_false, Bool.false_eq_true, if_true, if_false, reduceIte, Bool.or_true, Bool.or_false, Bool.true_or, Bool.false_or, true_and, and_true, hs, cmp_eq_int]
                have e : decide (((cs.map vI).eraseDups.length : Int) = (cs.length : Int)) = nod cs := by
                  unfold nod
                  exact decide_eq_decide.mpr ⟨fun z => by omega, fun z => by omega⟩
                rw [e]
                simp [isOrder, hr, h1]
      · rw [decide_eq_false h2]
        simp only [wS, wE, wA, wO, wI, seqK_next, seqK_ret, fnK_ret, fnK_next, oP_some, oP_none, bP_bool, List.map_cons, List.map_nil, List.length_cons, List.length_nil, List.reduceReplicate, List.cons_append, List.nil_append, List.getD_cons_zero, List.getD_cons_succ, List.set_cons_zero, List.set_cons_succ, Nat.reduceAdd, Nat.reduceSub, Nat.zero_add, bindT_nm, bindT_tup, bindTs_nil, bindTs_cons, Option.bind_some, tgSlots, wipeE, List.append_nil, Bool.not_true, Bool.not_false, Bool.false_eq_true, if_true, if_false, reduceIte, Bool.or_true, Bool.or_false, Bool.true_or, Bool.false_or, true_and, and_true]
        have : (cs.all (inR m) && nod cs) = false := by
          cases z1 : cs.all (inR m) with
          | false => rfl
          | true =>
            cases z2 : nod cs with
            | false => rfl
            | true => exact absurd (ord_len hm z1 z2) h2
        simp [isOrder, this]
    · have h1' : ¬ (1 : Int) ≤ (cs.length : Int) := by omega
      rw [decide_eq_false h1']
      simp only [wS, wE, wA, wO, wI, seqK_next, seqK_ret, fnK_ret, fnK_next, oP_some, oP_none, bP_bool, List.map_cons, List.map_nil, List.length_cons, List.length_nil, List.reduceReplicate, List.cons_append, List.nil_append, List.getD_cons_zero, List.getD_cons_succ, List.set_cons_zero, List.set_cons_succ, Nat.reduceAdd, Nat.reduceSub, Nat.zero_add, bindT_nm, bindT_tup, bindTs_nil, bindTs_cons, Option.bind_some, tgSlots, wipeE, List.append_nil, Bool.not_true, Bool.not_false, Bool.false_eq_true, if_true, if_false, reduceIte, Bool.or_true, Bool.or_false, Bool.true_or, Bool.false_or, true_and, and_true]
      simp [isOrder, h1]
  | none => simp [isiD, isOrder]
  | bool _ => simp [isiD, isOrder]
  | int _ => simp [isiD, isOrder]
  | str _ => simp [isiD, isOrder]
  | list _ => simp [isiD, isOrder]
  | dict _ => simp [isiD, isOrder]
def isProfile : D → Bool
  | .tuple [.int m, .tuple os, .int k] => decide (1 ≤ m) && (decide (m ≤ 8) && (decide (1 ≤ k) && (decide (k ≤ m) && (decide (1 ≤ os.length) && (decide (os.length ≤ 30) && os.all (isOrder m))))))
  | _ => false
theorem at_0 {cs : List D} (h : cs ≠ []) : L2.atI cs 0 = some (cs.getD 0 .none) := by
  cases cs with
  | nil => exact absurd rfl h
  | cons a r => exact atI_nat (xs := a :: r) (k := 0) (by simp)
theorem at_c0 (a : D) (r : List D) : L2.atI (a :: r) 0 = some a := at_0 (List.cons_ne_nil a r)
theorem at_c1 (a b : D) (r : List D) : L2.atI (a :: b :: r) 1 = some b := atI_nat (xs := a :: b :: r) (k := 1) (by simp)
theorem at_c2 (a b c : D) (r : List D) : L2.atI (a :: b :: c :: r) 2 = some c := atI_nat (xs := a :: b :: c :: r) (k := 2) (by simp)
theorem not3 (a b c d : D) (r : List D) : ¬ ((((a :: b :: c :: d :: r : List D).length : Nat) : Int) = 3) := by simp only [List.length_cons]; omega
theorem isWhole_no {c : D} (h : isWhole c = false) : ∀ i, c ≠ .int i := fun i e => by rw [e] at h; cases h
theorem s_is_profile {n : Nat} (hn : 3 ≤ n) {v : D} (hv : fine v = true) (P : D → Prop) (X : XP) : Run T 2000 n fis_profile [v] P X ↔ P (.bool (isProfile v)) := by
  obtain ⟨t, rfl⟩ : ∃ t, n = t + 1 := ⟨n - 1, by omega⟩
  have ht : 1 ≤ t := by omega
  have hp := fine.pl hv
  refine Run.val (run_of (fi := i_is_profile) rfl rfl ?_) P X
  simp only [i_is_profile, b_is_profile, c_MOST_WISHED, c_MOST_ORDERS]
  simp only [wS, wE, wA, wO, wI, seqK_next, seqK_ret, fnK_ret, fnK_next, oP_some, oP_none, bP_bool, List.map_cons, List.map_nil, List.length_cons, List.length_nil, List.reduceReplicate, List.cons_append, List.nil_append, List.getD_cons_zero, List.getD_cons_succ, List.set_cons_zero, List.set_cons_succ, Nat.reduceAdd, Nat.reduceSub, Nat.zero_add, bindT_nm, bindT_tup, bindTs_nil, bindTs_cons, Option.bind_some, tgSlots, wipeE, List.append_nil, Bool.not_true, Bool.not_false, Bool.false_eq_true, if_true, if_false, reduceIte, Bool.or_true, Bool.or_false, Bool.true_or, Bool.false_or, true_and, and_true]
  refine ⟨hp, ?_⟩
  cases v with
  | tuple ds =>
    obtain ⟨hl, hf⟩ := fine.tup hv
    match ds, hf with
    | [], _ => simp [isiD, biD, cmp_ne_int, isProfile]
    | [_], _ => simp [isiD, biD, cmp_ne_int, isProfile]
    | [_, _], _ => simp [isiD, biD, cmp_ne_int, isProfile]
    | a :: b :: c :: d :: r, _ =>
      have h3 := not3 a b c d r
      generalize hL : (a :: b :: c :: d :: r : List D).length = L at h3
      simp only [wS, wE, wA, wO, wI, seqK_next, seqK_ret, fnK_ret, fnK_next, oP_some, oP_none, bP_bool, List.map_cons, List.map_nil, List.length_cons, List.length_nil, List.reduceReplicate, List.cons_append, List.nil_append, List.getD_cons_zero, List.getD_cons_succ, List.set_cons_zero, List.set_cons_succ, Nat.reduceAdd, Nat.reduceSub, Nat.zero_add, bindT_nm, bindT_tup, bindTs_nil, bindTs_cons, Option.bind_some, tgSlots, wipeE, List.append_nil, Bool.not_true, Bool.not_false, Bool.false_eq_true, if_true, if_false, reduceIte, Bool.or_true, Bool.or_false, Bool.true_or, Bool.false_or, true_and, and_true, isi_tt, len_tup, hL, cmp_ne_int, h3, decide_false]
      have e : isProfile (.tuple (a :: b :: c :: d :: r)) = false := by cases a <;> cases b <;> cases c <;> rfl
      rw [e]
    | [x, y, z], hf =>
      have hx := hf x (by simp)
      have hy := hf y (by simp)
      have hz := hf z (by simp)
      simp only [wS, wE, wA, wO, wI, seqK_next, seqK_ret, fnK_ret, fnK_next, oP_some, oP_none, bP_bool, List.map_cons, List.map_nil, List.length_cons, List.length_nil, List.reduceReplicate, List.cons_append, List.nil_append, List.getD_cons_zero, List.getD_cons_succ, List.set_cons_zero, List.set_cons_succ, Nat.reduceAdd, Nat.reduceSub, Nat.zero_add, bindT_nm, bindT_tup, bindTs_nil, bindTs_cons, Option.bind_some, tgSlots, wipeE, List.append_nil, Bool.not_true, Bool.not_false, Bool.false_eq_true, if_true, if_false, reduceIte, Bool.or_true, Bool.or_false, Bool.true_or, Bool.false_or, true_and, and_true, isi_tt, len_tup, cmp_ne_int, cast3, decide_true, ix_tup, at_c0, at_c1, at_c2]
      rw [s_is_whole ht hx]
      simp only [bP_bool]
      cases x with
      | int m =>
        simp only [wS, wE, wA, wO, wI, seqK_next, seqK_ret, fnK_ret, fnK_next, oP_some, oP_none, bP_bool, List.map_cons, List.map_nil, List.length_cons, List.length_nil, List.reduceReplicate, List.cons_append, List.nil_append, List.getD_cons_zero, List.getD_cons_succ, List.set_cons_zero, List.set_cons_succ, Nat.reduceAdd, Nat.reduceSub, Nat.zero_add, bindT_nm, bindT_tup, bindTs_nil, bindTs_cons, Option.bind_some, tgSlots, wipeE, List.append_nil, Bool.not_true, Bool.not_false, Bool.false_eq_true, if_true, if_false, reduceIte, Bool.or_true, Bool.or_false, Bool.true_or, Bool.false_or, true_and, and_true, isWhole]
        rw [s_is_whole ht hz]
        simp only [bP_bool]
        cases z with
        | int k =>
          simp only [wS, wE, wA, wO, wI, seqK_next, seqK_ret, fnK_ret, fnK_next, oP_some, oP_none, bP_bool, List.map_cons, List.map_nil, List.length_cons, List.length_nil, List.reduceReplicate, List.cons_append, List.nil_append, List.getD_cons_zero, List.getD_cons_succ, List.set_cons_zero, List.set_cons_succ, Nat.reduceAdd, Nat.reduceSub, Nat.zero_add, bindT_nm, bindT_tup, bindTs_nil, bindTs_cons, Option.bind_some, tgSlots, wipeE, List.append_nil, Bool.not_true, Bool.not_false, Bool.false_eq_true, if_true, if_false, reduceIte, Bool.or_true, Bool.or_false, Bool.true_or, Bool.false_or, true_and, and_true, isWhole, cmp_le]
          by_cases g1 : 1 ≤ m
          · by_cases g2 : m ≤ 8
            · by_cases g3 : 1 ≤ k
              · by_cases g4 : k ≤ m
                · simp only [g1, g2, g3, g4, decide_true]
                  simp only [wS, wE, wA, wO, wI, seqK_next, seqK_ret, fnK_ret, fnK_next, oP_some, oP_none, bP_bool, List.map_cons, List.map_nil, List.length_cons, List.length_nil, List.reduceReplicate, List.cons_append, List.nil_append, List.getD_cons_zero, List.getD_cons_succ, List.set_cons_zero, List.set_cons_succ, Nat.reduceAdd, Nat.reduceSub, Nat.zero_add, bindT_nm, bindT_tup, bindTs_nil, bindTs_cons, Option.bind_some, tgSlots, wipeE, List.append_nil, Bool.not_true, Bool.not_false, Bool.false_eq_true, if_true, if_false, reduceIte, Bool.or_true, Bool.or_false, Bool.true_or, Bool.false_or, true_and, and_true]
                  refine ⟨fine.pl hy, ?_⟩
                  cases y with
                  | tuple os =>
                    obtain ⟨hl2, hf2⟩ := fine.tup hy
                    simp only [wS, wE, wA, wO, wI, seqK_next, seqK_ret, fnK_ret, fnK_next, oP_some, oP_none, bP_bool, List.map_cons, List.map_nil, List.length_cons, List.length_nil, List.reduceReplicate, List.cons_append, List.nil_append, List.getD_cons_zero, List.getD_cons_succ, List.set_cons_zero, List.set_cons_succ, Nat.reduceAdd, Nat.reduceSub, Nat.zero_add, bindT_nm, bindT_tup, bindTs_nil, bindTs_cons, Option.bind_some, tgSlots, wipeE, List.append_nil, Bool.not_true, Bool.not_false, Bool.false_eq_true, if_true, if_false, reduceIte, Bool.or_true, Bool.or_false, Bool.true_or, Bool.false_or, true_and, and_true, isi_tt, len_tup, cmp_le, it_tup]
                    by_cases g5 : 1 ≤ os.length
                    · by_cases g6 : os.length ≤ 30
                      · have g5' : (1 : Int) ≤ (os.length : Int) := by omega
                        have g6' : (os.length : Int) ≤ 30 := by omega
                        simp only [g5', g6', decide_true]
                        simp only [wS, wE, wA, wO, wI, seqK_next, seqK_ret, fnK_ret, fnK_next, oP_some, oP_none, bP_bool, List.map_cons, List.map_nil, List.length_cons, List.length_nil, List.reduceReplicate, List.cons_append, List.nil_append, List.getD_cons_zero, List.getD_cons_succ, List.set_cons_zero, List.set_cons_succ, Nat.reduceAdd, Nat.reduceSub, Nat.zero_add, bindT_nm, bindT_tup, bindTs_nil, bindTs_cons, Option.bind_some, tgSlots, wipeE, List.append_nil, Bool.not_true, Bool.not_false, Bool.false_eq_true, if_true, if_false, reduceIte, Bool.or_true, Bool.or_false, Bool.true_or, Bool.false_or, true_and, and_true]
                        refine ⟨by show _ ≤ 1000000; omega, ?_⟩
                        refine (wC_id (g := fun o => .bool (isOrder m o)) (fun o ho P => ?_) _).mpr ?_
                        · rw [s_is_order (by omega) (hf2 o ho) (by omega)]
                        · rw [bi_all]
                          simp only [wS, wE, wA, wO, wI, seqK_next, seqK_ret, fnK_ret, fnK_next, oP_some, oP_none, bP_bool, List.map_cons, List.map_nil, List.length_cons, List.length_nil, List.reduceReplicate, List.cons_append, List.nil_append, List.getD_cons_zero, List.getD_cons_succ, List.set_cons_zero, List.set_cons_succ, Nat.reduceAdd, Nat.reduceSub, Nat.zero_add, bindT_nm, bindT_tup, bindTs_nil, bindTs_cons, Option.bind_some, tgSlots, wipeE, List.append_nil, Bool.not_true, Bool.not_false, Bool.false_eq_true, if_true, if_false, reduceIte, Bool.or_true, Bool.or_false, Bool.true_or, Bool.false_or, true_and, and_true]
                          simp [isProfile, g1, g2, g3, g4, g5, g6]
                      · have g5' : (1 : Int) ≤ (os.length : Int) := by omega
                        have g6' : ¬ (os.length : Int) ≤ 30 := by omega
                        simp [g5', g6', isProfile, g6]
                    · have g5' : ¬ (1 : Int) ≤ (os.length : Int) := by omega
                      simp only [g5', decide_false]
                      simp only [wS, wE, wA, wO, wI, seqK_next, seqK_ret, fnK_ret, fnK_next, oP_some, oP_none, bP_bool, List.map_cons, List.map_nil, List.length_cons, List.length_nil, List.reduceReplicate, List.cons_append, List.nil_append, List.getD_cons_zero, List.getD_cons_succ, List.set_cons_zero, List.set_cons_succ, Nat.reduceAdd, Nat.reduceSub, Nat.zero_add, bindT_nm, bindT_tup, bindTs_nil, bindTs_cons, Option.bind_some, tgSlots, wipeE, List.append_nil, Bool.not_true, Bool.not_false, Bool.false_eq_true, if_true, if_false, reduceIte, Bool.or_true, Bool.or_false, Bool.true_or, Bool.false_or, true_and, and_true]
                      simp [isProfile, g5]
                  | _ => simp [isiD, isProfile]
                · simp only [g1, g2, g3, g4, decide_true, decide_false]
                  simp only [wS, wE, wA, wO, wI, seqK_next, seqK_ret, fnK_ret, fnK_next, oP_some, oP_none, bP_bool, List.map_cons, List.map_nil, List.length_cons, List.length_nil, List.reduceReplicate, List.cons_append, List.nil_append, List.getD_cons_zero, List.getD_cons_succ, List.set_cons_zero, List.set_cons_succ, Nat.reduceAdd, Nat.reduceSub, Nat.zero_add, bindT_nm, bindT_tup, bindTs_nil, bindTs_cons, Option.bind_some, tgSlots, wipeE, List.append_nil, Bool.not_true, Bool.not_false, Bool.false_eq_true, if_true, if_false, reduceIte, Bool.or_true, Bool.or_false, Bool.true_or, Bool.false_or, true_and, and_true]
                  cases y <;> simp [isProfile, g4]
              · simp only [g1, g2, g3, decide_true, decide_false]
                simp only [wS, wE, wA, wO, wI, seqK_next, seqK_ret, fnK_ret, fnK_next, oP_some, oP_none, bP_bool, List.map_cons, List.map_nil, List.length_cons, List.length_nil, List.reduceReplicate, List.cons_append, List.nil_append, List.getD_cons_zero, List.getD_cons_succ, List.set_cons_zero, List.set_cons_succ, Nat.reduceAdd, Nat.reduceSub, Nat.zero_add, bindT_nm, bindT_tup, bindTs_nil, bindTs_cons, Option.bind_some, tgSlots, wipeE, List.append_nil, Bool.not_true, Bool.not_false, Bool.false_eq_true, if_true, if_false, reduceIte, Bool.or_true, Bool.or_false, Bool.true_or, Bool.false_or, true_and, and_true]
                cases y <;> simp [isProfile, g3]
            · simp only [g1, g2, decide_true, decide_false]
              simp only [wS, wE, wA, wO, wI, seqK_next, seqK_ret, fnK_ret, fnK_next, oP_some, oP_none, bP_bool, List.map_cons, List.map_nil, List.length_cons, List.length_nil, List.reduceReplicate, List.cons_append, List.nil_append, List.getD_cons_zero, List.getD_cons_succ, List.set_cons_zero, List.set_cons_succ, Nat.reduceAdd, Nat.reduceSub, Nat.zero_add, bindT_nm, bindT_tup, bindTs_nil, bindTs_cons, Option.bind_some, tgSlots, wipeE, List.append_nil, Bool.not_true, Bool.not_false, Bool.false_eq_true, if_true, if_false, reduceIte, Bool.or_true, Bool.or_false, Bool.true_or, Bool.false_or, true_and, and_true]
              cases y <;> simp [isProfile, g2]
          · simp only [g1, decide_false]
            simp only [wS, wE, wA, wO, wI, seqK_next, seqK_ret, fnK_ret, fnK_next, oP_some, oP_none, bP_bool, List.map_cons, List.map_nil, List.length_cons, List.length_nil, List.reduceReplicate, List.cons_append, List.nil_append, List.getD_cons_zero, List.getD_cons_succ, List.set_cons_zero, List.set_cons_succ, Nat.reduceAdd, Nat.reduceSub, Nat.zero_add, bindT_nm, bindT_tup, bindTs_nil, bindTs_cons, Option.bind_some, tgSlots, wipeE, List.append_nil, Bool.not_true, Bool.not_false, Bool.false_eq_true, if_true, if_false, reduceIte, Bool.or_true, Bool.or_false, Bool.true_or, Bool.false_or, true_and, and_true]
            cases y <;> simp [isProfile, g1]
        | _ => cases y <;> simp [isWhole, isProfile]
      | _ => simp [isWhole, isProfile]
  | none => simp [isiD, isProfile]
  | bool _ => simp [isiD, isProfile]
  | int _ => simp [isiD, isProfile]
  | str _ => simp [isiD, isProfile]
  | list _ => simp [isiD, isProfile]
  | dict _ => simp [isiD, isProfile]
end EV.Law
end

section
set_option Elab.async false
set_option linter.all false
set_option autoImplicit false
set_option maxRecDepth 100000
set_option maxHeartbeats 1000000
namespace EV.Law
open PySem EV
def isSeated (m k : Int) : D → Bool
  | .tuple cs => decide ((cs.length : Int) = k) && (cs.all (inR m) && rising cs)
  | _ => false
/-- the look that a row of numbers rises, by all -/
theorem rise_all {cs : List D} (hw : cs.all isWhole = true) (hl : cs.length ≤ 4000) (P : List D → Prop) :
    wC (fun x P => oP (binD .sub x (.int 1)) fun y => oP (ixD (.tuple cs) y) fun a => oP (ixD (.tuple cs) x) fun b => oP (cmpD .lt a b) fun k => P (some (.bool k))) ((List.range (cs.length - 1)).map fun k => .int (1 + (k : Nat))) P ↔ P ((List.range (cs.length - 1)).map fun k => .bool (lt2 cs k)) := by
  refine wC_map (g := fun k => .bool (lt2 cs k)) (fun k hk P => ?_) _
  have hk : k + 1 < cs.length := by have := List.mem_range.mp hk; omega
  have hall : ∀ c ∈ cs, ∃ i, c = .int i := fun c hc => ⟨_, whole_int (List.all_eq_true.mp hw c hc)⟩
  have e1 : (1 + (k : Int) - 1) = (k : Int) := by omega
  have e2 : (1 + (k : Int)) = ((k + 1 : Nat) : Int) := by omega
  simp only [binD, oP_some]
  rw [e1, e2]
  simp only [ix_tup]
  rw [atI_nat (by omega), atI_nat hk]
  obtain ⟨i, hi⟩ := hall cs[k] (List.getElem_mem _)
  obtain ⟨j, hj⟩ := hall cs[k + 1] (List.getElem_mem _)
  unfold lt2
  rw [List.getElem?_eq_getElem (by omega : k < cs.length), List.getElem?_eq_getElem hk, hi, hj]
  simp only [oP_some, cmpD]
/-- .., by the list of the places where it does not -/
theorem rise_fil {cs : List D} (hw : cs.all isWhole = true) (hl : cs.length ≤ 4000) (P : List D → Prop) :
    wC (fun x P => oP (binD .sub x (.int 1)) fun y => oP (ixD (.tuple cs) y) fun a => oP (ixD (.tuple cs) x) fun b => oP (cmpD .ge a b) fun k => if k = true then P (some x) else P none) ((List.range (cs.length - 1)).map fun k => .int (1 + (k : Nat))) P ↔ P (((List.range (cs.length - 1)).filter fun k => !lt2 cs k).map fun k => .int (1 + (k : Nat))) := by
  refine wC_fil (c := fun k => !lt2 cs k) (g := fun k => .int (1 + (k : Nat))) (fun k hk P => ?_) _
  have hk : k + 1 < cs.length := by have := List.mem_range.mp hk; omega
  have hall : ∀ c ∈ cs, ∃ i, c = .int i := fun c hc => ⟨_, whole_int (List.all_eq_true.mp hw c hc)⟩
  have e1 : (1 + (k : Int) - 1) = (k : Int) := by omega
  have e2 : (1 + (k : Int)) = ((k + 1 : Nat) : Int) := by omega
  simp only [binD, oP_some]
  rw [e1, e2]
  simp only [ix_tup]
  rw [atI_nat (by omega), atI_nat hk]
  obtain ⟨i, hi⟩ := hall cs[k] (List.getElem_mem _)
  obtain ⟨j, hj⟩ := hall cs[k + 1] (List.getElem_mem _)
  unfold lt2
  rw [List.getElem?_eq_getElem (by omega : k < cs.length), List.getElem?_eq_getElem hk, hi, hj]
  simp only [oP_some, cmp_ge]
  by_cases hij : i < j
  · have : ¬ j ≤ i := by omega
    simp [hij, this]
  · have : j ≤ i := by omega
    simp [hij, this]
theorem s_is_seated {n : Nat} (hn : 2 ≤ n) {v : D} (hv : fine v = true) (m k : Int) (y : D) (P : D → Prop) (X : XP) : Run T 2000 n fis_seated [.tuple [.int m, y, .int k], v] P X ↔ P (.bool (isSeated m k v)) := by
  obtain ⟨t, rfl⟩ : ∃ t, n = t + 1 := ⟨n - 1, by omega⟩
  have ht : 1 ≤ t := by omega
  have hp := fine.pl hv
  refine Run.val (run_of (fi := i_is_seated) rfl rfl ?_) P X
  simp only [i_is_seated, b_is_seated]
  simp only [wS, wE, wA, wO, wI, seqK_next, seqK_ret, fnK_ret, fnK_next, oP_some, oP_none, bP_bool, List.map_cons, List.map_nil, List.length_cons, List.length_nil, List.reduceReplicate, List.cons_append, List.nil_append, List.getD_cons_zero, List.getD_cons_succ, List.set_cons_zero, List.set_cons_succ, Nat.reduceAdd, Nat.reduceSub, Nat.zero_add, bindT_nm, bindT_tup, bindTs_nil, bindTs_cons, Option.bind_some, tgSlots, wipeE, List.append_nil, Bool.not_true, Bool.not_false, Bool.false_eq_true, if_true, if_false, reduceIte, Bool.or_true, Bool.or_false, Bool.true_or, Bool.false_or, true_and, and_true]
  refine ⟨hp, ?_⟩
  cases v with
  | tuple cs =>
    obtain ⟨hl, hf⟩ := fine.tup hv
    simp only [wS, wE, wA, wO, wI, seqK_next, seqK_ret, fnK_ret, fnK_next, oP_some, oP_none, bP_bool, List.map_cons, List.map_nil, List.length_cons, List.length_nil, List.reduceReplicate, List.cons_append, List.nil_append, List.getD_cons_zero, List.getD_cons_succ, List.set_cons_zero, List.set_cons_succ, Nat.reduceAdd, Nat.reduceSub, Nat.zero_add, bindT_nm, bindT_tup, bindTs_nil, bindTs_cons, Option.bind_some, tgSlots, wipeE, List.append_nil, Bool.not_true, Bool.not_false, Bool.false_eq_true, if_true, if_false, reduceIte, Bool.or_true, Bool.or_false, Bool.true_or, Bool.false_or, true_and, and_true, isi_tt, len_tup, cmp_ne_int, it_tup, ix_tup, at_c2, at_c0]
    by_cases h1 : (cs.length : Int) = k
    · rw [decide_eq_true h1]
      simp only [wS, wE, wA, wO, wI, seqK_next, seqK_ret, fnK_ret, fnK_next, oP_some, oP_none, bP_bool, List.map_cons, List.map_nil, List.length_cons, List.length_nil, List.reduceReplicate, List.cons_append, List.nil_append, List.getD_cons_zero, List.getD_cons_succ, List.set_cons_zero, List.set_cons_succ, Nat.reduceAdd, Nat.reduceSub, Nat.zero_add, bindT_nm, bindT_tup, bindTs_nil, bindTs_cons, Option.bind_some, tgSlots, wipeE, List.append_nil, Bool.not_true, Bool.not_false, Bool.false_eq_true, if_true, if_false, reduceIte, Bool.or_true, Bool.or_false, Bool.true_or, Bool.false_or, true_and, and_true]
      refine ⟨by show _ ≤ 1000000; omega, ?_⟩
      refine (wC_id (g := fun c => .bool (isWhole c)) (fun c hc P => ?_) _).mpr ?_
      · rw [s_is_whole ht (hf c hc)]
      · rw [bi_all]
        simp only [wS, wE, wA, wO, wI, seqK_next, seqK_ret, fnK_ret, fnK_next, oP_some, oP_none, bP_bool, List.map_cons, List.map_nil, List.length_cons, List.length_nil, List.reduceReplicate, List.cons_append, List.nil_append, List.getD_cons_zero, List.getD_cons_succ, List.set_cons_zero, List.set_cons_succ, Nat.reduceAdd, Nat.reduceSub, Nat.zero_add, bindT_nm, bindT_tup, bindTs_nil, bindTs_cons, Option.bind_some, tgSlots, wipeE, List.append_nil, Bool.not_true, Bool.not_false, Bool.false_eq_true, if_true, if_false, reduceIte, Bool.or_true, Bool.or_false, Bool.true_or, Bool.false_or, true_and, and_true]
        cases hw : cs.all isWhole with
        | false =>
          simp only [wS, wE, wA, wO, wI, seqK_next, seqK_ret, fnK_ret, fnK_next, oP_some, oP_none, bP_bool, List.map_cons, List.map_nil, List.length_cons, List.length_nil, List.reduceReplicate, List.cons_append, List.nil_append, List.getD_cons_zero, List.getD_cons_succ, List.set_cons_zero, List.set_cons_succ, Nat.reduceAdd, Nat.reduceSub, Nat.zero_add, bindT_nm, bindT_tup, bindTs_nil, bindTs_cons, Option.bind_some, tgSlots, wipeE, List.append_nil, Bool.not_true, Bool.not_false, Bool.false_eq_true, if_true, if_false, reduceIte, Bool.or_true, Bool.or_false, Bool.true_or, Bool.false_or, true_and, and_true]
          have : cs.all (inR m) = false := by
            cases z : cs.all (inR m) with
            | false => rfl
            | true => rw [inR_all z] at hw; cases hw
          simp [isSeated, this]
        | true =>
          simp only [wS, wE, wA, wO, wI, seqK_next, seqK_ret, fnK_ret, fnK_next, oP_some, oP_none, bP_bool, List.map_cons, List.map_nil, List.length_cons, List.length_nil, List.reduceReplicate, List.cons_append, List.nil_append, List.getD_cons_zero, List.getD_cons_succ, List.set_cons_zero, List.set_cons_succ, Nat.reduceAdd, Nat.reduceSub, Nat.zero_add, bindT_nm, bindT_tup, bindTs_nil, bindTs_cons, Option.bind_some, tgSlots, wipeE, List.append_nil, Bool.not_true, Bool.not_false, Bool.false_eq_true, if_true, if_false, reduceIte, Bool.or_true, Bool.or_false, Bool.true_or, Bool.false_or, true_and, and_true]
          refine ⟨by show _ ≤ 1000000; omega, ?_⟩
          refine (wC_id (g := fun c => .bool (inR m c)) (fun c hc P => ?_) _).mpr ?_
          · have e := whole_int (List.all_eq_true.mp hw c hc)
            rw [e]
            simp only [cmp_le, cmp_lt, oP_some, inR]
            by_cases h0 : 0 ≤ vI c <;> simp [h0]
          · rw [bi_all]
            simp only [wS, wE, wA, wO, wI, seqK_next, seqK_ret, fnK_ret, fnK_next, oP_some, oP_none, bP_bool, List.map_cons, List.map_nil, List.length_cons, List.length_nil, List.reduceReplicate, List.cons_append, List.nil_append, List.getD_cons_zero, List.getD_cons_succ, List.set_cons_zero, List.set_cons_succ, Nat.reduceAdd, Nat.reduceSub, Nat.zero_add, bindT_nm, bindT_tup, bindTs_nil, bindTs_cons, Option.bind_some, tgSlots, wipeE, List.append_nil, Bool.not_true, Bool.not_false, Bool.false_eq_true, if_true, if_false, reduceIte, Bool.or_true, Bool.or_false, Bool.true_or, Bool.false_or, true_and, and_true]
            cases hr : cs.all (inR m) with
            | false => simp [isSeated, hr]
            | true =>
              simp only [wS, wE, wA, wO, wI, seqK_next, seqK_ret, fnK_ret, fnK_next, oP_some, oP_none, bP_bool, List.map_cons, List.map_nil, List.length_cons, List.length_nil, List.reduceReplicate, List.cons_append, List.nil_append, List.getD_cons_zero, List.getD_cons_succ, List.set_cons_zero, List.set_cons_succ, Nat.reduceAdd, Nat.reduceSub, Nat.zero_add, bindT_nm, bindT_tup, bindTs_nil, bindTs_cons, Option.bind_some, tgSlots, wipeE, List.append_nil, Bool.not_true, Bool.not_false, Bool.false_eq_true, if_true, if_false, reduceIte, Bool.or_true, Bool.or_false, Bool.true_or, Bool.false_or, true_and, and_true]
              rw [rg2 (by decide) (by decide) (by omega) (by omega)]
              simp only [wS, wE, wA, wO, wI, seqK_next, seqK_ret, fnK_ret, fnK_next, oP_some, oP_none, bP_bool, List.map_cons, List.map_nil, List.length_cons, List.length_nil, List.reduceReplicate, List.cons_append, List.nil_append, List.getD_cons_zero, List.getD_cons_succ, List.set_cons_zero, List.set_cons_succ, Nat.reduceAdd, Nat.reduceSub, Nat.zero_add, bindT_nm, bindT_tup, bindTs_nil, bindTs_cons, Option.bind_some, tgSlots, wipeE, List.append_nil, Bool.not_true, Bool.not_false, Bool.false_eq_true, if_true, if_false, reduceIte, Bool.or_true, Bool.or_false, Bool.true_or, Bool.false_or, true_and, and_true]
              refine ⟨by rw [List.length_map, List.length_range]; show _ ≤ 1000000; omega, ?_⟩
              have en : (((cs.length : Nat) : Int) - 1).toNat = cs.length - 1 := by omega
              rw [en]
              refine (rise_all hw hl _).mpr ?_
              rw [bi_all]
              simp only [wS, wE, wA, wO, wI, seqK_next, seqK_ret, fnK_ret, fnK_next, oP_some, oP_none, bP_bool, List.map_cons, List.map_nil, List.length_cons, List.length_nil, List.reduceReplicate, List.cons_append, List.nil_append, List.getD_cons_zero, List.getD_cons_succ, List.set_cons_zero, List.set_cons_succ, Nat.reduceAdd, Nat.reduceSub, Nat.zero_add, bindT_nm, bindT_tup, bindTs_nil, bindTs_cons, Option.bind_some, tgSlots, wipeE, List.append_nil, Bool.not_true, Bool.not_false, Bool.false_eq_true, if_true, if_false, reduceIte, Bool.or_true, Bool.or_false, Bool.true_or, Bool.false_or, true_and, and_true]
              simp [isSeated, hr, h1, rising]
    · rw [decide_eq_false h1]
      simp only [wS, wE, wA, wO, wI, seqK_next, seqK_ret, fnK_ret, fnK_next, oP_some, oP_none, bP_bool, List.map_cons, List.map_nil, List.length_cons, List.length_nil, List.reduceReplicate, List.cons_append, List.nil_append, List.getD_cons_zero, List.getD_cons_succ, List.set_cons_zero, List.set_cons_succ, Nat.reduceAdd, Nat.reduceSub, Nat.zero_add, bindT_nm, bindT_tup, bindTs_nil, bindTs_cons, Option.bind_some, tgSlots, wipeE, List.append_nil, Bool.not_true, Bool.not_false, Bool.false_eq_true, if_true, if_false, reduceIte, Bool.or_true, Bool.or_false, Bool.true_or, Bool.false_or, true_and, and_true]
      simp [isSeated, h1]
  | none => simp [isiD, isSeated]
  | bool _ => simp [isiD, isSeated]
  | int _ => simp [isiD, isSeated]
  | str _ => simp [isiD, isSeated]
  | list _ => simp [isiD, isSeated]
  | dict _ => simp [isiD, isSeated]
/-! ### the law's own looks -/
def wIn (lo hi : Int) : D → Bool
  | .int i => decide (lo ≤ i) && decide (i ≤ hi)
  | _ => false
theorem s_lwhole {n : Nat} (hn : 1 ≤ n) {v : D} (hv : fine v = true) (lo hi : Int) (P : D → Prop) (X : XP) : Run T 2000 n f_law_whole [v, .int lo, .int hi] P X ↔ P (.bool (wIn lo hi v)) := by
  obtain ⟨m, rfl⟩ : ∃ m, n = m + 1 := ⟨n - 1, by omega⟩
  have hv := fine.pl hv
  refine Run.val (run_of (fi := i__law_whole) rfl rfl ?_) P X
  simp only [i__law_whole, b__law_whole]
  simp only [wS, wE, wA, wO, wI, seqK_next, seqK_ret, fnK_ret, fnK_next, oP_some, oP_none, bP_bool, List.map_cons, List.map_nil, List.length_cons, List.length_nil, List.reduceReplicate, List.cons_append, List.nil_append, List.getD_cons_zero, List.getD_cons_succ, List.set_cons_zero, List.set_cons_succ, Nat.reduceAdd, Nat.reduceSub, Nat.zero_add, bindT_nm, bindT_tup, bindTs_nil, bindTs_cons, Option.bind_some, tgSlots, wipeE, List.append_nil, Bool.not_true, Bool.not_false, Bool.false_eq_true, if_true, if_false, reduceIte, Bool.or_true, Bool.or_false, Bool.true_or, Bool.false_or, true_and, and_true]
  refine ⟨hv, ?_⟩
  cases v with
  | int i =>
    by_cases h : lo ≤ i <;> simp [isiD, wIn, PyData.plain, cmp_le, h]
  | _ => simp [isiD, wIn, PyData.plain, cmp_le]
theorem wIn_inR (a : Int) (c : D) : wIn 0 (a - 1) c = inR a c := by
  cases c with
  | int i =>
    have e : decide (i ≤ a - 1) = decide (i < a) := decide_eq_decide.mpr (by omega)
    simp [wIn, inR, e]
  | _ => rfl
theorem cmp_ne_nil {xs : List D} (h : PyData.plainAll xs = true) : cmpD .ne (.list xs) (.list []) = some (!xs.isEmpty) := by
  have : okEq (.list xs) (.list []) = true := by simp [okEq, PyData.plain, h, PyData.plainAll, PyData.depth, PyData.depthAll]
  simp only [cmpD, this, if_true]
  cases xs <;> simp [PyData.eqv, PyData.eqvAll]
theorem cmp_eq_nil {xs : List D} (h : PyData.plainAll xs = true) : cmpD .eq (.list xs) (.list []) = some xs.isEmpty := by
  have : okEq (.list xs) (.list []) = true := by simp [okEq, PyData.plain, h, PyData.plainAll, PyData.depth, PyData.depthAll]
  simp only [cmpD, this, if_true]
  cases xs <;> simp [PyData.eqv, PyData.eqvAll]
theorem cmp_eq_unit {xs : List D} (h : PyData.plainAll xs = true) : cmpD .eq (.tuple xs) (.tuple []) = some xs.isEmpty := by
  have : okEq (.tuple xs) (.tuple []) = true := by simp [okEq, PyData.plain, h, PyData.plainAll, PyData.depth, PyData.depthAll]
  simp only [cmpD, this, if_true]
  cases xs <;> simp [PyData.eqv, PyData.eqvAll]
theorem plainAll_ints {α : Type} (f : α → Int) (xs : List α) : PyData.plainAll (xs.map fun x => .int (f x)) = true := by
  induction xs with
  | nil => rfl
  | cons x xs ih => simp [PyData.plainAll, PyData.plain, ih]
theorem filter_not_all {α : Type} (p : α → Bool) (xs : List α) : (xs.filter fun x => !p x).isEmpty = xs.all p := by
  induction xs with
  | nil => rfl
  | cons x xs ih =>
    rw [List.filter_cons, List.all_cons]
    by_cases h : p x = true
    · simp [h, ih]
    · simp [h]
theorem plain_allE : ∀ {ds : List D}, (∀ d ∈ ds, d.plain = true) → PyData.plainAll ds = true
  | [], _ => rfl
  | d :: ds, h => by
    simp only [PyData.plainAll, Bool.and_eq_true]
    exact ⟨h d List.mem_cons_self, plain_allE fun e he => h e (List.mem_cons_of_mem _ he)⟩
theorem bad_row {xs : List D} (hf : ∀ d ∈ xs, fine d = true) (p : D → Bool) : cmpD .ne (.list (xs.filter p)) (.list []) = some (!(xs.filter p).isEmpty) :=
  cmp_ne_nil (plain_allE fun y hy => fine.pl (hf y ((List.mem_filter.mp hy).1)))
theorem t_lorder {t : Nat} (ht : 1 ≤ t) {m : Int} {y z o : D} (u2 : Option D) (ho : fine o = true) (Q : Fl → Env → Prop) (X : XP)
    (h1 : isOrder m o = true → Q .next [some (.tuple [.int m, y, z]), some o, u2]) (h2 : isOrder m o = false → Q (.ret (.bool false)) [some (.tuple [.int m, y, z]), some o, u2]) :
    wS (Run T 2000 t) 2000 l__law_is_profile_1 [some (.tuple [.int m, y, z]), some o, u2] Q X := by
  have hp := fine.pl ho
  unfold l__law_is_profile_1
  simp only [wS, wE, wA, wO, wI, seqK_next, seqK_ret, fnK_ret, fnK_next, oP_some, oP_none, bP_bool, List.map_cons, List.map_nil, List.length_cons, List.length_nil, List.reduceReplicate, List.cons_append, List.nil_append, List.getD_cons_zero, List.getD_cons_succ, List.set_cons_zero, List.set_cons_succ, Nat.reduceAdd, Nat.reduceSub, Nat.zero_add, bindT_nm, bindT_tup, bindTs_nil, bindTs_cons, Option.bind_some, tgSlots, wipeE, List.append_nil, Bool.not_true, Bool.not_false, Bool.false_eq_true, if_true, if_false, reduceIte, Bool.or_true, Bool.or_false, Bool.true_or, Bool.false_or, true_and, and_true]
  refine ⟨hp, ?_⟩
  cases o with
  | tuple cs =>
    obtain ⟨hl, hf⟩ := fine.tup ho
    simp only [wS, wE, wA, wO, wI, seqK_next, seqK_ret, fnK_ret, fnK_next, oP_some, oP_none, bP_bool, List.map_cons, List.map_nil, List.length_cons, List.length_nil, List.reduceReplicate, List.cons_append, List.nil_append, List.getD_cons_zero, List.getD_cons_succ, List.set_cons_zero, List.set_cons_succ, Nat.reduceAdd, Nat.reduceSub, Nat.zero_add, bindT_nm, bindT_tup, bindTs_nil, bindTs_cons, Option.bind_some, tgSlots, wipeE, List.append_nil, Bool.not_true, Bool.not_false, Bool.false_eq_true, if_true, if_false, reduceIte, Bool.or_true, Bool.or_false, Bool.true_or, Bool.false_or, true_and, and_true, isi_tt, it_tup]
    rw [cmp_eq_unit (show PyData.plainAll cs = true from hp)]
    simp only [oP_some]
    cases he : cs.isEmpty with
    | true =>
      have : cs = [] := List.isEmpty_iff.mp he
      subst this
      simp only [wS, wE, wA, wO, wI, seqK_next, seqK_ret, fnK_ret, fnK_next, oP_some, oP_none, bP_bool, List.map_cons, List.map_nil, List.length_cons, List.length_nil, List.reduceReplicate, List.cons_append, List.nil_append, List.getD_cons_zero, List.getD_cons_succ, List.set_cons_zero, List.set_cons_succ, Nat.reduceAdd, Nat.reduceSub, Nat.zero_add, bindT_nm, bindT_tup, bindTs_nil, bindTs_cons, Option.bind_some, tgSlots, wipeE, List.append_nil, Bool.not_true, Bool.not_false, Bool.false_eq_true, if_true, if_false, reduceIte, Bool.or_true, Bool.or_false, Bool.true_or, Bool.false_or, true_and, and_true]
      exact h2 rfl
    | false =>
      have h0 : 1 ≤ cs.length := by cases cs with | nil => cases he | cons _ _ => simp
      simp only [wS, wE, wA, wO, wI, seqK_next, seqK_ret, fnK_ret, fnK_next, oP_some, oP_none, bP_bool, List.map_cons, List.map_nil, List.length_cons, List.length_nil, List.reduceReplicate, List.cons_append, List.nil_append, List.getD_cons_zero, List.getD_cons_succ, List.set_cons_zero, List.set_cons_succ, Nat.reduceAdd, Nat.reduceSub, Nat.zero_add, bindT_nm, bindT_tup, bindTs_nil, bindTs_cons, Option.bind_some, tgSlots, wipeE, List.append_nil, Bool.not_true, Bool.not_false, Bool.false_eq_true, if_true, if_false, reduceIte, Bool.or_true, Bool.or_false, Bool.true_or, Bool.false_or, true_and, and_true, ix_tup, at_c0, binD]
      refine ⟨by show _ ≤ 1000000; omega, ?_⟩
      refine (wC_fid (c := fun c => !inR m c) (g := fun c => c) (fun c hc P => ?_) _).mpr ?_
      · rw [s_lwhole ht (hf c hc), wIn_inR]
        cases inR m c <;> simp
      · rw [List.map_id', bad_row hf, filter_not_all]
        simp only [wS, wE, wA, wO, wI, seqK_next, seqK_ret, fnK_ret, fnK_next, oP_some, oP_none, bP_bool, List.map_cons, List.map_nil, List.length_cons, List.length_nil, List.reduceReplicate, List.cons_append, List.nil_append, List.getD_cons_zero, List.getD_cons_succ, List.set_cons_zero, List.set_cons_succ, Nat.reduceAdd, Nat.reduceSub, Nat.zero_add, bindT_nm, bindT_tup, bindTs_nil, bindTs_cons, Option.bind_some, tgSlots, wipeE, List.append_nil, Bool.not_true, Bool.not_false, Bool.false_eq_true, if_true, if_false, reduceIte, Bool.or_true, Bool.or_false, Bool.true_or, Bool.false_or, true_and, and_true]
        cases hr : cs.all (inR m) with
        | false =>
          simp only [wS, wE, wA, wO, wI, seqK_next, seqK_ret, fnK_ret, fnK_next, oP_some, oP_none, bP_bool, List.map_cons, List.map_nil, List.length_cons, List.length_nil, List.reduceReplicate, List.cons_append, List.nil_append, List.getD_cons_zero, List.getD_cons_succ, List.set_cons_zero, List.set_cons_succ, Nat.reduceAdd, Nat.reduceSub, Nat.zero_add, bindT_nm, bindT_tup, bindTs_nil, bindTs_cons, Option.bind_some, tgSlots, wipeE, List.append_nil, Bool.not_true, Bool.not_false, Bool.false_eq_true, if_true, if_false, reduceIte, Bool.or_true, Bool.or_false, Bool.true_or, Bool.false_or, true_and, and_true]
          exact h2 (by simp [isOrder, hr])
        | true =>
          have hs : setI (.tuple cs) = some (cs.map vI) := by
            show (if cs.length ≤ 4000 then intsOf cs else none) = _
            rw [if_pos hl, ints_all (inR_all hr)]
          simp only [wS, wE, wA, wO, wI, seqK_next, seqK_ret, fnK_ret, fnK_next, oP_some, oP_none, bP_bool, List.map_cons, List.map_nil, List.length_cons, List.length_nil, List.reduceReplicate, List.cons_append, List.nil_append, List.getD_cons_zero, List.getD_cons_succ, List.set_cons_zero, List.set_cons_succ, Nat.reduceAdd, Nat.reduceSub, Nat.zero_add, bindT_nm, bindT_tup, bindTs_nil, bindTs_cons, Option.bind_some, tgSlots, wipeE, List.append_nil, Bool.not_true, Bool.not_false, Bool.false_eq_true, if_true, if_false, reduceIte, Bool.or_true, Bool.or_false, Bool.true_or, Bool.false_or, true_and, and_true, hs, cmp_ne_int, len_tup]
          have e : decide (((cs.map vI).eraseDups.length : Int) = (cs.length : Int)) = nod cs := by
            unfold nod
            exact decide_eq_decide.mpr ⟨fun z => by omega, fun z => by omega⟩
          rw [e]
          have ei : isOrder m (.tuple cs) = nod cs := by simp [isOrder, hr, h0]
          rw [ei] at h1 h2
          cases hn : nod cs with
          | true => simp only [wS, wE, wA, wO, wI, seqK_next, seqK_ret, fnK_ret, fnK_next, oP_some, oP_none, bP_bool, List.map_cons, List.map_nil, List.length_cons, List.length_nil, List.reduceReplicate, List.cons_append, List.nil_append, List.getD_cons_zero, List.getD_cons_succ, List.set_cons_zero, List.set_cons_succ, Nat.reduceAdd, Nat.reduceSub, Nat.zero_add, bindT_nm, bindT_tup, bindTs_nil, bindTs_cons, Option.bind_some, tgSlots, wipeE, List.append_nil, Bool.not_true, Bool.not_false, Bool.false_eq_true, if_true, if_false, reduceIte, Bool.or_true, Bool.or_false, Bool.true_or, Bool.false_or, true_and, and_true]; exact h1 hn
          | false => simp only [wS, wE, wA, wO, wI, seqK_next, seqK_ret, fnK_ret, fnK_next, oP_some, oP_none, bP_bool, List.map_cons, List.map_nil, List.length_cons, List.length_nil, List.reduceReplicate, List.cons_append, List.nil_append, List.getD_cons_zero, List.getD_cons_succ, List.set_cons_zero, List.set_cons_succ, Nat.reduceAdd, Nat.reduceSub, Nat.zero_add, bindT_nm, bindT_tup, bindTs_nil, bindTs_cons, Option.bind_some, tgSlots, wipeE, List.append_nil, Bool.not_true, Bool.not_false, Bool.false_eq_true, if_true, if_false, reduceIte, Bool.or_true, Bool.or_false, Bool.true_or, Bool.false_or, true_and, and_true]; exact h2 hn
  | none => simp [isiD]; exact h2 rfl
  | bool _ => simp [isiD]; exact h2 rfl
  | int _ => simp [isiD]; exact h2 rfl
  | str _ => simp [isiD]; exact h2 rfl
  | list _ => simp [isiD]; exact h2 rfl
  | dict _ => simp [isiD]; exact h2 rfl
theorem l_lorders {t : Nat} (ht : 1 ≤ t) {m : Int} {y z : D} (u2 : Option D) (Q : Fl → Env → Prop) (X : XP) : ∀ (os : List D) (u1 : Option D), (∀ o ∈ os, fine o = true) →
    (os.all (isOrder m) = true → ∀ u, Q .next [some (.tuple [.int m, y, z]), u, u2]) → (os.all (isOrder m) = false → ∀ u, Q (.ret (.bool false)) [some (.tuple [.int m, y, z]), u, u2]) →
    wL (fun x ρ Q => wS (Run T 2000 t) 2000 l__law_is_profile_1 (ρ.set 1 (some x)) Q X) os [some (.tuple [.int m, y, z]), u1, u2] Q
  | [], u1, _, h1, _ => h1 rfl u1
  | o :: os, u1, hf, h1, h2 => by
    unfold wL
    simp only [List.set_cons_zero, List.set_cons_succ]
    refine t_lorder ht u2 (hf o List.mem_cons_self) _ X (fun e => ?_) fun e => ?_
    · refine l_lorders ht u2 Q X os _ (fun c hc => hf c (List.mem_cons_of_mem _ hc)) (fun e2 => h1 ?_) fun e2 => h2 ?_
      · rw [List.all_cons, e, e2]; rfl
      · rw [List.all_cons, e, e2]; rfl
    · exact h2 (by rw [List.all_cons, e]; rfl) _
theorem s_lis_profile {n : Nat} (hn : 2 ≤ n) {v : D} (hv : fine v = true) (P : D → Prop) (X : XP) : Run T 2000 n f_law_is_profile [v] P X ↔ P (.bool (isProfile v)) := by
  obtain ⟨t, rfl⟩ : ∃ t, n = t + 1 := ⟨n - 1, by omega⟩
  have ht : 1 ≤ t := by omega
  have hp := fine.pl hv
  refine Run.val (run_of (fi := i__law_is_profile) rfl rfl ?_) P X
  simp only [i__law_is_profile, b__law_is_profile]
  simp only [wS, wE, wA, wO, wI, seqK_next, seqK_ret, fnK_ret, fnK_next, oP_some, oP_none, bP_bool, List.map_cons, List.map_nil, List.length_cons, List.length_nil, List.reduceReplicate, List.cons_append, List.nil_append, List.getD_cons_zero, List.getD_cons_succ, List.set_cons_zero, List.set_cons_succ, Nat.reduceAdd, Nat.reduceSub, Nat.zero_add, bindT_nm, bindT_tup, bindTs_nil, bindTs_cons, Option.bind_some, tgSlots, wipeE, List.append_nil, Bool.not_true, Bool.not_false, Bool.false_eq_true, if_true, if_false, reduceIte, Bool.or_true, Bool.or_false, Bool.true_or, Bool.false_or, true_and, and_true]
  refine ⟨hp, ?_⟩
  cases v with
  | tuple ds =>
    obtain ⟨hl, hf⟩ := fine.tup hv
    match ds, hf with
    | [], _ => simp [isiD, biD, cmp_ne_int, isProfile]
    | [_], _ => simp [isiD, biD, cmp_ne_int, isProfile]
    | [_, _], _ => simp [isiD, biD, cmp_ne_int, isProfile]
    | a :: b :: c :: d :: r, _ =>
      have h3 := not3 a b c d r
      generalize hL : (a :: b :: c :: d :: r : List D).length = L at h3
      simp only [wS, wE, wA, wO, wI, seqK_next, seqK_ret, fnK_ret, fnK_next, oP_some, oP_none, bP_bool, List.map_cons, List.map_nil, List.length_cons, List.length_nil, List.reduceReplicate, List.cons_append, List.nil_append, List.getD_cons_zero, List.getD_cons_succ, List.set_cons_zero, List.set_cons_succ, Nat.reduceAdd, Nat.reduceSub, Nat.zero_add, bindT_nm, bindT_tup, bindTs_nil, bindTs_cons, Option.bind_some, tgSlots, wipeE, List.append_nil, Bool.not_true, Bool.not_false, Bool.false_eq_true, if_true, if_false, reduceIte, Bool.or_true, Bool.or_false, Bool.true_or, Bool.false_or, true_and, and_true, isi_tt, len_tup, hL, cmp_ne_int, h3, decide_false]
      have e : isProfile (.tuple (a :: b :: c :: d :: r)) = false := by cases a <;> cases b <;> cases c <;> rfl
      rw [e]
    | [x, y, z], hf =>
      have hx := hf x (by simp)
      have hy := hf y (by simp)
      have hz := hf z (by simp)
      simp only [wS, wE, wA, wO, wI, seqK_next, seqK_ret, fnK_ret, fnK_next, oP_some, oP_none, bP_bool, List.map_cons, List.map_nil, List.length_cons, List.length_nil, List.reduceReplicate, List.cons_append, List.nil_append, List.getD_cons_zero, List.getD_cons_succ, List.set_cons_zero, List.set_cons_succ, Nat.reduceAdd, Nat.reduceSub, Nat.zero_add, bindT_nm, bindT_tup, bindTs_nil, bindTs_cons, Option.bind_some, tgSlots, wipeE, List.append_nil, Bool.not_true, Bool.not_false, Bool.false_eq_true, if_true, if_false, reduceIte, Bool.or_true, Bool.or_false, Bool.true_or, Bool.false_or, true_and, and_true, isi_tt, len_tup, cmp_ne_int, cast3, decide_true, ix_tup, at_c0, at_c1, at_c2]
      rw [s_lwhole ht hx]
      simp only [bP_bool]
      cases x with
      | int m =>
        simp only [wIn]
        by_cases g1 : 1 ≤ m
        · by_cases g2 : m ≤ 8
          · simp only [g1, g2, decide_true, Bool.and_self, Bool.not_true, Bool.false_eq_true, if_false]
            rw [s_lwhole ht hz]
            simp only [bP_bool]
            cases z with
            | int k =>
              simp only [wIn]
              by_cases g3 : 1 ≤ k
              · by_cases g4 : k ≤ m
                · simp only [g3, g4, decide_true]
                  try simp only [wS, wE, wA, wO, wI, seqK_next, seqK_ret, fnK_ret, fnK_next, oP_some, oP_none, bP_bool, List.map_cons, List.map_nil, List.length_cons, List.length_nil, List.reduceReplicate, List.cons_append, List.nil_append, List.getD_cons_zero, List.getD_cons_succ, List.set_cons_zero, List.set_cons_succ, Nat.reduceAdd, Nat.reduceSub, Nat.zero_add, bindT_nm, bindT_tup, bindTs_nil, bindTs_cons, Option.bind_some, tgSlots, wipeE, List.append_nil, Bool.not_true, Bool.not_false, Bool.false_eq_true, if_true, if_false, reduceIte, Bool.or_true, Bool.or_false, Bool.true_or, Bool.false_or, true_and, and_true]
                  refine ⟨fine.pl hy, ?_⟩
                  cases y with
                  | tuple os =>
                    obtain ⟨hl2, hf2⟩ := fine.tup hy
                    simp only [wS, wE, wA, wO, wI, seqK_next, seqK_ret, fnK_ret, fnK_next, oP_some, oP_none, bP_bool, List.map_cons, List.map_nil, List.length_cons, List.length_nil, List.reduceReplicate, List.cons_append, List.nil_append, List.getD_cons_zero, List.getD_cons_succ, List.set_cons_zero, List.set_cons_succ, Nat.reduceAdd, Nat.reduceSub, Nat.zero_add, bindT_nm, bindT_tup, bindTs_nil, bindTs_cons, Option.bind_some, tgSlots, wipeE, List.append_nil, Bool.not_true, Bool.not_false, Bool.false_eq_true, if_true, if_false, reduceIte, Bool.or_true, Bool.or_false, Bool.true_or, Bool.false_or, true_and, and_true, isi_tt, len_tup, cmp_le, it_tup]
                    by_cases g5 : 1 ≤ os.length
                    · by_cases g6 : os.length ≤ 30
                      · have g5' : (1 : Int) ≤ (os.length : Int) := by omega
                        have g6' : (os.length : Int) ≤ 30 := by omega
                        simp only [g5', g6', decide_true]
                        simp only [wS, wE, wA, wO, wI, seqK_next, seqK_ret, fnK_ret, fnK_next, oP_some, oP_none, bP_bool, List.map_cons, List.map_nil, List.length_cons, List.length_nil, List.reduceReplicate, List.cons_append, List.nil_append, List.getD_cons_zero, List.getD_cons_succ, List.set_cons_zero, List.set_cons_succ, Nat.reduceAdd, Nat.reduceSub, Nat.zero_add, bindT_nm, bindT_tup, bindTs_nil, bindTs_cons, Option.bind_some, tgSlots, wipeE, List.append_nil, Bool.not_true, Bool.not_false, Bool.false_eq_true, if_true, if_false, reduceIte, Bool.or_true, Bool.or_false, Bool.true_or, Bool.false_or, true_and, and_true]
                        refine l_lorders ht _ _ _ os _ hf2 (fun e u => ?_) fun e u => ?_
                        · simp only [wS, wE, wA, wO, wI, seqK_next, seqK_ret, fnK_ret, fnK_next, oP_some, oP_none, bP_bool, List.map_cons, List.map_nil, List.length_cons, List.length_nil, List.reduceReplicate, List.cons_append, List.nil_append, List.getD_cons_zero, List.getD_cons_succ, List.set_cons_zero, List.set_cons_succ, Nat.reduceAdd, Nat.reduceSub, Nat.zero_add, bindT_nm, bindT_tup, bindTs_nil, bindTs_cons, Option.bind_some, tgSlots, wipeE, List.append_nil, Bool.not_true, Bool.not_false, Bool.false_eq_true, if_true, if_false, reduceIte, Bool.or_true, Bool.or_false, Bool.true_or, Bool.false_or, true_and, and_true]
                          simp [isProfile, g1, g2, g3, g4, g5, g6, e]
                        · simp [isProfile, g1, g2, g3, g4, g5, g6, e]
                      · have g5' : (1 : Int) ≤ (os.length : Int) := by omega
                        have g6' : ¬ (os.length : Int) ≤ 30 := by omega
                        simp [g5', g6', isProfile, g6]
                    · have g5' : ¬ (1 : Int) ≤ (os.length : Int) := by omega
                      simp only [g5', decide_false]
                      simp only [wS, wE, wA, wO, wI, seqK_next, seqK_ret, fnK_ret, fnK_next, oP_some, oP_none, bP_bool, List.map_cons, List.map_nil, List.length_cons, List.length_nil, List.reduceReplicate, List.cons_append, List.nil_append, List.getD_cons_zero, List.getD_cons_succ, List.set_cons_zero, List.set_cons_succ, Nat.reduceAdd, Nat.reduceSub, Nat.zero_add, bindT_nm, bindT_tup, bindTs_nil, bindTs_cons, Option.bind_some, tgSlots, wipeE, List.append_nil, Bool.not_true, Bool.not_false, Bool.false_eq_true, if_true, if_false, reduceIte, Bool.or_true, Bool.or_false, Bool.true_or, Bool.false_or, true_and, and_true]
                      simp [isProfile, g5]
                  | _ => simp [isiD, isProfile]
                · simp only [g3, g4, decide_true, decide_false]
                  try simp only [wS, wE, wA, wO, wI, seqK_next, seqK_ret, fnK_ret, fnK_next, oP_some, oP_none, bP_bool, List.map_cons, List.map_nil, List.length_cons, List.length_nil, List.reduceReplicate, List.cons_append, List.nil_append, List.getD_cons_zero, List.getD_cons_succ, List.set_cons_zero, List.set_cons_succ, Nat.reduceAdd, Nat.reduceSub, Nat.zero_add, bindT_nm, bindT_tup, bindTs_nil, bindTs_cons, Option.bind_some, tgSlots, wipeE, List.append_nil, Bool.not_true, Bool.not_false, Bool.false_eq_true, if_true, if_false, reduceIte, Bool.or_true, Bool.or_false, Bool.true_or, Bool.false_or, true_and, and_true]
                  cases y <;> simp [isProfile, g4]
              · simp only [g3, decide_false, Bool.false_and]
                try simp only [wS, wE, wA, wO, wI, seqK_next, seqK_ret, fnK_ret, fnK_next, oP_some, oP_none, bP_bool, List.map_cons, List.map_nil, List.length_cons, List.length_nil, List.reduceReplicate, List.cons_append, List.nil_append, List.getD_cons_zero, List.getD_cons_succ, List.set_cons_zero, List.set_cons_succ, Nat.reduceAdd, Nat.reduceSub, Nat.zero_add, bindT_nm, bindT_tup, bindTs_nil, bindTs_cons, Option.bind_some, tgSlots, wipeE, List.append_nil, Bool.not_true, Bool.not_false, Bool.false_eq_true, if_true, if_false, reduceIte, Bool.or_true, Bool.or_false, Bool.true_or, Bool.false_or, true_and, and_true]
                cases y <;> simp [isProfile, g3]
            | _ => cases y <;> simp [wIn, isProfile]
          · simp only [g1, g2, decide_true, decide_false, Bool.and_false]
            try simp only [wS, wE, wA, wO, wI, seqK_next, seqK_ret, fnK_ret, fnK_next, oP_some, oP_none, bP_bool, List.map_cons, List.map_nil, List.length_cons, List.length_nil, List.reduceReplicate, List.cons_append, List.nil_append, List.getD_cons_zero, List.getD_cons_succ, List.set_cons_zero, List.set_cons_succ, Nat.reduceAdd, Nat.reduceSub, Nat.zero_add, bindT_nm, bindT_tup, bindTs_nil, bindTs_cons, Option.bind_some, tgSlots, wipeE, List.append_nil, Bool.not_true, Bool.not_false, Bool.false_eq_true, if_true, if_false, reduceIte, Bool.or_true, Bool.or_false, Bool.true_or, Bool.false_or, true_and, and_true]
            cases y <;> cases z <;> simp [isProfile, g2]
        · simp only [g1, decide_false, Bool.false_and]
          try simp only [wS, wE, wA, wO, wI, seqK_next, seqK_ret, fnK_ret, fnK_next, oP_some, oP_none, bP_bool, List.map_cons, List.map_nil, List.length_cons, List.length_nil, List.reduceReplicate, List.cons_append, List.nil_append, List.getD_cons_zero, List.getD_cons_succ, List.set_cons_zero, List.set_cons_succ, Nat.reduceAdd, Nat.reduceSub, Nat.zero_add, bindT_nm, bindT_tup, bindTs_nil, bindTs_cons, Option.bind_some, tgSlots, wipeE, List.append_nil, Bool.not_true, Bool.not_false, Bool.false_eq_true, if_true, if_false, reduceIte, Bool.or_true, Bool.or_false, Bool.true_or, Bool.false_or, true_and, and_true]
          cases y <;> cases z <;> simp [isProfile, g1]
      | _ => simp [wIn, isProfile]
  | none => simp [isiD, isProfile]
  | bool _ => simp [isiD, isProfile]
  | int _ => simp [isiD, isProfile]
  | str _ => simp [isiD, isProfile]
  | list _ => simp [isiD, isProfile]
  | dict _ => simp [isiD, isProfile]
theorem s_lis_seated {n : Nat} (hn : 2 ≤ n) {v : D} (hv : fine v = true) (m k : Int) (y : D) (P : D → Prop) (X : XP) : Run T 2000 n f_law_is_seated [.tuple [.int m, y, .int k], v] P X ↔ P (.bool (isSeated m k v)) := by
  obtain ⟨t, rfl⟩ : ∃ t, n = t + 1 := ⟨n - 1, by omega⟩
  have ht : 1 ≤ t := by omega
  have hp := fine.pl hv
  refine Run.val (run_of (fi := i__law_is_seated) rfl rfl ?_) P X
  simp only [i__law_is_seated, b__law_is_seated]
  simp only [wS, wE, wA, wO, wI, seqK_next, seqK_ret, fnK_ret, fnK_next, oP_some, oP_none, bP_bool, List.map_cons, List.map_nil, List.length_cons, List.length_nil, List.reduceReplicate, List.cons_append, List.nil_append, List.getD_cons_zero, List.getD_cons_succ, List.set_cons_zero, List.set_cons_succ, Nat.reduceAdd, Nat.reduceSub, Nat.zero_add, bindT_nm, bindT_tup, bindTs_nil, bindTs_cons, Option.bind_some, tgSlots, wipeE, List.append_nil, Bool.not_true, Bool.not_false, Bool.false_eq_true, if_true, if_false, reduceIte, Bool.or_true, Bool.or_false, Bool.true_or, Bool.false_or, true_and, and_true]
  refine ⟨hp, ?_⟩
  cases v with
  | tuple cs =>
    obtain ⟨hl, hf⟩ := fine.tup hv
    simp only [wS, wE, wA, wO, wI, seqK_next, seqK_ret, fnK_ret, fnK_next, oP_some, oP_none, bP_bool, List.map_cons, List.map_nil, List.length_cons, List.length_nil, List.reduceReplicate, List.cons_append, List.nil_append, List.getD_cons_zero, List.getD_cons_succ, List.set_cons_zero, List.set_cons_succ, Nat.reduceAdd, Nat.reduceSub, Nat.zero_add, bindT_nm, bindT_tup, bindTs_nil, bindTs_cons, Option.bind_some, tgSlots, wipeE, List.append_nil, Bool.not_true, Bool.not_false, Bool.false_eq_true, if_true, if_false, reduceIte, Bool.or_true, Bool.or_false, Bool.true_or, Bool.false_or, true_and, and_true, isi_tt, len_tup, cmp_ne_int, it_tup, ix_tup, at_c2, at_c0, binD]
    by_cases h1 : (cs.length : Int) = k
    · rw [decide_eq_true h1]
      simp only [wS, wE, wA, wO, wI, seqK_next, seqK_ret, fnK_ret, fnK_next, oP_some, oP_none, bP_bool, List.map_cons, List.map_nil, List.length_cons, List.length_nil, List.reduceReplicate, List.cons_append, List.nil_append, List.getD_cons_zero, List.getD_cons_succ, List.set_cons_zero, List.set_cons_succ, Nat.reduceAdd, Nat.reduceSub, Nat.zero_add, bindT_nm, bindT_tup, bindTs_nil, bindTs_cons, Option.bind_some, tgSlots, wipeE, List.append_nil, Bool.not_true, Bool.not_false, Bool.false_eq_true, if_true, if_false, reduceIte, Bool.or_true, Bool.or_false, Bool.true_or, Bool.false_or, true_and, and_true]
      refine ⟨by show _ ≤ 1000000; omega, ?_⟩
      refine (wC_fid (c := fun c => !inR m c) (g := fun c => c) (fun c hc P => ?_) _).mpr ?_
      · rw [s_lwhole ht (hf c hc), wIn_inR]
        cases inR m c <;> simp
      · rw [List.map_id', bad_row hf, filter_not_all]
        simp only [wS, wE, wA, wO, wI, seqK_next, seqK_ret, fnK_ret, fnK_next, oP_some, oP_none, bP_bool, List.map_cons, List.map_nil, List.length_cons, List.length_nil, List.reduceReplicate, List.cons_append, List.nil_append, List.getD_cons_zero, List.getD_cons_succ, List.set_cons_zero, List.set_cons_succ, Nat.reduceAdd, Nat.reduceSub, Nat.zero_add, bindT_nm, bindT_tup, bindTs_nil, bindTs_cons, Option.bind_some, tgSlots, wipeE, List.append_nil, Bool.not_true, Bool.not_false, Bool.false_eq_true, if_true, if_false, reduceIte, Bool.or_true, Bool.or_false, Bool.true_or, Bool.false_or, true_and, and_true]
        cases hr : cs.all (inR m) with
        | false => simp [isSeated, hr]
        | true =>
          simp only [wS, wE, wA, wO, wI, seqK_next, seqK_ret, fnK_ret, fnK_next, oP_some, oP_none, bP_bool, List.map_cons, List.map_nil, List.length_cons, List.length_nil, List.reduceReplicate, List.cons_append, List.nil_append, List.getD_cons_zero, List.getD_cons_succ, List.set_cons_zero, List.set_cons_succ, Nat.reduceAdd, Nat.reduceSub, Nat.zero_add, bindT_nm, bindT_tup, bindTs_nil, bindTs_cons, Option.bind_some, tgSlots, wipeE, List.append_nil, Bool.not_true, Bool.not_false, Bool.false_eq_true, if_true, if_false, reduceIte, Bool.or_true, Bool.or_false, Bool.true_or, Bool.false_or, true_and, and_true]
          rw [rg2 (by decide) (by decide) (by omega) (by omega)]
          simp only [wS, wE, wA, wO, wI, seqK_next, seqK_ret, fnK_ret, fnK_next, oP_some, oP_none, bP_bool, List.map_cons, List.map_nil, List.length_cons, List.length_nil, List.reduceReplicate, List.cons_append, List.nil_append, List.getD_cons_zero, List.getD_cons_succ, List.set_cons_zero, List.set_cons_succ, Nat.reduceAdd, Nat.reduceSub, Nat.zero_add, bindT_nm, bindT_tup, bindTs_nil, bindTs_cons, Option.bind_some, tgSlots, wipeE, List.append_nil, Bool.not_true, Bool.not_false, Bool.false_eq_true, if_true, if_false, reduceIte, Bool.or_true, Bool.or_false, Bool.true_or, Bool.false_or, true_and, and_true]
          refine ⟨by rw [List.length_map, List.length_range]; show _ ≤ 1000000; omega, ?_⟩
          have en : (((cs.length : Nat) : Int) - 1).toNat = cs.length - 1 := by omega
          rw [en]
          refine (rise_fil (inR_all hr) hl _).mpr ?_
          rw [cmp_eq_nil (plainAll_ints (fun k : Nat => 1 + (k : Int)) _), List.isEmpty_map, filter_not_all]
          simp only [wS, wE, wA, wO, wI, seqK_next, seqK_ret, fnK_ret, fnK_next, oP_some, oP_none, bP_bool, List.map_cons, List.map_nil, List.length_cons, List.length_nil, List.reduceReplicate, List.cons_append, List.nil_append, List.getD_cons_zero, List.getD_cons_succ, List.set_cons_zero, List.set_cons_succ, Nat.reduceAdd, Nat.reduceSub, Nat.zero_add, bindT_nm, bindT_tup, bindTs_nil, bindTs_cons, Option.bind_some, tgSlots, wipeE, List.append_nil, Bool.not_true, Bool.not_false, Bool.false_eq_true, if_true, if_false, reduceIte, Bool.or_true, Bool.or_false, Bool.true_or, Bool.false_or, true_and, and_true]
          simp [isSeated, hr, h1, rising]
    · rw [decide_eq_false h1]
      simp only [wS, wE, wA, wO, wI, seqK_next, seqK_ret, fnK_ret, fnK_next, oP_some, oP_none, bP_bool, List.map_cons, List.map_nil, List.length_cons, List.length_nil, List.reduceReplicate, List.cons_append, List.nil_append, List.getD_cons_zero, List.getD_cons_succ, List.set_cons_zero, List.set_cons_succ, Nat.reduceAdd, Nat.reduceSub, Nat.zero_add, bindT_nm, bindT_tup, bindTs_nil, bindTs_cons, Option.bind_some, tgSlots, wipeE, List.append_nil, Bool.not_true, Bool.not_false, Bool.false_eq_true, if_true, if_false, reduceIte, Bool.or_true, Bool.or_false, Bool.true_or, Bool.false_or, true_and, and_true]
      simp [isSeated, h1]
  | none => simp [isiD, isSeated]
  | bool _ => simp [isiD, isSeated]
  | int _ => simp [isiD, isSeated]
  | str _ => simp [isiD, isSeated]
  | list _ => simp [isiD, isSeated]
  | dict _ => simp [isiD, isSeated]
end EV.Law
end

section
set_option Elab.async false
set_option linter.all false
set_option autoImplicit false
set_option maxRecDepth 100000
set_option maxHeartbeats 1000000
namespace EV.Law
open PySem EV
/-! ### parts of the candidates -/
def encG (g : List Nat) : D := .tuple (g.map fun v => .int (v : Nat))
/-- the program's groups, the law's groups -/
def gL : Nat → List (List Nat)
  | 0 => [[]]
  | v + 1 => gL v ++ (gL v).map fun g => g ++ [v]
/-- the parts -/
def gP (n : Nat) : List (List Nat) := (gL n).drop 1
theorem g_good : ∀ n, n < 7 → ((gP n).all fun g => !g.isEmpty && g.all (fun v => decide (v < n)) && decide (g.length ≤ 10) && decide (g.Pairwise (· < ·))) = true := by decide +kernel
theorem g_len : ∀ n, n < 7 → (gL n).length ≤ 64 := by decide +kernel
theorem g_glen : ∀ n, n < 7 → ((gL n).all fun g => decide (g.length ≤ 10)) = true := by decide +kernel
theorem g_ne : ∀ n, n < 7 → (((gL n).drop 1).all fun g => !g.isEmpty) = true := by decide +kernel
theorem cut1 (xs : List D) (h : 1 ≤ xs.length) : cutL xs (some 1) none = xs.drop 1 := by
  unfold cutL
  have e1 : HT.sIx xs.length 0 (some 1) = 1 := by simp [HT.sIx]; omega
  have e2 : HT.sIx xs.length xs.length none = xs.length := rfl
  rw [e1, e2]
  exact List.take_of_length_le (by rw [List.length_drop]; omega)
theorem add_tup (a b : List D) (h : a.length + b.length ≤ 1000) : binD .add (.tuple a) (.tuple b) = some (.tuple (a ++ b)) := if_pos (by show _ ≤ 1000000; omega)
theorem add_lst (a b : List D) (h : a.length + b.length ≤ 1000) : binD .add (.list a) (.list b) = some (.list (a ++ b)) := if_pos (by show _ ≤ 1000000; omega)
theorem s_wp_turn {m : Nat} {v : Nat} (hv : v < 6) (u0 u3 : Option D) (Q : Fl → Env → Prop) (X : XP) (h : Q .next [u0, some (.list ((gL (v + 1)).map encG)), some (.int (v : Nat)), u3]) :
    wS (Run T 2000 m) 2000 l_all_wish_parts_1 [u0, some (.list ((gL v).map encG)), some (.int (v : Nat)), u3] Q X := by
  unfold l_all_wish_parts_1
  have hl := g_len v (by omega)
  simp only [wS, wE, wA, wO, wI, seqK_next, seqK_ret, fnK_ret, fnK_next, oP_some, oP_none, bP_bool, List.map_cons, List.map_nil, List.length_cons, List.length_nil, List.reduceReplicate, List.cons_append, List.nil_append, List.getD_cons_zero, List.getD_cons_succ, List.set_cons_zero, List.set_cons_succ, Nat.reduceAdd, Nat.reduceSub, Nat.zero_add, bindT_nm, bindT_tup, bindTs_nil, bindTs_cons, Option.bind_some, tgSlots, wipeE, List.append_nil, Bool.not_true, Bool.not_false, Bool.false_eq_true, if_true, if_false, reduceIte, Bool.or_true, Bool.or_false, Bool.true_or, Bool.false_or, true_and, and_true, it_lst]
  refine ⟨by rw [List.length_map]; show _ ≤ 1000000; omega, ?_⟩
  refine (wC_map (g := fun g : List Nat => encG (g ++ [v])) (fun g hg P => ?_) _).mpr ?_
  · have h2 := of_decide_eq_true ((List.all_eq_true.mp (g_glen v (by omega))) g hg)
    rw [show encG g = .tuple (g.map fun v => .int (v : Nat)) from rfl, add_tup _ _ (by rw [List.length_map]; simp; omega)]
    simp only [oP_some]
    have e : encG (g ++ [v]) = .tuple ((g.map fun v => PyData.int (v : Nat)) ++ [.int (v : Nat)]) := by unfold encG; rw [List.map_append]; rfl
    rw [e]
  · rw [add_lst _ _ (by rw [List.length_map, List.length_map]; omega)]
    simp only [oP_some]
    have e : (gL (v + 1)).map encG = (gL v).map encG ++ (gL v).map fun g => encG (g ++ [v]) := by
      show (gL v ++ (gL v).map fun g => g ++ [v]).map encG = _
      rw [List.map_append, List.map_map]; rfl
    rw [e] at h
    exact h
theorem s_wps {m : Nat} (u0 u3 : Option D) (Q : Fl → Env → Prop) (X : XP) : ∀ (d v : Nat) (u2 : Option D), v + d ≤ 6 → (∀ u, Q .next [u0, some (.list ((gL (v + d)).map encG)), u, u3]) →
    wL (fun x ρ Q => wS (Run T 2000 m) 2000 l_all_wish_parts_1 (ρ.set 2 (some x)) Q X) ((List.range' v d).map fun v => .int (v : Nat)) [u0, some (.list ((gL v).map encG)), u2, u3] Q
  | 0, v, u2, _, h => h u2
  | d + 1, v, u2, hd, h => by
    rw [List.range'_succ, List.map_cons]
    unfold wL
    simp only [List.set_cons_zero, List.set_cons_succ]
    refine s_wp_turn (by omega) u0 u3 _ X ?_
    refine s_wps u0 u3 Q X d (v + 1) _ (by omega) fun u => ?_
    have := h u
    rw [show v + (d + 1) = v + 1 + d from by omega] at this
    exact this
theorem s_lp_turn {m : Nat} {v : Nat} (hv : v < 6) (u0 u3 : Option D) (Q : Fl → Env → Prop) (X : XP) (h : Q .next [u0, some (.list ((gL (v + 1)).map encG)), some (.int (v : Nat)), u3]) :
    wS (Run T 2000 m) 2000 l__law_parts_1 [u0, some (.list ((gL v).map encG)), some (.int (v : Nat)), u3] Q X := by
  unfold l__law_parts_1
  have hl := g_len v (by omega)
  simp only [wS, wE, wA, wO, wI, seqK_next, seqK_ret, fnK_ret, fnK_next, oP_some, oP_none, bP_bool, List.map_cons, List.map_nil, List.length_cons, List.length_nil, List.reduceReplicate, List.cons_append, List.nil_append, List.getD_cons_zero, List.getD_cons_succ, List.set_cons_zero, List.set_cons_succ, Nat.reduceAdd, Nat.reduceSub, Nat.zero_add, bindT_nm, bindT_tup, bindTs_nil, bindTs_cons, Option.bind_some, tgSlots, wipeE, List.append_nil, Bool.not_true, Bool.not_false, Bool.false_eq_true, if_true, if_false, reduceIte, Bool.or_true, Bool.or_false, Bool.true_or, Bool.false_or, true_and, and_true, it_lst]
  refine ⟨by rw [List.length_map]; show _ ≤ 1000000; omega, ?_⟩
  refine (wC_map (g := fun g : List Nat => encG (g ++ [v])) (fun g hg P => ?_) _).mpr ?_
  · have h2 := of_decide_eq_true ((List.all_eq_true.mp (g_glen v (by omega))) g hg)
    rw [show encG g = .tuple (g.map fun v => .int (v : Nat)) from rfl, add_tup _ _ (by rw [List.length_map]; simp; omega)]
    simp only [oP_some]
    have e : encG (g ++ [v]) = .tuple ((g.map fun v => PyData.int (v : Nat)) ++ [.int (v : Nat)]) := by unfold encG; rw [List.map_append]; rfl
    rw [e]
  · rw [add_lst _ _ (by rw [List.length_map, List.length_map]; omega)]
    simp only [oP_some]
    have e : (gL (v + 1)).map encG = (gL v).map encG ++ (gL v).map fun g => encG (g ++ [v]) := by
      show (gL v ++ (gL v).map fun g => g ++ [v]).map encG = _
      rw [List.map_append, List.map_map]; rfl
    rw [e] at h
    exact h
theorem s_lps {m : Nat} (u0 u3 : Option D) (Q : Fl → Env → Prop) (X : XP) : ∀ (d v : Nat) (u2 : Option D), v + d ≤ 6 → (∀ u, Q .next [u0, some (.list ((gL (v + d)).map encG)), u, u3]) →
    wL (fun x ρ Q => wS (Run T 2000 m) 2000 l__law_parts_1 (ρ.set 2 (some x)) Q X) ((List.range' v d).map fun v => .int (v : Nat)) [u0, some (.list ((gL v).map encG)), u2, u3] Q
  | 0, v, u2, _, h => h u2
  | d + 1, v, u2, hd, h => by
    rw [List.range'_succ, List.map_cons]
    unfold wL
    simp only [List.set_cons_zero, List.set_cons_succ]
    refine s_lp_turn (by omega) u0 u3 _ X ?_
    refine s_lps u0 u3 Q X d (v + 1) _ (by omega) fun u => ?_
    have := h u
    rw [show v + (d + 1) = v + 1 + d from by omega] at this
    exact this
def grL (n : Nat) : List D := (((gL n).drop 1).map encG).mergeSort (W.dataLe false id)
theorem sL_mem {n : Nat} {x : D} : x ∈ grL n ↔ ∃ g ∈ (gL n).drop 1, x = encG g := by
  unfold grL
  rw [List.mem_mergeSort, List.mem_map]
  constructor
  · rintro ⟨g, h, e⟩; exact ⟨g, h, e.symm⟩
  · rintro ⟨g, h, e⟩; exact ⟨g, h, e.symm⟩
theorem alike_ints : ∀ (a b : List Nat), W.alikeAll (a.map fun v => PyData.int (v : Nat)) (b.map fun v => .int (v : Nat)) = true
  | [], _ => by simp [W.alikeAll]
  | _ :: _, [] => by simp [W.alikeAll]
  | x :: a, y :: b => by simp [W.alikeAll, W.alike, alike_ints a b]
theorem depth_ints : ∀ (a : List Nat), PyData.depthAll (a.map fun v => PyData.int (v : Nat)) ≤ 5
  | [] => by simp [PyData.depthAll]
  | x :: a => by
    have := depth_ints a
    simp only [List.map_cons, PyData.depthAll, PyData.depth]
    omega
theorem sort_groups {n : Nat} (hn : n < 7) : sortOk (((gL n).drop 1).map encG) = true := by
  have hl := g_len n hn
  have hne := g_ne n hn
  unfold sortOk
  simp only [Bool.and_eq_true, Bool.or_eq_true, List.all_eq_true, decide_eq_true_eq, Bool.not_eq_true', List.mem_map]
  refine ⟨⟨⟨?_, ?_⟩, .inl ?_⟩, ?_⟩
  · rintro x ⟨g, _, rfl⟩ y ⟨g', _, rfl⟩
    exact alike_ints g g'
  · rintro x ⟨g, _, rfl⟩
    refine ⟨rfl, ?_⟩
    have := depth_ints g
    show PyData.depth (.tuple _) ≤ 60
    simp only [PyData.depth]
    omega
  · rintro x ⟨g, hg, rfl⟩
    have h1 := (List.all_eq_true.mp hne) g hg
    cases g with
    | nil => simp at h1
    | cons a r => rfl
  · rw [List.length_map, List.length_drop]; show _ ≤ 1000000; omega
theorem s_parts {n : Nat} (hn : 1 ≤ n) {w : Int} (h0 : 0 ≤ w) (hw : w ≤ 6) (P : D → Prop) (X : XP) : Run T 2000 n fall_wish_parts [.int w] P X ↔ P (.list (grL w.toNat)) := by
  obtain ⟨m, rfl⟩ : ∃ m, n = m + 1 := ⟨n - 1, by omega⟩
  refine Run.val (run_of (fi := i_all_wish_parts) rfl rfl ?_) P X
  simp only [i_all_wish_parts, b_all_wish_parts]
  simp only [wS, wE, wA, wO, wI, seqK_next, seqK_ret, fnK_ret, fnK_next, oP_some, oP_none, bP_bool, List.map_cons, List.map_nil, List.length_cons, List.length_nil, List.reduceReplicate, List.cons_append, List.nil_append, List.getD_cons_zero, List.getD_cons_succ, List.set_cons_zero, List.set_cons_succ, Nat.reduceAdd, Nat.reduceSub, Nat.zero_add, bindT_nm, bindT_tup, bindTs_nil, bindTs_cons, Option.bind_some, tgSlots, wipeE, List.append_nil, Bool.not_true, Bool.not_false, Bool.false_eq_true, if_true, if_false, reduceIte, Bool.or_true, Bool.or_false, Bool.true_or, Bool.false_or, true_and, and_true]
  rw [rg1 (by omega) (by omega)]
  simp only [oP_some]
  rw [List.range_eq_range']
  refine s_wps _ _ _ _ w.toNat 0 _ (by omega) fun u => ?_
  rw [Nat.zero_add]
  have h1 : 1 ≤ ((gL w.toNat).map encG).length := by
    have : ∀ v, 1 ≤ (gL v).length := fun v => by
      induction v with
      | zero => exact Nat.le_refl _
      | succ v ih => show 1 ≤ (gL v ++ _).length; rw [List.length_append]; omega
    rw [List.length_map]; exact this _
  simp only [wS, wE, wA, wO, wI, seqK_next, seqK_ret, fnK_ret, fnK_next, oP_some, oP_none, bP_bool, List.map_cons, List.map_nil, List.length_cons, List.length_nil, List.reduceReplicate, List.cons_append, List.nil_append, List.getD_cons_zero, List.getD_cons_succ, List.set_cons_zero, List.set_cons_succ, Nat.reduceAdd, Nat.reduceSub, Nat.zero_add, bindT_nm, bindT_tup, bindTs_nil, bindTs_cons, Option.bind_some, tgSlots, wipeE, List.append_nil, Bool.not_true, Bool.not_false, Bool.false_eq_true, if_true, if_false, reduceIte, Bool.or_true, Bool.or_false, Bool.true_or, Bool.false_or, true_and, and_true, endD, slD, cut1 _ h1]
  have e : List.drop 1 ((gL w.toNat).map encG) = ((gL w.toNat).drop 1).map encG := by rw [List.map_drop]
  rw [e]
  simp only [biD, sort_groups (show w.toNat < 7 by omega), if_true, oP_some]
  rfl
theorem s_lparts {n : Nat} (hn : 1 ≤ n) {w : Int} (h0 : 0 ≤ w) (hw : w ≤ 6) (P : D → Prop) (X : XP) : Run T 2000 n f_law_parts [.int w] P X ↔ P (.list (grL w.toNat)) := by
  obtain ⟨m, rfl⟩ : ∃ m, n = m + 1 := ⟨n - 1, by omega⟩
  refine Run.val (run_of (fi := i__law_parts) rfl rfl ?_) P X
  simp only [i__law_parts, b__law_parts]
  simp only [wS, wE, wA, wO, wI, seqK_next, seqK_ret, fnK_ret, fnK_next, oP_some, oP_none, bP_bool, List.map_cons, List.map_nil, List.length_cons, List.length_nil, List.reduceReplicate, List.cons_append, List.nil_append, List.getD_cons_zero, List.getD_cons_succ, List.set_cons_zero, List.set_cons_succ, Nat.reduceAdd, Nat.reduceSub, Nat.zero_add, bindT_nm, bindT_tup, bindTs_nil, bindTs_cons, Option.bind_some, tgSlots, wipeE, List.append_nil, Bool.not_true, Bool.not_false, Bool.false_eq_true, if_true, if_false, reduceIte, Bool.or_true, Bool.or_false, Bool.true_or, Bool.false_or, true_and, and_true]
  rw [rg1 (by omega) (by omega)]
  simp only [oP_some]
  rw [List.range_eq_range']
  refine s_lps _ _ _ _ w.toNat 0 _ (by omega) fun u => ?_
  rw [Nat.zero_add]
  have h1 : 1 ≤ ((gL w.toNat).map encG).length := by
    have : ∀ v, 1 ≤ (gL v).length := fun v => by
      induction v with
      | zero => exact Nat.le_refl _
      | succ v ih => show 1 ≤ (gL v ++ _).length; rw [List.length_append]; omega
    rw [List.length_map]; exact this _
  simp only [wS, wE, wA, wO, wI, seqK_next, seqK_ret, fnK_ret, fnK_next, oP_some, oP_none, bP_bool, List.map_cons, List.map_nil, List.length_cons, List.length_nil, List.reduceReplicate, List.cons_append, List.nil_append, List.getD_cons_zero, List.getD_cons_succ, List.set_cons_zero, List.set_cons_succ, Nat.reduceAdd, Nat.reduceSub, Nat.zero_add, bindT_nm, bindT_tup, bindTs_nil, bindTs_cons, Option.bind_some, tgSlots, wipeE, List.append_nil, Bool.not_true, Bool.not_false, Bool.false_eq_true, if_true, if_false, reduceIte, Bool.or_true, Bool.or_false, Bool.true_or, Bool.false_or, true_and, and_true, endD, slD, cut1 _ h1]
  have e : List.drop 1 ((gL w.toNat).map encG) = ((gL w.toNat).drop 1).map encG := by rw [List.map_drop]
  rw [e]
  simp only [biD, sort_groups (show w.toNat < 7 by omega), if_true, oP_some]
  rfl
end EV.Law
end

section
set_option Elab.async false
set_option linter.all false
set_option autoImplicit false
set_option maxRecDepth 100000
set_option maxHeartbeats 1000000
namespace EV.Law
open PySem EV
theorem ifP (b : Bool) (P : Option D → Prop) (x : D) : (if b = true then P (some x) else P none) ↔ P (if b = true then some x else none) := by cases b <;> exact Iff.rfl
/-! ### solid voters -/
def oI : D → List Int
  | .tuple cs => cs.map vI
  | _ => []
theorem order_of {m : Int} {o : D} (h : isOrder m o = true) : ∃ cs, o = .tuple cs ∧ 1 ≤ cs.length ∧ cs.all (inR m) = true ∧ nod cs = true ∧ cs = (cs.map vI).map PyData.int := by
  cases o <;> simp only [isOrder, Bool.false_eq_true] at h
  rename_i cs
  simp only [Bool.and_eq_true, decide_eq_true_eq] at h
  refine ⟨cs, rfl, h.1, h.2.1, h.2.2, ?_⟩
  rw [List.map_map]
  have hw := inR_all h.2.1
  refine (List.map_id cs).symm.trans (List.map_congr_left fun c hc => ?_)
  exact whole_int (List.all_eq_true.mp hw c hc)
theorem cut_take (xs : List D) (n : Nat) : cutL xs none (some (n : Int)) = xs.take n := by
  unfold cutL
  have e1 : HT.sIx xs.length 0 none = 0 := rfl
  have e2 : HT.sIx xs.length xs.length (some (n : Int)) = min n xs.length := by
    simp only [HT.sIx]
    split <;> omega
  rw [e1, e2, List.drop_zero, Nat.sub_zero]
  rcases Nat.le_total n xs.length with h | h
  · rw [Nat.min_eq_left h]
  · rw [Nat.min_eq_right h, List.take_length, List.take_of_length_le h]
def solB (ps : List Int) (o : D) : Bool := eqsB ((oI o).take ps.length) ps && decide (ps.length ≤ (oI o).length)
def solN (ps : List Int) (os : List D) : Nat := (os.filter (solB ps)).length
theorem intsOf_ints : ∀ (ns : List Int), intsOf (ns.map PyData.int) = some ns
  | [] => rfl
  | n :: ns => by
    show (intsOf (ns.map PyData.int)).map _ = _
    rw [intsOf_ints ns]
    rfl
theorem setI_ints (ns : List Int) (h : ns.length ≤ 4000) : setI (.tuple (ns.map .int)) = some ns := by
  show (if (ns.map PyData.int).length ≤ 4000 then intsOf (ns.map PyData.int) else none) = _
  rw [List.length_map, if_pos h, intsOf_ints]
theorem slT (xs : List D) (n : Nat) : slD (.tuple xs) none (some (n : Int)) = some (.tuple (xs.take n)) := by
  show some (PyData.tuple (cutL xs none (some (n : Int)))) = _
  rw [cut_take]
/-! ### numbers sorted -/
def srtI (ns : List Int) : List Int := ns.mergeSort fun a b => decide (a ≤ b)
theorem srt_ints (ns : List Int) : (ns.map PyData.int).mergeSort (W.dataLe false id) = (srtI ns).map PyData.int := by
  unfold srtI
  refine (W.sort_maps PyData.int fun a _ b _ => ?_).symm
  exact (congrFun (congrFun (W.dataLe_int (fun x : Int => x)) a) b).symm
theorem sortOk_ints (ns : List Int) (h : ns.length ≤ 4000) : sortOk (ns.map PyData.int) = true := by
  unfold sortOk
  simp only [Bool.and_eq_true, Bool.or_eq_true, List.all_eq_true, decide_eq_true_eq, Bool.not_eq_true', List.mem_map]
  refine ⟨⟨⟨?_, ?_⟩, .inr ?_⟩, ?_⟩
  · rintro x ⟨a, _, rfl⟩ y ⟨b, _, rfl⟩
    rfl
  · rintro x ⟨a, _, rfl⟩
    exact ⟨rfl, by simp [PyData.depth]⟩
  · rintro x ⟨a, _, rfl⟩
    rfl
  · rw [List.length_map]; show _ ≤ 1000000; omega
theorem sorted_T (ns : List Int) (h : ns.length ≤ 4000) : biD .sorted [.tuple (ns.map PyData.int)] = some (.list ((srtI ns).map .int)) := by
  show (if sortOk (ns.map PyData.int) = true then some (PyData.list ((ns.map PyData.int).mergeSort (W.dataLe false id))) else none) = _
  rw [if_pos (sortOk_ints ns h), srt_ints]
theorem sorted_L (ns : List Int) (h : ns.length ≤ 4000) : biD .sorted [.list (ns.map PyData.int)] = some (.list ((srtI ns).map .int)) := by
  show (if sortOk (ns.map PyData.int) = true then some (PyData.list ((ns.map PyData.int).mergeSort (W.dataLe false id))) else none) = _
  rw [if_pos (sortOk_ints ns h), srt_ints]
theorem srtI_perm (ns : List Int) : (srtI ns).Perm ns := List.mergeSort_perm _ _
theorem srtI_le (ns : List Int) : (srtI ns).Pairwise (· ≤ ·) := by
  have h := List.pairwise_mergeSort (le := fun a b : Int => decide (a ≤ b)) (fun a b c h1 h2 => by simp only [decide_eq_true_eq] at *; omega) (fun a b => by simp only [Bool.or_eq_true, decide_eq_true_eq]; omega) ns
  exact h.imp fun h => of_decide_eq_true h
theorem srt_ext : ∀ {l m : List Int}, l.Pairwise (· < ·) → m.Pairwise (· < ·) → (∀ x, x ∈ l ↔ x ∈ m) → l = m
  | [], [], _, _, _ => rfl
  | [], b :: m, _, _, h => by have := (h b).mpr List.mem_cons_self; cases this
  | a :: l, [], _, _, h => by have := (h a).mp List.mem_cons_self; cases this
  | a :: l, b :: m, h1, h2, h => by
    obtain ⟨p1, p2⟩ := List.pairwise_cons.mp h1
    obtain ⟨q1, q2⟩ := List.pairwise_cons.mp h2
    have e : a = b := by
      have i1 := (h a).mp List.mem_cons_self
      have i2 := (h b).mpr List.mem_cons_self
      rcases List.mem_cons.mp i1 with e | i1
      · exact e
      · rcases List.mem_cons.mp i2 with e | i2
        · exact e.symm
        · have := q1 a i1
          have := p1 b i2
          omega
    subst e
    refine congrArg (a :: ·) (srt_ext p2 q2 fun x => ?_)
    constructor
    · intro hx
      rcases List.mem_cons.mp ((h x).mp (List.mem_cons_of_mem _ hx)) with e | hx2
      · have := p1 x hx
        omega
      · exact hx2
    · intro hx
      rcases List.mem_cons.mp ((h x).mpr (List.mem_cons_of_mem _ hx)) with e | hx2
      · have := q1 x hx
        omega
      · exact hx2
theorem lt_of_le_nodup : ∀ {l : List Int}, l.Pairwise (· ≤ ·) → l.Nodup → l.Pairwise (· < ·) := fun h n => by
  have := List.Pairwise.and h n
  exact this.imp fun ⟨h1, h2⟩ => by omega
/-- sorted they are the part, or the part's members as they are -/
theorem sol_iff {ns ps : List Int} (hn : ns.Nodup) (hp : ps.Pairwise (· < ·)) : decide (srtI (ns.take ps.length) = ps) = (eqsB (ns.take ps.length) ps && decide (ps.length ≤ ns.length)) := by
  have ht : (ns.take ps.length).Nodup := List.Nodup.sublist (List.take_sublist _ _) hn
  have hpn : ps.Nodup := hp.imp fun h => by omega
  rw [Bool.eq_iff_iff, Bool.and_eq_true, decide_eq_true_eq, decide_eq_true_eq]
  constructor
  · intro e
    have pm := srtI_perm (ns.take ps.length)
    rw [e] at pm
    refine ⟨?_, ?_⟩
    · unfold eqsB
      simp only [Bool.and_eq_true, List.all_eq_true, List.contains_iff_mem]
      exact ⟨fun k hk => pm.mem_iff.mpr hk, fun k hk => pm.mem_iff.mp hk⟩
    · have := pm.length_eq
      rw [List.length_take] at this
      omega
  · rintro ⟨e, hl⟩
    unfold eqsB at e
    simp only [Bool.and_eq_true, List.all_eq_true, List.contains_iff_mem] at e
    have pm := srtI_perm (ns.take ps.length)
    refine srt_ext (lt_of_le_nodup (srtI_le _) (pm.nodup_iff.mpr ht)) hp fun x => ?_
    rw [pm.mem_iff]
    exact ⟨e.1 x, e.2 x⟩
theorem plainAll_int (a : List Int) : PyData.plainAll (a.map PyData.int) = true := plainAll_ints (fun x : Int => x) a
theorem depthAll_int : ∀ (a : List Int), PyData.depthAll (a.map PyData.int) ≤ 5
  | [] => by simp [PyData.depthAll]
  | x :: a => by
    have := depthAll_int a
    simp only [List.map_cons, PyData.depthAll, PyData.depth]
    omega
theorem eqvAll_int : ∀ (a b : List Int), PyData.eqvAll (a.map PyData.int) (b.map PyData.int) = decide (a = b)
  | [], [] => by simp [PyData.eqvAll]
  | [], _ :: _ => by simp [PyData.eqvAll]
  | _ :: _, [] => by simp [PyData.eqvAll]
  | x :: a, y :: b => by
    simp only [List.map_cons, PyData.eqvAll, PyData.eqv, eqvAll_int a b, List.cons.injEq]
    by_cases h : x = y <;> simp [h]
theorem eqv_intT (a b : List Int) : PyData.eqv (.tuple (a.map PyData.int)) (.tuple (b.map PyData.int)) = decide (a = b) := by
  simp only [PyData.eqv, eqvAll_int]
theorem cmp_eq_intT (a b : List Int) : cmpD .eq (.tuple (a.map PyData.int)) (.tuple (b.map PyData.int)) = some (decide (a = b)) := by
  have d1 := depthAll_int a
  have d2 := depthAll_int b
  have o : okEq (.tuple (a.map PyData.int)) (.tuple (b.map PyData.int)) = true := by
    have q : min (PyData.depth (.tuple (a.map PyData.int))) (PyData.depth (.tuple (b.map PyData.int))) ≤ 60 := by
      simp only [PyData.depth]
      omega
    unfold okEq
    rw [decide_eq_true q]
    simp only [PyData.plain, plainAll_int, Bool.and_self]
  simp only [cmpD, o, if_true, eqv_intT]
theorem e_tup (xs : List D) : biD .tuple [.list xs] = some (.tuple xs) := rfl
section
variable {m k : Int} {os : List D} (ho : ∀ o ∈ os, isOrder m o = true) (hm : 0 ≤ m) (hm8 : m ≤ 8) (hol : os.length ≤ 30)
include ho hm hm8 hol
theorem s_solid {n : Nat} (hn : 1 ≤ n) {ps : List Int} (hp : ps.length ≤ 10) (P : D → Prop) (X : XP) : Run T 2000 n fsolid_voters [.tuple [.int m, .tuple os, .int k], .tuple (ps.map .int)] P X ↔ P (.int (solN ps os : Nat)) := by
  obtain ⟨t, rfl⟩ : ∃ t, n = t + 1 := ⟨n - 1, by omega⟩
  refine Run.val (run_of (fi := i_solid_voters) rfl rfl ?_) P X
  simp only [i_solid_voters, b_solid_voters]
  simp only [wS, wE, wA, wO, wI, seqK_next, seqK_ret, fnK_ret, fnK_next, oP_some, oP_none, bP_bool, List.map_cons, List.map_nil, List.length_cons, List.length_nil, List.reduceReplicate, List.cons_append, List.nil_append, List.getD_cons_zero, List.getD_cons_succ, List.set_cons_zero, List.set_cons_succ, Nat.reduceAdd, Nat.reduceSub, Nat.zero_add, bindT_nm, bindT_tup, bindTs_nil, bindTs_cons, Option.bind_some, tgSlots, wipeE, List.append_nil, Bool.not_true, Bool.not_false, Bool.false_eq_true, if_true, if_false, reduceIte, Bool.or_true, Bool.or_false, Bool.true_or, Bool.false_or, true_and, and_true, ix_tup, at_c1, it_tup]
  refine ⟨by show _ ≤ 1000000; omega, ?_⟩
  refine (wC_fid (c := solB ps) (g := fun o => o) (fun o hmem P => ?_) _).mpr ?_
  · obtain ⟨cs, rfl, h1, h2, h3, h4⟩ := order_of (ho o hmem)
    have hl := ord_len hm h2 h3
    rw [h4]
    generalize hns : cs.map vI = ns
    have hnl : ns.length = cs.length := by rw [← hns, List.length_map]
    have e1 : biD .len [.tuple (ps.map PyData.int)] = some (.int (ps.length : Nat)) := by rw [len_tup, List.length_map]
    have e2 : biD .len [.tuple (ns.map PyData.int)] = some (.int (ns.length : Nat)) := by rw [len_tup, List.length_map]
    have e3 : slD (.tuple (ns.map PyData.int)) none (some (ps.length : Int)) = some (.tuple ((ns.take ps.length).map .int)) := by rw [slT, List.map_take]
    have e4 : setI (.tuple ((ns.take ps.length).map .int)) = some (ns.take ps.length) := setI_ints _ (by rw [List.length_take]; omega)
    have e5 : setI (.tuple (ps.map PyData.int)) = some ps := setI_ints _ (by omega)
    simp only [e1, e2, e3, e4, e5, oP_some, endD, cmp_ge, bP_bool]
    have eo : oI (.tuple (ns.map PyData.int)) = ns := by
      show (ns.map PyData.int).map vI = ns
      rw [List.map_map]
      exact (List.map_congr_left fun x _ => rfl).trans (List.map_id ns)
    unfold solB
    rw [eo]
    have ed : decide ((ps.length : Int) ≤ (ns.length : Int)) = decide (ps.length ≤ ns.length) := decide_eq_decide.mpr (by omega)
    rw [ed]
    cases eqsB (ns.take ps.length) ps with
    | false => simp
    | true =>
      simp only [if_true, Bool.true_and]
      exact ifP _ _ _
  · rw [List.map_id', len_lst]
    exact rfl
theorem s_lsolid {n : Nat} (hn : 1 ≤ n) {ps : List Int} (hp : ps.length ≤ 10) (hpw : ps.Pairwise (· < ·)) (P : D → Prop) (X : XP) : Run T 2000 n f_law_solid [.tuple [.int m, .tuple os, .int k], .tuple (ps.map .int)] P X ↔ P (.int (solN ps os : Nat)) := by
  obtain ⟨t, rfl⟩ : ∃ t, n = t + 1 := ⟨n - 1, by omega⟩
  refine Run.val (run_of (fi := i__law_solid) rfl rfl ?_) P X
  simp only [i__law_solid, b__law_solid]
  simp only [wS, wE, wA, wO, wI, seqK_next, seqK_ret, fnK_ret, fnK_next, oP_some, oP_none, bP_bool, List.map_cons, List.map_nil, List.length_cons, List.length_nil, List.reduceReplicate, List.cons_append, List.nil_append, List.getD_cons_zero, List.getD_cons_succ, List.set_cons_zero, List.set_cons_succ, Nat.reduceAdd, Nat.reduceSub, Nat.zero_add, bindT_nm, bindT_tup, bindTs_nil, bindTs_cons, Option.bind_some, tgSlots, wipeE, List.append_nil, Bool.not_true, Bool.not_false, Bool.false_eq_true, if_true, if_false, reduceIte, Bool.or_true, Bool.or_false, Bool.true_or, Bool.false_or, true_and, and_true, ix_tup, at_c1, it_tup]
  refine ⟨by show _ ≤ 1000000; omega, ?_⟩
  refine (wC_fid (c := solB ps) (g := fun o => o) (fun o hmem P => ?_) _).mpr ?_
  · obtain ⟨cs, rfl, h1, h2, h3, h4⟩ := order_of (ho o hmem)
    have hl := ord_len hm h2 h3
    have hnd := nod_iff.mp h3
    rw [h4]
    generalize hns : cs.map vI = ns at hnd
    have hnl : ns.length = cs.length := by rw [← hns, List.length_map]
    have e1 : biD .len [.tuple (ps.map PyData.int)] = some (.int (ps.length : Nat)) := by rw [len_tup, List.length_map]
    have e3 : slD (.tuple (ns.map PyData.int)) none (some (ps.length : Int)) = some (.tuple ((ns.take ps.length).map .int)) := by rw [slT, List.map_take]
    have e4 : biD .sorted [.tuple ((ns.take ps.length).map PyData.int)] = some (.list ((srtI (ns.take ps.length)).map .int)) := sorted_T _ (by rw [List.length_take]; omega)
    simp only [e1, e3, e4, oP_some, endD, e_tup, cmp_eq_intT, bP_bool]
    have eo : oI (.tuple (ns.map PyData.int)) = ns := by
      show (ns.map PyData.int).map vI = ns
      rw [List.map_map]
      exact (List.map_congr_left fun x _ => rfl).trans (List.map_id ns)
    unfold solB
    rw [eo, sol_iff hnd hpw]
    exact ifP _ _ _
  · rw [List.map_id', len_lst]
    exact rfl
end
end EV.Law
end

section
set_option Elab.async false
set_option linter.all false
set_option autoImplicit false
set_option maxRecDepth 100000
set_option maxHeartbeats 1000000
namespace EV.Law
open PySem EV
/-! ### worth, places, who rises -/
def worth (n : Nat) (k : Int) (v : Nat) (l : Int) (b : Bool) : Bool := if b = true then decide (l * (n : Int) < (v : Int) * (k + 1)) else decide (l * (n : Int) ≤ (v : Int) * k)
theorem fits_l {i j : Int} (h : i.natAbs < 18446744073709551616) : fitsMul i j = true := by simp [fitsMul, h]
theorem fits_r {i j : Int} (h : j.natAbs < 18446744073709551616) : fitsMul i j = true := by simp [fitsMul, h]
theorem mul_l {i j : Int} (h : i.natAbs < 18446744073709551616) : binD .mul (.int i) (.int j) = some (.int (i * j)) := if_pos (fits_l h)
theorem mul_r {i j : Int} (h : j.natAbs < 18446744073709551616) : binD .mul (.int i) (.int j) = some (.int (i * j)) := if_pos (fits_r h)
theorem s_is_due {n : Nat} (hn : 1 ≤ n) {m k : Int} {os : List D} (hol : os.length ≤ 30) {v : Nat} (hv : v ≤ 1000) (l : Int) (b : Bool) (P : D → Prop) (X : XP) :
    Run T 2000 n fis_due [.tuple [.int m, .tuple os, .int k], .int (v : Nat), .int l, .bool b] P X ↔ P (.bool (worth os.length k v l b)) := by
  obtain ⟨t, rfl⟩ : ∃ t, n = t + 1 := ⟨n - 1, by omega⟩
  refine Run.val (run_of (fi := i_is_due) rfl rfl ?_) P X
  simp only [i_is_due, b_is_due]
  have m1 : ∀ j : Int, binD .mul (.int (v : Nat)) (.int j) = some (.int (v * j)) := fun j => mul_l (by omega)
  have m2 : binD .mul (.int l) (.int (os.length : Nat)) = some (.int (l * os.length)) := mul_r (by omega)
  have e2 : binD .add (.int k) (.int 1) = some (.int (k + 1)) := rfl
  cases b with
  | true => simp only [wS, wE, wA, wO, wI, seqK_next, seqK_ret, fnK_ret, fnK_next, oP_some, oP_none, bP_bool, List.map_cons, List.map_nil, List.length_cons, List.length_nil, List.reduceReplicate, List.cons_append, List.nil_append, List.getD_cons_zero, List.getD_cons_succ, List.set_cons_zero, List.set_cons_succ, Nat.reduceAdd, Nat.reduceSub, Nat.zero_add, bindT_nm, bindT_tup, bindTs_nil, bindTs_cons, Option.bind_some, tgSlots, wipeE, List.append_nil, Bool.not_true, Bool.not_false, Bool.false_eq_true, if_true, if_false, reduceIte, Bool.or_true, Bool.or_false, Bool.true_or, Bool.false_or, true_and, and_true, ix_tup, at_c2, at_c1, len_tup, m1, m2, e2, cmp_gt]; rfl
  | false => simp only [wS, wE, wA, wO, wI, seqK_next, seqK_ret, fnK_ret, fnK_next, oP_some, oP_none, bP_bool, List.map_cons, List.map_nil, List.length_cons, List.length_nil, List.reduceReplicate, List.cons_append, List.nil_append, List.getD_cons_zero, List.getD_cons_succ, List.set_cons_zero, List.set_cons_succ, Nat.reduceAdd, Nat.reduceSub, Nat.zero_add, bindT_nm, bindT_tup, bindTs_nil, bindTs_cons, Option.bind_some, tgSlots, wipeE, List.append_nil, Bool.not_true, Bool.not_false, Bool.false_eq_true, if_true, if_false, reduceIte, Bool.or_true, Bool.or_false, Bool.true_or, Bool.false_or, true_and, and_true, ix_tup, at_c2, at_c1, len_tup, m1, m2, cmp_ge]; rfl
theorem s_lworth {n : Nat} (hn : 1 ≤ n) {m k : Int} {os : List D} (hol : os.length ≤ 30) {v : Nat} (hv : v ≤ 1000) (l : Int) (b : Bool) (P : D → Prop) (X : XP) :
    Run T 2000 n f_law_worth [.tuple [.int m, .tuple os, .int k], .int (v : Nat), .int l, .bool b] P X ↔ P (.bool (worth os.length k v l b)) := by
  obtain ⟨t, rfl⟩ : ∃ t, n = t + 1 := ⟨n - 1, by omega⟩
  refine Run.val (run_of (fi := i__law_worth) rfl rfl ?_) P X
  simp only [i__law_worth, b__law_worth]
  have m1 : ∀ j : Int, binD .mul (.int (v : Nat)) (.int j) = some (.int (v * j)) := fun j => mul_l (by omega)
  have m2 : binD .mul (.int l) (.int (os.length : Nat)) = some (.int (l * os.length)) := mul_r (by omega)
  have e2 : binD .add (.int k) (.int 1) = some (.int (k + 1)) := rfl
  cases b with
  | true => simp only [wS, wE, wA, wO, wI, seqK_next, seqK_ret, fnK_ret, fnK_next, oP_some, oP_none, bP_bool, List.map_cons, List.map_nil, List.length_cons, List.length_nil, List.reduceReplicate, List.cons_append, List.nil_append, List.getD_cons_zero, List.getD_cons_succ, List.set_cons_zero, List.set_cons_succ, Nat.reduceAdd, Nat.reduceSub, Nat.zero_add, bindT_nm, bindT_tup, bindTs_nil, bindTs_cons, Option.bind_some, tgSlots, wipeE, List.append_nil, Bool.not_true, Bool.not_false, Bool.false_eq_true, if_true, if_false, reduceIte, Bool.or_true, Bool.or_false, Bool.true_or, Bool.false_or, true_and, and_true, ix_tup, at_c2, at_c1, len_tup, m1, m2, e2, cmp_gt]; rfl
  | false => simp only [wS, wE, wA, wO, wI, seqK_next, seqK_ret, fnK_ret, fnK_next, oP_some, oP_none, bP_bool, List.map_cons, List.map_nil, List.length_cons, List.length_nil, List.reduceReplicate, List.cons_append, List.nil_append, List.getD_cons_zero, List.getD_cons_succ, List.set_cons_zero, List.set_cons_succ, Nat.reduceAdd, Nat.reduceSub, Nat.zero_add, bindT_nm, bindT_tup, bindTs_nil, bindTs_cons, Option.bind_some, tgSlots, wipeE, List.append_nil, Bool.not_true, Bool.not_false, Bool.false_eq_true, if_true, if_false, reduceIte, Bool.or_true, Bool.or_false, Bool.true_or, Bool.false_or, true_and, and_true, ix_tup, at_c2, at_c1, len_tup, m1, m2, cmp_ge]; rfl
theorem any_int (ns : List Int) (c : Int) : ((ns.map PyData.int).any fun z => PyData.eqv z (.int c)) = decide (c ∈ ns) := by
  induction ns with
  | nil => simp
  | cons x ns ih =>
    rw [List.map_cons, List.any_cons, ih]
    simp only [PyData.eqv, List.mem_cons]
    by_cases h : x = c
    · subst h; simp
    · have : ¬ c = x := fun z => h z.symm
      simp [h, this]
theorem okIn_int (ns : List Int) (c : Int) : okIn (.int c) (ns.map PyData.int) = true := by
  unfold okIn
  rw [plainAll_int]
  rfl
theorem cmp_in_ints (c : Int) (ns : List Int) : cmpD .in_ (.int c) (.tuple (ns.map PyData.int)) = some (decide (c ∈ ns)) := by
  simp only [cmpD, okIn_int, if_true, any_int]
theorem cmp_nin_ints (c : Int) (ns : List Int) : cmpD .nin (.int c) (.tuple (ns.map PyData.int)) = some (!decide (c ∈ ns)) := by
  simp only [cmpD, okIn_int, if_true, any_int]
theorem mt_idx (ns : List Int) (c : Int) (h : c ∈ ns) : mtD .indexI (.tuple (ns.map PyData.int)) [.int c] = some (.int (ns.idxOf c : Nat)) := by
  simp only [mtD, intsOf_ints, Option.bind_some, h, if_true]
def plc (ns : List Int) (c : Int) : Int := if c ∈ ns then (ns.idxOf c : Nat) else (ns.length : Int) + 100
theorem s_place {n : Nat} (hn : 1 ≤ n) (ns : List Int) (c : Int) (P : D → Prop) (X : XP) : Run T 2000 n fplace_of [.tuple (ns.map .int), .int c] P X ↔ P (.int (plc ns c)) := by
  obtain ⟨t, rfl⟩ : ∃ t, n = t + 1 := ⟨n - 1, by omega⟩
  refine Run.val (run_of (fi := i_place_of) rfl rfl ?_) P X
  simp only [i_place_of, b_place_of]
  simp only [wS, wE, wA, wO, wI, seqK_next, seqK_ret, fnK_ret, fnK_next, oP_some, oP_none, bP_bool, List.map_cons, List.map_nil, List.length_cons, List.length_nil, List.reduceReplicate, List.cons_append, List.nil_append, List.getD_cons_zero, List.getD_cons_succ, List.set_cons_zero, List.set_cons_succ, Nat.reduceAdd, Nat.reduceSub, Nat.zero_add, bindT_nm, bindT_tup, bindTs_nil, bindTs_cons, Option.bind_some, tgSlots, wipeE, List.append_nil, Bool.not_true, Bool.not_false, Bool.false_eq_true, if_true, if_false, reduceIte, Bool.or_true, Bool.or_false, Bool.true_or, Bool.false_or, true_and, and_true, cmp_in_ints]
  unfold plc
  by_cases h : c ∈ ns
  · simp only [h, decide_true, if_true]
    rw [show mtOk .indexI (.tuple (ns.map PyData.int)) = some () from rfl]
    simp only [oP_some, mt_idx ns c h]
  · simp only [h, decide_false, Bool.false_eq_true, if_false, len_tup, oP_some, List.length_map]
    rfl
def riB (cms : List Int) (c : Int) (o : D) : Bool := decide (c ∈ oI o) && cms.all fun b => decide (plc (oI o) c < plc (oI o) b)
def riN (cms : List Int) (c : Int) (os : List D) : Nat := (os.filter (riB cms c)).length
theorem oI_ints (ns : List Int) : oI (.tuple (ns.map PyData.int)) = ns := by
  show (ns.map PyData.int).map vI = ns
  rw [List.map_map]
  exact (List.map_congr_left fun x _ => rfl).trans (List.map_id ns)
theorem t_rise {t : Nat} (ht : 1 ≤ t) {cms : List Int} (hc : cms.length ≤ 100) {c : Int} {ns : List Int} {f : Nat} (u0 u5 u6 : Option D) (Q : Fl → Env → Prop) (X : XP)
    (h : ∀ u5, Q .next [u0, some (.tuple (cms.map .int)), some (.int c), some (.int ((f + if riB cms c (.tuple (ns.map .int)) = true then 1 else 0 : Nat) : Int)), some (.tuple (ns.map .int)), u5, u6]) :
    wS (Run T 2000 t) 2000 l_rising_voters_1 [u0, some (.tuple (cms.map .int)), some (.int c), some (.int (f : Nat)), some (.tuple (ns.map .int)), u5, u6] Q X := by
  unfold l_rising_voters_1
  simp only [wS, wE, wA, wO, wI, seqK_next, seqK_ret, fnK_ret, fnK_next, oP_some, oP_none, bP_bool, List.map_cons, List.map_nil, List.length_cons, List.length_nil, List.reduceReplicate, List.cons_append, List.nil_append, List.getD_cons_zero, List.getD_cons_succ, List.set_cons_zero, List.set_cons_succ, Nat.reduceAdd, Nat.reduceSub, Nat.zero_add, bindT_nm, bindT_tup, bindTs_nil, bindTs_cons, Option.bind_some, tgSlots, wipeE, List.append_nil, Bool.not_true, Bool.not_false, Bool.false_eq_true, if_true, if_false, reduceIte, Bool.or_true, Bool.or_false, Bool.true_or, Bool.false_or, true_and, and_true]
  rw [s_place ht]
  simp only [wS, wE, wA, wO, wI, seqK_next, seqK_ret, fnK_ret, fnK_next, oP_some, oP_none, bP_bool, List.map_cons, List.map_nil, List.length_cons, List.length_nil, List.reduceReplicate, List.cons_append, List.nil_append, List.getD_cons_zero, List.getD_cons_succ, List.set_cons_zero, List.set_cons_succ, Nat.reduceAdd, Nat.reduceSub, Nat.zero_add, bindT_nm, bindT_tup, bindTs_nil, bindTs_cons, Option.bind_some, tgSlots, wipeE, List.append_nil, Bool.not_true, Bool.not_false, Bool.false_eq_true, if_true, if_false, reduceIte, Bool.or_true, Bool.or_false, Bool.true_or, Bool.false_or, true_and, and_true, cmp_in_ints]
  unfold riB at h
  rw [oI_ints] at h
  by_cases hm : c ∈ ns
  · simp only [hm, decide_true, if_true, it_tup, oP_some, Bool.true_and] at h ⊢
    refine ⟨by rw [List.length_map]; show _ ≤ 1000000; omega, ?_⟩
    refine (wC_map (g := fun b : Int => .bool (decide (plc ns c < plc ns b))) (fun b hb P => ?_) _).mpr ?_
    · rw [s_place ht]
      rfl
    · rw [bi_all]
      simp only [oP_some, bP_bool]
      cases hall : cms.all fun b => decide (plc ns c < plc ns b) with
      | true =>
        rw [hall] at h
        simp only [if_true, augD, oP_some] at h ⊢
        have := h (some (.int (plc ns c)))
        simpa using this
      | false =>
        rw [hall] at h
        simp only [Bool.false_eq_true, if_false, Nat.add_zero] at h ⊢
        exact h _
  · simp only [hm, decide_false, Bool.false_and, Bool.false_eq_true, if_false, Nat.add_zero] at h ⊢
    exact h _
theorem l_rise {t : Nat} (ht : 1 ≤ t) {cms : List Int} (hc : cms.length ≤ 100) {c : Int} (u0 u6 : Option D) (Q : Fl → Env → Prop) (X : XP) : ∀ (os : List D) (f : Nat) (u4 u5 : Option D), (∀ o ∈ os, ∃ ns : List Int, o = .tuple (ns.map .int)) →
    (∀ u4 u5, Q .next [u0, some (.tuple (cms.map .int)), some (.int c), some (.int ((f + riN cms c os : Nat) : Int)), u4, u5, u6]) →
    wL (fun x ρ Q => wS (Run T 2000 t) 2000 l_rising_voters_1 (ρ.set 4 (some x)) Q X) os [u0, some (.tuple (cms.map .int)), some (.int c), some (.int (f : Nat)), u4, u5, u6] Q
  | [], f, u4, u5, _, h => h u4 u5
  | o :: os, f, u4, u5, ho, h => by
    obtain ⟨ns, rfl⟩ := ho o List.mem_cons_self
    unfold wL
    simp only [List.set_cons_zero, List.set_cons_succ]
    refine t_rise ht hc u0 u5 u6 _ X fun v5 => ?_
    refine l_rise ht hc u0 u6 Q X os _ _ _ (fun x hx => ho x (List.mem_cons_of_mem _ hx)) fun v4 v5 => ?_
    have e : f + riN cms c (.tuple (ns.map .int) :: os) = (f + if riB cms c (.tuple (ns.map .int)) = true then 1 else 0) + riN cms c os := by
      unfold riN
      rw [List.filter_cons]
      split
      · rw [List.length_cons]; omega
      · omega
    have := h v4 v5
    rw [e] at this
    exact this
section
variable {m k : Int} {os : List D} (ho : ∀ o ∈ os, isOrder m o = true) (hm : 0 ≤ m) (hm8 : m ≤ 8) (hol : os.length ≤ 30)
include ho hm hm8 hol
theorem orders_ints : ∀ o ∈ os, ∃ ns : List Int, o = .tuple (ns.map .int) := fun o h => by
  obtain ⟨cs, rfl, h1, h2, h3, h4⟩ := order_of (ho o h)
  exact ⟨cs.map vI, by rw [← h4]⟩
theorem s_rising {n : Nat} (hn : 2 ≤ n) {cms : List Int} (hc : cms.length ≤ 100) (c : Int) (P : D → Prop) (X : XP) : Run T 2000 n frising_voters [.tuple [.int m, .tuple os, .int k], .tuple (cms.map .int), .int c] P X ↔ P (.int (riN cms c os : Nat)) := by
  obtain ⟨t, rfl⟩ : ∃ t, n = t + 1 := ⟨n - 1, by omega⟩
  refine Run.val (run_of (fi := i_rising_voters) rfl rfl ?_) P X
  simp only [i_rising_voters, b_rising_voters]
  simp only [wS, wE, wA, wO, wI, seqK_next, seqK_ret, fnK_ret, fnK_next, oP_some, oP_none, bP_bool, List.map_cons, List.map_nil, List.length_cons, List.length_nil, List.reduceReplicate, List.cons_append, List.nil_append, List.getD_cons_zero, List.getD_cons_succ, List.set_cons_zero, List.set_cons_succ, Nat.reduceAdd, Nat.reduceSub, Nat.zero_add, bindT_nm, bindT_tup, bindTs_nil, bindTs_cons, Option.bind_some, tgSlots, wipeE, List.append_nil, Bool.not_true, Bool.not_false, Bool.false_eq_true, if_true, if_false, reduceIte, Bool.or_true, Bool.or_false, Bool.true_or, Bool.false_or, true_and, and_true, ix_tup, at_c1, it_tup]
  refine l_rise (by omega) hc _ _ _ _ os 0 _ _ (orders_ints ho hm hm8 hol) fun v4 v5 => ?_
  simp only [wS, wE, wA, wO, wI, seqK_next, seqK_ret, fnK_ret, fnK_next, oP_some, oP_none, bP_bool, List.map_cons, List.map_nil, List.length_cons, List.length_nil, List.reduceReplicate, List.cons_append, List.nil_append, List.getD_cons_zero, List.getD_cons_succ, List.set_cons_zero, List.set_cons_succ, Nat.reduceAdd, Nat.reduceSub, Nat.zero_add, bindT_nm, bindT_tup, bindTs_nil, bindTs_cons, Option.bind_some, tgSlots, wipeE, List.append_nil, Bool.not_true, Bool.not_false, Bool.false_eq_true, if_true, if_false, reduceIte, Bool.or_true, Bool.or_false, Bool.true_or, Bool.false_or, true_and, and_true]
/-- who objects by local words -/
def locB (n : Nat) (k : Int) (os : List D) (cms : List Int) (c : Int) (b : Bool) : Bool := !decide (c ∈ cms) && (decide (0 < riN cms c os) && worth n k (riN cms c os) 1 b)
theorem riN_le (cms : List Int) (c : Int) : riN cms c os ≤ 30 := Nat.le_trans (List.length_filter_le _ _) hol
theorem s_fails_local {n : Nat} (hn : 3 ≤ n) {cms : List Int} (hc : cms.length ≤ 100) (c : Int) (w : Str) (P : D → Prop) (X : XP) : Run T 2000 n ffails_local [.tuple [.int m, .tuple os, .int k], .tuple (cms.map .int), .str w, .int c] P X ↔ P (.bool (locB os.length k os cms c (w == "local"))) := by
  obtain ⟨t, rfl⟩ : ∃ t, n = t + 1 := ⟨n - 1, by omega⟩
  have hr := riN_le ho hm hm8 hol cms c
  refine Run.val (run_of (fi := i_fails_local) rfl rfl ?_) P X
  simp only [i_fails_local, b_fails_local]
  simp only [wS, wE, wA, wO, wI, seqK_next, seqK_ret, fnK_ret, fnK_next, oP_some, oP_none, bP_bool, List.map_cons, List.map_nil, List.length_cons, List.length_nil, List.reduceReplicate, List.cons_append, List.nil_append, List.getD_cons_zero, List.getD_cons_succ, List.set_cons_zero, List.set_cons_succ, Nat.reduceAdd, Nat.reduceSub, Nat.zero_add, bindT_nm, bindT_tup, bindTs_nil, bindTs_cons, Option.bind_some, tgSlots, wipeE, List.append_nil, Bool.not_true, Bool.not_false, Bool.false_eq_true, if_true, if_false, reduceIte, Bool.or_true, Bool.or_false, Bool.true_or, Bool.false_or, true_and, and_true]
  rw [s_rising ho hm hm8 hol (by omega) hc]
  have e : cmpD .eq (.str w) (.str "local") = some (w == "local") := by simp [cmpD, okEq, PyData.plain, PyData.depth, PyData.eqv]
  simp only [wS, wE, wA, wO, wI, seqK_next, seqK_ret, fnK_ret, fnK_next, oP_some, oP_none, bP_bool, List.map_cons, List.map_nil, List.length_cons, List.length_nil, List.reduceReplicate, List.cons_append, List.nil_append, List.getD_cons_zero, List.getD_cons_succ, List.set_cons_zero, List.set_cons_succ, Nat.reduceAdd, Nat.reduceSub, Nat.zero_add, bindT_nm, bindT_tup, bindTs_nil, bindTs_cons, Option.bind_some, tgSlots, wipeE, List.append_nil, Bool.not_true, Bool.not_false, Bool.false_eq_true, if_true, if_false, reduceIte, Bool.or_true, Bool.or_false, Bool.true_or, Bool.false_or, true_and, and_true, cmp_nin_ints, cmp_gt, e]
  unfold locB
  by_cases h1 : c ∈ cms
  · simp [h1]
  · simp only [h1, decide_false, Bool.not_false, if_true, Bool.true_and]
    by_cases h2 : 0 < riN cms c os
    · have h2' : (0 : Int) < (riN cms c os : Nat) := by omega
      simp only [h2, h2', decide_true, if_true, Bool.true_and]
      rw [s_is_due (by omega) hol (by omega)]
    · have h2' : ¬ (0 : Int) < (riN cms c os : Nat) := by omega
      simp [h2, h2']
end
end EV.Law
end

section
set_option Elab.async false
set_option linter.all false
set_option autoImplicit false
set_option maxRecDepth 100000
set_option maxHeartbeats 1000000
namespace EV.Law
open PySem EV
def prB (cms : List Int) (c : Int) (o : D) : Bool := decide (c ∈ oI o) && ((oI o).take ((oI o).idxOf c)).all fun x => !decide (x ∈ cms)
def prN (cms : List Int) (c : Int) (os : List D) : Nat := (os.filter (prB cms c)).length
theorem take_idx : ∀ {ns : List Int} {b : Int} (i : Nat), b ∈ ns → (b ∈ ns.take i ↔ ns.idxOf b < i)
  | x :: ns, b, 0, _ => by simp
  | x :: ns, b, i + 1, h => by
    rw [List.take_succ_cons, List.mem_cons]
    by_cases e : b = x
    · subst e
      simp
    · have e2 : (x == b) = false := by simpa using fun z => e z.symm
      have hb : b ∈ ns := (List.mem_cons.mp h).resolve_left e
      have ih := take_idx i hb
      have ei : (x :: ns).idxOf b = ns.idxOf b + 1 := by
        rw [List.idxOf_cons, e2]
        rfl
      rw [ei]
      constructor
      · rintro (z | z)
        · exact absurd z e
        · have := ih.mp z; omega
      · intro z
        exact .inr (ih.mpr (by omega))
theorem idx_inj {ns : List Int} {a b : Int} (ha : a ∈ ns) (hb : b ∈ ns) (e : ns.idxOf a = ns.idxOf b) : a = b := by
  have h1 := List.idxOf_lt_length_iff.mpr ha
  have h2 := List.idxOf_lt_length_iff.mpr hb
  have e1 := List.getElem_idxOf h1
  have e2 := List.getElem_idxOf h2
  rw [← e1, ← e2]
  congr 1
theorem pr_ri {cms : List Int} {c : Int} (hc : c ∉ cms) (o : D) : prB cms c o = riB cms c o := by
  unfold prB riB
  generalize oI o = ns
  by_cases h : c ∈ ns
  · simp only [h, decide_true, Bool.true_and]
    have hi := List.idxOf_lt_length_iff.mpr h
    rw [Bool.eq_iff_iff]
    simp only [List.all_eq_true, Bool.not_eq_true', decide_eq_false_iff_not, decide_eq_true_eq]
    constructor
    · intro q b hb
      unfold plc
      rw [if_pos h]
      by_cases hbn : b ∈ ns
      · rw [if_pos hbn]
        have h1 : ¬ b ∈ ns.take (ns.idxOf c) := fun z => q b z hb
        rw [take_idx _ hbn] at h1
        have h2 : ns.idxOf c ≠ ns.idxOf b := fun z => hc (by rw [idx_inj h hbn z]; exact hb)
        omega
      · rw [if_neg hbn]
        omega
    · intro q x hx hxc
      have hxn := List.mem_of_mem_take hx
      have h1 := q x hxc
      unfold plc at h1
      rw [if_pos h, if_pos hxn] at h1
      have h2 := (take_idx _ hxn).mp hx
      omega
  · simp [h]
theorem t_pref {t : Nat} {cms : List Int} {c : Int} {ns : List Int} (hn : ns.length ≤ 4000) {f : Nat} (u0 u5 u6 : Option D) (Q : Fl → Env → Prop) (X : XP)
    (h : ∀ u5, Q .next [u0, some (.tuple (cms.map .int)), some (.int c), some (.int ((f + if prB cms c (.tuple (ns.map .int)) = true then 1 else 0 : Nat) : Int)), some (.tuple (ns.map .int)), u5, u6]) :
    wS (Run T 2000 t) 2000 l__law_preferring_1 [u0, some (.tuple (cms.map .int)), some (.int c), some (.int (f : Nat)), some (.tuple (ns.map .int)), u5, u6] Q X := by
  unfold l__law_preferring_1
  unfold prB at h
  rw [oI_ints] at h
  simp only [wS, wE, wA, wO, wI, seqK_next, seqK_ret, fnK_ret, fnK_next, oP_some, oP_none, bP_bool, List.map_cons, List.map_nil, List.length_cons, List.length_nil, List.reduceReplicate, List.cons_append, List.nil_append, List.getD_cons_zero, List.getD_cons_succ, List.set_cons_zero, List.set_cons_succ, Nat.reduceAdd, Nat.reduceSub, Nat.zero_add, bindT_nm, bindT_tup, bindTs_nil, bindTs_cons, Option.bind_some, tgSlots, wipeE, List.append_nil, Bool.not_true, Bool.not_false, Bool.false_eq_true, if_true, if_false, reduceIte, Bool.or_true, Bool.or_false, Bool.true_or, Bool.false_or, true_and, and_true, cmp_in_ints]
  by_cases hm : c ∈ ns
  · simp only [hm, decide_true, if_true, Bool.true_and] at h ⊢
    rw [show mtOk .indexI (.tuple (ns.map PyData.int)) = some () from rfl]
    simp only [oP_some, mt_idx ns c hm, endD, slT, it_tup]
    refine ⟨by rw [List.length_take, List.length_map]; show _ ≤ 1000000; omega, ?_⟩
    rw [← List.map_take]
    refine (wC_fil (c := fun x : Int => decide (x ∈ cms)) (g := fun x => .int x) (fun x hx P => ?_) _).mpr ?_
    · rw [cmp_in_ints]
      simp only [oP_some]
      exact ifP _ _ _
    · have pl : PyData.plainAll (((ns.take (ns.idxOf c)).filter fun x : Int => decide (x ∈ cms)).map fun x => PyData.int x) = true := plainAll_ints (fun x : Int => x) _
      rw [cmp_eq_nil pl, List.isEmpty_map]
      have e2 : ((ns.take (ns.idxOf c)).filter fun x : Int => decide (x ∈ cms)).isEmpty = (ns.take (ns.idxOf c)).all fun x => !decide (x ∈ cms) := by
        have := filter_not_all (fun x : Int => !decide (x ∈ cms)) (ns.take (ns.idxOf c))
        simpa using this
      rw [e2]
      have ei : ∀ b : Bool, biD .int [.bool b] = some (.int (if b then 1 else 0)) := fun _ => rfl
      simp only [oP_some, ei, binD]
      cases hall : (ns.take (ns.idxOf c)).all fun x => !decide (x ∈ cms) with
      | true =>
        rw [hall] at h
        have := h (some (.tuple ((ns.take (ns.idxOf c)).map .int)))
        simpa using this
      | false =>
        rw [hall] at h
        have := h (some (.tuple ((ns.take (ns.idxOf c)).map .int)))
        simpa using this
  · simp only [hm, decide_false, Bool.false_and, Bool.false_eq_true, if_false, Nat.add_zero] at h ⊢
    exact h _
theorem l_pref {t : Nat} {cms : List Int} {c : Int} (u0 u6 : Option D) (Q : Fl → Env → Prop) (X : XP) : ∀ (os : List D) (f : Nat) (u4 u5 : Option D), (∀ o ∈ os, ∃ ns : List Int, ns.length ≤ 4000 ∧ o = .tuple (ns.map .int)) →
    (∀ u4 u5, Q .next [u0, some (.tuple (cms.map .int)), some (.int c), some (.int ((f + prN cms c os : Nat) : Int)), u4, u5, u6]) →
    wL (fun x ρ Q => wS (Run T 2000 t) 2000 l__law_preferring_1 (ρ.set 4 (some x)) Q X) os [u0, some (.tuple (cms.map .int)), some (.int c), some (.int (f : Nat)), u4, u5, u6] Q
  | [], f, u4, u5, _, h => h u4 u5
  | o :: os, f, u4, u5, ho, h => by
    obtain ⟨ns, hn, rfl⟩ := ho o List.mem_cons_self
    unfold wL
    simp only [List.set_cons_zero, List.set_cons_succ]
    refine t_pref hn u0 u5 u6 _ X fun v5 => ?_
    refine l_pref u0 u6 Q X os _ _ _ (fun x hx => ho x (List.mem_cons_of_mem _ hx)) fun v4 v5 => ?_
    have e : f + prN cms c (.tuple (ns.map .int) :: os) = (f + if prB cms c (.tuple (ns.map .int)) = true then 1 else 0) + prN cms c os := by
      unfold prN
      rw [List.filter_cons]
      split
      · rw [List.length_cons]; omega
      · omega
    have := h v4 v5
    rw [e] at this
    exact this
section
variable {m k : Int} {os : List D} (ho : ∀ o ∈ os, isOrder m o = true) (hm : 0 ≤ m) (hm8 : m ≤ 8) (hol : os.length ≤ 30)
include ho hm hm8 hol
theorem s_lpref {n : Nat} (hn : 1 ≤ n) {cms : List Int} {c : Int} (hc : c ∉ cms) (P : D → Prop) (X : XP) : Run T 2000 n f_law_preferring [.tuple [.int m, .tuple os, .int k], .tuple (cms.map .int), .int c] P X ↔ P (.int (riN cms c os : Nat)) := by
  obtain ⟨t, rfl⟩ : ∃ t, n = t + 1 := ⟨n - 1, by omega⟩
  refine Run.val (run_of (fi := i__law_preferring) rfl rfl ?_) P X
  simp only [i__law_preferring, b__law_preferring]
  simp only [wS, wE, wA, wO, wI, seqK_next, seqK_ret, fnK_ret, fnK_next, oP_some, oP_none, bP_bool, List.map_cons, List.map_nil, List.length_cons, List.length_nil, List.reduceReplicate, List.cons_append, List.nil_append, List.getD_cons_zero, List.getD_cons_succ, List.set_cons_zero, List.set_cons_succ, Nat.reduceAdd, Nat.reduceSub, Nat.zero_add, bindT_nm, bindT_tup, bindTs_nil, bindTs_cons, Option.bind_some, tgSlots, wipeE, List.append_nil, Bool.not_true, Bool.not_false, Bool.false_eq_true, if_true, if_false, reduceIte, Bool.or_true, Bool.or_false, Bool.true_or, Bool.false_or, true_and, and_true, ix_tup, at_c1, it_tup]
  refine l_pref _ _ _ _ os 0 _ _ (fun o h => ?_) fun v4 v5 => ?_
  · obtain ⟨cs, rfl, h1, h2, h3, h4⟩ := order_of (ho o h)
    have := ord_len hm h2 h3
    exact ⟨cs.map vI, by rw [List.length_map]; omega, by rw [← h4]⟩
  · simp only [wS, wE, wA, wO, wI, seqK_next, seqK_ret, fnK_ret, fnK_next, oP_some, oP_none, bP_bool, List.map_cons, List.map_nil, List.length_cons, List.length_nil, List.reduceReplicate, List.cons_append, List.nil_append, List.getD_cons_zero, List.getD_cons_succ, List.set_cons_zero, List.set_cons_succ, Nat.reduceAdd, Nat.reduceSub, Nat.zero_add, bindT_nm, bindT_tup, bindTs_nil, bindTs_cons, Option.bind_some, tgSlots, wipeE, List.append_nil, Bool.not_true, Bool.not_false, Bool.false_eq_true, if_true, if_false, reduceIte, Bool.or_true, Bool.or_false, Bool.true_or, Bool.false_or, true_and, and_true]
    have e : prN cms c os = riN cms c os := by
      unfold prN riN
      congr 1
      exact List.filter_congr fun o _ => pr_ri hc o
    rw [e]
end
end EV.Law
end

section
set_option Elab.async false
set_option linter.all false
set_option autoImplicit false
set_option maxRecDepth 100000
set_option maxHeartbeats 1000000
namespace EV.Law
open PySem EV
/-! ### the eight words -/
def wW : Nat → Str
  | 0 => "droop"
  | 1 => "hare"
  | 2 => "weakdroop"
  | 3 => "weakhare"
  | 4 => "local"
  | 5 => "localhare"
  | 6 => "firstdroop"
  | _ => "first"
def isDr (i : Nat) : Bool := i == 0 || i == 2 || i == 6
def isWk (i : Nat) : Bool := i == 2 || i == 3
def isLo (i : Nat) : Bool := i == 4 || i == 5
def isFi (i : Nat) : Bool := i == 6 || i == 7
theorem all8 {p : Nat → Prop} (h0 : p 0) (h1 : p 1) (h2 : p 2) (h3 : p 3) (h4 : p 4) (h5 : p 5) (h6 : p 6) (h7 : p 7) {i : Nat} (h : i < 8) : p i := by
  rcases (show i = 0 ∨ i = 1 ∨ i = 2 ∨ i = 3 ∨ i = 4 ∨ i = 5 ∨ i = 6 ∨ i = 7 by omega) with rfl | rfl | rfl | rfl | rfl | rfl | rfl | rfl <;> assumption
theorem w_weak {i : Nat} (h : i < 8) : mtD .startswith (.str (wW i)) [.str "weak"] = some (.bool (isWk i)) := all8 (p := fun i => mtD .startswith (.str (wW i)) [.str "weak"] = some (.bool (isWk i))) rfl rfl rfl rfl rfl rfl rfl rfl h
theorem w_first {i : Nat} (h : i < 8) : mtD .startswith (.str (wW i)) [.str "first"] = some (.bool (isFi i)) := all8 (p := fun i => mtD .startswith (.str (wW i)) [.str "first"] = some (.bool (isFi i))) rfl rfl rfl rfl rfl rfl rfl rfl h
theorem w_local {i : Nat} (h : i < 8) : mtD .startswith (.str (wW i)) [.str "local"] = some (.bool (isLo i)) := all8 (p := fun i => mtD .startswith (.str (wW i)) [.str "local"] = some (.bool (isLo i))) rfl rfl rfl rfl rfl rfl rfl rfl h
theorem w_dr3 {i : Nat} (h : i < 8) : cmpD .in_ (.str (wW i)) (.tuple [.str "droop", .str "weakdroop", .str "firstdroop"]) = some (isDr i) := all8 (p := fun i => cmpD .in_ (.str (wW i)) (.tuple [.str "droop", .str "weakdroop", .str "firstdroop"]) = some (isDr i)) (by decide +kernel) (by decide +kernel) (by decide +kernel) (by decide +kernel) (by decide +kernel) (by decide +kernel) (by decide +kernel) (by decide +kernel) h
theorem w_dr3l {i : Nat} (h : i < 8) : cmpD .in_ (.str (wW i)) (.list [.str "droop", .str "weakdroop", .str "firstdroop"]) = some (isDr i) := all8 (p := fun i => cmpD .in_ (.str (wW i)) (.list [.str "droop", .str "weakdroop", .str "firstdroop"]) = some (isDr i)) (by decide +kernel) (by decide +kernel) (by decide +kernel) (by decide +kernel) (by decide +kernel) (by decide +kernel) (by decide +kernel) (by decide +kernel) h
theorem w_lo2 {i : Nat} (h : i < 8) : cmpD .in_ (.str (wW i)) (.list [.str "local", .str "localhare"]) = some (isLo i) := all8 (p := fun i => cmpD .in_ (.str (wW i)) (.list [.str "local", .str "localhare"]) = some (isLo i)) (by decide +kernel) (by decide +kernel) (by decide +kernel) (by decide +kernel) (by decide +kernel) (by decide +kernel) (by decide +kernel) (by decide +kernel) h
theorem w_wk2 {i : Nat} (h : i < 8) : cmpD .in_ (.str (wW i)) (.list [.str "weakdroop", .str "weakhare"]) = some (isWk i) := all8 (p := fun i => cmpD .in_ (.str (wW i)) (.list [.str "weakdroop", .str "weakhare"]) = some (isWk i)) (by decide +kernel) (by decide +kernel) (by decide +kernel) (by decide +kernel) (by decide +kernel) (by decide +kernel) (by decide +kernel) (by decide +kernel) h
theorem w_fi2 {i : Nat} (h : i < 8) : cmpD .in_ (.str (wW i)) (.list [.str "firstdroop", .str "first"]) = some (isFi i) := all8 (p := fun i => cmpD .in_ (.str (wW i)) (.list [.str "firstdroop", .str "first"]) = some (isFi i)) (by decide +kernel) (by decide +kernel) (by decide +kernel) (by decide +kernel) (by decide +kernel) (by decide +kernel) (by decide +kernel) (by decide +kernel) h
theorem w_loc {i : Nat} (h : i < 8) : (wW i == "local") = (i == 4) := all8 (p := fun i => (wW i == "local") = (i == 4)) (by decide +kernel) (by decide +kernel) (by decide +kernel) (by decide +kernel) (by decide +kernel) (by decide +kernel) (by decide +kernel) (by decide +kernel) h
/-- the law's words -/
def wordsL : D := .list [.str "droop", .str "hare", .str "weakdroop", .str "weakhare", .str "local", .str "localhare", .str "firstdroop", .str "first"]
theorem w_all {i : Nat} (h : i < 8) : cmpD .nin (.str (wW i)) wordsL = some false := all8 (p := fun i => cmpD .nin (.str (wW i)) wordsL = some false) (by decide +kernel) (by decide +kernel) (by decide +kernel) (by decide +kernel) (by decide +kernel) (by decide +kernel) (by decide +kernel) (by decide +kernel) h
theorem s_lwords {n : Nat} (hn : 1 ≤ n) (P : D → Prop) (X : XP) : Run T 2000 n f_law_words [] P X ↔ P wordsL := by
  obtain ⟨m, rfl⟩ : ∃ m, n = m + 1 := ⟨n - 1, by omega⟩
  refine Run.val (run_of (fi := i__law_words) rfl rfl ?_) P X
  simp only [i__law_words, b__law_words]
  simp only [wS, wE, wA, wO, wI, seqK_next, seqK_ret, fnK_ret, fnK_next, oP_some, oP_none, bP_bool, List.map_cons, List.map_nil, List.length_cons, List.length_nil, List.reduceReplicate, List.cons_append, List.nil_append, List.getD_cons_zero, List.getD_cons_succ, List.set_cons_zero, List.set_cons_succ, Nat.reduceAdd, Nat.reduceSub, Nat.zero_add, bindT_nm, bindT_tup, bindTs_nil, bindTs_cons, Option.bind_some, tgSlots, wipeE, List.append_nil, Bool.not_true, Bool.not_false, Bool.false_eq_true, if_true, if_false, reduceIte, Bool.or_true, Bool.or_false, Bool.true_or, Bool.false_or, true_and, and_true]
  exact rfl
/-! ### objections by solid voters -/
def own (cms ps : List Int) : Nat := (cms.filter fun c => decide (c ∈ ps)).length
theorem own_swap {cms ps : List Int} (h1 : cms.Nodup) (h2 : ps.Nodup) : own ps cms = own cms ps := by
  have g1 := sub_len (l := ps.filter fun c => decide (c ∈ cms)) (m := cms.filter fun c => decide (c ∈ ps)) (h2.sublist List.filter_sublist) fun x hx => by
    simp only [List.mem_filter, decide_eq_true_eq] at hx ⊢
    exact ⟨hx.2, hx.1⟩
  have g2 := sub_len (l := cms.filter fun c => decide (c ∈ ps)) (m := ps.filter fun c => decide (c ∈ cms)) (h1.sublist List.filter_sublist) fun x hx => by
    simp only [List.mem_filter, decide_eq_true_eq] at hx ⊢
    exact ⟨hx.2, hx.1⟩
  unfold own
  omega
def solO (n : Nat) (k : Int) (os : List D) (cms : List Int) (i : Nat) (ps : List Int) (l : Int) : Bool :=
  !(isWk i && decide (l < (ps.length : Nat))) && (!(isFi i && !(decide (ps.length = 1) && decide (l = 1))) && (decide (0 < solN ps os) && (worth n k (solN ps os) l (isDr i) && decide (((own cms ps : Nat) : Int) < if ((ps.length : Nat) : Int) < l then ((ps.length : Nat) : Int) else l))))
theorem own_comp (cms ps : List Int) (P : List D → Prop) : wC (fun x P => oP (cmpD .in_ x (.tuple (ps.map PyData.int))) fun k => if k = true then P (some x) else P none) (cms.map PyData.int) P ↔ P ((cms.filter fun c => decide (c ∈ ps)).map PyData.int) := by
  refine wC_fil (c := fun c : Int => decide (c ∈ ps)) (g := fun c => .int c) (fun c hc P => ?_) P
  rw [cmp_in_ints]
  simp only [oP_some]
  exact ifP _ _ _
theorem min_2 (i j : Int) : biD .min [.int i, .int j] = some (.int (if j < i then j else i)) := rfl
theorem len_mapT (ns : List Int) : biD .len [.tuple (ns.map PyData.int)] = some (.int (ns.length : Nat)) := by rw [len_tup, List.length_map]
theorem len_mapL (ns : List Int) : biD .len [.list (ns.map PyData.int)] = some (.int (ns.length : Nat)) := by rw [len_lst, List.length_map]
section
variable {m k : Int} {os : List D} (ho : ∀ o ∈ os, isOrder m o = true) (hm : 0 ≤ m) (hm8 : m ≤ 8) (hol : os.length ≤ 30)
include ho hm hm8 hol
theorem solN_le (ps : List Int) : solN ps os ≤ 30 := Nat.le_trans (List.length_filter_le _ _) hol
theorem s_fails_solid {n : Nat} (hn : 3 ≤ n) {cms : List Int} (hc : cms.length ≤ 100) {i : Nat} (hi : i < 8) {ps : List Int} (hp : ps.length ≤ 10) (l : Int) (P : D → Prop) (X : XP) : Run T 2000 n ffails_solid [.tuple [.int m, .tuple os, .int k], .tuple (cms.map .int), .str (wW i), .tuple (ps.map .int), .int l] P X ↔ P (.bool (solO os.length k os cms i ps l)) := by
  obtain ⟨t, rfl⟩ : ∃ t, n = t + 1 := ⟨n - 1, by omega⟩
  have hr := solN_le ho hm hm8 hol ps
  refine Run.val (run_of (fi := i_fails_solid) rfl rfl ?_) P X
  simp only [i_fails_solid, b_fails_solid]
  have e1 : mtOk .startswith (.str (wW i)) = some () := rfl
  have e3 : cmpD .ne (.int l) (.int 1) = some (!decide (l = 1)) := cmp_ne_int l 1
  have e4 : decide (((ps.length : Nat) : Int) = 1) = decide (ps.length = 1) := decide_eq_decide.mpr (by omega)
  simp only [wS, wE, wA, wO, wI, seqK_next, seqK_ret, fnK_ret, fnK_next, oP_some, oP_none, bP_bool, List.map_cons, List.map_nil, List.length_cons, List.length_nil, List.reduceReplicate, List.cons_append, List.nil_append, List.getD_cons_zero, List.getD_cons_succ, List.set_cons_zero, List.set_cons_succ, Nat.reduceAdd, Nat.reduceSub, Nat.zero_add, bindT_nm, bindT_tup, bindTs_nil, bindTs_cons, Option.bind_some, tgSlots, wipeE, List.append_nil, Bool.not_true, Bool.not_false, Bool.false_eq_true, if_true, if_false, reduceIte, Bool.or_true, Bool.or_false, Bool.true_or, Bool.false_or, true_and, and_true, w_dr3 hi, e1, w_weak hi, w_first hi, len_mapT, cmp_gt, cmp_ne_int, e4]
  by_cases h1 : (isWk i && decide (l < (ps.length : Nat))) = true
  · have h2 : isWk i = true ∧ decide (l < (ps.length : Nat)) = true := by simpa using h1
    simp only [h2.1, h2.2, if_true]
    simp only [solO, h1, Bool.not_true, Bool.false_and]
  · rw [Bool.not_eq_true] at h1
    have g1 : ∀ {Q R : Prop}, (if isWk i = true then if decide (l < (ps.length : Nat)) = true then Q else R else R) ↔ R := fun {Q R} => by
      cases ha : isWk i <;> cases hb : decide (l < (ps.length : Nat)) <;> simp_all
    refine g1.mpr ?_
    by_cases h3 : (isFi i && !(decide (ps.length = 1) && decide (l = 1))) = true
    · have h4 : isFi i = true ∧ (decide (ps.length = 1) && decide (l = 1)) = false := by
        rw [Bool.and_eq_true, Bool.not_eq_true'] at h3
        exact h3
      simp only [h4.1, if_true]
      have g2 : ∀ {Q R : Prop}, (if (!decide (ps.length = 1)) = true then Q else if (!decide (l = 1)) = true then Q else R) ↔ Q := fun {Q R} => by
        have := h4.2
        cases ha : decide (ps.length = 1) <;> cases hb : decide (l = 1) <;> simp_all
      refine g2.mpr ?_
      simp only [solO, h1, h3, Bool.not_true, Bool.not_false, Bool.false_and, Bool.and_false]
    · rw [Bool.not_eq_true] at h3
      have g3 : ∀ {Q R : Prop}, (if isFi i = true then if (!decide (ps.length = 1)) = true then Q else if (!decide (l = 1)) = true then Q else R else R) ↔ R := fun {Q R} => by
        cases hx : isFi i <;> cases ha : decide (ps.length = 1) <;> cases hb : decide (l = 1) <;> simp_all
      refine g3.mpr ?_
      rw [s_solid ho hm hm8 hol (by omega) hp]
      simp only [wS, wE, wA, wO, wI, seqK_next, seqK_ret, fnK_ret, fnK_next, oP_some, oP_none, bP_bool, List.map_cons, List.map_nil, List.length_cons, List.length_nil, List.reduceReplicate, List.cons_append, List.nil_append, List.getD_cons_zero, List.getD_cons_succ, List.set_cons_zero, List.set_cons_succ, Nat.reduceAdd, Nat.reduceSub, Nat.zero_add, bindT_nm, bindT_tup, bindTs_nil, bindTs_cons, Option.bind_some, tgSlots, wipeE, List.append_nil, Bool.not_true, Bool.not_false, Bool.false_eq_true, if_true, if_false, reduceIte, Bool.or_true, Bool.or_false, Bool.true_or, Bool.false_or, true_and, and_true, it_tup]
      refine ⟨by rw [List.length_map]; show _ ≤ 1000000; omega, ?_⟩
      refine (own_comp cms ps _).mpr ?_
      simp only [wS, wE, wA, wO, wI, seqK_next, seqK_ret, fnK_ret, fnK_next, oP_some, oP_none, bP_bool, List.map_cons, List.map_nil, List.length_cons, List.length_nil, List.reduceReplicate, List.cons_append, List.nil_append, List.getD_cons_zero, List.getD_cons_succ, List.set_cons_zero, List.set_cons_succ, Nat.reduceAdd, Nat.reduceSub, Nat.zero_add, bindT_nm, bindT_tup, bindTs_nil, bindTs_cons, Option.bind_some, tgSlots, wipeE, List.append_nil, Bool.not_true, Bool.not_false, Bool.false_eq_true, if_true, if_false, reduceIte, Bool.or_true, Bool.or_false, Bool.true_or, Bool.false_or, true_and, and_true, len_mapL, cmp_gt, cmp_lt, min_2]
      unfold solO
      rw [h1, h3]
      simp only [Bool.not_false, Bool.true_and]
      by_cases h5 : 0 < solN ps os
      · have h5' : (0 : Int) < (solN ps os : Nat) := by omega
        simp only [h5, h5', decide_true, if_true, Bool.true_and]
        rw [s_is_due (by omega) hol (by omega)]
        cases worth os.length k (solN ps os) l (isDr i) with
        | true =>
          simp only [bP_bool, if_true, Bool.true_and]
          rfl
        | false => simp
      · have h5' : ¬ (0 : Int) < (solN ps os : Nat) := by omega
        simp [h5, h5']
end
end EV.Law
end

section
set_option Elab.async false
set_option linter.all false
set_option autoImplicit false
set_option maxRecDepth 100000
set_option maxHeartbeats 1000000
namespace EV.Law
open PySem EV
def gI (g : List Nat) : List Int := g.map fun v : Nat => (v : Int)
theorem encG_gI (g : List Nat) : encG g = .tuple ((gI g).map .int) := by
  unfold encG gI
  rw [List.map_map]
  rfl
theorem gP_spec {n : Nat} (hn : n < 7) {g : List Nat} (h : g ∈ (gL n).drop 1) : g ≠ [] ∧ (∀ v ∈ g, v < n) ∧ g.length ≤ 10 ∧ g.Pairwise (· < ·) := by
  have := List.all_eq_true.mp (g_good n hn) g h
  simp only [Bool.and_eq_true, Bool.not_eq_true', decide_eq_true_eq, List.all_eq_true] at this
  refine ⟨fun e => ?_, this.1.1.2, this.1.2, this.2⟩
  rw [e] at this
  exact absurd this.1.1.1 (by simp)
theorem gI_pw {g : List Nat} (h : g.Pairwise (· < ·)) : (gI g).Pairwise (· < ·) := List.pairwise_map.mpr (h.imp fun h => by omega)
theorem gI_nd {g : List Nat} (h : g.Pairwise (· < ·)) : (gI g).Nodup := (gI_pw h).imp fun h => by omega
theorem gr_plain (n : Nat) : PyData.plainAll (grL n) = true := plain_allE fun d hd => by
  obtain ⟨g, _, rfl⟩ := sL_mem.mp hd
  rw [encG_gI]
  exact plainAll_int _
theorem cmp_nin_gr {n : Nat} {g : List Nat} (h : g ∈ (gL n).drop 1) : cmpD .nin (encG g) (.list (grL n)) = some false := by
  have o : okIn (encG g) (grL n) = true := by
    unfold okIn
    rw [gr_plain, Bool.and_true, Bool.and_eq_true, decide_eq_true_eq]
    refine ⟨?_, ?_⟩
    · rw [encG_gI]; exact plainAll_int _
    · have := depthAll_int (gI g)
      rw [encG_gI]
      simp only [PyData.depth]
      omega
  have a : (grL n).any (fun z => PyData.eqv z (encG g)) = true := List.any_eq_true.mpr ⟨encG g, sL_mem.mpr ⟨g, h, rfl⟩, by rw [encG_gI, eqv_intT]; simp⟩
  simp only [cmpD, o, if_true, a, Bool.not_true]
theorem no_bools (ps : List Int) (P : List D → Prop) : wC (fun x P => PyData.plain x = true ∧ if isiD x .bool = true then P (some x) else P none) (ps.map PyData.int) P ↔ P [] := by
  have h := wC_fil (f := fun x P => PyData.plain x = true ∧ if isiD x .bool = true then P (some x) else P none) (enc := PyData.int) (c := fun _ : Int => false) (g := fun c => .int c) (xs := ps) (fun c hc P => by
    simp [isiD, PyData.plain]) P
  rw [h]
  have e : ps.filter (fun _ => false) = [] := List.filter_eq_nil_iff.mpr fun _ _ => Bool.false_ne_true
  rw [e]
  rfl
/-! ### the law's look at objections, statement by statement -/
def sHd : S → S
  | .seq a _ => a
  | s => s
def sTl : S → S
  | .seq _ b => b
  | s => s
def ob1 : S := sTl b__law_objects
def ob2 : S := sTl ob1
def ob3 : S := sTl ob2
def ob4 : S := sTl ob3
def ob5 : S := sTl ob4
def ob6 : S := sTl ob5
def ob7 : S := sTl ob6
def ob8 : S := sTl ob7
def oh0 : S := sHd b__law_objects
def oh1 : S := sHd ob1
def oh2 : S := sHd ob2
def oh3 : S := sHd ob3
def oh4 : S := sHd ob4
def oh5 : S := sHd ob5
def oh6 : S := sHd ob6
def oh7 : S := sHd ob7
theorem oe0 : b__law_objects = .seq oh0 ob1 := rfl
theorem oe1 : ob1 = .seq oh1 ob2 := rfl
theorem oe2 : ob2 = .seq oh2 ob3 := rfl
theorem oe3 : ob3 = .seq oh3 ob4 := rfl
theorem oe4 : ob4 = .seq oh4 ob5 := rfl
theorem oe5 : ob5 = .seq oh5 ob6 := rfl
theorem oe6 : ob6 = .seq oh6 ob7 := rfl
theorem oe7 : ob7 = .seq oh7 ob8 := rfl
section
variable {m k : Int} {os : List D} (ho : ∀ o ∈ os, isOrder m o = true) (hm : 0 ≤ m) (hm6 : m ≤ 6) (hol : os.length ≤ 30)
include ho hm hm6 hol
theorem s_objS {n : Nat} (hn : 2 ≤ n) {cms : List Int} (hc : cms.length ≤ 100) (hcn : cms.Nodup) {i : Nat} (hi : i < 8) (hlo : isLo i = false) {g : List Nat} (hg : g ∈ (gL m.toNat).drop 1) {l : Int} (hl1 : 1 ≤ l) (hlk : l ≤ k) (P : D → Prop) (X : XP) : Run T 2000 n f_law_objects [.tuple [.int m, .tuple os, .int k], .tuple (cms.map .int), .tuple [.str (wW i), encG g, .int l]] P X ↔ P (.bool (solO os.length k os cms i (gI g) l)) := by
  obtain ⟨t, rfl⟩ : ∃ t, n = t + 1 := ⟨n - 1, by omega⟩
  have hr := solN_le ho hm (by omega) hol (gI g)
  obtain ⟨gne, gm, gl, gp⟩ := gP_spec (by omega) hg
  have hgl : (gI g).length ≤ 10 := by unfold gI; rw [List.length_map]; exact gl
  refine Run.val (run_of (fi := i__law_objects) rfl rfl ?_) P X
  simp only [i__law_objects]
  rw [oe0]
  simp only [sHd, sTl, oh0, b__law_objects]
  have el2 : biD .len [.tuple [.str (wW i), encG g, .int l]] = some (.int 3) := rfl
  have ew : isiD (.str (wW i)) .str = true := rfl
  have et : isiD (encG g) .tuple = true := rfl
  simp only [wS, wE, wA, wO, wI, seqK_next, seqK_ret, fnK_ret, fnK_next, oP_some, oP_none, bP_bool, List.map_cons, List.map_nil, List.length_cons, List.length_nil, List.reduceReplicate, List.cons_append, List.nil_append, List.getD_cons_zero, List.getD_cons_succ, List.set_cons_zero, List.set_cons_succ, Nat.reduceAdd, Nat.reduceSub, Nat.zero_add, bindT_nm, bindT_tup, bindTs_nil, bindTs_cons, Option.bind_some, tgSlots, wipeE, List.append_nil, Bool.not_true, Bool.not_false, Bool.false_eq_true, if_true, if_false, reduceIte, Bool.or_true, Bool.or_false, Bool.true_or, Bool.false_or, true_and, and_true, isi_tt, el2, cmp_lt, ix_tup, at_c0, at_c1, at_c2, ew]
  rw [s_lwords (by omega)]
  have lt32 : decide ((3 : Int) < 2) = false := rfl
  have ne33 : cmpD .ne (.int 3) (.int 3) = some false := rfl
  simp only [wS, wE, wA, wO, wI, seqK_next, seqK_ret, fnK_ret, fnK_next, oP_some, oP_none, bP_bool, List.map_cons, List.map_nil, List.length_cons, List.length_nil, List.reduceReplicate, List.cons_append, List.nil_append, List.getD_cons_zero, List.getD_cons_succ, List.set_cons_zero, List.set_cons_succ, Nat.reduceAdd, Nat.reduceSub, Nat.zero_add, bindT_nm, bindT_tup, bindTs_nil, bindTs_cons, Option.bind_some, tgSlots, wipeE, List.append_nil, Bool.not_true, Bool.not_false, Bool.false_eq_true, if_true, if_false, reduceIte, Bool.or_true, Bool.or_false, Bool.true_or, Bool.false_or, true_and, and_true, w_all hi, lt32, el2]
  rw [oe1]
  simp only [sHd, sTl, oh1, ob1, b__law_objects]
  simp only [wS, wE, wA, wO, wI, seqK_next, seqK_ret, fnK_ret, fnK_next, oP_some, oP_none, bP_bool, List.map_cons, List.map_nil, List.length_cons, List.length_nil, List.reduceReplicate, List.cons_append, List.nil_append, List.getD_cons_zero, List.getD_cons_succ, List.set_cons_zero, List.set_cons_succ, Nat.reduceAdd, Nat.reduceSub, Nat.zero_add, bindT_nm, bindT_tup, bindTs_nil, bindTs_cons, Option.bind_some, tgSlots, wipeE, List.append_nil, Bool.not_true, Bool.not_false, Bool.false_eq_true, if_true, if_false, reduceIte, Bool.or_true, Bool.or_false, Bool.true_or, Bool.false_or, true_and, and_true, ix_tup, at_c0, at_c1, at_c2]
  rw [oe2]
  simp only [sHd, sTl, oh2, ob1, ob2, b__law_objects]
  simp only [wS, wE, wA, wO, wI, seqK_next, seqK_ret, fnK_ret, fnK_next, oP_some, oP_none, bP_bool, List.map_cons, List.map_nil, List.length_cons, List.length_nil, List.reduceReplicate, List.cons_append, List.nil_append, List.getD_cons_zero, List.getD_cons_succ, List.set_cons_zero, List.set_cons_succ, Nat.reduceAdd, Nat.reduceSub, Nat.zero_add, bindT_nm, bindT_tup, bindTs_nil, bindTs_cons, Option.bind_some, tgSlots, wipeE, List.append_nil, Bool.not_true, Bool.not_false, Bool.false_eq_true, if_true, if_false, reduceIte, Bool.or_true, Bool.or_false, Bool.true_or, Bool.false_or, true_and, and_true, w_lo2 hi, hlo]
  rw [oe3]
  simp only [sHd, sTl, oh3, ob1, ob2, ob3, b__law_objects]
  simp only [wS, wE, wA, wO, wI, seqK_next, seqK_ret, fnK_ret, fnK_next, oP_some, oP_none, bP_bool, List.map_cons, List.map_nil, List.length_cons, List.length_nil, List.reduceReplicate, List.cons_append, List.nil_append, List.getD_cons_zero, List.getD_cons_succ, List.set_cons_zero, List.set_cons_succ, Nat.reduceAdd, Nat.reduceSub, Nat.zero_add, bindT_nm, bindT_tup, bindTs_nil, bindTs_cons, Option.bind_some, tgSlots, wipeE, List.append_nil, Bool.not_true, Bool.not_false, Bool.false_eq_true, if_true, if_false, reduceIte, Bool.or_true, Bool.or_false, Bool.true_or, Bool.false_or, true_and, and_true, el2, ne33, et, ix_tup, at_c0, at_c1, at_c2]
  rw [s_lparts (by omega) hm hm6]
  simp only [cmp_nin_gr hg, oP_some, Bool.false_eq_true, if_false]
  rw [s_lwhole (by omega) rfl]
  have wl : wIn 1 k (.int l) = true := by simp [wIn, hl1, hlk]
  simp only [wS, wE, wA, wO, wI, seqK_next, seqK_ret, fnK_ret, fnK_next, oP_some, oP_none, bP_bool, List.map_cons, List.map_nil, List.length_cons, List.length_nil, List.reduceReplicate, List.cons_append, List.nil_append, List.getD_cons_zero, List.getD_cons_succ, List.set_cons_zero, List.set_cons_succ, Nat.reduceAdd, Nat.reduceSub, Nat.zero_add, bindT_nm, bindT_tup, bindTs_nil, bindTs_cons, Option.bind_some, tgSlots, wipeE, List.append_nil, Bool.not_true, Bool.not_false, Bool.false_eq_true, if_true, if_false, reduceIte, Bool.or_true, Bool.or_false, Bool.true_or, Bool.false_or, true_and, and_true, wl]
  rw [encG_gI]
  rw [oe4]
  simp only [sHd, sTl, oh4, ob1, ob2, ob3, ob4, b__law_objects]
  simp only [wS, wE, wA, wO, wI, seqK_next, seqK_ret, fnK_ret, fnK_next, oP_some, oP_none, bP_bool, List.map_cons, List.map_nil, List.length_cons, List.length_nil, List.reduceReplicate, List.cons_append, List.nil_append, List.getD_cons_zero, List.getD_cons_succ, List.set_cons_zero, List.set_cons_succ, Nat.reduceAdd, Nat.reduceSub, Nat.zero_add, bindT_nm, bindT_tup, bindTs_nil, bindTs_cons, Option.bind_some, tgSlots, wipeE, List.append_nil, Bool.not_true, Bool.not_false, Bool.false_eq_true, if_true, if_false, reduceIte, Bool.or_true, Bool.or_false, Bool.true_or, Bool.false_or, true_and, and_true, it_tup, ix_tup, at_c0, at_c1, at_c2]
  have pw : (PyData.tuple ((gI g).map PyData.int)).plain = true := plainAll_int _
  have pv : (PyData.tuple [.str (wW i), .tuple ((gI g).map PyData.int), .int l]).plain = true := by simp [PyData.plain, PyData.plainAll, plainAll_int]
  refine ⟨pv, rfl, pw, by rw [List.length_map]; show _ ≤ 1000000; omega, ?_⟩
  refine (no_bools (gI g) _).mpr ?_
  have en : cmpD .ne (.list []) (.list []) = some false := rfl
  have e4 : decide ((((gI g).length : Nat) : Int) = 1) = decide ((gI g).length = 1) := decide_eq_decide.mpr (by omega)
  simp only [wS, wE, wA, wO, wI, seqK_next, seqK_ret, fnK_ret, fnK_next, oP_some, oP_none, bP_bool, List.map_cons, List.map_nil, List.length_cons, List.length_nil, List.reduceReplicate, List.cons_append, List.nil_append, List.getD_cons_zero, List.getD_cons_succ, List.set_cons_zero, List.set_cons_succ, Nat.reduceAdd, Nat.reduceSub, Nat.zero_add, bindT_nm, bindT_tup, bindTs_nil, bindTs_cons, Option.bind_some, tgSlots, wipeE, List.append_nil, Bool.not_true, Bool.not_false, Bool.false_eq_true, if_true, if_false, reduceIte, Bool.or_true, Bool.or_false, Bool.true_or, Bool.false_or, true_and, and_true, en]
  rw [oe5]
  simp only [sHd, sTl, oh5, ob1, ob2, ob3, ob4, ob5, b__law_objects]
  simp only [wS, wE, wA, wO, wI, seqK_next, seqK_ret, fnK_ret, fnK_next, oP_some, oP_none, bP_bool, List.map_cons, List.map_nil, List.length_cons, List.length_nil, List.reduceReplicate, List.cons_append, List.nil_append, List.getD_cons_zero, List.getD_cons_succ, List.set_cons_zero, List.set_cons_succ, Nat.reduceAdd, Nat.reduceSub, Nat.zero_add, bindT_nm, bindT_tup, bindTs_nil, bindTs_cons, Option.bind_some, tgSlots, wipeE, List.append_nil, Bool.not_true, Bool.not_false, Bool.false_eq_true, if_true, if_false, reduceIte, Bool.or_true, Bool.or_false, Bool.true_or, Bool.false_or, true_and, and_true, ix_tup, at_c0, at_c1, at_c2]
  rw [oe6]
  simp only [sHd, sTl, oh6, ob1, ob2, ob3, ob4, ob5, ob6, b__law_objects]
  simp only [wS, wE, wA, wO, wI, seqK_next, seqK_ret, fnK_ret, fnK_next, oP_some, oP_none, bP_bool, List.map_cons, List.map_nil, List.length_cons, List.length_nil, List.reduceReplicate, List.cons_append, List.nil_append, List.getD_cons_zero, List.getD_cons_succ, List.set_cons_zero, List.set_cons_succ, Nat.reduceAdd, Nat.reduceSub, Nat.zero_add, bindT_nm, bindT_tup, bindTs_nil, bindTs_cons, Option.bind_some, tgSlots, wipeE, List.append_nil, Bool.not_true, Bool.not_false, Bool.false_eq_true, if_true, if_false, reduceIte, Bool.or_true, Bool.or_false, Bool.true_or, Bool.false_or, true_and, and_true, w_wk2 hi, w_fi2 hi, len_mapT, cmp_gt, cmp_ne_int, e4]
  by_cases h1 : (isWk i && decide (l < ((gI g).length : Nat))) = true
  · have h2 : isWk i = true ∧ decide (l < ((gI g).length : Nat)) = true := by simpa using h1
    simp only [h2.1, h2.2, if_true]
    simp only [solO, h1, Bool.not_true, Bool.false_and]
  · rw [Bool.not_eq_true] at h1
    have g1 : ∀ {Q R : Prop}, (if isWk i = true then if decide (l < ((gI g).length : Nat)) = true then Q else R else R) ↔ R := fun {Q R} => by
      cases ha : isWk i <;> cases hb : decide (l < ((gI g).length : Nat)) <;> simp_all
    refine g1.mpr ?_
    by_cases h3 : (isFi i && !(decide ((gI g).length = 1) && decide (l = 1))) = true
    · have h4 : isFi i = true ∧ (decide ((gI g).length = 1) && decide (l = 1)) = false := by
        rw [Bool.and_eq_true, Bool.not_eq_true'] at h3
        exact h3
      simp only [h4.1, if_true]
      have g2 : ∀ {Q R : Prop}, (if (!decide ((gI g).length = 1)) = true then Q else if (!decide (l = 1)) = true then Q else R) ↔ Q := fun {Q R} => by
        have := h4.2
        cases ha : decide ((gI g).length = 1) <;> cases hb : decide (l = 1) <;> simp_all
      refine g2.mpr ?_
      simp only [solO, h1, h3, Bool.not_true, Bool.not_false, Bool.false_and, Bool.and_false]
    · rw [Bool.not_eq_true] at h3
      have g3 : ∀ {Q R : Prop}, (if isFi i = true then if (!decide ((gI g).length = 1)) = true then Q else if (!decide (l = 1)) = true then Q else R else R) ↔ R := fun {Q R} => by
        cases hx : isFi i <;> cases ha : decide ((gI g).length = 1) <;> cases hb : decide (l = 1) <;> simp_all
      refine g3.mpr ?_
      rw [oe7]
      simp only [sHd, sTl, oh7, ob1, ob2, ob3, ob4, ob5, ob6, ob7, b__law_objects]
      simp only [wS, wE, wA, wO, wI, seqK_next, seqK_ret, fnK_ret, fnK_next, oP_some, oP_none, bP_bool, List.map_cons, List.map_nil, List.length_cons, List.length_nil, List.reduceReplicate, List.cons_append, List.nil_append, List.getD_cons_zero, List.getD_cons_succ, List.set_cons_zero, List.set_cons_succ, Nat.reduceAdd, Nat.reduceSub, Nat.zero_add, bindT_nm, bindT_tup, bindTs_nil, bindTs_cons, Option.bind_some, tgSlots, wipeE, List.append_nil, Bool.not_true, Bool.not_false, Bool.false_eq_true, if_true, if_false, reduceIte, Bool.or_true, Bool.or_false, Bool.true_or, Bool.false_or, true_and, and_true]
      rw [s_lsolid ho hm (by omega) hol (by omega) hgl (gI_pw gp)]
      simp only [sHd, sTl, ob1, ob2, ob3, ob4, ob5, ob6, ob7, ob8, b__law_objects]
      simp only [wS, wE, wA, wO, wI, seqK_next, seqK_ret, fnK_ret, fnK_next, oP_some, oP_none, bP_bool, List.map_cons, List.map_nil, List.length_cons, List.length_nil, List.reduceReplicate, List.cons_append, List.nil_append, List.getD_cons_zero, List.getD_cons_succ, List.set_cons_zero, List.set_cons_succ, Nat.reduceAdd, Nat.reduceSub, Nat.zero_add, bindT_nm, bindT_tup, bindTs_nil, bindTs_cons, Option.bind_some, tgSlots, wipeE, List.append_nil, Bool.not_true, Bool.not_false, Bool.false_eq_true, if_true, if_false, reduceIte, Bool.or_true, Bool.or_false, Bool.true_or, Bool.false_or, true_and, and_true, cmp_eq_int]
      unfold solO
      rw [h1, h3]
      simp only [Bool.not_false, Bool.true_and]
      by_cases h5 : 0 < solN (gI g) os
      · have h5' : ¬ (((solN (gI g) os : Nat) : Int) = 0) := by omega
        simp only [h5, h5', decide_true, decide_false, Bool.false_eq_true, if_false, Bool.true_and]
        simp only [wS, wE, wA, wO, wI, seqK_next, seqK_ret, fnK_ret, fnK_next, oP_some, oP_none, bP_bool, List.map_cons, List.map_nil, List.length_cons, List.length_nil, List.reduceReplicate, List.cons_append, List.nil_append, List.getD_cons_zero, List.getD_cons_succ, List.set_cons_zero, List.set_cons_succ, Nat.reduceAdd, Nat.reduceSub, Nat.zero_add, bindT_nm, bindT_tup, bindTs_nil, bindTs_cons, Option.bind_some, tgSlots, wipeE, List.append_nil, Bool.not_true, Bool.not_false, Bool.false_eq_true, if_true, if_false, reduceIte, Bool.or_true, Bool.or_false, Bool.true_or, Bool.false_or, true_and, and_true, w_dr3l hi]
        rw [s_lworth (by omega) hol (by omega)]
        cases worth os.length k (solN (gI g) os) l (isDr i) with
        | false => simp
        | true =>
          simp only [wS, wE, wA, wO, wI, seqK_next, seqK_ret, fnK_ret, fnK_next, oP_some, oP_none, bP_bool, List.map_cons, List.map_nil, List.length_cons, List.length_nil, List.reduceReplicate, List.cons_append, List.nil_append, List.getD_cons_zero, List.getD_cons_succ, List.set_cons_zero, List.set_cons_succ, Nat.reduceAdd, Nat.reduceSub, Nat.zero_add, bindT_nm, bindT_tup, bindTs_nil, bindTs_cons, Option.bind_some, tgSlots, wipeE, List.append_nil, Bool.not_true, Bool.not_false, Bool.false_eq_true, if_true, if_false, reduceIte, Bool.or_true, Bool.or_false, Bool.true_or, Bool.false_or, true_and, and_true, it_tup]
          refine ⟨by rw [List.length_map]; show _ ≤ 1000000; omega, ?_⟩
          refine (own_comp (gI g) cms _).mpr ?_
          simp only [wS, wE, wA, wO, wI, seqK_next, seqK_ret, fnK_ret, fnK_next, oP_some, oP_none, bP_bool, List.map_cons, List.map_nil, List.length_cons, List.length_nil, List.reduceReplicate, List.cons_append, List.nil_append, List.getD_cons_zero, List.getD_cons_succ, List.set_cons_zero, List.set_cons_succ, Nat.reduceAdd, Nat.reduceSub, Nat.zero_add, bindT_nm, bindT_tup, bindTs_nil, bindTs_cons, Option.bind_some, tgSlots, wipeE, List.append_nil, Bool.not_true, Bool.not_false, Bool.false_eq_true, if_true, if_false, reduceIte, Bool.or_true, Bool.or_false, Bool.true_or, Bool.false_or, true_and, and_true, len_mapL, cmp_gt, cmp_lt, min_2]
          rw [show ((gI g).filter fun c => decide (c ∈ cms)).length = own cms (gI g) from own_swap hcn (gI_nd gp)]
          rw [len_mapT]
          simp only [wS, wE, wA, wO, wI, seqK_next, seqK_ret, fnK_ret, fnK_next, oP_some, oP_none, bP_bool, List.map_cons, List.map_nil, List.length_cons, List.length_nil, List.reduceReplicate, List.cons_append, List.nil_append, List.getD_cons_zero, List.getD_cons_succ, List.set_cons_zero, List.set_cons_succ, Nat.reduceAdd, Nat.reduceSub, Nat.zero_add, bindT_nm, bindT_tup, bindTs_nil, bindTs_cons, Option.bind_some, tgSlots, wipeE, List.append_nil, Bool.not_true, Bool.not_false, Bool.false_eq_true, if_true, if_false, reduceIte, Bool.or_true, Bool.or_false, Bool.true_or, Bool.false_or, true_and, and_true, cmp_lt, min_2, Bool.true_and]
      · have h5' : (((solN (gI g) os : Nat) : Int) = 0) := by omega
        simp [h5, h5']
theorem s_objL {n : Nat} (hn : 2 ≤ n) {cms : List Int} (hc : cms.length ≤ 100) {i : Nat} (hi : i < 8) (hlo : isLo i = true) {c : Int} (hc0 : 0 ≤ c) (hcm : c < m) (P : D → Prop) (X : XP) : Run T 2000 n f_law_objects [.tuple [.int m, .tuple os, .int k], .tuple (cms.map .int), .tuple [.str (wW i), .int c]] P X ↔ P (.bool (locB os.length k os cms c (i == 4))) := by
  obtain ⟨t, rfl⟩ : ∃ t, n = t + 1 := ⟨n - 1, by omega⟩
  have hr := riN_le ho hm (by omega) hol cms c
  refine Run.val (run_of (fi := i__law_objects) rfl rfl ?_) P X
  simp only [i__law_objects]
  rw [oe0]
  simp only [sHd, sTl, oh0, b__law_objects]
  have el2 : biD .len [.tuple [.str (wW i), .int c]] = some (.int 2) := rfl
  have ew : isiD (.str (wW i)) .str = true := rfl
  simp only [wS, wE, wA, wO, wI, seqK_next, seqK_ret, fnK_ret, fnK_next, oP_some, oP_none, bP_bool, List.map_cons, List.map_nil, List.length_cons, List.length_nil, List.reduceReplicate, List.cons_append, List.nil_append, List.getD_cons_zero, List.getD_cons_succ, List.set_cons_zero, List.set_cons_succ, Nat.reduceAdd, Nat.reduceSub, Nat.zero_add, bindT_nm, bindT_tup, bindTs_nil, bindTs_cons, Option.bind_some, tgSlots, wipeE, List.append_nil, Bool.not_true, Bool.not_false, Bool.false_eq_true, if_true, if_false, reduceIte, Bool.or_true, Bool.or_false, Bool.true_or, Bool.false_or, true_and, and_true, isi_tt, el2, cmp_lt, ix_tup, at_c0, at_c1, at_c2, ew]
  rw [s_lwords (by omega)]
  have lt32 : decide ((2 : Int) < 2) = false := rfl
  have ne33 : cmpD .ne (.int 2) (.int 2) = some false := rfl
  have es : binD .sub (.int m) (.int 1) = some (.int (m - 1)) := rfl
  simp only [wS, wE, wA, wO, wI, seqK_next, seqK_ret, fnK_ret, fnK_next, oP_some, oP_none, bP_bool, List.map_cons, List.map_nil, List.length_cons, List.length_nil, List.reduceReplicate, List.cons_append, List.nil_append, List.getD_cons_zero, List.getD_cons_succ, List.set_cons_zero, List.set_cons_succ, Nat.reduceAdd, Nat.reduceSub, Nat.zero_add, bindT_nm, bindT_tup, bindTs_nil, bindTs_cons, Option.bind_some, tgSlots, wipeE, List.append_nil, Bool.not_true, Bool.not_false, Bool.false_eq_true, if_true, if_false, reduceIte, Bool.or_true, Bool.or_false, Bool.true_or, Bool.false_or, true_and, and_true, w_all hi, lt32, el2]
  rw [oe1]
  simp only [sHd, sTl, oh1, ob1, b__law_objects]
  simp only [wS, wE, wA, wO, wI, seqK_next, seqK_ret, fnK_ret, fnK_next, oP_some, oP_none, bP_bool, List.map_cons, List.map_nil, List.length_cons, List.length_nil, List.reduceReplicate, List.cons_append, List.nil_append, List.getD_cons_zero, List.getD_cons_succ, List.set_cons_zero, List.set_cons_succ, Nat.reduceAdd, Nat.reduceSub, Nat.zero_add, bindT_nm, bindT_tup, bindTs_nil, bindTs_cons, Option.bind_some, tgSlots, wipeE, List.append_nil, Bool.not_true, Bool.not_false, Bool.false_eq_true, if_true, if_false, reduceIte, Bool.or_true, Bool.or_false, Bool.true_or, Bool.false_or, true_and, and_true, ix_tup, at_c0, at_c1, at_c2]
  rw [oe2]
  simp only [sHd, sTl, oh2, ob1, ob2, b__law_objects]
  simp only [wS, wE, wA, wO, wI, seqK_next, seqK_ret, fnK_ret, fnK_next, oP_some, oP_none, bP_bool, List.map_cons, List.map_nil, List.length_cons, List.length_nil, List.reduceReplicate, List.cons_append, List.nil_append, List.getD_cons_zero, List.getD_cons_succ, List.set_cons_zero, List.set_cons_succ, Nat.reduceAdd, Nat.reduceSub, Nat.zero_add, bindT_nm, bindT_tup, bindTs_nil, bindTs_cons, Option.bind_some, tgSlots, wipeE, List.append_nil, Bool.not_true, Bool.not_false, Bool.false_eq_true, if_true, if_false, reduceIte, Bool.or_true, Bool.or_false, Bool.true_or, Bool.false_or, true_and, and_true, w_lo2 hi, hlo, ne33, es, el2, ix_tup, at_c0, at_c1]
  rw [s_lwhole (by omega) rfl, wIn_inR]
  have wl : inR m (.int c) = true := by simp [inR, hc0, hcm]
  simp only [wS, wE, wA, wO, wI, seqK_next, seqK_ret, fnK_ret, fnK_next, oP_some, oP_none, bP_bool, List.map_cons, List.map_nil, List.length_cons, List.length_nil, List.reduceReplicate, List.cons_append, List.nil_append, List.getD_cons_zero, List.getD_cons_succ, List.set_cons_zero, List.set_cons_succ, Nat.reduceAdd, Nat.reduceSub, Nat.zero_add, bindT_nm, bindT_tup, bindTs_nil, bindTs_cons, Option.bind_some, tgSlots, wipeE, List.append_nil, Bool.not_true, Bool.not_false, Bool.false_eq_true, if_true, if_false, reduceIte, Bool.or_true, Bool.or_false, Bool.true_or, Bool.false_or, true_and, and_true, wl, cmp_in_ints]
  unfold locB
  have pv : (PyData.tuple [.str (wW i), .int c]).plain = true := rfl
  refine ⟨pv, rfl, ?_⟩
  by_cases h1 : c ∈ cms
  · simp [h1]
  · simp only [h1, decide_false, Bool.false_eq_true, if_false, Bool.not_false, Bool.true_and]
    rw [s_lpref ho hm (by omega) hol (by omega) h1]
    have ee : cmpD .eq (.str (wW i)) (.str "local") = some (i == 4) := by
      rw [← w_loc hi]
      simp [cmpD, okEq, PyData.plain, PyData.depth, PyData.eqv]
    simp only [wS, wE, wA, wO, wI, seqK_next, seqK_ret, fnK_ret, fnK_next, oP_some, oP_none, bP_bool, List.map_cons, List.map_nil, List.length_cons, List.length_nil, List.reduceReplicate, List.cons_append, List.nil_append, List.getD_cons_zero, List.getD_cons_succ, List.set_cons_zero, List.set_cons_succ, Nat.reduceAdd, Nat.reduceSub, Nat.zero_add, bindT_nm, bindT_tup, bindTs_nil, bindTs_cons, Option.bind_some, tgSlots, wipeE, List.append_nil, Bool.not_true, Bool.not_false, Bool.false_eq_true, if_true, if_false, reduceIte, Bool.or_true, Bool.or_false, Bool.true_or, Bool.false_or, true_and, and_true, cmp_gt, ee]
    by_cases h2 : 0 < riN cms c os
    · have h2' : (0 : Int) < (riN cms c os : Nat) := by omega
      simp only [h2, h2', decide_true, if_true, Bool.true_and]
      rw [s_lworth (by omega) hol (by omega)]
    · have h2' : ¬ (0 : Int) < (riN cms c os : Nat) := by omega
      simp [h2, h2']
end
end EV.Law
end

section
set_option Elab.async false
set_option linter.all false
set_option autoImplicit false
set_option maxRecDepth 100000
set_option maxHeartbeats 1000000
namespace EV.Law
open PySem EV
/-! ### who keeps a promise -/
def keL (n : Nat) (k : Int) (os : List D) (cms : List Int) (i : Nat) (c : Nat) : Bool := !locB n k os cms (c : Int) (i == 4)
def keS (n : Nat) (k : Int) (os : List D) (cms : List Int) (i : Nat) (g : List Nat) (q : Nat) : Bool := !solO n k os cms i (gI g) (1 + (q : Nat))
def keP (n : Nat) (k : Int) (os : List D) (cms : List Int) (i : Nat) (g : List Nat) : Bool := (List.range k.toNat).all (keS n k os cms i g)
def kpw (m k : Int) (os : List D) (cms : List Int) (i : Nat) : Bool := if isLo i = true then (List.range m.toNat).all (keL os.length k os cms i) else ((gL m.toNat).drop 1).all (keP os.length k os cms i)
theorem map_inj_nat : ∀ {a b : List Nat}, a.map (PyData.int ∘ fun v : Nat => (v : Int)) = b.map (PyData.int ∘ fun v : Nat => (v : Int)) → a = b
  | [], [], _ => rfl
  | [], _ :: _, h => by simp at h
  | _ :: _, [], h => by simp at h
  | x :: a, y :: b, h => by
    simp only [List.map_cons, List.cons.injEq, Function.comp_apply, PyData.int.injEq] at h
    rw [map_inj_nat h.2, show x = y by omega]
/-- a loop that goes on while a look holds, and else tells -/
theorem wL_early {α : Type} {f : D → Env → (Fl → Env → Prop) → Prop} {enc : α → D} {p : α → Bool} {I : Env → Prop} {R : D → Prop} {Q : Fl → Env → Prop} : ∀ {xs : List α} {ρ : Env},
    (∀ x ∈ xs, ∀ ρ Q', I ρ → (p x = true → ∀ ρ', I ρ' → Q' .next ρ') → (p x = false → ∀ d ρ', R d → I ρ' → Q' (.ret d) ρ') → f (enc x) ρ Q') → I ρ →
    (xs.all p = true → ∀ ρ', I ρ' → Q .next ρ') → (xs.all p = false → ∀ d ρ', R d → I ρ' → Q (.ret d) ρ') → wL f (xs.map enc) ρ Q
  | [], ρ, _, i, h1, _ => h1 rfl ρ i
  | x :: xs, ρ, hf, i, h1, h2 => by
    rw [List.map_cons]
    unfold wL
    refine hf x List.mem_cons_self ρ _ i (fun e ρ' i' => ?_) fun e d ρ' hd i' => ?_
    · refine wL_early (fun y hy => hf y (List.mem_cons_of_mem _ hy)) i' (fun e2 => h1 ?_) fun e2 => h2 ?_
      · rw [List.all_cons, e, e2]; rfl
      · rw [List.all_cons, e, e2]; rfl
    · exact h2 (by rw [List.all_cons, e]; rfl) d ρ' hd i'
theorem gr_split (n : Nat) : ∃ gs : List (List Nat), grL n = gs.map encG ∧ ∀ g, g ∈ gs ↔ g ∈ (gL n).drop 1 := by
  have : ∀ (xs : List D), (∀ x ∈ xs, ∃ g ∈ (gL n).drop 1, x = encG g) → ∃ gs : List (List Nat), xs = gs.map encG ∧ ∀ g ∈ gs, g ∈ (gL n).drop 1 := fun xs => by
    induction xs with
    | nil => exact fun _ => ⟨[], rfl, fun g h => by cases h⟩
    | cons x xs ih =>
      intro h
      obtain ⟨g, hg, e⟩ := h x List.mem_cons_self
      obtain ⟨gs, e2, h2⟩ := ih fun y hy => h y (List.mem_cons_of_mem _ hy)
      refine ⟨g :: gs, by rw [List.map_cons, ← e, ← e2], fun g' hg' => ?_⟩
      rcases List.mem_cons.mp hg' with rfl | h3
      · exact hg
      · exact h2 g' h3
  obtain ⟨gs, e, h⟩ := this (grL n) fun x hx => sL_mem.mp hx
  refine ⟨gs, e, fun g => ⟨h g, fun hg => ?_⟩⟩
  have h1 : encG g ∈ grL n := sL_mem.mpr ⟨g, hg, rfl⟩
  rw [e] at h1
  obtain ⟨g', hg', e'⟩ := List.mem_map.mp h1
  have : g' = g := by
    rw [encG_gI, encG_gI] at e'
    have e2 : (gI g').map PyData.int = (gI g).map PyData.int := by injection e'
    have inj : ∀ {a b : List Nat}, (gI a).map PyData.int = (gI b).map PyData.int → a = b := fun {a b} => by
      unfold gI
      rw [List.map_map, List.map_map]
      intro q
      refine map_inj_nat q
    exact inj e2
  rw [← this]
  exact hg'
theorem all_same {α : Type} {xs ys : List α} (h : ∀ x, x ∈ xs ↔ x ∈ ys) (p : α → Bool) : xs.all p = ys.all p := by
  rw [Bool.eq_iff_iff, List.all_eq_true, List.all_eq_true]
  exact ⟨fun q x hx => q x ((h x).mpr hx), fun q x hx => q x ((h x).mp hx)⟩
/-- what is told against a committee -/
def objD (m k : Int) (os : List D) (cms : List Int) (i : Nat) (d : D) : Prop :=
  (isLo i = true ∧ ∃ c : Nat, c < m.toNat ∧ d = .tuple [.str (wW i), .int (c : Nat)] ∧ locB os.length k os cms (c : Int) (i == 4) = true) ∨
  (isLo i = false ∧ ∃ g ∈ (gL m.toNat).drop 1, ∃ q : Nat, q < k.toNat ∧ d = .tuple [.str (wW i), encG g, .int (1 + (q : Nat))] ∧ solO os.length k os cms i (gI g) (1 + (q : Nat)) = true)
section
variable {m k : Int} {os : List D} (ho : ∀ o ∈ os, isOrder m o = true) (hm : 0 ≤ m) (hm6 : m ≤ 6) (hol : os.length ≤ 30)
include ho hm hm6 hol
theorem l_floc {t : Nat} (ht : 3 ≤ t) {cms : List Int} (hc : cms.length ≤ 100) {i : Nat} (hi : i < 8) (u4 u5 : Option D) (Q : Fl → Env → Prop) (X : XP) (cs : List Nat) (u3 : Option D)
    (h1 : cs.all (keL os.length k os cms i) = true → ∀ u3, Q .next [some (.tuple [.int m, .tuple os, .int k]), some (.tuple (cms.map .int)), some (.str (wW i)), u3, u4, u5])
    (h2 : cs.all (keL os.length k os cms i) = false → ∀ d u3, (∃ c ∈ cs, d = .tuple [.str (wW i), .int (c : Nat)] ∧ locB os.length k os cms (c : Int) (i == 4) = true) → Q (.ret d) [some (.tuple [.int m, .tuple os, .int k]), some (.tuple (cms.map .int)), some (.str (wW i)), u3, u4, u5]) :
    wL (fun x ρ Q => wS (Run T 2000 t) 2000 l_found_wish_objection_3 (ρ.set 3 (some x)) Q X) (cs.map fun c => .int (c : Nat)) [some (.tuple [.int m, .tuple os, .int k]), some (.tuple (cms.map .int)), some (.str (wW i)), u3, u4, u5] Q := by
  refine wL_early (p := keL os.length k os cms i) (R := fun d => (∃ c ∈ cs, d = .tuple [.str (wW i), .int (c : Nat)] ∧ locB os.length k os cms (c : Int) (i == 4) = true)) (I := fun ρ => ∃ u3, ρ = [some (.tuple [.int m, .tuple os, .int k]), some (.tuple (cms.map .int)), some (.str (wW i)), u3, u4, u5]) ?_ ⟨_, rfl⟩ (fun e ρ' => ?_) fun e d ρ' hd => ?_
  · rintro c hmem ρ Q' ⟨v, rfl⟩ g1 g2
    simp only [List.set_cons_zero, List.set_cons_succ]
    unfold l_found_wish_objection_3
    simp only [wS, wE, wA, wO, wI, seqK_next, seqK_ret, fnK_ret, fnK_next, oP_some, oP_none, bP_bool, List.map_cons, List.map_nil, List.length_cons, List.length_nil, List.reduceReplicate, List.cons_append, List.nil_append, List.getD_cons_zero, List.getD_cons_succ, List.set_cons_zero, List.set_cons_succ, Nat.reduceAdd, Nat.reduceSub, Nat.zero_add, bindT_nm, bindT_tup, bindTs_nil, bindTs_cons, Option.bind_some, tgSlots, wipeE, List.append_nil, Bool.not_true, Bool.not_false, Bool.false_eq_true, if_true, if_false, reduceIte, Bool.or_true, Bool.or_false, Bool.true_or, Bool.false_or, true_and, and_true]
    rw [s_fails_local ho hm (by omega) hol ht hc, w_loc hi]
    simp only [bP_bool]
    cases hb : locB os.length k os cms (c : Int) (i == 4) with
    | true =>
      simp only [if_true]
      exact g2 (by simp [keL, hb]) _ _ ⟨c, hmem, rfl, hb⟩ ⟨_, rfl⟩
    | false =>
      simp only [Bool.false_eq_true, if_false]
      exact g1 (by simp [keL, hb]) _ ⟨_, rfl⟩
  · rintro ⟨v, rfl⟩
    exact h1 e v
  · rintro ⟨v, rfl⟩
    exact h2 e d v hd
theorem l_fsolI {t : Nat} (ht : 3 ≤ t) {cms : List Int} (hc : cms.length ≤ 100) {i : Nat} (hi : i < 8) {g : List Nat} (hg : g.length ≤ 10) (u3 : Option D) (Q : Fl → Env → Prop) (X : XP) (qs : List Nat) (u5 : Option D)
    (h1 : qs.all (keS os.length k os cms i g) = true → ∀ u5, Q .next [some (.tuple [.int m, .tuple os, .int k]), some (.tuple (cms.map .int)), some (.str (wW i)), u3, some (encG g), u5])
    (h2 : qs.all (keS os.length k os cms i g) = false → ∀ d u5, (∃ q ∈ qs, d = .tuple [.str (wW i), encG g, .int (1 + (q : Nat))] ∧ solO os.length k os cms i (gI g) (1 + (q : Nat)) = true) → Q (.ret d) [some (.tuple [.int m, .tuple os, .int k]), some (.tuple (cms.map .int)), some (.str (wW i)), u3, some (encG g), u5]) :
    wL (fun x ρ Q => wS (Run T 2000 t) 2000 l_found_wish_objection_1 (ρ.set 5 (some x)) Q X) (qs.map fun q => .int (1 + (q : Nat))) [some (.tuple [.int m, .tuple os, .int k]), some (.tuple (cms.map .int)), some (.str (wW i)), u3, some (encG g), u5] Q := by
  refine wL_early (p := keS os.length k os cms i g) (R := fun d => (∃ q ∈ qs, d = .tuple [.str (wW i), encG g, .int (1 + (q : Nat))] ∧ solO os.length k os cms i (gI g) (1 + (q : Nat)) = true)) (I := fun ρ => ∃ u5, ρ = [some (.tuple [.int m, .tuple os, .int k]), some (.tuple (cms.map .int)), some (.str (wW i)), u3, some (encG g), u5]) ?_ ⟨_, rfl⟩ (fun e ρ' => ?_) fun e d ρ' hd => ?_
  · rintro q hmem ρ Q' ⟨v, rfl⟩ g1 g2
    simp only [List.set_cons_zero, List.set_cons_succ]
    unfold l_found_wish_objection_1
    simp only [wS, wE, wA, wO, wI, seqK_next, seqK_ret, fnK_ret, fnK_next, oP_some, oP_none, bP_bool, List.map_cons, List.map_nil, List.length_cons, List.length_nil, List.reduceReplicate, List.cons_append, List.nil_append, List.getD_cons_zero, List.getD_cons_succ, List.set_cons_zero, List.set_cons_succ, Nat.reduceAdd, Nat.reduceSub, Nat.zero_add, bindT_nm, bindT_tup, bindTs_nil, bindTs_cons, Option.bind_some, tgSlots, wipeE, List.append_nil, Bool.not_true, Bool.not_false, Bool.false_eq_true, if_true, if_false, reduceIte, Bool.or_true, Bool.or_false, Bool.true_or, Bool.false_or, true_and, and_true]
    have hgl : (gI g).length ≤ 10 := by unfold gI; rw [List.length_map]; exact hg
    have e := s_fails_solid ho hm (show m ≤ 8 by omega) hol (k := k) ht hc hi hgl (1 + (q : Nat))
    rw [← encG_gI] at e
    rw [e]
    simp only [bP_bool]
    cases hb : solO os.length k os cms i (gI g) (1 + (q : Nat)) with
    | true =>
      simp only [if_true]
      exact g2 (by simp [keS, hb]) _ _ ⟨q, hmem, rfl, hb⟩ ⟨_, rfl⟩
    | false =>
      simp only [Bool.false_eq_true, if_false]
      exact g1 (by simp [keS, hb]) _ ⟨_, rfl⟩
  · rintro ⟨v, rfl⟩
    exact h1 e v
  · rintro ⟨v, rfl⟩
    exact h2 e d v hd
theorem l_fsol {t : Nat} (ht : 3 ≤ t) (hk : k ≤ 1000) (hk0 : 0 ≤ k) {cms : List Int} (hc : cms.length ≤ 100) {i : Nat} (hi : i < 8) (u3 : Option D) (Q : Fl → Env → Prop) (X : XP) (gs : List (List Nat)) (u4 u5 : Option D) (hgs : ∀ g ∈ gs, g.length ≤ 10)
    (h1 : gs.all (keP os.length k os cms i) = true → ∀ u4 u5, Q .next [some (.tuple [.int m, .tuple os, .int k]), some (.tuple (cms.map .int)), some (.str (wW i)), u3, u4, u5])
    (h2 : gs.all (keP os.length k os cms i) = false → ∀ d u4 u5, (∃ g ∈ gs, ∃ q ∈ List.range k.toNat, d = .tuple [.str (wW i), encG g, .int (1 + (q : Nat))] ∧ solO os.length k os cms i (gI g) (1 + (q : Nat)) = true) → Q (.ret d) [some (.tuple [.int m, .tuple os, .int k]), some (.tuple (cms.map .int)), some (.str (wW i)), u3, u4, u5]) :
    wL (fun x ρ Q => wS (Run T 2000 t) 2000 l_found_wish_objection_2 (ρ.set 4 (some x)) Q X) (gs.map encG) [some (.tuple [.int m, .tuple os, .int k]), some (.tuple (cms.map .int)), some (.str (wW i)), u3, u4, u5] Q := by
  refine wL_early (p := keP os.length k os cms i) (R := fun d => (∃ g ∈ gs, ∃ q ∈ List.range k.toNat, d = .tuple [.str (wW i), encG g, .int (1 + (q : Nat))] ∧ solO os.length k os cms i (gI g) (1 + (q : Nat)) = true)) (I := fun ρ => ∃ u4 u5, ρ = [some (.tuple [.int m, .tuple os, .int k]), some (.tuple (cms.map .int)), some (.str (wW i)), u3, u4, u5]) ?_ ⟨_, _, rfl⟩ (fun e ρ' => ?_) fun e d ρ' hd => ?_
  · rintro g hg ρ Q' ⟨v, w, rfl⟩ g1 g2
    simp only [List.set_cons_zero, List.set_cons_succ]
    unfold l_found_wish_objection_2
    have es : binD .add (.int k) (.int 1) = some (.int (k + 1)) := rfl
    simp only [wS, wE, wA, wO, wI, seqK_next, seqK_ret, fnK_ret, fnK_next, oP_some, oP_none, bP_bool, List.map_cons, List.map_nil, List.length_cons, List.length_nil, List.reduceReplicate, List.cons_append, List.nil_append, List.getD_cons_zero, List.getD_cons_succ, List.set_cons_zero, List.set_cons_succ, Nat.reduceAdd, Nat.reduceSub, Nat.zero_add, bindT_nm, bindT_tup, bindTs_nil, bindTs_cons, Option.bind_some, tgSlots, wipeE, List.append_nil, Bool.not_true, Bool.not_false, Bool.false_eq_true, if_true, if_false, reduceIte, Bool.or_true, Bool.or_false, Bool.true_or, Bool.false_or, true_and, and_true, ix_tup, at_c2, es]
    rw [rg2 (by omega) (by omega) (by omega) (by omega)]
    simp only [oP_some]
    rw [show (k + 1 - 1).toNat = k.toNat by omega]
    refine l_fsolI ho hm hm6 hol ht hc hi (hgs g hg) u3 _ X _ _ (fun e u5 => ?_) fun e d u5 hd => ?_
    · simp only [wS, wE, wA, wO, wI, seqK_next, seqK_ret, fnK_ret, fnK_next, oP_some, oP_none, bP_bool, List.map_cons, List.map_nil, List.length_cons, List.length_nil, List.reduceReplicate, List.cons_append, List.nil_append, List.getD_cons_zero, List.getD_cons_succ, List.set_cons_zero, List.set_cons_succ, Nat.reduceAdd, Nat.reduceSub, Nat.zero_add, bindT_nm, bindT_tup, bindTs_nil, bindTs_cons, Option.bind_some, tgSlots, wipeE, List.append_nil, Bool.not_true, Bool.not_false, Bool.false_eq_true, if_true, if_false, reduceIte, Bool.or_true, Bool.or_false, Bool.true_or, Bool.false_or, true_and, and_true]
      exact g1 e _ ⟨_, _, rfl⟩
    · simp only [wS, wE, wA, wO, wI, seqK_next, seqK_ret, fnK_ret, fnK_next, oP_some, oP_none, bP_bool, List.map_cons, List.map_nil, List.length_cons, List.length_nil, List.reduceReplicate, List.cons_append, List.nil_append, List.getD_cons_zero, List.getD_cons_succ, List.set_cons_zero, List.set_cons_succ, Nat.reduceAdd, Nat.reduceSub, Nat.zero_add, bindT_nm, bindT_tup, bindTs_nil, bindTs_cons, Option.bind_some, tgSlots, wipeE, List.append_nil, Bool.not_true, Bool.not_false, Bool.false_eq_true, if_true, if_false, reduceIte, Bool.or_true, Bool.or_false, Bool.true_or, Bool.false_or, true_and, and_true]
      exact g2 e d _ ⟨g, hg, hd⟩ ⟨_, _, rfl⟩
  · rintro ⟨v, w, rfl⟩
    exact h1 e v w
  · rintro ⟨v, w, rfl⟩
    exact h2 e d v w hd
theorem s_found {n : Nat} (hn : 4 ≤ n) (hk : k ≤ 1000) (hk0 : 0 ≤ k) {cms : List Int} (hc : cms.length ≤ 100) {i : Nat} (hi : i < 8) {P : D → Prop} {X : XP} (h1 : kpw m k os cms i = true → P .none) (h2 : kpw m k os cms i = false → ∀ d, objD m k os cms i d → P d) : Run T 2000 n ffound_wish_objection [.tuple [.int m, .tuple os, .int k], .tuple (cms.map .int), .str (wW i)] P X := by
  obtain ⟨t, rfl⟩ : ∃ t, n = t + 1 := ⟨n - 1, by omega⟩
  refine run_of (fi := i_found_wish_objection) rfl rfl ?_
  simp only [i_found_wish_objection, b_found_wish_objection]
  have e1 : mtOk .startswith (.str (wW i)) = some () := rfl
  simp only [wS, wE, wA, wO, wI, seqK_next, seqK_ret, fnK_ret, fnK_next, oP_some, oP_none, bP_bool, List.map_cons, List.map_nil, List.length_cons, List.length_nil, List.reduceReplicate, List.cons_append, List.nil_append, List.getD_cons_zero, List.getD_cons_succ, List.set_cons_zero, List.set_cons_succ, Nat.reduceAdd, Nat.reduceSub, Nat.zero_add, bindT_nm, bindT_tup, bindTs_nil, bindTs_cons, Option.bind_some, tgSlots, wipeE, List.append_nil, Bool.not_true, Bool.not_false, Bool.false_eq_true, if_true, if_false, reduceIte, Bool.or_true, Bool.or_false, Bool.true_or, Bool.false_or, true_and, and_true, e1, w_local hi, ix_tup, at_c0]
  cases hlo : isLo i with
  | true =>
    simp only [if_true]
    rw [rg1 (by omega) (by omega)]
    simp only [oP_some]
    have ek : kpw m k os cms i = (List.range m.toNat).all (keL os.length k os cms i) := by unfold kpw; rw [if_pos hlo]
    refine l_floc ho hm hm6 hol (by omega) hc hi _ _ _ X _ _ (fun e u => ?_) fun e d u hd => ?_
    · simp only [wS, wE, wA, wO, wI, seqK_next, seqK_ret, fnK_ret, fnK_next, oP_some, oP_none, bP_bool, List.map_cons, List.map_nil, List.length_cons, List.length_nil, List.reduceReplicate, List.cons_append, List.nil_append, List.getD_cons_zero, List.getD_cons_succ, List.set_cons_zero, List.set_cons_succ, Nat.reduceAdd, Nat.reduceSub, Nat.zero_add, bindT_nm, bindT_tup, bindTs_nil, bindTs_cons, Option.bind_some, tgSlots, wipeE, List.append_nil, Bool.not_true, Bool.not_false, Bool.false_eq_true, if_true, if_false, reduceIte, Bool.or_true, Bool.or_false, Bool.true_or, Bool.false_or, true_and, and_true]
      exact h1 (by rw [ek, e])
    · simp only [wS, wE, wA, wO, wI, seqK_next, seqK_ret, fnK_ret, fnK_next, oP_some, oP_none, bP_bool, List.map_cons, List.map_nil, List.length_cons, List.length_nil, List.reduceReplicate, List.cons_append, List.nil_append, List.getD_cons_zero, List.getD_cons_succ, List.set_cons_zero, List.set_cons_succ, Nat.reduceAdd, Nat.reduceSub, Nat.zero_add, bindT_nm, bindT_tup, bindTs_nil, bindTs_cons, Option.bind_some, tgSlots, wipeE, List.append_nil, Bool.not_true, Bool.not_false, Bool.false_eq_true, if_true, if_false, reduceIte, Bool.or_true, Bool.or_false, Bool.true_or, Bool.false_or, true_and, and_true]
      obtain ⟨c, hc2, hd⟩ := hd
      exact h2 (by rw [ek, e]) d (.inl ⟨hlo, c, List.mem_range.mp hc2, hd⟩)
  | false =>
    simp only [Bool.false_eq_true, if_false]
    rw [s_parts (by omega) hm hm6]
    obtain ⟨gs, eg, hgs⟩ := gr_split m.toNat
    have ek : kpw m k os cms i = gs.all (keP os.length k os cms i) := by unfold kpw; rw [if_neg (by rw [hlo]; decide)]; exact (all_same hgs _).symm
    simp only [wS, wE, wA, wO, wI, seqK_next, seqK_ret, fnK_ret, fnK_next, oP_some, oP_none, bP_bool, List.map_cons, List.map_nil, List.length_cons, List.length_nil, List.reduceReplicate, List.cons_append, List.nil_append, List.getD_cons_zero, List.getD_cons_succ, List.set_cons_zero, List.set_cons_succ, Nat.reduceAdd, Nat.reduceSub, Nat.zero_add, bindT_nm, bindT_tup, bindTs_nil, bindTs_cons, Option.bind_some, tgSlots, wipeE, List.append_nil, Bool.not_true, Bool.not_false, Bool.false_eq_true, if_true, if_false, reduceIte, Bool.or_true, Bool.or_false, Bool.true_or, Bool.false_or, true_and, and_true, it_lst, eg]
    refine l_fsol ho hm hm6 hol (by omega) hk hk0 hc hi _ _ X _ _ _ (fun g hg => (gP_spec (by omega) ((hgs g).mp hg)).2.2.1) (fun e u4 u5 => ?_) fun e d u4 u5 hd => ?_
    · simp only [wS, wE, wA, wO, wI, seqK_next, seqK_ret, fnK_ret, fnK_next, oP_some, oP_none, bP_bool, List.map_cons, List.map_nil, List.length_cons, List.length_nil, List.reduceReplicate, List.cons_append, List.nil_append, List.getD_cons_zero, List.getD_cons_succ, List.set_cons_zero, List.set_cons_succ, Nat.reduceAdd, Nat.reduceSub, Nat.zero_add, bindT_nm, bindT_tup, bindTs_nil, bindTs_cons, Option.bind_some, tgSlots, wipeE, List.append_nil, Bool.not_true, Bool.not_false, Bool.false_eq_true, if_true, if_false, reduceIte, Bool.or_true, Bool.or_false, Bool.true_or, Bool.false_or, true_and, and_true]
      exact h1 (by rw [ek, e])
    · simp only [wS, wE, wA, wO, wI, seqK_next, seqK_ret, fnK_ret, fnK_next, oP_some, oP_none, bP_bool, List.map_cons, List.map_nil, List.length_cons, List.length_nil, List.reduceReplicate, List.cons_append, List.nil_append, List.getD_cons_zero, List.getD_cons_succ, List.set_cons_zero, List.set_cons_succ, Nat.reduceAdd, Nat.reduceSub, Nat.zero_add, bindT_nm, bindT_tup, bindTs_nil, bindTs_cons, Option.bind_some, tgSlots, wipeE, List.append_nil, Bool.not_true, Bool.not_false, Bool.false_eq_true, if_true, if_false, reduceIte, Bool.or_true, Bool.or_false, Bool.true_or, Bool.false_or, true_and, and_true]
      obtain ⟨g, hg, q, hq, hd⟩ := hd
      exact h2 (by rw [ek, e]) d (.inr ⟨hlo, g, (hgs g).mp hg, q, List.mem_range.mp hq, hd⟩)
end
end EV.Law
end

section
set_option Elab.async false
set_option linter.all false
set_option autoImplicit false
set_option maxRecDepth 100000
set_option maxHeartbeats 1000000
namespace EV.Law
open PySem EV
theorem filt_all {α : Type} (f : α → Bool) (xs : List α) : (xs.filter f).isEmpty = xs.all fun x => !f x := by
  have := filter_not_all (fun x => !f x) xs
  simpa using this
section
variable {m k : Int} {os : List D} (ho : ∀ o ∈ os, isOrder m o = true) (hm : 0 ≤ m) (hm6 : m ≤ 6) (hol : os.length ≤ 30)
include ho hm hm6 hol
theorem l_lsol {t : Nat} (ht : 2 ≤ t) (hk : k ≤ 1000) (hk0 : 0 ≤ k) {cms : List Int} (hc : cms.length ≤ 100) (hcn : cms.Nodup) {i : Nat} (hi : i < 8) (hlo : isLo i = false) (u3 u5 : Option D) (Q : Fl → Env → Prop) (X : XP) (gs : List (List Nat)) (u4 : Option D) (hgs : ∀ g ∈ gs, g ∈ (gL m.toNat).drop 1)
    (h1 : gs.all (keP os.length k os cms i) = true → ∀ u4, Q .next [some (.tuple [.int m, .tuple os, .int k]), some (.tuple (cms.map .int)), some (.str (wW i)), u3, u4, u5])
    (h2 : gs.all (keP os.length k os cms i) = false → ∀ u4, Q (.ret (.bool false)) [some (.tuple [.int m, .tuple os, .int k]), some (.tuple (cms.map .int)), some (.str (wW i)), u3, u4, u5]) :
    wL (fun x ρ Q => wS (Run T 2000 t) 2000 l__law_keeps_1 (ρ.set 4 (some x)) Q X) (gs.map encG) [some (.tuple [.int m, .tuple os, .int k]), some (.tuple (cms.map .int)), some (.str (wW i)), u3, u4, u5] Q := by
  refine wL_early (p := keP os.length k os cms i) (R := fun d => d = .bool false) (I := fun ρ => ∃ u4, ρ = [some (.tuple [.int m, .tuple os, .int k]), some (.tuple (cms.map .int)), some (.str (wW i)), u3, u4, u5]) ?_ ⟨_, rfl⟩ (fun e ρ' => ?_) fun e d ρ' hd => ?_
  · rintro g hg ρ Q' ⟨v, rfl⟩ g1 g2
    simp only [List.set_cons_zero, List.set_cons_succ]
    unfold l__law_keeps_1
    have es : binD .add (.int k) (.int 1) = some (.int (k + 1)) := rfl
    simp only [wS, wE, wA, wO, wI, seqK_next, seqK_ret, fnK_ret, fnK_next, oP_some, oP_none, bP_bool, List.map_cons, List.map_nil, List.length_cons, List.length_nil, List.reduceReplicate, List.cons_append, List.nil_append, List.getD_cons_zero, List.getD_cons_succ, List.set_cons_zero, List.set_cons_succ, Nat.reduceAdd, Nat.reduceSub, Nat.zero_add, bindT_nm, bindT_tup, bindTs_nil, bindTs_cons, Option.bind_some, tgSlots, wipeE, List.append_nil, Bool.not_true, Bool.not_false, Bool.false_eq_true, if_true, if_false, reduceIte, Bool.or_true, Bool.or_false, Bool.true_or, Bool.false_or, true_and, and_true, ix_tup, at_c2, es]
    rw [rg2 (by omega) (by omega) (by omega) (by omega)]
    simp only [oP_some]
    rw [show (k + 1 - 1).toNat = k.toNat by omega]
    refine ⟨by rw [List.length_map, List.length_range]; show _ ≤ 1000000; omega, ?_⟩
    refine (wC_fil (c := fun q : Nat => solO os.length k os cms i (gI g) (1 + (q : Nat))) (g := fun q : Nat => .int (1 + (q : Nat))) (fun q hq P => ?_) _).mpr ?_
    · have hq1 := List.mem_range.mp hq
      rw [s_objS ho hm hm6 hol ht hc hcn hi hlo (hgs g hg) (by omega) (by omega)]
      simp only [bP_bool]
      exact ifP _ _ _
    · rw [cmp_ne_nil (plainAll_ints (fun q : Nat => 1 + (q : Int)) _), List.isEmpty_map, filt_all]
      simp only [oP_some]
      have e : ((List.range k.toNat).all fun x => !solO os.length k os cms i (gI g) (1 + (x : Nat))) = keP os.length k os cms i g := rfl
      rw [e]
      cases hb : keP os.length k os cms i g with
      | true =>
        simp only [Bool.not_true, Bool.false_eq_true, if_false]
        exact g1 hb _ ⟨_, rfl⟩
      | false =>
        simp only [Bool.not_false, if_true]
        exact g2 hb _ _ rfl ⟨_, rfl⟩
  · rintro ⟨v, rfl⟩
    exact h1 e v
  · rintro ⟨v, rfl⟩
    rw [hd]
    exact h2 e v
theorem s_lkeeps {n : Nat} (hn : 3 ≤ n) (hk : k ≤ 1000) (hk0 : 0 ≤ k) {cms : List Int} (hc : cms.length ≤ 100) (hcn : cms.Nodup) {i : Nat} (hi : i < 8) (P : D → Prop) (X : XP) : Run T 2000 n f_law_keeps [.tuple [.int m, .tuple os, .int k], .tuple (cms.map .int), .str (wW i)] P X ↔ P (.bool (kpw m k os cms i)) := by
  obtain ⟨t, rfl⟩ : ∃ t, n = t + 1 := ⟨n - 1, by omega⟩
  refine Run.val (run_of (fi := i__law_keeps) rfl rfl ?_) P X
  simp only [i__law_keeps, b__law_keeps]
  simp only [wS, wE, wA, wO, wI, seqK_next, seqK_ret, fnK_ret, fnK_next, oP_some, oP_none, bP_bool, List.map_cons, List.map_nil, List.length_cons, List.length_nil, List.reduceReplicate, List.cons_append, List.nil_append, List.getD_cons_zero, List.getD_cons_succ, List.set_cons_zero, List.set_cons_succ, Nat.reduceAdd, Nat.reduceSub, Nat.zero_add, bindT_nm, bindT_tup, bindTs_nil, bindTs_cons, Option.bind_some, tgSlots, wipeE, List.append_nil, Bool.not_true, Bool.not_false, Bool.false_eq_true, if_true, if_false, reduceIte, Bool.or_true, Bool.or_false, Bool.true_or, Bool.false_or, true_and, and_true, w_lo2 hi, ix_tup, at_c0]
  cases hlo : isLo i with
  | true =>
    simp only [if_true]
    rw [rg1 (by omega) (by omega)]
    simp only [oP_some]
    refine ⟨by rw [List.length_map, List.length_range]; show _ ≤ 1000000; omega, ?_⟩
    refine (wC_fil (c := fun c : Nat => locB os.length k os cms (c : Int) (i == 4)) (g := fun c : Nat => .int (c : Nat)) (fun c hcm P => ?_) _).mpr ?_
    · have hq1 := List.mem_range.mp hcm
      rw [s_objL ho hm hm6 hol (by omega) hc hi hlo (by omega) (by omega)]
      simp only [bP_bool]
      exact ifP _ _ _
    · rw [cmp_eq_nil (plainAll_ints (fun c : Nat => (c : Int)) _), List.isEmpty_map, filt_all]
      simp only [oP_some]
      unfold kpw
      rw [if_pos hlo]
      rfl
  | false =>
    simp only [Bool.false_eq_true, if_false]
    rw [s_lparts (by omega) hm hm6]
    obtain ⟨gs, eg, hgs⟩ := gr_split m.toNat
    have ek : kpw m k os cms i = gs.all (keP os.length k os cms i) := by unfold kpw; rw [if_neg (by rw [hlo]; decide)]; exact (all_same hgs _).symm
    simp only [wS, wE, wA, wO, wI, seqK_next, seqK_ret, fnK_ret, fnK_next, oP_some, oP_none, bP_bool, List.map_cons, List.map_nil, List.length_cons, List.length_nil, List.reduceReplicate, List.cons_append, List.nil_append, List.getD_cons_zero, List.getD_cons_succ, List.set_cons_zero, List.set_cons_succ, Nat.reduceAdd, Nat.reduceSub, Nat.zero_add, bindT_nm, bindT_tup, bindTs_nil, bindTs_cons, Option.bind_some, tgSlots, wipeE, List.append_nil, Bool.not_true, Bool.not_false, Bool.false_eq_true, if_true, if_false, reduceIte, Bool.or_true, Bool.or_false, Bool.true_or, Bool.false_or, true_and, and_true, it_lst, eg]
    refine l_lsol (t := t) ho hm hm6 hol (by omega) hk hk0 hc hcn hi hlo _ _ _ _ _ _ (fun g hg => (hgs g).mp hg) (fun e u4 => ?_) fun e u4 => ?_
    · simp only [wS, wE, wA, wO, wI, seqK_next, seqK_ret, fnK_ret, fnK_next, oP_some, oP_none, bP_bool, List.map_cons, List.map_nil, List.length_cons, List.length_nil, List.reduceReplicate, List.cons_append, List.nil_append, List.getD_cons_zero, List.getD_cons_succ, List.set_cons_zero, List.set_cons_succ, Nat.reduceAdd, Nat.reduceSub, Nat.zero_add, bindT_nm, bindT_tup, bindTs_nil, bindTs_cons, Option.bind_some, tgSlots, wipeE, List.append_nil, Bool.not_true, Bool.not_false, Bool.false_eq_true, if_true, if_false, reduceIte, Bool.or_true, Bool.or_false, Bool.true_or, Bool.false_or, true_and, and_true]
      rw [ek, e]
    · simp only [wS, wE, wA, wO, wI, seqK_next, seqK_ret, fnK_ret, fnK_next, oP_some, oP_none, bP_bool, List.map_cons, List.map_nil, List.length_cons, List.length_nil, List.reduceReplicate, List.cons_append, List.nil_append, List.getD_cons_zero, List.getD_cons_succ, List.set_cons_zero, List.set_cons_succ, Nat.reduceAdd, Nat.reduceSub, Nat.zero_add, bindT_nm, bindT_tup, bindTs_nil, bindTs_cons, Option.bind_some, tgSlots, wipeE, List.append_nil, Bool.not_true, Bool.not_false, Bool.false_eq_true, if_true, if_false, reduceIte, Bool.or_true, Bool.or_false, Bool.true_or, Bool.false_or, true_and, and_true]
      rw [ek, e]
end
end EV.Law
end

section
set_option Elab.async false
set_option linter.all false
set_option autoImplicit false
set_option maxRecDepth 100000
set_option maxHeartbeats 1000000
namespace EV.Law
open PySem EV
/-! ### words -/
def W8 : List Str := ["droop", "hare", "weakdroop", "weakhare", "local", "localhare", "firstdroop", "first"]
theorem W8_D : c_WISH_WORDS = .tuple (W8.map .str) := rfl
theorem W8_L : wordsL = .list (W8.map .str) := rfl
def inW (x : Str) : Bool := W8.any fun z => z == x
theorem inW_wW {i : Nat} (h : i < 8) : inW (wW i) = true := all8 (p := fun i => inW (wW i) = true) (by decide +kernel) (by decide +kernel) (by decide +kernel) (by decide +kernel) (by decide +kernel) (by decide +kernel) (by decide +kernel) (by decide +kernel) h
theorem strs_pl : ∀ (l : List Str), PyData.plainAll (l.map PyData.str) = true
  | [] => rfl
  | x :: l => by simp [PyData.plainAll, PyData.plain, strs_pl l]
theorem any_str (x : Str) : ∀ (l : List Str), ((l.map PyData.str).any fun z => PyData.eqv z (.str x)) = l.any fun z => z == x
  | [] => rfl
  | y :: l => by simp [any_str x l, PyData.eqv]
theorem okIn_str (x : Str) (l : List Str) : okIn (.str x) (l.map .str) = true := by simp [okIn, PyData.plain, strs_pl, PyData.depth]
theorem nin_strT (x : Str) (l : List Str) : cmpD .nin (.str x) (.tuple (l.map .str)) = some (!l.any fun z => z == x) := by simp only [cmpD, okIn_str, if_true, any_str]
theorem nin_strL (x : Str) (l : List Str) : cmpD .nin (.str x) (.list (l.map .str)) = some (!l.any fun z => z == x) := by simp only [cmpD, okIn_str, if_true, any_str]
theorem in_strL (x : Str) (l : List Str) : cmpD .in_ (.str x) (.list (l.map .str)) = some (l.any fun z => z == x) := by simp only [cmpD, okIn_str, if_true, any_str]
theorem cmp_eq_str (x y : Str) : cmpD .eq (.str x) (.str y) = some (x == y) := by
  simp [cmpD, okEq, PyData.plain, PyData.depth, PyData.eqv]
theorem s_check_word {n : Nat} (hn : 1 ≤ n) {x : Str} (h : inW x = true) (P : D → Prop) (X : XP) : Run T 2000 n fcheck_wish_word [.str x] P X ↔ P .none := by
  obtain ⟨m, rfl⟩ : ∃ m, n = m + 1 := ⟨n - 1, by omega⟩
  refine Run.val (run_of (fi := i_check_wish_word) rfl rfl ?_) P X
  simp only [i_check_wish_word, b_check_wish_word, W8_D]
  have h : (W8.any fun z => z == x) = true := h
  simp only [wS, wE, wA, wO, wI, seqK_next, seqK_ret, fnK_ret, fnK_next, oP_some, oP_none, bP_bool, List.map_cons, List.map_nil, List.length_cons, List.length_nil, List.reduceReplicate, List.cons_append, List.nil_append, List.getD_cons_zero, List.getD_cons_succ, List.set_cons_zero, List.set_cons_succ, Nat.reduceAdd, Nat.reduceSub, Nat.zero_add, bindT_nm, bindT_tup, bindTs_nil, bindTs_cons, Option.bind_some, tgSlots, wipeE, List.append_nil, Bool.not_true, Bool.not_false, Bool.false_eq_true, if_true, if_false, reduceIte, Bool.or_true, Bool.or_false, Bool.true_or, Bool.false_or, true_and, and_true, isiD, nin_strT, h]
  exact rfl
/-- is it one of the eight words? -/
def isW : D → Bool
  | .str x => inW x
  | _ => false
theorem m_check_word {n : Nat} (hn : 1 ≤ n) {d : D} (hf : fine d = true) (h : isW d = false) (P : D → Prop) (X : XP) : Run T 2000 n fcheck_wish_word [d] P X ↔ X .mal := by
  obtain ⟨m, rfl⟩ : ∃ m, n = m + 1 := ⟨n - 1, by omega⟩
  refine Run.mal (run_of (fi := i_check_wish_word) rfl rfl ?_) P X
  have hp := fine.pl hf
  simp only [i_check_wish_word, b_check_wish_word, W8_D]
  simp only [wS, wE, wA, wO, wI, seqK_next, seqK_ret, fnK_ret, fnK_next, oP_some, oP_none, bP_bool, List.map_cons, List.map_nil, List.length_cons, List.length_nil, List.reduceReplicate, List.cons_append, List.nil_append, List.getD_cons_zero, List.getD_cons_succ, List.set_cons_zero, List.set_cons_succ, Nat.reduceAdd, Nat.reduceSub, Nat.zero_add, bindT_nm, bindT_tup, bindTs_nil, bindTs_cons, Option.bind_some, tgSlots, wipeE, List.append_nil, Bool.not_true, Bool.not_false, Bool.false_eq_true, if_true, if_false, reduceIte, Bool.or_true, Bool.or_false, Bool.true_or, Bool.false_or, true_and, and_true]
  refine ⟨hp, ?_⟩
  cases d with
  | str x =>
    have h : (W8.any fun z => z == x) = false := h
    simp only [wS, wE, wA, wO, wI, seqK_next, seqK_ret, fnK_ret, fnK_next, oP_some, oP_none, bP_bool, List.map_cons, List.map_nil, List.length_cons, List.length_nil, List.reduceReplicate, List.cons_append, List.nil_append, List.getD_cons_zero, List.getD_cons_succ, List.set_cons_zero, List.set_cons_succ, Nat.reduceAdd, Nat.reduceSub, Nat.zero_add, bindT_nm, bindT_tup, bindTs_nil, bindTs_cons, Option.bind_some, tgSlots, wipeE, List.append_nil, Bool.not_true, Bool.not_false, Bool.false_eq_true, if_true, if_false, reduceIte, Bool.or_true, Bool.or_false, Bool.true_or, Bool.false_or, true_and, and_true, isiD, nin_strT, h]
    exact trivial
  | _ => simp [isiD]; exact trivial
end EV.Law
end

section
set_option Elab.async false
set_option linter.all false
set_option autoImplicit false
set_option maxRecDepth 100000
set_option maxHeartbeats 1000000
namespace EV.Law
open PySem EV
/-! ### a profile and its committee -/
def prD (m k : Int) (os : List D) : D := .tuple [.int m, .tuple os, .int k]
def coD (cms : List Int) : D := .tuple (cms.map .int)
structure CT (m k : Int) (os : List D) (cms : List Int) : Prop where
  ho : ∀ o ∈ os, isOrder m o = true
  m1 : 1 ≤ m
  m6 : m ≤ 6
  k1 : 1 ≤ k
  km : k ≤ m
  ol1 : 1 ≤ os.length
  ol : os.length ≤ 30
  cl : (cms.length : Int) = k
  ci : ∀ c ∈ cms, 0 ≤ c ∧ c < m
  cp : cms.Pairwise (· < ·)
theorem lt2_int (cms : List Int) (j : Nat) (h : j + 1 < cms.length) : lt2 (cms.map .int) j = decide (cms[j] < cms[j + 1]) := by
  unfold lt2
  rw [List.getElem?_map, List.getElem?_map, List.getElem?_eq_getElem (by omega), List.getElem?_eq_getElem h]
  rfl
theorem rising_pw : ∀ {cms : List Int}, rising (cms.map .int) = true ↔ cms.Pairwise (· < ·)
  | [] => by simp [rising]
  | [a] => by simp [rising]
  | a :: b :: r => by
    have ih := rising_pw (cms := b :: r)
    have e : rising ((a :: b :: r).map .int) = (decide (a < b) && rising ((b :: r).map .int)) := by
      unfold rising
      simp only [List.length_map, List.length_cons, Nat.add_sub_cancel]
      rw [List.range_succ_eq_map, List.all_cons, List.all_map]
      congr 1
    rw [e, Bool.and_eq_true, decide_eq_true_eq, ih]
    constructor
    · rintro ⟨h1, h2⟩
      refine List.pairwise_cons.mpr ⟨fun x hx => ?_, h2⟩
      rcases List.mem_cons.mp hx with rfl | hx
      · exact h1
      · have := (List.pairwise_cons.mp h2).1 x hx
        omega
    · intro h
      exact ⟨(List.pairwise_cons.mp h).1 b List.mem_cons_self, (List.pairwise_cons.mp h).2⟩
theorem ct_of {p v : D} (h1 : isProfile p = true) : ∃ m k os, p = prD m k os ∧ ((m ≤ 6 ∧ isSeated m k v = true) → ∃ cms, v = coD cms ∧ CT m k os cms) := by
  unfold isProfile at h1
  split at h1
  · rename_i m os k
    simp only [Bool.and_eq_true, decide_eq_true_eq, List.all_eq_true] at h1
    obtain ⟨a1, a2, a3, a4, a5, a6, a7⟩ := h1
    refine ⟨m, k, os, rfl, fun ⟨h6, h2⟩ => ?_⟩
    obtain ⟨cs, rfl⟩ : ∃ cs, v = .tuple cs := by
      cases v with
      | tuple cs => exact ⟨cs, rfl⟩
      | _ => exact absurd h2 Bool.false_ne_true
    simp only [isSeated, Bool.and_eq_true, decide_eq_true_eq] at h2
    obtain ⟨b1, b2, b3⟩ := h2
    have hw := inR_all b2
    have e : cs = (cs.map vI).map PyData.int := by
      rw [List.map_map]
      refine (List.map_id cs).symm.trans (List.map_congr_left fun c hc => ?_)
      exact whole_int (List.all_eq_true.mp hw c hc)
    refine ⟨cs.map vI, by unfold coD; rw [← e], a7, a1, h6, a3, a4, a5, a6, by rw [List.length_map]; exact b1, fun c hc => ?_, ?_⟩
    · obtain ⟨d, hd, rfl⟩ := List.mem_map.mp hc
      exact inR_b (List.all_eq_true.mp b2 d hd)
    · rw [e] at b3
      exact rising_pw.mp b3
  · cases h1
section
variable {m k : Int} {os : List D} {cms : List Int} (c : CT m k os cms)
include c
theorem CT.pr : isProfile (prD m k os) = true := by
  simp only [prD, isProfile, Bool.and_eq_true, decide_eq_true_eq, List.all_eq_true]
  exact ⟨c.m1, by have := c.m6; omega, c.k1, c.km, c.ol1, c.ol, c.ho⟩
theorem CT.se : isSeated m k (coD cms) = true := by
  simp only [coD, isSeated, Bool.and_eq_true, decide_eq_true_eq, List.all_eq_true, List.length_map]
  refine ⟨c.cl, fun d hd => ?_, rising_pw.mpr c.cp⟩
  obtain ⟨x, hx, rfl⟩ := List.mem_map.mp hd
  have := c.ci x hx
  simp [inR, this]
theorem CT.nd : cms.Nodup := c.cp.imp fun h => by omega
theorem CT.keeps {n : Nat} (hn : 3 ≤ n) {i : Nat} (hi : i < 8) (P : D → Prop) (X : XP) : Run T 2000 n f_law_keeps [prD m k os, coD cms, .str (wW i)] P X ↔ P (.bool (kpw m k os cms i)) := by
  have a1 := c.m1
  have a2 := c.m6
  have a3 := c.k1
  have a4 := c.km
  have a5 := c.cl
  exact s_lkeeps c.ho (by omega) (by omega) c.ol hn (by omega) (by omega) (by omega) c.nd hi P X
end
/-! ### checks -/
theorem s_check_profile {n : Nat} (hn : 4 ≤ n) {v : D} (hv : fine v = true) (h : isProfile v = true) (P : D → Prop) (X : XP) : Run T 2000 n fcheck_profile [v] P X ↔ P .none := by
  obtain ⟨m, rfl⟩ : ∃ m, n = m + 1 := ⟨n - 1, by omega⟩
  refine Run.val (run_of (fi := i_check_profile) rfl rfl ?_) P X
  simp only [i_check_profile, b_check_profile]
  simp only [wS, wE, wA, wO, wI, seqK_next, seqK_ret, fnK_ret, fnK_next, oP_some, oP_none, bP_bool, List.map_cons, List.map_nil, List.length_cons, List.length_nil, List.reduceReplicate, List.cons_append, List.nil_append, List.getD_cons_zero, List.getD_cons_succ, List.set_cons_zero, List.set_cons_succ, Nat.reduceAdd, Nat.reduceSub, Nat.zero_add, bindT_nm, bindT_tup, bindTs_nil, bindTs_cons, Option.bind_some, tgSlots, wipeE, List.append_nil, Bool.not_true, Bool.not_false, Bool.false_eq_true, if_true, if_false, reduceIte, Bool.or_true, Bool.or_false, Bool.true_or, Bool.false_or, true_and, and_true]
  rw [s_is_profile (by omega) hv, h]
  simp only [wS, wE, wA, wO, wI, seqK_next, seqK_ret, fnK_ret, fnK_next, oP_some, oP_none, bP_bool, List.map_cons, List.map_nil, List.length_cons, List.length_nil, List.reduceReplicate, List.cons_append, List.nil_append, List.getD_cons_zero, List.getD_cons_succ, List.set_cons_zero, List.set_cons_succ, Nat.reduceAdd, Nat.reduceSub, Nat.zero_add, bindT_nm, bindT_tup, bindTs_nil, bindTs_cons, Option.bind_some, tgSlots, wipeE, List.append_nil, Bool.not_true, Bool.not_false, Bool.false_eq_true, if_true, if_false, reduceIte, Bool.or_true, Bool.or_false, Bool.true_or, Bool.false_or, true_and, and_true]
theorem m_check_profile {n : Nat} (hn : 4 ≤ n) {v : D} (hv : fine v = true) (h : isProfile v = false) (P : D → Prop) (X : XP) : Run T 2000 n fcheck_profile [v] P X ↔ X .mal := by
  obtain ⟨m, rfl⟩ : ∃ m, n = m + 1 := ⟨n - 1, by omega⟩
  refine Run.mal (run_of (fi := i_check_profile) rfl rfl ?_) P X
  simp only [i_check_profile, b_check_profile]
  simp only [wS, wE, wA, wO, wI, seqK_next, seqK_ret, fnK_ret, fnK_next, oP_some, oP_none, bP_bool, List.map_cons, List.map_nil, List.length_cons, List.length_nil, List.reduceReplicate, List.cons_append, List.nil_append, List.getD_cons_zero, List.getD_cons_succ, List.set_cons_zero, List.set_cons_succ, Nat.reduceAdd, Nat.reduceSub, Nat.zero_add, bindT_nm, bindT_tup, bindTs_nil, bindTs_cons, Option.bind_some, tgSlots, wipeE, List.append_nil, Bool.not_true, Bool.not_false, Bool.false_eq_true, if_true, if_false, reduceIte, Bool.or_true, Bool.or_false, Bool.true_or, Bool.false_or, true_and, and_true]
  rw [s_is_profile (by omega) hv, h]
  simp only [wS, wE, wA, wO, wI, seqK_next, seqK_ret, fnK_ret, fnK_next, oP_some, oP_none, bP_bool, List.map_cons, List.map_nil, List.length_cons, List.length_nil, List.reduceReplicate, List.cons_append, List.nil_append, List.getD_cons_zero, List.getD_cons_succ, List.set_cons_zero, List.set_cons_succ, Nat.reduceAdd, Nat.reduceSub, Nat.zero_add, bindT_nm, bindT_tup, bindTs_nil, bindTs_cons, Option.bind_some, tgSlots, wipeE, List.append_nil, Bool.not_true, Bool.not_false, Bool.false_eq_true, if_true, if_false, reduceIte, Bool.or_true, Bool.or_false, Bool.true_or, Bool.false_or, true_and, and_true]
  exact trivial
theorem s_check_seated {n : Nat} (hn : 5 ≤ n) {m k : Int} {os : List D} {v : D} (hp : fine (prD m k os) = true) (h : isProfile (prD m k os) = true) (hv : fine v = true) (hs : isSeated m k v = true) (P : D → Prop) (X : XP) : Run T 2000 n fcheck_seated [prD m k os, v] P X ↔ P .none := by
  obtain ⟨t, rfl⟩ : ∃ t, n = t + 1 := ⟨n - 1, by omega⟩
  refine Run.val (run_of (fi := i_check_seated) rfl rfl ?_) P X
  simp only [i_check_seated, b_check_seated]
  simp only [wS, wE, wA, wO, wI, seqK_next, seqK_ret, fnK_ret, fnK_next, oP_some, oP_none, bP_bool, List.map_cons, List.map_nil, List.length_cons, List.length_nil, List.reduceReplicate, List.cons_append, List.nil_append, List.getD_cons_zero, List.getD_cons_succ, List.set_cons_zero, List.set_cons_succ, Nat.reduceAdd, Nat.reduceSub, Nat.zero_add, bindT_nm, bindT_tup, bindTs_nil, bindTs_cons, Option.bind_some, tgSlots, wipeE, List.append_nil, Bool.not_true, Bool.not_false, Bool.false_eq_true, if_true, if_false, reduceIte, Bool.or_true, Bool.or_false, Bool.true_or, Bool.false_or, true_and, and_true]
  rw [s_check_profile (by omega) hp h]
  unfold prD
  rw [s_is_seated (by omega) hv, hs]
  simp only [wS, wE, wA, wO, wI, seqK_next, seqK_ret, fnK_ret, fnK_next, oP_some, oP_none, bP_bool, List.map_cons, List.map_nil, List.length_cons, List.length_nil, List.reduceReplicate, List.cons_append, List.nil_append, List.getD_cons_zero, List.getD_cons_succ, List.set_cons_zero, List.set_cons_succ, Nat.reduceAdd, Nat.reduceSub, Nat.zero_add, bindT_nm, bindT_tup, bindTs_nil, bindTs_cons, Option.bind_some, tgSlots, wipeE, List.append_nil, Bool.not_true, Bool.not_false, Bool.false_eq_true, if_true, if_false, reduceIte, Bool.or_true, Bool.or_false, Bool.true_or, Bool.false_or, true_and, and_true]
theorem m_check_seated {n : Nat} (hn : 5 ≤ n) {m k : Int} {os : List D} {v : D} (hp : fine (prD m k os) = true) (h : isProfile (prD m k os) = true) (hv : fine v = true) (hs : isSeated m k v = false) (P : D → Prop) (X : XP) : Run T 2000 n fcheck_seated [prD m k os, v] P X ↔ X .mal := by
  obtain ⟨t, rfl⟩ : ∃ t, n = t + 1 := ⟨n - 1, by omega⟩
  refine Run.mal (run_of (fi := i_check_seated) rfl rfl ?_) P X
  simp only [i_check_seated, b_check_seated]
  simp only [wS, wE, wA, wO, wI, seqK_next, seqK_ret, fnK_ret, fnK_next, oP_some, oP_none, bP_bool, List.map_cons, List.map_nil, List.length_cons, List.length_nil, List.reduceReplicate, List.cons_append, List.nil_append, List.getD_cons_zero, List.getD_cons_succ, List.set_cons_zero, List.set_cons_succ, Nat.reduceAdd, Nat.reduceSub, Nat.zero_add, bindT_nm, bindT_tup, bindTs_nil, bindTs_cons, Option.bind_some, tgSlots, wipeE, List.append_nil, Bool.not_true, Bool.not_false, Bool.false_eq_true, if_true, if_false, reduceIte, Bool.or_true, Bool.or_false, Bool.true_or, Bool.false_or, true_and, and_true]
  rw [s_check_profile (by omega) hp h]
  unfold prD
  rw [s_is_seated (by omega) hv, hs]
  simp only [wS, wE, wA, wO, wI, seqK_next, seqK_ret, fnK_ret, fnK_next, oP_some, oP_none, bP_bool, List.map_cons, List.map_nil, List.length_cons, List.length_nil, List.reduceReplicate, List.cons_append, List.nil_append, List.getD_cons_zero, List.getD_cons_succ, List.set_cons_zero, List.set_cons_succ, Nat.reduceAdd, Nat.reduceSub, Nat.zero_add, bindT_nm, bindT_tup, bindTs_nil, bindTs_cons, Option.bind_some, tgSlots, wipeE, List.append_nil, Bool.not_true, Bool.not_false, Bool.false_eq_true, if_true, if_false, reduceIte, Bool.or_true, Bool.or_false, Bool.true_or, Bool.false_or, true_and, and_true]
  exact trivial
theorem m_check_seated0 {n : Nat} (hn : 5 ≤ n) {p v : D} (hp : fine p = true) (h : isProfile p = false) (P : D → Prop) (X : XP) : Run T 2000 n fcheck_seated [p, v] P X ↔ X .mal := by
  obtain ⟨t, rfl⟩ : ∃ t, n = t + 1 := ⟨n - 1, by omega⟩
  refine Run.mal (run_of (fi := i_check_seated) rfl rfl ?_) P X
  simp only [i_check_seated, b_check_seated]
  simp only [wS, wE, wA, wO, wI, seqK_next, seqK_ret, fnK_ret, fnK_next, oP_some, oP_none, bP_bool, List.map_cons, List.map_nil, List.length_cons, List.length_nil, List.reduceReplicate, List.cons_append, List.nil_append, List.getD_cons_zero, List.getD_cons_succ, List.set_cons_zero, List.set_cons_succ, Nat.reduceAdd, Nat.reduceSub, Nat.zero_add, bindT_nm, bindT_tup, bindTs_nil, bindTs_cons, Option.bind_some, tgSlots, wipeE, List.append_nil, Bool.not_true, Bool.not_false, Bool.false_eq_true, if_true, if_false, reduceIte, Bool.or_true, Bool.or_false, Bool.true_or, Bool.false_or, true_and, and_true]
  rw [m_check_profile (by omega) hp h]
  exact trivial
end EV.Law
end

section
set_option Elab.async false
set_option linter.all false
set_option autoImplicit false
set_option maxRecDepth 100000
set_option maxHeartbeats 4000000
namespace EV.Law
open PySem EV
def Kp (C : CallF) (st : S) (ρ : Env) (A B : DS → Prop) : Prop := ∀ s, A s → ∃ s', evS C 2000 st ρ s = .ok (.next, ρ) s' ∧ B s'
theorem kp_seq {C : CallF} {a b : S} {ρ : Env} {A B D' : DS → Prop} (ha : Kp C a ρ A B) (hb : Kp C b ρ B D') : Kp C (.seq a b) ρ A D' := fun s h => by
  obtain ⟨s1, e1, h1⟩ := ha s h
  obtain ⟨s2, e2, h2⟩ := hb s1 h1
  refine ⟨s2, ?_, h2⟩
  unfold evS
  rw [e1]
  exact e2
theorem kp_nil {C : CallF} {ρ : Env} {A : DS → Prop} : Kp C .nil ρ A A := fun s h => ⟨s, by unfold evS; rfl, h⟩
abbrev ρt (many : Int) (u : Option D) : Env := [some (.dict []), some (.int many), u]
theorem dr_ok (many : Int) (u : Option D) : EV.isDr ((ρt many u).getD 0 none) = some () := rfl
theorem fm (i : Int) : fitsMul i 48271 = true := by
  unfold fitsMul
  rw [Bool.or_eq_true, Bool.or_eq_true]
  exact .inl (.inr (decide_eq_true (by decide)))
theorem k1 (C : CallF) (many : Int) (u : Option D) : Kp C (.sdrw 0 1 (.bin .add (.drw 0 1) (.con (.int 1)))) (ρt many u) (fun _ => True) (fun s => 1 ≤ s.p) := fun s _ => by
  refine ⟨{ s with p := ((s.p : Int) - 1 + 1 + 1).toNat }, ?_, by show 1 ≤ ((s.p : Int) - 1 + 1 + 1).toNat; omega⟩
  unfold evS
  simp only [ev, dr_ok, lift_some, bnd_ok, drwD, Option.map_some, binD, setDr]
  rw [if_pos (by omega)]
  rfl
theorem k2 (C : CallF) (many : Int) (u : Option D) : Kp C (.ite (.cmp .lt (.drw 0 1) (.ncel 0)) (.seq (.sdrw 0 2 (.cel 0 (.drw 0 1))) .nil) .nil) (ρt many u) (fun s => 1 ≤ s.p) (fun _ => True) := fun s hs => by
  by_cases h : ((s.p : Int) - 1) < (s.cells.length : Int)
  · have hl : ((s.p : Int) - 1).toNat < s.cells.length := by omega
    refine ⟨{ s with cur := s.cells[((s.p : Int) - 1).toNat] }, ?_, trivial⟩
    unfold evS
    simp only [ev, dr_ok, lift_some, bnd_ok, drwD, Option.map_some, cmp_lt, boolR_bool]
    rw [if_pos (decide_eq_true h)]
    simp only [evS, ev, dr_ok, lift_some, bnd_ok, drwD, Option.map_some, celD]
    rw [if_pos (show (0 : Int) ≤ (s.p : Int) - 1 by omega), List.getElem?_eq_getElem hl]
    simp only [Option.map_some, lift_some, bnd_ok, setDr]
  · refine ⟨s, ?_, trivial⟩
    unfold evS
    simp only [ev, dr_ok, lift_some, bnd_ok, drwD, Option.map_some, cmp_lt, boolR_bool]
    rw [if_neg (by rw [decide_eq_false h]; decide)]
    unfold evS
    rfl
theorem k3 (C : CallF) (many : Int) (u : Option D) : Kp C (.ite (.cmp .eq (.drw 0 2) (.con (.int 0))) (.seq (.sdrw 0 3 (.bin .mod (.bi .int (.cons (.bin .add (.bin .mul (.drw 0 3) (.con (.int 48271))) (.con (.int 11))) .nil)) (.con (.int 2147483647)))) (.seq (.sdrw 0 2 (.drw 0 3)) .nil)) .nil) (ρt many u) (fun _ => True) (fun _ => True) := fun s hs => by
  have e2 : ∀ i : Int, biD .int [.int i] = some (.int i) := fun _ => rfl
  have em : ∀ i : Int, binD .mul (.int i) (.int 48271) = some (.int (i * 48271)) := fun i => by simp only [binD, fm, if_true]
  have ea : ∀ i j : Int, binD .add (.int i) (.int j) = some (.int (i + j)) := fun _ _ => rfl
  have ed : ∀ i : Int, binD .mod (.int i) (.int 2147483647) = some (.int (i % 2147483647)) := fun i => by simp [binD]
  by_cases h : s.cur = 0
  · refine ⟨{ s with seed := (s.seed * 48271 + 11) % 2147483647, cur := (s.seed * 48271 + 11) % 2147483647 }, ?_, trivial⟩
    unfold evS
    simp only [ev, dr_ok, lift_some, bnd_ok, drwD, Option.map_some, cmp_eq_int, boolR_bool]
    rw [if_pos (decide_eq_true h)]
    simp only [evS, ev, evA, dr_ok, lift_some, bnd_ok, drwD, Option.map_some, em, ea, e2, ed, setDr]
  · refine ⟨s, ?_, trivial⟩
    unfold evS
    simp only [ev, dr_ok, lift_some, bnd_ok, drwD, Option.map_some, cmp_eq_int, boolR_bool]
    rw [if_neg (by rw [decide_eq_false h]; decide)]
    unfold evS
    rfl
theorem s_take {n : Nat} (hn : 1 ≤ n) {many : Int} (h1 : 0 < many) (h2 : many < 1073741824) : Run T 2000 n f_law_take [.dict [], .int many] (fun d => ∃ k : Int, d = .int k ∧ 0 ≤ k ∧ k < many) nox := by
  obtain ⟨m, rfl⟩ : ∃ m, n = m + 1 := ⟨n - 1, by omega⟩
  intro s
  unfold run
  rw [show T[f_law_take]? = some i__law_take from rfl]
  dsimp only
  rw [if_pos (show ([.dict [], .int many] : List D).length = i__law_take.ps.length from rfl)]
  have fd : fitsDiv many = true := by
    unfold fitsDiv
    rw [Bool.and_eq_true, Bool.or_eq_true]
    exact ⟨decide_eq_true h1, .inl (decide_eq_true h2)⟩
  have e2 : ∀ i : Int, biD .int [.int i] = some (.int i) := fun _ => rfl
  have em : ∀ i : Int, binD .mod (.int i) (.int many) = some (.int (i % many)) := fun i => by simp only [binD, h1, if_true]
  have ef : ∀ i : Int, binD .fdiv (.int i) (.int many) = some (.int (i / many)) := fun i => by simp only [binD, fd, if_true]
  show OkE ((evS (run T 2000 m) 2000 b__law_take (ρt many none) s).bnd _) _ _
  have first : ∃ s', evS (run T 2000 m) 2000 (.ite (.cmp .eq (.drw 0 2) (.con (.int 0))) (.seq (.sdrw 0 1 (.bin .add (.drw 0 1) (.con (.int 1)))) (.seq (.ite (.cmp .lt (.drw 0 1) (.ncel 0)) (.seq (.sdrw 0 2 (.cel 0 (.drw 0 1))) .nil) .nil)
      (.seq (.ite (.cmp .eq (.drw 0 2) (.con (.int 0))) (.seq (.sdrw 0 3 (.bin .mod (.bi .int (.cons (.bin .add (.bin .mul (.drw 0 3) (.con (.int 48271))) (.con (.int 11))) .nil)) (.con (.int 2147483647)))) (.seq (.sdrw 0 2 (.drw 0 3)) .nil)) .nil) .nil))) .nil) (ρt many none) s = .ok (.next, ρt many none) s' := by
    have k := kp_seq (k1 (run T 2000 m) many none) (kp_seq (k2 (run T 2000 m) many none) (kp_seq (k3 (run T 2000 m) many none) kp_nil))
    by_cases h : s.cur = 0
    · obtain ⟨s', e, _⟩ := k s trivial
      refine ⟨s', ?_⟩
      rw [evS]
      simp only [ev, dr_ok, lift_some, bnd_ok, drwD, Option.map_some, cmp_eq_int, boolR_bool]
      rw [if_pos (decide_eq_true h)]
      exact e
    · refine ⟨s, ?_⟩
      rw [evS]
      simp only [ev, dr_ok, lift_some, bnd_ok, drwD, Option.map_some, cmp_eq_int, boolR_bool]
      rw [if_neg (by rw [decide_eq_false h]; decide)]
      unfold evS
      rfl
  obtain ⟨s', e⟩ := first
  unfold b__law_take
  rw [evS, e]
  simp only [bnd_ok, evS, ev, evA, drwD, dr_ok, lift_some, Option.map_some, e2, em, ef, List.getD_cons_zero, List.getD_cons_succ, List.set_cons_zero, List.set_cons_succ, EV.isDr, setDr]
  have hm : ¬ many = 0 := by omega
  exact ⟨s'.cur % many, rfl, Int.emod_nonneg _ hm, Int.emod_lt_of_pos _ h1⟩
theorem fine_tup {ds : List D} (h : ds.length ≤ 4000) (k : ∀ d ∈ ds, fine d = true) : fine (.tuple ds) = true := by
  simp only [fine, Bool.and_eq_true, decide_eq_true_eq]
  exact ⟨h, fineA.of k⟩
theorem fine_lst {ds : List D} (h : ds.length ≤ 4000) (k : ∀ d ∈ ds, fine d = true) : fine (.list ds) = true := by
  simp only [fine, Bool.and_eq_true, decide_eq_true_eq]
  exact ⟨h, fineA.of k⟩
theorem cut_len (xs : List D) (lo hi : Option Int) : (cutL xs lo hi).length ≤ xs.length := by
  unfold cutL
  rw [List.length_take, List.length_drop]
  omega
theorem cut_mem {xs : List D} {lo hi : Option Int} {x : D} (h : x ∈ cutL xs lo hi) : x ∈ xs := List.mem_of_mem_drop (List.mem_of_mem_take h)
theorem ix_any {xs : List D} {t : Int} (h0 : 0 ≤ t) (h1 : t.toNat < xs.length) {P : D → Prop} (h : ∀ x ∈ xs, P x) : oP (ixD (.list xs) (.int t)) P := by
  have e : t = ((t.toNat : Nat) : Int) := by omega
  rw [ix_lst, e, atI_nat (by omega), List.getElem?_eq_getElem (by omega)]
  exact h _ (List.getElem_mem _)
theorem add_tupL (a b : List D) (h : a.length + b.length ≤ 1000000) : binD .add (.tuple a) (.tuple b) = some (.tuple (a ++ b)) := if_pos h
theorem sl_tup (xs : List D) (lo hi : Option Int) : slD (.tuple xs) lo hi = some (.tuple (cutL xs lo hi)) := rfl
/-! ### a bent value, its numbers bounded -/
mutual
def nb : D → Bool
  | .int i => decide (i ≤ 6)
  | .list ds => nbA ds
  | .tuple ds => nbA ds
  | _ => true
def nbA : List D → Bool
  | [] => true
  | d :: ds => nb d && nbA ds
end
theorem nbA_of {ds : List D} (h : ∀ d ∈ ds, nb d = true) : nbA ds = true := by
  induction ds with
  | nil => rfl
  | cons e es ih =>
    simp only [nbA, Bool.and_eq_true]
    exact ⟨h e List.mem_cons_self, ih fun d hd => h d (List.mem_cons_of_mem _ hd)⟩
def fn6 (d : D) : Bool := fine d && nb d
theorem fn6_f {d : D} (h : fn6 d = true) : fine d = true := (Bool.and_eq_true_iff.mp h).1
theorem fn6_n {d : D} (h : fn6 d = true) : nb d = true := (Bool.and_eq_true_iff.mp h).2
theorem fn6_tup {ds : List D} (h : ds.length ≤ 4000) (k : ∀ d ∈ ds, fn6 d = true) : fn6 (.tuple ds) = true :=
  Bool.and_eq_true_iff.mpr ⟨fine_tup h fun d hd => fn6_f (k d hd), nbA_of fun d hd => fn6_n (k d hd)⟩
theorem fn6_lst {ds : List D} (h : ds.length ≤ 4000) (k : ∀ d ∈ ds, fn6 d = true) : fn6 (.list ds) = true :=
  Bool.and_eq_true_iff.mpr ⟨fine_lst h fun d hd => fn6_f (k d hd), nbA_of fun d hd => fn6_n (k d hd)⟩
def sm5 : Nat → D → Bool
  | 0, _ => false
  | _ + 1, .int i => decide (i ≤ 5)
  | _ + 1, .str _ => true
  | k + 1, .tuple ds => decide (ds.length ≤ 1000) && ds.all (sm5 k)
  | _, _ => false
theorem sm5_fn6 : ∀ (k : Nat) (d : D), sm5 k d = true → fn6 d = true
  | 0, d, h => by simp [sm5] at h
  | k + 1, .int i, h => by
    have hi : i ≤ 5 := by simpa [sm5] using h
    simp only [fn6, fine, nb, Bool.true_and, decide_eq_true_eq]; omega
  | k + 1, .str _, _ => rfl
  | k + 1, .tuple ds, h => by
    simp only [sm5, Bool.and_eq_true, decide_eq_true_eq, List.all_eq_true] at h
    exact fn6_tup (by omega) fun d hd => sm5_fn6 k d (h.2 d hd)
  | k + 1, .none, h => by simp [sm5] at h
  | k + 1, .bool _, h => by simp [sm5] at h
  | k + 1, .list _, h => by simp [sm5] at h
  | k + 1, .dict _, h => by simp [sm5] at h
theorem s_bent6 : ∀ (k n : Nat) (d : D), k + 1 ≤ n → sm5 k d = true → Run T 2000 n f_law_bent [.dict [], d] (fun d' => fn6 d' = true) nox
  | 0, n, d, _, h => by simp [sm5] at h
  | k + 1, n, d, hn, h => by
    obtain ⟨m, rfl⟩ : ∃ m, n = m + 1 := ⟨n - 1, by omega⟩
    have hf := sm5_fn6 _ _ h
    have hp := fine.pl (fn6_f hf)
    refine run_of (fi := i__law_bent) rfl rfl ?_
    simp only [i__law_bent, b__law_bent]
    cases d with
    | tuple ds =>
      simp only [sm5, Bool.and_eq_true, decide_eq_true_eq, List.all_eq_true] at h
      obtain ⟨hl, hs⟩ := h
      have hd : ∀ x ∈ ds, fn6 x = true := fun x hx => sm5_fn6 k x (hs x hx)
      -- the six other things
      have rest : Run T 2000 m f_law_take [.dict [], .int 6] (fun x => oP (ixD (.list [.list ds, .tuple (cutL ds none (some (-1))), .tuple (ds ++ cutL ds none (some 1)), .none, .tuple [], .tuple (ds ++ [.int 0])]) x) fun y => fn6 y = true) nox := by
        refine Run.imp (s_take (by omega) (by decide) (by decide)) (fun x ⟨t, e, h0, h1⟩ => ?_) (fun _ h => h)
        subst e
        refine ix_any h0 (by simp; omega) fun y hy => ?_
        simp only [List.mem_cons, List.not_mem_nil, or_false] at hy
        rcases hy with rfl | rfl | rfl | rfl | rfl | rfl
        · exact fn6_lst (by omega) hd
        · exact fn6_tup (by have := cut_len ds none (some (-1)); omega) fun x hx => hd x (cut_mem hx)
        · exact fn6_tup (by have := cut_len ds none (some 1); rw [List.length_append]; omega) fun x hx => by
            rcases List.mem_append.mp hx with hx | hx
            · exact hd x hx
            · exact hd x (cut_mem hx)
        · rfl
        · rfl
        · exact fn6_tup (by rw [List.length_append]; simp; omega) fun x hx => by
            rcases List.mem_append.mp hx with hx | hx
            · exact hd x hx
            · simp at hx; rw [hx]; rfl
      have e6 : ∀ xs : List D, biD .list [.tuple xs] = some (.list xs) := fun _ => rfl
      have c1 := cut_len ds none (some 1)
      have a1 : binD .add (.tuple ds) (.tuple (cutL ds none (some 1))) = some (.tuple (ds ++ cutL ds none (some 1))) := add_tupL _ _ (by omega)
      have a2 : binD .add (.tuple ds) (.tuple [.int 0]) = some (.tuple (ds ++ [.int 0])) := add_tupL _ _ (by simp; omega)
      simp only [wS, wE, wA, wO, wI, seqK_next, seqK_ret, fnK_ret, fnK_next, oP_some, oP_none, bP_bool, List.map_cons, List.map_nil, List.length_cons, List.length_nil, List.reduceReplicate, List.cons_append, List.nil_append, List.getD_cons_zero, List.getD_cons_succ, List.set_cons_zero, List.set_cons_succ, Nat.reduceAdd, Nat.reduceSub, Nat.zero_add, bindT_nm, bindT_tup, bindTs_nil, bindTs_cons, Option.bind_some, tgSlots, wipeE, List.append_nil, Bool.not_true, Bool.not_false, Bool.false_eq_true, if_true, if_false, reduceIte, Bool.or_true, Bool.or_false, Bool.true_or, Bool.false_or, true_and, and_true, isi_tt, len_tup, cmp_gt, e6, endD, sl_tup, a1, a2, negD]
      refine ⟨hp, ?_⟩
      by_cases h0 : (0 : Int) < (ds.length : Int)
      · simp only [h0, decide_true, if_true]
        refine Run.imp (s_take (by omega) (by decide) (by decide)) (fun x ⟨t, e, t0, t1⟩ => ?_) (fun _ h => h)
        subst e
        simp only [cmp_gt, oP_some, bP_bool]
        by_cases ht : 0 < t
        · simp only [ht, decide_true, if_true]
          refine Run.imp (s_take (by omega) h0 (by omega)) (fun x ⟨q, e, q0, q1⟩ => ?_) (fun _ h => h)
          subst e
          have eq : q = ((q.toNat : Nat) : Int) := by omega
          have hq : q.toNat < ds.length := by omega
          simp only [endD, oP_some, sl_tup, ix_tup]
          have ea : L2.atI ds q = some (ds[q.toNat]'hq) := by
            have z := atI_nat hq
            rw [List.getElem?_eq_getElem hq, ← eq] at z
            exact z
          rw [ea]
          simp only [oP_some]
          refine Run.imp (s_bent6 k m _ (by omega) (hs _ (List.getElem_mem hq))) (fun y hy => ?_) (fun _ h => h)
          have b1 := cut_len ds none (some q)
          rw [add_tupL _ _ (by simp; omega)]
          simp only [oP_some, binD, endD, sl_tup]
          have b2 := cut_len ds (some (q + 1)) none
          rw [if_pos (by show _ ≤ 1000000; simp; omega)]
          simp only [oP_some]
          refine fn6_tup (by simp; omega) fun x hx => ?_
          simp only [List.mem_append, List.mem_singleton] at hx
          rcases hx with (hx | hx) | hx
          · exact hd x (cut_mem hx)
          · rw [hx]; exact hy
          · exact hd x (cut_mem hx)
        · simp only [ht, decide_false, Bool.false_eq_true, if_false]
          exact ⟨hp, rest⟩
      · simp only [h0, decide_false, Bool.false_eq_true, if_false]
        exact ⟨hp, rest⟩
    | str x =>
      simp only [wS, wE, wA, wO, wI, seqK_next, seqK_ret, fnK_ret, fnK_next, oP_some, oP_none, bP_bool, List.map_cons, List.map_nil, List.length_cons, List.length_nil, List.reduceReplicate, List.cons_append, List.nil_append, List.getD_cons_zero, List.getD_cons_succ, List.set_cons_zero, List.set_cons_succ, Nat.reduceAdd, Nat.reduceSub, Nat.zero_add, bindT_nm, bindT_tup, bindTs_nil, bindTs_cons, Option.bind_some, tgSlots, wipeE, List.append_nil, Bool.not_true, Bool.not_false, Bool.false_eq_true, if_true, if_false, reduceIte, Bool.or_true, Bool.or_false, Bool.true_or, Bool.false_or, true_and, and_true, isiD]
      refine ⟨rfl, rfl, rfl, ?_⟩
      refine Run.imp (s_take (by omega) (by decide) (by decide)) (fun x ⟨t, e, h0, h1⟩ => ?_) (fun _ h => h)
      subst e
      refine ix_any h0 (by simp; omega) fun y hy => ?_
      simp only [List.mem_cons, List.not_mem_nil, or_false] at hy
      rcases hy with rfl | rfl | rfl | rfl | rfl | rfl | rfl <;> rfl
    | int i =>
      simp only [wS, wE, wA, wO, wI, seqK_next, seqK_ret, fnK_ret, fnK_next, oP_some, oP_none, bP_bool, List.map_cons, List.map_nil, List.length_cons, List.length_nil, List.reduceReplicate, List.cons_append, List.nil_append, List.getD_cons_zero, List.getD_cons_succ, List.set_cons_zero, List.set_cons_succ, Nat.reduceAdd, Nat.reduceSub, Nat.zero_add, bindT_nm, bindT_tup, bindTs_nil, bindTs_cons, Option.bind_some, tgSlots, wipeE, List.append_nil, Bool.not_true, Bool.not_false, Bool.false_eq_true, if_true, if_false, reduceIte, Bool.or_true, Bool.or_false, Bool.true_or, Bool.false_or, true_and, and_true, isiD, binD]
      refine ⟨rfl, rfl, rfl, rfl, ?_⟩
      refine Run.imp (s_take (by omega) (by decide) (by decide)) (fun x ⟨t, e, h0, h1⟩ => ?_) (fun _ h => h)
      subst e
      refine ix_any h0 (by simp; omega) fun y hy => ?_
      simp only [List.mem_cons, List.not_mem_nil, or_false] at hy
      have hi : i ≤ 5 := by simpa [sm5] using h
      rcases hy with rfl | rfl | rfl | rfl | rfl | rfl | rfl | rfl
      · simp only [fn6, fine, nb, Bool.true_and, decide_eq_true_eq]; omega
      · simp only [fn6, fine, nb, Bool.true_and, decide_eq_true_eq]; omega
      · rfl
      · rfl
      · rfl
      · rfl
      · rfl
      · simp only [fn6, fine, fineA, nb, nbA, List.length_cons, List.length_nil, Bool.and_true, Bool.true_and, Bool.and_eq_true, decide_eq_true_eq]; omega
    | none => simp [sm5] at h
    | bool _ => simp [sm5] at h
    | list _ => simp [sm5] at h
    | dict _ => simp [sm5] at h
end EV.Law
end

section
set_option Elab.async false
set_option linter.all false
set_option autoImplicit false
set_option maxRecDepth 100000
set_option maxHeartbeats 4000000
namespace EV.Law
open PySem EV
/-! ### drawn profiles -/
def gO (n : Int) (cs : List D) : Prop := cs.all (inR n) = true ∧ (cs.map vI).Nodup
theorem gO.perm {n : Int} {cs cs' : List D} (h : gO n cs) (p : cs'.Perm cs) : gO n cs' := by
  refine ⟨List.all_eq_true.mpr fun x hx => List.all_eq_true.mp h.1 x (p.mem_iff.mp hx), ?_⟩
  exact (p.map vI).nodup_iff.mpr h.2
theorem gO.sub {n : Int} {cs cs' : List D} (h : gO n cs) (p : cs'.Sublist cs) : gO n cs' :=
  ⟨List.all_eq_true.mpr fun x hx => List.all_eq_true.mp h.1 x (p.subset hx), h.2.sublist (p.map vI)⟩
theorem gO.cons {n : Nat} {cs : List D} (h : gO (n : Nat) cs) : gO ((n + 1 : Nat) : Int) (.int (n : Nat) :: cs) := by
  refine ⟨List.all_eq_true.mpr fun x hx => ?_, ?_⟩
  · rcases List.mem_cons.mp hx with rfl | hx
    · simp only [inR, Bool.and_eq_true, decide_eq_true_eq]; omega
    · have h1 := List.all_eq_true.mp h.1 x hx
      have h2 := inR_b h1
      rw [whole_int (inR_whole h1)]
      simp only [inR, Bool.and_eq_true, decide_eq_true_eq]; omega
  · rw [List.map_cons, List.nodup_cons]
    refine ⟨fun hm => ?_, h.2⟩
    obtain ⟨x, hx, e⟩ := List.mem_map.mp hm
    have h2 := inR_b (List.all_eq_true.mp h.1 x hx)
    rw [e] at h2
    have : vI (.int (n : Nat)) = (n : Int) := rfl
    omega
theorem ins_perm (xs : List D) (j : Nat) (y : D) : (xs.take j ++ [y] ++ xs.drop j).Perm (y :: xs) := by
  rw [List.append_assoc]
  refine (List.perm_append_comm_assoc _ _ _).trans ?_
  rw [List.take_append_drop]
  exact List.Perm.refl _
theorem era_perm : ∀ (xs : List D) (j : Nat) (h : j < xs.length), (xs[j] :: xs.eraseIdx j).Perm xs
  | x :: xs, 0, _ => List.Perm.refl _
  | x :: xs, j + 1, h => by
    have ih := era_perm xs j (by simpa using h)
    rw [List.getElem_cons_succ, List.eraseIdx_cons_succ]
    exact (List.Perm.swap _ _ _).trans (ih.cons x)
theorem l_base {t : Nat} (ht : 1 ≤ t) (u1 u2 u3 u6 u7 u8 u9 u10 : Option D) (Q : Fl → Env → Prop) : ∀ (d v : Nat) (xs : List D) (u5 : Option D), v + d ≤ 100 → gO (v : Nat) xs → xs.length = v →
    (∀ xs u5, gO ((v + d : Nat) : Int) xs → xs.length = v + d → Q .next [some (.dict []), u1, u2, u3, some (.list xs), u5, u6, u7, u8, u9, u10]) →
    wL (fun x ρ Q => wS (Run T 2000 t) 2000 l__law_profile_3 (ρ.set 5 (some x)) Q nox) ((List.range' v d).map fun v => .int (v : Nat)) [some (.dict []), u1, u2, u3, some (.list xs), u5, u6, u7, u8, u9, u10] Q
  | 0, v, xs, u5, _, g, hl, h => h xs u5 g hl
  | d + 1, v, xs, u5, hd, g, hl, h => by
    have turn : ∀ Q' : Fl → Env → Prop, (∀ xs', gO ((v + 1 : Nat) : Int) xs' → xs'.length = v + 1 → Q' .next [some (.dict []), u1, u2, u3, some (.list xs'), some (.int (v : Nat)), u6, u7, u8, u9, u10]) → wS (Run T 2000 t) 2000 l__law_profile_3 [some (.dict []), u1, u2, u3, some (.list xs), some (.int (v : Nat)), u6, u7, u8, u9, u10] Q' nox := fun Q' hq => by
      unfold l__law_profile_3
      simp only [wS, wE, wA, wO, wI, seqK_next, seqK_ret, fnK_ret, fnK_next, oP_some, oP_none, bP_bool, List.map_cons, List.map_nil, List.length_cons, List.length_nil, List.reduceReplicate, List.cons_append, List.nil_append, List.getD_cons_zero, List.getD_cons_succ, List.set_cons_zero, List.set_cons_succ, Nat.reduceAdd, Nat.reduceSub, Nat.zero_add, bindT_nm, bindT_tup, bindTs_nil, bindTs_cons, Option.bind_some, tgSlots, wipeE, List.append_nil, Bool.not_true, Bool.not_false, Bool.false_eq_true, if_true, if_false, reduceIte, Bool.or_true, Bool.or_false, Bool.true_or, Bool.false_or, true_and, and_true, getL, len_lst, binD]
      refine Run.imp (s_take ht (by omega) (by omega)) (fun x ⟨j, e, h0, h1⟩ => ?_) (fun _ h => h)
      subst e
      simp only [endD, oP_some]
      refine ⟨⟨h0, by show _ ≤ 1000000; omega, by show _ < 1000000; omega⟩, ?_⟩
      have p := ins_perm xs j.toNat (.int (v : Nat))
      exact hq _ (g.cons.perm p) (by rw [p.length_eq, List.length_cons, hl])
    rw [List.range'_succ, List.map_cons]
    unfold wL
    simp only [List.set_cons_zero, List.set_cons_succ]
    refine turn _ fun xs' g' hl' => ?_
    refine l_base ht u1 u2 u3 u6 u7 u8 u9 u10 Q d (v + 1) xs' _ (by omega) g' hl' fun xs u5 g hl => ?_
    rw [show v + 1 + d = v + (d + 1) by omega] at g hl
    exact h xs u5 g hl
/-- one candidate moved -/
theorem l_move {t : Nat} (ht : 1 ≤ t) (u1 u2 u3 u4 u6 u7 u10 : Option D) {n : Int} (Q : Fl → Env → Prop) {N : Nat} (hN : 1 ≤ N) (hN2 : N ≤ 100) : ∀ (L : List D) (xs : List D) (u5 u9 : Option D), gO n xs → xs.length = N →
    (∀ xs u5 u9, gO n xs → xs.length = N → Q .next [some (.dict []), u1, u2, u3, u4, u5, u6, u7, some (.list xs), u9, u10]) →
    wL (fun x ρ Q => wS (Run T 2000 t) 2000 l__law_profile_1 (ρ.set 9 (some x)) Q nox) L [some (.dict []), u1, u2, u3, u4, u5, u6, u7, some (.list xs), u9, u10] Q
  | [], xs, u5, u9, g, hl, h => h xs u5 u9 g hl
  | d :: L, xs, u5, u9, g, hl, h => by
    have turn : ∀ Q' : Fl → Env → Prop, (∀ xs' u5, gO n xs' → xs'.length = N → Q' .next [some (.dict []), u1, u2, u3, u4, u5, u6, u7, some (.list xs'), some d, u10]) → wS (Run T 2000 t) 2000 l__law_profile_1 [some (.dict []), u1, u2, u3, u4, u5, u6, u7, some (.list xs), some d, u10] Q' nox := fun Q' hq => by
      unfold l__law_profile_1
      simp only [wS, wE, wA, wO, wI, seqK_next, seqK_ret, fnK_ret, fnK_next, oP_some, oP_none, bP_bool, List.map_cons, List.map_nil, List.length_cons, List.length_nil, List.reduceReplicate, List.cons_append, List.nil_append, List.getD_cons_zero, List.getD_cons_succ, List.set_cons_zero, List.set_cons_succ, Nat.reduceAdd, Nat.reduceSub, Nat.zero_add, bindT_nm, bindT_tup, bindTs_nil, bindTs_cons, Option.bind_some, tgSlots, wipeE, List.append_nil, Bool.not_true, Bool.not_false, Bool.false_eq_true, if_true, if_false, reduceIte, Bool.or_true, Bool.or_false, Bool.true_or, Bool.false_or, true_and, and_true, getL, len_lst]
      refine Run.imp (s_take ht (by omega) (by omega)) (fun x ⟨j, e, h0, h1⟩ => ?_) (fun _ h => h)
      subst e
      have hj : j.toNat < xs.length := by omega
      have ep : ((placeD xs.length (.int j)).bind fun p => (xs[p]?).map fun x => (p, x)) = some (j.toNat, xs[j.toNat]) := by
        have e : j = ((j.toNat : Nat) : Int) := by omega
        have : placeD xs.length (.int j) = some j.toNat := by
          unfold placeD
          simp only [L2.ixN]
          rw [if_pos h0, if_pos (by omega)]
        rw [this, Option.bind_some, List.getElem?_eq_getElem hj]
        rfl
      refine ⟨by show _ ≤ 1000000; omega, ?_⟩
      rw [ep]
      simp only [oP_some, List.set_cons_zero, List.set_cons_succ]
      simp only [wS, wE, wA, wO, wI, seqK_next, seqK_ret, fnK_ret, fnK_next, oP_some, oP_none, bP_bool, List.map_cons, List.map_nil, List.length_cons, List.length_nil, List.reduceReplicate, List.cons_append, List.nil_append, List.getD_cons_zero, List.getD_cons_succ, List.set_cons_zero, List.set_cons_succ, Nat.reduceAdd, Nat.reduceSub, Nat.zero_add, bindT_nm, bindT_tup, bindTs_nil, bindTs_cons, Option.bind_some, tgSlots, wipeE, List.append_nil, Bool.not_true, Bool.not_false, Bool.false_eq_true, if_true, if_false, reduceIte, Bool.or_true, Bool.or_false, Bool.true_or, Bool.false_or, true_and, and_true, getL, len_lst, binD]
      refine Run.imp (s_take ht (by omega) (by have := List.length_eraseIdx_le xs j.toNat; omega)) (fun x ⟨i, e, i0, i1⟩ => ?_) (fun _ h => h)
      subst e
      simp only [endD, oP_some]
      have hle := List.length_eraseIdx_le xs j.toNat
      refine ⟨⟨i0, by show _ ≤ 1000000; omega, by show _ < 1000000; omega⟩, ?_⟩
      have p := (ins_perm (xs.eraseIdx j.toNat) i.toNat xs[j.toNat]).trans (era_perm xs j.toNat hj)
      exact hq _ _ (g.perm p) (by rw [p.length_eq, hl])
    unfold wL
    simp only [List.set_cons_zero, List.set_cons_succ]
    refine turn _ fun xs' u5 g' hl' => ?_
    exact l_move ht u1 u2 u3 u4 u6 u7 u10 Q hN hN2 L xs' _ _ g' hl' h
/-- an order as it may be drawn -/
def gD (m : Int) (o : D) : Prop := ∃ cs, o = .tuple cs ∧ gO m cs ∧ 1 ≤ cs.length
theorem gD.ord {m : Int} {o : D} (h : gD m o) : isOrder m o = true := by
  obtain ⟨cs, rfl, g, h1⟩ := h
  simp only [isOrder, Bool.and_eq_true, decide_eq_true_eq]
  exact ⟨h1, g.1, nod_iff.mpr g.2⟩
theorem map_getD (xs : List D) : ((List.range xs.length).map fun k => xs.getD k .none) = xs := by
  refine List.ext_getElem (by simp) fun i h1 h2 => ?_
  simp [List.getD_eq_getElem?_getD, List.getElem?_eq_getElem h2]
theorem max_2 (i j : Int) : biD .max [.int i, .int j] = some (.int (if j > i then j else i)) := rfl
theorem cut_takeI (xs : List D) {e : Int} (he : 0 ≤ e) : cutL xs none (some e) = xs.take e.toNat := by
  have := cut_take xs e.toNat
  rw [show ((e.toNat : Nat) : Int) = e by omega] at this
  exact this
def lpE (m : Int) (base os : List D) (u1 u2 u5 u7 u8 u9 u10 : Option D) : Env := [some (.dict []), u1, u2, some (.int m), some (.list base), u5, some (.list os), u7, u8, u9, u10]
theorem t_voter {t : Nat} (ht : 1 ≤ t) (u1 u2 u5 u7 u8 u9 u10 : Option D) {m : Int} {base os : List D} (hm : 1 ≤ m) (hm4 : m ≤ 5) (hb : gO m base) (hbl : (base.length : Int) = m) (hol : os.length ≤ 10) (Q : Fl → Env → Prop)
    (h : ∀ o u5 u8 u9 u10, gD m o → Q .next (lpE m base (os ++ [o]) u1 u2 u5 u7 u8 u9 u10)) :
    wS (Run T 2000 t) 2000 l__law_profile_2 (lpE m base os u1 u2 u5 u7 u8 u9 u10) Q nox := by
  unfold lpE at h ⊢
  unfold l__law_profile_2
  have e6 : ∀ xs : List D, biD .list [.list xs] = some (.list xs) := fun _ => rfl
  simp only [wS, wE, wA, wO, wI, seqK_next, seqK_ret, fnK_ret, fnK_next, oP_some, oP_none, bP_bool, List.map_cons, List.map_nil, List.length_cons, List.length_nil, List.reduceReplicate, List.cons_append, List.nil_append, List.getD_cons_zero, List.getD_cons_succ, List.set_cons_zero, List.set_cons_succ, Nat.reduceAdd, Nat.reduceSub, Nat.zero_add, bindT_nm, bindT_tup, bindTs_nil, bindTs_cons, Option.bind_some, tgSlots, wipeE, List.append_nil, Bool.not_true, Bool.not_false, Bool.false_eq_true, if_true, if_false, reduceIte, Bool.or_true, Bool.or_false, Bool.true_or, Bool.false_or, true_and, and_true, e6]
  refine Run.imp (s_take ht (by decide) (by decide)) (fun x ⟨j, e, h0, h1⟩ => ?_) (fun _ h => h)
  subst e
  rw [rg1 (by omega) (by omega)]
  simp only [oP_some]
  refine l_move ht _ _ _ _ _ _ _ _ (N := base.length) (by omega) (by omega) _ base _ _ hb rfl fun xs u5 u9 g hl => ?_
  simp only [wS, wE, wA, wO, wI, seqK_next, seqK_ret, fnK_ret, fnK_next, oP_some, oP_none, bP_bool, List.map_cons, List.map_nil, List.length_cons, List.length_nil, List.reduceReplicate, List.cons_append, List.nil_append, List.getD_cons_zero, List.getD_cons_succ, List.set_cons_zero, List.set_cons_succ, Nat.reduceAdd, Nat.reduceSub, Nat.zero_add, bindT_nm, bindT_tup, bindTs_nil, bindTs_cons, Option.bind_some, tgSlots, wipeE, List.append_nil, Bool.not_true, Bool.not_false, Bool.false_eq_true, if_true, if_false, reduceIte, Bool.or_true, Bool.or_false, Bool.true_or, Bool.false_or, true_and, and_true]
  refine Run.imp (s_take ht (by decide) (by decide)) (fun x ⟨j2, e, h02, h12⟩ => ?_) (fun _ h => h)
  subst e
  -- the end: cut and put behind
  have fin : ∀ (ys : List D) (u9 u10 : Option D), gO m ys → 1 ≤ ys.length → ys.length ≤ 10 → Run T 2000 t f_law_take [.dict [], .int 4] (fun y =>
      oP (ixD (.list [.int 0, .int 0, .int 1, .int 3]) y) fun y => oP (binD .sub (.int (ys.length : Nat)) y) fun z => oP (biD .max [.int 1, z]) fun x => oP (endD x) fun a => oP (slD (.list ys) none (some a)) fun x => oP (biD .tuple [x]) fun y => os.length < LIM ∧ Q .next [some (.dict []), u1, u2, some (.int m), some (.list base), u5, some (.list (os ++ [y])), u7, some (.list ys), u9, u10]) nox := fun ys u9 u10 gy l1 l2 => by
    refine Run.imp (s_take ht (by decide) (by decide)) (fun x ⟨j3, e, h03, h13⟩ => ?_) (fun _ h => h)
    subst e
    refine ix_any h03 (by simp; omega) fun y hy => ?_
    have hy' : ∃ z : Int, y = .int z := by
      simp only [List.mem_cons, List.not_mem_nil, or_false] at hy
      rcases hy with rfl | rfl | rfl | rfl <;> exact ⟨_, rfl⟩
    obtain ⟨z, rfl⟩ := hy'
    simp only [binD, oP_some, max_2, endD]
    generalize he : (if (ys.length : Int) - z > 1 then (ys.length : Int) - z else 1) = e
    have he1 : 1 ≤ e := by rw [← he]; split <;> omega
    have sl : slD (.list ys) none (some e) = some (.list (ys.take e.toNat)) := by
      show some (PyData.list (cutL ys none (some e))) = _
      rw [cut_takeI ys (by omega)]
    rw [sl]
    simp only [oP_some, e_tup]
    refine ⟨by show _ < 1000000; omega, h _ _ _ _ _ ⟨_, rfl, gy.sub (List.take_sublist _ _), ?_⟩⟩
    rw [List.length_take]
    omega
  simp only [cmp_eq_int, oP_some]
  by_cases h4 : j2 = 0
  · simp only [h4, decide_true, if_true, len_lst, oP_some]
    rw [rg1 (by omega) (by omega)]
    simp only [oP_some]
    refine ⟨by rw [List.length_map, List.length_range]; show _ ≤ 1000000; omega, ?_⟩
    have ei : ((xs.length : Nat) : Int).toNat = xs.length := by omega
    rw [ei]
    refine (wC_fil (c := fun k : Nat => decide (k + 1 < xs.length) || decide (k = 0)) (g := fun k : Nat => xs.getD k .none) (fun k hk P => ?_) _).mpr ?_
    · have hk : k < xs.length := List.mem_range.mp hk
      have d1 : decide (((k : Nat) : Int) + 1 < (xs.length : Nat)) = decide (k + 1 < xs.length) := decide_eq_decide.mpr (by omega)
      have d2 : decide (((k : Nat) : Int) = 0) = decide (k = 0) := decide_eq_decide.mpr (by omega)
      have eg : ixD (.list xs) (.int (k : Nat)) = some (xs.getD k .none) := by
        rw [ix_lst, atI_nat hk, List.getD_eq_getElem?_getD, List.getElem?_eq_getElem hk]
        rfl
      simp only [binD, oP_some, cmp_lt, cmp_eq_int, d1, d2, eg]
      cases decide (k + 1 < xs.length) with
      | true => simp only [if_true, Bool.true_or]
      | false =>
        simp only [Bool.false_eq_true, if_false, Bool.false_or]
        exact ifP _ _ _
    · generalize hys : ((List.range xs.length).filter fun k : Nat => decide (k + 1 < xs.length) || decide (k = 0)).map (fun k : Nat => xs.getD k .none) = ys
      have hsub : ys.Sublist xs := by
        rw [← hys]
        have := (List.filter_sublist (p := fun k : Nat => decide (k + 1 < xs.length) || decide (k = 0)) (l := List.range xs.length)).map (fun k : Nat => xs.getD k .none)
        rw [map_getD] at this
        exact this
      have hne : 1 ≤ ys.length := by
        rw [← hys, List.length_map]
        refine List.length_pos_iff.mpr fun e => ?_
        have : 0 ∈ (List.range xs.length).filter fun k : Nat => decide (k + 1 < xs.length) || decide (k = 0) := List.mem_filter.mpr ⟨List.mem_range.mpr (by omega), by simp⟩
        rw [e] at this
        cases this
      have hle := hsub.length_le
      simp only [wS, wE, wA, wO, wI, seqK_next, seqK_ret, fnK_ret, fnK_next, oP_some, oP_none, bP_bool, List.map_cons, List.map_nil, List.length_cons, List.length_nil, List.reduceReplicate, List.cons_append, List.nil_append, List.getD_cons_zero, List.getD_cons_succ, List.set_cons_zero, List.set_cons_succ, Nat.reduceAdd, Nat.reduceSub, Nat.zero_add, bindT_nm, bindT_tup, bindTs_nil, bindTs_cons, Option.bind_some, tgSlots, wipeE, List.append_nil, Bool.not_true, Bool.not_false, Bool.false_eq_true, if_true, if_false, reduceIte, Bool.or_true, Bool.or_false, Bool.true_or, Bool.false_or, true_and, and_true, len_lst, getL]
      exact fin ys _ _ (g.sub hsub) hne (by omega)
  · simp only [h4, decide_false, Bool.false_eq_true, if_false]
    simp only [wS, wE, wA, wO, wI, seqK_next, seqK_ret, fnK_ret, fnK_next, oP_some, oP_none, bP_bool, List.map_cons, List.map_nil, List.length_cons, List.length_nil, List.reduceReplicate, List.cons_append, List.nil_append, List.getD_cons_zero, List.getD_cons_succ, List.set_cons_zero, List.set_cons_succ, Nat.reduceAdd, Nat.reduceSub, Nat.zero_add, bindT_nm, bindT_tup, bindTs_nil, bindTs_cons, Option.bind_some, tgSlots, wipeE, List.append_nil, Bool.not_true, Bool.not_false, Bool.false_eq_true, if_true, if_false, reduceIte, Bool.or_true, Bool.or_false, Bool.true_or, Bool.false_or, true_and, and_true, len_lst, getL]
    exact fin xs _ _ g (by omega) (by omega)
end EV.Law
end

section
set_option Elab.async false
set_option linter.all false
set_option autoImplicit false
set_option maxRecDepth 100000
set_option maxHeartbeats 4000000
namespace EV.Law
open PySem EV
theorem l_voters {t : Nat} (ht : 1 ≤ t) (u1 u2 : Option D) {m : Int} {base : List D} (hm : 1 ≤ m) (hm4 : m ≤ 5) (hb : gO m base) (hbl : (base.length : Int) = m) (Q : Fl → Env → Prop) : ∀ (L : List D) (os : List D) (u5 u7 u8 u9 u10 : Option D), os.length + L.length ≤ 10 → (∀ o ∈ os, gD m o) →
    (∀ os' u5 u7 u8 u9 u10, (∀ o ∈ os', gD m o) → os'.length = os.length + L.length → Q .next (lpE m base os' u1 u2 u5 u7 u8 u9 u10)) →
    wL (fun x ρ Q => wS (Run T 2000 t) 2000 l__law_profile_2 (ρ.set 7 (some x)) Q nox) L (lpE m base os u1 u2 u5 u7 u8 u9 u10) Q
  | [], os, u5, u7, u8, u9, u10, _, g, h => h os u5 u7 u8 u9 u10 g rfl
  | d :: L, os, u5, u7, u8, u9, u10, hl, g, h => by
    simp only [List.length_cons] at hl
    unfold wL
    rw [show (lpE m base os u1 u2 u5 u7 u8 u9 u10).set 7 (some d) = lpE m base os u1 u2 u5 (some d) u8 u9 u10 from rfl]
    refine t_voter ht u1 u2 u5 _ u8 u9 u10 hm hm4 hb hbl (by omega) _ fun o u5 u8 u9 u10 go => ?_
    refine l_voters ht u1 u2 hm hm4 hb hbl Q L _ _ _ _ _ _ (by rw [List.length_append]; simp only [List.length_cons, List.length_nil]; omega) (fun o' ho' => ?_) fun os' u5 u7 u8 u9 u10 g' hl' => ?_
    · rcases List.mem_append.mp ho' with h1 | h1
      · exact g o' h1
      · rw [List.mem_singleton.mp h1]; exact go
    · refine h os' u5 u7 u8 u9 u10 g' ?_
      rw [hl', List.length_append, List.length_cons, List.length_cons, List.length_nil]
      omega
theorem s_lprofile {n : Nat} (hn : 2 ≤ n) : Run T 2000 n f_law_profile [.dict [], .int 5, .int 7] (fun d => ∃ m k os, d = prD m k os ∧ 1 ≤ m ∧ m ≤ 5 ∧ 1 ≤ k ∧ k ≤ m ∧ (∀ o ∈ os, gD m o) ∧ 1 ≤ os.length ∧ os.length ≤ 7) nox := by
  obtain ⟨t, rfl⟩ : ∃ t, n = t + 1 := ⟨n - 1, by omega⟩
  have ht : 1 ≤ t := by omega
  refine run_of (fi := i__law_profile) rfl rfl ?_
  simp only [i__law_profile, b__law_profile]
  simp only [wS, wE, wA, wO, wI, seqK_next, seqK_ret, fnK_ret, fnK_next, oP_some, oP_none, bP_bool, List.map_cons, List.map_nil, List.length_cons, List.length_nil, List.reduceReplicate, List.cons_append, List.nil_append, List.getD_cons_zero, List.getD_cons_succ, List.set_cons_zero, List.set_cons_succ, Nat.reduceAdd, Nat.reduceSub, Nat.zero_add, bindT_nm, bindT_tup, bindTs_nil, bindTs_cons, Option.bind_some, tgSlots, wipeE, List.append_nil, Bool.not_true, Bool.not_false, Bool.false_eq_true, if_true, if_false, reduceIte, Bool.or_true, Bool.or_false, Bool.true_or, Bool.false_or, true_and, and_true]
  refine Run.imp (s_take ht (by decide) (by decide)) (fun x ⟨j, e, h0, h1⟩ => ?_) (fun _ h => h)
  subst e
  have ea : binD .add (.int 1) (.int j) = some (.int (1 + j)) := rfl
  rw [ea]
  simp only [wS, wE, wA, wO, wI, seqK_next, seqK_ret, fnK_ret, fnK_next, oP_some, oP_none, bP_bool, List.map_cons, List.map_nil, List.length_cons, List.length_nil, List.reduceReplicate, List.cons_append, List.nil_append, List.getD_cons_zero, List.getD_cons_succ, List.set_cons_zero, List.set_cons_succ, Nat.reduceAdd, Nat.reduceSub, Nat.zero_add, bindT_nm, bindT_tup, bindTs_nil, bindTs_cons, Option.bind_some, tgSlots, wipeE, List.append_nil, Bool.not_true, Bool.not_false, Bool.false_eq_true, if_true, if_false, reduceIte, Bool.or_true, Bool.or_false, Bool.true_or, Bool.false_or, true_and, and_true]
  rw [rg1 (by omega) (by omega), List.range_eq_range']
  simp only [oP_some]
  refine l_base ht _ _ _ _ _ _ _ _ _ (1 + j).toNat 0 [] _ (by omega) ⟨rfl, by simp⟩ rfl fun base u5 gb hbl => ?_
  rw [Nat.zero_add] at gb hbl
  rw [show (((1 + j).toNat : Nat) : Int) = 1 + j by omega] at gb
  simp only [wS, wE, wA, wO, wI, seqK_next, seqK_ret, fnK_ret, fnK_next, oP_some, oP_none, bP_bool, List.map_cons, List.map_nil, List.length_cons, List.length_nil, List.reduceReplicate, List.cons_append, List.nil_append, List.getD_cons_zero, List.getD_cons_succ, List.set_cons_zero, List.set_cons_succ, Nat.reduceAdd, Nat.reduceSub, Nat.zero_add, bindT_nm, bindT_tup, bindTs_nil, bindTs_cons, Option.bind_some, tgSlots, wipeE, List.append_nil, Bool.not_true, Bool.not_false, Bool.false_eq_true, if_true, if_false, reduceIte, Bool.or_true, Bool.or_false, Bool.true_or, Bool.false_or, true_and, and_true]
  refine Run.imp (s_take ht (by decide) (by decide)) (fun x ⟨v, e, v0, v1⟩ => ?_) (fun _ h => h)
  subst e
  have eb : binD .add (.int 1) (.int v) = some (.int (1 + v)) := rfl
  rw [eb]
  simp only [oP_some]
  rw [rg1 (by omega) (by omega)]
  simp only [oP_some]
  refine l_voters ht _ _ (m := 1 + j) (base := base) (by omega) (by omega) gb (by omega) _ _ [] _ _ _ _ _ (by rw [List.length_map, List.length_range]; simp only [List.length_nil]; omega) (fun o ho => by cases ho) fun os u5 u7 u8 u9 u10 go hol => ?_
  rw [List.length_map, List.length_range, List.length_nil] at hol
  unfold lpE
  simp only [wS, wE, wA, wO, wI, seqK_next, seqK_ret, fnK_ret, fnK_next, oP_some, oP_none, bP_bool, List.map_cons, List.map_nil, List.length_cons, List.length_nil, List.reduceReplicate, List.cons_append, List.nil_append, List.getD_cons_zero, List.getD_cons_succ, List.set_cons_zero, List.set_cons_succ, Nat.reduceAdd, Nat.reduceSub, Nat.zero_add, bindT_nm, bindT_tup, bindTs_nil, bindTs_cons, Option.bind_some, tgSlots, wipeE, List.append_nil, Bool.not_true, Bool.not_false, Bool.false_eq_true, if_true, if_false, reduceIte, Bool.or_true, Bool.or_false, Bool.true_or, Bool.false_or, true_and, and_true, e_tup]
  refine Run.imp (s_take ht (by omega) (by omega)) (fun x ⟨q, e, q0, q1⟩ => ?_) (fun _ h => h)
  subst e
  have ec : binD .add (.int 1) (.int q) = some (.int (1 + q)) := rfl
  rw [ec]
  simp only [oP_some]
  exact ⟨1 + j, 1 + q, os, rfl, by omega, by omega, by omega, by omega, go, by omega, by omega⟩
/-! ### drawn committees -/
theorem l_row {t : Nat} (ht : 1 ≤ t) (u1 : Option D) (Q : Fl → Env → Prop) : ∀ (d v : Nat) (xs : List D) (u3 : Option D), v + d ≤ 100 → gO (v : Nat) xs → xs.length = v →
    (∀ xs u3, gO ((v + d : Nat) : Int) xs → xs.length = v + d → Q .next [some (.dict []), u1, some (.list xs), u3]) →
    wL (fun x ρ Q => wS (Run T 2000 t) 2000 l__law_committee_1 (ρ.set 3 (some x)) Q nox) ((List.range' v d).map fun v => .int (v : Nat)) [some (.dict []), u1, some (.list xs), u3] Q
  | 0, v, xs, u3, _, g, hl, h => h xs u3 g hl
  | d + 1, v, xs, u3, hd, g, hl, h => by
    have turn : ∀ Q' : Fl → Env → Prop, (∀ xs', gO ((v + 1 : Nat) : Int) xs' → xs'.length = v + 1 → Q' .next [some (.dict []), u1, some (.list xs'), some (.int (v : Nat))]) → wS (Run T 2000 t) 2000 l__law_committee_1 [some (.dict []), u1, some (.list xs), some (.int (v : Nat))] Q' nox := fun Q' hq => by
      unfold l__law_committee_1
      simp only [wS, wE, wA, wO, wI, seqK_next, seqK_ret, fnK_ret, fnK_next, oP_some, oP_none, bP_bool, List.map_cons, List.map_nil, List.length_cons, List.length_nil, List.reduceReplicate, List.cons_append, List.nil_append, List.getD_cons_zero, List.getD_cons_succ, List.set_cons_zero, List.set_cons_succ, Nat.reduceAdd, Nat.reduceSub, Nat.zero_add, bindT_nm, bindT_tup, bindTs_nil, bindTs_cons, Option.bind_some, tgSlots, wipeE, List.append_nil, Bool.not_true, Bool.not_false, Bool.false_eq_true, if_true, if_false, reduceIte, Bool.or_true, Bool.or_false, Bool.true_or, Bool.false_or, true_and, and_true, getL, len_lst, binD]
      refine Run.imp (s_take ht (by omega) (by omega)) (fun x ⟨j, e, h0, h1⟩ => ?_) (fun _ h => h)
      subst e
      simp only [endD, oP_some]
      refine ⟨⟨h0, by show _ ≤ 1000000; omega, by show _ < 1000000; omega⟩, ?_⟩
      have p := ins_perm xs j.toNat (.int (v : Nat))
      exact hq _ (g.cons.perm p) (by rw [p.length_eq, List.length_cons, hl])
    rw [List.range'_succ, List.map_cons]
    unfold wL
    simp only [List.set_cons_zero, List.set_cons_succ]
    refine turn _ fun xs' g' hl' => ?_
    refine l_row ht u1 Q d (v + 1) xs' _ (by omega) g' hl' fun xs u3 g hl => ?_
    rw [show v + 1 + d = v + (d + 1) by omega] at g hl
    exact h xs u3 g hl
theorem s_lcommittee {n : Nat} (hn : 2 ≤ n) {m k : Int} {os : List D} (m1 : 1 ≤ m) (m4 : m ≤ 5) (k1 : 1 ≤ k) (km : k ≤ m) (ho : ∀ o ∈ os, gD m o) (o1 : 1 ≤ os.length) (o6 : os.length ≤ 7) : Run T 2000 n f_law_committee [.dict [], prD m k os] (fun d => ∃ cms, d = coD cms ∧ CT m k os cms) nox := by
  obtain ⟨t, rfl⟩ : ∃ t, n = t + 1 := ⟨n - 1, by omega⟩
  have ht : 1 ≤ t := by omega
  refine run_of (fi := i__law_committee) rfl rfl ?_
  simp only [i__law_committee, b__law_committee, prD]
  simp only [wS, wE, wA, wO, wI, seqK_next, seqK_ret, fnK_ret, fnK_next, oP_some, oP_none, bP_bool, List.map_cons, List.map_nil, List.length_cons, List.length_nil, List.reduceReplicate, List.cons_append, List.nil_append, List.getD_cons_zero, List.getD_cons_succ, List.set_cons_zero, List.set_cons_succ, Nat.reduceAdd, Nat.reduceSub, Nat.zero_add, bindT_nm, bindT_tup, bindTs_nil, bindTs_cons, Option.bind_some, tgSlots, wipeE, List.append_nil, Bool.not_true, Bool.not_false, Bool.false_eq_true, if_true, if_false, reduceIte, Bool.or_true, Bool.or_false, Bool.true_or, Bool.false_or, true_and, and_true, ix_tup, at_c0]
  rw [rg1 (by omega) (by omega), List.range_eq_range']
  simp only [oP_some]
  refine l_row ht _ _ m.toNat 0 [] _ (by omega) ⟨rfl, by simp⟩ rfl fun xs u3 g hl => ?_
  rw [Nat.zero_add] at g hl
  rw [show ((m.toNat : Nat) : Int) = m by omega] at g
  have sl : slD (.list xs) none (some k) = some (.list (xs.take k.toNat)) := by
    show some (PyData.list (cutL xs none (some k))) = _
    rw [cut_takeI xs (by omega)]
  have gt := g.sub (List.take_sublist k.toNat xs)
  have hlen : (xs.take k.toNat).length = k.toNat := by rw [List.length_take]; omega
  have e : xs.take k.toNat = ((xs.take k.toNat).map vI).map PyData.int := by
    rw [List.map_map]
    refine (List.map_id _).symm.trans (List.map_congr_left fun c hc => ?_)
    exact whole_int (List.all_eq_true.mp (inR_all gt.1) c hc)
  generalize hns : (xs.take k.toNat).map vI = ns at e
  rw [e] at sl
  have hn1 : ns.length = k.toNat := by rw [← hns, List.length_map, hlen]
  simp only [wS, wE, wA, wO, wI, seqK_next, seqK_ret, fnK_ret, fnK_next, oP_some, oP_none, bP_bool, List.map_cons, List.map_nil, List.length_cons, List.length_nil, List.reduceReplicate, List.cons_append, List.nil_append, List.getD_cons_zero, List.getD_cons_succ, List.set_cons_zero, List.set_cons_succ, Nat.reduceAdd, Nat.reduceSub, Nat.zero_add, bindT_nm, bindT_tup, bindTs_nil, bindTs_cons, Option.bind_some, tgSlots, wipeE, List.append_nil, Bool.not_true, Bool.not_false, Bool.false_eq_true, if_true, if_false, reduceIte, Bool.or_true, Bool.or_false, Bool.true_or, Bool.false_or, true_and, and_true, ix_tup, at_c2, endD, sl, sorted_L ns (by omega), e_tup]
  refine ⟨srtI ns, rfl, fun o h => (ho o h).ord, m1, by omega, k1, km, o1, by omega, ?_, fun c hc => ?_, ?_⟩
  · rw [(srtI_perm ns).length_eq]; omega
  · have hc := (srtI_perm ns).mem_iff.mp hc
    rw [← hns] at hc
    obtain ⟨x, hx, rfl⟩ := List.mem_map.mp hc
    exact inR_b (List.all_eq_true.mp gt.1 x hx)
  · refine lt_of_le_nodup (srtI_le ns) ((srtI_perm ns).nodup_iff.mpr ?_)
    rw [← hns]
    exact gt.2
end EV.Law
end

section
set_option Elab.async false
set_option linter.all false
set_option autoImplicit false
set_option maxRecDepth 100000
set_option maxHeartbeats 1000000
namespace EV.Law
open PySem EV
/-! ### how calls end -/
theorem s_word {n : Nat} (hn : 1 ≤ n) {d : D} (h : Run T 2000 (n - 1) f_law_call [d] (fun _ => False) malx) (P : D → Prop) (X : XP) : Run T 2000 n f_law_word [d] P X ↔ P (.str "malformed") := by
  obtain ⟨m, rfl⟩ : ∃ m, n = m + 1 := ⟨n - 1, by omega⟩
  refine Run.val (run_of (fi := i__law_word) rfl rfl ?_) P X
  simp only [i__law_word, b__law_word]
  simp only [wS, wE, wA, wO, wI, seqK_next, seqK_ret, fnK_ret, fnK_next, oP_some, oP_none, bP_bool, List.map_cons, List.map_nil, List.length_cons, List.length_nil, List.reduceReplicate, List.cons_append, List.nil_append, List.getD_cons_zero, List.getD_cons_succ, List.set_cons_zero, List.set_cons_succ, Nat.reduceAdd, Nat.reduceSub, Nat.zero_add, bindT_nm, bindT_tup, bindTs_nil, bindTs_cons, Option.bind_some, tgSlots, wipeE, List.append_nil, Bool.not_true, Bool.not_false, Bool.false_eq_true, if_true, if_false, reduceIte, Bool.or_true, Bool.or_false, Bool.true_or, Bool.false_or, true_and, and_true]
  exact Run.imp h (fun d e => e.elim) fun x h => by
    cases x with
    | mal => trivial
    | refu _ => exact h.elim
theorem s_wordR {n : Nat} (hn : 1 ≤ n) {d : D} {r : Str} (h : Run T 2000 (n - 1) f_law_call [d] (fun _ => False) (fun x => x = .refu r)) (P : D → Prop) (X : XP) : Run T 2000 n f_law_word [d] P X ↔ P (.str r) := by
  obtain ⟨m, rfl⟩ : ∃ m, n = m + 1 := ⟨n - 1, by omega⟩
  refine Run.val (run_of (fi := i__law_word) rfl rfl ?_) P X
  simp only [i__law_word, b__law_word]
  simp only [wS, wE, wA, wO, wI, seqK_next, seqK_ret, fnK_ret, fnK_next, oP_some, oP_none, bP_bool, List.map_cons, List.map_nil, List.length_cons, List.length_nil, List.reduceReplicate, List.cons_append, List.nil_append, List.getD_cons_zero, List.getD_cons_succ, List.set_cons_zero, List.set_cons_succ, Nat.reduceAdd, Nat.reduceSub, Nat.zero_add, bindT_nm, bindT_tup, bindTs_nil, bindTs_cons, Option.bind_some, tgSlots, wipeE, List.append_nil, Bool.not_true, Bool.not_false, Bool.false_eq_true, if_true, if_false, reduceIte, Bool.or_true, Bool.or_false, Bool.true_or, Bool.false_or, true_and, and_true]
  exact Run.imp h (fun d e => e.elim) fun x h => by
    cases h
    rfl
theorem len_tup3 (m k : Int) (os : List D) : biD .len [.tuple os] = some (.int (os.length : Nat)) := rfl
theorem s_quota {n : Nat} (hn : 5 ≤ n) {m k : Int} {os : List D} (hp : fine (prD m k os) = true) (h : isProfile (prD m k os) = true) (hk : 1 ≤ k) (hk8 : k ≤ 100) (P : D → Prop) (X : XP) : Run T 2000 n fquota_of [prD m k os] P X ↔ P (.int ((os.length : Int) / (k + 1) + 1)) := by
  obtain ⟨t, rfl⟩ : ∃ t, n = t + 1 := ⟨n - 1, by omega⟩
  refine Run.val (run_of (fi := i_quota_of) rfl rfl ?_) P X
  simp only [i_quota_of, b_quota_of]
  simp only [wS, wE, wA, wO, wI, seqK_next, seqK_ret, fnK_ret, fnK_next, oP_some, oP_none, bP_bool, List.map_cons, List.map_nil, List.length_cons, List.length_nil, List.reduceReplicate, List.cons_append, List.nil_append, List.getD_cons_zero, List.getD_cons_succ, List.set_cons_zero, List.set_cons_succ, Nat.reduceAdd, Nat.reduceSub, Nat.zero_add, bindT_nm, bindT_tup, bindTs_nil, bindTs_cons, Option.bind_some, tgSlots, wipeE, List.append_nil, Bool.not_true, Bool.not_false, Bool.false_eq_true, if_true, if_false, reduceIte, Bool.or_true, Bool.or_false, Bool.true_or, Bool.false_or, true_and, and_true]
  rw [s_check_profile (by omega) hp h]
  unfold prD
  have e1 : binD .add (.int k) (.int 1) = some (.int (k + 1)) := rfl
  have e2 : binD .fdiv (.int (os.length : Nat)) (.int (k + 1)) = some (.int ((os.length : Int) / (k + 1))) := if_pos (by
    unfold fitsDiv
    rw [Bool.and_eq_true, Bool.or_eq_true]
    exact ⟨decide_eq_true (by omega), .inl (decide_eq_true (by omega))⟩)
  simp only [wS, wE, wA, wO, wI, seqK_next, seqK_ret, fnK_ret, fnK_next, oP_some, oP_none, bP_bool, List.map_cons, List.map_nil, List.length_cons, List.length_nil, List.reduceReplicate, List.cons_append, List.nil_append, List.getD_cons_zero, List.getD_cons_succ, List.set_cons_zero, List.set_cons_succ, Nat.reduceAdd, Nat.reduceSub, Nat.zero_add, bindT_nm, bindT_tup, bindTs_nil, bindTs_cons, Option.bind_some, tgSlots, wipeE, List.append_nil, Bool.not_true, Bool.not_false, Bool.false_eq_true, if_true, if_false, reduceIte, Bool.or_true, Bool.or_false, Bool.true_or, Bool.false_or, true_and, and_true, ix_tup, at_c1, at_c2, len_tup, e1, e2]
  rfl
end EV.Law
end

section
set_option Elab.async false
set_option linter.all false
set_option autoImplicit false
set_option maxRecDepth 100000
set_option maxHeartbeats 1000000
namespace EV.Law
open PySem EV
theorem wC_filI {α : Type} {f : D → (Option D → Prop) → Prop} {enc : α → D} {c : α → Bool} {g : α → D} : ∀ {xs : List α}, (∀ x ∈ xs, ∀ P : Option D → Prop, P (if c x = true then some (g x) else none) → f (enc x) P) → ∀ P : List D → Prop, P ((xs.filter c).map g) → wC f (xs.map enc) P
  | [], _, P, h => h
  | x :: xs, hf, P, h => by
    rw [List.map_cons]
    unfold wC
    refine hf x List.mem_cons_self _ ?_
    rw [List.filter_cons] at h
    by_cases hc : c x = true
    · rw [if_pos hc] at h ⊢
      exact wC_filI (fun y hy => hf y (List.mem_cons_of_mem _ hy)) _ h
    · rw [if_neg hc] at h ⊢
      exact wC_filI (fun y hy => hf y (List.mem_cons_of_mem _ hy)) _ h
theorem W8_R : W8 = (List.range 8).map wW := by decide +kernel
theorem fn6_int {i : Int} (h : i ≤ 6) : fn6 (.int i) = true := by simp only [fn6, fine, nb, Bool.true_and, decide_eq_true_eq]; exact h
section
variable {m k : Int} {os : List D} {cms : List Int} (c : CT m k os cms)
include c
theorem fR : fn6 (prD m k os) = true := by
  have a1 := c.m1
  have a2 := c.m6
  have a4 := c.km
  have a5 := c.ol
  refine fn6_tup (by simp) fun d hd => ?_
  simp only [List.mem_cons, List.not_mem_nil, or_false] at hd
  rcases hd with rfl | rfl | rfl
  · exact fn6_int (by omega)
  · refine fn6_tup (by omega) fun o ho => ?_
    obtain ⟨cs, rfl, h1, h2, h3, h4⟩ := order_of (c.ho o ho)
    have hl := ord_len (by omega) h2 h3
    refine fn6_tup (by omega) fun x hx => ?_
    have h5 := List.all_eq_true.mp h2 x hx
    rw [whole_int (inR_whole h5)]
    have := inR_b h5
    exact fn6_int (by omega)
  · exact fn6_int (by omega)
theorem fP : fn6 (coD cms) = true := by
  have a2 := c.m6
  have a4 := c.km
  have a5 := c.cl
  refine fn6_tup (by rw [List.length_map]; omega) fun d hd => ?_
  obtain ⟨x, hx, rfl⟩ := List.mem_map.mp hd
  have := c.ci x hx
  exact fn6_int (by omega)
theorem s_wobj {n : Nat} (hn : 6 ≤ n) {i : Nat} (hi : i < 8) {P : D → Prop} {X : XP} (h1 : kpw m k os cms i = true → P .none) (h2 : kpw m k os cms i = false → ∀ d, objD m k os cms i d → P d) : Run T 2000 n fwish_objection [prD m k os, coD cms, .str (wW i)] P X := by
  obtain ⟨t, rfl⟩ : ∃ t, n = t + 1 := ⟨n - 1, by omega⟩
  have a1 := c.m1
  have a2 := c.m6
  have a3 := c.k1
  have a4 := c.km
  have a5 := c.cl
  refine run_of (fi := i_wish_objection) rfl rfl ?_
  simp only [i_wish_objection, b_wish_objection]
  simp only [wS, wE, wA, wO, wI, seqK_next, seqK_ret, fnK_ret, fnK_next, oP_some, oP_none, bP_bool, List.map_cons, List.map_nil, List.length_cons, List.length_nil, List.reduceReplicate, List.cons_append, List.nil_append, List.getD_cons_zero, List.getD_cons_succ, List.set_cons_zero, List.set_cons_succ, Nat.reduceAdd, Nat.reduceSub, Nat.zero_add, bindT_nm, bindT_tup, bindTs_nil, bindTs_cons, Option.bind_some, tgSlots, wipeE, List.append_nil, Bool.not_true, Bool.not_false, Bool.false_eq_true, if_true, if_false, reduceIte, Bool.or_true, Bool.or_false, Bool.true_or, Bool.false_or, true_and, and_true]
  rw [s_check_seated (by omega) (fn6_f (fR c)) c.pr (fn6_f (fP c)) c.se]
  rw [s_check_word (by omega) (inW_wW hi)]
  exact s_found c.ho (by omega) (by omega) c.ol (by omega) (by omega) (by omega) (by omega) hi h1 h2
theorem s_notions {n : Nat} (hn : 6 ≤ n) (P : D → Prop) (X : XP) : Run T 2000 n fwish_notions [prD m k os, coD cms] P X ↔ P (.tuple (((List.range 8).filter fun i => kpw m k os cms i).map fun i => .str (wW i))) := by
  obtain ⟨t, rfl⟩ : ∃ t, n = t + 1 := ⟨n - 1, by omega⟩
  have a1 := c.m1
  have a2 := c.m6
  have a3 := c.k1
  have a4 := c.km
  have a5 := c.cl
  refine Run.val (run_of (fi := i_wish_notions) rfl rfl ?_) P X
  simp only [i_wish_notions, b_wish_notions, W8_D, W8_R, List.map_map]
  simp only [wS, wE, wA, wO, wI, seqK_next, seqK_ret, fnK_ret, fnK_next, oP_some, oP_none, bP_bool, List.map_cons, List.map_nil, List.length_cons, List.length_nil, List.reduceReplicate, List.cons_append, List.nil_append, List.getD_cons_zero, List.getD_cons_succ, List.set_cons_zero, List.set_cons_succ, Nat.reduceAdd, Nat.reduceSub, Nat.zero_add, bindT_nm, bindT_tup, bindTs_nil, bindTs_cons, Option.bind_some, tgSlots, wipeE, List.append_nil, Bool.not_true, Bool.not_false, Bool.false_eq_true, if_true, if_false, reduceIte, Bool.or_true, Bool.or_false, Bool.true_or, Bool.false_or, true_and, and_true]
  rw [s_check_seated (by omega) (fn6_f (fR c)) c.pr (fn6_f (fP c)) c.se]
  simp only [wS, wE, wA, wO, wI, seqK_next, seqK_ret, fnK_ret, fnK_next, oP_some, oP_none, bP_bool, List.map_cons, List.map_nil, List.length_cons, List.length_nil, List.reduceReplicate, List.cons_append, List.nil_append, List.getD_cons_zero, List.getD_cons_succ, List.set_cons_zero, List.set_cons_succ, Nat.reduceAdd, Nat.reduceSub, Nat.zero_add, bindT_nm, bindT_tup, bindTs_nil, bindTs_cons, Option.bind_some, tgSlots, wipeE, List.append_nil, Bool.not_true, Bool.not_false, Bool.false_eq_true, if_true, if_false, reduceIte, Bool.or_true, Bool.or_false, Bool.true_or, Bool.false_or, true_and, and_true, it_tup]
  refine ⟨by rw [List.length_map, List.length_range]; show _ ≤ 1000000; omega, ?_⟩
  refine wC_filI (enc := PyData.str ∘ wW) (c := fun i => kpw m k os cms i) (g := fun i => .str (wW i)) (fun i hi P hP => ?_) _ ?_
  · have hi8 := List.mem_range.mp hi
    refine s_found c.ho (by omega) (by omega) c.ol (by omega) (by omega) (by omega) (by omega) hi8 (fun e => ?_) fun e d hd => ?_
    · rw [if_pos e] at hP
      exact hP
    · rw [if_neg (by rw [e]; decide)] at hP
      have hn : cmpD .is_ d .none = some false := by
        rcases hd with ⟨_, c, _, rfl, _⟩ | ⟨_, g, _, q, _, rfl, _⟩ <;> rfl
      rw [hn]
      exact hP
  · simp only [wS, wE, wA, wO, wI, seqK_next, seqK_ret, fnK_ret, fnK_next, oP_some, oP_none, bP_bool, List.map_cons, List.map_nil, List.length_cons, List.length_nil, List.reduceReplicate, List.cons_append, List.nil_append, List.getD_cons_zero, List.getD_cons_succ, List.set_cons_zero, List.set_cons_succ, Nat.reduceAdd, Nat.reduceSub, Nat.zero_add, bindT_nm, bindT_tup, bindTs_nil, bindTs_cons, Option.bind_some, tgSlots, wipeE, List.append_nil, Bool.not_true, Bool.not_false, Bool.false_eq_true, if_true, if_false, reduceIte, Bool.or_true, Bool.or_false, Bool.true_or, Bool.false_or, true_and, and_true, e_tup]
end
end EV.Law
end

section
set_option Elab.async false
set_option linter.all false
set_option autoImplicit false
set_option maxRecDepth 100000
set_option maxHeartbeats 1000000
namespace EV.Law
open PySem EV
theorem r_wide {n : Nat} (hn : 5 ≤ n) {m k : Int} {os : List D} {i : Nat} (hi : i < 8) (hp : fine (prD m k os) = true) (h : isProfile (prD m k os) = true) (hm : 6 < m) : Run T 2000 n fwished_committees [prD m k os, .str (wW i)] (fun _ => False) (fun x => x = .refu "large") := by
  obtain ⟨t, rfl⟩ : ∃ t, n = t + 1 := ⟨n - 1, by omega⟩
  refine run_of (fi := i_wished_committees) rfl rfl ?_
  simp only [i_wished_committees, b_wished_committees]
  simp only [wS, wE, wA, wO, wI, seqK_next, seqK_ret, fnK_ret, fnK_next, oP_some, oP_none, bP_bool, List.map_cons, List.map_nil, List.length_cons, List.length_nil, List.reduceReplicate, List.cons_append, List.nil_append, List.getD_cons_zero, List.getD_cons_succ, List.set_cons_zero, List.set_cons_succ, Nat.reduceAdd, Nat.reduceSub, Nat.zero_add, bindT_nm, bindT_tup, bindTs_nil, bindTs_cons, Option.bind_some, tgSlots, wipeE, List.append_nil, Bool.not_true, Bool.not_false, Bool.false_eq_true, if_true, if_false, reduceIte, Bool.or_true, Bool.or_false, Bool.true_or, Bool.false_or, true_and, and_true]
  rw [s_check_profile (by omega) hp h]
  rw [s_check_word (by omega) (inW_wW hi)]
  unfold prD
  simp only [wS, wE, wA, wO, wI, seqK_next, seqK_ret, fnK_ret, fnK_next, oP_some, oP_none, bP_bool, List.map_cons, List.map_nil, List.length_cons, List.length_nil, List.reduceReplicate, List.cons_append, List.nil_append, List.getD_cons_zero, List.getD_cons_succ, List.set_cons_zero, List.set_cons_succ, Nat.reduceAdd, Nat.reduceSub, Nat.zero_add, bindT_nm, bindT_tup, bindTs_nil, bindTs_cons, Option.bind_some, tgSlots, wipeE, List.append_nil, Bool.not_true, Bool.not_false, Bool.false_eq_true, if_true, if_false, reduceIte, Bool.or_true, Bool.or_false, Bool.true_or, Bool.false_or, true_and, and_true, ix_tup, at_c0, cmp_gt]
  rw [decide_eq_true hm]
  simp only [wS, wE, wA, wO, wI, seqK_next, seqK_ret, fnK_ret, fnK_next, oP_some, oP_none, bP_bool, List.map_cons, List.map_nil, List.length_cons, List.length_nil, List.reduceReplicate, List.cons_append, List.nil_append, List.getD_cons_zero, List.getD_cons_succ, List.set_cons_zero, List.set_cons_succ, Nat.reduceAdd, Nat.reduceSub, Nat.zero_add, bindT_nm, bindT_tup, bindTs_nil, bindTs_cons, Option.bind_some, tgSlots, wipeE, List.append_nil, Bool.not_true, Bool.not_false, Bool.false_eq_true, if_true, if_false, reduceIte, Bool.or_true, Bool.or_false, Bool.true_or, Bool.false_or, true_and, and_true, strD]
end EV.Law
end

section
set_option Elab.async false
set_option linter.all false
set_option autoImplicit false
set_option maxRecDepth 100000
set_option maxHeartbeats 1000000
namespace EV.Law
open PySem EV
theorem s_wished {n : Nat} (hn : 6 ≤ n) {m k : Int} {os : List D} {i : Nat} (hi : i < 8) (hp : fine (prD m k os) = true) (h : isProfile (prD m k os) = true) (ho : ∀ o ∈ os, isOrder m o = true) (hm : 0 ≤ m) (hm6 : m ≤ 6) (hol : os.length ≤ 30) (hk0 : 0 ≤ k) (hk : k ≤ 1000) (P : D → Prop) (X : XP)
    {gs : List (List Nat)} (eg : grL m.toNat = gs.map encG) (hgs : ∀ g, g ∈ gs ↔ g ∈ (gL m.toNat).drop 1) (hgl : gs.length ≤ 100) :
    Run T 2000 n fwished_committees [prD m k os, .str (wW i)] P X ↔ P (.tuple (((gs.filter fun g => decide ((g.length : Int) = k)).filter fun g => kpw m k os (gI g) i).map encG)) := by
  obtain ⟨t, rfl⟩ : ∃ t, n = t + 1 := ⟨n - 1, by omega⟩
  refine Run.val (run_of (fi := i_wished_committees) rfl rfl ?_) P X
  simp only [i_wished_committees, b_wished_committees]
  simp only [wS, wE, wA, wO, wI, seqK_next, seqK_ret, fnK_ret, fnK_next, oP_some, oP_none, bP_bool, List.map_cons, List.map_nil, List.length_cons, List.length_nil, List.reduceReplicate, List.cons_append, List.nil_append, List.getD_cons_zero, List.getD_cons_succ, List.set_cons_zero, List.set_cons_succ, Nat.reduceAdd, Nat.reduceSub, Nat.zero_add, bindT_nm, bindT_tup, bindTs_nil, bindTs_cons, Option.bind_some, tgSlots, wipeE, List.append_nil, Bool.not_true, Bool.not_false, Bool.false_eq_true, if_true, if_false, reduceIte, Bool.or_true, Bool.or_false, Bool.true_or, Bool.false_or, true_and, and_true]
  rw [s_check_profile (by omega) hp h]
  rw [s_check_word (by omega) (inW_wW hi)]
  unfold prD
  simp only [wS, wE, wA, wO, wI, seqK_next, seqK_ret, fnK_ret, fnK_next, oP_some, oP_none, bP_bool, List.map_cons, List.map_nil, List.length_cons, List.length_nil, List.reduceReplicate, List.cons_append, List.nil_append, List.getD_cons_zero, List.getD_cons_succ, List.set_cons_zero, List.set_cons_succ, Nat.reduceAdd, Nat.reduceSub, Nat.zero_add, bindT_nm, bindT_tup, bindTs_nil, bindTs_cons, Option.bind_some, tgSlots, wipeE, List.append_nil, Bool.not_true, Bool.not_false, Bool.false_eq_true, if_true, if_false, reduceIte, Bool.or_true, Bool.or_false, Bool.true_or, Bool.false_or, true_and, and_true, ix_tup, at_c0, cmp_gt]
  have h6 : ¬ (6 : Int) < m := by omega
  rw [decide_eq_false h6]
  simp only [wS, wE, wA, wO, wI, seqK_next, seqK_ret, fnK_ret, fnK_next, oP_some, oP_none, bP_bool, List.map_cons, List.map_nil, List.length_cons, List.length_nil, List.reduceReplicate, List.cons_append, List.nil_append, List.getD_cons_zero, List.getD_cons_succ, List.set_cons_zero, List.set_cons_succ, Nat.reduceAdd, Nat.reduceSub, Nat.zero_add, bindT_nm, bindT_tup, bindTs_nil, bindTs_cons, Option.bind_some, tgSlots, wipeE, List.append_nil, Bool.not_true, Bool.not_false, Bool.false_eq_true, if_true, if_false, reduceIte, Bool.or_true, Bool.or_false, Bool.true_or, Bool.false_or, true_and, and_true, ix_tup, at_c0]
  rw [s_parts (by omega) hm hm6, eg]
  simp only [wS, wE, wA, wO, wI, seqK_next, seqK_ret, fnK_ret, fnK_next, oP_some, oP_none, bP_bool, List.map_cons, List.map_nil, List.length_cons, List.length_nil, List.reduceReplicate, List.cons_append, List.nil_append, List.getD_cons_zero, List.getD_cons_succ, List.set_cons_zero, List.set_cons_succ, Nat.reduceAdd, Nat.reduceSub, Nat.zero_add, bindT_nm, bindT_tup, bindTs_nil, bindTs_cons, Option.bind_some, tgSlots, wipeE, List.append_nil, Bool.not_true, Bool.not_false, Bool.false_eq_true, if_true, if_false, reduceIte, Bool.or_true, Bool.or_false, Bool.true_or, Bool.false_or, true_and, and_true, it_lst]
  refine ⟨by rw [List.length_map]; show _ ≤ 1000000; omega, ?_⟩
  refine (wC_fil (c := fun g : List Nat => decide ((g.length : Int) = k)) (g := encG) (fun g hg P => ?_) _).mpr ?_
  · have e : biD .len [encG g] = some (.int (g.length : Nat)) := by
      unfold encG
      rw [len_tup, List.length_map]
    rw [e]
    simp only [ix_tup, at_c2, cmp_eq_int, oP_some]
    exact ifP _ _ _
  · have hl := List.length_filter_le (fun g : List Nat => decide ((g.length : Int) = k)) gs
    refine ⟨by rw [List.length_map]; show _ ≤ 1000000; omega, ?_⟩
    refine wC_filI (c := fun g : List Nat => kpw m k os (gI g) i) (g := encG) (fun g hg P hP => ?_) _ ?_
    · have hg2 := (hgs g).mp (List.mem_filter.mp hg).1
      have hl2 := (gP_spec (by omega) hg2).2.2.1
      rw [encG_gI] at hP ⊢
      refine s_found ho hm hm6 hol (by omega) hk hk0 (by unfold gI; rw [List.length_map]; omega) hi (fun e => ?_) fun e d hd => ?_
      · rw [if_pos e] at hP
        exact hP
      · rw [if_neg (by rw [e]; decide)] at hP
        have hn : cmpD .is_ d .none = some false := by
          rcases hd with ⟨_, c, _, rfl, _⟩ | ⟨_, g, _, q, _, rfl, _⟩ <;> rfl
        rw [hn]
        exact hP
    · simp only [e_tup, oP_some]
end EV.Law
end

section
set_option Elab.async false
set_option linter.all false
set_option autoImplicit false
set_option maxRecDepth 100000
set_option maxHeartbeats 1000000
namespace EV.Law
open PySem EV
/-! ### parts -/
def isPart (w : Int) : D → Bool
  | .tuple cs => !cs.isEmpty && cs.all (inR w) && rising cs
  | _ => false
theorem rising_le {cs : List D} (hw : cs.all isWhole = true) (hr : rising cs = true) : ∀ (d i : Nat) (h : i + d < cs.length), vI cs[i] ≤ vI cs[i + d]
  | 0, i, h => Int.le_refl _
  | d + 1, i, h => by
    have h1 := rising_le hw hr d i (by omega)
    have h2 := (List.all_eq_true.mp hr) (i + d) (List.mem_range.mpr (by omega))
    unfold lt2 at h2
    rw [List.getElem?_eq_getElem (by omega : i + d < cs.length), List.getElem?_eq_getElem (by omega : i + d + 1 < cs.length)] at h2
    have e1 := whole_int ((List.all_eq_true.mp hw) cs[i + d] (List.getElem_mem _))
    have e2 := whole_int ((List.all_eq_true.mp hw) cs[i + d + 1] (List.getElem_mem _))
    rw [e1, e2] at h2
    have h2 : vI cs[i + d] < vI cs[i + d + 1] := of_decide_eq_true h2
    have e3 : cs[i + (d + 1)] = cs[i + d + 1] := rfl
    rw [e3]
    omega
theorem group_ends {cs : List D} {w : Int} (hw : cs.all isWhole = true) (hr : rising cs = true) (h0 : 0 < cs.length) : cs.all (inR w) = (decide ((0 : Int) ≤ vI cs[0]) && decide (vI cs[cs.length - 1] < w)) := by
  have inr : ∀ c, isWhole c = true → inR w c = (decide ((0 : Int) ≤ vI c) && decide (vI c < w)) := fun c hc => by cases c <;> simp [isWhole] at hc; rfl
  by_cases h : (decide ((0 : Int) ≤ vI cs[0]) && decide (vI cs[cs.length - 1] < w)) = true
  · rw [h]
    simp only [Bool.and_eq_true, decide_eq_true_eq] at h
    refine List.all_eq_true.mpr fun c hc => ?_
    rw [inr c ((List.all_eq_true.mp hw) c hc)]
    obtain ⟨i, hi, rfl⟩ := List.getElem_of_mem hc
    have h1 := rising_le hw hr i 0 (by omega)
    have h2 := rising_le hw hr (cs.length - 1 - i) i (by omega)
    have e2 : i + (cs.length - 1 - i) = cs.length - 1 := by omega
    simp only [Nat.zero_add, e2] at h1 h2
    simp only [Bool.and_eq_true, decide_eq_true_eq]
    omega
  · have h' : (decide ((0 : Int) ≤ vI cs[0]) && decide (vI cs[cs.length - 1] < w)) = false := by simpa using h
    rw [h']
    cases q : cs.all (inR w) with
    | false => rfl
    | true =>
      have h1 := (List.all_eq_true.mp q) cs[0] (List.getElem_mem _)
      have h2 := (List.all_eq_true.mp q) cs[cs.length - 1] (List.getElem_mem _)
      rw [inr _ ((List.all_eq_true.mp hw) _ (List.getElem_mem _))] at h1 h2
      rw [Bool.and_eq_true] at h1 h2
      exact absurd (by rw [h1.1, h2.2]; rfl) h
theorem s_is_part {n : Nat} (hn : 2 ≤ n) {w : Int} {y0 y1 v : D} (hv : fine v = true) (P : D → Prop) (X : XP) : Run T 2000 n fis_part [.tuple [.int w, y0, y1], v] P X ↔ P (.bool (isPart w v)) := by
  obtain ⟨m, rfl⟩ : ∃ m, n = m + 1 := ⟨n - 1, by omega⟩
  have hm : 1 ≤ m := by omega
  have hp := fine.pl hv
  refine Run.val (run_of (fi := i_is_part) rfl rfl ?_) P X
  simp only [i_is_part, b_is_part]
  cases v with
  | tuple cs =>
    obtain ⟨hl, hf⟩ := fine.tup hv
    simp only [wS, wE, wA, wO, wI, seqK_next, seqK_ret, fnK_ret, fnK_next, oP_some, oP_none, bP_bool, List.map_cons, List.map_nil, List.length_cons, List.length_nil, List.reduceReplicate, List.cons_append, List.nil_append, List.getD_cons_zero, List.getD_cons_succ, List.set_cons_zero, List.set_cons_succ, Nat.reduceAdd, Nat.reduceSub, Nat.zero_add, bindT_nm, bindT_tup, bindTs_nil, bindTs_cons, Option.bind_some, tgSlots, wipeE, List.append_nil, Bool.not_true, Bool.not_false, Bool.false_eq_true, if_true, if_false, reduceIte, Bool.or_true, Bool.or_false, Bool.true_or, Bool.false_or, true_and, and_true, isi_tt, len_tup, cmp_eq_int, it_tup]
    refine ⟨hp, ?_⟩
    by_cases h0 : 0 < cs.length
    · have h0' : ¬ (cs.length : Int) = 0 := by omega
      simp only [h0', decide_false, Bool.false_eq_true, if_false]
      refine ⟨by show _ ≤ 1000000; omega, ?_⟩
      refine (wC_id (g := fun c => .bool (isWhole c)) (fun c hc P => ?_) _).mpr ?_
      · rw [s_is_whole hm (hf c hc)]
      · rw [bi_all]
        have ne : cs.isEmpty = false := by cases cs with
          | nil => simp at h0
          | cons _ _ => rfl
        by_cases ha : cs.all isWhole = true
        · simp only [ha]
          simp only [wS, wE, wA, wO, wI, seqK_next, seqK_ret, fnK_ret, fnK_next, oP_some, oP_none, bP_bool, List.map_cons, List.map_nil, List.length_cons, List.length_nil, List.reduceReplicate, List.cons_append, List.nil_append, List.getD_cons_zero, List.getD_cons_succ, List.set_cons_zero, List.set_cons_succ, Nat.reduceAdd, Nat.reduceSub, Nat.zero_add, bindT_nm, bindT_tup, bindTs_nil, bindTs_cons, Option.bind_some, tgSlots, wipeE, List.append_nil, Bool.not_true, Bool.not_false, Bool.false_eq_true, if_true, if_false, reduceIte, Bool.or_true, Bool.or_false, Bool.true_or, Bool.false_or, true_and, and_true, ix_tup, at_c0]
          have a0 : L2.atI cs 0 = some cs[0] := by have := atI_nat (xs := cs) (k := 0) h0; rw [List.getElem?_eq_getElem h0] at this; exact this
          have al : L2.atI cs (-1) = some cs[cs.length - 1] := by
            unfold L2.atI L2.ixN
            rw [if_neg (by decide), if_pos (by omega)]
            have : (-1 + (cs.length : Int)).toNat = cs.length - 1 := by omega
            simp only [Option.bind_some, this]
            exact List.getElem?_eq_getElem (by omega)
          rw [a0]
          simp only [oP_some, negD, ix_tup]
          rw [al]
          have e0 := whole_int ((List.all_eq_true.mp ha) cs[0] (List.getElem_mem _))
          have e1 := whole_int ((List.all_eq_true.mp ha) cs[cs.length - 1] (List.getElem_mem _))
          rw [e0, e1]
          simp only [cmp_le, cmp_lt, oP_some]
          rw [rg2 (by decide) (by decide) (by omega) (by omega)]
          simp only [oP_some]
          have en : (((cs.length : Nat) : Int) - 1).toNat = cs.length - 1 := by omega
          rw [en]
          have hend := group_ends (w := w) ha
          by_cases q0 : (0 : Int) ≤ vI cs[0]
          · by_cases q1 : vI cs[cs.length - 1] < w
            · simp only [q0, q1, decide_true, if_true, bP_bool]
              refine ⟨by rw [List.length_map, List.length_range]; show _ ≤ 1000000; omega, ?_⟩
              refine (wC_map (g := fun k => .bool (lt2 cs k)) (fun k hk P => ?_) _).mpr ?_
              · have hk : k + 1 < cs.length := by have := List.mem_range.mp hk; omega
                have e1 : (1 + (k : Int) - 1) = (k : Int) := by omega
                have e2 : (1 + (k : Int)) = ((k + 1 : Nat) : Int) := by omega
                simp only [binD, oP_some]
                rw [e1, e2]
                simp only [ix_tup]
                rw [atI_nat (by omega), atI_nat hk]
                have f1 := whole_int ((List.all_eq_true.mp ha) cs[k] (List.getElem_mem _))
                have f2 := whole_int ((List.all_eq_true.mp ha) cs[k + 1] (List.getElem_mem _))
                unfold lt2
                rw [List.getElem?_eq_getElem (by omega : k < cs.length), List.getElem?_eq_getElem hk, f1, f2]
                simp only [oP_some, cmpD]
              · rw [bi_all]
                simp only [oP_some]
                have er : ((List.range (cs.length - 1)).all fun x => lt2 cs x) = rising cs := rfl
                rw [er]
                simp only [isPart, ne, Bool.not_false, Bool.true_and]
                cases hr : rising cs with
                | true => rw [hend hr h0, decide_eq_true q0, decide_eq_true q1]; rfl
                | false => rw [Bool.and_false]
            · simp only [q0, q1, decide_true, decide_false, Bool.false_eq_true, if_true, if_false, bP_bool]
              simp only [isPart, ne, Bool.not_false, Bool.true_and]
              cases hr : rising cs with
              | true => rw [hend hr h0, decide_eq_false q1, Bool.and_false]; rfl
              | false => rw [Bool.and_false]
          · simp only [q0, decide_false, Bool.false_eq_true, if_false, bP_bool]
            simp only [isPart, ne, Bool.not_false, Bool.true_and]
            cases hr : rising cs with
            | true => rw [hend hr h0, decide_eq_false q0, Bool.false_and]; rfl
            | false => rw [Bool.and_false]
        · have ha : cs.all isWhole = false := by simpa using ha
          simp only [ha]
          simp only [wS, wE, wA, wO, wI, seqK_next, seqK_ret, fnK_ret, fnK_next, oP_some, oP_none, bP_bool, List.map_cons, List.map_nil, List.length_cons, List.length_nil, List.reduceReplicate, List.cons_append, List.nil_append, List.getD_cons_zero, List.getD_cons_succ, List.set_cons_zero, List.set_cons_succ, Nat.reduceAdd, Nat.reduceSub, Nat.zero_add, bindT_nm, bindT_tup, bindTs_nil, bindTs_cons, Option.bind_some, tgSlots, wipeE, List.append_nil, Bool.not_true, Bool.not_false, Bool.false_eq_true, if_true, if_false, reduceIte, Bool.or_true, Bool.or_false, Bool.true_or, Bool.false_or, true_and, and_true]
          have : cs.all (inR w) = false := by
            cases q : cs.all (inR w) with
            | false => rfl
            | true => rw [List.all_eq_false] at ha; obtain ⟨c, hc, h⟩ := ha; exact absurd (inR_whole ((List.all_eq_true.mp q) c hc)) h
          simp [isPart, this]
    · have h0' : cs = [] := by cases cs with
        | nil => rfl
        | cons _ _ => simp at h0
      subst h0'
      simp [isPart]
  | none => simp [wS, wE, isiD, isPart, PyData.plain]
  | bool _ => simp [wS, wE, isiD, isPart, PyData.plain]
  | int _ => simp [wS, wE, isiD, isPart, PyData.plain]
  | str _ => simp [wS, wE, isiD, isPart, PyData.plain]
  | list _ => simp [wS, wE, isiD, isPart, hp]
  | dict _ => simp [wS, wE, isiD, isPart, hp]
end EV.Law
end

section
set_option Elab.async false
set_option linter.all false
set_option autoImplicit false
set_option maxRecDepth 100000
set_option maxHeartbeats 1000000
namespace EV.Law
open PySem EV
/-! ### all parts are told -/
theorem gL_hd : ∀ n, ∃ t, gL n = [] :: t
  | 0 => ⟨[], rfl⟩
  | n + 1 => by
    obtain ⟨t, e⟩ := gL_hd n
    exact ⟨t ++ (gL n).map fun g => g ++ [n], by rw [gL, e]; rfl⟩
theorem gL_all : ∀ (n : Nat) (g : List Nat), g.Pairwise (· < ·) → (∀ v ∈ g, v < n) → g ∈ gL n
  | 0, g, _, h => by
    cases g with
    | nil => exact List.mem_singleton.mpr rfl
    | cons a r => exact absurd (h a List.mem_cons_self) (by omega)
  | n + 1, g, hp, h => by
    rw [gL]
    by_cases hn : n ∈ g
    · obtain ⟨s, t, rfl⟩ := List.append_of_mem hn
      have hp2 := List.pairwise_append.mp hp
      have et : t = [] := by
        cases t with
        | nil => rfl
        | cons a r =>
          have h1 := (List.pairwise_cons.mp hp2.2.1).1 a List.mem_cons_self
          have h2 := h a (by simp)
          omega
      subst et
      refine List.mem_append_right _ (List.mem_map.mpr ⟨s, gL_all n s hp2.1 fun v hv => ?_, rfl⟩)
      exact hp2.2.2 v hv n List.mem_cons_self
    · refine List.mem_append_left _ (gL_all n g hp fun v hv => ?_)
      have := h v hv
      have : v ≠ n := fun e => hn (e ▸ hv)
      omega
theorem gP_all {n : Nat} {g : List Nat} (hp : g.Pairwise (· < ·)) (h : ∀ v ∈ g, v < n) (h0 : g ≠ []) : g ∈ (gL n).drop 1 := by
  have := gL_all n g hp h
  obtain ⟨t, e⟩ := gL_hd n
  rw [e] at this ⊢
  rcases List.mem_cons.mp this with h1 | h1
  · exact absurd h1 h0
  · exact h1
theorem part_enc {m : Int} (hm : 0 ≤ m) {v : D} (h : isPart m v = true) : ∃ g ∈ (gL m.toNat).drop 1, v = encG g := by
  unfold isPart at h
  split at h
  · rename_i cs
    simp only [Bool.and_eq_true, Bool.not_eq_true'] at h
    obtain ⟨⟨h1, h2⟩, h3⟩ := h
    have hw := inR_all h2
    have e : cs = (cs.map vI).map PyData.int := by
      rw [List.map_map]
      refine (List.map_id cs).symm.trans (List.map_congr_left fun c hc => ?_)
      exact whole_int (List.all_eq_true.mp hw c hc)
    have hb : ∀ x ∈ cs.map vI, 0 ≤ x ∧ x < m := fun x hx => by
      obtain ⟨c, hc, rfl⟩ := List.mem_map.mp hx
      exact inR_b (List.all_eq_true.mp h2 c hc)
    have hne : cs.map vI ≠ [] := fun e => by rw [List.map_eq_nil_iff] at e; subst e; cases h1
    rw [e] at h3
    have hp := rising_pw.mp h3
    rw [e]
    generalize cs.map vI = ns at hb hne hp
    refine ⟨ns.map Int.toNat, gP_all (List.pairwise_map.mpr ?_) (fun v hv => ?_) (fun e => hne (List.map_eq_nil_iff.mp e)), ?_⟩
    · exact hp.imp_of_mem fun {a b} ha hb' hab => by have := hb a ha; have := hb b hb'; omega
    · obtain ⟨x, hx, rfl⟩ := List.mem_map.mp hv
      have := hb x hx
      omega
    · unfold encG
      rw [List.map_map]
      congr 1
      refine List.map_congr_left fun x hx => ?_
      have := hb x hx
      show PyData.int x = PyData.int ((x.toNat : Nat) : Int)
      rw [Int.toNat_of_nonneg this.1]
  · cases h
theorem enc_part {m : Int} (hm : 0 ≤ m) (hm6 : m ≤ 6) {g : List Nat} (h : g ∈ (gL m.toNat).drop 1) : isPart m (encG g) = true := by
  obtain ⟨h1, h2, h3, h4⟩ := gP_spec (by omega) h
  rw [encG_gI]
  simp only [isPart, Bool.and_eq_true, Bool.not_eq_true', List.all_eq_true]
  refine ⟨⟨?_, fun d hd => ?_⟩, rising_pw.mpr (gI_pw h4)⟩
  · cases g with
    | nil => exact absurd rfl h1
    | cons _ _ => rfl
  · obtain ⟨x, hx, rfl⟩ := List.mem_map.mp hd
    obtain ⟨v, hv, rfl⟩ := List.mem_map.mp hx
    have := h2 v hv
    simp only [inR, Bool.and_eq_true, decide_eq_true_eq]
    omega
/-- no bool among the data -/
def noB (ds : List D) : Bool := ds.all fun d => !isiD d .bool
theorem eqv_nb : ∀ (ns : List Int) (cs : List D), noB cs = true → PyData.eqvAll (ns.map PyData.int) cs = true → cs = ns.map PyData.int
  | [], [], _, _ => rfl
  | [], _ :: _, _, h => by simp [PyData.eqvAll] at h
  | _ :: _, [], _, h => by simp [PyData.eqvAll] at h
  | n :: ns, c :: cs, hb, h => by
    simp only [noB, List.all_cons, Bool.and_eq_true] at hb
    simp only [List.map_cons, PyData.eqvAll, Bool.and_eq_true] at h ⊢
    rw [eqv_nb ns cs hb.2 h.2]
    cases c with
    | int i =>
      have : n = i := by simpa [PyData.eqv] using h.1
      rw [this]
    | bool b => exact absurd hb.1 (by simp [isiD])
    | _ => exact absurd h.1 (by simp [PyData.eqv])
theorem grL_in {m : Int} (hm : 0 ≤ m) (hm6 : m ≤ 6) {cs : List D} (hb : noB cs = true) : ((grL m.toNat).any fun z => PyData.eqv z (.tuple cs)) = isPart m (.tuple cs) := by
  rw [Bool.eq_iff_iff, List.any_eq_true]
  constructor
  · rintro ⟨z, hz, e⟩
    obtain ⟨g, hg, rfl⟩ := sL_mem.mp hz
    rw [encG_gI] at e
    have e : PyData.eqvAll ((gI g).map PyData.int) cs = true := by rwa [PyData.eqv] at e
    rw [eqv_nb _ _ hb e, ← encG_gI]
    exact enc_part hm hm6 hg
  · intro h
    obtain ⟨g, hg, e⟩ := part_enc hm h
    refine ⟨_, sL_mem.mpr ⟨g, hg, rfl⟩, ?_⟩
    rw [e, encG_gI, eqv_intT]
    simp
theorem part_noB {m : Int} {cs : List D} (h : isPart m (.tuple cs) = true) : noB cs = true := by
  simp only [isPart, Bool.and_eq_true] at h
  refine List.all_eq_true.mpr fun d hd => ?_
  obtain ⟨i, rfl⟩ := inR_int (List.all_eq_true.mp h.1.2 d hd)
  rfl
theorem wC_noB {cs : List D} (hf : ∀ d ∈ cs, fine d = true) (P : List D → Prop) : wC (fun x P => PyData.plain x = true ∧ if isiD x .bool = true then P (some x) else P none) cs P ↔ P (cs.filter fun d => isiD d .bool) := by
  refine (wC_fid (c := fun d => isiD d .bool) (g := fun d => d) (fun d hd P => ?_) P).trans ?_
  · have hp := fine.pl (hf d hd)
    simp only [hp, true_and]
    exact ifP _ _ _
  · rw [List.map_id']
theorem noB_fil (cs : List D) : (cs.filter fun d => isiD d .bool).isEmpty = noB cs := by
  rw [filt_all]; rfl
end EV.Law
end

section
set_option Elab.async false
set_option linter.all false
set_option autoImplicit false
set_option maxRecDepth 100000
set_option maxHeartbeats 1000000
namespace EV.Law
open PySem EV
/-! ### values of small depth -/
def atm : D → Bool
  | .list _ => false
  | .tuple _ => false
  | .dict _ => false
  | _ => true
/-- of depth at most so much, rows of at most so many -/
def gd (L : Nat) : Nat → D → Bool
  | 0, d => atm d
  | k + 1, .tuple ds => decide (ds.length ≤ L) && ds.all (gd L k)
  | k + 1, .list ds => decide (ds.length ≤ L) && ds.all (gd L k)
  | _ + 1, d => atm d
/-- no None, bool or list -/
def sg (L : Nat) : Nat → D → Bool
  | 0, .int _ => true
  | 0, .str _ => true
  | _ + 1, .int _ => true
  | _ + 1, .str _ => true
  | k + 1, .tuple ds => decide (ds.length ≤ L) && ds.all (sg L k)
  | _, _ => false
theorem gd_atm {L k : Nat} {d : D} (h : atm d = true) : gd L k d = true := by
  cases d <;> first | (cases k <;> rfl) | cases h
theorem gd_tup {L k : Nat} {ds : List D} (h : ds.length ≤ L) (h2 : ∀ d ∈ ds, gd L k d = true) : gd L (k + 1) (.tuple ds) = true := by
  simp only [gd, Bool.and_eq_true, decide_eq_true_eq]
  exact ⟨h, List.all_eq_true.mpr h2⟩
theorem gd_lst {L k : Nat} {ds : List D} (h : ds.length ≤ L) (h2 : ∀ d ∈ ds, gd L k d = true) : gd L (k + 1) (.list ds) = true := by
  simp only [gd, Bool.and_eq_true, decide_eq_true_eq]
  exact ⟨h, List.all_eq_true.mpr h2⟩
theorem gd_mono {L L' : Nat} (hL : L ≤ L') : ∀ {k k' : Nat} {d : D}, k ≤ k' → gd L k d = true → gd L' k' d = true
  | 0, k', d, _, h => gd_atm h
  | k + 1, 0, d, hk, h => by omega
  | k + 1, k' + 1, d, hk, h => by
    cases d with
    | tuple ds =>
      simp only [gd, Bool.and_eq_true, decide_eq_true_eq] at h
      exact gd_tup (by omega) fun d hd => gd_mono hL (by omega) (List.all_eq_true.mp h.2 d hd)
    | list ds =>
      simp only [gd, Bool.and_eq_true, decide_eq_true_eq] at h
      exact gd_lst (by omega) fun d hd => gd_mono hL (by omega) (List.all_eq_true.mp h.2 d hd)
    | dict _ => exact h
    | _ => rfl
theorem sg_gd {L : Nat} : ∀ {k : Nat} {d : D}, sg L k d = true → gd L k d = true
  | 0, d, h => by cases d <;> first | rfl | cases h
  | k + 1, d, h => by
    cases d with
    | tuple ds =>
      simp only [sg, Bool.and_eq_true, decide_eq_true_eq] at h
      exact gd_tup h.1 fun d hd => sg_gd (List.all_eq_true.mp h.2 d hd)
    | int _ => rfl
    | str _ => rfl
    | _ => cases h
theorem gd_fine {L : Nat} (hL : L ≤ 4000) : ∀ {k : Nat} {d : D}, gd L k d = true → fine d = true
  | 0, d, h => by cases d <;> first | rfl | cases h
  | k + 1, d, h => by
    cases d with
    | tuple ds =>
      simp only [gd, Bool.and_eq_true, decide_eq_true_eq] at h
      exact fine_tup (by omega) fun d hd => gd_fine hL (List.all_eq_true.mp h.2 d hd)
    | list ds =>
      simp only [gd, Bool.and_eq_true, decide_eq_true_eq] at h
      exact fine_lst (by omega) fun d hd => gd_fine hL (List.all_eq_true.mp h.2 d hd)
    | dict _ => cases h
    | _ => rfl
theorem depthAll_le {k : Nat} : ∀ {ds : List D}, (∀ d ∈ ds, d.depth ≤ k) → PyData.depthAll ds ≤ k
  | [], _ => by simp [PyData.depthAll]
  | d :: ds, h => by
    have h1 := h d List.mem_cons_self
    have h2 := depthAll_le fun e he => h e (List.mem_cons_of_mem _ he)
    simp only [PyData.depthAll]
    omega
theorem gd_depth {L : Nat} : ∀ {k : Nat} {d : D}, gd L k d = true → d.depth ≤ k
  | 0, d, h => by cases d <;> first | (simp [PyData.depth]; done) | cases h
  | k + 1, d, h => by
    cases d with
    | tuple ds =>
      simp only [gd, Bool.and_eq_true, decide_eq_true_eq] at h
      have := depthAll_le fun d hd => gd_depth (List.all_eq_true.mp h.2 d hd)
      simp only [PyData.depth]
      omega
    | list ds =>
      simp only [gd, Bool.and_eq_true, decide_eq_true_eq] at h
      have := depthAll_le fun d hd => gd_depth (List.all_eq_true.mp h.2 d hd)
      simp only [PyData.depth]
      omega
    | dict _ => cases h
    | _ => simp [PyData.depth]
theorem gd_mem {L k : Nat} {ds : List D} (h : gd L (k + 1) (.tuple ds) = true) : ∀ d ∈ ds, gd L k d = true := by
  simp only [gd, Bool.and_eq_true, decide_eq_true_eq] at h
  exact List.all_eq_true.mp h.2
theorem s_bentS {L k n : Nat} (hn : 2 ≤ n) (x : Str) : Run T 2000 n f_law_bent [.dict [], .str x] (fun d' => gd (L + 2) (k + 1) d' = true) nox := by
  obtain ⟨m, rfl⟩ : ∃ m, n = m + 1 := ⟨n - 1, by omega⟩
  refine run_of (fi := i__law_bent) rfl rfl ?_
  simp only [i__law_bent, b__law_bent]
  simp only [wS, wE, wA, wO, wI, seqK_next, seqK_ret, fnK_ret, fnK_next, oP_some, oP_none, bP_bool, List.map_cons, List.map_nil, List.length_cons, List.length_nil, List.reduceReplicate, List.cons_append, List.nil_append, List.getD_cons_zero, List.getD_cons_succ, List.set_cons_zero, List.set_cons_succ, Nat.reduceAdd, Nat.reduceSub, Nat.zero_add, bindT_nm, bindT_tup, bindTs_nil, bindTs_cons, Option.bind_some, tgSlots, wipeE, List.append_nil, Bool.not_true, Bool.not_false, Bool.false_eq_true, if_true, if_false, reduceIte, Bool.or_true, Bool.or_false, Bool.true_or, Bool.false_or, true_and, and_true, isiD]
  refine ⟨rfl, rfl, rfl, ?_⟩
  refine Run.imp (s_take (by omega) (by decide) (by decide)) (fun x ⟨t, e, h0, h1⟩ => ?_) (fun _ h => h)
  subst e
  refine ix_any h0 (by simp; omega) fun y hy => ?_
  simp only [List.mem_cons, List.not_mem_nil, or_false] at hy
  rcases hy with rfl | rfl | rfl | rfl | rfl | rfl | rfl <;> exact gd_atm rfl
theorem s_bentI {L k n : Nat} (hn : 2 ≤ n) (i : Int) : Run T 2000 n f_law_bent [.dict [], .int i] (fun d' => gd (L + 2) (k + 1) d' = true) nox := by
  obtain ⟨m, rfl⟩ : ∃ m, n = m + 1 := ⟨n - 1, by omega⟩
  refine run_of (fi := i__law_bent) rfl rfl ?_
  simp only [i__law_bent, b__law_bent]
  simp only [wS, wE, wA, wO, wI, seqK_next, seqK_ret, fnK_ret, fnK_next, oP_some, oP_none, bP_bool, List.map_cons, List.map_nil, List.length_cons, List.length_nil, List.reduceReplicate, List.cons_append, List.nil_append, List.getD_cons_zero, List.getD_cons_succ, List.set_cons_zero, List.set_cons_succ, Nat.reduceAdd, Nat.reduceSub, Nat.zero_add, bindT_nm, bindT_tup, bindTs_nil, bindTs_cons, Option.bind_some, tgSlots, wipeE, List.append_nil, Bool.not_true, Bool.not_false, Bool.false_eq_true, if_true, if_false, reduceIte, Bool.or_true, Bool.or_false, Bool.true_or, Bool.false_or, true_and, and_true, isiD, binD]
  refine ⟨rfl, rfl, rfl, rfl, ?_⟩
  refine Run.imp (s_take (by omega) (by decide) (by decide)) (fun x ⟨t, e, h0, h1⟩ => ?_) (fun _ h => h)
  subst e
  refine ix_any h0 (by simp; omega) fun y hy => ?_
  simp only [List.mem_cons, List.not_mem_nil, or_false] at hy
  rcases hy with rfl | rfl | rfl | rfl | rfl | rfl | rfl | rfl
  · exact gd_atm rfl
  · exact gd_atm rfl
  · exact gd_atm rfl
  · exact gd_atm rfl
  · exact gd_atm rfl
  · exact gd_atm rfl
  · exact gd_atm rfl
  · refine gd_tup (by simp) fun d hd => ?_
    simp only [List.mem_cons, List.not_mem_nil, or_false] at hd
    rcases hd with rfl | rfl <;> exact gd_atm rfl
theorem s_bentG {L : Nat} (hL : L ≤ 900) : ∀ (k n : Nat) (d : D), k + 2 ≤ n → sg L k d = true → Run T 2000 n f_law_bent [.dict [], d] (fun d' => gd (L + 2) (k + 1) d' = true) nox
  | 0, n, d, hn, h => by
    cases d with
    | int i => exact s_bentI (by omega) i
    | str x => exact s_bentS (by omega) x
    | _ => cases h
  | k + 1, n, d, hn, h => by
    cases d with
    | int i => exact s_bentI (by omega) i
    | str x => exact s_bentS (by omega) x
    | tuple ds =>
      obtain ⟨m, rfl⟩ : ∃ m, n = m + 1 := ⟨n - 1, by omega⟩
      have hg := sg_gd h
      have hp := fine.pl (gd_fine (by omega) hg)
      refine run_of (fi := i__law_bent) rfl rfl ?_
      simp only [i__law_bent, b__law_bent]
      simp only [sg, Bool.and_eq_true, decide_eq_true_eq, List.all_eq_true] at h
      obtain ⟨hl, hs⟩ := h
      have hd : ∀ x ∈ ds, gd (L + 2) (k + 1) x = true := fun x hx => gd_mono (by omega) (by omega) (sg_gd (hs x hx))
      -- the six other things
      have rest : Run T 2000 m f_law_take [.dict [], .int 6] (fun x => oP (ixD (.list [.list ds, .tuple (cutL ds none (some (-1))), .tuple (ds ++ cutL ds none (some 1)), .none, .tuple [], .tuple (ds ++ [.int 0])]) x) fun y => gd (L + 2) (k + 1 + 1) y = true) nox := by
        refine Run.imp (s_take (by omega) (by decide) (by decide)) (fun x ⟨t, e, h0, h1⟩ => ?_) (fun _ h => h)
        subst e
        refine ix_any h0 (by simp; omega) fun y hy => ?_
        simp only [List.mem_cons, List.not_mem_nil, or_false] at hy
        rcases hy with rfl | rfl | rfl | rfl | rfl | rfl
        · exact gd_lst (by omega) hd
        · exact gd_tup (by have := cut_len ds none (some (-1)); omega) fun x hx => hd x (cut_mem hx)
        · refine gd_tup ?_ fun x hx => by
            rcases List.mem_append.mp hx with hx | hx
            · exact hd x hx
            · exact hd x (cut_mem hx)
          rw [List.length_append]
          have : (cutL ds none (some 1)).length ≤ 1 := by
            have := cut_take ds 1
            have e : cutL ds none (some 1) = ds.take 1 := this
            rw [e, List.length_take]
            omega
          omega
        · rfl
        · rfl
        · exact gd_tup (by rw [List.length_append]; simp; omega) fun x hx => by
            rcases List.mem_append.mp hx with hx | hx
            · exact hd x hx
            · simp at hx; rw [hx]; rfl
      have e6 : ∀ xs : List D, biD .list [.tuple xs] = some (.list xs) := fun _ => rfl
      have c1 := cut_len ds none (some 1)
      have a1 : binD .add (.tuple ds) (.tuple (cutL ds none (some 1))) = some (.tuple (ds ++ cutL ds none (some 1))) := add_tupL _ _ (by omega)
      have a2 : binD .add (.tuple ds) (.tuple [.int 0]) = some (.tuple (ds ++ [.int 0])) := add_tupL _ _ (by simp; omega)
      simp only [wS, wE, wA, wO, wI, seqK_next, seqK_ret, fnK_ret, fnK_next, oP_some, oP_none, bP_bool, List.map_cons, List.map_nil, List.length_cons, List.length_nil, List.reduceReplicate, List.cons_append, List.nil_append, List.getD_cons_zero, List.getD_cons_succ, List.set_cons_zero, List.set_cons_succ, Nat.reduceAdd, Nat.reduceSub, Nat.zero_add, bindT_nm, bindT_tup, bindTs_nil, bindTs_cons, Option.bind_some, tgSlots, wipeE, List.append_nil, Bool.not_true, Bool.not_false, Bool.false_eq_true, if_true, if_false, reduceIte, Bool.or_true, Bool.or_false, Bool.true_or, Bool.false_or, true_and, and_true, isi_tt, len_tup, cmp_gt, e6, endD, sl_tup, a1, a2, negD]
      refine ⟨hp, ?_⟩
      by_cases h0 : (0 : Int) < (ds.length : Int)
      · simp only [h0, decide_true, if_true]
        refine Run.imp (s_take (by omega) (by decide) (by decide)) (fun x ⟨t, e, t0, t1⟩ => ?_) (fun _ h => h)
        subst e
        simp only [cmp_gt, oP_some, bP_bool]
        by_cases ht : 0 < t
        · simp only [ht, decide_true, if_true]
          refine Run.imp (s_take (by omega) h0 (by omega)) (fun x ⟨q, e, q0, q1⟩ => ?_) (fun _ h => h)
          subst e
          have eq : q = ((q.toNat : Nat) : Int) := by omega
          have hq : q.toNat < ds.length := by omega
          simp only [endD, oP_some, sl_tup, ix_tup]
          have ea : L2.atI ds q = some (ds[q.toNat]'hq) := by
            have z := atI_nat hq
            rw [List.getElem?_eq_getElem hq, ← eq] at z
            exact z
          rw [ea]
          simp only [oP_some]
          refine Run.imp (s_bentG hL k m _ (by omega) (hs _ (List.getElem_mem hq))) (fun y hy => ?_) (fun _ h => h)
          have b0 : cutL ds none (some q) = ds.take q.toNat := by
            have := cut_take ds q.toNat
            rwa [← eq] at this
          have b1 : (cutL ds none (some q)).length ≤ ds.length := cut_len ds none (some q)
          rw [add_tupL _ _ (by simp; omega)]
          simp only [oP_some, binD, endD, sl_tup]
          have b2 := cut_len ds (some (q + 1)) none
          rw [if_pos (by show _ ≤ 1000000; simp; omega)]
          simp only [oP_some]
          refine gd_tup ?_ fun x hx => ?_
          · have b3 : (cutL ds (some (q + 1)) none).length ≤ ds.length - (q.toNat + 1) := by
              unfold cutL
              have e1 : HT.sIx ds.length 0 (some (q + 1)) = min (q.toNat + 1) ds.length := by
                simp only [HT.sIx]
                split <;> omega
              rw [e1, List.length_take, List.length_drop]
              omega
            rw [b0]
            simp only [List.length_append, List.length_take, List.length_cons, List.length_nil]
            omega
          simp only [List.mem_append, List.mem_singleton] at hx
          rcases hx with (hx | hx) | hx
          · exact hd x (cut_mem hx)
          · rw [hx]; exact hy
          · exact hd x (cut_mem hx)
        · simp only [ht, decide_false, Bool.false_eq_true, if_false]
          exact ⟨hp, rest⟩
      · simp only [h0, decide_false, Bool.false_eq_true, if_false]
        exact ⟨hp, rest⟩
    | none => cases h
    | bool _ => cases h
    | list _ => cases h
    | dict _ => cases h
end EV.Law
end

section
set_option Elab.async false
set_option linter.all false
set_option autoImplicit false
set_option maxRecDepth 100000
set_option maxHeartbeats 1000000
namespace EV.Law
open PySem EV
/-! ### objections, for every value -/
theorem inW_of {x : Str} (h : inW x = true) : ∃ i, i < 8 ∧ x = wW i := by
  unfold inW at h
  rw [W8_R, List.any_map] at h
  obtain ⟨i, hi, e⟩ := List.any_eq_true.mp h
  exact ⟨i, List.mem_range.mp hi, (eq_of_beq e).symm⟩
def wIx (x : Str) : Nat := ((List.range 8).find? fun i => wW i == x).getD 8
theorem wIx_wW : ∀ i, i < 8 → wIx (wW i) = i := by decide +kernel
def tkD (m k : Int) (os : List D) (cms : List Int) : D → Bool
  | .tuple (.str x :: y :: r) => inW x && (if isLo (wIx x) = true then r.isEmpty && (inR m y && locB os.length k os cms (vI y) (wIx x == 4)) else (match r with
    | [l] => isPart m y && (wIn 1 k l && solO os.length k os cms (wIx x) (oI y) (vI l))
    | _ => false))
  | _ => false
theorem isi_ss (x : Str) : isiD (.str x) .str = true := rfl
theorem lt2_no (x y : D) (r : List D) : decide ((((x :: y :: r : List D).length : Nat) : Int) < 2) = false := decide_eq_false (by simp only [List.length_cons]; omega)
theorem ne2_cons (x y z : D) (r : List D) : decide ((((x :: y :: z :: r : List D).length : Nat) : Int) = 2) = false := decide_eq_false (by simp only [List.length_cons]; omega)
theorem ne2_nil (x y : D) : decide ((((x :: y :: [] : List D).length : Nat) : Int) = 2) = true := rfl
theorem ne3_nil (x y : D) : decide ((((x :: y :: [] : List D).length : Nat) : Int) = 3) = false := rfl
theorem ne3_one (x y z : D) : decide ((((x :: y :: [z] : List D).length : Nat) : Int) = 3) = true := rfl
theorem ne3_more (x y z u : D) (r : List D) : decide ((((x :: y :: z :: u :: r : List D).length : Nat) : Int) = 3) = false := decide_eq_false (by simp only [List.length_cons]; omega)
theorem oI_enc (g : List Nat) : oI (encG g) = gI g := by rw [encG_gI]; exact oI_ints _
section
variable {m k : Int} {os : List D} {cms : List Int} (c : CT m k os cms)
include c
theorem s_takes {n : Nat} (hn : 6 ≤ n) {v : D} (hv : fine v = true) (P : D → Prop) (X : XP) : Run T 2000 n ftakes_wish_objection [prD m k os, coD cms, v] P X ↔ P (.bool (tkD m k os cms v)) := by
  obtain ⟨t, rfl⟩ : ∃ t, n = t + 1 := ⟨n - 1, by omega⟩
  have a1 := c.m1
  have a2 := c.m6
  have a3 := c.k1
  have a4 := c.km
  have a5 := c.cl
  have hp := fine.pl hv
  refine Run.val (run_of (fi := i_takes_wish_objection) rfl rfl ?_) P X
  simp only [i_takes_wish_objection, b_takes_wish_objection, W8_D]
  simp only [wS, wE, wA, wO, wI, seqK_next, seqK_ret, fnK_ret, fnK_next, oP_some, oP_none, bP_bool, List.map_cons, List.map_nil, List.length_cons, List.length_nil, List.reduceReplicate, List.cons_append, List.nil_append, List.getD_cons_zero, List.getD_cons_succ, List.set_cons_zero, List.set_cons_succ, Nat.reduceAdd, Nat.reduceSub, Nat.zero_add, bindT_nm, bindT_tup, bindTs_nil, bindTs_cons, Option.bind_some, tgSlots, wipeE, List.append_nil, Bool.not_true, Bool.not_false, Bool.false_eq_true, if_true, if_false, reduceIte, Bool.or_true, Bool.or_false, Bool.true_or, Bool.false_or, true_and, and_true]
  rw [s_check_seated (by omega) (fn6_f (fR c)) c.pr (fn6_f (fP c)) c.se]
  cases v with
  | tuple ds =>
    obtain ⟨hl, hf⟩ := fine.tup hv
    match ds, hl, hf, hp, hv with
    | [], _, _, hp, _ => simp [isiD, biD, cmp_lt, tkD, hp]
    | [_], _, _, hp, _ => simp [isiD, biD, cmp_lt, tkD, hp]
    | x :: y :: r, _, hf, hp, _ =>
      have hx := hf x (by simp)
      have hy := hf y (by simp)
      have hxp := fine.pl hx
      simp only [wS, wE, wA, wO, wI, seqK_next, seqK_ret, fnK_ret, fnK_next, oP_some, oP_none, bP_bool, List.map_cons, List.map_nil, List.length_cons, List.length_nil, List.reduceReplicate, List.cons_append, List.nil_append, List.getD_cons_zero, List.getD_cons_succ, List.set_cons_zero, List.set_cons_succ, Nat.reduceAdd, Nat.reduceSub, Nat.zero_add, bindT_nm, bindT_tup, bindTs_nil, bindTs_cons, Option.bind_some, tgSlots, wipeE, List.append_nil, Bool.not_true, Bool.not_false, Bool.false_eq_true, if_true, if_false, reduceIte, Bool.or_true, Bool.or_false, Bool.true_or, Bool.false_or, true_and, and_true, isi_tt, len_tup, cmp_lt, lt2_no, ix_tup, at_c0]
      refine ⟨hp, hxp, ?_⟩
      cases x with
      | str x =>
        simp only [wS, wE, wA, wO, wI, seqK_next, seqK_ret, fnK_ret, fnK_next, oP_some, oP_none, bP_bool, List.map_cons, List.map_nil, List.length_cons, List.length_nil, List.reduceReplicate, List.cons_append, List.nil_append, List.getD_cons_zero, List.getD_cons_succ, List.set_cons_zero, List.set_cons_succ, Nat.reduceAdd, Nat.reduceSub, Nat.zero_add, bindT_nm, bindT_tup, bindTs_nil, bindTs_cons, Option.bind_some, tgSlots, wipeE, List.append_nil, Bool.not_true, Bool.not_false, Bool.false_eq_true, if_true, if_false, reduceIte, Bool.or_true, Bool.or_false, Bool.true_or, Bool.false_or, true_and, and_true, isi_ss, nin_strT]
        cases hi : inW x with
        | false =>
          have hi' : (W8.any fun z => z == x) = false := hi
          simp [hi', tkD, hi]
        | true =>
          have hi' : (W8.any fun z => z == x) = true := hi
          obtain ⟨i, hi8, rfl⟩ := inW_of hi
          have e1 : mtOk .startswith (.str (wW i)) = some () := rfl
          simp only [wS, wE, wA, wO, wI, seqK_next, seqK_ret, fnK_ret, fnK_next, oP_some, oP_none, bP_bool, List.map_cons, List.map_nil, List.length_cons, List.length_nil, List.reduceReplicate, List.cons_append, List.nil_append, List.getD_cons_zero, List.getD_cons_succ, List.set_cons_zero, List.set_cons_succ, Nat.reduceAdd, Nat.reduceSub, Nat.zero_add, bindT_nm, bindT_tup, bindTs_nil, bindTs_cons, Option.bind_some, tgSlots, wipeE, List.append_nil, Bool.not_true, Bool.not_false, Bool.false_eq_true, if_true, if_false, reduceIte, Bool.or_true, Bool.or_false, Bool.true_or, Bool.false_or, true_and, and_true, hi', e1, w_local hi8, cmp_ne_int]
          cases hlo : isLo i with
          | true =>
            simp only [if_true]
            cases r with
            | cons z r =>
              have e : decide (((r.length + 1 + 1 + 1 : Nat) : Int) = 2) = false := decide_eq_false (by omega)
              simp only [wS, wE, wA, wO, wI, seqK_next, seqK_ret, fnK_ret, fnK_next, oP_some, oP_none, bP_bool, List.map_cons, List.map_nil, List.length_cons, List.length_nil, List.reduceReplicate, List.cons_append, List.nil_append, List.getD_cons_zero, List.getD_cons_succ, List.set_cons_zero, List.set_cons_succ, Nat.reduceAdd, Nat.reduceSub, Nat.zero_add, bindT_nm, bindT_tup, bindTs_nil, bindTs_cons, Option.bind_some, tgSlots, wipeE, List.append_nil, Bool.not_true, Bool.not_false, Bool.false_eq_true, if_true, if_false, reduceIte, Bool.or_true, Bool.or_false, Bool.true_or, Bool.false_or, true_and, and_true, e]
              simp [tkD, wIx_wW i hi8, hlo]
            | nil =>
              simp only [wS, wE, wA, wO, wI, seqK_next, seqK_ret, fnK_ret, fnK_next, oP_some, oP_none, bP_bool, List.map_cons, List.map_nil, List.length_cons, List.length_nil, List.reduceReplicate, List.cons_append, List.nil_append, List.getD_cons_zero, List.getD_cons_succ, List.set_cons_zero, List.set_cons_succ, Nat.reduceAdd, Nat.reduceSub, Nat.zero_add, bindT_nm, bindT_tup, bindTs_nil, bindTs_cons, Option.bind_some, tgSlots, wipeE, List.append_nil, Bool.not_true, Bool.not_false, Bool.false_eq_true, if_true, if_false, reduceIte, Bool.or_true, Bool.or_false, Bool.true_or, Bool.false_or, true_and, and_true, ne2_nil, at_c1]
              rw [s_is_whole (by omega) hy]
              simp only [bP_bool]
              cases hw : isWhole y with
              | false =>
                have : inR m y = false := by cases q : inR m y with
                  | false => rfl
                  | true => rw [inR_whole q] at hw; cases hw
                simp [tkD, this]
              | true =>
                obtain ⟨c', rfl⟩ : ∃ c', y = .int c' := ⟨_, whole_int hw⟩
                unfold prD
                simp only [wS, wE, wA, wO, wI, seqK_next, seqK_ret, fnK_ret, fnK_next, oP_some, oP_none, bP_bool, List.map_cons, List.map_nil, List.length_cons, List.length_nil, List.reduceReplicate, List.cons_append, List.nil_append, List.getD_cons_zero, List.getD_cons_succ, List.set_cons_zero, List.set_cons_succ, Nat.reduceAdd, Nat.reduceSub, Nat.zero_add, bindT_nm, bindT_tup, bindTs_nil, bindTs_cons, Option.bind_some, tgSlots, wipeE, List.append_nil, Bool.not_true, Bool.not_false, Bool.false_eq_true, if_true, if_false, reduceIte, Bool.or_true, Bool.or_false, Bool.true_or, Bool.false_or, true_and, and_true, cmp_le, cmp_lt, ix_tup, at_c0]
                have er : inR m (.int c') = (decide (0 ≤ c') && decide (c' < m)) := rfl
                cases h1 : decide ((0 : Int) ≤ c') with
                | false => simp [tkD, er, h1]
                | true =>
                  cases h2 : decide (c' < m) with
                  | false => simp [tkD, er, h1, h2]
                  | true =>
                    simp only [if_true, oP_some, bP_bool, Bool.not_true, Bool.false_eq_true, if_false]
                    unfold coD
                    rw [s_fails_local c.ho (by omega) (by omega) c.ol (by omega) (by omega), w_loc hi8]
                    simp [tkD, er, h1, h2, hi, hlo, wIx_wW i hi8, vI]
          | false =>
            simp only [Bool.false_eq_true, if_false]
            match r with
            | [] => simp [ne3_nil, tkD, hi, wIx_wW i hi8, hlo]
            | z :: u :: r =>
              have e : decide (((r.length + 1 + 1 + 1 + 1 : Nat) : Int) = 3) = false := decide_eq_false (by omega)
              simp only [wS, wE, wA, wO, wI, seqK_next, seqK_ret, fnK_ret, fnK_next, oP_some, oP_none, bP_bool, List.map_cons, List.map_nil, List.length_cons, List.length_nil, List.reduceReplicate, List.cons_append, List.nil_append, List.getD_cons_zero, List.getD_cons_succ, List.set_cons_zero, List.set_cons_succ, Nat.reduceAdd, Nat.reduceSub, Nat.zero_add, bindT_nm, bindT_tup, bindTs_nil, bindTs_cons, Option.bind_some, tgSlots, wipeE, List.append_nil, Bool.not_true, Bool.not_false, Bool.false_eq_true, if_true, if_false, reduceIte, Bool.or_true, Bool.or_false, Bool.true_or, Bool.false_or, true_and, and_true, e]
              simp [tkD, wIx_wW i hi8, hlo]
            | [z] =>
              have hz := hf z (by simp)
              simp only [wS, wE, wA, wO, wI, seqK_next, seqK_ret, fnK_ret, fnK_next, oP_some, oP_none, bP_bool, List.map_cons, List.map_nil, List.length_cons, List.length_nil, List.reduceReplicate, List.cons_append, List.nil_append, List.getD_cons_zero, List.getD_cons_succ, List.set_cons_zero, List.set_cons_succ, Nat.reduceAdd, Nat.reduceSub, Nat.zero_add, bindT_nm, bindT_tup, bindTs_nil, bindTs_cons, Option.bind_some, tgSlots, wipeE, List.append_nil, Bool.not_true, Bool.not_false, Bool.false_eq_true, if_true, if_false, reduceIte, Bool.or_true, Bool.or_false, Bool.true_or, Bool.false_or, true_and, and_true, ne3_one, at_c1, at_c2]
              unfold prD
              rw [s_is_part (by omega) hy]
              simp only [bP_bool]
              cases hpa : isPart m y with
              | false => simp [tkD, hpa, hlo, wIx_wW i hi8]
              | true =>
                simp only [Bool.not_true, Bool.false_eq_true, if_false]
                rw [s_is_whole (by omega) hz]
                simp only [bP_bool]
                cases hw : isWhole z with
                | false =>
                  have : wIn 1 k z = false := by cases z <;> first | rfl | cases hw
                  simp [tkD, hpa, hlo, wIx_wW i hi8, this]
                | true =>
                  obtain ⟨l, rfl⟩ : ∃ l, z = .int l := ⟨_, whole_int hw⟩
                  simp only [wS, wE, wA, wO, wI, seqK_next, seqK_ret, fnK_ret, fnK_next, oP_some, oP_none, bP_bool, List.map_cons, List.map_nil, List.length_cons, List.length_nil, List.reduceReplicate, List.cons_append, List.nil_append, List.getD_cons_zero, List.getD_cons_succ, List.set_cons_zero, List.set_cons_succ, Nat.reduceAdd, Nat.reduceSub, Nat.zero_add, bindT_nm, bindT_tup, bindTs_nil, bindTs_cons, Option.bind_some, tgSlots, wipeE, List.append_nil, Bool.not_true, Bool.not_false, Bool.false_eq_true, if_true, if_false, reduceIte, Bool.or_true, Bool.or_false, Bool.true_or, Bool.false_or, true_and, and_true, cmp_le, ix_tup, at_c2]
                  have er : wIn 1 k (.int l) = (decide (1 ≤ l) && decide (l ≤ k)) := rfl
                  cases h1 : decide ((1 : Int) ≤ l) with
                  | false => simp [tkD, er, h1]
                  | true =>
                    cases h2 : decide (l ≤ k) with
                    | false => simp [tkD, er, h1, h2]
                    | true =>
                      simp only [if_true, oP_some, bP_bool]
                      obtain ⟨g, hg, rfl⟩ := part_enc (by omega) hpa
                      have hgl : (gI g).length ≤ 10 := by unfold gI; rw [List.length_map]; exact (gP_spec (by omega) hg).2.2.1
                      have e := s_fails_solid c.ho (by omega) (show m ≤ 8 by omega) c.ol (k := k) (n := t) (by omega) (cms := cms) (by omega) hi8 hgl l
                      rw [← encG_gI] at e
                      unfold coD
                      rw [e]
                      simp [tkD, er, h1, h2, hi, hlo, wIx_wW i hi8, hpa, oI_enc, vI]
      | _ => simp [isiD, tkD]
  | none => simp [isiD, tkD, PyData.plain]
  | bool _ => simp [isiD, tkD, PyData.plain]
  | int _ => simp [isiD, tkD, PyData.plain]
  | str _ => simp [isiD, tkD, PyData.plain]
  | list _ => simp [isiD, tkD, hp]
  | dict _ => simp [isiD, tkD, hp]
end
end EV.Law
end

section
set_option Elab.async false
set_option linter.all false
set_option autoImplicit false
set_option maxRecDepth 100000
set_option maxHeartbeats 1000000
namespace EV.Law
open PySem EV
section
variable {m k : Int} {os : List D} {cms : List Int} (c : CT m k os cms)
include c
theorem tk_cases {v : D} (h : tkD m k os cms v = true) : (∃ (i : Nat) (c' : Int), i < 8 ∧ isLo i = true ∧ (0 ≤ c' ∧ c' < m) ∧ v = .tuple [.str (wW i), .int c']) ∨
    ∃ (i : Nat) (g : List Nat) (l : Int), i < 8 ∧ isLo i = false ∧ g ∈ (gL m.toNat).drop 1 ∧ (1 ≤ l ∧ l ≤ k) ∧ v = .tuple [.str (wW i), encG g, .int l] := by
  have a1 := c.m1
  unfold tkD at h
  split at h
  · rename_i x y r
    rw [Bool.and_eq_true] at h
    obtain ⟨hi, h⟩ := h
    obtain ⟨i, hi8, rfl⟩ := inW_of hi
    rw [wIx_wW i hi8] at h
    cases hlo : isLo i with
    | true =>
      rw [if_pos hlo] at h
      simp only [Bool.and_eq_true] at h
      obtain ⟨h1, h2, h3⟩ := h
      cases r with
      | cons _ _ => cases h1
      | nil =>
        obtain ⟨c', rfl⟩ := inR_int h2
        exact .inl ⟨i, c', hi8, hlo, inR_b h2, rfl⟩
    | false =>
      rw [if_neg (by rw [hlo]; decide)] at h
      split at h
      · rename_i l
        simp only [Bool.and_eq_true] at h
        obtain ⟨h1, h2, h3⟩ := h
        obtain ⟨g, hg, rfl⟩ := part_enc (by omega) h1
        cases l with
        | int l =>
          simp only [wIn, Bool.and_eq_true, decide_eq_true_eq] at h2
          exact .inr ⟨i, g, l, hi8, hlo, hg, h2, rfl⟩
        | _ => cases h2
      · cases h
  · cases h
theorem s_lobj {n : Nat} (hn : 2 ≤ n) {v : D} (hv : gd 1000 20 v = true) (P : D → Prop) (X : XP) : Run T 2000 n f_law_objects [prD m k os, coD cms, v] P X ↔ P (.bool (tkD m k os cms v)) := by
  have a1 := c.m1
  have a2 := c.m6
  have a3 := c.k1
  have a4 := c.km
  have a5 := c.cl
  by_cases hL : ∃ (i : Nat) (c' : Int), i < 8 ∧ isLo i = true ∧ (0 ≤ c' ∧ c' < m) ∧ v = .tuple [.str (wW i), .int c']
  · obtain ⟨i, c', hi, hlo, ⟨h1, h2⟩, rfl⟩ := hL
    unfold prD coD
    rw [s_objL c.ho (by omega) (by omega) c.ol hn (by omega) hi hlo h1 h2]
    simp [tkD, inR, inW_wW hi, wIx_wW i hi, hlo, h1, h2, vI]
  by_cases hS : ∃ (i : Nat) (g : List Nat) (l : Int), i < 8 ∧ isLo i = false ∧ g ∈ (gL m.toNat).drop 1 ∧ (1 ≤ l ∧ l ≤ k) ∧ v = .tuple [.str (wW i), encG g, .int l]
  · obtain ⟨i, g, l, hi, hlo, hg, ⟨h1, h2⟩, rfl⟩ := hS
    unfold prD coD
    rw [s_objS c.ho (by omega) (by omega) c.ol hn (by omega) c.nd hi hlo hg h1 h2]
    simp [tkD, wIn, inW_wW hi, wIx_wW i hi, hlo, h1, h2, vI, enc_part (by omega) (by omega) hg, oI_enc]
  have ht : tkD m k os cms v = false := by
    cases q : tkD m k os cms v with
    | false => rfl
    | true => rcases tk_cases c q with h | h <;> contradiction
  rw [ht]
  obtain ⟨t, rfl⟩ : ∃ t, n = t + 1 := ⟨n - 1, by omega⟩
  have hfi := gd_fine (by omega) hv
  have hp := fine.pl hfi
  refine Run.val (run_of (fi := i__law_objects) rfl rfl ?_) P X
  simp only [i__law_objects]
  rw [oe0]
  simp only [sHd, sTl, oh0, b__law_objects]
  simp only [wS, wE, wA, wO, wI, seqK_next, seqK_ret, fnK_ret, fnK_next, oP_some, oP_none, bP_bool, List.map_cons, List.map_nil, List.length_cons, List.length_nil, List.reduceReplicate, List.cons_append, List.nil_append, List.getD_cons_zero, List.getD_cons_succ, List.set_cons_zero, List.set_cons_succ, Nat.reduceAdd, Nat.reduceSub, Nat.zero_add, bindT_nm, bindT_tup, bindTs_nil, bindTs_cons, Option.bind_some, tgSlots, wipeE, List.append_nil, Bool.not_true, Bool.not_false, Bool.false_eq_true, if_true, if_false, reduceIte, Bool.or_true, Bool.or_false, Bool.true_or, Bool.false_or, true_and, and_true]
  cases v with
  | tuple ds =>
    obtain ⟨hl, hf⟩ := fine.tup hfi
    match ds, hf, hp, hL, hS, hv with
    | [], _, hp, _, _, _ => simp [isiD, biD, cmp_lt, hp]
    | [_], _, hp, _, _, _ => simp [isiD, biD, cmp_lt, hp]
    | x :: y :: r, hf, hp, hL, hS, hv =>
      have hx := hf x (by simp)
      have hy := hf y (by simp)
      have hxp := fine.pl hx
      simp only [wS, wE, wA, wO, wI, seqK_next, seqK_ret, fnK_ret, fnK_next, oP_some, oP_none, bP_bool, List.map_cons, List.map_nil, List.length_cons, List.length_nil, List.reduceReplicate, List.cons_append, List.nil_append, List.getD_cons_zero, List.getD_cons_succ, List.set_cons_zero, List.set_cons_succ, Nat.reduceAdd, Nat.reduceSub, Nat.zero_add, bindT_nm, bindT_tup, bindTs_nil, bindTs_cons, Option.bind_some, tgSlots, wipeE, List.append_nil, Bool.not_true, Bool.not_false, Bool.false_eq_true, if_true, if_false, reduceIte, Bool.or_true, Bool.or_false, Bool.true_or, Bool.false_or, true_and, and_true, isi_tt, len_tup, cmp_lt, lt2_no, ix_tup, at_c0]
      refine ⟨hp, hxp, ?_⟩
      cases x with
      | str x =>
        simp only [wS, wE, wA, wO, wI, seqK_next, seqK_ret, fnK_ret, fnK_next, oP_some, oP_none, bP_bool, List.map_cons, List.map_nil, List.length_cons, List.length_nil, List.reduceReplicate, List.cons_append, List.nil_append, List.getD_cons_zero, List.getD_cons_succ, List.set_cons_zero, List.set_cons_succ, Nat.reduceAdd, Nat.reduceSub, Nat.zero_add, bindT_nm, bindT_tup, bindTs_nil, bindTs_cons, Option.bind_some, tgSlots, wipeE, List.append_nil, Bool.not_true, Bool.not_false, Bool.false_eq_true, if_true, if_false, reduceIte, Bool.or_true, Bool.or_false, Bool.true_or, Bool.false_or, true_and, and_true, isi_ss]
        rw [s_lwords (by omega), W8_L, nin_strL]
        cases hi : inW x with
        | false =>
          have hi' : (W8.any fun z => z == x) = false := hi
          simp [hi']
        | true =>
          have hi' : (W8.any fun z => z == x) = true := hi
          obtain ⟨i, hi8, rfl⟩ := inW_of hi
          simp only [wS, wE, wA, wO, wI, seqK_next, seqK_ret, fnK_ret, fnK_next, oP_some, oP_none, bP_bool, List.map_cons, List.map_nil, List.length_cons, List.length_nil, List.reduceReplicate, List.cons_append, List.nil_append, List.getD_cons_zero, List.getD_cons_succ, List.set_cons_zero, List.set_cons_succ, Nat.reduceAdd, Nat.reduceSub, Nat.zero_add, bindT_nm, bindT_tup, bindTs_nil, bindTs_cons, Option.bind_some, tgSlots, wipeE, List.append_nil, Bool.not_true, Bool.not_false, Bool.false_eq_true, if_true, if_false, reduceIte, Bool.or_true, Bool.or_false, Bool.true_or, Bool.false_or, true_and, and_true, hi']
          rw [oe1]
          simp only [sHd, sTl, oh1, ob1, b__law_objects]
          unfold prD
          simp only [wS, wE, wA, wO, wI, seqK_next, seqK_ret, fnK_ret, fnK_next, oP_some, oP_none, bP_bool, List.map_cons, List.map_nil, List.length_cons, List.length_nil, List.reduceReplicate, List.cons_append, List.nil_append, List.getD_cons_zero, List.getD_cons_succ, List.set_cons_zero, List.set_cons_succ, Nat.reduceAdd, Nat.reduceSub, Nat.zero_add, bindT_nm, bindT_tup, bindTs_nil, bindTs_cons, Option.bind_some, tgSlots, wipeE, List.append_nil, Bool.not_true, Bool.not_false, Bool.false_eq_true, if_true, if_false, reduceIte, Bool.or_true, Bool.or_false, Bool.true_or, Bool.false_or, true_and, and_true, ix_tup, at_c0, at_c1, at_c2]
          rw [oe2]
          simp only [sHd, sTl, oh2, ob1, ob2, b__law_objects]
          simp only [wS, wE, wA, wO, wI, seqK_next, seqK_ret, fnK_ret, fnK_next, oP_some, oP_none, bP_bool, List.map_cons, List.map_nil, List.length_cons, List.length_nil, List.reduceReplicate, List.cons_append, List.nil_append, List.getD_cons_zero, List.getD_cons_succ, List.set_cons_zero, List.set_cons_succ, Nat.reduceAdd, Nat.reduceSub, Nat.zero_add, bindT_nm, bindT_tup, bindTs_nil, bindTs_cons, Option.bind_some, tgSlots, wipeE, List.append_nil, Bool.not_true, Bool.not_false, Bool.false_eq_true, if_true, if_false, reduceIte, Bool.or_true, Bool.or_false, Bool.true_or, Bool.false_or, true_and, and_true, w_lo2 hi8, len_tup, cmp_ne_int]
          cases hlo : isLo i with
          | true =>
            simp only [if_true]
            cases r with
            | cons z r =>
              have e : decide (((r.length + 1 + 1 + 1 : Nat) : Int) = 2) = false := decide_eq_false (by omega)
              simp only [wS, wE, wA, wO, wI, seqK_next, seqK_ret, fnK_ret, fnK_next, oP_some, oP_none, bP_bool, List.map_cons, List.map_nil, List.length_cons, List.length_nil, List.reduceReplicate, List.cons_append, List.nil_append, List.getD_cons_zero, List.getD_cons_succ, List.set_cons_zero, List.set_cons_succ, Nat.reduceAdd, Nat.reduceSub, Nat.zero_add, bindT_nm, bindT_tup, bindTs_nil, bindTs_cons, Option.bind_some, tgSlots, wipeE, List.append_nil, Bool.not_true, Bool.not_false, Bool.false_eq_true, if_true, if_false, reduceIte, Bool.or_true, Bool.or_false, Bool.true_or, Bool.false_or, true_and, and_true, e]
            | nil =>
              have es : binD .sub (.int m) (.int 1) = some (.int (m - 1)) := rfl
              simp only [wS, wE, wA, wO, wI, seqK_next, seqK_ret, fnK_ret, fnK_next, oP_some, oP_none, bP_bool, List.map_cons, List.map_nil, List.length_cons, List.length_nil, List.reduceReplicate, List.cons_append, List.nil_append, List.getD_cons_zero, List.getD_cons_succ, List.set_cons_zero, List.set_cons_succ, Nat.reduceAdd, Nat.reduceSub, Nat.zero_add, bindT_nm, bindT_tup, bindTs_nil, bindTs_cons, Option.bind_some, tgSlots, wipeE, List.append_nil, Bool.not_true, Bool.not_false, Bool.false_eq_true, if_true, if_false, reduceIte, Bool.or_true, Bool.or_false, Bool.true_or, Bool.false_or, true_and, and_true, ne2_nil, ix_tup, at_c1, es]
              rw [s_lwhole (by omega) hy, wIn_inR]
              have hin : inR m y = false := by
                cases q : inR m y with
                | false => rfl
                | true =>
                  obtain ⟨c', rfl⟩ := inR_int q
                  exact absurd ⟨i, c', hi8, hlo, inR_b q, rfl⟩ hL
              simp [hin]
          | false =>
            simp only [Bool.false_eq_true, if_false]
            rw [oe3]
            simp only [sHd, sTl, oh3, ob1, ob2, ob3, b__law_objects]
            match r, hf, hS, hv with
            | [], _, _, _ =>
              simp only [wS, wE, wA, wO, wI, seqK_next, seqK_ret, fnK_ret, fnK_next, oP_some, oP_none, bP_bool, List.map_cons, List.map_nil, List.length_cons, List.length_nil, List.reduceReplicate, List.cons_append, List.nil_append, List.getD_cons_zero, List.getD_cons_succ, List.set_cons_zero, List.set_cons_succ, Nat.reduceAdd, Nat.reduceSub, Nat.zero_add, bindT_nm, bindT_tup, bindTs_nil, bindTs_cons, Option.bind_some, tgSlots, wipeE, List.append_nil, Bool.not_true, Bool.not_false, Bool.false_eq_true, if_true, if_false, reduceIte, Bool.or_true, Bool.or_false, Bool.true_or, Bool.false_or, true_and, and_true, len_tup, cmp_ne_int]
              simp [ne3_nil]
            | z :: u :: r, _, _, _ =>
              have e : decide (((r.length + 1 + 1 + 1 + 1 : Nat) : Int) = 3) = false := decide_eq_false (by omega)
              simp only [wS, wE, wA, wO, wI, seqK_next, seqK_ret, fnK_ret, fnK_next, oP_some, oP_none, bP_bool, List.map_cons, List.map_nil, List.length_cons, List.length_nil, List.reduceReplicate, List.cons_append, List.nil_append, List.getD_cons_zero, List.getD_cons_succ, List.set_cons_zero, List.set_cons_succ, Nat.reduceAdd, Nat.reduceSub, Nat.zero_add, bindT_nm, bindT_tup, bindTs_nil, bindTs_cons, Option.bind_some, tgSlots, wipeE, List.append_nil, Bool.not_true, Bool.not_false, Bool.false_eq_true, if_true, if_false, reduceIte, Bool.or_true, Bool.or_false, Bool.true_or, Bool.false_or, true_and, and_true, len_tup, cmp_ne_int, e]
            | [z], hf, hS, hv =>
              have hz := hf z (by simp)
              have hyd := gd_mem hv y (by simp)
              have hyp := fine.pl hy
              simp only [wS, wE, wA, wO, wI, seqK_next, seqK_ret, fnK_ret, fnK_next, oP_some, oP_none, bP_bool, List.map_cons, List.map_nil, List.length_cons, List.length_nil, List.reduceReplicate, List.cons_append, List.nil_append, List.getD_cons_zero, List.getD_cons_succ, List.set_cons_zero, List.set_cons_succ, Nat.reduceAdd, Nat.reduceSub, Nat.zero_add, bindT_nm, bindT_tup, bindTs_nil, bindTs_cons, Option.bind_some, tgSlots, wipeE, List.append_nil, Bool.not_true, Bool.not_false, Bool.false_eq_true, if_true, if_false, reduceIte, Bool.or_true, Bool.or_false, Bool.true_or, Bool.false_or, true_and, and_true, len_tup, cmp_ne_int, ne3_one, ix_tup, at_c0, at_c1, at_c2]
              refine ⟨hyp, ?_⟩
              cases y with
              | tuple cs =>
                obtain ⟨_, hcf⟩ := fine.tup hy
                simp only [wS, wE, wA, wO, wI, seqK_next, seqK_ret, fnK_ret, fnK_next, oP_some, oP_none, bP_bool, List.map_cons, List.map_nil, List.length_cons, List.length_nil, List.reduceReplicate, List.cons_append, List.nil_append, List.getD_cons_zero, List.getD_cons_succ, List.set_cons_zero, List.set_cons_succ, Nat.reduceAdd, Nat.reduceSub, Nat.zero_add, bindT_nm, bindT_tup, bindTs_nil, bindTs_cons, Option.bind_some, tgSlots, wipeE, List.append_nil, Bool.not_true, Bool.not_false, Bool.false_eq_true, if_true, if_false, reduceIte, Bool.or_true, Bool.or_false, Bool.true_or, Bool.false_or, true_and, and_true, isi_tt]
                rw [s_lparts (by omega) (by omega) (by omega)]
                have ho : okIn (.tuple cs) (grL m.toNat) = true := by
                  unfold okIn
                  rw [gr_plain, hyp]
                  have := gd_depth hyd
                  simp
                  omega
                have en : cmpD .nin (.tuple cs) (.list (grL m.toNat)) = some (!(grL m.toNat).any fun w => PyData.eqv w (.tuple cs)) := by simp only [cmpD, ho, if_true]
                rw [en]
                cases hany : (grL m.toNat).any fun w => PyData.eqv w (.tuple cs) with
                | false => simp
                | true =>
                  simp only [Bool.not_true, oP_some, bP_bool, Bool.false_eq_true, if_false]
                  rw [s_lwhole (by omega) hz]
                  cases hwl : wIn 1 k z with
                  | false => simp
                  | true =>
                    simp only [Bool.not_true, bP_bool, Bool.false_eq_true, if_false]
                    have hnb : noB cs = false := by
                      cases q : noB cs with
                      | false => rfl
                      | true =>
                        rw [grL_in (by omega) (by omega) q] at hany
                        obtain ⟨g, hg, e⟩ := part_enc (by omega) hany
                        cases z with
                        | int l =>
                          simp only [wIn, Bool.and_eq_true, decide_eq_true_eq] at hwl
                          exact absurd ⟨i, g, l, hi8, hlo, hg, hwl, by rw [e]⟩ hS
                        | _ => cases hwl
                    rw [oe4]
                    simp only [sHd, sTl, oh4, ob1, ob2, ob3, ob4, b__law_objects]
                    simp only [wS, wE, wA, wO, wI, seqK_next, seqK_ret, fnK_ret, fnK_next, oP_some, oP_none, bP_bool, List.map_cons, List.map_nil, List.length_cons, List.length_nil, List.reduceReplicate, List.cons_append, List.nil_append, List.getD_cons_zero, List.getD_cons_succ, List.set_cons_zero, List.set_cons_succ, Nat.reduceAdd, Nat.reduceSub, Nat.zero_add, bindT_nm, bindT_tup, bindTs_nil, bindTs_cons, Option.bind_some, tgSlots, wipeE, List.append_nil, Bool.not_true, Bool.not_false, Bool.false_eq_true, if_true, if_false, reduceIte, Bool.or_true, Bool.or_false, Bool.true_or, Bool.false_or, true_and, and_true, it_tup, ix_tup, at_c0, at_c1, at_c2]
                    refine ⟨by have := (fine.tup hy).1; show _ ≤ 1000000; omega, ?_⟩
                    refine (wC_noB hcf _).mpr ?_
                    rw [bad_row hcf, noB_fil, hnb]
                    simp
              | _ => simp [isiD]
      | _ => simp [isiD]
  | none => simp [isiD, PyData.plain]
  | bool _ => simp [isiD, PyData.plain]
  | int _ => simp [isiD, PyData.plain]
  | str _ => simp [isiD, PyData.plain]
  | list _ => simp [isiD, hp]
  | dict _ => simp [isiD, hp]
end
end EV.Law
end

section
set_option Elab.async false
set_option linter.all false
set_option autoImplicit false
set_option maxRecDepth 100000
set_option maxHeartbeats 1000000
namespace EV.Law
open PySem EV
theorem oP_i {α : Type} {o : Option α} {a : α} {P : α → Prop} (h : o = some a) (k : P a) : oP o P := by rw [h]; exact k
/-! ### solid, and calls that are Malformed -/
theorem m_psolid {n : Nat} (hn : 5 ≤ n) {m k : Int} {os : List D} {v : D} (hp : fine (prD m k os) = true) (h : isProfile (prD m k os) = true) (hv : fine v = true) (hs : isPart m v = false) : Run T 2000 n fsolid [prD m k os, v] (fun _ => False) malx := by
  obtain ⟨t, rfl⟩ : ∃ t, n = t + 1 := ⟨n - 1, by omega⟩
  refine run_of (fi := i_solid) rfl rfl ?_
  simp only [i_solid, b_solid]
  simp only [wS, wE, wA, wO, wI, seqK_next, seqK_ret, fnK_ret, fnK_next, oP_some, oP_none, bP_bool, List.map_cons, List.map_nil, List.length_cons, List.length_nil, List.reduceReplicate, List.cons_append, List.nil_append, List.getD_cons_zero, List.getD_cons_succ, List.set_cons_zero, List.set_cons_succ, Nat.reduceAdd, Nat.reduceSub, Nat.zero_add, bindT_nm, bindT_tup, bindTs_nil, bindTs_cons, Option.bind_some, tgSlots, wipeE, List.append_nil, Bool.not_true, Bool.not_false, Bool.false_eq_true, if_true, if_false, reduceIte, Bool.or_true, Bool.or_false, Bool.true_or, Bool.false_or, true_and, and_true]
  rw [s_check_profile (by omega) hp h]
  unfold prD
  rw [s_is_part (by omega) hv, hs]
  simp only [wS, wE, wA, wO, wI, seqK_next, seqK_ret, fnK_ret, fnK_next, oP_some, oP_none, bP_bool, List.map_cons, List.map_nil, List.length_cons, List.length_nil, List.reduceReplicate, List.cons_append, List.nil_append, List.getD_cons_zero, List.getD_cons_succ, List.set_cons_zero, List.set_cons_succ, Nat.reduceAdd, Nat.reduceSub, Nat.zero_add, bindT_nm, bindT_tup, bindTs_nil, bindTs_cons, Option.bind_some, tgSlots, wipeE, List.append_nil, Bool.not_true, Bool.not_false, Bool.false_eq_true, if_true, if_false, reduceIte, Bool.or_true, Bool.or_false, Bool.true_or, Bool.false_or, true_and, and_true]
  exact trivial
section
variable {m k : Int} {os : List D} {cms : List Int} (c : CT m k os cms)
include c
theorem s_psolid {n : Nat} (hn : 5 ≤ n) {g : List Nat} (hg : g ∈ (gL m.toNat).drop 1) (P : D → Prop) (X : XP) : Run T 2000 n fsolid [prD m k os, encG g] P X ↔ P (.int (solN (gI g) os : Nat)) := by
  obtain ⟨t, rfl⟩ : ∃ t, n = t + 1 := ⟨n - 1, by omega⟩
  have a1 := c.m1
  have a2 := c.m6
  have hgl : (gI g).length ≤ 10 := by unfold gI; rw [List.length_map]; exact (gP_spec (by omega) hg).2.2.1
  have hgf : fine (encG g) = true := by
    rw [encG_gI]
    refine fine_tup (by rw [List.length_map]; omega) fun d hd => ?_
    obtain ⟨x, _, rfl⟩ := List.mem_map.mp hd
    rfl
  refine Run.val (run_of (fi := i_solid) rfl rfl ?_) P X
  simp only [i_solid, b_solid]
  simp only [wS, wE, wA, wO, wI, seqK_next, seqK_ret, fnK_ret, fnK_next, oP_some, oP_none, bP_bool, List.map_cons, List.map_nil, List.length_cons, List.length_nil, List.reduceReplicate, List.cons_append, List.nil_append, List.getD_cons_zero, List.getD_cons_succ, List.set_cons_zero, List.set_cons_succ, Nat.reduceAdd, Nat.reduceSub, Nat.zero_add, bindT_nm, bindT_tup, bindTs_nil, bindTs_cons, Option.bind_some, tgSlots, wipeE, List.append_nil, Bool.not_true, Bool.not_false, Bool.false_eq_true, if_true, if_false, reduceIte, Bool.or_true, Bool.or_false, Bool.true_or, Bool.false_or, true_and, and_true]
  rw [s_check_profile (by omega) (fn6_f (fR c)) c.pr]
  unfold prD
  rw [s_is_part (by omega) hgf, enc_part (by omega) (by omega) hg]
  simp only [wS, wE, wA, wO, wI, seqK_next, seqK_ret, fnK_ret, fnK_next, oP_some, oP_none, bP_bool, List.map_cons, List.map_nil, List.length_cons, List.length_nil, List.reduceReplicate, List.cons_append, List.nil_append, List.getD_cons_zero, List.getD_cons_succ, List.set_cons_zero, List.set_cons_succ, Nat.reduceAdd, Nat.reduceSub, Nat.zero_add, bindT_nm, bindT_tup, bindTs_nil, bindTs_cons, Option.bind_some, tgSlots, wipeE, List.append_nil, Bool.not_true, Bool.not_false, Bool.false_eq_true, if_true, if_false, reduceIte, Bool.or_true, Bool.or_false, Bool.true_or, Bool.false_or, true_and, and_true]
  rw [encG_gI, s_solid c.ho (by omega) (by omega) c.ol (by omega) hgl]
theorem s_plsolid {n : Nat} (hn : 1 ≤ n) {g : List Nat} (hg : g ∈ (gL m.toNat).drop 1) (P : D → Prop) (X : XP) : Run T 2000 n f_law_solid [prD m k os, encG g] P X ↔ P (.int (solN (gI g) os : Nat)) := by
  have a1 := c.m1
  have a2 := c.m6
  have hs := gP_spec (by omega) hg
  have hgl : (gI g).length ≤ 10 := by unfold gI; rw [List.length_map]; exact hs.2.2.1
  unfold prD
  rw [encG_gI, s_lsolid c.ho (by omega) (by omega) c.ol hn hgl (gI_pw hs.2.2.2)]
end
theorem mA_obj {n : Nat} (hn : 6 ≤ n) {p v w : D} (hp : fine p = true) (h : isProfile p = false) : Run T 2000 n fwish_objection [p, v, w] (fun _ => False) malx := by
  obtain ⟨t, rfl⟩ : ∃ t, n = t + 1 := ⟨n - 1, by omega⟩
  refine run_of (fi := i_wish_objection) rfl rfl ?_
  simp only [i_wish_objection, b_wish_objection]
  simp only [wS, wE, wA, wO, wI, seqK_next, seqK_ret, fnK_ret, fnK_next, oP_some, oP_none, bP_bool, List.map_cons, List.map_nil, List.length_cons, List.length_nil, List.reduceReplicate, List.cons_append, List.nil_append, List.getD_cons_zero, List.getD_cons_succ, List.set_cons_zero, List.set_cons_succ, Nat.reduceAdd, Nat.reduceSub, Nat.zero_add, bindT_nm, bindT_tup, bindTs_nil, bindTs_cons, Option.bind_some, tgSlots, wipeE, List.append_nil, Bool.not_true, Bool.not_false, Bool.false_eq_true, if_true, if_false, reduceIte, Bool.or_true, Bool.or_false, Bool.true_or, Bool.false_or, true_and, and_true]
  rw [m_check_seated0 (by omega) hp h]
  exact trivial
theorem mA_not {n : Nat} (hn : 6 ≤ n) {p v : D} (hp : fine p = true) (h : isProfile p = false) : Run T 2000 n fwish_notions [p, v] (fun _ => False) malx := by
  obtain ⟨t, rfl⟩ : ∃ t, n = t + 1 := ⟨n - 1, by omega⟩
  refine run_of (fi := i_wish_notions) rfl rfl ?_
  simp only [i_wish_notions, b_wish_notions]
  simp only [wS, wE, wA, wO, wI, seqK_next, seqK_ret, fnK_ret, fnK_next, oP_some, oP_none, bP_bool, List.map_cons, List.map_nil, List.length_cons, List.length_nil, List.reduceReplicate, List.cons_append, List.nil_append, List.getD_cons_zero, List.getD_cons_succ, List.set_cons_zero, List.set_cons_succ, Nat.reduceAdd, Nat.reduceSub, Nat.zero_add, bindT_nm, bindT_tup, bindTs_nil, bindTs_cons, Option.bind_some, tgSlots, wipeE, List.append_nil, Bool.not_true, Bool.not_false, Bool.false_eq_true, if_true, if_false, reduceIte, Bool.or_true, Bool.or_false, Bool.true_or, Bool.false_or, true_and, and_true]
  rw [m_check_seated0 (by omega) hp h]
  exact trivial
theorem mA_takes {n : Nat} (hn : 6 ≤ n) {p v w : D} (hp : fine p = true) (h : isProfile p = false) : Run T 2000 n ftakes_wish_objection [p, v, w] (fun _ => False) malx := by
  obtain ⟨t, rfl⟩ : ∃ t, n = t + 1 := ⟨n - 1, by omega⟩
  refine run_of (fi := i_takes_wish_objection) rfl rfl ?_
  simp only [i_takes_wish_objection, b_takes_wish_objection]
  simp only [wS, wE, wA, wO, wI, seqK_next, seqK_ret, fnK_ret, fnK_next, oP_some, oP_none, bP_bool, List.map_cons, List.map_nil, List.length_cons, List.length_nil, List.reduceReplicate, List.cons_append, List.nil_append, List.getD_cons_zero, List.getD_cons_succ, List.set_cons_zero, List.set_cons_succ, Nat.reduceAdd, Nat.reduceSub, Nat.zero_add, bindT_nm, bindT_tup, bindTs_nil, bindTs_cons, Option.bind_some, tgSlots, wipeE, List.append_nil, Bool.not_true, Bool.not_false, Bool.false_eq_true, if_true, if_false, reduceIte, Bool.or_true, Bool.or_false, Bool.true_or, Bool.false_or, true_and, and_true]
  rw [m_check_seated0 (by omega) hp h]
  exact trivial
theorem mA_wished {n : Nat} (hn : 6 ≤ n) {p w : D} (hp : fine p = true) (h : isProfile p = false) : Run T 2000 n fwished_committees [p, w] (fun _ => False) malx := by
  obtain ⟨t, rfl⟩ : ∃ t, n = t + 1 := ⟨n - 1, by omega⟩
  refine run_of (fi := i_wished_committees) rfl rfl ?_
  simp only [i_wished_committees, b_wished_committees]
  simp only [wS, wE, wA, wO, wI, seqK_next, seqK_ret, fnK_ret, fnK_next, oP_some, oP_none, bP_bool, List.map_cons, List.map_nil, List.length_cons, List.length_nil, List.reduceReplicate, List.cons_append, List.nil_append, List.getD_cons_zero, List.getD_cons_succ, List.set_cons_zero, List.set_cons_succ, Nat.reduceAdd, Nat.reduceSub, Nat.zero_add, bindT_nm, bindT_tup, bindTs_nil, bindTs_cons, Option.bind_some, tgSlots, wipeE, List.append_nil, Bool.not_true, Bool.not_false, Bool.false_eq_true, if_true, if_false, reduceIte, Bool.or_true, Bool.or_false, Bool.true_or, Bool.false_or, true_and, and_true]
  rw [m_check_profile (by omega) hp h]
  exact trivial
theorem mA_solid {n : Nat} (hn : 6 ≤ n) {p v : D} (hp : fine p = true) (h : isProfile p = false) : Run T 2000 n fsolid [p, v] (fun _ => False) malx := by
  obtain ⟨t, rfl⟩ : ∃ t, n = t + 1 := ⟨n - 1, by omega⟩
  refine run_of (fi := i_solid) rfl rfl ?_
  simp only [i_solid, b_solid]
  simp only [wS, wE, wA, wO, wI, seqK_next, seqK_ret, fnK_ret, fnK_next, oP_some, oP_none, bP_bool, List.map_cons, List.map_nil, List.length_cons, List.length_nil, List.reduceReplicate, List.cons_append, List.nil_append, List.getD_cons_zero, List.getD_cons_succ, List.set_cons_zero, List.set_cons_succ, Nat.reduceAdd, Nat.reduceSub, Nat.zero_add, bindT_nm, bindT_tup, bindTs_nil, bindTs_cons, Option.bind_some, tgSlots, wipeE, List.append_nil, Bool.not_true, Bool.not_false, Bool.false_eq_true, if_true, if_false, reduceIte, Bool.or_true, Bool.or_false, Bool.true_or, Bool.false_or, true_and, and_true]
  rw [m_check_profile (by omega) hp h]
  exact trivial
theorem mA_quota {n : Nat} (hn : 6 ≤ n) {p : D} (hp : fine p = true) (h : isProfile p = false) : Run T 2000 n fquota_of [p] (fun _ => False) malx := by
  obtain ⟨t, rfl⟩ : ∃ t, n = t + 1 := ⟨n - 1, by omega⟩
  refine run_of (fi := i_quota_of) rfl rfl ?_
  simp only [i_quota_of, b_quota_of]
  simp only [wS, wE, wA, wO, wI, seqK_next, seqK_ret, fnK_ret, fnK_next, oP_some, oP_none, bP_bool, List.map_cons, List.map_nil, List.length_cons, List.length_nil, List.reduceReplicate, List.cons_append, List.nil_append, List.getD_cons_zero, List.getD_cons_succ, List.set_cons_zero, List.set_cons_succ, Nat.reduceAdd, Nat.reduceSub, Nat.zero_add, bindT_nm, bindT_tup, bindTs_nil, bindTs_cons, Option.bind_some, tgSlots, wipeE, List.append_nil, Bool.not_true, Bool.not_false, Bool.false_eq_true, if_true, if_false, reduceIte, Bool.or_true, Bool.or_false, Bool.true_or, Bool.false_or, true_and, and_true]
  rw [m_check_profile (by omega) hp h]
  exact trivial
section
variable {m k : Int} {os : List D} {v : D} (hp : fine (prD m k os) = true) (h : isProfile (prD m k os) = true) (hv : fine v = true) (hs : isSeated m k v = false)
include hp h hv hs
theorem mB_obj {n : Nat} (hn : 6 ≤ n) {w : D} : Run T 2000 n fwish_objection [prD m k os, v, w] (fun _ => False) malx := by
  obtain ⟨t, rfl⟩ : ∃ t, n = t + 1 := ⟨n - 1, by omega⟩
  refine run_of (fi := i_wish_objection) rfl rfl ?_
  simp only [i_wish_objection, b_wish_objection]
  simp only [wS, wE, wA, wO, wI, seqK_next, seqK_ret, fnK_ret, fnK_next, oP_some, oP_none, bP_bool, List.map_cons, List.map_nil, List.length_cons, List.length_nil, List.reduceReplicate, List.cons_append, List.nil_append, List.getD_cons_zero, List.getD_cons_succ, List.set_cons_zero, List.set_cons_succ, Nat.reduceAdd, Nat.reduceSub, Nat.zero_add, bindT_nm, bindT_tup, bindTs_nil, bindTs_cons, Option.bind_some, tgSlots, wipeE, List.append_nil, Bool.not_true, Bool.not_false, Bool.false_eq_true, if_true, if_false, reduceIte, Bool.or_true, Bool.or_false, Bool.true_or, Bool.false_or, true_and, and_true]
  rw [m_check_seated (by omega) hp h hv hs]
  exact trivial
theorem mB_not {n : Nat} (hn : 6 ≤ n) : Run T 2000 n fwish_notions [prD m k os, v] (fun _ => False) malx := by
  obtain ⟨t, rfl⟩ : ∃ t, n = t + 1 := ⟨n - 1, by omega⟩
  refine run_of (fi := i_wish_notions) rfl rfl ?_
  simp only [i_wish_notions, b_wish_notions]
  simp only [wS, wE, wA, wO, wI, seqK_next, seqK_ret, fnK_ret, fnK_next, oP_some, oP_none, bP_bool, List.map_cons, List.map_nil, List.length_cons, List.length_nil, List.reduceReplicate, List.cons_append, List.nil_append, List.getD_cons_zero, List.getD_cons_succ, List.set_cons_zero, List.set_cons_succ, Nat.reduceAdd, Nat.reduceSub, Nat.zero_add, bindT_nm, bindT_tup, bindTs_nil, bindTs_cons, Option.bind_some, tgSlots, wipeE, List.append_nil, Bool.not_true, Bool.not_false, Bool.false_eq_true, if_true, if_false, reduceIte, Bool.or_true, Bool.or_false, Bool.true_or, Bool.false_or, true_and, and_true]
  rw [m_check_seated (by omega) hp h hv hs]
  exact trivial
theorem mB_takes {n : Nat} (hn : 6 ≤ n) {w : D} : Run T 2000 n ftakes_wish_objection [prD m k os, v, w] (fun _ => False) malx := by
  obtain ⟨t, rfl⟩ : ∃ t, n = t + 1 := ⟨n - 1, by omega⟩
  refine run_of (fi := i_takes_wish_objection) rfl rfl ?_
  simp only [i_takes_wish_objection, b_takes_wish_objection]
  simp only [wS, wE, wA, wO, wI, seqK_next, seqK_ret, fnK_ret, fnK_next, oP_some, oP_none, bP_bool, List.map_cons, List.map_nil, List.length_cons, List.length_nil, List.reduceReplicate, List.cons_append, List.nil_append, List.getD_cons_zero, List.getD_cons_succ, List.set_cons_zero, List.set_cons_succ, Nat.reduceAdd, Nat.reduceSub, Nat.zero_add, bindT_nm, bindT_tup, bindTs_nil, bindTs_cons, Option.bind_some, tgSlots, wipeE, List.append_nil, Bool.not_true, Bool.not_false, Bool.false_eq_true, if_true, if_false, reduceIte, Bool.or_true, Bool.or_false, Bool.true_or, Bool.false_or, true_and, and_true]
  rw [m_check_seated (by omega) hp h hv hs]
  exact trivial
end
section
variable {m k : Int} {os : List D} {cms : List Int} (c : CT m k os cms)
include c
theorem mC_obj {n : Nat} (hn : 6 ≤ n) {w : D} (hf : fine w = true) (hw : isW w = false) : Run T 2000 n fwish_objection [prD m k os, coD cms, w] (fun _ => False) malx := by
  obtain ⟨t, rfl⟩ : ∃ t, n = t + 1 := ⟨n - 1, by omega⟩
  refine run_of (fi := i_wish_objection) rfl rfl ?_
  simp only [i_wish_objection, b_wish_objection]
  simp only [wS, wE, wA, wO, wI, seqK_next, seqK_ret, fnK_ret, fnK_next, oP_some, oP_none, bP_bool, List.map_cons, List.map_nil, List.length_cons, List.length_nil, List.reduceReplicate, List.cons_append, List.nil_append, List.getD_cons_zero, List.getD_cons_succ, List.set_cons_zero, List.set_cons_succ, Nat.reduceAdd, Nat.reduceSub, Nat.zero_add, bindT_nm, bindT_tup, bindTs_nil, bindTs_cons, Option.bind_some, tgSlots, wipeE, List.append_nil, Bool.not_true, Bool.not_false, Bool.false_eq_true, if_true, if_false, reduceIte, Bool.or_true, Bool.or_false, Bool.true_or, Bool.false_or, true_and, and_true]
  rw [s_check_seated (by omega) (fn6_f (fR c)) c.pr (fn6_f (fP c)) c.se]
  rw [m_check_word (by omega) hf hw]
  exact trivial
theorem mC_wished {n : Nat} (hn : 6 ≤ n) {w : D} (hf : fine w = true) (hw : isW w = false) : Run T 2000 n fwished_committees [prD m k os, w] (fun _ => False) malx := by
  obtain ⟨t, rfl⟩ : ∃ t, n = t + 1 := ⟨n - 1, by omega⟩
  refine run_of (fi := i_wished_committees) rfl rfl ?_
  simp only [i_wished_committees, b_wished_committees]
  simp only [wS, wE, wA, wO, wI, seqK_next, seqK_ret, fnK_ret, fnK_next, oP_some, oP_none, bP_bool, List.map_cons, List.map_nil, List.length_cons, List.length_nil, List.reduceReplicate, List.cons_append, List.nil_append, List.getD_cons_zero, List.getD_cons_succ, List.set_cons_zero, List.set_cons_succ, Nat.reduceAdd, Nat.reduceSub, Nat.zero_add, bindT_nm, bindT_tup, bindTs_nil, bindTs_cons, Option.bind_some, tgSlots, wipeE, List.append_nil, Bool.not_true, Bool.not_false, Bool.false_eq_true, if_true, if_false, reduceIte, Bool.or_true, Bool.or_false, Bool.true_or, Bool.false_or, true_and, and_true]
  rw [s_check_profile (by omega) (fn6_f (fR c)) c.pr]
  rw [m_check_word (by omega) hf hw]
  exact trivial
end
theorem c_call {n : Nat} {i : Int} {p v w : D} {X : XP} (h0 : i = 0 → Run T 2000 n fwish_objection [p, v, w] (fun _ => False) X) (h1 : i = 1 → Run T 2000 n fwish_notions [p, v] (fun _ => False) X) (h2 : i = 2 → Run T 2000 n ftakes_wish_objection [p, v, .none] (fun _ => False) X)
    (h3 : i = 3 → Run T 2000 n fwished_committees [p, w] (fun _ => False) X) (h4 : i = 4 → Run T 2000 n fsolid [p, v] (fun _ => False) X) (h5 : 5 ≤ i → Run T 2000 n fquota_of [p] (fun _ => False) X) (hi : 0 ≤ i) :
    Run T 2000 (n + 1) f_law_call [.tuple [.int i, p, v, w]] (fun _ => False) X := by
  refine run_of (fi := i__law_call) rfl rfl ?_
  simp only [i__law_call, b__law_call]
  simp only [wS, wE, wA, wO, wI, seqK_next, seqK_ret, fnK_ret, fnK_next, oP_some, oP_none, bP_bool, List.map_cons, List.map_nil, List.length_cons, List.length_nil, List.reduceReplicate, List.cons_append, List.nil_append, List.getD_cons_zero, List.getD_cons_succ, List.set_cons_zero, List.set_cons_succ, Nat.reduceAdd, Nat.reduceSub, Nat.zero_add, bindT_nm, bindT_tup, bindTs_nil, bindTs_cons, Option.bind_some, tgSlots, wipeE, List.append_nil, Bool.not_true, Bool.not_false, Bool.false_eq_true, if_true, if_false, reduceIte, Bool.or_true, Bool.or_false, Bool.true_or, Bool.false_or, true_and, and_true, cmp_eq_int]
  by_cases e0 : i = 0
  · rw [decide_eq_true e0, if_pos rfl]
    exact Run.imp (h0 e0) (fun d e => e.elim) fun _ h => h
  rw [decide_eq_false e0, if_neg (by decide)]
  by_cases e1 : i = 1
  · rw [decide_eq_true e1, if_pos rfl]
    exact Run.imp (h1 e1) (fun d e => e.elim) fun _ h => h
  rw [decide_eq_false e1, if_neg (by decide)]
  by_cases e2 : i = 2
  · rw [decide_eq_true e2, if_pos rfl]
    exact Run.imp (h2 e2) (fun d e => e.elim) fun _ h => h
  rw [decide_eq_false e2, if_neg (by decide)]
  by_cases e3 : i = 3
  · rw [decide_eq_true e3, if_pos rfl]
    exact Run.imp (h3 e3) (fun d e => e.elim) fun _ h => h
  rw [decide_eq_false e3, if_neg (by decide)]
  by_cases e4 : i = 4
  · rw [decide_eq_true e4, if_pos rfl]
    exact Run.imp (h4 e4) (fun d e => e.elim) fun _ h => h
  rw [decide_eq_false e4, if_neg (by decide)]
  exact Run.imp (h5 (by omega)) (fun d e => e.elim) fun _ h => h
theorem cmp_ne_str (x y : Str) : cmpD .ne (.str x) (.str y) = some (!(x == y)) := by
  simp [cmpD, okEq, PyData.plain, PyData.depth, PyData.eqv]
/-- a profile that is none: each call is Malformed -/
theorem cA {i : Int} (hi : 0 ≤ i) {p v w : D} (hp : fine p = true) (h : isProfile p = false) : Run T 2000 13 f_law_call [.tuple [.int i, p, v, w]] (fun _ => False) malx :=
  c_call (fun _ => mA_obj (by omega) hp h) (fun _ => mA_not (by omega) hp h) (fun _ => mA_takes (by omega) hp h) (fun _ => mA_wished (by omega) hp h) (fun _ => mA_solid (by omega) hp h) (fun _ => mA_quota (by omega) hp h) hi
end EV.Law
end

section
set_option Elab.async false
set_option linter.all false
set_option autoImplicit false
set_option maxRecDepth 100000
set_option maxHeartbeats 4000000
namespace EV.Law
open PySem EV
/-! ### the law's loop over the words -/
def l3a : S := sTl l_law_3
def l3b : S := sTl l3a
def l3c : S := sTl l3b
theorem l3e : l_law_3 = .seq (sHd l_law_3) (.seq (sHd l3a) (.seq (sHd l3b) l3c)) := rfl
theorem enc_sg {m : Int} (hm0 : 0 ≤ m) (hm : m ≤ 6) {g : List Nat} (hg : g ∈ (gL m.toNat).drop 1) : sg 100 1 (encG g) = true := by
  have hs := gP_spec (by omega) hg
  unfold encG
  simp only [sg, Bool.and_eq_true, decide_eq_true_eq, List.length_map, List.all_eq_true]
  refine ⟨by omega, fun d hd => ?_⟩
  obtain ⟨v, _, rfl⟩ := List.mem_map.mp hd
  rfl
theorem sg_trip {w : Str} {e : D} {l : Int} (he : sg 100 1 e = true) : sg 100 2 (.tuple [.str w, e, .int l]) = true := by
  have h1 : sg 100 1 (.str w) = true := rfl
  have h2 : sg 100 1 (.int l) = true := rfl
  simp [sg, he, h1, h2]
theorem gd_trip {w : Str} {e : D} {l : Int} (he : sg 100 1 e = true) : gd 1000 20 (.tuple [.str w, e, .int l]) = true := gd_mono (by omega) (by omega) (sg_gd (sg_trip he))
theorem gd_pair {w : Str} {l : Int} : gd 1000 20 (.tuple [.str w, .int l]) = true := by rfl
theorem obj_sg {m k : Int} {os : List D} {cms : List Int} {i : Nat} {d : D} (hm0 : 0 ≤ m) (hm : m ≤ 6) (h : objD m k os cms i d) : sg 100 2 d = true ∧ isN d = false := by
  rcases h with ⟨_, c, _, rfl, _⟩ | ⟨_, g, hg, q, _, rfl, _⟩
  · exact ⟨rfl, rfl⟩
  · exact ⟨sg_trip (enc_sg hm0 hm hg), rfl⟩
section
variable {m k : Int} {os : List D} {cms : List Int} (c : CT m k os cms) {gp : List Nat} (hgp : gp ∈ (gL m.toNat).drop 1)
include c hgp
theorem t_law3c {i : Nat} (hi : i < 8) {told : D} (ht : told = .none ∨ (sg 100 2 told = true ∧ isN told = false)) {kp : Bool} {kept vals : List D} (hkl : kept.length ≤ 8) (hv : ∀ v ∈ vals, gd 1000 20 v = true) (hvl : vals.length ≤ 100) (u0 u13 u14 u15 u16 u17 u18 u19 u20 u21 u22 u23 u24 u25 u26 : Option D) (Q : Fl → Env → Prop)
    (h : ∀ vals', (∀ v ∈ vals', gd 1000 20 v = true) → vals'.length = vals.length + 7 → ∀ u11 u12 u13 u14, Q .next [u0, some (.dict []), some (prD m k os), some (.int m), some (.tuple os), some (.int k), some (coD cms), some (encG gp), some (.list (kept ++ if kp = true then [.str (wW i)] else [])), some (.list vals'), some (.str (wW i)), u11, u12, u13, u14, u15, u16, u17, u18, u19, u20, u21, u22, u23, u24, u25, u26]) :
    wS (Run T 2000 14) 2000 l3c [u0, some (.dict []), some (prD m k os), some (.int m), some (.tuple os), some (.int k), some (coD cms), some (encG gp), some (.list kept), some (.list vals), some (.str (wW i)), some told, some (.bool kp), u13, u14, u15, u16, u17, u18, u19, u20, u21, u22, u23, u24, u25, u26] Q nox := by
  have a1 := c.m1
  have a2 := c.m6
  have a3 := c.k1
  have a4 := c.km
  simp only [l3c, l3b, l3a, sTl, l_law_3]
  have ek : binD .mul (.list [.str (wW i)]) (.int (if kp = true then 1 else 0)) = some (.list (if kp = true then [.str (wW i)] else [])) := by cases kp <;> rfl
  have ei : biD .int [.bool kp] = some (.int (if kp = true then 1 else 0)) := rfl
  have ea : binD .add (.list kept) (.list (if kp = true then [.str (wW i)] else [])) = some (.list (kept ++ if kp = true then [.str (wW i)] else [])) := add_lst _ _ (by cases kp <;> simp <;> omega)
  simp only [wS, wE, wA, wO, wI, seqK_next, seqK_ret, fnK_ret, fnK_next, oP_some, oP_none, bP_bool, List.map_cons, List.map_nil, List.length_cons, List.length_nil, List.reduceReplicate, List.cons_append, List.nil_append, List.getD_cons_zero, List.getD_cons_succ, List.set_cons_zero, List.set_cons_succ, Nat.reduceAdd, Nat.reduceSub, Nat.zero_add, bindT_nm, bindT_tup, bindTs_nil, bindTs_cons, Option.bind_some, tgSlots, wipeE, List.append_nil, Bool.not_true, Bool.not_false, Bool.false_eq_true, if_true, if_false, reduceIte, Bool.or_true, Bool.or_false, Bool.true_or, Bool.false_or, true_and, and_true, ei, ek, ea]
  refine Run.imp (s_take (by omega) (by omega) (by omega)) (fun x ⟨q, e, q0, q1⟩ => ?_) (fun _ h => h)
  subst e
  have e1 : binD .add (.int 1) (.int q) = some (.int (1 + q)) := rfl
  have hg1 := enc_sg (by omega) a2 hgp
  have e2 : binD .add (.int k) (.int 1) = some (.int (k + 1)) := rfl
  simp only [wS, wE, wA, wO, wI, seqK_next, seqK_ret, fnK_ret, fnK_next, oP_some, oP_none, bP_bool, List.map_cons, List.map_nil, List.length_cons, List.length_nil, List.reduceReplicate, List.cons_append, List.nil_append, List.getD_cons_zero, List.getD_cons_succ, List.set_cons_zero, List.set_cons_succ, Nat.reduceAdd, Nat.reduceSub, Nat.zero_add, bindT_nm, bindT_tup, bindTs_nil, bindTs_cons, Option.bind_some, tgSlots, wipeE, List.append_nil, Bool.not_true, Bool.not_false, Bool.false_eq_true, if_true, if_false, reduceIte, Bool.or_true, Bool.or_false, Bool.true_or, Bool.false_or, true_and, and_true, e1]
  have fin : ∀ b, sg 100 2 b = true → Run T 2000 14 f_law_take [.dict [], .int m] (fun x => oP (binD .add (.int k) (.int 1)) fun x_1 => Run T 2000 14 f_law_bent [.dict [], b] (fun x_2 => oP (binD .add (.list vals) (.list [b, .tuple [.str (wW i), encG gp, .int (1 + q)], .tuple [.str (wW i), x], .tuple [.str (wW i), encG gp, .int 0], .tuple [.str (wW i), encG gp, x_1], .tuple [.str (wW i), .int m], x_2]))
      fun d => Q .next [u0, some (.dict []), some (prD m k os), some (.int m), some (.tuple os), some (.int k), some (coD cms), some (encG gp), some (.list (kept ++ if kp = true then [.str (wW i)] else [])), some d, some (.str (wW i)), some told, some (.bool kp), some (.int (1 + q)), some b, u15, u16, u17, u18, u19, u20, u21, u22, u23, u24, u25, u26]) nox) nox := fun b hb => by
    refine Run.imp (s_take (by omega) (by omega) (by omega)) (fun x ⟨q2, e, q20, q21⟩ => ?_) (fun _ h => h)
    subst e
    refine oP_i e2 ?_
    refine Run.imp (s_bentG (L := 100) (by omega) 2 14 b (by omega) hb) (fun b1 hb1 => ?_) (fun _ h => h)
    refine oP_i (add_lst _ _ (by simp; omega)) ?_
    refine h _ (fun v hv1 => ?_) (by simp) _ _ _ _
    rcases List.mem_append.mp hv1 with hv1 | hv1
    · exact hv v hv1
    · simp only [List.mem_cons, List.not_mem_nil, or_false] at hv1
      rcases hv1 with rfl | rfl | rfl | rfl | rfl | rfl | rfl
      · exact gd_mono (by omega) (by omega) (sg_gd hb)
      · exact gd_trip hg1
      · exact gd_pair
      · exact gd_trip hg1
      · exact gd_trip hg1
      · exact gd_pair
      · exact gd_mono (by omega) (by omega) hb1
  rcases ht with rfl | ⟨h1, h2⟩
  · exact fin _ (sg_trip hg1)
  · have : cmpD .isnt told .none = some true := by
      show some (!isN told) = _
      rw [h2]; rfl
    rw [this]
    exact fin told h1
theorem t_law3 {i : Nat} (hi : i < 8) {kept vals : List D} (hkl : kept.length ≤ 8) (hv : ∀ v ∈ vals, gd 1000 20 v = true) (hvl : vals.length ≤ 100) (u0 u11 u12 u13 u14 u15 u16 u17 u18 u19 u20 u21 u22 u23 u24 u25 u26 : Option D) (Q : Fl → Env → Prop)
    (h : ∀ vals', (∀ v ∈ vals', gd 1000 20 v = true) → vals'.length = vals.length + 7 → ∀ u11 u12 u13 u14, Q .next [u0, some (.dict []), some (prD m k os), some (.int m), some (.tuple os), some (.int k), some (coD cms), some (encG gp), some (.list (kept ++ if kpw m k os cms i = true then [.str (wW i)] else [])), some (.list vals'), some (.str (wW i)), u11, u12, u13, u14, u15, u16, u17, u18, u19, u20, u21, u22, u23, u24, u25, u26]) :
    wS (Run T 2000 14) 2000 l_law_3 [u0, some (.dict []), some (prD m k os), some (.int m), some (.tuple os), some (.int k), some (coD cms), some (encG gp), some (.list kept), some (.list vals), some (.str (wW i)), u11, u12, u13, u14, u15, u16, u17, u18, u19, u20, u21, u22, u23, u24, u25, u26] Q nox := by
  have a1 := c.m1
  have a2 := c.m6
  rw [l3e]
  generalize el : l3c = tl
  simp only [sHd, l3a, l3b, sTl, l_law_3]
  simp only [wS, wE, wA, wO, wI, seqK_next, seqK_ret, fnK_ret, fnK_next, oP_some, oP_none, bP_bool, List.map_cons, List.map_nil, List.length_cons, List.length_nil, List.reduceReplicate, List.cons_append, List.nil_append, List.getD_cons_zero, List.getD_cons_succ, List.set_cons_zero, List.set_cons_succ, Nat.reduceAdd, Nat.reduceSub, Nat.zero_add, bindT_nm, bindT_tup, bindTs_nil, bindTs_cons, Option.bind_some, tgSlots, wipeE, List.append_nil, Bool.not_true, Bool.not_false, Bool.false_eq_true, if_true, if_false, reduceIte, Bool.or_true, Bool.or_false, Bool.true_or, Bool.false_or, true_and, and_true]
  refine s_wobj c (by omega) hi (fun e => ?_) fun e d hd => ?_
  · rw [c.keeps (by omega) hi, e]
    have e1 : cmpD .is_ .none .none = some true := rfl
    have e2 : cmpD .isnt .none .none = some false := rfl
    have e3 : cmpD .ne (.bool true) (.bool true) = some false := rfl
    simp only [wS, wE, wA, wO, wI, seqK_next, seqK_ret, fnK_ret, fnK_next, oP_some, oP_none, bP_bool, List.map_cons, List.map_nil, List.length_cons, List.length_nil, List.reduceReplicate, List.cons_append, List.nil_append, List.getD_cons_zero, List.getD_cons_succ, List.set_cons_zero, List.set_cons_succ, Nat.reduceAdd, Nat.reduceSub, Nat.zero_add, bindT_nm, bindT_tup, bindTs_nil, bindTs_cons, Option.bind_some, tgSlots, wipeE, List.append_nil, Bool.not_true, Bool.not_false, Bool.false_eq_true, if_true, if_false, reduceIte, Bool.or_true, Bool.or_false, Bool.true_or, Bool.false_or, true_and, and_true, e1, e2, e3]
    subst el
    rw [e] at h
    exact t_law3c c hgp hi (.inl rfl) hkl hv hvl u0 u13 u14 u15 u16 u17 u18 u19 u20 u21 u22 u23 u24 u25 u26 Q h
  · rw [c.keeps (by omega) hi, e]
    obtain ⟨hs, hN⟩ := obj_sg (by omega) a2 hd
    have e1 : cmpD .is_ d .none = some false := by
      show some (isN d) = _
      rw [hN]
    have e2 : cmpD .isnt d .none = some true := by
      show some (!isN d) = _
      rw [hN]; rfl
    have e3 : cmpD .ne (.bool false) (.bool false) = some false := rfl
    have htk : tkD m k os cms d = true := by
      rcases hd with ⟨hlo, c', hc', rfl, hb⟩ | ⟨hlo, g, hg, q, hq, rfl, hb⟩
      · have h1 : (c' : Int) < m := by omega
        simp [tkD, inR, inW_wW hi, wIx_wW i hi, hlo, vI, hb, h1]
      · have h1 : (1 : Int) + (q : Nat) ≤ k := by omega
        have h2 : (0 : Int) ≤ (q : Nat) := by omega
        have h3 : (1 : Int) ≤ 1 + (q : Nat) := by omega
        simp only [tkD, inW_wW hi, wIx_wW i hi, hlo, Bool.false_eq_true, if_false, Bool.true_and, Bool.and_eq_true]
        exact ⟨enc_part (by omega) a2 hg, by simp [wIn, h1, h3], by rw [oI_enc]; exact hb⟩
    have hix : ixD d (.int 0) = some (.str (wW i)) := by
      rcases hd with ⟨hlo, c', hc', rfl, hb⟩ | ⟨hlo, g, hg, q, hq, rfl, hb⟩
      · exact at_c0 _ _
      · exact at_c0 _ _
    simp only [wS, wE, wA, wO, wI, seqK_next, seqK_ret, fnK_ret, fnK_next, oP_some, oP_none, bP_bool, List.map_cons, List.map_nil, List.length_cons, List.length_nil, List.reduceReplicate, List.cons_append, List.nil_append, List.getD_cons_zero, List.getD_cons_succ, List.set_cons_zero, List.set_cons_succ, Nat.reduceAdd, Nat.reduceSub, Nat.zero_add, bindT_nm, bindT_tup, bindTs_nil, bindTs_cons, Option.bind_some, tgSlots, wipeE, List.append_nil, Bool.not_true, Bool.not_false, Bool.false_eq_true, if_true, if_false, reduceIte, Bool.or_true, Bool.or_false, Bool.true_or, Bool.false_or, true_and, and_true, e1, e2, e3]
    rw [s_lobj c (by omega) (gd_mono (by omega) (by omega) (sg_gd hs)), htk]
    simp only [wS, wE, wA, wO, wI, seqK_next, seqK_ret, fnK_ret, fnK_next, oP_some, oP_none, bP_bool, List.map_cons, List.map_nil, List.length_cons, List.length_nil, List.reduceReplicate, List.cons_append, List.nil_append, List.getD_cons_zero, List.getD_cons_succ, List.set_cons_zero, List.set_cons_succ, Nat.reduceAdd, Nat.reduceSub, Nat.zero_add, bindT_nm, bindT_tup, bindTs_nil, bindTs_cons, Option.bind_some, tgSlots, wipeE, List.append_nil, Bool.not_true, Bool.not_false, Bool.false_eq_true, if_true, if_false, reduceIte, Bool.or_true, Bool.or_false, Bool.true_or, Bool.false_or, true_and, and_true, hix, cmp_ne_str, beq_self_eq_true]
    subst el
    rw [e] at h
    exact t_law3c c hgp hi (.inr ⟨hs, hN⟩) hkl hv hvl u0 u13 u14 u15 u16 u17 u18 u19 u20 u21 u22 u23 u24 u25 u26 Q h
theorem l_law3 (u0 u15 u16 u17 u18 u19 u20 u21 u22 u23 u24 u25 u26 : Option D) (Q : Fl → Env → Prop) : ∀ (ql : List Nat) (kept vals : List D) (u10 u11 u12 u13 u14 : Option D), (∀ q ∈ ql, q < 8) → (∀ v ∈ vals, gd 1000 20 v = true) → kept.length + ql.length ≤ 8 → vals.length + 7 * ql.length ≤ 100 →
    (∀ vals', (∀ v ∈ vals', gd 1000 20 v = true) → vals'.length ≤ 100 → ∀ u10 u11 u12 u13 u14, Q .next [u0, some (.dict []), some (prD m k os), some (.int m), some (.tuple os), some (.int k), some (coD cms), some (encG gp), some (.list (kept ++ ((ql.filter fun i => kpw m k os cms i).map fun i => .str (wW i)))), some (.list vals'), u10, u11, u12, u13, u14, u15, u16, u17, u18, u19, u20, u21, u22, u23, u24, u25, u26]) →
    wL (fun x ρ Q => wS (Run T 2000 14) 2000 l_law_3 (ρ.set 10 (some x)) Q nox) (ql.map fun q => .str (wW q)) [u0, some (.dict []), some (prD m k os), some (.int m), some (.tuple os), some (.int k), some (coD cms), some (encG gp), some (.list kept), some (.list vals), u10, u11, u12, u13, u14, u15, u16, u17, u18, u19, u20, u21, u22, u23, u24, u25, u26] Q
  | [], kept, vals, u10, u11, u12, u13, u14, _, hv, hk, hl, h => by
    have := h vals hv (by simp at hl; omega) u10 u11 u12 u13 u14
    simp only [List.filter_nil, List.map_nil, List.append_nil] at this
    exact this
  | q :: ql, kept, vals, u10, u11, u12, u13, u14, hq, hv, hk, hl, h => by
    rw [List.length_cons] at hk hl
    rw [List.map_cons]
    unfold wL
    simp only [List.set_cons_zero, List.set_cons_succ]
    refine t_law3 c hgp (hq q List.mem_cons_self) (by omega) hv (by omega) u0 u11 u12 u13 u14 u15 u16 u17 u18 u19 u20 u21 u22 u23 u24 u25 u26 _ fun vals' hv' hl' v11 v12 v13 v14 => ?_
    refine l_law3 u0 u15 u16 u17 u18 u19 u20 u21 u22 u23 u24 u25 u26 Q ql _ vals' _ _ _ _ _ (fun x hx => hq x (List.mem_cons_of_mem _ hx)) hv' ?_ (by omega) fun vals2 hv2 hl2 w10 w11 w12 w13 w14 => ?_
    · cases kpw m k os cms q <;> simp <;> omega
    · have := h vals2 hv2 hl2 w10 w11 w12 w13 w14
      rw [List.filter_cons] at this
      cases hb : kpw m k os cms q with
      | true => rw [hb, if_pos rfl] at this; simpa using this
      | false => rw [hb, if_neg (by decide)] at this; simpa using this
end
end EV.Law
end

section
set_option Elab.async false
set_option linter.all false
set_option autoImplicit false
set_option maxRecDepth 100000
set_option maxHeartbeats 4000000
namespace EV.Law
open PySem EV
/-! ### the law's loops over values and bent profiles -/
theorem cmp_ne_bool (a b : Bool) : cmpD .ne (.bool a) (.bool b) = some (!(a == b)) := by cases a <;> cases b <;> rfl
section
variable {m k : Int} {os : List D} {cms : List Int} (c : CT m k os cms) {gp : List Nat}
include c
theorem pr_sg : sg 100 3 (prD m k os) = true := by
  have a2 := c.m6
  have a1 := c.m1
  have h1 : sg 100 2 (.int m) = true := rfl
  have h2 : sg 100 2 (.int k) = true := rfl
  have h3 : sg 100 2 (.tuple os) = true := by
    have := c.ol
    simp only [sg, Bool.and_eq_true, decide_eq_true_eq, List.all_eq_true]
    refine ⟨by omega, fun o ho => ?_⟩
    obtain ⟨cs, rfl, g1, g2, g3, g4⟩ := order_of (c.ho o ho)
    have hl := ord_len (by omega) g2 g3
    simp only [sg, Bool.and_eq_true, decide_eq_true_eq, List.all_eq_true]
    refine ⟨by omega, fun d hd => ?_⟩
    rw [whole_int (inR_whole (List.all_eq_true.mp g2 d hd))]
    rfl
  show (decide ((3 : Nat) ≤ 100) && ([.int m, .tuple os, .int k] : List D).all (sg 100 2)) = true
  simp only [List.all_cons, List.all_nil, h1, h2, h3]
  rfl
theorem co_sg : sg 100 1 (coD cms) = true := by
  have a2 := c.m6
  have a4 := c.km
  have a5 := c.cl
  unfold coD
  simp only [sg, Bool.and_eq_true, decide_eq_true_eq, List.length_map, List.all_eq_true]
  refine ⟨by omega, fun d hd => ?_⟩
  obtain ⟨v, _, rfl⟩ := List.mem_map.mp hd
  rfl
theorem t_law2 {v : D} (hv : gd 1000 20 v = true) (u0 u8 u9 u10 u11 u12 u13 u14 u16 u17 u18 u19 u20 u21 u22 u23 u24 u25 u26 : Option D) (Q : Fl → Env → Prop)
    (h : ∀ u16, Q .next [u0, some (.dict []), some (prD m k os), some (.int m), some (.tuple os), some (.int k), some (coD cms), some (encG gp), u8, u9, u10, u11, u12, u13, u14, some v, u16, u17, u18, u19, u20, u21, u22, u23, u24, u25, u26]) :
    wS (Run T 2000 14) 2000 l_law_2 [u0, some (.dict []), some (prD m k os), some (.int m), some (.tuple os), some (.int k), some (coD cms), some (encG gp), u8, u9, u10, u11, u12, u13, u14, some v, u16, u17, u18, u19, u20, u21, u22, u23, u24, u25, u26] Q nox := by
  unfold l_law_2
  simp only [wS, wE, wA, wO, wI, seqK_next, seqK_ret, fnK_ret, fnK_next, oP_some, oP_none, bP_bool, List.map_cons, List.map_nil, List.length_cons, List.length_nil, List.reduceReplicate, List.cons_append, List.nil_append, List.getD_cons_zero, List.getD_cons_succ, List.set_cons_zero, List.set_cons_succ, Nat.reduceAdd, Nat.reduceSub, Nat.zero_add, bindT_nm, bindT_tup, bindTs_nil, bindTs_cons, Option.bind_some, tgSlots, wipeE, List.append_nil, Bool.not_true, Bool.not_false, Bool.false_eq_true, if_true, if_false, reduceIte, Bool.or_true, Bool.or_false, Bool.true_or, Bool.false_or, true_and, and_true]
  rw [s_takes c (by omega) (gd_fine (by omega) hv)]
  simp only [wS, wE, wA, wO, wI, seqK_next, seqK_ret, fnK_ret, fnK_next, oP_some, oP_none, bP_bool, List.map_cons, List.map_nil, List.length_cons, List.length_nil, List.reduceReplicate, List.cons_append, List.nil_append, List.getD_cons_zero, List.getD_cons_succ, List.set_cons_zero, List.set_cons_succ, Nat.reduceAdd, Nat.reduceSub, Nat.zero_add, bindT_nm, bindT_tup, bindTs_nil, bindTs_cons, Option.bind_some, tgSlots, wipeE, List.append_nil, Bool.not_true, Bool.not_false, Bool.false_eq_true, if_true, if_false, reduceIte, Bool.or_true, Bool.or_false, Bool.true_or, Bool.false_or, true_and, and_true, isiD]
  refine ⟨rfl, ?_⟩
  rw [s_lobj c (by omega) hv]
  simp only [wS, wE, wA, wO, wI, seqK_next, seqK_ret, fnK_ret, fnK_next, oP_some, oP_none, bP_bool, List.map_cons, List.map_nil, List.length_cons, List.length_nil, List.reduceReplicate, List.cons_append, List.nil_append, List.getD_cons_zero, List.getD_cons_succ, List.set_cons_zero, List.set_cons_succ, Nat.reduceAdd, Nat.reduceSub, Nat.zero_add, bindT_nm, bindT_tup, bindTs_nil, bindTs_cons, Option.bind_some, tgSlots, wipeE, List.append_nil, Bool.not_true, Bool.not_false, Bool.false_eq_true, if_true, if_false, reduceIte, Bool.or_true, Bool.or_false, Bool.true_or, Bool.false_or, true_and, and_true, cmp_ne_bool, beq_self_eq_true, isiD]
  exact h _
theorem l_law2 (u0 u8 u9 u10 u11 u12 u13 u14 u17 u18 u19 u20 u21 u22 u23 u24 u25 u26 : Option D) (Q : Fl → Env → Prop) : ∀ (vals : List D) (u15 u16 : Option D), (∀ v ∈ vals, gd 1000 20 v = true) →
    (∀ u15 u16, Q .next [u0, some (.dict []), some (prD m k os), some (.int m), some (.tuple os), some (.int k), some (coD cms), some (encG gp), u8, u9, u10, u11, u12, u13, u14, u15, u16, u17, u18, u19, u20, u21, u22, u23, u24, u25, u26]) →
    wL (fun x ρ Q => wS (Run T 2000 14) 2000 l_law_2 (ρ.set 15 (some x)) Q nox) vals [u0, some (.dict []), some (prD m k os), some (.int m), some (.tuple os), some (.int k), some (coD cms), some (encG gp), u8, u9, u10, u11, u12, u13, u14, u15, u16, u17, u18, u19, u20, u21, u22, u23, u24, u25, u26] Q
  | [], u15, u16, _, h => h u15 u16
  | v :: vals, u15, u16, hv, h => by
    unfold wL
    simp only [List.set_cons_zero, List.set_cons_succ]
    refine t_law2 c (hv v List.mem_cons_self) u0 u8 u9 u10 u11 u12 u13 u14 u16 u17 u18 u19 u20 u21 u22 u23 u24 u25 u26 _ fun v16 => ?_
    exact l_law2 u0 u8 u9 u10 u11 u12 u13 u14 u17 u18 u19 u20 u21 u22 u23 u24 u25 u26 Q vals _ _ (fun x hx => hv x (List.mem_cons_of_mem _ hx)) h
theorem t_law1 {i : Nat} (hi : i < 8) (u0 u8 u9 u11 u12 u13 u14 u15 u16 u17 u18 u19 u20 u21 u22 u23 u24 u25 u26 : Option D) (Q : Fl → Env → Prop)
    (h : ∀ u16 u21 u22, Q .next [u0, some (.dict []), some (prD m k os), some (.int m), some (.tuple os), some (.int k), some (coD cms), some (encG gp), u8, u9, some (.str (wW i)), u11, u12, u13, u14, u15, u16, u17, u18, u19, u20, u21, u22, u23, u24, u25, u26]) :
    wS (Run T 2000 14) 2000 l_law_1 [u0, some (.dict []), some (prD m k os), some (.int m), some (.tuple os), some (.int k), some (coD cms), some (encG gp), u8, u9, some (.str (wW i)), u11, u12, u13, u14, u15, u16, u17, u18, u19, u20, u21, u22, u23, u24, u25, u26] Q nox := by
  unfold l_law_1
  simp only [wS, wE, wA, wO, wI, seqK_next, seqK_ret, fnK_ret, fnK_next, oP_some, oP_none, bP_bool, List.map_cons, List.map_nil, List.length_cons, List.length_nil, List.reduceReplicate, List.cons_append, List.nil_append, List.getD_cons_zero, List.getD_cons_succ, List.set_cons_zero, List.set_cons_succ, Nat.reduceAdd, Nat.reduceSub, Nat.zero_add, bindT_nm, bindT_tup, bindTs_nil, bindTs_cons, Option.bind_some, tgSlots, wipeE, List.append_nil, Bool.not_true, Bool.not_false, Bool.false_eq_true, if_true, if_false, reduceIte, Bool.or_true, Bool.or_false, Bool.true_or, Bool.false_or, true_and, and_true]
  refine Run.imp (s_bentG (L := 100) (by omega) 3 14 _ (by omega) (pr_sg c)) (fun p hp => ?_) (fun _ h => h)
  have hf := gd_fine (by omega) hp
  rw [s_is_profile (by omega) hf]
  simp only [wS, wE, wA, wO, wI, seqK_next, seqK_ret, fnK_ret, fnK_next, oP_some, oP_none, bP_bool, List.map_cons, List.map_nil, List.length_cons, List.length_nil, List.reduceReplicate, List.cons_append, List.nil_append, List.getD_cons_zero, List.getD_cons_succ, List.set_cons_zero, List.set_cons_succ, Nat.reduceAdd, Nat.reduceSub, Nat.zero_add, bindT_nm, bindT_tup, bindTs_nil, bindTs_cons, Option.bind_some, tgSlots, wipeE, List.append_nil, Bool.not_true, Bool.not_false, Bool.false_eq_true, if_true, if_false, reduceIte, Bool.or_true, Bool.or_false, Bool.true_or, Bool.false_or, true_and, and_true, isiD]
  refine ⟨rfl, ?_⟩
  rw [s_lis_profile (by omega) hf]
  simp only [wS, wE, wA, wO, wI, seqK_next, seqK_ret, fnK_ret, fnK_next, oP_some, oP_none, bP_bool, List.map_cons, List.map_nil, List.length_cons, List.length_nil, List.reduceReplicate, List.cons_append, List.nil_append, List.getD_cons_zero, List.getD_cons_succ, List.set_cons_zero, List.set_cons_succ, Nat.reduceAdd, Nat.reduceSub, Nat.zero_add, bindT_nm, bindT_tup, bindTs_nil, bindTs_cons, Option.bind_some, tgSlots, wipeE, List.append_nil, Bool.not_true, Bool.not_false, Bool.false_eq_true, if_true, if_false, reduceIte, Bool.or_true, Bool.or_false, Bool.true_or, Bool.false_or, true_and, and_true, cmp_ne_bool, beq_self_eq_true, isiD]
  cases hpr : isProfile p with
  | true =>
    simp only [wS, wE, wA, wO, wI, seqK_next, seqK_ret, fnK_ret, fnK_next, oP_some, oP_none, bP_bool, List.map_cons, List.map_nil, List.length_cons, List.length_nil, List.reduceReplicate, List.cons_append, List.nil_append, List.getD_cons_zero, List.getD_cons_succ, List.set_cons_zero, List.set_cons_succ, Nat.reduceAdd, Nat.reduceSub, Nat.zero_add, bindT_nm, bindT_tup, bindTs_nil, bindTs_cons, Option.bind_some, tgSlots, wipeE, List.append_nil, Bool.not_true, Bool.not_false, Bool.false_eq_true, if_true, if_false, reduceIte, Bool.or_true, Bool.or_false, Bool.true_or, Bool.false_or, true_and, and_true]
    exact h _ _ _
  | false =>
    simp only [wS, wE, wA, wO, wI, seqK_next, seqK_ret, fnK_ret, fnK_next, oP_some, oP_none, bP_bool, List.map_cons, List.map_nil, List.length_cons, List.length_nil, List.reduceReplicate, List.cons_append, List.nil_append, List.getD_cons_zero, List.getD_cons_succ, List.set_cons_zero, List.set_cons_succ, Nat.reduceAdd, Nat.reduceSub, Nat.zero_add, bindT_nm, bindT_tup, bindTs_nil, bindTs_cons, Option.bind_some, tgSlots, wipeE, List.append_nil, Bool.not_true, Bool.not_false, Bool.false_eq_true, if_true, if_false, reduceIte, Bool.or_true, Bool.or_false, Bool.true_or, Bool.false_or, true_and, and_true]
    refine oP_i (rg1 (by decide) (by decide)) ?_
    refine ⟨by decide, ?_⟩
    refine (wC_fil (c := fun _ : Nat => false) (g := fun q : Nat => .int (q : Nat)) (fun q hq P => ?_) _).mpr ?_
    · have word : ∀ v, Run T 2000 14 f_law_word [.tuple [.int (q : Nat), p, v, .str (wW i)]] (fun d => oP (cmpD .ne d (.str "malformed")) fun kk => if kk = true then P (some (.int (q : Nat))) else P none) nox ↔ P none := fun v => by
        rw [s_word (by omega) (cA (by omega) hf hpr), cmp_ne_str]
        simp
      simp only [cmp_lt, oP_some, bP_bool]
      by_cases h3 : ((q : Nat) : Int) < 3
      · rw [decide_eq_true h3, if_pos rfl]
        exact word _
      · rw [decide_eq_false h3, if_neg (by decide)]
        exact word _
    · have e0 : ((List.range (Int.toNat 6)).filter fun _ : Nat => false) = [] := List.filter_eq_nil_iff.mpr fun _ _ => by simp
      rw [e0, List.map_nil, cmp_ne_nil (xs := []) rfl]
      simp only [List.isEmpty_nil, Bool.not_true, oP_some, bP_bool, Bool.false_eq_true, if_false]
      exact h _ _ _
theorem l_law1 {i : Nat} (hi : i < 8) (u0 u8 u9 u11 u12 u13 u14 u15 u17 u18 u19 u23 u24 u25 u26 : Option D) (Q : Fl → Env → Prop) : ∀ (ts : List D) (u16 u20 u21 u22 : Option D),
    (∀ u16 u20 u21 u22, Q .next [u0, some (.dict []), some (prD m k os), some (.int m), some (.tuple os), some (.int k), some (coD cms), some (encG gp), u8, u9, some (.str (wW i)), u11, u12, u13, u14, u15, u16, u17, u18, u19, u20, u21, u22, u23, u24, u25, u26]) →
    wL (fun x ρ Q => wS (Run T 2000 14) 2000 l_law_1 (ρ.set 20 (some x)) Q nox) ts [u0, some (.dict []), some (prD m k os), some (.int m), some (.tuple os), some (.int k), some (coD cms), some (encG gp), u8, u9, some (.str (wW i)), u11, u12, u13, u14, u15, u16, u17, u18, u19, u20, u21, u22, u23, u24, u25, u26] Q
  | [], u16, u20, u21, u22, h => h u16 u20 u21 u22
  | t :: ts, u16, u20, u21, u22, h => by
    unfold wL
    simp only [List.set_cons_zero, List.set_cons_succ]
    refine t_law1 c hi u0 u8 u9 u11 u12 u13 u14 u15 u16 u17 u18 u19 (some t) u21 u22 u23 u24 u25 u26 _ fun v16 v21 v22 => ?_
    exact l_law1 hi u0 u8 u9 u11 u12 u13 u14 u15 u17 u18 u19 u23 u24 u25 u26 Q ts _ _ _ _ h
end
end EV.Law
end

section
set_option Elab.async false
set_option linter.all false
set_option autoImplicit false
set_option maxRecDepth 100000
set_option maxHeartbeats 8000000
namespace EV.Law
open PySem EV
def tlN : Nat → S → S
  | 0, s => s
  | n + 1, s => tlN n (sTl s)
theorem no_words {xs : List D} (h : ∀ x ∈ xs, Run T 2000 13 f_law_call [x] (fun _ => False) malx) (P : List D → Prop) :
    wC (fun x P => Run T 2000 14 f_law_word [x] (fun d => oP (cmpD .ne d (.str "malformed")) fun k => if k = true then P (some x) else P none) nox) xs P ↔ P [] := by
  refine (wC_fid (c := fun _ => false) (g := fun x => x) (fun x hx P => ?_) P).trans ?_
  · rw [s_word (by omega) (h x hx), cmp_ne_str]
    simp
  · rw [List.map_id']
    have : (xs.filter fun _ => false) = [] := List.filter_eq_nil_iff.mpr fun _ _ => by simp
    rw [this]
section
variable {m k : Int} {os : List D} {cms : List Int} (c : CT m k os cms) {gp : List Nat}
include c
theorem t_endC {i : Nat} (hi : i < 8) (u0 u8 u9 u11 u12 u13 u14 u15 u16 u17 u18 u19 u20 u21 u22 u23 u24 u25 u26 : Option D) : wS (Run T 2000 14) 2000 (tlN 15 b_law) [u0, some (.dict []), some (prD m k os), some (.int m), some (.tuple os), some (.int k), some (coD cms), some (encG gp), u8, u9, some (.str (wW i)), u11, u12, u13, u14, u15, u16, u17, u18, u19, u20, u21, u22, u23, u24, u25, u26] (fun fl _ => fl = .ret (.bool true)) nox := by
  have a1 := c.m1
  have a2 := c.m6
  have hR := fn6_f (fR c)
  have hP := fn6_f (fP c)
  simp only [tlN, sTl, b_law]
  simp only [wS, wE, wA, wO, wI, seqK_next, seqK_ret, fnK_ret, fnK_next, oP_some, oP_none, bP_bool, List.map_cons, List.map_nil, List.length_cons, List.length_nil, List.reduceReplicate, List.cons_append, List.nil_append, List.getD_cons_zero, List.getD_cons_succ, List.set_cons_zero, List.set_cons_succ, Nat.reduceAdd, Nat.reduceSub, Nat.zero_add, bindT_nm, bindT_tup, bindTs_nil, bindTs_cons, Option.bind_some, tgSlots, wipeE, List.append_nil, Bool.not_true, Bool.not_false, Bool.false_eq_true, if_true, if_false, reduceIte, Bool.or_true, Bool.or_false, Bool.true_or, Bool.false_or, true_and, and_true]
  refine oP_i (rg1 (by decide) (by decide)) ?_
  refine l_law1 c hi u0 u8 u9 u11 u12 u13 u14 u15 u17 u18 u19 u23 u24 u25 u26 _ _ _ _ _ _ fun v16 v20 v21 v22 => ?_
  simp only [wS, wE, wA, wO, wI, seqK_next, seqK_ret, fnK_ret, fnK_next, oP_some, oP_none, bP_bool, List.map_cons, List.map_nil, List.length_cons, List.length_nil, List.reduceReplicate, List.cons_append, List.nil_append, List.getD_cons_zero, List.getD_cons_succ, List.set_cons_zero, List.set_cons_succ, Nat.reduceAdd, Nat.reduceSub, Nat.zero_add, bindT_nm, bindT_tup, bindTs_nil, bindTs_cons, Option.bind_some, tgSlots, wipeE, List.append_nil, Bool.not_true, Bool.not_false, Bool.false_eq_true, if_true, if_false, reduceIte, Bool.or_true, Bool.or_false, Bool.true_or, Bool.false_or, true_and, and_true]
  refine Run.imp (s_bentG (L := 100) (by omega) 1 14 _ (by omega) (co_sg c)) (fun od hod => ?_) (fun _ h => h)
  have hof := gd_fine (by omega) hod
  have rest : Run T 2000 14 f_law_take [.dict [], .int 6] (fun x => oP (ixD (.list [.none, .str "", .str "Droop", .str "strong", .int 0, .tuple [.str "hare"]]) x) fun d => Run T 2000 14 f_law_take [.dict [], .int 7] (fun x => oP (negD (.int 1)) fun n1 => oP (ixD (.list [.none, .tuple [], .tuple [.int m], .tuple [n1], .tuple [.int 0, .int 0], .list [.int 0], .tuple [.bool true]]) x) fun d2 =>
      oP (binD .add (.list [.tuple [.int 0, prD m k os, coD cms, d], .tuple [.int 3, prD m k os, .int 0, d]]) (.list [.tuple [.int 4, prD m k os, d2, .int 0]])) fun d3 => oP (itemsD d3) fun xs => xs.length ≤ LIM ∧ wC (fun x P => Run T 2000 14 f_law_word [x] (fun d => oP (cmpD .ne d (.str "malformed")) fun k => if k = true then P (some x) else P none) nox) xs fun ys => oP (cmpD .eq (.list ys) (.list [])) fun k => (.ret (.bool k) : Fl) = .ret (.bool true)) nox) nox := by
    refine Run.imp (s_take (by omega) (by decide) (by decide)) (fun x ⟨t, e, t0, t1⟩ => ?_) (fun _ h => h)
    subst e
    refine ix_any t0 (by simp; omega) fun st hst => ?_
    have hst2 : fine st = true ∧ isW st = false := by
      simp only [List.mem_cons, List.not_mem_nil, or_false] at hst
      rcases hst with rfl | rfl | rfl | rfl | rfl | rfl
      · exact ⟨rfl, rfl⟩
      · exact ⟨rfl, by show inW _ = false; decide +kernel⟩
      · exact ⟨rfl, by show inW _ = false; decide +kernel⟩
      · exact ⟨rfl, by show inW _ = false; decide +kernel⟩
      · exact ⟨rfl, rfl⟩
      · exact ⟨rfl, rfl⟩
    refine Run.imp (s_take (by omega) (by decide) (by decide)) (fun x ⟨t2, e, t20, t21⟩ => ?_) (fun _ h => h)
    subst e
    refine oP_i rfl ?_
    refine ix_any t20 (by simp; omega) fun bd hbd => ?_
    have hbd2 : fine bd = true ∧ isPart m bd = false := by
      simp only [List.mem_cons, List.not_mem_nil, or_false] at hbd
      rcases hbd with rfl | rfl | rfl | rfl | rfl | rfl | rfl
      · exact ⟨rfl, rfl⟩
      · exact ⟨rfl, rfl⟩
      · refine ⟨rfl, ?_⟩
        simp [isPart, inR]
      · exact ⟨rfl, by simp [isPart, inR]⟩
      · refine ⟨rfl, ?_⟩
        have : rising [.int 0, .int 0] = false := by decide +kernel
        simp [isPart, this]
      · exact ⟨rfl, rfl⟩
      · exact ⟨rfl, by simp [isPart, inR]⟩
    refine oP_i (add_lst _ _ (by simp)) ?_
    refine oP_i (it_lst _) ?_
    refine ⟨by show _ ≤ 1000000; simp, ?_⟩
    refine (no_words (fun x hx => ?_) _).mpr ?_
    · simp only [List.cons_append, List.nil_append, List.mem_cons, List.not_mem_nil, or_false] at hx
      have no : ∀ {a b : Int} {p : Prop}, a ≠ b → a = b → p := fun h e => absurd e h
      rcases hx with rfl | rfl | rfl
      · exact c_call (fun _ => mC_obj c (by omega) hst2.1 hst2.2) (no (by decide)) (no (by decide)) (no (by decide)) (no (by decide)) (fun h => by omega) (by decide)
      · exact c_call (no (by decide)) (no (by decide)) (no (by decide)) (fun _ => mC_wished c (by omega) hst2.1 hst2.2) (no (by decide)) (fun h => by omega) (by decide)
      · exact c_call (no (by decide)) (no (by decide)) (no (by decide)) (no (by decide)) (fun _ => m_psolid (by omega) hR c.pr hbd2.1 hbd2.2) (fun h => by omega) (by decide)
    · have e0 : cmpD .eq (.list []) (.list []) = some true := cmp_eq_nil (xs := []) rfl
      exact oP_i e0 rfl
  have ese : ∀ P X, Run T 2000 14 f_law_is_seated [prD m k os, od] P X ↔ P (.bool (isSeated m k od)) := fun P X => by
    unfold prD
    exact s_lis_seated (by omega) hof m k _ P X
  rw [ese]
  cases hse : isSeated m k od with
  | true =>
    simp only [bP_bool, Bool.not_true, Bool.false_eq_true, if_false]
    exact rest
  | false =>
    simp only [bP_bool, Bool.not_false, if_true]
    refine oP_i (rg1 (by decide) (by decide)) ?_
    refine ⟨by decide, ?_⟩
    refine (wC_fil (c := fun _ : Nat => false) (g := fun q : Nat => .int (q : Nat)) (fun q hq P => ?_) _).mpr ?_
    · have q3 : q < 3 := List.mem_range.mp hq
      rw [s_word (by omega) (c_call (fun _ => mB_obj hR c.pr hof hse (by omega)) (fun _ => mB_not hR c.pr hof hse (by omega)) (fun _ => mB_takes hR c.pr hof hse (by omega)) (fun e => by omega) (fun e => by omega) (fun e => by omega) (by omega)), cmp_ne_str]
      simp
    · have e0 : ((List.range (Int.toNat 3)).filter fun _ : Nat => false) = [] := List.filter_eq_nil_iff.mpr fun _ _ => by simp
      rw [e0, List.map_nil, cmp_ne_nil (xs := []) rfl]
      simp only [List.isEmpty_nil, Bool.not_true, oP_some, bP_bool, Bool.false_eq_true, if_false]
      exact rest
end
end EV.Law
end

section
set_option Elab.async false
set_option linter.all false
set_option autoImplicit false
set_option maxRecDepth 100000
set_option maxHeartbeats 8000000
namespace EV.Law
open PySem EV
theorem cmp_ne_selfT {xs : List D} (h : PyData.plainAll xs = true) (h2 : PyData.depthAll xs ≤ 50) : cmpD .ne (.tuple xs) (.tuple xs) = some false := by
  have hp : (PyData.tuple xs).plain = true := h
  have ho : okEq (.tuple xs) (.tuple xs) = true := by
    unfold okEq
    rw [hp]
    simp only [PyData.depth, Bool.true_and, decide_eq_true_eq, Nat.min_self]
    omega
  simp only [cmpD, ho, if_true, SeqAt.eqv_refl_plain _ hp, Bool.not_true]
theorem grL_len {n : Nat} (hn : n < 7) : (grL n).length ≤ 64 := by
  unfold grL
  rw [List.length_mergeSort, List.length_map, List.length_drop]
  have := g_len n hn
  omega
theorem strs_dp : ∀ (l : List Nat), PyData.depthAll (l.map fun i => PyData.str (wW i)) ≤ 50
  | [] => by simp [PyData.depthAll]
  | x :: l => by
    have := strs_dp l
    simp only [List.map_cons, PyData.depthAll, PyData.depth]
    omega
theorem strs_plW : ∀ (l : List Nat), PyData.plainAll (l.map fun i => PyData.str (wW i)) = true
  | [] => rfl
  | x :: l => by simp [PyData.plainAll, PyData.plain, strs_plW l]
theorem encs_dp : ∀ (l : List (List Nat)), PyData.depthAll (l.map encG) ≤ 50
  | [] => by simp [PyData.depthAll]
  | x :: l => by
    have := encs_dp l
    have h2 : (encG x).depth ≤ 6 := by
      rw [encG_gI]
      have := depthAll_int (gI x)
      simp only [PyData.depth]
      omega
    simp only [List.map_cons, PyData.depthAll]
    omega
theorem encs_pl : ∀ (l : List (List Nat)), PyData.plainAll (l.map encG) = true
  | [] => rfl
  | x :: l => by
    have h2 : (encG x).plain = true := by rw [encG_gI]; exact plainAll_int _
    simp [PyData.plainAll, h2, encs_pl l]
theorem order_up {m m' : Int} (h : m ≤ m') {o : D} (ho : isOrder m o = true) (hm : 0 ≤ m) : isOrder m' o = true := by
  obtain ⟨cs, rfl, h1, h2, h3, h4⟩ := order_of ho
  simp only [isOrder, Bool.and_eq_true, decide_eq_true_eq]
  refine ⟨h1, List.all_eq_true.mpr fun d hd => ?_, h3⟩
  have := List.all_eq_true.mp h2 d hd
  obtain ⟨i, rfl⟩ := inR_int this
  simp only [inR, Bool.and_eq_true, decide_eq_true_eq] at this ⊢
  omega
section
variable {m k : Int} {os : List D} {cms : List Int} (c : CT m k os cms) {gp : List Nat}
include c
theorem wideP {m' : Int} (h : m ≤ m') (h8 : m' ≤ 8) : isProfile (prD m' k os) = true := by
  have a1 := c.m1
  have a4 := c.km
  simp only [prD, isProfile, Bool.and_eq_true, decide_eq_true_eq, List.all_eq_true]
  exact ⟨by omega, h8, c.k1, by omega, c.ol1, c.ol, fun o ho => order_up h (c.ho o ho) (by omega)⟩
theorem wideF (m' : Int) : fine (prD m' k os) = true := by
  have := (fine.tup (fn6_f (fR c))).2
  refine fine_tup (by simp) fun d hd => ?_
  simp only [List.mem_cons, List.not_mem_nil, or_false] at hd
  rcases hd with rfl | rfl | rfl
  · rfl
  · exact this _ (by simp)
  · rfl
theorem t_endB {vals : List D} (hv : ∀ v ∈ vals, gd 1000 20 v = true) (u0 u10 u11 u12 u13 u14 u15 u16 u17 u18 u19 u20 u21 u22 u23 u24 u25 u26 : Option D) : wS (Run T 2000 14) 2000 (tlN 8 b_law) [u0, some (.dict []), some (prD m k os), some (.int m), some (.tuple os), some (.int k), some (coD cms), some (encG gp), some (.list (((List.range 8).filter fun i => kpw m k os cms i).map fun i => .str (wW i))), some (.list vals), u10, u11, u12, u13, u14, u15, u16, u17, u18, u19, u20, u21, u22, u23, u24, u25, u26] (fun fl _ => fl = .ret (.bool true)) nox := by
  have a1 := c.m1
  have a2 := c.m6
  have a3 := c.k1
  have a4 := c.km
  have hR := fn6_f (fR c)
  have hP := fn6_f (fP c)
  have e15 : tlN 8 b_law = .seq (sHd (tlN 8 b_law)) (.seq (sHd (tlN 9 b_law)) (.seq (sHd (tlN 10 b_law)) (.seq (sHd (tlN 11 b_law)) (.seq (sHd (tlN 12 b_law)) (.seq (sHd (tlN 13 b_law)) (.seq (sHd (tlN 14 b_law)) (tlN 15 b_law))))))) := rfl
  rw [e15]
  generalize el : tlN 15 b_law = tl
  simp only [tlN, sHd, sTl, b_law]
  simp only [wS, wE, wA, wO, wI, seqK_next, seqK_ret, fnK_ret, fnK_next, oP_some, oP_none, bP_bool, List.map_cons, List.map_nil, List.length_cons, List.length_nil, List.reduceReplicate, List.cons_append, List.nil_append, List.getD_cons_zero, List.getD_cons_succ, List.set_cons_zero, List.set_cons_succ, Nat.reduceAdd, Nat.reduceSub, Nat.zero_add, bindT_nm, bindT_tup, bindTs_nil, bindTs_cons, Option.bind_some, tgSlots, wipeE, List.append_nil, Bool.not_true, Bool.not_false, Bool.false_eq_true, if_true, if_false, reduceIte, Bool.or_true, Bool.or_false, Bool.true_or, Bool.false_or, true_and, and_true]
  rw [s_notions c (by omega)]
  simp only [wS, wE, wA, wO, wI, seqK_next, seqK_ret, fnK_ret, fnK_next, oP_some, oP_none, bP_bool, List.map_cons, List.map_nil, List.length_cons, List.length_nil, List.reduceReplicate, List.cons_append, List.nil_append, List.getD_cons_zero, List.getD_cons_succ, List.set_cons_zero, List.set_cons_succ, Nat.reduceAdd, Nat.reduceSub, Nat.zero_add, bindT_nm, bindT_tup, bindTs_nil, bindTs_cons, Option.bind_some, tgSlots, wipeE, List.append_nil, Bool.not_true, Bool.not_false, Bool.false_eq_true, if_true, if_false, reduceIte, Bool.or_true, Bool.or_false, Bool.true_or, Bool.false_or, true_and, and_true, e_tup]
  rw [cmp_ne_selfT (strs_plW _) (strs_dp _)]
  simp only [wS, wE, wA, wO, wI, seqK_next, seqK_ret, fnK_ret, fnK_next, oP_some, oP_none, bP_bool, List.map_cons, List.map_nil, List.length_cons, List.length_nil, List.reduceReplicate, List.cons_append, List.nil_append, List.getD_cons_zero, List.getD_cons_succ, List.set_cons_zero, List.set_cons_succ, Nat.reduceAdd, Nat.reduceSub, Nat.zero_add, bindT_nm, bindT_tup, bindTs_nil, bindTs_cons, Option.bind_some, tgSlots, wipeE, List.append_nil, Bool.not_true, Bool.not_false, Bool.false_eq_true, if_true, if_false, reduceIte, Bool.or_true, Bool.or_false, Bool.true_or, Bool.false_or, true_and, and_true, it_lst]
  refine l_law2 c u0 _ _ u10 u11 u12 u13 u14 u17 u18 u19 u20 u21 u22 u23 u24 u25 u26 _ _ _ _ hv fun v15 v16 => ?_
  simp only [wS, wE, wA, wO, wI, seqK_next, seqK_ret, fnK_ret, fnK_next, oP_some, oP_none, bP_bool, List.map_cons, List.map_nil, List.length_cons, List.length_nil, List.reduceReplicate, List.cons_append, List.nil_append, List.getD_cons_zero, List.getD_cons_succ, List.set_cons_zero, List.set_cons_succ, Nat.reduceAdd, Nat.reduceSub, Nat.zero_add, bindT_nm, bindT_tup, bindTs_nil, bindTs_cons, Option.bind_some, tgSlots, wipeE, List.append_nil, Bool.not_true, Bool.not_false, Bool.false_eq_true, if_true, if_false, reduceIte, Bool.or_true, Bool.or_false, Bool.true_or, Bool.false_or, true_and, and_true]
  rw [s_lwords (by omega), W8_L]
  refine Run.imp (s_take (by omega) (by decide) (by decide)) (fun x ⟨t, e, t0, t1⟩ => ?_) (fun _ h => h)
  subst e
  have wl : (W8.map PyData.str).length = 8 := rfl
  refine ix_any t0 (by omega) fun y hy => ?_
  obtain ⟨s, hs, rfl⟩ := List.mem_map.mp hy
  obtain ⟨i, hi, rfl⟩ := inW_of (x := s) (List.any_eq_true.mpr ⟨s, hs, by simp⟩)
  rw [s_lparts (by omega) (by omega) a2]
  obtain ⟨gs, eg, hgs⟩ := gr_split m.toNat
  have hgl : gs.length ≤ 64 := by
    have := grL_len (n := m.toNat) (by omega)
    rw [eg, List.length_map] at this
    exact this
  rw [eg]
  simp only [wS, wE, wA, wO, wI, seqK_next, seqK_ret, fnK_ret, fnK_next, oP_some, oP_none, bP_bool, List.map_cons, List.map_nil, List.length_cons, List.length_nil, List.reduceReplicate, List.cons_append, List.nil_append, List.getD_cons_zero, List.getD_cons_succ, List.set_cons_zero, List.set_cons_succ, Nat.reduceAdd, Nat.reduceSub, Nat.zero_add, bindT_nm, bindT_tup, bindTs_nil, bindTs_cons, Option.bind_some, tgSlots, wipeE, List.append_nil, Bool.not_true, Bool.not_false, Bool.false_eq_true, if_true, if_false, reduceIte, Bool.or_true, Bool.or_false, Bool.true_or, Bool.false_or, true_and, and_true, it_lst]
  refine ⟨by rw [List.length_map]; show _ ≤ 1000000; omega, ?_⟩
  refine (wC_fil (c := fun g : List Nat => decide ((g.length : Int) = k)) (g := encG) (fun g hg P => ?_) _).mpr ?_
  · have e : biD .len [encG g] = some (.int (g.length : Nat)) := by
      unfold encG
      rw [len_tup, List.length_map]
    rw [e]
    simp only [cmp_eq_int, oP_some]
    exact ifP _ _ _
  rw [s_wished (by omega) hi hR c.pr c.ho (by omega) a2 c.ol (by omega) (by omega) _ _ eg hgs (by omega)]
  have hfl := List.length_filter_le (fun g : List Nat => decide ((g.length : Int) = k)) gs
  refine ⟨by rw [List.length_map]; show _ ≤ 1000000; omega, ?_⟩
  refine (wC_fil (c := fun g : List Nat => kpw m k os (gI g) i) (g := encG) (fun g hg P => ?_) _).mpr ?_
  · have hg2 := (hgs g).mp (List.mem_filter.mp hg).1
    have hs2 := gP_spec (by omega) hg2
    have ek := s_lkeeps c.ho (by omega) a2 c.ol (k := k) (n := 14) (by omega) (by omega) (by omega) (cms := gI g) (by unfold gI; rw [List.length_map]; omega) (gI_nd hs2.2.2.2) hi
    rw [← encG_gI] at ek
    unfold prD
    rw [ek]
    simp only [bP_bool]
    exact ifP _ _ _
  rw [cmp_ne_selfT (encs_pl _) (encs_dp _)]
  simp only [wS, wE, wA, wO, wI, seqK_next, seqK_ret, fnK_ret, fnK_next, oP_some, oP_none, bP_bool, List.map_cons, List.map_nil, List.length_cons, List.length_nil, List.reduceReplicate, List.cons_append, List.nil_append, List.getD_cons_zero, List.getD_cons_succ, List.set_cons_zero, List.set_cons_succ, Nat.reduceAdd, Nat.reduceSub, Nat.zero_add, bindT_nm, bindT_tup, bindTs_nil, bindTs_cons, Option.bind_some, tgSlots, wipeE, List.append_nil, Bool.not_true, Bool.not_false, Bool.false_eq_true, if_true, if_false, reduceIte, Bool.or_true, Bool.or_false, Bool.true_or, Bool.false_or, true_and, and_true]
  refine Run.imp (s_take (by omega) (by decide) (by decide)) (fun x ⟨q, e, q0, q1⟩ => ?_) (fun _ h => h)
  subst e
  have e7 : binD .add (.int 7) (.int q) = some (.int (7 + q)) := rfl
  simp only [wS, wE, wA, wO, wI, seqK_next, seqK_ret, fnK_ret, fnK_next, oP_some, oP_none, bP_bool, List.map_cons, List.map_nil, List.length_cons, List.length_nil, List.reduceReplicate, List.cons_append, List.nil_append, List.getD_cons_zero, List.getD_cons_succ, List.set_cons_zero, List.set_cons_succ, Nat.reduceAdd, Nat.reduceSub, Nat.zero_add, bindT_nm, bindT_tup, bindTs_nil, bindTs_cons, Option.bind_some, tgSlots, wipeE, List.append_nil, Bool.not_true, Bool.not_false, Bool.false_eq_true, if_true, if_false, reduceIte, Bool.or_true, Bool.or_false, Bool.true_or, Bool.false_or, true_and, and_true, e7]
  have ew : Run T 2000 13 f_law_call [.tuple [.int 3, prD (7 + q) k os, .int 0, .str (wW i)]] (fun _ => False) (fun x => x = .refu "large") :=
    c_call (fun e => by cases e) (fun e => by cases e) (fun e => by cases e) (fun _ => r_wide (by omega) hi (wideF c _) (wideP c (by omega) (by omega)) (by omega)) (fun e => by cases e) (fun e => by omega) (by decide)
  have ew2 : ∀ P X, Run T 2000 14 f_law_word [.tuple [.int 3, .tuple [.int (7 + q), .tuple os, .int k], .int 0, .str (wW i)]] P X ↔ P (.str "large") := fun P X => s_wordR (by omega) ew P X
  rw [ew2, cmp_ne_str]
  simp only [wS, wE, wA, wO, wI, seqK_next, seqK_ret, fnK_ret, fnK_next, oP_some, oP_none, bP_bool, List.map_cons, List.map_nil, List.length_cons, List.length_nil, List.reduceReplicate, List.cons_append, List.nil_append, List.getD_cons_zero, List.getD_cons_succ, List.set_cons_zero, List.set_cons_succ, Nat.reduceAdd, Nat.reduceSub, Nat.zero_add, bindT_nm, bindT_tup, bindTs_nil, bindTs_cons, Option.bind_some, tgSlots, wipeE, List.append_nil, Bool.not_true, Bool.not_false, Bool.false_eq_true, if_true, if_false, reduceIte, Bool.or_true, Bool.or_false, Bool.true_or, Bool.false_or, true_and, and_true, beq_self_eq_true]
  subst el
  exact t_endC c hi u0 _ _ u11 u12 u13 u14 v15 v16 _ u18 _ u20 u21 u22 u23 u24 u25 u26
end
end EV.Law
end

section
set_option Elab.async false
set_option linter.all false
set_option autoImplicit false
set_option maxRecDepth 100000
set_option maxHeartbeats 8000000
namespace EV.Law
open PySem EV
theorem isnt_true (b : Bool) : cmpD .isnt (.bool b) (.bool true) = some (!b) := by cases b <;> rfl
theorem W8_WL : W8.map PyData.str = (List.range 8).map fun q => PyData.str (wW q) := by rw [W8_R, List.map_map]; rfl
theorem grL_pos {n : Nat} (h1 : 1 ≤ n) (hn : n < 7) : 1 ≤ (grL n).length := by
  have : ∀ n, n < 7 → 1 ≤ n → 1 ≤ ((gL n).drop 1).length := by decide +kernel
  unfold grL
  rw [List.length_mergeSort, List.length_map]
  exact this n hn h1
theorem plainW : wS (Run T 2000 14) 2000 b_law (none :: some (.dict []) :: List.replicate 25 none) (fun fl _ => fl = .ret (.bool true)) nox := by
  have e8 : b_law = .seq (sHd (tlN 0 b_law)) (.seq (sHd (tlN 1 b_law)) (.seq (sHd (tlN 2 b_law)) (.seq (sHd (tlN 3 b_law)) (.seq (sHd (tlN 4 b_law)) (.seq (sHd (tlN 5 b_law)) (.seq (sHd (tlN 6 b_law)) (.seq (sHd (tlN 7 b_law)) (tlN 8 b_law)))))))) := rfl
  rw [e8]
  generalize el : tlN 8 b_law = tl
  simp only [tlN, sHd, sTl, b_law]
  simp only [wS, wE, wA, wO, wI, seqK_next, seqK_ret, fnK_ret, fnK_next, oP_some, oP_none, bP_bool, List.map_cons, List.map_nil, List.length_cons, List.length_nil, List.reduceReplicate, List.cons_append, List.nil_append, List.getD_cons_zero, List.getD_cons_succ, List.set_cons_zero, List.set_cons_succ, Nat.reduceAdd, Nat.reduceSub, Nat.zero_add, bindT_nm, bindT_tup, bindTs_nil, bindTs_cons, Option.bind_some, tgSlots, wipeE, List.append_nil, Bool.not_true, Bool.not_false, Bool.false_eq_true, if_true, if_false, reduceIte, Bool.or_true, Bool.or_false, Bool.true_or, Bool.false_or, true_and, and_true]
  refine Run.imp (s_lprofile (by omega)) (fun R ⟨m, k, os, e, m1, m4, k1, km, go, o1, o6⟩ => ?_) (fun _ h => h)
  subst e
  have eb : ∀ ρ : Env, bindT (.tup (.tcons (.nm 3) (.tcons (.nm 4) (.tcons (.nm 5) .tnil)))) (prD m k os) ρ = some (((ρ.set 3 (some (.int m))).set 4 (some (.tuple os))).set 5 (some (.int k))) := fun _ => rfl
  rw [eb]
  simp only [wS, wE, wA, wO, wI, seqK_next, seqK_ret, fnK_ret, fnK_next, oP_some, oP_none, bP_bool, List.map_cons, List.map_nil, List.length_cons, List.length_nil, List.reduceReplicate, List.cons_append, List.nil_append, List.getD_cons_zero, List.getD_cons_succ, List.set_cons_zero, List.set_cons_succ, Nat.reduceAdd, Nat.reduceSub, Nat.zero_add, bindT_nm, bindT_tup, bindTs_nil, bindTs_cons, Option.bind_some, tgSlots, wipeE, List.append_nil, Bool.not_true, Bool.not_false, Bool.false_eq_true, if_true, if_false, reduceIte, Bool.or_true, Bool.or_false, Bool.true_or, Bool.false_or, true_and, and_true]
  refine Run.imp (s_lcommittee (by omega) m1 m4 k1 km go o1 o6) (fun pl ⟨cms, e, c⟩ => ?_) (fun _ h => h)
  subst e
  have hR := fn6_f (fR c)
  rw [s_is_profile (by omega) hR, c.pr]
  simp only [wS, wE, wA, wO, wI, seqK_next, seqK_ret, fnK_ret, fnK_next, oP_some, oP_none, bP_bool, List.map_cons, List.map_nil, List.length_cons, List.length_nil, List.reduceReplicate, List.cons_append, List.nil_append, List.getD_cons_zero, List.getD_cons_succ, List.set_cons_zero, List.set_cons_succ, Nat.reduceAdd, Nat.reduceSub, Nat.zero_add, bindT_nm, bindT_tup, bindTs_nil, bindTs_cons, Option.bind_some, tgSlots, wipeE, List.append_nil, Bool.not_true, Bool.not_false, Bool.false_eq_true, if_true, if_false, reduceIte, Bool.or_true, Bool.or_false, Bool.true_or, Bool.false_or, true_and, and_true, isnt_true]
  rw [s_quota (by omega) hR c.pr (by omega) (by omega)]
  have e1 : binD .add (.int k) (.int 1) = some (.int (k + 1)) := rfl
  have e2 : binD .fdiv (.int (os.length : Nat)) (.int (k + 1)) = some (.int ((os.length : Int) / (k + 1))) := if_pos (by
    unfold fitsDiv
    rw [Bool.and_eq_true, Bool.or_eq_true]
    exact ⟨decide_eq_true (by omega), .inl (decide_eq_true (by omega))⟩)
  have e3 : binD .add (.int ((os.length : Int) / (k + 1))) (.int 1) = some (.int ((os.length : Int) / (k + 1) + 1)) := rfl
  simp only [wS, wE, wA, wO, wI, seqK_next, seqK_ret, fnK_ret, fnK_next, oP_some, oP_none, bP_bool, List.map_cons, List.map_nil, List.length_cons, List.length_nil, List.reduceReplicate, List.cons_append, List.nil_append, List.getD_cons_zero, List.getD_cons_succ, List.set_cons_zero, List.set_cons_succ, Nat.reduceAdd, Nat.reduceSub, Nat.zero_add, bindT_nm, bindT_tup, bindTs_nil, bindTs_cons, Option.bind_some, tgSlots, wipeE, List.append_nil, Bool.not_true, Bool.not_false, Bool.false_eq_true, if_true, if_false, reduceIte, Bool.or_true, Bool.or_false, Bool.true_or, Bool.false_or, true_and, and_true, len_tup, e1, e2, e3, cmp_ne_int, decide_true]
  rw [s_lparts (by omega) (by omega) (by omega)]
  rw [s_lparts (by omega) (by omega) (by omega)]
  have hl := grL_len (n := m.toNat) (by omega)
  have hl1 := grL_pos (n := m.toNat) (by omega) (by omega)
  simp only [wS, wE, wA, wO, wI, seqK_next, seqK_ret, fnK_ret, fnK_next, oP_some, oP_none, bP_bool, List.map_cons, List.map_nil, List.length_cons, List.length_nil, List.reduceReplicate, List.cons_append, List.nil_append, List.getD_cons_zero, List.getD_cons_succ, List.set_cons_zero, List.set_cons_succ, Nat.reduceAdd, Nat.reduceSub, Nat.zero_add, bindT_nm, bindT_tup, bindTs_nil, bindTs_cons, Option.bind_some, tgSlots, wipeE, List.append_nil, Bool.not_true, Bool.not_false, Bool.false_eq_true, if_true, if_false, reduceIte, Bool.or_true, Bool.or_false, Bool.true_or, Bool.false_or, true_and, and_true, len_lst]
  refine Run.imp (s_take (by omega) (by omega) (by omega)) (fun x ⟨q, e, q0, q1⟩ => ?_) (fun _ h => h)
  subst e
  refine ix_any q0 (by omega) fun pt hpt => ?_
  obtain ⟨gp, hgp, rfl⟩ := sL_mem.mp hpt
  rw [s_psolid c (by omega) hgp, s_plsolid c (by omega) hgp]
  simp only [wS, wE, wA, wO, wI, seqK_next, seqK_ret, fnK_ret, fnK_next, oP_some, oP_none, bP_bool, List.map_cons, List.map_nil, List.length_cons, List.length_nil, List.reduceReplicate, List.cons_append, List.nil_append, List.getD_cons_zero, List.getD_cons_succ, List.set_cons_zero, List.set_cons_succ, Nat.reduceAdd, Nat.reduceSub, Nat.zero_add, bindT_nm, bindT_tup, bindTs_nil, bindTs_cons, Option.bind_some, tgSlots, wipeE, List.append_nil, Bool.not_true, Bool.not_false, Bool.false_eq_true, if_true, if_false, reduceIte, Bool.or_true, Bool.or_false, Bool.true_or, Bool.false_or, true_and, and_true, cmp_ne_int, decide_true]
  rw [s_lwords (by omega), W8_L, W8_WL]
  simp only [wS, wE, wA, wO, wI, seqK_next, seqK_ret, fnK_ret, fnK_next, oP_some, oP_none, bP_bool, List.map_cons, List.map_nil, List.length_cons, List.length_nil, List.reduceReplicate, List.cons_append, List.nil_append, List.getD_cons_zero, List.getD_cons_succ, List.set_cons_zero, List.set_cons_succ, Nat.reduceAdd, Nat.reduceSub, Nat.zero_add, bindT_nm, bindT_tup, bindTs_nil, bindTs_cons, Option.bind_some, tgSlots, wipeE, List.append_nil, Bool.not_true, Bool.not_false, Bool.false_eq_true, if_true, if_false, reduceIte, Bool.or_true, Bool.or_false, Bool.true_or, Bool.false_or, true_and, and_true, it_lst]
  have hg1 := enc_sg (by omega) (by omega) hgp
  have ge := sg_gd hg1
  have g19 : ∀ j, 1 ≤ j → gd 1000 j (encG gp) = true := fun j hj => gd_mono (by omega) hj ge
  have vv : ∀ v ∈ ([.none, .tuple [], .str "droop", .tuple [.str "droop"], .tuple [.str "droop", encG gp], .tuple [.str "local", encG gp], .tuple [.str "none", encG gp, .int 1], .list [.str "droop", encG gp, .int 1], .tuple [encG gp, .str "droop", .int 1]] : List D), gd 1000 20 v = true := fun v hv => by
    simp only [List.mem_cons, List.not_mem_nil, or_false] at hv
    have s1 : ∀ (x : Str), gd 1000 19 (.str x) = true := fun _ => rfl
    have s2 : ∀ (x : Int), gd 1000 19 (.int x) = true := fun _ => rfl
    rcases hv with rfl | rfl | rfl | rfl | rfl | rfl | rfl | rfl | rfl
    · rfl
    · rfl
    · rfl
    · rfl
    · exact gd_tup (by simp) fun d hd => by
        simp only [List.mem_cons, List.not_mem_nil, or_false] at hd
        rcases hd with rfl | rfl
        · exact s1 _
        · exact g19 19 (by omega)
    · exact gd_tup (by simp) fun d hd => by
        simp only [List.mem_cons, List.not_mem_nil, or_false] at hd
        rcases hd with rfl | rfl
        · exact s1 _
        · exact g19 19 (by omega)
    · exact gd_tup (by simp) fun d hd => by
        simp only [List.mem_cons, List.not_mem_nil, or_false] at hd
        rcases hd with rfl | rfl | rfl
        · exact s1 _
        · exact g19 19 (by omega)
        · exact s2 _
    · exact gd_lst (by simp) fun d hd => by
        simp only [List.mem_cons, List.not_mem_nil, or_false] at hd
        rcases hd with rfl | rfl | rfl
        · exact s1 _
        · exact g19 19 (by omega)
        · exact s2 _
    · exact gd_tup (by simp) fun d hd => by
        simp only [List.mem_cons, List.not_mem_nil, or_false] at hd
        rcases hd with rfl | rfl | rfl
        · exact g19 19 (by omega)
        · exact s1 _
        · exact s2 _
  refine l_law3 c hgp none none none none none none none none none none none none none _ (List.range 8) [] _ _ _ _ _ _ (fun q h => List.mem_range.mp h) vv (by simp) (by simp) fun vals hv hvl v10 v11 v12 v13 v14 => ?_
  rw [seqK_next]
  subst el
  rw [List.nil_append]
  exact t_endB c hv _ _ _ _ _ _ _ _ _ _ _ _ _ _ _ _ _ _
theorem plain0 (cells : List Int) (seed : Int) : ∃ ρ s', evS (run T 2000 14) 2000 b_law (none :: some (.dict []) :: List.replicate 25 none) ⟨cells, 0, 0, seed⟩ = .ok (.ret (.bool true), ρ) s' := by
  have h := s_ok (run_snd (T := T) (W := 2000) 14) b_law _ _ _ plainW ⟨cells, 0, 0, seed⟩
  cases r : evS (run T 2000 14) 2000 b_law (none :: some (.dict []) :: List.replicate 25 none) ⟨cells, 0, 0, seed⟩ with
  | ok q s' =>
    rw [r] at h
    obtain ⟨fl, ρ⟩ := q
    have h : fl = .ret (.bool true) := h
    subst h
    exact ⟨ρ, s', rfl⟩
  | err xn s' => rw [r] at h; cases xn <;> exact h.elim
  | stuck => rw [r] at h; exact h.elim
end EV.Law
end

section
set_option Elab.async false
set_option linter.all false
set_option autoImplicit false
set_option maxRecDepth 100000
set_option maxHeartbeats 0
namespace EV.Law
open PySem
theorem plain (cells : List Int) (seed : Int) (hc : ∀ c ∈ cells, 0 ≤ c) (hl : cells.length ≤ 63) : ∃ ρ s', evS (EV.run g.T W0 LV) W0 i_law.body (none :: some (.dict []) :: List.replicate (i_law.N.length - 2) none) ⟨cells, 0, 0, seed⟩ = .ok (.ret (.bool true), ρ) s' :=
  plain0 cells seed
end EV.Law
open PySem PySem.W PySem.Calls PyProof.Rows
theorem PySem.Challenge.cw_widelyheard_k80_whole_promises_of_wishes_holds : PySem.Challenge.rw_widelyheard_k80_whole_promises_of_wishes.Holds := by
  w_on; o_law
  refine HandSHeadRun.head_any (r := OpenLaw.row PySem.Challenge.rw_widelyheard_k80_whole_promises_of_wishes) (q := view (OpenLaw.row PySem.Challenge.rw_widelyheard_k80_whole_promises_of_wishes).prog [49]) (H := EV.Law.hk) (ob := EV.Law.ob) (M := 3000) (loose := EV.Law.loose) (d := HandSHeadRun.topDef (OpenLaw.row PySem.Challenge.rw_widelyheard_k80_whole_promises_of_wishes).prog 49) (kwd := []) EV.Law.ob_eq
    (by kernel_rfl) (fun s => by kernel_rfl) EV.Law.headRun (by kernel_rfl) (by kernel_rfl) (by kernel_rfl) (by rfl) (by first | assumption | decide +kernel) (by decide +kernel) ⟨rfl, rfl, rfl, rfl, rfl, by decide +kernel⟩ ?hw ?hc
  case hw => w_witness2
  case hc =>
    refine L2.walk_ofE (l := PySem.Challenge.rw_widelyheard_k80_whole_promises_of_wishes) (n := 63) (k := EV.Law.LV + 2) (x := "script") (CX := EV.CX1 (PySem.Challenge.rw_widelyheard_k80_whole_promises_of_wishes).prog) rfl (by decide) (by kernel_rfl) ⟨rfl, by decide, by decide⟩ ?F EV.cx1_no
    intro w mg fa h Y G hmg0
    obtain ⟨K, KX, c0⟩ := Y
    obtain ⟨c, ce⟩ := EV.saysX EV.Law.exB EV.Law.fa EV.Law.fn c0
    have hmg : mg ("law" : PySem.Str) = some (.ref fa) := by
      have e : (HandSHeadRun.topDef (OpenLaw.row PySem.Challenge.rw_widelyheard_k80_whole_promises_of_wishes).prog 49).name = ("law" : PySem.Str) := by kernel_rfl
      rw [← e]
      exact hmg0
    obtain ⟨fd, hb, hF⟩ := EV.Law.facts (P := (PySem.Challenge.rw_widelyheard_k80_whole_promises_of_wishes).prog) (w := w) KX G hmg c ce rfl EV.Law.plain
    exact ⟨K, fd, EV.spLaw K, KX, hb, fun H a ns hl _ hS => ⟨a, ns, rfl, hS, hl, fun _ => rfl⟩, fun base k1 k2 => EV.fn_cx (hF base k1 k2)⟩
end

import PyProof.Rows.All
import HandS.ForMost
import KE.SortData
import PyProof.ReprRoads
import HandS.Zip
import HandS.TupAny
import HandS.TupMul
import HandS.TupLe
import HandS.Style
import HandS.Deep
import HandS.IsInst
import KE.GoesEnum
import PyProof.Transfer
import HandS.Exc
import HandS.More
import HandS.Conv
import HandS.Comp
import HandS.Defaults
import HandS.HeadHook2
import HandS.Ends
import HandS.EndBits
import PyProof.StrLawsRepr
import PyProof.ReprReads
import PySem.Challenge.RW_kindsalike_k79_whole_webs_of_worlds
import HandS.Head0
import HandS.Head1
import HandS.Head2
import HandS.HeadEnd
import HandS.HeadHook1
set_option Elab.async false
set_option linter.all false
set_option maxRecDepth 100000
/-! A small evaluator of the Python subset of these laws. -/
namespace Ev
open PySem

/-! ### values -/
inductive D where
  | non | bl (b : Bool) | int (i : Int) | str (x : List Nat)
  | tup (xs : List D) | lst (xs : List D) | ref (n : Nat)
  /-- the script -/
  | scr (ns : List Int)

mutual
def D.beq : D → D → Bool
  | .non, .non => true
  | .bl a, .bl b => a == b
  | .int i, .int j => i == j
  | .str x, .str y => x == y
  | .tup xs, .tup ys => D.beqs xs ys
  | .lst xs, .lst ys => D.beqs xs ys
  | .ref n, .ref m => n == m
  | .scr x, .scr y => x == y
  | _, _ => false
def D.beqs : List D → List D → Bool
  | [], [] => true
  | x :: xs, y :: ys => D.beq x y && D.beqs xs ys
  | _, _ => false
end
mutual
theorem D.beq_eq : ∀ (x y : D), D.beq x y = true ↔ x = y
  | .non, y => by cases y <;> simp [D.beq]
  | .bl a, y => by cases y <;> simp [D.beq]
  | .int i, y => by cases y <;> simp [D.beq]
  | .str x, y => by cases y <;> simp [D.beq]
  | .tup xs, y => by cases y <;> simp [D.beq, D.beqs_eq xs]
  | .lst xs, y => by cases y <;> simp [D.beq, D.beqs_eq xs]
  | .ref n, y => by cases y <;> simp [D.beq]
  | .scr x, y => by cases y <;> simp [D.beq]
theorem D.beqs_eq : ∀ (xs ys : List D), D.beqs xs ys = true ↔ xs = ys
  | [], ys => by cases ys <;> simp [D.beqs]
  | x :: xs, ys => by cases ys <;> simp [D.beqs, D.beq_eq x, D.beqs_eq xs]
end
instance : DecidableEq D := fun x y => decidable_of_iff _ (D.beq_eq x y)

def toS (x : List Nat) : Str := ⟨x.toArray⟩
mutual
/-- a value without references as the kit's data; a reference is a dict, which nothing takes -/
def D.py : D → PyData
  | .non => .none
  | .bl b => .bool b
  | .int i => .int i
  | .str x => .str (toS x)
  | .tup xs => .tuple (D.pys xs)
  | .lst xs => .list (D.pys xs)
  | .ref _ => .dict []
  | .scr _ => .dict []
def D.pys : List D → List PyData
  | [] => []
  | x :: xs => D.py x :: D.pys xs
end
theorem D.pys_map : ∀ xs : List D, D.pys xs = xs.map D.py
  | [] => rfl
  | x :: xs => by rw [D.pys, D.pys_map xs, List.map_cons]

/-! ### the store, results -/
inductive C where
  | lst (xs : List D)
  | dct (ks : List (L2.Key × D))
  deriving DecidableEq
abbrev St := List C
/-- an exception: its class (by number), its fields -/
structure Xc where
  cls : Nat
  fs : List (Str × D)
inductive R (α : Type) where
  | ok (a : α) (st : St)
  | ex (x : Xc) (st : St)
  | no
def R.bind {α β : Type} (r : R α) (f : α → St → R β) : R β := match r with
  | .ok a st => f a st
  | .ex x st => .ex x st
  | .no => .no
@[simp] theorem R.bind_ok {α β : Type} (a : α) (st : St) (f : α → St → R β) : (R.ok a st).bind f = f a st := rfl
@[simp] theorem R.bind_ex {α β : Type} (x : Xc) (st : St) (f : α → St → R β) : (R.ex x st).bind f = .ex x st := rfl
@[simp] theorem R.bind_no {α β : Type} (f : α → St → R β) : (R.no : R α).bind f = .no := rfl
/-- of an option -/
def R.of {α : Type} (o : Option α) (st : St) : R α := match o with
  | some a => .ok a st
  | none => .no
@[simp] theorem R.of_some {α : Type} (a : α) (st : St) : R.of (some a) st = .ok a st := rfl
@[simp] theorem R.of_none {α : Type} (st : St) : R.of (none : Option α) st = .no := rfl

/-- a slot of a frame: nothing yet, a value, a list of the frame's own -/
inductive Sl where
  | no | va (d : D) | ow (xs : List D)
  deriving DecidableEq
abbrev Env := List Sl

/-! ### the tree -/
inductive Bo where
  | add | sub | mul | mod | fdv | pow
  deriving DecidableEq
inductive Co where
  | eq | ne | lt | le | gt | ge | isin | nin
  deriving DecidableEq
/-- classes for isinstance -/
inductive Ty where
  | tint | tstr | tbool | ttup | tlst | tdct
  deriving DecidableEq
/-- built-in functions of values -/
inductive Bi where
  | len | all | any | sum | tuple | list | sorted | repr | intf | abs | max2 | min2 | divmod
  | isin (ts : List Ty) | sortedD
  deriving DecidableEq
/-- a target of a loop or an assignment: a slot, or several -/
inductive Tg where
  | nm (i : Nat)
  | tp (ts : List Tg)

mutual
inductive E where
  | var (i : Nat)
  /-- an own list, read -/
  | own (i : Nat)
  | glob (g : Nat)
  | cst (d : D)
  | tup (es : Es)
  | lst (es : Es)
  /-- a new list in the store -/
  | lstC (es : Es)
  /-- a new dict of pairs in the store -/
  | dctC (e : E)
  | bin (op : Bo) (a b : E)
  | cmp (op : Co) (a b : E)
  | chn (o1 o2 : Co) (a b c : E)
  | isN (neg : Bool) (a : E)
  | isB (neg b : Bool) (a : E)
  | and (a b : E)
  | or (a b : E)
  | not (a : E)
  | ife (c a b : E)
  | call (f : Nat) (es : Es)
  /-- by keywords alone: the j-th parameter is the value at perm[j] -/
  | callK (f : Nat) (es : Es) (perm : List Nat)
  | bi (b : Bi) (es : Es)
  | idx (a i : E)
  | slc (a lo hi : E)
  | rev (a : E)
  | lc (elt : E) (tg : Tg) (it : It) (cond : E) (own : List Nat)
  /-- list(range(e)) -/
  | lrg (e : E)
  /-- never run -/
  | nev
inductive Es where
  | nil
  | cons (e : E) (es : Es)
inductive It where
  | va (e : E)
  | rg1 (e : E)
  | rg2 (a b : E)
  | zp (a b : E)
  | en (a : E)
  | st (a : E)
end

inductive Tt where
  | nm (i : Nat)
  | sub (a i : E)
  | tp (ts : List Tt)
mutual
inductive S where
  | asg (t : Tt) (e : E)
  /-- x, y = a, b of names; own: the value becomes an own list -/
  | par (i : Nat) (oi : Bool) (j : Nat) (oj : Bool) (a b : E)
  /-- x = e, x an own list from now on -/
  | newO (i : Nat) (e : E)
  | appO (i : Nat) (e : E)
  | extO (i : Nat) (e : E)
  | setO (i : Nat) (a e : E)
  | aug (i : Nat) (op : Bo) (e : E)
  | exp (e : E)
  | updC (a b : E)
  | ret (e : E)
  | retO (i : Nat)
  | ite (c : E) (a b : Ss)
  | whl (c : E) (b : Ss)
  | for (tg : Tg) (it : It) (b : Ss)
  | brk
  | cnt
  | pss
  /-- never run -/
  | nev
inductive Ss where
  | nil
  | cons (s : S) (ss : Ss)
end
end Ev

set_option Elab.async false
set_option linter.all false
set_option maxRecDepth 100000
/-! The evaluator. -/
namespace Ev
open PySem

/-! ### operations by values -/
def vw (st : St) : D → D
  | .ref n => match st[n]? with
    | some (.lst xs) => .lst xs
    | _ => .ref n
  | d => d
/-- the script read as a list, too -/
def vwS (st : St) : D → D
  | .scr ns => .lst (ns.map .int)
  | d => vw st d
def keyD : L2.Key → D
  | .inl i => .int i
  | .inr x => .str x.cps.toList
def dKey : D → Option L2.Key
  | .int i => some (.inl i)
  | .str x => some (.inr (toS x))
  | _ => none
/-- a dict by its keys -/
def vwK (st : St) : D → D
  | .ref n => match st[n]? with
    | some (.dct kvs) => .lst (kvs.map fun p => keyD p.1)
    | _ => .non
  | _ => .non

def eqD (a b : D) : Option Bool := if a.py.canLay0 && b.py.canLay0 && decide (min a.py.depth b.py.depth ≤ 64) then some (PyData.eqv a.py b.py) else none
def small (i : Int) : Bool := decide (-(2 ^ 64) < i) && decide (i < 2 ^ 64)
def catL (xs ys : List D) : Option (List D) := if xs.length + ys.length ≤ sizeLine then some (xs ++ ys) else none
def repL (xs : List D) (k : Int) : Option (List D) := if 2 ≤ k ∧ k ≤ 1000 ∧ xs.length ≤ 1000 ∧ xs ≠ [] then some (List.replicate k.toNat xs).flatten else none
def binD (op : Bo) (a b : D) : Option D := match op, a, b with
  | .add, .int i, .int j => some (.int (i + j))
  | .add, .str x, .str y => if x.length + y.length ≤ sizeLine then some (.str (x ++ y)) else none
  | .add, .tup xs, .tup ys => (catL xs ys).map .tup
  | .add, .lst xs, .lst ys => (catL xs ys).map .lst
  | .sub, .int i, .int j => some (.int (i - j))
  | .mul, .int i, .int j => if small i then some (.int (i * j)) else none
  | .mul, .tup xs, .int j => (repL xs j).map .tup
  | .mul, .lst xs, .int j => if 0 ≤ j ∧ j ≤ 1000 ∧ xs.length ≤ 1000 then some (.lst (List.replicate j.toNat xs).flatten) else none
  | .mod, .int i, .int j => if j = 0 then none else some (.int (i.fmod j))
  | .fdv, .int i, .int j => if j ≠ 0 ∧ j.natAbs < 1073741824 then some (.int (i.fdiv j)) else none
  | .pow, .int i, .int j => if 0 ≤ j ∧ j ≤ 1000000 ∧ i.natAbs < 2 ^ 64 then some (.int (i ^ j.toNat)) else none
  | _, _, _ => none
def inD (a : D) (xs : List D) : Option Bool := if SeqAt.shaped a.py && PyData.canLayAll0 (D.pys xs) then some (xs.any fun z => PyData.eqv z.py a.py) else none
def isinD (a b : D) : Option Bool := match b with
  | .tup xs => inD a xs
  | .lst xs => inD a xs
  | .str z => match a with
    | .str [c] => some (decide (c ∈ z))
    | _ => none
  | _ => none
def ordD (f : Int → Int → Bool) (g : List Nat → List Nat → Bool) (a b : D) : Option Bool := match a, b with
  | .int i, .int j => some (f i j)
  | .str x, .str y => some (g x y)
  | _, _ => none
def cmpD (op : Co) (a b : D) : Option Bool := match op with
  | .eq => eqD a b
  | .ne => (eqD a b).map (!·)
  | .lt => ordD (fun i j => decide (i < j)) (fun x y => decide (x < y)) a b
  | .gt => ordD (fun i j => decide (j < i)) (fun x y => decide (y < x)) a b
  | .le => ordD (fun i j => decide (i ≤ j)) (fun x y => !decide (y < x)) a b
  | .ge => ordD (fun i j => decide (j ≤ i)) (fun x y => !decide (x < y)) a b
  | .isin => isinD a b
  | .nin => (isinD a b).map (!·)
def tyIs : Ty → D → Bool
  | .tint, .int _ => true
  | .tint, .bl _ => true
  | .tbool, .bl _ => true
  | .tstr, .str _ => true
  | .ttup, .tup _ => true
  | .tlst, .lst _ => true
  | _, _ => false
def noRef : D → Bool
  | .ref _ => false
  | .scr _ => false
  | _ => true
def cutL {α : Type} (xs : List α) (lo hi : Option Int) : List α := (xs.drop (HT.sIx xs.length 0 lo)).take (HT.sIx xs.length xs.length hi - HT.sIx xs.length 0 lo)
def bndD : D → Option (Option Int)
  | .non => some none
  | .int i => some (some i)
  | _ => none
def slcD (a lo hi : D) : Option D := match bndD lo, bndD hi with
  | some l, some h => match a with
    | .tup xs => some (.tup (cutL xs l h))
    | .lst xs => some (.lst (cutL xs l h))
    | .str x => some (.str (cutL x l h))
    | _ => none
  | _, _ => none
def revD : D → Option D
  | .tup xs => some (.tup xs.reverse)
  | .lst xs => some (.lst xs.reverse)
  | _ => none
def idxD (a i : D) : Option D := match a, i with
  | .tup xs, .int i => L2.atI xs i
  | .lst xs, .int i => L2.atI xs i
  | .str x, .int i => (L2.atI x i).map fun c => .str [c]
  | _, _ => none
def bools : List D → Option (List Bool)
  | [] => some []
  | .bl b :: xs => (bools xs).map (b :: ·)
  | _ :: _ => none
def intsOf : List D → Option (List Int)
  | [] => some []
  | .int b :: xs => (intsOf xs).map (b :: ·)
  | _ :: _ => none
/-- ordered as the kit's data are -/
def leD (a b : D) : Bool := PySem.W.dataLe false D.py a b
def alikes (xs : List D) : Bool := xs.all fun a => xs.all fun b => PySem.W.alike a.py b.py
def tupHead : D → Bool
  | .tup (_ :: _) => true
  | _ => false
def noTup : D → Bool
  | .tup _ => false
  | .non => false
  | _ => true
def sortD (xs : List D) : Option (List D) := if PyData.canLayAll0 (D.pys xs) && alikes xs && (xs.all tupHead || xs.all noTup) && xs.all (fun a => decide (a.py.depth ≤ 60)) then some (xs.mergeSort leD) else none
def strsOf : List D → Option (List (List Nat))
  | [] => some []
  | .str b :: xs => (strsOf xs).map (b :: ·)
  | _ :: _ => none
def leS (x y : List Nat) : Bool := !decide (y < x)
/-- a dict's keys sorted -/
def sortK (xs : List D) : Option (List D) := if xs.length < 64 then (match intsOf xs with
  | some ns => some ((ns.mergeSort fun i j => decide (i ≤ j)).map .int)
  | none => (strsOf xs).bind fun zs => if zs.all (fun z => decide (z.length ≤ sizeLine)) then some ((zs.mergeSort leS).map .str) else none) else none
def putD (kvs : List (L2.Key × D)) (k : L2.Key) (v : D) : List (L2.Key × D) :=
  if (kvs.any fun kv => decide (kv.1 = k)) = true then kvs.map (fun kv => if kv.1 = k then (kv.1, v) else kv) else kvs ++ [(k, v)]
def mergeD (kvs more : List (L2.Key × D)) : List (L2.Key × D) := more.foldl (fun acc kv => putD acc kv.1 kv.2) kvs
/-- the pairs of a list of pairs (key, value) -/
def pairsD : List D → Option (List (L2.Key × D))
  | [] => some []
  | .tup [k, v] :: ps => match dKey k, pairsD ps with
    | some k', some r => some ((k', v) :: r)
    | _, _ => none
  | _ :: _ => none
def reprD (a : D) : Option D := if SeqAt.shaped a.py && a.py.showable && !a.py.hasDict && decide (a.py.shown.length ≤ sizeLine) then some (.str a.py.shown.cps.toList) else none
def one (as : List D) (f : D → Option D) : Option D := match as with
  | [a] => f a
  | _ => none
def two (as : List D) (f : D → D → Option D) : Option D := match as with
  | [a, b] => f a b
  | _ => none
theorem one_eq {as : List D} {f : D → Option D} {d : D} (h : one as f = some d) : ∃ a, as = [a] ∧ f a = some d := by
  unfold one at h
  split at h
  · exact ⟨_, rfl, h⟩
  · cases h
theorem two_eq {as : List D} {f : D → D → Option D} {d : D} (h : two as f = some d) : ∃ a b, as = [a, b] ∧ f a b = some d := by
  unfold two at h
  split at h
  · exact ⟨_, _, rfl, h⟩
  · cases h
def lenD : D → Option D
  | .tup xs => some (.int xs.length)
  | .lst xs => some (.int xs.length)
  | .str x => some (.int x.length)
  | _ => none
def itemsD : D → Option (List D)
  | .tup xs => some xs
  | .lst xs => some xs
  | _ => none
def lstD : D → Option (List D)
  | .lst xs => some xs
  | _ => none
def int1 (f : Int → Option D) : D → Option D
  | .int i => f i
  | _ => none
def int2 (f : Int → Int → Option D) : D → D → Option D
  | .int i, .int j => f i j
  | _, _ => none
def biD (b : Bi) (as : List D) : Option D := match b with
  | .len => one as lenD
  | .all => one as fun a => (lstD a).bind fun xs => (bools xs).map fun bs => .bl (bs.all id)
  | .any => one as fun a => (lstD a).bind fun xs => (bools xs).map fun bs => .bl (bs.any id)
  | .sum => one as fun a => (lstD a).bind fun xs => (intsOf xs).map fun ns => .int ns.sum
  | .tuple => one as fun a => (itemsD a).map .tup
  | .list => one as fun a => (itemsD a).map .lst
  | .sorted => one as fun a => (itemsD a).bind fun xs => (sortD xs).map .lst
  | .sortedD => one as fun a => (lstD a).bind fun xs => (sortK xs).map .lst
  | .repr => one as reprD
  | .intf => one as (int1 fun i => some (.int i))
  | .abs => one as (int1 fun i => some (.int (if i < 0 then -i else i)))
  | .max2 => two as (int2 fun i j => some (.int (if j > i then j else i)))
  | .min2 => two as (int2 fun i j => some (.int (if j < i then j else i)))
  | .divmod => two as (int2 fun i j => if 0 < j ∧ j < 1073741824 then some (.tup [.int (i / j), .int (i % j)]) else none)
  | .isin ts => one as fun a => if noRef a then some (.bl (ts.any (tyIs · a))) else none
theorem lenD_eq {a d : D} (h : lenD a = some d) : (∃ xs, a = .tup xs ∧ d = .int xs.length) ∨ (∃ xs, a = .lst xs ∧ d = .int xs.length) ∨ ∃ x, a = .str x ∧ d = .int x.length := by
  unfold lenD at h
  split at h
  · exact .inl ⟨_, rfl, (Option.some.inj h).symm⟩
  · exact .inr (.inl ⟨_, rfl, (Option.some.inj h).symm⟩)
  · exact .inr (.inr ⟨_, rfl, (Option.some.inj h).symm⟩)
  · cases h
theorem itemsD_eq {a : D} {xs : List D} (h : itemsD a = some xs) : a = .tup xs ∨ a = .lst xs := by
  unfold itemsD at h
  split at h
  · cases h; exact .inl rfl
  · cases h; exact .inr rfl
  · cases h
theorem lstD_eq {a : D} {xs : List D} (h : lstD a = some xs) : a = .lst xs := by
  unfold lstD at h
  split at h
  · cases h; rfl
  · cases h
theorem int1_eq {f : Int → Option D} {a d : D} (h : int1 f a = some d) : ∃ i, a = .int i ∧ f i = some d := by
  unfold int1 at h
  split at h
  · exact ⟨_, rfl, h⟩
  · cases h
theorem int2_eq {f : Int → Int → Option D} {a b d : D} (h : int2 f a b = some d) : ∃ i j, a = .int i ∧ b = .int j ∧ f i j = some d := by
  unfold int2 at h
  split at h
  · exact ⟨_, _, rfl, rfl, h⟩
  · cases h
theorem map_eq {α β : Type} {o : Option α} {f : α → β} {b : β} (h : o.map f = some b) : ∃ a, o = some a ∧ b = f a := by
  cases o with
  | none => cases h
  | some a => exact ⟨a, rfl, (Option.some.inj h).symm⟩
theorem bind_eq {α β : Type} {o : Option α} {f : α → Option β} {b : β} (h : o.bind f = some b) : ∃ a, o = some a ∧ f a = some b := by
  cases o with
  | none => cases h
  | some a => exact ⟨a, rfl, h⟩
def biArg (b : Bi) (st : St) (d : D) : D := match b with
  | .sortedD => vwK st d
  | _ => vwS st d
def rangeL (lo : Int) (n : Nat) : List D := (List.range n).map fun (i : Nat) => .int (lo + i)
def okRange (i : Int) : Bool := decide (-(2 ^ 62) ≤ i) && decide (i < 2 ^ 62)

/-! ### frames -/
def wipeE (env : Env) : List Nat → Env
  | [] => env
  | v :: vs => (wipeE env vs).set v .no
mutual
def asgTg : Tg → D → Env → Option Env
  | .nm i, d, env => if i < env.length then some (env.set i (.va d)) else none
  | .tp ts, d, env => match d with
    | .tup ds => asgTgs ts ds env
    | _ => none
def asgTgs : List Tg → List D → Env → Option Env
  | [], [], env => some env
  | t :: ts, d :: ds, env => match asgTg t d env with
    | some env' => asgTgs ts ds env'
    | none => none
  | _, _, _ => none
end
/-- what a loop walks must stay -/
inductive Gd where
  | own (i : Nat) (xs : List D)
  | cell (n : Nat) (xs : List D)
def Gd.ok (env : Env) (st : St) : Gd → Bool
  | .own i xs => decide (env[i]? = some (.ow xs))
  | .cell n xs => decide (st[n]? = some (.lst xs))
def gdsOk (env : Env) (st : St) (gs : List Gd) : Bool := gs.all (Gd.ok env st)
/-- the items of a sequence, and what must stay -/
def seqOf (st : St) : D → Option (List D × List Gd)
  | .tup xs => some (xs, [])
  | .lst xs => some (xs, [])
  | .scr ns => some (ns.map .int, [])
  | .ref n => match st[n]? with
    | some (.lst xs) => some (xs, [.cell n xs])
    | _ => none
  | _ => none
def isTup : D → Bool
  | .tup _ => true
  | _ => false
def guardOf : E → D → List Gd
  | .own i, .lst xs => [.own i xs]
  | _, _ => []

def R.noX {α : Type} : R α → R α
  | .ex _ _ => .no
  | r => r

/-- by a truth -/
def cnd {α : Type} (d : D) (a b : R α) : R α := match d with
  | .bl true => a
  | .bl false => b
  | _ => .no
def cndO {α : Type} (no : α) (d : D) (a b : α) : α := match d with
  | .bl true => a
  | .bl false => b
  | _ => no
def blR (d : D) (st : St) : R D := match d with
  | .bl c => .ok (.bl c) st
  | _ => .no
@[simp] theorem cnd_bl {α : Type} (c : Bool) (a b : R α) : cnd (.bl c) a b = if c then a else b := by cases c <;> rfl
@[simp] theorem cndO_bl {α : Type} (no : α) (c : Bool) (a b : α) : cndO no (.bl c) a b = if c then a else b := by cases c <;> rfl
@[simp] theorem blR_bl (c : Bool) (st : St) : blR (.bl c) st = .ok (.bl c) st := rfl

/-- the turns of a comprehension -/
def lcLoop (f : D → St → R (Option D)) (gs : List Gd) (env : Env) : List D → St → R (List D)
  | [], st => if gdsOk env st gs then .ok [] st else .no
  | x :: xs, st => if gdsOk env st gs then (f x st).bind fun o st1 => (lcLoop f gs env xs st1).bind fun ys st2 => .ok (match o with | some y => y :: ys | none => ys) st2 else .no

abbrev Cf := Nat → List D → St → R D

section
variable (cf : Cf) (gl : Nat → Option D)
mutual
def ev (env : Env) (st : St) : E → R D
  | .var i => match env[i]? with
    | some (.va d) => .ok d st
    | _ => .no
  | .own i => match env[i]? with
    | some (.ow xs) => .ok (.lst xs) st
    | _ => .no
  | .glob g => R.of (gl g) st
  | .cst d => .ok d st
  | .tup es => (evs env st es).bind fun ds st1 => .ok (.tup ds) st1
  | .lst es => (evs env st es).bind fun ds st1 => .ok (.lst ds) st1
  | .lstC es => (evs env st es).bind fun ds st1 => .ok (.ref st1.length) (st1 ++ [.lst ds])
  | .dctC e => (ev env st e).bind fun d st1 => match d with
    | .lst ps => match pairsD ps with
      | some kvs => .ok (.ref st1.length) (st1 ++ [.dct (mergeD [] kvs)])
      | none => .no
    | _ => .no
  | .bin op a b => (ev env st a).bind fun x st1 => (ev env st1 b).bind fun y st2 => R.of (binD op (vw st2 x) (vw st2 y)) st2
  | .cmp op a b => (ev env st a).bind fun x st1 => (ev env st1 b).bind fun y st2 => R.of ((cmpD op (vw st2 x) (vw st2 y)).map .bl) st2
  | .chn o1 o2 a b c => (ev env st a).bind fun x st1 => (ev env st1 b).bind fun y st2 => match cmpD o1 (vw st2 x) (vw st2 y) with
    | some true => (ev env st2 c).bind fun z st3 => R.of ((cmpD o2 (vw st3 y) (vw st3 z)).map .bl) st3
    | some false => .ok (.bl false) st2
    | none => .no
  | .isN neg a => (ev env st a).bind fun x st1 => .ok (.bl (Bool.xor neg (decide (x = .non)))) st1
  | .isB neg b a => (ev env st a).bind fun x st1 => match x with
    | .bl c => .ok (.bl (Bool.xor neg (decide (c = b)))) st1
    | _ => .no
  | .and a b => (ev env st a).bind fun x st1 => cnd x ((ev env st1 b).bind blR) (.ok (.bl false) st1)
  | .or a b => (ev env st a).bind fun x st1 => cnd x (.ok (.bl true) st1) ((ev env st1 b).bind blR)
  | .not a => (ev env st a).bind fun x st1 => match x with
    | .bl c => .ok (.bl (!c)) st1
    | _ => .no
  | .ife c a b => (ev env st c).bind fun x st1 => cnd x (ev env st1 a) (ev env st1 b)
  | .call f es => (evs env st es).bind fun ds st1 => cf f ds st1
  | .callK f es perm => (evs env st es).bind fun ds st1 => match perm.mapM (fun j => ds[j]?) with
    | some as => cf f as st1
    | none => .no
  | .bi b es => (evs env st es).bind fun ds st1 => R.of (biD b (ds.map (biArg b st1))) st1
  | .idx a i => (ev env st a).bind fun x st1 => (ev env st1 i).bind fun y st2 => R.of (idxD (vwS st2 x) y) st2
  | .slc a lo hi => (ev env st a).bind fun x st1 => (ev env st1 lo).bind fun l st2 => match bndD l with
    | some _ => (ev env st2 hi).bind fun h st3 => R.of (slcD (vwS st3 x) l h) st3
    | none => .no
  | .rev a => (ev env st a).bind fun x st1 => R.of (revD (vwS st1 x)) st1
  | .lc elt tg it cond own => (evIt env st it).bind fun p st1 => if p.1.length ≤ sizeLine then
    (lcLoop (fun x st2 => match asgTg tg x (wipeE env own) with
      | some env1 => (ev env1 st2 cond).bind fun c st3 => cnd c ((ev env1 st3 elt).bind fun y st4 => .ok (some y) st4) (.ok none st3)
      | none => .no) p.2 env p.1 st1).noX.bind fun ys st2 => .ok (.lst ys) st2
    else .no
  | .lrg e => (ev env st e).bind fun d st1 => match d with
    | .int j => if okRange j && decide (j.toNat ≤ 16777216) then .ok (.lst (rangeL 0 j.toNat)) st1 else .no
    | _ => .no
  | .nev => .no
def evs (env : Env) (st : St) : Es → R (List D)
  | .nil => .ok [] st
  | .cons e es => (ev env st e).bind fun d st1 => (evs env st1 es).bind fun ds st2 => .ok (d :: ds) st2
def evIt (env : Env) (st : St) : It → R (List D × List Gd)
  | .va e => (ev env st e).bind fun d st1 => R.of ((seqOf st1 d).map fun p => (p.1, p.2 ++ guardOf e d)) st1
  | .rg1 e => (ev env st e).bind fun d st1 => match d with
    | .int j => if okRange j then .ok (rangeL 0 j.toNat, []) st1 else .no
    | _ => .no
  | .rg2 a b => (ev env st a).bind fun x st1 => (ev env st1 b).bind fun y st2 => match x, y with
    | .int i, .int j => if okRange i && okRange j then .ok (rangeL i (j - i).toNat, []) st2 else .no
    | _, _ => .no
  | .zp a b => (ev env st a).bind fun x st1 => (ev env st1 b).bind fun y st2 => if isTup x != isTup y then .no else match seqOf st2 x, seqOf st2 y with
    | some p, some q => .ok (List.zipWith (fun u v => .tup [u, v]) p.1 q.1, p.2 ++ guardOf a x ++ (q.2 ++ guardOf b y)) st2
    | _, _ => .no
  | .en a => (ev env st a).bind fun x st1 => match seqOf st1 x with
    | some p => .ok (p.1.mapIdx (fun i u => .tup [.int i, u]), p.2 ++ guardOf a x) st1
    | none => .no
  | .st a => (ev env st a).bind fun x st1 => match x with
    | .str z => .ok (z.map fun c => .str [c], []) st1
    | _ => .no
end

/-! ### statements -/
inductive O where
  | nx (env : Env) (st : St)
  | rt (d : D) (st : St)
  | bk (env : Env) (st : St)
  | ct (env : Env) (st : St)
  | ex (x : Xc) (env : Env) (st : St)
  | no
def R.o {α : Type} (env : Env) (r : R α) (f : α → St → O) : O := match r with
  | .ok a st => f a st
  | .ex x st => .ex x env st
  | .no => .no
@[simp] theorem R.o_ok {α : Type} (env : Env) (a : α) (st : St) (f : α → St → O) : (R.ok a st).o env f = f a st := rfl
@[simp] theorem R.o_ex {α : Type} (env : Env) (x : Xc) (st : St) (f : α → St → O) : (R.ex x st : R α).o env f = .ex x env st := rfl
@[simp] theorem R.o_no {α : Type} (env : Env) (f : α → St → O) : (R.no : R α).o env f = .no := rfl
def setV (env : Env) (i : Nat) (s : Sl) : Option Env := if i < env.length then some (env.set i s) else none
mutual
/-- d stored at a target -/
def asgT (env : Env) (st : St) : Tt → D → O
  | .nm i, d => match setV env i (.va d) with
    | some env' => .nx env' st
    | none => .no
  | .sub a i, d => (ev cf gl env st a).o env fun x st1 => (ev cf gl env st1 i).o env fun y st2 => match x, y with
    | .ref n, .int k => match st2[n]? with
      | some (.lst xs) => match L2.ixN xs.length k with
        | some j => .nx env (st2.set n (.lst (xs.set j d)))
        | none => .no
      | _ => .no
    | _, _ => .no
  | .tp ts, d => match d with
    | .tup ds => if ds.length = ts.length then asgTs env st ts ds else .no
    | _ => .no
def asgTs (env : Env) (st : St) : List Tt → List D → O
  | [], [] => .nx env st
  | t :: ts, d :: ds => match asgT env st t d with
    | .nx env' st' => asgTs env' st' ts ds
    | .ex x env' st' => .ex x env' st'
    | _ => .no
  | _, _ => .no
end
def slot (own : Bool) (d : D) : Option Sl := if own then (match d with | .lst xs => some (.ow xs) | _ => none) else some (.va d)
/-- the turns of a for -/
def forLoop (f : D → Env → St → O) (gs : List Gd) : List D → Env → St → O
  | [], env, st => if gdsOk env st gs then .nx env st else .no
  | x :: xs, env, st => if gdsOk env st gs then match f x env st with
    | .nx env' st' => forLoop f gs xs env' st'
    | .ct env' st' => forLoop f gs xs env' st'
    | .bk env' st' => .nx env' st'
    | r => r
    else .no
def whlLoop (c : Env → St → R D) (f : Env → St → O) : Nat → Env → St → O
  | 0, _, _ => .no
  | n + 1, env, st => (c env st).o env fun d st1 => match d with
    | .bl true => match f env st1 with
      | .nx env' st' => whlLoop c f n env' st'
      | .ct env' st' => whlLoop c f n env' st'
      | .bk env' st' => .nx env' st'
      | r => r
    | .bl false => .nx env st1
    | _ => .no
def fuel : Nat := 1000000
mutual
def exec (env : Env) (st : St) : S → O
  | .asg t e => (ev cf gl env st e).o env fun d st1 => asgT cf gl env st1 t d
  | .par i oi j oj a b => (ev cf gl env st a).o env fun x st1 => match slot oi x with
    | some u => (ev cf gl env st1 b).o env fun y st2 => match slot oj y with
      | some v => match setV env i u with
        | some env1 => match setV env1 j v with
          | some env2 => if i = j then .no else .nx env2 st2
          | none => .no
        | none => .no
      | none => .no
    | none => .no
  | .newO i e => (ev cf gl env st e).o env fun d st1 => match slot true d with
    | some u => match setV env i u with
      | some env1 => .nx env1 st1
      | none => .no
    | none => .no
  | .appO i e => match env[i]? with
    | some (.ow xs) => (ev cf gl env st e).o env fun d st1 => if xs.length < sizeLine then .nx (env.set i (.ow (xs ++ [d]))) st1 else .no
    | _ => .no
  | .extO i e => match env[i]? with
    | some (.ow xs) => (ev cf gl env st e).o env fun d st1 => match vw st1 d with
      | .lst ys => if xs.length + ys.length ≤ sizeLine then .nx (env.set i (.ow (xs ++ ys))) st1 else .no
      | _ => .no
    | _ => .no
  | .setO i a e => (ev cf gl env st e).o env fun d st1 => match env[i]? with
    | some (.ow xs) => (ev cf gl env st1 a).o env fun k st2 => match k with
      | .int k => match L2.ixN xs.length k with
        | some j => .nx (env.set i (.ow (xs.set j d))) st2
        | none => .no
      | _ => .no
    | _ => .no
  | .aug i op e => match env[i]? with
    | some (.va x) => (ev cf gl env st e).o env fun y st1 => match op, x, y with
      | .add, .int a, .int b => .nx (env.set i (.va (.int (a + b)))) st1
      | .sub, .int a, .int b => .nx (env.set i (.va (.int (a - b)))) st1
      | _, _, _ => .no
    | _ => .no
  | .exp e => (ev cf gl env st e).o env fun _ st1 => .nx env st1
  | .updC a b => (ev cf gl env st a).o env fun x st1 => match x with
    | .ref n => match st1[n]? with
      | some (.dct _) => (ev cf gl env st1 b).o env fun y st2 => match y with
        | .ref m => match st2[n]?, st2[m]? with
          | some (.dct kvs), some (.dct more) => if n ≠ m ∧ kvs.length + more.length ≤ sizeLine then .nx env (st2.set n (.dct (mergeD kvs more))) else .no
          | _, _ => .no
        | _ => .no
      | _ => .no
    | _ => .no
  | .ret e => (ev cf gl env st e).o env fun d st1 => .rt d st1
  | .retO i => match env[i]? with
    | some (.ow xs) => .rt (.lst xs) st
    | _ => .no
  | .ite c a b => (ev cf gl env st c).o env fun d st1 => cndO .no d (execs env st1 a) (execs env st1 b)
  | .whl c b => whlLoop (fun env st => ev cf gl env st c) (fun env st => execs env st b) fuel env st
  | .for tg it b => (evIt cf gl env st it).o env fun p st1 => forLoop (fun x env st => match asgTg tg x env with
      | some env1 => execs env1 st b
      | none => .no) p.2 p.1 env st1
  | .brk => .bk env st
  | .cnt => .ct env st
  | .pss => .nx env st
  | .nev => .no
def execs (env : Env) (st : St) : Ss → O
  | .nil => .nx env st
  | .cons s ss => match exec env st s with
    | .nx env' st' => execs env' st' ss
    | r => r
end
end

structure Def where
  ps : Nat
  n : Nat
  body : Ss
structure Pg where
  defs : Nat → Option Def
  gl : Nat → Option D
def retOf : O → R D
  | .nx _ st => .ok .non st
  | .rt d st => .ok d st
  | .ex x _ st => .ex x st
  | _ => .no
def callN (P : Pg) : Nat → Cf
  | 0, _, _, _ => .no
  | k + 1, f, ds, st => match P.defs f with
    | some d => if ds.length = d.ps then retOf (execs (callN P k) P.gl (ds.map Sl.va ++ List.replicate (d.n - d.ps) Sl.no) st d.body) else .no
    | none => .no
end Ev

set_option Elab.async false
set_option linter.all false
set_option maxRecDepth 100000
/-! What a value of the evaluator stands for in the hand layer's abstract heap. -/
namespace Ev
open PySem PySem.Spec PyProof.Rows L2

/-- the cells' addresses; the lists that nobody changes any more -/
structure Wd where
  φ : List Addr
  F : Addr → Prop

section
variable (K : PySem.W.Frag)
def KLst (a : Addr) (xs : List V) : Prop :=
  ∃ (o : Obj) (its : Array Value) (n : Nat), K.lookup a = some o ∧ o.cls = .type "list" ∧ o.dict = none ∧ o.data = .seq its n ∧ its.size ≤ sizeLine ∧ Vals xs its.toList
def KTup (a : Addr) (xs : List V) : Prop :=
  ∃ (o : Obj) (its : Array Value) (n : Nat), K.lookup a = some o ∧ o.cls = .type "tuple" ∧ o.data = .seq its n ∧ its.size ≤ sizeLine ∧ Vals xs its.toList
def LstAt (H : Hp) (ω : Wd) (a : Addr) (vs : List V) : Prop := H a = some (.lst vs) ∧ a ∉ ω.φ ∧ ω.F a
def ScrAt (H : Hp) (ω : Wd) (a : Addr) (vs : List V) : Prop := ((∃ o, H a = some (.frz o (.lst vs))) ∧ a ∉ ω.φ) ∨ KLst K a vs
def TupAt (H : Hp) (ω : Wd) (a : Addr) (vs : List V) : Prop := (Rd H a (.tup vs) ∧ a ∉ ω.φ) ∨ KTup K a vs
mutual
def Rep (H : Hp) (ω : Wd) (v : V) : D → Prop
  | .non => v = .non
  | .bl b => v = .bl b
  | .int i => v = .int i
  | .str x => v = .str (toS x) ∧ x.length ≤ sizeLine
  | .tup ds => ∃ a vs, v = .ref a ∧ TupAt K H ω a vs ∧ ds.length ≤ sizeLine ∧ Reps H ω vs ds
  | .lst ds => ∃ a vs, v = .ref a ∧ LstAt H ω a vs ∧ ds.length ≤ sizeLine ∧ Reps H ω vs ds
  | .ref n => ∃ a, ω.φ[n]? = some a ∧ v = .ref a
  | .scr ns => ∃ a, v = .ref a ∧ ScrAt K H ω a (ns.map .int) ∧ ns.length ≤ sizeLine
def Reps (H : Hp) (ω : Wd) : List V → List D → Prop
  | [], [] => True
  | v :: vs, d :: ds => Rep H ω v d ∧ Reps H ω vs ds
  | _, _ => False
end
def RepK (H : Hp) (ω : Wd) : List (Key × V) → List (Key × D) → Prop
  | [], [] => True
  | p :: ps, q :: qs => (p.1 = q.1 ∧ Rep K H ω p.2 q.2) ∧ RepK H ω ps qs
  | _, _ => False
end

/-- how a step may leave the world -/
structure Ext (H : Hp) (ω : Wd) (H' : Hp) (ω' : Wd) : Prop where
  pre : ω.φ <+: ω'.φ
  frz : ∀ a, ω.F a → ω'.F a
  keep : ∀ a o, H a = some o → a ∉ ω.φ → H' a = some o
  new : ∀ a, a ∈ ω'.φ → a ∈ ω.φ ∨ H a = none
  newF : ∀ a, ω'.F a → ω.F a ∨ H a = none
  cells : ∀ a, a ∈ ω.φ → H a ≠ none → H' a ≠ none
theorem Ext.refl (H : Hp) (ω : Wd) : Ext H ω H ω := ⟨List.prefix_refl _, fun _ h => h, fun _ _ h _ => h, fun _ h => .inl h, fun _ h => .inl h, fun _ _ h => h⟩
theorem Ext.stay {H H' : Hp} {ω ω' : Wd} (e : Ext H ω H' ω') {a : Addr} (h : H a ≠ none) : H' a ≠ none := by
  by_cases q : a ∈ ω.φ
  · exact e.cells a q h
  · cases r : H a with
    | none => exact absurd r h
    | some o => rw [e.keep a o r q]; simp
theorem Ext.trans {H H1 H2 : Hp} {ω ω1 ω2 : Wd} (e : Ext H ω H1 ω1) (f : Ext H1 ω1 H2 ω2) : Ext H ω H2 ω2 where
  pre := e.pre.trans f.pre
  frz := fun a h => f.frz a (e.frz a h)
  keep := fun a o h n => f.keep a o (e.keep a o h n) fun q => (e.new a q).elim n fun z => by rw [z] at h; cases h
  new := fun a h => (f.new a h).elim (e.new a) fun z => by
    cases q : H a with
    | none => exact .inr rfl
    | some o => exact absurd z (e.stay (by rw [q]; simp))
  newF := fun a h => (f.newF a h).elim (e.newF a) fun z => by
    cases q : H a with
    | none => exact .inr rfl
    | some o => exact absurd z (e.stay (by rw [q]; simp))
  cells := fun a h q => f.stay (e.stay q)
theorem Ext.at {H H' : Hp} {ω ω' : Wd} (e : Ext H ω H' ω') {n : Nat} {a : Addr} (h : ω.φ[n]? = some a) : ω'.φ[n]? = some a := by
  obtain ⟨t, q⟩ := e.pre
  rw [← q, List.getElem?_append_left (List.getElem?_eq_some_iff.mp h).1]
  exact h

/-- as Ext, but lists that are not frozen may change -/
structure WExt (H : Hp) (ω : Wd) (H' : Hp) (ω' : Wd) : Prop where
  pre : ω.φ <+: ω'.φ
  frz : ∀ a, ω.F a → ω'.F a
  keep : ∀ a o, H a = some o → a ∉ ω.φ → (ω.F a ∨ ∀ vs, o ≠ .lst vs) → H' a = some o
  new : ∀ a, a ∈ ω'.φ → a ∈ ω.φ ∨ H a = none
  newF : ∀ a, ω'.F a → ω.F a ∨ H a = none
  stay : ∀ a, H a ≠ none → H' a ≠ none
theorem Ext.w {H H' : Hp} {ω ω' : Wd} (e : Ext H ω H' ω') : WExt H ω H' ω' := ⟨e.pre, e.frz, fun a o h n _ => e.keep a o h n, e.new, e.newF, fun _ h => e.stay h⟩
theorem WExt.refl (H : Hp) (ω : Wd) : WExt H ω H ω := (Ext.refl H ω).w
theorem WExt.trans {H H1 H2 : Hp} {ω ω1 ω2 : Wd} (e : WExt H ω H1 ω1) (f : WExt H1 ω1 H2 ω2) : WExt H ω H2 ω2 where
  pre := e.pre.trans f.pre
  frz := fun a h => f.frz a (e.frz a h)
  keep := fun a o h n c => f.keep a o (e.keep a o h n c) (fun q => (e.new a q).elim n fun z => by rw [z] at h; cases h) (c.elim (fun z => .inl (e.frz a z)) .inr)
  new := fun a h => (f.new a h).elim (e.new a) fun z => by
    cases q : H a with
    | none => exact .inr rfl
    | some o => exact absurd z (e.stay a (by rw [q]; simp))
  newF := fun a h => (f.newF a h).elim (e.newF a) fun z => by
    cases q : H a with
    | none => exact .inr rfl
    | some o => exact absurd z (e.stay a (by rw [q]; simp))
  stay := fun a h => f.stay a (e.stay a h)
theorem WExt.at {H H' : Hp} {ω ω' : Wd} (e : WExt H ω H' ω') {n : Nat} {a : Addr} (h : ω.φ[n]? = some a) : ω'.φ[n]? = some a := by
  obtain ⟨t, q⟩ := e.pre
  rw [← q, List.getElem?_append_left (List.getElem?_eq_some_iff.mp h).1]
  exact h
/-- what represented values need of a step -/
structure RExt (H : Hp) (ω : Wd) (H' : Hp) (ω' : Wd) : Prop where
  pre : ω.φ <+: ω'.φ
  frz : ∀ a, ω.F a → ω'.F a
  keep : ∀ a o, H a = some o → a ∉ ω.φ → (ω.F a ∨ ∀ vs, o ≠ .lst vs) → H' a = some o
  new : ∀ a, a ∈ ω'.φ → a ∈ ω.φ ∨ H a = none
theorem WExt.r {H H' : Hp} {ω ω' : Wd} (e : WExt H ω H' ω') : RExt H ω H' ω' := ⟨e.pre, e.frz, e.keep, e.new⟩
theorem RExt.at {H H' : Hp} {ω ω' : Wd} (e : RExt H ω H' ω') {n : Nat} {a : Addr} (h : ω.φ[n]? = some a) : ω'.φ[n]? = some a := by
  obtain ⟨t, q⟩ := e.pre
  rw [← q, List.getElem?_append_left (List.getElem?_eq_some_iff.mp h).1]
  exact h

section
variable {K : PySem.W.Frag} {H H' : Hp} {ω ω' : Wd}
theorem RExt.rd (e : RExt H ω H' ω') {a : Addr} {u : HO} (hu : ∀ vs, u ≠ .lst vs) (h : Rd H a u) (n : a ∉ ω.φ) : Rd H' a u ∧ a ∉ ω'.φ := by
  rcases h with h | ⟨o, h⟩
  · exact ⟨.inl (e.keep _ _ h n (.inr hu)), fun q => (e.new a q).elim n fun z => by rw [z] at h; cases h⟩
  · exact ⟨.inr ⟨o, e.keep _ _ h n (.inr fun vs q => nomatch q)⟩, fun q => (e.new a q).elim n fun z => by rw [z] at h; cases h⟩
theorem LstAt.rext (e : RExt H ω H' ω') {a : Addr} {vs : List V} (h : LstAt H ω a vs) : LstAt H' ω' a vs := by
  obtain ⟨h, n, f⟩ := h
  exact ⟨e.keep _ _ h n (.inl f), fun q => (e.new a q).elim n fun z => by (rw [z] at h; cases h), e.frz a f⟩
theorem ScrAt.rext (e : RExt H ω H' ω') {a : Addr} {vs : List V} (h : ScrAt K H ω a vs) : ScrAt K H' ω' a vs := by
  rcases h with ⟨⟨o, h⟩, n⟩ | h
  · exact .inl ⟨⟨o, e.keep _ _ h n (.inr fun vs q => nomatch q)⟩, fun q => (e.new a q).elim n fun z => by rw [z] at h; cases h⟩
  · exact .inr h
theorem ScrAt.sq {a : Addr} {vs : List V} (h : ScrAt K H ω a vs) : SqL K H a vs := h.elim (fun h => .inl (.inr h.1)) .inr
theorem TupAt.rext (e : RExt H ω H' ω') {a : Addr} {vs : List V} (h : TupAt K H ω a vs) : TupAt K H' ω' a vs := by
  rcases h with ⟨h, n⟩ | h
  · exact .inl (e.rd (fun vs q => nomatch q) h n)
  · exact .inr h
theorem LstAt.sq {a : Addr} {vs : List V} (h : LstAt H ω a vs) : SqL K H a vs := .inl (.inl h.1)
theorem TupAt.sq {a : Addr} {vs : List V} (h : TupAt K H ω a vs) : SqT K H a vs := h.elim (fun h => .inl h.1) .inr
mutual
theorem Rep.rext (e : RExt H ω H' ω') : ∀ {v : V} (d : D), Rep K H ω v d → Rep K H' ω' v d
  | _, .non, h => by simpa [Rep] using h
  | _, .bl b, h => by simpa [Rep] using h
  | _, .int i, h => by simpa [Rep] using h
  | _, .str x, h => by simpa [Rep] using h
  | _, .tup ds, h => by
    simp only [Rep] at h ⊢
    obtain ⟨a, vs, h1, h2, h3, h4⟩ := h
    exact ⟨a, vs, h1, h2.rext e, h3, Reps.rext e ds h4⟩
  | _, .lst ds, h => by
    simp only [Rep] at h ⊢
    obtain ⟨a, vs, h1, h2, h3, h4⟩ := h
    exact ⟨a, vs, h1, h2.rext e, h3, Reps.rext e ds h4⟩
  | _, .ref n, h => by
    simp only [Rep] at h ⊢
    obtain ⟨a, h1, h2⟩ := h
    exact ⟨a, e.at h1, h2⟩
  | _, .scr ns, h => by
    simp only [Rep] at h ⊢
    obtain ⟨a, h1, h2, h3⟩ := h
    exact ⟨a, h1, h2.rext e, h3⟩
theorem Reps.rext (e : RExt H ω H' ω') : ∀ {vs : List V} (ds : List D), Reps K H ω vs ds → Reps K H' ω' vs ds
  | [], [], h => h
  | v :: vs, d :: ds, h => by
    simp only [Reps] at h ⊢
    exact ⟨Rep.rext e d h.1, Reps.rext e ds h.2⟩
  | [], _ :: _, h => h.elim
  | _ :: _, [], h => h.elim
end
theorem LstAt.wext (e : WExt H ω H' ω') {a : Addr} {vs : List V} (h : LstAt H ω a vs) : LstAt H' ω' a vs := h.rext e.r
theorem ScrAt.wext (e : WExt H ω H' ω') {a : Addr} {vs : List V} (h : ScrAt K H ω a vs) : ScrAt K H' ω' a vs := h.rext e.r
theorem TupAt.wext (e : WExt H ω H' ω') {a : Addr} {vs : List V} (h : TupAt K H ω a vs) : TupAt K H' ω' a vs := h.rext e.r
theorem Rep.wext (e : WExt H ω H' ω') {v : V} (d : D) (h : Rep K H ω v d) : Rep K H' ω' v d := Rep.rext e.r d h
theorem Reps.wext (e : WExt H ω H' ω') {vs : List V} (ds : List D) (h : Reps K H ω vs ds) : Reps K H' ω' vs ds := Reps.rext e.r ds h
theorem Rep.ext (e : Ext H ω H' ω') {v : V} (d : D) (h : Rep K H ω v d) : Rep K H' ω' v d := Rep.rext e.w.r d h
theorem Reps.ext (e : Ext H ω H' ω') {vs : List V} (ds : List D) (h : Reps K H ω vs ds) : Reps K H' ω' vs ds := Reps.rext e.w.r ds h
theorem Reps.length : ∀ {vs : List V} {ds : List D}, Reps K H ω vs ds → vs.length = ds.length
  | [], [], _ => rfl
  | v :: vs, d :: ds, h => by simp only [Reps] at h; simp [Reps.length h.2]
  | [], _ :: _, h => h.elim
  | _ :: _, [], h => h.elim
theorem Reps.get : ∀ {vs : List V} {ds : List D} {i : Nat} {d : D}, Reps K H ω vs ds → ds[i]? = some d → ∃ v, vs[i]? = some v ∧ Rep K H ω v d
  | [], [], _, _, _, e => by simp at e
  | v :: vs, d :: ds, 0, _, h, e => by
    simp only [Reps] at h
    simp at e; subst e
    exact ⟨v, rfl, h.1⟩
  | v :: vs, d :: ds, i + 1, _, h, e => by
    simp only [Reps] at h
    obtain ⟨w, h1, h2⟩ := Reps.get (i := i) h.2 (by simpa using e)
    exact ⟨w, by simpa using h1, h2⟩
  | [], _ :: _, _, _, h, _ => h.elim
  | _ :: _, [], _, _, h, _ => h.elim
theorem Reps.getV : ∀ {vs : List V} {ds : List D} {i : Nat} {v : V}, Reps K H ω vs ds → vs[i]? = some v → ∃ d, ds[i]? = some d ∧ Rep K H ω v d
  | [], [], _, _, _, e => by simp at e
  | v :: vs, d :: ds, 0, _, h, e => by
    simp only [Reps] at h
    simp at e; subst e
    exact ⟨d, rfl, h.1⟩
  | v :: vs, d :: ds, i + 1, _, h, e => by
    simp only [Reps] at h
    obtain ⟨w, h1, h2⟩ := Reps.getV (i := i) h.2 (by simpa using e)
    exact ⟨w, by simpa using h1, h2⟩
  | [], _ :: _, _, _, h, _ => h.elim
  | _ :: _, [], _, _, h, _ => h.elim
theorem Reps.append : ∀ {vs ws : List V} {ds es : List D}, Reps K H ω vs ds → Reps K H ω ws es → Reps K H ω (vs ++ ws) (ds ++ es)
  | [], _, [], _, _, h => h
  | v :: vs, _, d :: ds, _, h, h' => by
    simp only [Reps, List.cons_append] at h ⊢
    exact ⟨h.1, Reps.append h.2 h'⟩
  | [], _, _ :: _, _, h, _ => h.elim
  | _ :: _, _, [], _, h, _ => h.elim
theorem Reps.take : ∀ {vs : List V} {ds : List D} (n : Nat), Reps K H ω vs ds → Reps K H ω (vs.take n) (ds.take n)
  | [], [], n, _ => by cases n <;> trivial
  | _ :: _, _ :: _, 0, _ => trivial
  | v :: vs, d :: ds, n + 1, h => by
    simp only [Reps, List.take_succ_cons] at h ⊢
    exact ⟨h.1, Reps.take n h.2⟩
  | [], _ :: _, _, h => h.elim
  | _ :: _, [], _, h => h.elim
theorem Reps.drop : ∀ {vs : List V} {ds : List D} (n : Nat), Reps K H ω vs ds → Reps K H ω (vs.drop n) (ds.drop n)
  | [], [], n, _ => by cases n <;> trivial
  | _ :: _, _ :: _, 0, h => h
  | v :: vs, d :: ds, n + 1, h => by
    simp only [Reps, List.drop_succ_cons] at h ⊢
    exact Reps.drop n h.2
  | [], _ :: _, _, h => h.elim
  | _ :: _, [], _, h => h.elim
theorem Reps.set : ∀ {vs : List V} {ds : List D} {v : V} {d : D} (i : Nat), Reps K H ω vs ds → Rep K H ω v d → Reps K H ω (vs.set i v) (ds.set i d)
  | [], [], _, _, _, h, _ => by simpa using h
  | _ :: _, _ :: _, _, _, 0, h, r => by
    simp only [Reps, List.set_cons_zero] at h ⊢
    exact ⟨r, h.2⟩
  | v :: vs, d :: ds, _, _, n + 1, h, r => by
    simp only [Reps, List.set_cons_succ] at h ⊢
    exact ⟨h.1, Reps.set n h.2 r⟩
  | [], _ :: _, _, _, _, h, _ => h.elim
  | _ :: _, [], _, _, _, h, _ => h.elim
theorem Reps.reverse : ∀ {vs : List V} {ds : List D}, Reps K H ω vs ds → Reps K H ω vs.reverse ds.reverse
  | [], [], h => h
  | v :: vs, d :: ds, h => by
    simp only [Reps, List.reverse_cons] at h ⊢
    exact (Reps.reverse h.2).append (by simp only [Reps]; exact ⟨h.1, trivial⟩)
  | [], _ :: _, h => h.elim
  | _ :: _, [], h => h.elim
theorem Reps.flat {vs : List V} {ds : List D} (h : Reps K H ω vs ds) : ∀ n : Nat, Reps K H ω (List.replicate n vs).flatten (List.replicate n ds).flatten
  | 0 => trivial
  | n + 1 => by
    simp only [List.replicate_succ, List.flatten_cons]
    exact h.append (h.flat n)
theorem RepK.ext (e : Ext H ω H' ω') : ∀ {ps : List (Key × V)} {qs : List (Key × D)}, RepK K H ω ps qs → RepK K H' ω' ps qs
  | [], [], h => h
  | p :: ps, q :: qs, h => by
    simp only [RepK] at h ⊢
    exact ⟨⟨h.1.1, h.1.2.ext e⟩, RepK.ext e h.2⟩
  | [], _ :: _, h => h.elim
  | _ :: _, [], h => h.elim

/-- a cell's object -/
def CellR (K : PySem.W.Frag) (H : Hp) (ω : Wd) (a : Addr) : C → Prop
  | .lst xs => ∃ vs, H a = some (.lst vs) ∧ xs.length ≤ sizeLine ∧ Reps K H ω vs xs
  | .dct kvs => ∃ ps, H a = some (.dK ps) ∧ RepK K H ω ps kvs
structure Sim (K : PySem.W.Frag) (H : Hp) (ω : Wd) (st : St) : Prop where
  len : ω.φ.length = st.length
  nd : ω.φ.Nodup
  nF : ∀ a, a ∈ ω.φ → ¬ ω.F a
  hF : ∀ a, ω.F a → H a ≠ none
  cell : ∀ (n : Nat) (c : C), st[n]? = some c → ∃ a, ω.φ[n]? = some a ∧ CellR K H ω a c
theorem CellR.there {a : Addr} {c : C} (h : CellR K H ω a c) : H a ≠ none := by
  cases c with
  | lst xs => obtain ⟨vs, h, _⟩ := h; rw [h]; simp
  | dct kvs => obtain ⟨vs, h, _⟩ := h; rw [h]; simp
theorem Sim.has {st : St} (s : Sim K H ω st) {n : Nat} {a : Addr} (h : ω.φ[n]? = some a) : ∃ c : C, st[n]? = some c := by
  obtain ⟨hl, _⟩ := List.getElem?_eq_some_iff.mp h
  have hl : n < st.length := by rw [← s.len]; exact hl
  exact ⟨st[n], List.getElem?_eq_getElem hl⟩
theorem Sim.there {st : St} (s : Sim K H ω st) {a : Addr} (h : a ∈ ω.φ) : H a ≠ none := by
  obtain ⟨n, hn⟩ := List.mem_iff_getElem?.mp h
  obtain ⟨c, hc⟩ := s.has hn
  obtain ⟨b, h1, h2⟩ := s.cell n c hc
  rw [hn] at h1
  cases h1
  exact h2.there
theorem Sim.fresh {st : St} (s : Sim K H ω st) {p : Addr} (h : H p = none) : p ∉ ω.φ := fun q => s.there q h
theorem Sim.tup {st : St} (s : Sim K H ω st) {a : Addr} {vs : List V} (h : H a = some (.tup vs)) : a ∉ ω.φ := fun q => by
  obtain ⟨n, hn⟩ := List.mem_iff_getElem?.mp q
  obtain ⟨c, hc⟩ := s.has hn
  obtain ⟨b, h1, h2⟩ := s.cell n c hc
  rw [hn] at h1
  cases h1
  cases c with
  | lst xs => obtain ⟨ws, e, _⟩ := h2; rw [h] at e; cases e
  | dct xs => obtain ⟨ws, e, _⟩ := h2; rw [h] at e; cases e

/-- a new object beside -/
theorem Ext.updN {st : St} (s : Sim K H ω st) {p : Addr} {o : HO} (h : H p = none) : Ext H ω (upd H p o) ω where
  pre := List.prefix_refl _
  frz := fun _ h => h
  keep := fun a u e _ => by rw [upd_ne (ne_of_none e h)]; exact e
  new := fun _ h => .inl h
  newF := fun _ h => .inl h
  cells := fun a _ n => by
    cases q : H a with
    | none => exact absurd q n
    | some u => rw [upd_ne (ne_of_none q h), q]; simp
theorem CellR.ext {H2 : Hp} (e : Ext H ω H2 ω') {a : Addr} {c : C} (hs : ∀ u, H a = some u → H2 a = some u) (h : CellR K H ω a c) : CellR K H2 ω' a c := by
  cases c with
  | lst xs =>
    obtain ⟨vs, h1, h2, h3⟩ := h
    exact ⟨vs, hs _ h1, h2, Reps.ext e xs h3⟩
  | dct kvs =>
    obtain ⟨vs, h1, h2⟩ := h
    exact ⟨vs, hs _ h1, h2.ext e⟩
theorem Sim.updN {st : St} (s : Sim K H ω st) {p : Addr} {o : HO} (h : H p = none) : Sim K (upd H p o) ω st :=
  ⟨s.len, s.nd, s.nF, fun a ha => (Ext.updN (o := o) s h).stay (s.hF a ha), fun n c e => by
    obtain ⟨a, h1, h2⟩ := s.cell n c e
    exact ⟨a, h1, h2.ext (Ext.updN s h) fun u q => by rw [upd_ne (ne_of_none q h)]; exact q⟩⟩
/-- a new list that is frozen at once -/
def Wd.frz (ω : Wd) (p : Addr) : Wd := ⟨ω.φ, fun a => ω.F a ∨ a = p⟩
theorem Ext.frzN (ω : Wd) {H : Hp} {p : Addr} (h : H p = none ∨ ω.F p) (H' : Hp) (k : ∀ a o, H a = some o → H' a = some o) : Ext H ω H' (ω.frz p) where
  pre := List.prefix_refl _
  frz := fun _ h => .inl h
  keep := fun a u e _ => k a u e
  new := fun _ h => .inl h
  newF := fun a h' => h'.elim .inl fun e => by subst e; exact h.elim .inr .inl
  cells := fun a _ n => by
    cases q : H a with
    | none => exact absurd q n
    | some u => rw [k a u q]; simp
theorem upd_keep {H : Hp} {p : Addr} {o : HO} (h : H p = none) : ∀ a u, H a = some u → upd H p o a = some u := fun a u e => by
  rw [upd_ne (ne_of_none e h)]; exact e
theorem Sim.updF {st : St} (s : Sim K H ω st) {p : Addr} {o : HO} (h : H p = none) : Sim K (upd H p o) (ω.frz p) st :=
  ⟨s.len, s.nd, fun a ha => fun q => q.elim (s.nF a ha) fun e => by subst e; exact s.fresh h ha, fun a ha => ha.elim (fun z => (Ext.updN (o := o) s h).stay (s.hF a z)) fun z => by subst z; rw [upd_same]; simp, fun n c e => by
    obtain ⟨a, h1, h2⟩ := s.cell n c e
    exact ⟨a, h1, h2.ext (Ext.frzN ω (.inl h) _ (upd_keep h)) fun u q => by rw [upd_ne (ne_of_none q h)]; exact q⟩⟩
/-- a new tuple of represented things -/
theorem Rep.newTup {st : St} (s : Sim K H ω st) {p : Addr} {vs : List V} {ds : List D} (h : H p = none) (hl : ds.length ≤ sizeLine) (r : Reps K H ω vs ds) : Rep K (upd H p (.tup vs)) ω (.ref p) (.tup ds) := by
  simp only [Rep]
  exact ⟨p, vs, rfl, .inl ⟨.inl upd_same, s.fresh h⟩, hl, Reps.ext (Ext.updN s h) ds r⟩
theorem Rep.newLst {st : St} (s : Sim K H ω st) {p : Addr} {vs : List V} {ds : List D} (h : H p = none) (hl : ds.length ≤ sizeLine) (r : Reps K H ω vs ds) : Rep K (upd H p (.lst vs)) (ω.frz p) (.ref p) (.lst ds) := by
  simp only [Rep]
  exact ⟨p, vs, rfl, ⟨upd_same, s.fresh h, .inr rfl⟩, hl, Reps.ext (Ext.frzN ω (.inl h) _ (upd_keep h)) ds r⟩

/-- what may be read: a represented value, or a list that is the frame's own or a cell's -/
def RepT (K : PySem.W.Frag) (H : Hp) (ω : Wd) (v : V) (d : D) : Prop := Rep K H ω v d ∨ ∃ a vs ds, v = .ref a ∧ d = .lst ds ∧ H a = some (.lst vs) ∧ ds.length ≤ sizeLine ∧ Reps K H ω vs ds
theorem Rep.vw {st : St} (s : Sim K H ω st) {v : V} {d : D} (r : Rep K H ω v d) : RepT K H ω v (vw st d) := by
  cases d with
  | ref n =>
    simp only [Ev.vw]
    cases e : st[n]? with
    | none => exact .inl r
    | some c =>
      cases c with
      | dct kvs => exact .inl r
      | lst xs =>
        simp only [Rep] at r
        obtain ⟨a, h1, rfl⟩ := r
        obtain ⟨b, h2, vs, h3, h4, h5⟩ := s.cell n _ e
        rw [h1] at h2
        cases h2
        exact .inr ⟨a, vs, xs, rfl, rfl, h3, h4, h5⟩
  | non => exact .inl r
  | bl _ => exact .inl r
  | int _ => exact .inl r
  | str _ => exact .inl r
  | tup _ => exact .inl r
  | lst _ => exact .inl r
  | scr _ => exact .inl r
/-- what may be read as a sequence: the script, too -/
def RepS (K : PySem.W.Frag) (H : Hp) (ω : Wd) (v : V) (d : D) : Prop := Rep K H ω v d ∨ ∃ a vs ds, v = .ref a ∧ d = .lst ds ∧ SqL K H a vs ∧ ds.length ≤ sizeLine ∧ Reps K H ω vs ds
theorem Reps.ints : ∀ ns : List Int, Reps K H ω (ns.map .int) (ns.map .int)
  | [] => trivial
  | n :: ns => by simp only [List.map_cons, Reps, Rep]; exact ⟨trivial, Reps.ints ns⟩
theorem RepT.s {v : V} {d : D} (r : RepT K H ω v d) : RepS K H ω v d := by
  rcases r with r | ⟨a, vs, es, h1, h2, h3, h4, h5⟩
  · exact .inl r
  · exact .inr ⟨a, vs, es, h1, h2, .inl (.inl h3), h4, h5⟩
theorem Rep.vwS {st : St} (s : Sim K H ω st) {v : V} {d : D} (r : Rep K H ω v d) : RepS K H ω v (vwS st d) := by
  cases d with
  | scr ns =>
    simp only [Rep] at r
    obtain ⟨a, rfl, h2, h3⟩ := r
    exact .inr ⟨a, _, _, rfl, rfl, h2.sq, by simpa using h3, Reps.ints ns⟩
  | ref n => exact (Rep.vw s r).s
  | non => exact .inl r
  | bl _ => exact .inl r
  | int _ => exact .inl r
  | str _ => exact .inl r
  | tup _ => exact .inl r
  | lst _ => exact .inl r
/-- a readable list's items -/
theorem RepS.lst {v : V} {ds : List D} (r : RepS K H ω v (.lst ds)) : ∃ a vs, v = .ref a ∧ SqL K H a vs ∧ ds.length ≤ sizeLine ∧ Reps K H ω vs ds := by
  rcases r with r | ⟨a, vs, es, h1, h2, h3, h4, h5⟩
  · simp only [Rep] at r
    obtain ⟨a, vs, h1, h2, h3, h4⟩ := r
    exact ⟨a, vs, h1, h2.sq, h3, h4⟩
  · cases h2
    exact ⟨a, vs, h1, h3, h4, h5⟩
theorem RepS.rep {v : V} {d : D} (r : RepS K H ω v d) (h : ∀ ds, d ≠ .lst ds) : Rep K H ω v d := by
  rcases r with r | ⟨a, vs, es, h1, h2, h3, h4, h5⟩
  · exact r
  · exact absurd h2 (h es)
theorem RepS.tup {v : V} {ds : List D} (r : RepS K H ω v (.tup ds)) : ∃ a vs, v = .ref a ∧ TupAt K H ω a vs ∧ ds.length ≤ sizeLine ∧ Reps K H ω vs ds := by
  have r := r.rep (fun _ e => by cases e)
  simpa only [Rep] using r
theorem RepS.int {v : V} {i : Int} (r : RepS K H ω v (.int i)) : v = .int i := by
  have r := r.rep (fun _ e => by cases e)
  simpa only [Rep] using r
theorem RepS.bl {v : V} {i : Bool} (r : RepS K H ω v (.bl i)) : v = .bl i := by
  have r := r.rep (fun _ e => by cases e)
  simpa only [Rep] using r
theorem RepS.str {v : V} {i : List Nat} (r : RepS K H ω v (.str i)) : v = .str (toS i) ∧ i.length ≤ sizeLine := by
  have r := r.rep (fun _ e => by cases e)
  simpa only [Rep] using r
/-- a tracked list -/
theorem RepT.lst {v : V} {ds : List D} (r : RepT K H ω v (.lst ds)) : ∃ a vs, v = .ref a ∧ H a = some (.lst vs) ∧ ds.length ≤ sizeLine ∧ Reps K H ω vs ds := by
  rcases r with r | ⟨a, vs, es, h1, h2, h3, h4, h5⟩
  · simp only [Rep] at r
    obtain ⟨a, vs, h1, h2, h3, h4⟩ := r
    exact ⟨a, vs, h1, h2.1, h3, h4⟩
  · cases h2
    exact ⟨a, vs, h1, h3, h4, h5⟩
theorem RepT.ext (e : Ext H ω H' ω') {v : V} {d : D} (r : RepT K H ω v d) (hn : ∀ a vs, H a = some (.lst vs) → v = .ref a → H' a = some (.lst vs)) : RepT K H' ω' v d := by
  rcases r with r | ⟨a, vs, es, h1, h2, h3, h4, h5⟩
  · exact .inl (r.ext e)
  · exact .inr ⟨a, vs, es, h1, h2, hn a vs h3 h1, h4, Reps.ext e es h5⟩

mutual
/-- a value without references, as the layer's data -/
theorem Rep.dp : ∀ {v : V} (d : D), d.py.canLay0 = true → Rep K H ω v d → Dp K H v d.py
  | _, .non, _, h => by simp only [Rep] at h; subst h; exact .non
  | _, .bl b, _, h => by simp only [Rep] at h; subst h; exact .bl b
  | _, .int i, _, h => by simp only [Rep] at h; subst h; exact .int i
  | _, .str x, _, h => by simp only [Rep] at h; obtain ⟨rfl, _⟩ := h; exact .str _
  | _, .tup ds, c, h => by
    simp only [Rep] at h
    obtain ⟨a, vs, rfl, h2, _, h4⟩ := h
    exact .tup h2.sq (Reps.dp ds (by simpa [D.py, PyData.canLay0] using c) h4)
  | _, .lst ds, c, h => by
    simp only [Rep] at h
    obtain ⟨a, vs, rfl, h2, _, h4⟩ := h
    exact .lst h2.sq (Reps.dp ds (by simpa [D.py, PyData.canLay0] using c) h4)
  | _, .ref n, c, _ => by simp [D.py, PyData.canLay0] at c
  | _, .scr n, c, _ => by simp [D.py, PyData.canLay0] at c
theorem Reps.dp : ∀ {vs : List V} (ds : List D), PyData.canLayAll0 (D.pys ds) = true → Reps K H ω vs ds → DpAll K H vs (D.pys ds)
  | [], [], _, _ => .nil
  | v :: vs, d :: ds, c, h => by
    simp only [Reps] at h
    simp only [D.pys, PyData.canLayAll0, Bool.and_eq_true] at c ⊢
    exact .cons (Rep.dp d c.1 h.1) (Reps.dp ds c.2 h.2)
  | [], _ :: _, _, h => h.elim
  | _ :: _, [], _, h => h.elim
end
theorem RepS.dp {v : V} {d : D} (c : d.py.canLay0 = true) (r : RepS K H ω v d) : Dp K H v d.py := by
  rcases r with r | ⟨a, vs, es, rfl, rfl, h3, h4, h5⟩
  · exact Rep.dp d c r
  · exact .lst h3 (Reps.dp es (by simpa [D.py, PyData.canLay0] using c) h5)
end
end Ev

set_option Elab.async false
set_option linter.all false
set_option maxRecDepth 100000
/-! enumerate of a tuple; what a loop walks, be it a list or a tuple. -/
namespace PySem
open Sem (wp)
set_option maxHeartbeats 1000000 in
/-- enumerate(v), one argument, over anything that begins -/
theorem evEnumNew {v : Value} {o : Obj} {H : Heap → Prop} (B : Begins v o H) :
    Meets (Builtin.«enumerate.__new__» ⟨[.type "enumerate", v], []⟩) (fun _ R s => H s.heap ∧
      R (.ok (.ret (.ref (s.heap.push o).objs.size))) { s with heap := (s.heap.push o).push { cls := .type "enumerate", data := .fields #[.none, .bool false, .ref s.heap.objs.size, rawInt 0, .none, .none] } }) :=
  .of_wp fun prog w A R s q => by
    obtain ⟨hp, g, d, tk, os⟩ := s
    obtain ⟨h1, h⟩ := q
    have hsub := sub_enumerate
    have begun : ∀ {A' : Around} {E : Value → Shared → Prop} {Q : Value → Shared → Prop}, Q (.ref hp.objs.size) ⟨hp.push o, g, d, tk, os⟩ → wpAny (model prog w) A' (pyIter v) Q E ⟨hp, g, d, tk, os⟩ :=
      fun z => B.iter prog w _ _ ⟨hp, g, d, tk, os⟩ _ h1 z
    wp_walk using begun
    refine wpAny_stack_any fun _ => wpAny_pure ?_
    split
    · rename_i c _ _ _ _ _
      cases (c == Value.type "enumerate") <;> (wp_walk using begun; exact ⟨_, rfl, h⟩)
    · wp_walk using begun
      exact ⟨_, rfl, h⟩
section
variable {prog : Program} {w : World} {A : Around} {E : Value → Shared → Prop} {s : Shared}
theorem evEnumCall {v : Value} {o : Obj} {H : Heap → Prop} {Q : Value → Shared → Prop} (B : Begins v o H) (h1 : H s.heap)
    (h : ∀ h', IsEnum h' (s.heap.objs.size + 1) s.heap.objs.size 0 .none → h'.get? s.heap.objs.size = some o → h'.objs.size = s.heap.objs.size + 2 →
      (∀ b u, s.heap.get? b = some u → h'.get? b = some u) → Q (.ref (s.heap.objs.size + 1)) { s with heap := h' }) :
    wpAny (model prog w) A (call (.type "enumerate") [v]) Q E s := by
  have hz : (s.heap.push o).objs.size = s.heap.objs.size + 1 := Heap.size_push ..
  have he := Heap.get?_push_size (s.heap.push o) (o := { cls := .type "enumerate", data := .fields #[.none, .bool false, .ref s.heap.objs.size, rawInt 0, .none, .none] }) rfl
  rw [hz] at he
  refine callType_new F.called_enumerate (by decide) (F.typeCall_enumerate_1 _) (F.newCall_enumerate_1 _) (fun obj => F.args_object_init_2 obj _) F.entry_enumerate_new (evEnumNew B) ⟨h1, ?_⟩
  show _ ∧ _
  rw [hz]
  exact ⟨⟨_, he, rfl⟩, h _ he (Heap.get?_push_of_some _ (Heap.get?_push_size _ B.free)) (by rw [Heap.size_push, hz]) fun b u x => Heap.get?_push_of_some _ (Heap.get?_push_of_some _ x)⟩
end
end PySem

namespace Ev
open PySem PySem.Spec PyProof.Rows L2
/-- the tuple at a, its items in new pairs -/
def IteT (K : PySem.W.Frag) (a : Addr) : L2.It :=
  ⟨fun i H => ∃ (xs : List V) (x : V), SqT K H a xs ∧ xs[i]? = some x, fun i H v H' => ∃ T x, v = .ref T ∧ H T = none ∧ H' = upd H T (.tup [.int (i : Nat), x]) ∧ ∀ xs, SqT K H a xs → xs[i]? = some x, fun i H => ∃ xs : List V, SqT K H a xs ∧ xs.length = i⟩
theorem turnEnumT {P : Program} {w : World} {K : PySem.W.Frag} {elts : List Expr} {kk : Nat} {tpos : Pos} (a e it : Addr) :
    Turn P w K (.Tuple elts kk tpos) (IteT K a) [e, it] e (fun i h => (∃ old, IsEnum h e it ((i : Nat) : Int) old) ∧ h.IsTupleIter it a i ∧ e ≠ it ∧ a ≠ it ∧ a ≠ e) where
  mem := by simp
  obj := fun i h st b hb => by
    obtain ⟨⟨old, he⟩, ⟨o, ho, hc, hd⟩, _⟩ := st
    rcases (show b = e ∨ b = it by simpa using hb) with rfl | rfl
    · exact ⟨_, he, fun v q => nomatch q⟩
    · exact ⟨o, ho, fun v q => by rw [hd] at q; cases q⟩
  keep := fun i h h' st k => let ⟨⟨old, he⟩, hi, hne⟩ := st; ⟨⟨old, k e (by simp) _ he⟩, hi.at fun o q => k it (by simp) o q, hne⟩
  item := by
    intro X hP hw hK hc i pins s σ H E I hf st hg
    subst hP hw hK
    obtain ⟨⟨old, he⟩, hit, hne, hn2, hn3⟩ := st
    obtain ⟨xs, x, hq, hx⟩ := hg
    obtain ⟨its, rv, p, hz⟩ := I.tuple hq
    obtain ⟨u, hu, ru⟩ := rv.get hx
    have hel : e < s.heap.objs.size := Heap.lt_size he
    have hil : it < s.heap.objs.size := by obtain ⟨_, q, _⟩ := hit; exact Heap.lt_size q
    have hlt : i < its.toArray.size := by
      have := (List.getElem?_eq_some_iff.mp hu).1
      simpa using this
    have DD := Draws.tuple (prog := X.prog) (w := X.w) (A := X.A.in1) (I.ok.hd hc) it a hn2 its.toArray
    refine wpAny_pyNext_enum_itemD DD he ⟨hit, show s.heap.IsTuple a its.toArray from p⟩ hlt hne (by simp [hne, Ne.symm hn3]) fun y h' tk hy ho hit' hT hsz hk => ?_
    have ey : y = u := by
      have h1 : its.toArray[i]? = some y := hy
      rw [show its.toArray[i]? = some u by simpa using hu] at h1
      exact (Option.some.inj h1).symm
    subst ey
    refine ⟨_, rfl, wpAny_letOwnedTupleGo_enum (s := { s with heap := h', toks := tk + 1 }) ho fun h'' he' sb => ?_⟩
    have hT2 : h''.get? s.heap.objs.size = some { cls := .type "tuple", data := .seq #[.int i tk, y] } := (sb.2 _ (Nat.ne_of_gt hel)).trans hT
    have new : ObjOk X.prog X.w (upd H s.heap.objs.size (.tup [.int (i : Nat), x])) h'' s.heap.objs.size (.tup [.int (i : Nat), x]) :=
      ⟨by show 2 ≤ sizeLine; decide, [.int i tk, y], .cons ⟨_, rfl⟩ (.cons ru .nil), ⟨_, hT2, rfl, _, rfl⟩⟩
    have I1 : Inv X pins σ (upd H s.heap.objs.size (.tup [.int (i : Nat), x])) { s with heap := h'', toks := tk + 1 } :=
      I.turnedNew (ch := [e, it]) (fun b ob hb q => (sb.2 b (fun z => hb (by simp [z]))).trans (hk b ob (fun z => hb (by simp [z])) (fun z => hb (by simp [z])) q)) hf (Nat.le_refl _) new
    refine ⟨.ref s.heap.objs.size, _, I1, rfl, ⟨_, x, rfl, I.hok.fresh (Nat.le_refl _), rfl, fun ys hy => by rw [I.tuple_inj hy hq]; exact hx⟩, ⟨⟨y, ?_⟩, hit'.1.at fun o q => (sb.2 it (Ne.symm hne)).trans q, hne, hn2, hn3⟩, fun b hb => ?_⟩
    · have e1 : ((i + 1 : Nat) : Int) = (i : Int) + 1 := by omega
      rw [e1]; exact he'
    · have hb' : b < s.heap.objs.size := by
        rcases (show b = e ∨ b = it by simpa using hb) with rfl | rfl
        · exact hel
        · exact hil
      rw [upd_ne (Nat.ne_of_lt hb')]
      exact (hf b hb).1
  done := by
    intro X hP hw hK hc i pins s σ H E I hf st hg
    subst hP hw hK
    obtain ⟨⟨old, he⟩, hit, hne, hn2, hn3⟩ := st
    obtain ⟨xs, hq, hx⟩ := hg
    obtain ⟨its, rv, p, hz⟩ := I.tuple hq
    obtain ⟨f0, f1, f2, f3, f4, f5⟩ := hf it (by simp)
    have hl := rv.length
    have hi : i = its.toArray.size := by
      rw [List.size_toArray, ← hl]
      exact hx.symm
    · subst hi
      have DD := Draws.tuple (prog := X.prog) (w := X.w) (A := X.A.in1) (I.ok.hd hc) it a hn2 its.toArray
      exact wpAny_pyNext_enum_endD DD he ⟨hit, show s.heap.IsTuple a its.toArray from p⟩ fun h' eb => ⟨rfl, I.turned (t' := s.toks) (fun b o hb q => eb b o hb q) f0 f1 f3 f4 f5⟩
  self := fun A i s Q E st h => let ⟨⟨_, he⟩, _⟩ := st; wpAny_pyIter_enum he h

/-- what is walked, told by its own record: the items xs, each by yld, as long as the sequence stands -/
def tSeq (K : PySem.W.Frag) (te : TE) : TI := fun σ H R => te σ H fun x H1 => ∃ a xs, x = .ref a ∧ ((SqL K H1 a xs ∧ R (Itl K a) H1) ∨ (SqT K H1 a xs ∧ R (Itt K a) H1))
theorem pi_seq {X : Cx} {tg l : Expr} {tl : TE} (hl : PE X l tl) : PI X tg l (tSeq X.K tl) := by
  refine ⟨fun pins s σ H R I h => ?_⟩
  refine thn (hl.run pins s σ H _ I h) fun v s1 ⟨x, H1, I1, r1, a, xs, e, q⟩ => ?_
  subst e
  cases r1
  have ok : ∀ {b : Addr}, b ∈ [s1.heap.objs.size] → FpOk X pins H1 b := fun {b} hb => by
    obtain rfl : b = s1.heap.objs.size := by simpa using hb
    exact I1.fpOk (Nat.le_refl _) (I1.hok.fresh (Nat.le_refl _))
  rcases q with ⟨hq, q⟩ | ⟨hq, q⟩
  · obtain ⟨its, r, p, hz⟩ := I1.list hq
    exact wpAny_pyIter_list p.isList ⟨s1.heap.objs.size, [s1.heap.objs.size], _, _, H1, rfl, I1.kept (t' := s1.toks) fun b o e => Heap.get?_push_of_some _ e, turn_list a _, ⟨_, Heap.get?_push_size _ rfl, rfl, rfl⟩, fun b hb => ok hb, q⟩
  · obtain ⟨its, r, p, hz⟩ := I1.tuple hq
    exact wpAny_pyIter_tuple (show s1.heap.IsTuple a its.toArray from p) ⟨s1.heap.objs.size, [s1.heap.objs.size], _, _, H1, rfl, I1.kept (t' := s1.toks) fun b o e => Heap.get?_push_of_some _ e, turn_tuple a _, ⟨_, Heap.get?_push_size _ rfl, rfl, rfl⟩, fun b hb => ok hb, q⟩
def tEnm (K : PySem.W.Frag) (ta : TA) : TI := fun σ H R => ta σ H fun vs H1 => ∃ a xs, vs = [.ref a] ∧ ((SqL K H1 a xs ∧ R (Ite K a) H1) ∨ (SqT K H1 a xs ∧ R (IteT K a) H1))
theorem pi_enm {X : Cx} {e : Expr} {ta : TA} {p pos tpos : Pos} {elts : List Expr} {kk : Nat} (hg : Gl X "enumerate") (hm : X.mg "enumerate" = none) (ha : PA X [e] ta) (hs : starEach [e] X.env = [(false, eval e X.env)]) :
    PI X (.Tuple elts kk tpos) (.Call (.Name "enumerate" p) [e] [] pos) (tEnm X.K ta) := by
  refine ⟨fun pins s σ H R I h => ?_⟩
  refine Call_ (ld_blt I hg hm boot_enumerate (PyProof.Rows.callWith_type1 (thn (ha.run pos pins s σ H _ I h) fun us s1 ⟨vs, H1, I1, r1, a, xs, ex, q⟩ => ?_) hs rfl))
  subst ex
  cases r1 with
  | cons r rr =>
    cases rr
    cases r
    have hle : ∀ {b : Addr}, b ∈ [s1.heap.objs.size + 1, s1.heap.objs.size] → FpOk X pins H1 b := fun {b} hb => by
      have hb : s1.heap.objs.size ≤ b := by
        rcases (show b = s1.heap.objs.size + 1 ∨ b = s1.heap.objs.size by simpa using hb) with rfl | rfl
        · exact Nat.le_succ _
        · exact Nat.le_refl _
      exact I1.fpOk hb (I1.hok.fresh hb)
    rcases q with ⟨hq, q⟩ | ⟨hq, q⟩
    · obtain ⟨its, rv, p', hz⟩ := I1.list hq
      exact call_enumerate_list p'.isList fun h' he hit hsz hk => wpAny_pyIter_enum he ⟨s1.heap.objs.size + 1, [s1.heap.objs.size + 1, s1.heap.objs.size], _, _, H1, rfl, I1.kept (t' := s1.toks) hk,
        turn_enum a (s1.heap.objs.size + 1) s1.heap.objs.size, ⟨⟨.none, he⟩, hit, Nat.succ_ne_self _⟩, fun b hb => hle hb, q⟩
    · obtain ⟨its, rv, p', hz⟩ := I1.tuple hq
      have hp : s1.heap.IsTuple a its.toArray := p'
      have la : a < s1.heap.objs.size := by obtain ⟨o, e, _⟩ := hp; exact Heap.lt_size e
      refine evEnumCall (begins_tuple a its.toArray) hp fun h' he hit hsz hk => wpAny_pyIter_enum he ⟨s1.heap.objs.size + 1, [s1.heap.objs.size + 1, s1.heap.objs.size], _, _, H1, rfl, I1.kept (t' := s1.toks) hk,
        turnEnumT a (s1.heap.objs.size + 1) s1.heap.objs.size, ⟨⟨.none, he⟩, ⟨_, hit, rfl, rfl⟩, Nat.succ_ne_self _, Nat.ne_of_lt la, Nat.ne_of_lt (Nat.lt_succ_of_lt la)⟩, fun b hb => hle hb, q⟩
end Ev

set_option Elab.async false
set_option linter.all false
set_option maxRecDepth 100000
/-! Operations by values. -/
namespace Ev
open PySem PySem.Spec PyProof.Rows L2

def Bo.py : Bo → Operator
  | .add => .Add
  | .sub => .Sub
  | .mul => .Mult
  | .mod => .Mod
  | .fdv => .FloorDiv
  | .pow => .Pow
def Co.py : Co → CmpOp
  | .eq => .Eq
  | .ne => .NotEq
  | .lt => .Lt
  | .le => .LtE
  | .gt => .Gt
  | .ge => .GtE
  | .isin => .In
  | .nin => .NotIn

/-- d is handed on -/
def Out (K : PySem.W.Frag) (H : Hp) (ω : Wd) (st : St) (d : D) (Q : VK) : Prop := ∀ v H' ω', Ext H ω H' ω' → Sim K H' ω' st → Rep K H' ω' v d → Q v H'
section
variable {K : PySem.W.Frag} {H : Hp} {ω : Wd} {st : St} {Q : VK}
theorem Out.now {d : D} {v : V} (s : Sim K H ω st) (o : Out K H ω st d Q) (r : Rep K H ω v d) : Q v H := o v H ω (Ext.refl H ω) s r
theorem Out.tup {ds : List D} {vs : List V} {p : Addr} (s : Sim K H ω st) (o : Out K H ω st (.tup ds) Q) (h : H p = none) (hl : ds.length ≤ sizeLine) (r : Reps K H ω vs ds) : Q (.ref p) (upd H p (.tup vs)) :=
  o _ _ ω (Ext.updN s h) (s.updN h) (Rep.newTup s h hl r)
theorem Out.lst {ds : List D} {vs : List V} {p : Addr} (s : Sim K H ω st) (o : Out K H ω st (.lst ds) Q) (h : H p = none) (hl : ds.length ≤ sizeLine) (r : Reps K H ω vs ds) : Q (.ref p) (upd H p (.lst vs)) :=
  o _ _ (ω.frz p) (Ext.frzN ω (.inl h) _ (upd_keep h)) (s.updF h) (Rep.newLst s h hl r)
theorem Out.int {i : Int} (s : Sim K H ω st) (o : Out K H ω st (.int i) Q) : Q (.int i) H := o.now s (by simp only [Rep])
theorem Out.bl {i : Bool} (s : Sim K H ω st) (o : Out K H ω st (.bl i) Q) : Q (.bl i) H := o.now s (by simp only [Rep])
theorem Out.str {x : List Nat} (s : Sim K H ω st) (o : Out K H ω st (.str x) Q) (h : x.length ≤ sizeLine) : Q (.str (toS x)) H := o.now s (by simp only [Rep]; exact ⟨trivial, h⟩)
end
theorem toS_len (x : List Nat) : (toS x).length = x.length := by simp [toS, PySem.Str.length]
theorem toS_list (x : List Nat) : (toS x).cps.toList = x := by simp [toS]
theorem toS_app (x y : List Nat) : toS x ++ toS y = toS (x ++ y) := by
  show PySem.Str.append _ _ = _
  simp [toS, PySem.Str.append]
theorem toS_of (x : Str) : toS x.cps.toList = x := by cases x; simp [toS]
theorem toS_inj {x y : List Nat} (h : toS x = toS y) : x = y := by rw [← toS_list x, h, toS_list]

def rBin (K : PySem.W.Frag) (op : Bo) : R2 := fun x y H Q => ∃ ω st a b d, Sim K H ω st ∧ RepT K H ω x a ∧ RepT K H ω y b ∧ binD op a b = some d ∧ Out K H ω st d Q

section
variable {X : Cx}
theorem catL_eq {xs ys zs : List D} (h : catL xs ys = some zs) : xs.length + ys.length ≤ sizeLine ∧ zs = xs ++ ys := by
  unfold catL at h
  split at h
  · exact ⟨by assumption, (Option.some.inj h).symm⟩
  · cases h
theorem repL_eq {xs zs : List D} {k : Int} (h : repL xs k = some zs) : (2 ≤ k ∧ k ≤ 1000 ∧ xs.length ≤ 1000 ∧ xs ≠ []) ∧ zs = (List.replicate k.toNat xs).flatten := by
  unfold repL at h
  split at h
  · exact ⟨by assumption, (Option.some.inj h).symm⟩
  · cases h
theorem flat_len {α : Type} (xs : List α) : ∀ n : Nat, (List.replicate n xs).flatten.length = n * xs.length
  | 0 => by simp
  | n + 1 => by simp [List.replicate_succ, flat_len xs n, Nat.succ_mul, Nat.add_comm]
theorem flat_small {α : Type} {xs : List α} {k : Int} (h1 : 0 ≤ k) (h2 : k ≤ 1000) (h3 : xs.length ≤ 1000) : xs.length * k.toNat ≤ sizeLine := by
  have a : k.toNat ≤ 1000 := by omega
  exact Nat.le_trans (Nat.mul_le_mul h3 a) (by decide)
set_option maxHeartbeats 1000000 in
theorem opBin (op : Bo) : OpR X (binaryOp op.py) (rBin X.K op) := by
  rintro pins s σ H x y v u Q I rx ry ⟨ω, st, a, b, d, sim, ra, rb, hd, o⟩
  unfold binD at hd
  split at hd
  · cases hd
    obtain rfl := ra.s.int
    obtain rfl := rb.s.int
    exact op_add pins s σ H _ _ v u Q I rx ry ⟨_, _, rfl, rfl, Out.int sim o⟩
  · rename_i x' y'
    split at hd
    · rename_i hz
      cases hd
      obtain ⟨rfl, h1⟩ := ra.s.str
      obtain ⟨rfl, h2⟩ := rb.s.str
      refine op_add_str pins s σ H _ _ v u Q I rx ry ⟨_, _, rfl, rfl, by rw [toS_len, toS_len]; exact hz, ?_⟩
      rw [toS_app]
      exact Out.str sim o (by rw [List.length_append]; exact hz)
    · cases hd
  · rename_i xs ys
    cases e : catL xs ys with
    | none => rw [e] at hd; cases hd
    | some zs =>
      rw [e] at hd
      cases hd
      obtain ⟨hz, rfl⟩ := catL_eq e
      obtain ⟨p, vs, rfl, h1, h2, h3⟩ := ra.s.tup
      obtain ⟨q, ws, rfl, h4, h5, h6⟩ := rb.s.tup
      have l1 := h3.length
      have l2 := h6.length
      refine op_catA pins s σ H _ _ v u Q I rx ry ⟨p, q, vs, ws, rfl, rfl, h1.sq, h4.sq, by omega, fun e => ?_, fun e1 e2 => ?_, fun e1 e2 r hr => ?_⟩
      · have e' : xs = [] := List.eq_nil_of_length_eq_zero (by rw [← l1, e]; rfl)
        subst e'
        exact o.now sim (by simp only [Rep]; exact ⟨q, ws, rfl, h4, h5, h6⟩)
      · have e' : ys = [] := List.eq_nil_of_length_eq_zero (by rw [← l2, e2]; rfl)
        subst e'
        rw [List.append_nil] at o
        exact o.now sim (by simp only [Rep]; exact ⟨p, vs, rfl, h1, h2, h3⟩)
      · exact Out.tup sim o hr (by rw [List.length_append]; exact hz) (h3.append h6)
  · rename_i xs ys
    cases e : catL xs ys with
    | none => rw [e] at hd; cases hd
    | some zs =>
      rw [e] at hd
      cases hd
      obtain ⟨hz, rfl⟩ := catL_eq e
      obtain ⟨p, vs, rfl, h1, h2, h3⟩ := ra.lst
      obtain ⟨q, ws, rfl, h4, h5, h6⟩ := rb.lst
      have l1 := h3.length
      have l2 := h6.length
      exact op_cat pins s σ H _ _ v u Q I rx ry ⟨p, q, vs, ws, rfl, rfl, h1, h4, by omega, fun r hr => Out.lst sim o hr (by rw [List.length_append]; exact hz) (h3.append h6)⟩
  · cases hd
    obtain rfl := ra.s.int
    obtain rfl := rb.s.int
    exact op_sub pins s σ H _ _ v u Q I rx ry ⟨_, _, rfl, rfl, Out.int sim o⟩
  · rename_i i j
    split at hd
    · rename_i hz
      cases hd
      obtain rfl := ra.s.int
      obtain rfl := rb.s.int
      simp only [small, Bool.and_eq_true, decide_eq_true_eq] at hz
      exact op_mul pins s σ H _ _ v u Q I rx ry ⟨_, _, rfl, rfl, .inl ⟨hz.1, hz.2⟩, Out.int sim o⟩
    · cases hd
  · rename_i xs k
    cases e : repL xs k with
    | none => rw [e] at hd; cases hd
    | some zs =>
      rw [e] at hd
      cases hd
      obtain ⟨⟨hk, hk2, hl, hne⟩, rfl⟩ := repL_eq e
      obtain ⟨p, vs, rfl, h1, h2, h3⟩ := ra.s.tup
      obtain rfl := rb.s.int
      have l1 := h3.length
      refine op_repT pins s σ H _ _ v u Q I rx ry ⟨p, k, vs, rfl, rfl, h1.sq, fun e => hne (List.eq_nil_of_length_eq_zero (by rw [← l1, e]; rfl)), hk, hk2, by omega, fun r hr => Out.tup sim o hr ?_ (h3.flat _)⟩
      rw [flat_len, Nat.mul_comm]
      exact flat_small (by omega) hk2 hl
  · rename_i xs k
    split at hd
    · rename_i hz
      cases hd
      obtain ⟨p, vs, rfl, h1, h2, h3⟩ := ra.lst
      obtain rfl := rb.s.int
      have l1 := h3.length
      refine op_rep pins s σ H _ _ v u Q I rx ry ⟨p, k, vs, rfl, rfl, h1, by omega, by omega, flat_small hz.1 hz.2.1 (by omega), fun r hr => Out.lst sim o hr ?_ (h3.flat _)⟩
      rw [flat_len, Nat.mul_comm]
      exact flat_small hz.1 hz.2.1 hz.2.2
    · cases hd
  · split at hd
    · cases hd
    · rename_i hz
      cases hd
      obtain rfl := ra.s.int
      obtain rfl := rb.s.int
      exact op_modN pins s σ H _ _ v u Q I rx ry ⟨_, _, rfl, rfl, hz, Out.int sim o⟩
  · split at hd
    · rename_i hz
      cases hd
      obtain rfl := ra.s.int
      obtain rfl := rb.s.int
      exact op_fdivN pins s σ H _ _ v u Q I rx ry ⟨_, _, rfl, rfl, hz, Out.int sim o⟩
    · cases hd
  · split at hd
    · rename_i hz
      cases hd
      obtain rfl := ra.s.int
      obtain rfl := rb.s.int
      exact op_pow pins s σ H _ _ v u Q I rx ry ⟨_, _, rfl, rfl, hz, Out.int sim o⟩
    · cases hd
  · cases hd

/-! ### comparisons -/
def rCmp (K : PySem.W.Frag) (op : Co) : R2 := fun x y H Q => ∃ ω st a b c, Sim K H ω st ∧ RepS K H ω x a ∧ RepS K H ω y b ∧ cmpD op a b = some c ∧ Q (.bl c) H
theorem eqD_eq {a b : D} {c : Bool} (h : eqD a b = some c) : a.py.canLay0 = true ∧ b.py.canLay0 = true ∧ min a.py.depth b.py.depth ≤ 64 ∧ c = PyData.eqv a.py b.py := by
  unfold eqD at h
  split at h
  · rename_i q
    simp only [Bool.and_eq_true, decide_eq_true_eq] at q
    exact ⟨q.1.1, q.1.2, q.2, (Option.some.inj h).symm⟩
  · cases h
theorem inD_eq {a : D} {xs : List D} {c : Bool} (h : inD a xs = some c) : SeqAt.shaped a.py = true ∧ PyData.canLayAll0 (D.pys xs) = true ∧ c = (D.pys xs).any fun z => PyData.eqv z a.py := by
  unfold inD at h
  split at h
  · rename_i q
    rw [Bool.and_eq_true] at q
    refine ⟨q.1, q.2, ?_⟩
    rw [← Option.some.inj h, D.pys_map, List.any_map]
    rfl
  · cases h
theorem ordD_eq {f : Int → Int → Bool} {g : List Nat → List Nat → Bool} {a b : D} {c : Bool} (h : ordD f g a b = some c) : (∃ i j, a = .int i ∧ b = .int j ∧ c = f i j) ∨ ∃ x y, a = .str x ∧ b = .str y ∧ c = g x y := by
  unfold ordD at h
  split at h
  · exact .inl ⟨_, _, rfl, rfl, (Option.some.inj h).symm⟩
  · exact .inr ⟨_, _, rfl, rfl, (Option.some.inj h).symm⟩
  · cases h
theorem isinD_eq {a b : D} {c : Bool} (h : isinD a b = some c) : (∃ xs, (b = .tup xs ∨ b = .lst xs) ∧ inD a xs = some c) ∨ ∃ k z, a = .str [k] ∧ b = .str z ∧ c = decide (k ∈ z) := by
  unfold isinD at h
  split at h
  · exact .inl ⟨_, .inl rfl, h⟩
  · exact .inl ⟨_, .inr rfl, h⟩
  · split at h
    · exact .inr ⟨_, _, rfl, rfl, (Option.some.inj h).symm⟩
    · cases h
  · cases h
theorem map_not {o : Option Bool} {c : Bool} (h : o.map (!·) = some c) : o = some (!c) := by
  cases o with
  | none => cases h
  | some b => cases h; simp
section
variable {pins : List (Addr × Obj)} {σ : L2.St} {H : Hp} {s : Shared} {ω : Wd}
theorem RepS.reads (I : Inv X pins σ H s) {x : V} {v : Value} {a : D} (r : RepS X.K H ω x a) (rx : RelV x v) (c : a.py.canLay0 = true) : ∃ as, Reads s.heap v a.py as := Dp.reads I a.py x v (r.dp c) rx
end
theorem opEq (hu : X.A.units + 65 < cLine) : OpR X (compareOp .Eq) (rCmp X.K .eq) := by
  rintro pins s σ H x y v u Q I rx ry ⟨ω, st, a, b, c, sim, ra, rb, hc, q⟩
  obtain ⟨h1, h2, h3, rfl⟩ := eqD_eq hc
  obtain ⟨as, r1⟩ := ra.reads I rx h1
  obtain ⟨bs, r2⟩ := rb.reads I ry h2
  exact SeqAt.compareEq_reads r1 r2 h1 h2 (by omega) ⟨.bl _, H, I, rfl, q⟩
theorem opNe (hu : X.A.units + 65 < cLine) : OpR X (compareOp .NotEq) (rCmp X.K .ne) := by
  rintro pins s σ H x y v u Q I rx ry ⟨ω, st, a, b, c, sim, ra, rb, hc, q⟩
  obtain ⟨h1, h2, h3, e⟩ := eqD_eq (map_not hc)
  obtain ⟨as, r1⟩ := ra.reads I rx h1
  obtain ⟨bs, r2⟩ := rb.reads I ry h2
  exact SeqAt.compareNe_reads r1 r2 h1 h2 (by omega) ⟨.bl _, H, I, rfl, by rw [← e, Bool.not_not]; exact q⟩
theorem opOrd {op : CmpOp} {f : Int → Int → Bool} {g : List Nat → List Nat → Bool} (h1 : OpR X (compareOp op) (rI0 fun i j => .bl (f i j))) (h2 : OpR X (compareOp op) (fun x y H Q => ∃ i j, x = .str i ∧ y = .str j ∧ Q (.bl (g i.cps.toList j.cps.toList)) H)) :
    OpR X (compareOp op) (fun x y H Q => ∃ ω st a b c, Sim X.K H ω st ∧ RepS X.K H ω x a ∧ RepS X.K H ω y b ∧ ordD f g a b = some c ∧ Q (.bl c) H) := by
  rintro pins s σ H x y v u Q I rx ry ⟨ω, st, a, b, c, sim, ra, rb, hc, q⟩
  rcases ordD_eq hc with ⟨i, j, rfl, rfl, rfl⟩ | ⟨i, j, rfl, rfl, rfl⟩
  · obtain rfl := ra.int
    obtain rfl := rb.int
    exact h1 pins s σ H _ _ v u Q I rx ry ⟨i, j, rfl, rfl, q⟩
  · obtain ⟨rfl, _⟩ := ra.str
    obtain ⟨rfl, _⟩ := rb.str
    exact h2 pins s σ H _ _ v u Q I rx ry ⟨_, _, rfl, rfl, by rw [toS_list, toS_list]; exact q⟩
theorem opIn (hu : X.A.units + 65 < cLine) : OpR X (compareOp .In) (rCmp X.K .isin) := by
  rintro pins s σ H x y v u Q I rx ry ⟨ω, st, a, b, c, sim, ra, rb, hc, q⟩
  rcases isinD_eq hc with ⟨xs, hb, hc⟩ | ⟨k, z, rfl, rfl, rfl⟩
  · obtain ⟨h1, h2, rfl⟩ := inD_eq hc
    obtain ⟨as, r1⟩ := ra.reads I rx (SeqAt.canLay_of_shaped h1)
    rcases hb with rfl | rfl
    · obtain ⟨bs, r2⟩ := rb.reads I ry (by simpa only [D.py, PyData.canLay0] using h2)
      exact SeqAt.in_tuple_reads r2 r1 h2 (SeqAt.canLay_of_shaped h1) (room_in_shaped h1 hu) ⟨.bl _, H, I, rfl, q⟩
    · obtain ⟨bs, r2⟩ := rb.reads I ry (by simpa only [D.py, PyData.canLay0] using h2)
      exact SeqAt.in_list_reads r2 r1 h2 (SeqAt.canLay_of_shaped h1) (room_in_shaped h1 hu) ⟨.bl _, H, I, rfl, q⟩
  · obtain ⟨rfl, _⟩ := ra.str
    obtain ⟨rfl, _⟩ := rb.str
    exact op_in_sign pins s σ H _ _ v u Q I rx ry ⟨k, _, rfl, rfl, by rw [toS_list]; exact q⟩
theorem opNotIn (hu : X.A.units + 65 < cLine) : OpR X (compareOp .NotIn) (rCmp X.K .nin) := by
  rintro pins s σ H x y v u Q I rx ry ⟨ω, st, a, b, c, sim, ra, rb, hc, q⟩
  have q : Q (.bl (!(!c))) H := by rw [Bool.not_not]; exact q
  rcases isinD_eq (map_not hc) with ⟨xs, hb, hc⟩ | ⟨k, z, rfl, rfl, e⟩
  · obtain ⟨h1, h2, e⟩ := inD_eq hc
    obtain ⟨as, r1⟩ := ra.reads I rx (SeqAt.canLay_of_shaped h1)
    rcases hb with rfl | rfl
    · obtain ⟨bs, r2⟩ := rb.reads I ry (by simpa only [D.py, PyData.canLay0] using h2)
      exact SeqAt.notIn_tuple_reads r2 r1 h2 (SeqAt.canLay_of_shaped h1) (room_in_shaped h1 hu) ⟨.bl _, H, I, rfl, by rw [← e]; exact q⟩
    · obtain ⟨bs, r2⟩ := rb.reads I ry (by simpa only [D.py, PyData.canLay0] using h2)
      exact SeqAt.notIn_list_reads r2 r1 h2 (SeqAt.canLay_of_shaped h1) (room_in_shaped h1 hu) ⟨.bl _, H, I, rfl, by rw [← e]; exact q⟩
  · obtain ⟨rfl, _⟩ := ra.str
    obtain ⟨rfl, _⟩ := rb.str
    exact op_notIn_sign pins s σ H _ _ v u Q I rx ry ⟨k, _, rfl, rfl, by rw [toS_list, ← e]; exact q⟩
theorem opCmp (hu : X.A.units + 65 < cLine) (op : Co) : OpR X (compareOp op.py) (rCmp X.K op) := by
  cases op with
  | eq => exact opEq hu
  | ne => exact opNe hu
  | lt => exact opOrd op_lt op_lt_str
  | gt => exact opOrd op_gt op_gt_str
  | le => exact opOrd op_le op_le_str
  | ge => exact opOrd op_ge op_ge_str
  | isin => exact opIn hu
  | nin => exact opNotIn hu

/-! ### subscripts -/
theorem atI_map {α β : Type} {xs : List α} {ys : List β} (hl : xs.length = ys.length) {i : Int} {y : β} (h : atI ys i = some y) : ∃ j, ixN xs.length i = some j ∧ ys[j]? = some y := by
  unfold atI at h
  rw [hl]
  cases e : ixN ys.length i with
  | none => rw [e] at h; cases h
  | some j => rw [e] at h; exact ⟨j, rfl, h⟩
def rIdx (K : PySem.W.Frag) : R2 := fun x y H Q => ∃ ω st a i d, Sim K H ω st ∧ RepS K H ω x a ∧ Rep K H ω y i ∧ idxD a i = some d ∧ Out K H ω st d Q
theorem ixD : IxR X (rIdx X.K) := by
  rintro value slice pins s σ H x y v u Q I rx ry ⟨ω, st, a, i, d, sim, ra, ri, hd, o⟩ hs
  have key : ∀ {vs : List V} {ds : List D} {k : Int}, Reps X.K H ω vs ds → atI ds k = some d → ∃ w, atI vs k = some w ∧ Rep X.K H ω w d := fun {vs ds k} r e => by
    obtain ⟨j, h1, h2⟩ := atI_map r.length e
    obtain ⟨w, h3, h4⟩ := r.get h2
    exact ⟨w, by unfold atI; rw [h1]; exact h3, h4⟩
  unfold idxD at hd
  split at hd
  · obtain ⟨p, vs, rfl, h1, h2, h3⟩ := ra.tup
    simp only [Rep] at ri
    subst ri
    obtain ⟨w, h4, h5⟩ := key h3 hd
    exact ix_tup value slice pins s σ H _ _ v u Q I rx ry ⟨p, vs, _, w, rfl, rfl, h1.sq, h4, o.now sim h5⟩ hs
  · obtain ⟨p, vs, rfl, h1, h2, h3⟩ := ra.lst
    simp only [Rep] at ri
    subst ri
    obtain ⟨w, h4, h5⟩ := key h3 hd
    exact ix_list value slice pins s σ H _ _ v u Q I rx ry ⟨p, vs, _, w, rfl, rfl, h1, h4, o.now sim h5⟩ hs
  · rename_i z k
    obtain ⟨rfl, hz⟩ := ra.str
    simp only [Rep] at ri
    subst ri
    cases e : atI z k with
    | none => rw [e] at hd; cases hd
    | some c =>
      rw [e] at hd
      cases hd
      exact ix_str value slice pins s σ H _ _ v u Q I rx ry ⟨toS z, k, c, rfl, rfl, by rw [toS_len]; exact hz, by rw [toS_list]; exact e, Out.str sim o (by show 1 ≤ sizeLine; decide)⟩ hs
  · cases hd
end
end Ev

set_option Elab.async false
set_option linter.all false
set_option maxRecDepth 100000
/-! sorted of a list or a tuple of data; repr; the other built-in functions by values. -/
namespace Ev
open PySem PySem.Spec PyProof.Rows L2 PySem.W

section
variable {prog : Program} {w : World} {A : Around} {E : Value → Shared → Prop} {s : Shared}
/-- the heap behind the gathering of a sequence's items -/
def gath (h : Heap) (its : Array Value) : Heap := (h.push { cls := .type "list", data := .seq ([] : List Value).toArray }).update h.objs.size (Obj.mapSeq (· ++ its))
theorem gath_size (h : Heap) (its : Array Value) : (gath h its).objs.size = h.objs.size + 1 := by
  unfold gath
  rw [Heap.size_update, Heap.size_push]
theorem gath_old {h : Heap} {its : Array Value} {b : Addr} {u : Obj} (e : h.get? b = some u) : (gath h its).get? b = some u :=
  (Heap.get?_update_other _ _ (Nat.ne_of_gt (Heap.lt_size e))).trans (Heap.get?_push_of_some _ e)
theorem evCollect {Q : List Value → Shared → Prop} {a : Addr} {T : String} {o : Obj} {items : Array Value} {n : Nat} (hT : T = "list" ∨ T = "tuple") (ho : s.heap.get? a = some o) (hc : o.cls = .type T) (hd : o.data = .seq items n)
    (hQ : Q items.toList { s with heap := gath s.heap items }) (hsz : items.size ≤ sizeLine) : wpAny (model prog w) A (collect (.ref a)) Q E s := by
  have hS : (s.heap.push { cls := .type "list", data := .seq ([] : List Value).toArray }).get? s.heap.objs.size = some { cls := .type "list", data := .seq #[] 0 } := Heap.get?_push_size _ rfl
  have hS2 : (gath s.heap items).get? s.heap.objs.size = _ := Heap.get?_update_self (Obj.mapSeq (· ++ items)) hS rfl
  have e0 : ((#[] : Array Value) ++ items).toList = items.toList := by simp
  unfold collect
  refine wpAny_bind (wpAny_runValue (codeAny_builtin F.entry_proto_collect ?_))
  rw [Around.under_plainId F.plain_proto_collect _]
  refine wpAny_bind (m := newList []) (wpAny_newObj_type (wpAny_pure ⟨plainId_quiet F.plain_list_iadd _, codeAny_builtin F.entry_list_iadd ?_⟩))
  rw [Around.under_plainId F.plain_list_iadd _]
  have last : wpAny (model prog w) A (load s.heap.objs.size >>= fun o' => match o'.data with
      | Data.seq xs _ => pure xs.toList
      | _ => unsupported "internal:collect") Q E { s with heap := gath s.heap items } :=
    wpAny_bind (wpAny_load hS2 (wpAny_pure (by show Q ((#[] : Array Value) ++ items).toList _; rw [e0]; exact hQ)))
  refine wpAny_mono (wpAny_extend_seq (hsz := hsz) (A := A) (R := fun r s' => r = .ok (.ret (.ref s.heap.objs.size)) ∧ s' = { s with heap := gath s.heap items })
    (s := { s with heap := s.heap.push { cls := .type "list", data := .seq ([] : List Value).toArray } }) _ a _ 0 hT hS (Heap.get?_push_of_some _ ho) hc hd ⟨rfl, rfl⟩) (fun fin s' q => ?_) (fun _ _ q => absurd q.1 (by simp))
  cases fin with
  | done f =>
    obtain ⟨e, rfl⟩ := q
    cases e
    exact last
  | again c' => exact ⟨q.1, codeAny_mono q.2 fun r s'' hr => by obtain ⟨rfl, rfl⟩ := hr; exact last⟩
end
section
variable {prog : Program} {w : World} {A : Around} {E : Value → Shared → Prop} {s : Shared}
/-- sorted(v), v a list or a tuple whose items read as data -/
theorem evSorted {a : Addr} {T : String} {o : Obj} {n : Nat} {its : List Value} {β : Type} {bs : List β} {enc : β → PyData} {R : Value → β → Prop} {Q : Value → Shared → Prop} (hT : T = "list" ∨ T = "tuple")
    (ho : s.heap.get? a = some o) (hc : o.cls = .type T) (hd : o.data = .seq its.toArray n) (e : EachIs R its bs) (er : EachIs (fun v b => ∃ as, Reads s.heap v (enc b) as) its bs) (hal : AllAlike (bs.map enc)) (hk : Sortable (bs.map enc))
    (hL : its.length ≤ sizeLine) (hu : ∀ b, b ∈ bs → A.units + 3 + (enc b).depth < cLine)
    (h : ∀ out D h', out.length = its.length → EachIs R out (bs.mergeSort (dataLe false enc)) → (∀ b u, s.heap.get? b = some u → h'.get? b = some u) → s.heap.objs.size ≤ D → (∃ c, h'.get? D = some (seqObj "list" out.toArray c)) → Q (.ref D) { s with heap := h' }) :
    wpAny (model prog w) A (call (.builtin "sorted") [.ref a]) Q E s := by
  refine call_function_entry_kw kind_sorted plain_sorted entry_sorted (args_sorted1 _) ?_
  unfold Builtin.«sorted»
  refine wpAny_bind (m := checkCount "sorted" 1 1 _) (wpAny_pure ?_)
  refine wpAny_bind (evCollect hT ho hc hd ?_ (by rw [List.size_toArray]; exact hL))
  have k1 : ∀ b u, s.heap.get? b = some u → (gath s.heap its.toArray).get? b = some u := fun b u q => gath_old q
  have hsz : s.heap.objs.size ≤ (gath s.heap its.toArray).objs.size := by rw [gath_size]; exact Nat.le_succ _
  generalize gath s.heap its.toArray = h1 at k1 hsz
  rw [show its.toArray.toList = its by simp]
  refine wpAny_bind (wpAny_newList ?_ hL)
  have hD : (h1.push (seqObj "list" its.toArray 0)).get? h1.objs.size = some (seqObj "list" its.toArray 0) := Heap.get?_push_size _ rfl
  have k2 : ∀ b u, s.heap.get? b = some u → (h1.push (seqObj "list" its.toArray 0)).get? b = some u := fun b u q => Heap.get?_push_of_some _ (k1 b u q)
  refine wpAny_bind (wpAny_holding ?_)
  refine list_sort_data (s := { s with heap := h1.push (seqObj "list" its.toArray 0) }) (R := R) (enc := enc) (bs := bs) hD e ?_ hal hk (by rw [← e.length]; exact hL) (fun b hb => by have := hu b hb; show A.units + 1 + 1 + _ < _; omega) fun out hl eo => ?_
  · refine er.mono fun v b ⟨as, r⟩ => ⟨as, PyProof.Rows.Reads.keeps k2 r, fun hm => ?_⟩
    obtain ⟨u, q⟩ := PyProof.On.reads_mem_get r _ hm
    exact absurd (Nat.lt_of_lt_of_le (Heap.lt_size q) hsz) (Nat.lt_irrefl _)
  · refine wpAny_pure ⟨_, rfl, ?_⟩
    refine h out h1.objs.size _ (by rw [hl, e.length]) eo (fun b u q => ?_) hsz (sortedHeap_at hD)
    rw [sortedHeap_old (Nat.ne_of_lt (Nat.lt_of_lt_of_le (Heap.lt_size q) hsz)) (Heap.lt_size (k2 b u q))]
    exact k2 b u q
end
/-! ### the built-in functions by values -/
def RepsS (K : PySem.W.Frag) (H : Hp) (ω : Wd) : List V → List D → Prop
  | [], [] => True
  | v :: vs, d :: ds => RepS K H ω v d ∧ RepsS K H ω vs ds
  | _, _ => False
def rBi (K : PySem.W.Frag) (b : Bi) : List V → Hp → VK → Prop := fun xs H Q => ∃ ω st as d, Sim K H ω st ∧ RepsS K H ω xs as ∧ biD b as = some d ∧ Out K H ω st d Q
section
variable {K : PySem.W.Frag} {H : Hp} {ω : Wd}
theorem RepsS.one {vs : List V} {d : D} (h : RepsS K H ω vs [d]) : ∃ v, vs = [v] ∧ RepS K H ω v d := by
  cases vs with
  | nil => exact h.elim
  | cons v r =>
    cases r with
    | nil => exact ⟨v, rfl, by simpa [RepsS] using h⟩
    | cons w r => simp [RepsS] at h
theorem RepsS.two {vs : List V} {d e : D} (h : RepsS K H ω vs [d, e]) : ∃ v w, vs = [v, w] ∧ RepS K H ω v d ∧ RepS K H ω w e := by
  cases vs with
  | nil => exact h.elim
  | cons v r =>
    simp only [RepsS] at h
    obtain ⟨w, rfl, h2⟩ := RepsS.one h.2
    exact ⟨v, w, rfl, h.1, h2⟩
theorem Reps.each : ∀ {vs : List V} {ds : List D} {us : List Value}, Vals vs us → Reps K H ω vs ds → EachIs (fun u d => ∃ x, RelV x u ∧ Rep K H ω x d) us ds
  | _, [], _, .nil, _ => .nil
  | _, d :: ds, _, .cons r t, h => by
    simp only [Reps] at h
    exact .cons ⟨_, r, h.1⟩ (Reps.each t h.2)
  | _, _ :: _, _, .nil, h => h.elim
  | _, [], _, .cons _ _, h => h.elim
theorem Reps.ofEach : ∀ {ds : List D} {us : List Value}, EachIs (fun u d => ∃ x, RelV x u ∧ Rep K H ω x d) us ds → ∃ vs, Vals vs us ∧ Reps K H ω vs ds
  | _, _, .nil => ⟨[], .nil, trivial⟩
  | _, _, .cons ⟨x, r, h⟩ t => by
    obtain ⟨vs, h1, h2⟩ := Reps.ofEach t
    exact ⟨x :: vs, .cons r h1, by simp only [Reps]; exact ⟨h, h2⟩⟩
end
theorem sortD_eq {xs ys : List D} (h : sortD xs = some ys) : PyData.canLayAll0 (D.pys xs) = true ∧ AllAlike (xs.map D.py) ∧ Sortable (xs.map D.py) ∧ (∀ a ∈ xs, a.py.depth ≤ 60) ∧ ys = xs.mergeSort (dataLe false D.py) := by
  unfold sortD at h
  split at h
  · rename_i q
    simp only [Bool.and_eq_true, Bool.or_eq_true, List.all_eq_true, alikes, decide_eq_true_eq] at q
    obtain ⟨⟨⟨q0, q1⟩, q2⟩, q3⟩ := q
    refine ⟨q0, fun d hd d' hd' => ?_, ?_, q3, (Option.some.inj h).symm⟩
    · obtain ⟨a, ha, rfl⟩ := List.mem_map.mp hd
      obtain ⟨b, hb, rfl⟩ := List.mem_map.mp hd'
      exact q1 a ha b hb
    · rcases q2 with q2 | q2
      · refine .inl fun d hd => ?_
        obtain ⟨a, ha, rfl⟩ := List.mem_map.mp hd
        have z := q2 a ha
        unfold tupHead at z
        split at z
        · exact ⟨_, _, rfl⟩
        · cases z
      · refine .inr fun d hd => ?_
        obtain ⟨a, ha, rfl⟩ := List.mem_map.mp hd
        have z := q2 a ha
        cases a <;> simp_all [noTup, D.py]
  · cases h
section
variable {X : Cx} {pins : List (Addr × Obj)} {σ : L2.St} {H : Hp} {s : Shared} {ω : Wd} {st : St}
/-- sorted, from what is read -/
theorem sortRun (hu : X.A.units + 100 < cLine) {Q : VK} {a : Addr} {T : String} {o : Obj} {n : Nat} {its : List Value} {vs : List V} {xs ys : List D} (I : Inv X pins σ H s) (sim : Sim X.K H ω st) (hT : T = "list" ∨ T = "tuple")
    (ho : s.heap.get? a = some o) (hc : o.cls = .type T) (hd : o.data = .seq its.toArray n) (rv : Vals vs its) (r : Reps X.K H ω vs xs) (hl : xs.length ≤ sizeLine) (hs : sortD xs = some ys) (out : Out X.K H ω st (.lst ys) Q) :
    wpAny (model X.prog X.w) X.A (call (.builtin "sorted") [.ref a]) (EP X pins σ Q) X.xe s := by
  obtain ⟨hcl, h1, h2, h3, rfl⟩ := sortD_eq hs
  have e := Reps.each rv r
  have l1 := r.length
  have l2 := rv.length
  have er : ∀ {us : List Value} {ds : List D}, (PyData.canLayAll0 (D.pys ds) = true) → EachIs (fun u d => ∃ x, RelV x u ∧ Rep X.K H ω x d) us ds → EachIs (fun v b => ∃ as, Reads s.heap v (D.py b) as) us ds := by
    intro us ds c z
    induction z with
    | nil => exact .nil
    | @cons u d us ds z t ih =>
      simp only [D.pys, PyData.canLayAll0, Bool.and_eq_true] at c
      obtain ⟨x, rx, rd⟩ := z
      exact .cons (Dp.reads I _ x u (Rep.dp d c.1 rd) rx) (ih c.2)
  refine evSorted hT ho hc hd e (er hcl e) h1 h2 (by omega) (fun b hb => by have := h3 b hb; omega) fun outs Dn h' hlo eo k hD ⟨c, hDo⟩ => ?_
  obtain ⟨ws, w1, w2⟩ := Reps.ofEach eo
  have hf : H Dn = none := I.hok.fresh hD
  have l3 := w1.length
  have l4 := w2.length
  have hz : (xs.mergeSort (dataLe false D.py)).length ≤ sizeLine := by rw [List.length_mergeSort]; exact hl
  exact ⟨.ref Dn, upd H Dn (.lst ws), I.laid (t' := s.toks) k hD ⟨by rw [l4]; exact hz, outs, c, w1, hDo⟩, rfl, Out.lst sim out hf hz w2⟩
end
end Ev

set_option Elab.async false
set_option linter.all false
set_option maxRecDepth 100000
/-! The built-in functions by values. -/
namespace Ev
open PySem PySem.Spec PyProof.Rows L2

/-- the Python name and the callee of a built-in function -/
def Bi.py : Bi → Str × Value
  | .len => ("len", .builtin "len")
  | .all => ("all", .builtin "all")
  | .any => ("any", .builtin "any")
  | .sum => ("sum", .builtin "sum")
  | .tuple => ("tuple", .type "tuple")
  | .list => ("list", .type "list")
  | .sorted => ("sorted", .builtin "sorted")
  | .sortedD => ("sorted", .builtin "sorted")
  | .repr => ("repr", .builtin "repr")
  | .intf => ("int", .type "int")
  | .abs => ("abs", .builtin "abs")
  | .max2 => ("max", .builtin "max")
  | .min2 => ("min", .builtin "min")
  | .divmod => ("divmod", .builtin "divmod")
  | .isin _ => ("isinstance", .builtin "isinstance")
theorem Bi.boot (b : Bi) : bootBuiltins b.py.1 = some b.py.2 := by
  cases b <;> (simp only [Bi.py]; decide +kernel)
/-- those that are served by their values alone -/
def Bi.plain : Bi → Bool
  | .isin _ => false
  | .sortedD => false
  | _ => true
theorem bools_eq : ∀ {xs : List D} {bs : List Bool}, bools xs = some bs → xs = bs.map .bl
  | [], bs, h => by simp [bools] at h; subst h; rfl
  | .bl b :: xs, bs, h => by
    simp only [bools] at h
    cases e : bools xs with
    | none => rw [e] at h; cases h
    | some cs => rw [e] at h; cases h; rw [bools_eq e]; rfl
  | .non :: _, _, h => by simp [bools] at h
  | .int _ :: _, _, h => by simp [bools] at h
  | .str _ :: _, _, h => by simp [bools] at h
  | .tup _ :: _, _, h => by simp [bools] at h
  | .lst _ :: _, _, h => by simp [bools] at h
  | .ref _ :: _, _, h => by simp [bools] at h
  | .scr _ :: _, _, h => by simp [bools] at h
theorem ints_eq : ∀ {xs : List D} {bs : List Int}, intsOf xs = some bs → xs = bs.map .int
  | [], bs, h => by simp [intsOf] at h; subst h; rfl
  | .int b :: xs, bs, h => by
    simp only [intsOf] at h
    cases e : intsOf xs with
    | none => rw [e] at h; cases h
    | some cs => rw [e] at h; cases h; rw [ints_eq e]; rfl
  | .non :: _, _, h => by simp [intsOf] at h
  | .bl _ :: _, _, h => by simp [intsOf] at h
  | .str _ :: _, _, h => by simp [intsOf] at h
  | .tup _ :: _, _, h => by simp [intsOf] at h
  | .lst _ :: _, _, h => by simp [intsOf] at h
  | .ref _ :: _, _, h => by simp [intsOf] at h
  | .scr _ :: _, _, h => by simp [intsOf] at h
theorem Reps.bls {K : PySem.W.Frag} {H : Hp} {ω : Wd} : ∀ {vs : List V} (bs : List Bool), Reps K H ω vs (bs.map .bl) → vs = bs.map .bl
  | [], [], _ => rfl
  | v :: vs, b :: bs, h => by
    simp only [List.map_cons, Reps, Rep] at h
    rw [h.1, Reps.bls bs h.2]; rfl
  | [], _ :: _, h => h.elim
  | _ :: _, [], h => h.elim
theorem Reps.nts {K : PySem.W.Frag} {H : Hp} {ω : Wd} : ∀ {vs : List V} (bs : List Int), Reps K H ω vs (bs.map .int) → vs = bs.map .int
  | [], [], _ => rfl
  | v :: vs, b :: bs, h => by
    simp only [List.map_cons, Reps, Rep] at h
    rw [h.1, Reps.nts bs h.2]; rfl
  | [], _ :: _, h => h.elim
  | _ :: _, [], h => h.elim
theorem reprD_eq {a d : D} (h : reprD a = some d) : SeqAt.shaped a.py = true ∧ a.py.showable = true ∧ a.py.hasDict = false ∧ a.py.shown.length ≤ sizeLine ∧ d = .str a.py.shown.cps.toList := by
  unfold reprD at h
  split at h
  · rename_i q
    simp only [Bool.and_eq_true, Bool.not_eq_true', decide_eq_true_eq] at q
    exact ⟨q.1.1.1, q.1.1.2, q.1.2, q.2, (Option.some.inj h).symm⟩
  · cases h
section
variable {X : Cx}
theorem callRepr (hg : X.A.guards = some []) (hu : X.A.units + 100 < cLine) : CallR X (.builtin "repr") (rBi X.K .repr) := by
  rintro pins s σ H xs us Q I r ⟨ω, st, as, d, sim, ra, hd, o⟩
  obtain ⟨a, rfl, hd⟩ := one_eq hd
  obtain ⟨x, rfl, rx⟩ := ra.one
  obtain ⟨u, rfl, ru⟩ := vals1 r
  obtain ⟨h1, h2, h3, h4, rfl⟩ := reprD_eq hd
  have hdp := SeqAt.depth_of_shaped h1
  obtain ⟨bs, rr⟩ := rx.reads I ru (SeqAt.canLay_of_shaped h1)
  have fin : ∀ h' tk t, (∀ b u, s.heap.get? b = some u → h'.get? b = some u) → EP X pins σ Q (.str a.py.shown t) { s with heap := h', toks := tk } := fun h' tk t k =>
    ⟨.str a.py.shown, H, I.kept (t' := tk) k, ⟨_, rfl⟩, by
      have z := Out.str sim o (by rw [Array.length_toList]; exact h4)
      rw [toS_of] at z
      exact z⟩
  generalize hw : a.py = p at rr h1 h2 h3 h4 hdp fin
  cases rr with
  | none => exact P.repr_of_none (fin s.heap _ _ fun _ _ e => e)
  | bool b => exact P.repr_of_bool (fin s.heap _ _ fun _ _ e => e)
  | int i t => exact P.repr_of_int (by simpa [PyData.showable] using h2) (fin s.heap _ _ fun _ _ e => e)
  | str y t => exact P.repr_of_str (fin s.heap _ _ fun _ _ e => e) h4
  | list q1 q2 q3 q4 =>
    exact repr_of_reads' (Reads.list q1 q2 q3 q4) h2 (fun z => by rw [h3] at z; cases z) hg (by omega) (fun _ _ e => e) (fun h' t tk k => fin h' _ t k) h4
  | tuple q1 q2 q3 q4 =>
    exact repr_of_reads' (Reads.tuple q1 q2 q3 q4) h2 (fun z => by rw [h3] at z; cases z) hg (by omega) (fun _ _ e => e) (fun h' t tk k => fin h' _ t k) h4
  | dict q1 q2 q3 q4 q5 => simp [PyData.hasDict] at h3
theorem callSorted (hu : X.A.units + 100 < cLine) : CallR X (.builtin "sorted") (rBi X.K .sorted) := by
  rintro pins s σ H xs us Q I r ⟨ω, st, as, d, sim, ra, hd, o⟩
  obtain ⟨a, rfl, hd⟩ := one_eq hd
  obtain ⟨x, rfl, rx⟩ := ra.one
  obtain ⟨u, rfl, ru⟩ := vals1 r
  obtain ⟨xs, hi, hd⟩ := bind_eq hd
  obtain ⟨ys, hs, rfl⟩ := map_eq hd
  rcases itemsD_eq hi with rfl | rfl
  · obtain ⟨p, vs, rfl, h1, h2, h3⟩ := rx.tup
    cases ru
    obtain ⟨its, rv, ⟨o', e1, e2, n, e3⟩, _⟩ := I.tuple h1.sq
    exact sortRun hu I sim (.inr rfl) e1 e2 e3 rv h3 h2 hs o
  · obtain ⟨p, vs, rfl, h1, h2, h3⟩ := rx.lst
    cases ru
    obtain ⟨its, rv, ⟨o', n, e1, e2, _, e3⟩, _⟩ := I.list h1
    exact sortRun hu I sim (.inl rfl) e1 e2 e3 rv h3 h2 hs o
theorem callBi (hc : X.calm = true) (hg : X.A.guards = some []) (hu : X.A.units + 100 < cLine) (b : Bi) (hp : b.plain = true) : CallR X b.py.2 (rBi X.K b) := by
  cases b with
  | isin ts => cases hp
  | sortedD => cases hp
  | repr => exact callRepr hg hu
  | sorted => exact callSorted hu
  | len =>
    rintro pins s σ H xs us Q I r ⟨ω, st, as, d, sim, ra, hd, o⟩
    obtain ⟨a, rfl, hd⟩ := one_eq hd
    obtain ⟨x, rfl, rx⟩ := ra.one
    rcases lenD_eq hd with ⟨xs, rfl, rfl⟩ | ⟨xs, rfl, rfl⟩ | ⟨z, rfl, rfl⟩
    · obtain ⟨p, vs, rfl, h1, h2, h3⟩ := rx.tup
      rw [← h3.length] at o
      exact call_len_seq pins s σ H _ us Q I r ⟨p, vs, rfl, .inr h1.sq, Out.int sim o⟩
    · obtain ⟨p, vs, rfl, h1, h2, h3⟩ := rx.lst
      rw [← h3.length] at o
      exact call_len_seq pins s σ H _ us Q I r ⟨p, vs, rfl, .inl h1, Out.int sim o⟩
    · obtain ⟨rfl, hz⟩ := rx.str
      rw [← toS_len] at o
      exact call_len_str pins s σ H _ us Q I r ⟨_, rfl, by rw [toS_len]; exact hz, Out.int sim o⟩
  | all =>
    rintro pins s σ H xs us Q I r ⟨ω, st, as, d, sim, ra, hd, o⟩
    obtain ⟨a, rfl, hd⟩ := one_eq hd
    obtain ⟨x, rfl, rx⟩ := ra.one
    obtain ⟨xs, hi, hd⟩ := bind_eq hd
    obtain ⟨bs, hb, rfl⟩ := map_eq hd
    obtain rfl := lstD_eq hi
    obtain ⟨p, vs, rfl, h1, h2, h3⟩ := rx.lst
    rw [bools_eq hb] at h3
    rw [Reps.bls bs h3] at h1
    exact cr_all hc pins s σ H _ us Q I r ⟨p, bs, rfl, h1, Out.bl sim o⟩
  | any =>
    rintro pins s σ H xs us Q I r ⟨ω, st, as, d, sim, ra, hd, o⟩
    obtain ⟨a, rfl, hd⟩ := one_eq hd
    obtain ⟨x, rfl, rx⟩ := ra.one
    obtain ⟨xs, hi, hd⟩ := bind_eq hd
    obtain ⟨bs, hb, rfl⟩ := map_eq hd
    obtain rfl := lstD_eq hi
    obtain ⟨p, vs, rfl, h1, h2, h3⟩ := rx.lst
    rw [bools_eq hb] at h3
    rw [Reps.bls bs h3] at h1
    exact cr_any hc pins s σ H _ us Q I r ⟨p, bs, rfl, h1, Out.bl sim o⟩
  | sum =>
    rintro pins s σ H xs us Q I r ⟨ω, st, as, d, sim, ra, hd, o⟩
    obtain ⟨a, rfl, hd⟩ := one_eq hd
    obtain ⟨x, rfl, rx⟩ := ra.one
    obtain ⟨xs, hi, hd⟩ := bind_eq hd
    obtain ⟨bs, hb, rfl⟩ := map_eq hd
    obtain rfl := lstD_eq hi
    obtain ⟨p, vs, rfl, h1, h2, h3⟩ := rx.lst
    rw [ints_eq hb] at h3
    rw [Reps.nts bs h3] at h1
    exact cr_sum hc pins s σ H _ us Q I r ⟨p, bs, rfl, h1, Out.int sim o⟩
  | tuple =>
    rintro pins s σ H xs us Q I r ⟨ω, st, as, d, sim, ra, hd, o⟩
    obtain ⟨a, rfl, hd⟩ := one_eq hd
    obtain ⟨x, rfl, rx⟩ := ra.one
    obtain ⟨xs, hi, rfl⟩ := map_eq hd
    rcases itemsD_eq hi with rfl | rfl
    · obtain ⟨p, vs, rfl, h1, h2, h3⟩ := rx.tup
      exact call_tupleT pins s σ H _ us Q I r ⟨p, vs, rfl, h1.sq, o.now sim (by simp only [Rep]; exact ⟨p, vs, rfl, h1, h2, h3⟩)⟩
    · obtain ⟨p, vs, rfl, h1, h2, h3⟩ := rx.lst
      exact call_tuple_of pins s σ H _ us Q I r ⟨p, vs, rfl, .inl ⟨h1, fun l hl => Out.tup sim o hl h2 h3⟩⟩
  | list =>
    rintro pins s σ H xs us Q I r ⟨ω, st, as, d, sim, ra, hd, o⟩
    obtain ⟨a, rfl, hd⟩ := one_eq hd
    obtain ⟨x, rfl, rx⟩ := ra.one
    obtain ⟨xs, hi, rfl⟩ := map_eq hd
    rcases itemsD_eq hi with rfl | rfl
    · obtain ⟨p, vs, rfl, h1, h2, h3⟩ := rx.tup
      exact call_list_of pins s σ H _ us Q I r ⟨p, vs, rfl, .inr h1.sq, fun l hl => Out.lst sim o hl h2 h3⟩
    · obtain ⟨p, vs, rfl, h1, h2, h3⟩ := rx.lst
      exact call_list_of pins s σ H _ us Q I r ⟨p, vs, rfl, .inl h1, fun l hl => Out.lst sim o hl h2 h3⟩
  | intf =>
    rintro pins s σ H xs us Q I r ⟨ω, st, as, d, sim, ra, hd, o⟩
    obtain ⟨a, rfl, hd⟩ := one_eq hd
    obtain ⟨x, rfl, rx⟩ := ra.one
    obtain ⟨i, rfl, hd⟩ := int1_eq hd
    cases hd
    obtain rfl := rx.int
    exact call_int1 pins s σ H _ us Q I r (.inl ⟨i, rfl, Out.int sim o⟩)
  | abs =>
    rintro pins s σ H xs us Q I r ⟨ω, st, as, d, sim, ra, hd, o⟩
    obtain ⟨a, rfl, hd⟩ := one_eq hd
    obtain ⟨x, rfl, rx⟩ := ra.one
    obtain ⟨i, rfl, hd⟩ := int1_eq hd
    cases hd
    obtain rfl := rx.int
    exact call_abs pins s σ H _ us Q I r ⟨i, rfl, Out.int sim o⟩
  | max2 =>
    rintro pins s σ H xs us Q I r ⟨ω, st, as, d, sim, ra, hd, o⟩
    obtain ⟨a, b, rfl, hd⟩ := two_eq hd
    obtain ⟨x, y, rfl, rx, ry⟩ := ra.two
    obtain ⟨i, j, rfl, rfl, hd⟩ := int2_eq hd
    cases hd
    obtain rfl := rx.int
    obtain rfl := ry.int
    exact call_max2 hc pins s σ H _ us Q I r ⟨i, j, rfl, Out.int sim o⟩
  | min2 =>
    rintro pins s σ H xs us Q I r ⟨ω, st, as, d, sim, ra, hd, o⟩
    obtain ⟨a, b, rfl, hd⟩ := two_eq hd
    obtain ⟨x, y, rfl, rx, ry⟩ := ra.two
    obtain ⟨i, j, rfl, rfl, hd⟩ := int2_eq hd
    cases hd
    obtain rfl := rx.int
    obtain rfl := ry.int
    exact call_min2 hc pins s σ H _ us Q I r ⟨i, j, rfl, Out.int sim o⟩
  | divmod =>
    rintro pins s σ H xs us Q I r ⟨ω, st, as, d, sim, ra, hd, o⟩
    obtain ⟨a, b, rfl, hd1⟩ := two_eq hd
    obtain ⟨x, y, rfl, rx, ry⟩ := ra.two
    obtain ⟨i, j, rfl, rfl, hd2⟩ := int2_eq hd1
    split at hd2
    · rename_i hz
      cases hd2
      obtain rfl := rx.int
      obtain rfl := ry.int
      exact call_divmod pins s σ H _ us Q I r ⟨i, j, rfl, hz, fun p hp => Out.tup sim o hp (by show 2 ≤ sizeLine; decide) (by simp only [Reps, Rep]; exact ⟨trivial, trivial, trivial⟩)⟩
    · cases hd2
end
end Ev

set_option Elab.async false
set_option linter.all false
set_option maxRecDepth 100000
/-! Frames, what a def of the program promises, the readings of the evaluator's trees. -/
namespace Ev
open PySem PySem.Spec PyProof.Rows L2

/-- the program's names: of defs, their parameters, of constants, of exceptions -/
structure Nm where
  fn : Nat → Str
  ps : Nat → List Str
  gl : Nat → Str
  xc : Nat → Str

def RepF (K : PySem.W.Frag) (H : Hp) (ω : Wd) : List (Str × V) → List (Str × D) → Prop
  | [], [] => True
  | p :: ps, q :: qs => (p.1 = q.1 ∧ Rep K H ω p.2 q.2) ∧ RepF K H ω ps qs
  | _, _ => False
/-- an exception of the program -/
def XRep (K : PySem.W.Frag) (mg : Str → Option Value) (T : Nm) (H : Hp) (ω : Wd) (c : Value) (da : Option Addr) (x : Xc) : Prop :=
  ∃ C, mg (T.xc x.cls) = some (.ref C) ∧ c = .ref C ∧ (x.fs = [] ∨ ∃ d vs, da = some d ∧ H d = some (.xd vs) ∧ d ∉ ω.φ ∧ RepF K H ω vs x.fs)

/-- what is wanted of a def's end -/
def PostF (K : PySem.W.Frag) (mg : Str → Option Value) (T : Nm) (Q : VK) (E : XK) (H : Hp) (ω : Wd) : R D → Prop
  | .ok d st => Out K H ω st d Q
  | .ex x st => ∀ c da H' ω', Ext H ω H' ω' → Sim K H' ω' st → XRep K mg T H' ω' c da x → E c da H'
  | .no => False
/-- the def at a does what the evaluator says of f, at level k -/
def FnD (P : Program) (w : World) (K : PySem.W.Frag) (mg : Str → Option Value) (base : Heap) (T : Nm) (G : Pg) (k : Nat) (a : Addr) (fd : FuncData) (f : Nat) : Prop :=
  ∀ (A : Around) (outer : List PySem.Env) (s : Shared) (H : Hp) (args : Args) (us : List Value) (vs : List V) (ds : List D) (ω : Wd) (st : St) (Q : VK) (E : XK),
    Room k A → A.guards = some [] → Env0 P w K mg base A outer s H → BindsTo s fd args ((T.ps f).zip us) → us.length = (T.ps f).length → Vals vs us → Sim K H ω st → Reps K H ω vs ds → PostF K mg T Q E H ω (callN G k f ds st) →
    codeAny (model P w) A (.call (.ref a) args) (CR (L2.CX P w) outer P w H s Q E) s
/-- what the module's globals hold -/
def bnames : List Str := ["len", "all", "any", "sum", "tuple", "list", "sorted", "repr", "int", "abs", "max", "min", "divmod", "isinstance", "dict", "range", "enumerate", "zip", "str", "bool", "set"]
/-- a call by keywords alone: the def, the names, where each parameter's value stands -/
structure Kw where
  f : Nat
  ks : List Str
  perm : List Nat
  deriving DecidableEq
structure GOk (P : Program) (w : World) (K : PySem.W.Frag) (mg : Str → Option Value) (base : Heap) (T : Nm) (G : Pg) (kw : List Kw) (k : Nat) : Prop where
  fn : ∀ f d, G.defs f = some d → ∃ a fd, mg (T.fn f) = some (.ref a) ∧ PySem.W.keepIn K (.ref a) = true ∧ FnD P w K mg base T G k a fd f ∧ (T.ps f).length = d.ps ∧
    (∀ (s : Shared) (us : List Value), K.In s.heap → us.length = (T.ps f).length → BindsTo s fd ⟨us, []⟩ ((T.ps f).zip us)) ∧
    ∀ q ∈ kw, q.f = f → ∀ (s : Shared) (ws zs : List Value), K.In s.heap → ws.length = q.ks.length → q.perm.mapM (fun j => ws[j]?) = some zs → BindsTo s fd ⟨[], q.ks.zip ws⟩ ((T.ps f).zip zs)
  gl : ∀ g d, G.gl g = some d → ∃ v u, mg (T.gl g) = some u ∧ RelV v u ∧ ∀ H ω, Rep K H ω v d
  bt : ∀ x ∈ bnames, mg x = none

/-! ### frames -/
def RSl (K : PySem.W.Frag) (H0 H : Hp) (ω : Wd) (σ : L2.St) (i : Nat) : Sl → Prop
  | .no => True
  | .va d => ∃ v, σ[i]? = some (some v) ∧ Rep K H ω v d
  | .ow xs => ∃ a vs, σ[i]? = some (some (.ref a)) ∧ H a = some (.lst vs) ∧ a ∉ ω.φ ∧ ¬ ω.F a ∧ H0 a = none ∧ xs.length ≤ sizeLine ∧ Reps K H ω vs xs
structure REnv (K : PySem.W.Frag) (H0 H : Hp) (ω : Wd) (σ : L2.St) (env : Env) : Prop where
  len : σ.length = env.length
  sl : ∀ (i : Nat) (s : Sl), env[i]? = some s → RSl K H0 H ω σ i s
  un : ∀ (i j : Nat) (a : Addr) (xs ys : List D), env[i]? = some (.ow xs) → env[j]? = some (.ow ys) → σ[i]? = some (some (.ref a)) → σ[j]? = some (some (.ref a)) → i = j
section
variable {K : PySem.W.Frag} {H0 H H' : Hp} {ω ω' : Wd} {σ : L2.St} {env : Env}
theorem RSl.ext (e : Ext H ω H' ω') {i : Nat} {s : Sl} (h : RSl K H0 H ω σ i s) : RSl K H0 H' ω' σ i s := by
  cases s with
  | no => trivial
  | va d =>
    obtain ⟨v, h1, h2⟩ := h
    exact ⟨v, h1, h2.ext e⟩
  | ow xs =>
    obtain ⟨a, vs, h1, h2, h3, h4, h5, h6, h7⟩ := h
    have hn : H a ≠ none := by rw [h2]; simp
    exact ⟨a, vs, h1, e.keep _ _ h2 h3, fun q => (e.new a q).elim h3 fun z => hn z, fun q => (e.newF a q).elim h4 fun z => hn z, h5, h6, Reps.ext e xs h7⟩
theorem REnv.ext (e : Ext H ω H' ω') (h : REnv K H0 H ω σ env) : REnv K H0 H' ω' σ env := ⟨h.len, fun i s q => (h.sl i s q).ext e, h.un⟩
theorem wipeE_len : ∀ (vs : List Nat), (wipeE env vs).length = env.length
  | [] => rfl
  | v :: vs => by simp [wipeE, wipeE_len vs]
theorem wipe_len (σ : L2.St) : ∀ (vs : List Nat), (wipe σ vs).length = σ.length
  | [] => rfl
  | v :: vs => by simp [wipe, wipe_len σ vs]
theorem wipe_get (env : Env) (σ : L2.St) : ∀ (vs : List Nat) (i : Nat), (i ∈ vs → ∀ s, (wipeE env vs)[i]? = some s → s = .no) ∧ (i ∉ vs → (wipeE env vs)[i]? = env[i]? ∧ (wipe σ vs)[i]? = σ[i]?)
  | [], i => ⟨fun h => by simp at h, fun _ => ⟨rfl, rfl⟩⟩
  | v :: vs, i => by
    have ih := wipe_get env σ vs i
    refine ⟨fun h s q => ?_, fun h => ?_⟩
    · simp only [wipeE] at q
      by_cases e : v = i
      · subst e
        by_cases hl : v < (wipeE env vs).length
        · rw [List.getElem?_set_self hl] at q
          exact (Option.some.inj q).symm
        · rw [List.getElem?_eq_none (by simpa using hl)] at q
          cases q
      · rw [List.getElem?_set_ne e] at q
        exact ih.1 (by rcases List.mem_cons.mp h with r | r; · exact absurd r.symm e
                       · exact r) s q
    · simp only [List.mem_cons, not_or] at h
      obtain ⟨h1, h2⟩ := ih.2 h.2
      simp only [wipeE, wipe]
      rw [List.getElem?_set_ne (Ne.symm h.1), List.getElem?_set_ne (Ne.symm h.1)]
      exact ⟨h1, h2⟩
theorem REnv.wipe (h : REnv K H0 H ω σ env) (vs : List Nat) : REnv K H0 H ω (L2.wipe σ vs) (wipeE env vs) := by
  refine ⟨by rw [wipe_len, wipeE_len]; exact h.len, fun i s q => ?_, fun i j a xs ys q1 q2 q3 q4 => ?_⟩
  · by_cases hi : i ∈ vs
    · rw [(wipe_get env σ vs i).1 hi s q]
      trivial
    · obtain ⟨e1, e2⟩ := (wipe_get env σ vs i).2 hi
      rw [e1] at q
      have z := h.sl i s q
      cases s with
      | no => trivial
      | va d => obtain ⟨v, h1, h2⟩ := z; exact ⟨v, by rw [e2]; exact h1, h2⟩
      | ow xs => obtain ⟨a, vs, h1, r⟩ := z; exact ⟨a, vs, by rw [e2]; exact h1, r⟩
  · have n1 : i ∉ vs := fun hi => by have z := (wipe_get env σ vs i).1 hi _ q1; cases z
    have n2 : j ∉ vs := fun hi => by have z := (wipe_get env σ vs j).1 hi _ q2; cases z
    obtain ⟨e1, e2⟩ := (wipe_get env σ vs i).2 n1
    obtain ⟨e3, e4⟩ := (wipe_get env σ vs j).2 n2
    rw [e1] at q1
    rw [e3] at q2
    rw [e2] at q3
    rw [e4] at q4
    exact h.un i j a xs ys q1 q2 q3 q4
/-- a value stored into a slot -/
theorem REnv.setV (h : REnv K H0 H ω σ env) {i : Nat} {v : V} {d : D} (hi : i < env.length) (r : Rep K H ω v d) : REnv K H0 H ω (σ.set i (some v)) (env.set i (.va d)) := by
  have hσ : i < σ.length := by rw [h.len]; exact hi
  refine ⟨by simpa using h.len, fun j s q => ?_, fun j k a xs ys q1 q2 q3 q4 => ?_⟩
  · by_cases e : i = j
    · subst e
      rw [List.getElem?_set_self hi] at q
      cases q
      exact ⟨v, by rw [List.getElem?_set_self hσ], r⟩
    · rw [List.getElem?_set_ne e] at q
      have z := h.sl j s q
      cases s with
      | no => trivial
      | va d => obtain ⟨v, h1, h2⟩ := z; exact ⟨v, by rw [List.getElem?_set_ne e]; exact h1, h2⟩
      | ow xs => obtain ⟨a, vs, h1, r⟩ := z; exact ⟨a, vs, by rw [List.getElem?_set_ne e]; exact h1, r⟩
  · have n1 : i ≠ j := fun e => by subst e; rw [List.getElem?_set_self hi] at q1; cases q1
    have n2 : i ≠ k := fun e => by subst e; rw [List.getElem?_set_self hi] at q2; cases q2
    rw [List.getElem?_set_ne n1] at q1 q3
    rw [List.getElem?_set_ne n2] at q2 q4
    exact h.un j k a xs ys q1 q2 q3 q4
end

/-! ### readings -/
def RepO (K : PySem.W.Frag) (H : Hp) (ω : Wd) (v : V) (d : D) : Prop := ∃ a vs ds, v = .ref a ∧ d = .lst ds ∧ H a = some (.lst vs) ∧ a ∉ ω.φ ∧ ds.length ≤ sizeLine ∧ Reps K H ω vs ds
def E.isO : E → Bool
  | .own _ => true
  | _ => false
def RepE (K : PySem.W.Frag) (H : Hp) (ω : Wd) (e : E) (v : V) (d : D) : Prop := if e.isO then RepO K H ω v d else Rep K H ω v d
section
variable {K : PySem.W.Frag} {H H' : Hp} {ω ω' : Wd}
theorem RepO.ext (e : Ext H ω H' ω') {v : V} {d : D} (h : RepO K H ω v d) : RepO K H' ω' v d := by
  obtain ⟨a, vs, ds, h1, h2, h3, h4, h5, h6⟩ := h
  exact ⟨a, vs, ds, h1, h2, e.keep _ _ h3 h4, fun q => (e.new a q).elim h4 fun z => by (rw [h3] at z; cases z), h5, Reps.ext e ds h6⟩
theorem RepE.ext (e : Ext H ω H' ω') {x : E} {v : V} {d : D} (h : RepE K H ω x v d) : RepE K H' ω' x v d := by
  unfold RepE at h ⊢
  split
  · rename_i q
    rw [if_pos q] at h
    exact h.ext e
  · rename_i q
    rw [if_neg q] at h
    exact h.ext e
theorem RepE.rep {x : E} {v : V} {d : D} (hx : x.isO = false) (h : RepE K H ω x v d) : Rep K H ω v d := by
  unfold RepE at h
  rw [if_neg (by rw [hx]; exact Bool.false_ne_true)] at h
  exact h
theorem RepE.of {x : E} {v : V} {d : D} (hx : x.isO = false) (h : Rep K H ω v d) : RepE K H ω x v d := by
  unfold RepE
  rw [if_neg (by rw [hx]; exact Bool.false_ne_true)]
  exact h
theorem RepE.t {x : E} {v : V} {d : D} {st : St} (s : Sim K H ω st) (h : RepE K H ω x v d) : RepT K H ω v (vw st d) := by
  unfold RepE at h
  split at h
  · obtain ⟨a, vs, ds, h1, rfl, h3, h4, h5, h6⟩ := h
    exact .inr ⟨a, vs, ds, h1, rfl, h3, h5, h6⟩
  · exact Rep.vw s h
theorem RepE.s {x : E} {v : V} {d : D} {st : St} (s : Sim K H ω st) (h : RepE K H ω x v d) : RepS K H ω v (vwS st d) := by
  unfold RepE at h
  split at h
  · obtain ⟨a, vs, ds, h1, rfl, h3, h4, h5, h6⟩ := h
    exact .inr ⟨a, vs, ds, h1, rfl, .inl (.inl h3), h5, h6⟩
  · exact Rep.vwS s h
end

/-- the frame of names that a piece of text runs in -/
structure Cn where
  N : List Str
  sc : Scope
  fn : Str → Bool
structure XOk (X : Cx) (T : Nm) (G : Pg) (kw : List Kw) (k : Nat) (c : Cn) : Prop where
  N : X.N = c.N
  sc : X.env.scope = c.sc
  fn : X.fn = c.fn
  calm : X.calm = true
  nd : c.N.Nodup
  room : Room k X.A
  gd : X.A.guards = some []
  g : GOk X.prog X.w X.K X.mg X.base T G kw k

section
variable (X : Cx) (T : Nm) (G : Pg) (k : Nat) (W : WX)
def PostE (σ : L2.St) (Q : VK) (H : Hp) (ω : Wd) (e : E) : R D → Prop
  | .ok d st => ∀ v H' ω', Ext H ω H' ω' → Sim X.K H' ω' st → RepE X.K H' ω' e v d → Q v H'
  | .ex x st => ∀ c da H' ω', Ext H ω H' ω' → Sim X.K H' ω' st → XRep X.K X.mg T H' ω' c da x → W c da σ H'
  | .no => False
def RepEs (K : PySem.W.Frag) (H : Hp) (ω : Wd) : Es → List V → List D → Prop
  | .nil, [], [] => True
  | .cons e es, v :: vs, d :: ds => RepE K H ω e v d ∧ RepEs K H ω es vs ds
  | _, _, _ => False
def PostEs (σ : L2.St) (Q : List V → Hp → Prop) (H : Hp) (ω : Wd) (es : Es) : R (List D) → Prop
  | .ok ds st => ∀ vs H' ω', Ext H ω H' ω' → Sim X.K H' ω' st → RepEs X.K H' ω' es vs ds → Q vs H'
  | .ex x st => ∀ c da H' ω', Ext H ω H' ω' → Sim X.K H' ω' st → XRep X.K X.mg T H' ω' c da x → W c da σ H'
  | .no => False
def tEv (e : E) : TE := fun σ H Q => ∃ ω st env H0, Sim X.K H ω st ∧ REnv X.K H0 H ω σ env ∧ PostE X T W σ Q H ω e (ev (callN G k) G.gl env st e)
def tEvs (es : Es) : TA := fun σ H Q => ∃ ω st env H0, Sim X.K H ω st ∧ REnv X.K H0 H ω σ env ∧ PostEs X T W σ Q H ω es (evs (callN G k) G.gl env st es)
end
section
variable {X : Cx} {T : Nm} {G : Pg} {k : Nat} {W : WX} {σ : L2.St} {Q : VK} {H H' : Hp} {ω ω' : Wd}
theorem PostE.mono (x : Ext H ω H' ω') {e : E} {r : R D} (h : PostE X T W σ Q H ω e r) : PostE X T W σ Q H' ω' e r := by
  cases r with
  | ok d st => exact fun v H2 ω2 e2 => h v H2 ω2 (x.trans e2)
  | ex y st => exact fun c da H2 ω2 e2 => h c da H2 ω2 (x.trans e2)
  | no => exact h
theorem PostEs.mono (x : Ext H ω H' ω') {es : Es} {Q : List V → Hp → Prop} {r : R (List D)} (h : PostEs X T W σ Q H ω es r) : PostEs X T W σ Q H' ω' es r := by
  cases r with
  | ok d st => exact fun v H2 ω2 e2 => h v H2 ω2 (x.trans e2)
  | ex y st => exact fun c da H2 ω2 e2 => h c da H2 ω2 (x.trans e2)
  | no => exact h
/-- an expression, then the rest -/
theorem step {e a : E} {r : R D} {f : D → St → R D} {Q1 : VK} (h : PostE X T W σ Q H ω e (r.bind f))
    (q : ∀ d st1 v H1 ω1, Ext H ω H1 ω1 → Sim X.K H1 ω1 st1 → RepE X.K H1 ω1 a v d → PostE X T W σ Q H1 ω1 e (f d st1) → Q1 v H1) : PostE X T W σ Q1 H ω a r := by
  cases r with
  | ok d st => exact fun v H1 ω1 e1 s1 r1 => q d st v H1 ω1 e1 s1 r1 (PostE.mono e1 h)
  | ex y st => exact h
  | no => exact h
theorem steps {e : E} {es : Es} {r : R (List D)} {f : List D → St → R D} {Q1 : List V → Hp → Prop} (h : PostE X T W σ Q H ω e (r.bind f))
    (q : ∀ ds st1 vs H1 ω1, Ext H ω H1 ω1 → Sim X.K H1 ω1 st1 → RepEs X.K H1 ω1 es vs ds → PostE X T W σ Q H1 ω1 e (f ds st1) → Q1 vs H1) : PostEs X T W σ Q1 H ω es r := by
  cases r with
  | ok d st => exact fun v H1 ω1 e1 s1 r1 => q d st v H1 ω1 e1 s1 r1 (PostE.mono e1 h)
  | ex y st => exact h
  | no => exact h
theorem stepE {a : E} {es : Es} {r : R D} {f : D → St → R (List D)} {Q : List V → Hp → Prop} {Q1 : VK} (h : PostEs X T W σ Q H ω es (r.bind f))
    (q : ∀ d st1 v H1 ω1, Ext H ω H1 ω1 → Sim X.K H1 ω1 st1 → RepE X.K H1 ω1 a v d → PostEs X T W σ Q H1 ω1 es (f d st1) → Q1 v H1) : PostE X T W σ Q1 H ω a r := by
  cases r with
  | ok d st => exact fun v H1 ω1 e1 s1 r1 => q d st v H1 ω1 e1 s1 r1 (PostEs.mono e1 h)
  | ex y st => exact h
  | no => exact h
theorem stepEs {es es' : Es} {r : R (List D)} {f : List D → St → R (List D)} {Q Q1 : List V → Hp → Prop} (h : PostEs X T W σ Q H ω es (r.bind f))
    (q : ∀ ds st1 vs H1 ω1, Ext H ω H1 ω1 → Sim X.K H1 ω1 st1 → RepEs X.K H1 ω1 es' vs ds → PostEs X T W σ Q H1 ω1 es (f ds st1) → Q1 vs H1) : PostEs X T W σ Q1 H ω es' r := by
  cases r with
  | ok d st => exact fun v H1 ω1 e1 s1 r1 => q d st v H1 ω1 e1 s1 r1 (PostEs.mono e1 h)
  | ex y st => exact h
  | no => exact h
/-- a result that is there at once -/
theorem PostE.out {e : E} {d : D} {st : St} (he : e.isO = false) (h : PostE X T W σ Q H ω e (.ok d st)) : Out X.K H ω st d Q := fun v H' ω' x s r => h v H' ω' x s (RepE.of he r)
end
theorem _root_.L2.PE.weak {X : Cx} {e : Expr} {t t' : TE} (h : PE X e t) (q : ∀ σ H Q, t' σ H Q → t σ H Q) : PE X e t' := ⟨fun pins s σ H Q I hw => h.run pins s σ H Q I (q σ H Q hw)⟩
theorem _root_.L2.PT.weak {X : Cx} {e : Expr} {t t' : TT} (h : PT X e t) (q : ∀ σ H Q, t' σ H Q → t σ H Q) : PT X e t' := ⟨fun pins s σ H Q I hw => h.run pins s σ H Q I (q σ H Q hw)⟩
theorem _root_.L2.PW.weak {X : Cx} {e : Expr} {t t' : TT} (h : PW X e t) (q : ∀ σ H Q, t' σ H Q → t σ H Q) : PW X e t' := ⟨fun whole pins s σ H Q I hw => h.run whole pins s σ H Q I (q σ H Q hw)⟩
theorem _root_.L2.PA.weak {X : Cx} {e : List Expr} {t t' : TA} (h : PA X e t) (q : ∀ σ H Q, t' σ H Q → t σ H Q) : PA X e t' := ⟨fun pos pins s σ H Q I hw => h.run pos pins s σ H Q I (q σ H Q hw)⟩
theorem _root_.L2.PS.weak {X : Cx} {e : Stmt} {t t' : TS} (h : PS X e t) (q : ∀ D σ H, t' D σ H → t D σ H) : PS X e t' := ⟨fun pins s σ H D I hw => h.run pins s σ H D I (q D σ H hw)⟩
theorem _root_.L2.PSs.weak {X : Cx} {e : List Stmt} {t t' : TS} (h : PSs X e t) (q : ∀ D σ H, t' D σ H → t D σ H) : PSs X e t' := ⟨fun pins s σ H D I hw => h.run pins s σ H D I (q D σ H hw)⟩
end Ev

set_option Elab.async false
set_option linter.all false
set_option maxRecDepth 100000
/-! Expressions: each form of the tree from its parts. -/
namespace Ev
open PySem PySem.Spec PyProof.Rows L2

def Es.len : Es → Nat
  | .nil => 0
  | .cons _ es => es.len + 1
def Es.noO : Es → Bool
  | .nil => true
  | .cons e es => !e.isO && es.noO
section
variable {K : PySem.W.Frag} {H : Hp} {ω : Wd}
theorem RepEs.len : ∀ {es : Es} {vs : List V} {ds : List D}, RepEs K H ω es vs ds → vs.length = es.len ∧ ds.length = es.len
  | .nil, [], [], _ => ⟨rfl, rfl⟩
  | .cons e es, v :: vs, d :: ds, h => by
    obtain ⟨h1, h2⟩ := RepEs.len h.2
    exact ⟨by simp [Es.len, h1], by simp [Es.len, h2]⟩
  | .nil, _ :: _, _, h => h.elim
  | .nil, [], _ :: _, h => h.elim
  | .cons _ _, [], _, h => h.elim
  | .cons _ _, _ :: _, [], h => h.elim
theorem RepEs.reps : ∀ {es : Es} {vs : List V} {ds : List D}, es.noO = true → RepEs K H ω es vs ds → Reps K H ω vs ds
  | .nil, [], [], _, _ => trivial
  | .cons e es, v :: vs, d :: ds, n, h => by
    simp only [Es.noO, Bool.and_eq_true, Bool.not_eq_true'] at n
    simp only [Reps]
    exact ⟨h.1.rep n.1, RepEs.reps n.2 h.2⟩
  | .nil, _ :: _, _, _, h => h.elim
  | .nil, [], _ :: _, _, h => h.elim
  | .cons _ _, [], _, _, h => h.elim
  | .cons _ _, _ :: _, [], _, h => h.elim
theorem RepEs.s {st : St} (s : Sim K H ω st) : ∀ {es : Es} {vs : List V} {ds : List D}, RepEs K H ω es vs ds → RepsS K H ω vs (ds.map (vwS st))
  | .nil, [], [], _ => trivial
  | .cons e es, v :: vs, d :: ds, h => by
    simp only [List.map_cons, RepsS]
    exact ⟨h.1.s s, RepEs.s s h.2⟩
  | .nil, _ :: _, _, h => h.elim
  | .nil, [], _ :: _, h => h.elim
  | .cons _ _, [], _, h => h.elim
  | .cons _ _, _ :: _, [], h => h.elim
theorem RepEs.ext {H' : Hp} {ω' : Wd} (x : Ext H ω H' ω') : ∀ {es : Es} {vs : List V} {ds : List D}, RepEs K H ω es vs ds → RepEs K H' ω' es vs ds
  | .nil, [], [], _ => trivial
  | .cons e es, v :: vs, d :: ds, h => ⟨h.1.ext x, RepEs.ext x h.2⟩
  | .nil, _ :: _, _, h => h.elim
  | .nil, [], _ :: _, h => h.elim
  | .cons _ _, [], _, h => h.elim
  | .cons _ _, _ :: _, [], h => h.elim
/-- a new cell -/
def Wd.cell (ω : Wd) (p : Addr) : Wd := ⟨ω.φ ++ [p], ω.F⟩
theorem Ext.cell {st : St} (s : Sim K H ω st) {p : Addr} {o : HO} (h : H p = none) : Ext H ω (upd H p o) (ω.cell p) where
  pre := List.prefix_append _ _
  frz := fun _ h => h
  keep := fun a u e _ => by rw [upd_ne (ne_of_none e h)]; exact e
  new := fun a h' => (List.mem_append.mp h').elim .inl fun z => .inr (by rw [List.mem_singleton.mp z]; exact h)
  newF := fun _ h => .inl h
  cells := fun a _ n => (Ext.updN (o := o) s h).stay n
theorem Sim.cell_new {st : St} {c : C} (s : Sim K H ω st) {p : Addr} {o : HO} (h : H p = none) (hc : CellR K (upd H p o) (ω.cell p) p c) : Sim K (upd H p o) (ω.cell p) (st ++ [c]) where
  len := by show (ω.φ ++ [p]).length = _; simp [s.len]
  nd := by
    show (ω.φ ++ [p]).Nodup
    rw [List.nodup_append]
    refine ⟨s.nd, by simp, fun a ha b hb e => ?_⟩
    rw [List.mem_singleton] at hb
    subst hb; subst e
    exact s.fresh h ha
  nF := fun a ha hf => (List.mem_append.mp ha).elim (fun z => s.nF a z hf) fun z => by
    rw [List.mem_singleton.mp z] at hf
    exact s.hF p hf h
  hF := fun a ha => (Ext.updN (o := o) s h).stay (s.hF a ha)
  cell := fun n d e => by
    by_cases hn : n < st.length
    · rw [List.getElem?_append_left hn] at e
      obtain ⟨a, h1, h2⟩ := s.cell n d e
      exact ⟨a, (Ext.cell (o := o) s h).at h1, h2.ext (Ext.cell s h) fun u q => by rw [upd_ne (ne_of_none q h)]; exact q⟩
    · have e1 : n = st.length := by
        have := (List.getElem?_eq_some_iff.mp e).1
        simp at this
        omega
      subst e1
      rw [List.getElem?_append_right (Nat.le_refl _)] at e
      simp at e
      subst e
      exact ⟨p, by show (ω.φ ++ [p])[st.length]? = some p; rw [← s.len, List.getElem?_append_right (Nat.le_refl _)]; simp, hc⟩
end

section
variable {X : Cx} {T : Nm} {G : Pg} {k : Nat} {W : WX} {c : Cn} {kw : List Kw} {pos : Pos} {p q r : Expr} {a b e : E}
theorem peVar {i : Nat} {x : Str} (hN : X.N[i]? = some x) (hv : Vis X.env.scope x) (hd : (x == ("__debug__" : Str)) = false) (hcd : (x == ("__classdict__" : Str)) = false) : PE X (.Name x pos) (tEv X T G k W (.var i)) :=
  (pe_var hN hv hd hcd).weak fun σ H Q ⟨ω, st, env, H0, sim, re, h⟩ => by
    simp only [ev] at h
    split at h
    · rename_i d hd
      obtain ⟨v, h1, h2⟩ := re.sl i _ hd
      exact ⟨v, h1, h v H ω (Ext.refl H ω) sim (RepE.of rfl h2)⟩
    · exact h.elim
theorem peOwn {i : Nat} {x : Str} (hN : X.N[i]? = some x) (hv : Vis X.env.scope x) (hd : (x == ("__debug__" : Str)) = false) (hcd : (x == ("__classdict__" : Str)) = false) : PE X (.Name x pos) (tEv X T G k W (.own i)) :=
  (pe_var hN hv hd hcd).weak fun σ H Q ⟨ω, st, env, H0, sim, re, h⟩ => by
    simp only [ev] at h
    split at h
    · rename_i d hd
      obtain ⟨a, vs, h1, h2, h3, h4, h5, h6, h7⟩ := re.sl i _ hd
      exact ⟨_, h1, h _ H ω (Ext.refl H ω) sim (show RepO X.K H ω _ _ from ⟨a, vs, _, rfl, rfl, h2, h3, h6, h7⟩)⟩
    · exact h.elim
theorem peGlob {g : Nat} {x : Str} (ok : XOk X T G kw k c) (hx : T.gl g = x) (hg : Gl X x) (hs : (G.gl g).isSome = true) (hd : (x == ("__debug__" : Str)) = false) : PE X (.Name x pos) (tEv X T G k W (.glob g)) := by
  cases hq : G.gl g with
  | none => rw [hq] at hs; cases hs
  | some d =>
    obtain ⟨v, u, h1, h2, h3⟩ := ok.g.gl g d hq
    rw [hx] at h1
    exact (pe_glob hg h1 h2 hd).weak fun σ H Q ⟨ω, st, env, H0, sim, re, h⟩ => by
      simp only [ev, hq, R.of_some] at h
      exact h v H ω (Ext.refl H ω) sim (RepE.of rfl (h3 H ω))
/-- what a constant is -/
def cstOk : D → Const → Bool
  | .non, .none => true
  | .bl b, .bool b' => b == b'
  | .int i, .int j => i == j
  | .str x, .str y => (x == y.cps.toList) && decide (x.length ≤ sizeLine)
  | _, _ => false
theorem peCst {d : D} {x : Const} {kd} (h : cstOk d x = true) : PE X (.Constant x kd pos) (tEv X T G k W (.cst d)) := by
  unfold cstOk at h
  split at h
  · exact pe_non.weak fun σ H Q ⟨ω, st, env, H0, sim, re, h⟩ => h .non H ω (Ext.refl H ω) sim (RepE.of rfl (by simp only [Rep]))
  · rename_i b b'
    obtain rfl : b = b' := by simpa using h
    exact pe_bl.weak fun σ H Q ⟨ω, st, env, H0, sim, re, h⟩ => h (.bl b) H ω (Ext.refl H ω) sim (RepE.of rfl (by simp only [Rep]))
  · rename_i b b'
    obtain rfl : b = b' := by simpa using h
    exact pe_int.weak fun σ H Q ⟨ω, st, env, H0, sim, re, h⟩ => h (.int b) H ω (Ext.refl H ω) sim (RepE.of rfl (by simp only [Rep]))
  · rename_i x' y'
    simp only [Bool.and_eq_true, beq_iff_eq, decide_eq_true_eq] at h
    obtain ⟨rfl, hl⟩ := h
    refine pe_str.weak fun σ H Q ⟨ω, st, env, H0, sim, re, h⟩ => ?_
    exact h (.str y') H ω (Ext.refl H ω) sim (RepE.of rfl (by simp only [Rep]; exact ⟨by rw [toS_of], hl⟩))
  · cases h
theorem peNeg {i : Int} {kd p1} : PE X (.UnaryOp .USub (.Constant (.int i) kd p1) pos) (tEv X T G k W (.cst (.int (-i)))) :=
  (pe_un un_neg pe_int).weak fun σ H Q ⟨ω, st, env, H0, sim, re, h⟩ => ⟨i, rfl, h (.int (-i)) H ω (Ext.refl H ω) sim (RepE.of rfl (by simp only [Rep]))⟩
variable {es : Es} {ps : List Expr}
theorem peTup {x1} (h : PA X ps (tEvs X T G k W es)) (hn : es.noO = true) (hl : es.len ≤ 1000) : PE X (.Tuple ps x1 pos) (tEv X T G k W (.tup es)) :=
  (pe_tup h).weak fun σ H Q ⟨ω, st, env, H0, sim, re, h⟩ => by
    simp only [ev] at h
    refine ⟨ω, st, env, H0, sim, re, steps h fun ds st1 vs H1 ω1 e1 s1 r1 h => ?_⟩
    have hz : ds.length ≤ sizeLine := by rw [r1.len.2]; exact Nat.le_trans hl (by decide)
    exact ⟨by rw [r1.len.1, ← r1.len.2]; exact hz, fun p hp => Out.tup s1 (h.out rfl) hp hz (r1.reps hn)⟩
theorem peLst (h : PA X ps (tEvs X T G k W es)) (hn : es.noO = true) (hl : es.len ≤ 1000) : PE X (.List ps pos) (tEv X T G k W (.lst es)) :=
  (pe_lst h).weak fun σ H Q ⟨ω, st, env, H0, sim, re, h⟩ => by
    simp only [ev] at h
    refine ⟨ω, st, env, H0, sim, re, steps h fun ds st1 vs H1 ω1 e1 s1 r1 h => ?_⟩
    have hz : ds.length ≤ sizeLine := by rw [r1.len.2]; exact Nat.le_trans hl (by decide)
    exact ⟨by rw [r1.len.1, ← r1.len.2]; exact hz, fun p hp => Out.lst s1 (h.out rfl) hp hz (r1.reps hn)⟩
theorem peLstC (h : PA X ps (tEvs X T G k W es)) (hn : es.noO = true) (hl : es.len ≤ 1000) : PE X (.List ps pos) (tEv X T G k W (.lstC es)) :=
  (pe_lst h).weak fun σ H Q ⟨ω, st, env, H0, sim, re, h⟩ => by
    simp only [ev] at h
    refine ⟨ω, st, env, H0, sim, re, steps h fun ds st1 vs H1 ω1 e1 s1 r1 h => ?_⟩
    have hz : ds.length ≤ sizeLine := by rw [r1.len.2]; exact Nat.le_trans hl (by decide)
    refine ⟨by rw [r1.len.1, ← r1.len.2]; exact hz, fun p hp => ?_⟩
    have x := Ext.cell (o := .lst vs) s1 hp
    refine h (.ref p) _ _ x (s1.cell_new hp ⟨vs, upd_same, hz, Reps.ext x ds (r1.reps hn)⟩) (RepE.of rfl ?_)
    simp only [Rep]
    exact ⟨p, by show (ω1.φ ++ [p])[st1.length]? = some p; rw [← s1.len, List.getElem?_append_right (Nat.le_refl _)]; simp, rfl⟩
theorem peBin {op : Bo} (ha : PE X p (tEv X T G k W a)) (hb : PE X q (tEv X T G k W b)) : PE X (.BinOp p op.py q pos) (tEv X T G k W (.bin op a b)) :=
  (pe_op (opBin op) ha hb).weak fun σ H Q ⟨ω, st, env, H0, sim, re, h⟩ => by
    simp only [ev] at h
    refine ⟨ω, st, env, H0, sim, re, step h fun d st1 v H1 ω1 e1 s1 r1 h => ⟨ω1, st1, env, H0, s1, re.ext e1, step h fun d2 st2 v2 H2 ω2 e2 s2 r2 h => ?_⟩⟩
    cases hd : binD op (vw st2 d) (vw st2 d2) with
    | none => rw [hd] at h; exact h.elim
    | some z =>
      rw [hd] at h
      exact ⟨ω2, st2, _, _, z, s2, (r1.ext e2).t s2, r2.t s2, hd, h.out rfl⟩
theorem RepS.vw {K : PySem.W.Frag} {H : Hp} {ω : Wd} {v : V} {d : D} {st : St} (h : RepT K H ω v (vw st d)) : RepS K H ω v (vw st d) := h.s
theorem cmpStep {op : Co} {Q : VK} {H1 H2 : Hp} {ω1 ω2 : Wd} {st2 : St} {d d2 : D} {v v2 : V} (e2 : Ext H1 ω1 H2 ω2) (s2 : Sim X.K H2 ω2 st2) (r1 : RepE X.K H1 ω1 a v d) (r2 : RepE X.K H2 ω2 b v2 d2) {x : Bool}
    (hx : cmpD op (vw st2 d) (vw st2 d2) = some x) (h : Q (.bl x) H2) : rCmp X.K op v v2 H2 Q := ⟨ω2, st2, _, _, x, s2, ((r1.ext e2).t s2).s, (r2.t s2).s, hx, h⟩
theorem XOk.u65 (ok : XOk X T G kw k c) : X.A.units + 65 < cLine := by have := ok.room.un; omega
theorem XOk.u100 (ok : XOk X T G kw k c) : X.A.units + 100 < cLine := by have := ok.room.un; omega
theorem peCmp {op : Co} (ok : XOk X T G kw k c) (ha : PE X p (tEv X T G k W a)) (hb : PE X q (tEv X T G k W b)) (hm : behindInMarks op.py q = false) : PE X (.Compare p [op.py] [q] pos) (tEv X T G k W (.cmp op a b)) :=
  (pe_cmpR (opCmp ok.u65 op) ha hb hm).weak fun σ H Q ⟨ω, st, env, H0, sim, re, h⟩ => by
    simp only [ev] at h
    refine ⟨ω, st, env, H0, sim, re, step h fun d st1 v H1 ω1 e1 s1 r1 h => ⟨ω1, st1, env, H0, s1, re.ext e1, step h fun d2 st2 v2 H2 ω2 e2 s2 r2 h => ?_⟩⟩
    cases hd : cmpD op (vw st2 d) (vw st2 d2) with
    | none => rw [hd] at h; exact h.elim
    | some z =>
      rw [hd] at h
      exact cmpStep e2 s2 r1 r2 hd (Out.bl s2 (h.out rfl))

theorem chnKey {o1 o2 : Co} {e3 : E} {σ : L2.St} {H : Hp} {Q : VK} (h : tEv X T G k W (.chn o1 o2 a b e3) σ H Q) : tChain (rCmp X.K o1) (rCmp X.K o2) (tEv X T G k W a) (tEv X T G k W b) (tEv X T G k W e3) σ H Q := by
  obtain ⟨ω, st, env, H0, sim, re, h⟩ := h
  simp only [ev] at h
  refine ⟨ω, st, env, H0, sim, re, step h fun d st1 v H1 ω1 e1 s1 r1 h => ⟨ω1, st1, env, H0, s1, re.ext e1, step h fun d2 st2 v2 H2 ω2 e2 s2 r2 h => ?_⟩⟩
  cases hd : cmpD o1 (vw st2 d) (vw st2 d2) with
  | none => rw [hd] at h; exact h.elim
  | some z =>
    rw [hd] at h
    refine cmpStep e2 s2 r1 r2 hd ⟨z, rfl, ?_⟩
    cases z with
    | false => exact Out.bl s2 (h.out rfl)
    | true =>
      refine ⟨ω2, st2, env, H0, s2, (re.ext e1).ext e2, step h fun d3 st3 v3 H3 ω3 e3 s3 r3 h => ?_⟩
      cases hd : cmpD o2 (vw st3 d2) (vw st3 d3) with
      | none => rw [hd] at h; exact h.elim
      | some z =>
        rw [hd] at h
        exact cmpStep e3 s3 r2 r3 hd (Out.bl s3 (h.out rfl))
theorem peChn {o1 o2 : Co} {e3 : E} (ok : XOk X T G kw k c) (ha : PE X p (tEv X T G k W a)) (hb : PE X q (tEv X T G k W b)) (hc : PE X r (tEv X T G k W e3)) (hm : lastMarks [o1.py, o2.py] [q, r] = false) :
    PE X (.Compare p [o1.py, o2.py] [q, r] pos) (tEv X T G k W (.chn o1 o2 a b e3)) :=
  (pe_chain (opCmp ok.u65 o1) (opCmp ok.u65 o2) ha hb hc hm).weak fun σ H Q h => chnKey h
theorem isNon {K : PySem.W.Frag} {H : Hp} {ω : Wd} {v : V} {d : D} (h : Rep K H ω v d) : decide (v = .non) = decide (d = .non) := by
  cases d with
  | non => simp only [Rep] at h; subst h; rfl
  | bl b => simp only [Rep] at h; subst h; simp
  | int b => simp only [Rep] at h; subst h; simp
  | str b => simp only [Rep] at h; obtain ⟨rfl, _⟩ := h; simp
  | tup b => simp only [Rep] at h; obtain ⟨_, _, rfl, _⟩ := h; simp
  | lst b => simp only [Rep] at h; obtain ⟨_, _, rfl, _⟩ := h; simp
  | ref b => simp only [Rep] at h; obtain ⟨_, _, rfl⟩ := h; simp
  | scr b => simp only [Rep] at h; obtain ⟨_, rfl, _⟩ := h; simp
def notC : Bool → CmpOp
  | false => .Is
  | true => .IsNot
theorem pcIsN {neg : Bool} {kd p1} (ha : PE X p (tEv X T G k W a)) (hn : a.isO = false) : PE X (.Compare p [notC neg] [.Constant .none kd p1] pos) (tEv X T G k W (.isN neg a)) ∧ PT X (.Compare p [notC neg] [.Constant .none kd p1] pos) (tB (tEv X T G k W (.isN neg a))) := by
  cases neg with
  | false =>
    have key : ∀ σ H Q, tEv X T G k W (.isN false a) σ H Q → tIsN (tEv X T G k W a) σ H Q := fun σ H Q ⟨ω, st, env, H0, sim, re, h⟩ => by
      simp only [ev] at h
      refine ⟨ω, st, env, H0, sim, re, step h fun d st1 v H1 ω1 e1 s1 r1 h => ?_⟩
      rw [isNon (r1.rep hn)]
      have z := Out.bl s1 (h.out rfl)
      simpa using z
    exact ⟨(pe_cmp (pc_isN ha)).weak key, (pt_cmp (pc_isN ha)).weak fun σ H Q h => key σ H _ h⟩
  | true =>
    have key : ∀ σ H Q, tEv X T G k W (.isN true a) σ H Q → tNotN (tEv X T G k W a) σ H Q := fun σ H Q ⟨ω, st, env, H0, sim, re, h⟩ => by
      simp only [ev] at h
      refine ⟨ω, st, env, H0, sim, re, step h fun d st1 v H1 ω1 e1 s1 r1 h => ?_⟩
      rw [isNon (r1.rep hn)]
      have z := Out.bl s1 (h.out rfl)
      simpa using z
    exact ⟨(pe_cmp (pc_notN ha)).weak key, (pt_cmp (pc_notN ha)).weak fun σ H Q h => key σ H _ h⟩
def rIsB (K : PySem.W.Frag) (neg : Bool) : R2 := fun x y H Q => ∃ a b, x = .bl a ∧ y = .bl b ∧ Q (.bl (Bool.xor neg (decide (a = b)))) H
theorem opIsB (neg : Bool) : OpR X (compareOp (notC neg)) (rIsB X.K neg) := by
  cases neg with
  | false =>
    rintro pins s σ H x y v u Q I rx ry ⟨a, b, h1, h2, q⟩
    exact op_is_bl pins s σ H x y v u Q I rx ry ⟨a, b, h1, h2, by simpa using q⟩
  | true =>
    rintro pins s σ H x y v u Q I rx ry ⟨a, b, h1, h2, q⟩
    exact op_isnot_bl pins s σ H x y v u Q I rx ry ⟨a, b, h1, h2, by simpa using q⟩
theorem keyIsB {neg bb : Bool} (hn : a.isO = false) : ∀ σ H Q, tEv X T G k W (.isB neg bb a) σ H Q → tOp (rIsB X.K neg) (tEv X T G k W a) (tC (.bl bb)) σ H Q := fun σ H Q ⟨ω, st, env, H0, sim, re, h⟩ => by
  simp only [ev] at h
  refine ⟨ω, st, env, H0, sim, re, step h fun d st1 v H1 ω1 e1 s1 r1 h => ?_⟩
  have r1 := r1.rep hn
  cases d with
  | bl z =>
    simp only [Rep] at r1
    exact ⟨z, bb, r1, rfl, Out.bl s1 (h.out rfl)⟩
  | non => exact h.elim
  | int b => exact h.elim
  | str b => exact h.elim
  | tup b => exact h.elim
  | lst b => exact h.elim
  | ref b => exact h.elim
  | scr b => exact h.elim
theorem pcIsB {neg bb : Bool} {kd p1} (ha : PE X p (tEv X T G k W a)) (hn : a.isO = false) : PE X (.Compare p [notC neg] [.Constant (.bool bb) kd p1] pos) (tEv X T G k W (.isB neg bb a)) ∧ PT X (.Compare p [notC neg] [.Constant (.bool bb) kd p1] pos) (tTest (tEv X T G k W (.isB neg bb a))) := by
  have hm : ∀ b : Expr, behindInMarks (notC neg) b = false := fun b => by cases neg <;> exact nomark b
  exact ⟨(pe_cmpR (opIsB neg) ha pe_bl (hm _)).weak (keyIsB hn), (pt_cmpR (opIsB neg) ha pe_bl (hm _)).weak fun σ H Q h => keyIsB hn σ H _ h⟩

/-! ### tests -/
theorem Rep.isBl {K : PySem.W.Frag} {H : Hp} {ω : Wd} {v : V} {b : Bool} (h : Rep K H ω v (.bl b)) : v = .bl b := by simpa only [Rep] using h
/-- a test: the tree's value is a bool -/
def tT (X : Cx) (T : Nm) (G : Pg) (k : Nat) (W : WX) (e : E) : TT := fun σ H Q => tEv X T G k W e σ H fun x H1 => ∃ b, x = .bl b ∧ Q b H1
theorem keyAnd (hn : a.isO = false) (hm : b.isO = false) : ∀ σ H Q, tEv X T G k W (.and a b) σ H Q → tAndV (tEv X T G k W a) (tEv X T G k W b) σ H Q := fun σ H Q ⟨ω, st, env, H0, sim, re, h⟩ => by
  simp only [ev] at h
  refine ⟨ω, st, env, H0, sim, re, step h fun d st1 v H1 ω1 e1 s1 r1 h => ?_⟩
  have r1 := r1.rep hn
  cases d with
  | bl z =>
    refine ⟨z, r1.isBl, ?_⟩
    cases z with
    | true =>
      rw [if_pos rfl]
      refine ⟨ω1, st1, env, H0, s1, re.ext e1, step h fun d2 st2 v2 H2 ω2 e2 s2 r2 h => ?_⟩
      have r2 := r2.rep hm
      cases d2 with
      | bl z => rw [r2.isBl]; exact Out.bl s2 (h.out rfl)
      | _ => exact h.elim
    | false => rw [if_neg Bool.false_ne_true]; exact Out.bl s1 (h.out rfl)
  | _ => exact h.elim
theorem keyOr (hn : a.isO = false) (hm : b.isO = false) : ∀ σ H Q, tEv X T G k W (.or a b) σ H Q → tOrV (tEv X T G k W a) (tEv X T G k W b) σ H Q := fun σ H Q ⟨ω, st, env, H0, sim, re, h⟩ => by
  simp only [ev] at h
  refine ⟨ω, st, env, H0, sim, re, step h fun d st1 v H1 ω1 e1 s1 r1 h => ?_⟩
  have r1 := r1.rep hn
  cases d with
  | bl z =>
    refine ⟨z, r1.isBl, ?_⟩
    cases z with
    | true => rw [if_pos rfl]; exact Out.bl s1 (h.out rfl)
    | false =>
      rw [if_neg Bool.false_ne_true]
      refine ⟨ω1, st1, env, H0, s1, re.ext e1, step h fun d2 st2 v2 H2 ω2 e2 s2 r2 h => ?_⟩
      have r2 := r2.rep hm
      cases d2 with
      | bl z => rw [r2.isBl]; exact Out.bl s2 (h.out rfl)
      | _ => exact h.elim
  | _ => exact h.elim
theorem keyNot (hn : a.isO = false) : ∀ σ H Q, tEv X T G k W (.not a) σ H Q → tNotV (tEv X T G k W a) σ H Q := fun σ H Q ⟨ω, st, env, H0, sim, re, h⟩ => by
  simp only [ev] at h
  refine ⟨ω, st, env, H0, sim, re, step h fun d st1 v H1 ω1 e1 s1 r1 h => ?_⟩
  have r1 := r1.rep hn
  cases d with
  | bl z => exact ⟨z, r1.isBl, Out.bl s1 (h.out rfl)⟩
  | _ => exact h.elim
/-- the parts of a test as tests -/
theorem keyAndT (hn : a.isO = false) (hm : b.isO = false) : ∀ σ H Q, tT X T G k W (.and a b) σ H Q → tAnd (tT X T G k W a) (tT X T G k W b) σ H Q := fun σ H Q ⟨ω, st, env, H0, sim, re, h⟩ => by
  simp only [ev] at h
  refine ⟨ω, st, env, H0, sim, re, step h fun d st1 v H1 ω1 e1 s1 r1 h => ?_⟩
  have r1 := r1.rep hn
  cases d with
  | bl z =>
    refine ⟨z, r1.isBl, ?_⟩
    cases z with
    | true =>
      rw [if_pos rfl]
      refine ⟨ω1, st1, env, H0, s1, re.ext e1, step h fun d2 st2 v2 H2 ω2 e2 s2 r2 h => ?_⟩
      have r2 := r2.rep hm
      cases d2 with
      | bl z => rw [r2.isBl]; exact Out.bl s2 (h.out rfl)
      | _ => exact h.elim
    | false =>
      rw [if_neg Bool.false_ne_true]
      obtain ⟨_, e, z⟩ := Out.bl s1 (h.out rfl)
      cases e
      exact z
  | _ => exact h.elim
theorem keyOrT (hn : a.isO = false) (hm : b.isO = false) : ∀ σ H Q, tT X T G k W (.or a b) σ H Q → tOr (tT X T G k W a) (tT X T G k W b) σ H Q := fun σ H Q ⟨ω, st, env, H0, sim, re, h⟩ => by
  simp only [ev] at h
  refine ⟨ω, st, env, H0, sim, re, step h fun d st1 v H1 ω1 e1 s1 r1 h => ?_⟩
  have r1 := r1.rep hn
  cases d with
  | bl z =>
    refine ⟨z, r1.isBl, ?_⟩
    cases z with
    | true =>
      rw [if_pos rfl]
      obtain ⟨_, e, z⟩ := Out.bl s1 (h.out rfl)
      cases e
      exact z
    | false =>
      rw [if_neg Bool.false_ne_true]
      refine ⟨ω1, st1, env, H0, s1, re.ext e1, step h fun d2 st2 v2 H2 ω2 e2 s2 r2 h => ?_⟩
      have r2 := r2.rep hm
      cases d2 with
      | bl z => rw [r2.isBl]; exact Out.bl s2 (h.out rfl)
      | _ => exact h.elim
  | _ => exact h.elim
theorem keyNotT (hn : a.isO = false) : ∀ σ H Q, tT X T G k W (.not a) σ H Q → tNot (tT X T G k W a) σ H Q := fun σ H Q ⟨ω, st, env, H0, sim, re, h⟩ => by
  simp only [ev] at h
  refine ⟨ω, st, env, H0, sim, re, step h fun d st1 v H1 ω1 e1 s1 r1 h => ?_⟩
  have r1 := r1.rep hn
  cases d with
  | bl z =>
    refine ⟨z, r1.isBl, ?_⟩
    obtain ⟨_, e, z⟩ := Out.bl s1 (h.out rfl)
    cases e
    exact z
  | _ => exact h.elim
theorem keyIfe {e3 : E} (hn : e3.isO = false) (h1 : a.isO = false) (h2 : b.isO = false) : ∀ σ H Q, tEv X T G k W (.ife e3 a b) σ H Q → tIf (tT X T G k W e3) (tEv X T G k W a) (tEv X T G k W b) σ H Q := fun σ H Q ⟨ω, st, env, H0, sim, re, h⟩ => by
  simp only [ev] at h
  refine ⟨ω, st, env, H0, sim, re, step h fun d st1 v H1 ω1 e1 s1 r1 h => ?_⟩
  have r1 := r1.rep hn
  have same : ∀ {x : E} {r : R D}, x.isO = false → PostE X T W σ Q H1 ω1 (.ife e3 a b) r → PostE X T W σ Q H1 ω1 x r := fun {x r} hx q => by
    cases r with
    | ok d st => exact fun v H' ω' e s r => q v H' ω' e s (RepE.of rfl (r.rep hx))
    | ex y st => exact q
    | no => exact q
  cases d with
  | bl z =>
    refine ⟨z, r1.isBl, ?_⟩
    cases z with
    | true => rw [if_pos rfl]; exact ⟨ω1, st1, env, H0, s1, re.ext e1, same h1 h⟩
    | false => rw [if_neg Bool.false_ne_true]; exact ⟨ω1, st1, env, H0, s1, re.ext e1, same h2 h⟩
  | _ => exact h.elim
end
end Ev

set_option Elab.async false
set_option linter.all false
set_option maxRecDepth 100000
/-! Calls of defs, of built-in functions, isinstance, subscripts. -/
namespace Ev
open PySem PySem.Spec PyProof.Rows L2

def nst : Expr → Bool
  | .Starred _ _ => false
  | _ => true
theorem star_cons {e : Expr} {es : List Expr} {env : PySem.Env} (h : nst e = true) : starEach (e :: es) env = (false, eval e env) :: starEach es env := by
  cases e <;> first | rfl | cases h
theorem back_any {pos : Pos} {env : PySem.Env} : ∀ {es : List Expr}, es.all nst = true → (backTo pos (starEach es env)).any (·.1) = false
  | [], _ => rfl
  | e :: es, h => by
    simp only [List.all_cons, Bool.and_eq_true] at h
    rw [star_cons h.1]
    exact back_any (es := es) h.2
section
variable {X : Cx} {T : Nm} {G : Pg} {k : Nat} {W : WX} {c : Cn} {kw : List Kw} {pos : Pos} {p q r : Expr} {a b e : E}
theorem callN_len {G : Pg} {k f : Nat} {ds : List D} {st : St} (h : callN G k f ds st ≠ .no) : ∃ d, G.defs f = some d ∧ ds.length = d.ps := by
  cases k with
  | zero => exact absurd rfl h
  | succ k =>
    simp only [callN] at h
    split at h
    · rename_i d hd
      split at h
      · rename_i hl
        exact ⟨d, hd, hl⟩
      · exact absurd rfl h
    · exact absurd rfl h
theorem PostE.notNo {σ : L2.St} {Q : VK} {H : Hp} {ω : Wd} {e : E} {x : R D} (h : PostE X T W σ Q H ω e x) : x ≠ .no := fun z => by subst z; exact h
/-- a def is run -/
theorem callStep {pins : List (Addr × Obj)} {s : Shared} {σ : L2.St} {H : Hp} {ω : Wd} {st : St} {Q : VK} {f : Nat} {g : Addr} {fd : FuncData} {us ws : List Value} {vs : List V} {ds : List D} {ks : List (Str × Value)}
    (ok : XOk X T G kw k c) (tk : Takes X W) (I : Inv X pins σ H s) (F : FnD X.prog X.w X.K X.mg X.base T G k g fd f) (hb : BindsTo s fd ⟨us, ks⟩ ((T.ps f).zip ws)) (hl : ws.length = (T.ps f).length) (r : Vals vs ws)
    (sim : Sim X.K H ω st) (rp : Reps X.K H ω vs ds) (he : e.isO = false) (h : PostE X T W σ Q H ω e (callN G k f ds st)) : wpAny (model X.prog X.w) X.A (call (.ref g) us ks) (EP X pins σ Q) X.xe s := by
  have post : PostF X.K X.mg T Q (fun c da H => W c da σ H) H ω (callN G k f ds st) := by
    cases hc : callN G k f ds st with
    | ok d st1 => rw [hc] at h; exact fun v H' ω' x s r => h v H' ω' x s (RepE.of he r)
    | ex y st1 => rw [hc] at h; exact h
    | no => rw [hc] at h; exact h
  refine wpAny_call (codeAny_mono (F X.A X.stack s H ⟨us, ks⟩ ws vs ds ω st Q _ ok.room ok.gd I.env0 hb hl r sim rp post) fun r s' hq => ?_)
  cases r with
  | error e => exact tk e s' (XE.of_call I (fun _ _ _ h => h) hq)
  | ok fl =>
    cases fl with
    | ret u => exact I.after hq
    | next => exact False.elim hq
    | brk => exact False.elim hq
    | cont => exact False.elim hq
theorem peCall {f : Nat} {x : Str} {p1 : Pos} {es : Es} {ps : List Expr} (ok : XOk X T G kw k c) (tk : Takes X W) (hs : (G.defs f).isSome = true) (hx : T.fn f = x) (hg : Gl X x) (hdb : (x == ("__debug__" : Str)) = false)
    (ha : PA X (p :: ps) (tEvs X T G k W es)) (hn : es.noO = true) (h1 : nst p = true) (h2 : ps.all nst = true) : PE X (.Call (.Name x p1) (p :: ps) [] pos) (tEv X T G k W (.call f es)) := by
  refine ⟨fun pins s σ H Q I ⟨ω, st, env, H0, sim, re, h⟩ => ?_⟩
  simp only [ev] at h
  have key := steps (es := es) (Q1 := fun vs H1 => ∃ ω1 st1 ds, Sim X.K H1 ω1 st1 ∧ Reps X.K H1 ω1 vs ds ∧ PostE X T W σ Q H1 ω1 (.call f es) (callN G k f ds st1)) h fun ds st1 vs H1 ω1 e1 s1 r1 h => ⟨ω1, st1, ds, s1, r1.reps hn, h⟩
  obtain ⟨d, hd⟩ := Option.isSome_iff_exists.mp hs
  obtain ⟨g, fd, hm, hk, F, hl, hb, _⟩ := ok.g.fn f d hd
  rw [hx] at hm
  refine wpAny_Call_Name_kw (ld_glob I hg hm ?_ hdb)
  refine PySem.W.callWith_K (h₀ := X.base) I.ok.mod.kin hk (thn (ha.run pos pins s σ H _ I ⟨ω, st, env, H0, sim, re, key⟩) fun us s1 ⟨vs, H1, I1, r, ω1, st1, ds, sim1, rp, h1⟩ => ⟨I1.kIn, ?_⟩) (star_cons h1) (back_any h2)
  obtain ⟨d', hd', hl'⟩ := callN_len h1.notNo
  rw [hd] at hd'
  cases hd'
  have hlu : us.length = (T.ps f).length := by rw [hl, ← hl', ← rp.length, r.length]
  exact callStep (e := .call f es) ok tk I1 F (hb s1 us I1.kIn hlu) hlu r sim1 rp rfl h1
theorem peCall0 {f : Nat} {x : Str} {p1 : Pos} (ok : XOk X T G kw k c) (tk : Takes X W) (hs : (G.defs f).isSome = true) (hx : T.fn f = x) (hg : Gl X x) (hdb : (x == ("__debug__" : Str)) = false) : PE X (.Call (.Name x p1) [] [] pos) (tEv X T G k W (.call f .nil)) := by
  refine ⟨fun pins s σ H Q I ⟨ω, st, env, H0, sim, re, h⟩ => ?_⟩
  simp only [ev, evs, R.bind_ok] at h
  obtain ⟨d, hd⟩ := Option.isSome_iff_exists.mp hs
  obtain ⟨g, fd, hm, hk, F, hl, hb, _⟩ := ok.g.fn f d hd
  rw [hx] at hm
  refine wpAny_Call_Name_kw (ld_glob I hg hm ?_ hdb)
  obtain ⟨d', hd', hl'⟩ := callN_len h.notNo
  rw [hd] at hd'
  cases hd'
  have hlu : ([] : List Value).length = (T.ps f).length := by rw [hl, ← hl']; rfl
  exact PySem.W.callWith_K0 I.kIn hk (callStep (e := .call f .nil) (us := []) ok tk I F (hb s [] I.kIn hlu) hlu .nil sim (by simp [Reps]) rfl h)
theorem mapM_get {α β : Type} {R : α → β → Prop} {xs : List α} {ys : List β} (hr : ∀ (i : Nat) (x : α), xs[i]? = some x → ∃ y, ys[i]? = some y ∧ R x y) : ∀ {pm : List Nat} {as : List α}, pm.mapM (fun j => xs[j]?) = some as → ∃ bs, pm.mapM (fun j => ys[j]?) = some bs ∧ Paired R as bs
  | [], as, h => by
    simp at h; subst h
    exact ⟨[], by simp, .nil⟩
  | j :: pm, as, h => by
    rw [List.mapM_cons] at h
    cases hx : xs[j]? with
    | none => rw [hx] at h; cases h
    | some x =>
      rw [hx] at h
      cases hm : pm.mapM (fun j => xs[j]?) with
      | none => rw [hm] at h; cases h
      | some as' =>
        rw [hm] at h
        cases h
        obtain ⟨y, h1, h2⟩ := hr j x hx
        obtain ⟨bs, h3, h4⟩ := mapM_get hr hm
        exact ⟨y :: bs, by rw [List.mapM_cons, h1, h3]; rfl, .cons h2 h4⟩
theorem reps_paired {K : PySem.W.Frag} {H : Hp} {ω : Wd} : ∀ {vs : List V} {ds : List D}, Paired (fun d v => Rep K H ω v d) ds vs → Reps K H ω vs ds
  | _, _, .nil => trivial
  | _, _, .cons h t => by simp only [Reps]; exact ⟨h, reps_paired t⟩
/-- keywords: their values from the left -/
def kwsOf (ks : List Str) (ps : List Expr) (ls : List Pos) : List Keyword := (ks.zip (ps.zip ls)).map fun q => ⟨some q.1, q.2.1, q.2.2⟩
theorem kw_all {env : PySem.Env} {pos : Pos} : ∀ {kws : List Keyword}, (kws.all fun q => q.arg.isSome) = true → (backToKw pos (keywordEach kws env)).all (·.1.isSome) = true
  | [], _ => rfl
  | ⟨nm, e, l⟩ :: kws, h => by
    simp only [List.all_cons, Bool.and_eq_true] at h
    show ((nm.isSome) && (backToKw pos (keywordEach kws env)).all (·.1.isSome)) = true
    rw [kw_all h.2, Bool.and_true]
    exact h.1
theorem kw_names {env : PySem.Env} {pos : Pos} : ∀ {kws : List Keyword}, (backToKw pos (keywordEach kws env)).filterMap (·.1) = kws.filterMap (·.arg)
  | [] => rfl
  | ⟨nm, e, l⟩ :: kws => by
    have ih := kw_names (env := env) (pos := pos) (kws := kws)
    cases nm with
    | none => exact ih
    | some x => exact congrArg (x :: ·) ih
theorem kw_plain {env : PySem.Env} {pos : Pos} {kws : List Keyword} (h : (kws.all fun q => q.arg.isSome) = true) : ((backTo pos (starEach [] env)).any (·.1) || (backToKw pos (keywordEach kws env)).any (·.1.isNone)) = false := by
  show (false || _) = false
  rw [Bool.false_or]
  have q := kw_all (env := env) (pos := pos) h
  rw [List.any_eq_false]
  intro x hx
  have := List.all_eq_true.mp q x hx
  cases hy : x.1 with
  | none => rw [hy] at this; cases this
  | some y => simp
/-- keywords' values as the tree's -/
theorem pkCons {ps : List Keyword} {nm : Option Str} {l : Pos} {es : Es} (hp : PE X p (tEv X T G k W e)) (hr : PK X ps (tEvs X T G k W es)) : PK X (⟨nm, p, l⟩ :: ps) (tEvs X T G k W (.cons e es)) :=
  ⟨fun pos pins s σ H Q I ⟨ω, st, env, H0, sim, re, h⟩ => (pk_cons hp hr).run pos pins s σ H Q I (by
    simp only [evs] at h
    refine ⟨ω, st, env, H0, sim, re, stepE h fun d st1 v H1 ω1 e1 s1 r1 h => ⟨ω1, st1, env, H0, s1, re.ext e1, stepEs h fun ds st2 vs H2 ω2 e2 s2 r2 h => ?_⟩⟩
    exact h _ H2 ω2 (Ext.refl H2 ω2) s2 ⟨r1.ext e2, r2⟩)⟩
theorem pkNil : PK X [] (tEvs X T G k W .nil) :=
  ⟨fun pos pins s σ H Q I ⟨ω, st, env, H0, sim, re, h⟩ => pk_nil.run pos pins s σ H Q I (by
    simp only [evs] at h
    exact h [] H ω (Ext.refl H ω) sim trivial)⟩
theorem paCons {ps : List Expr} {es : Es} (hp : PE X p (tEv X T G k W e)) (hr : PA X ps (tEvs X T G k W es)) (hs : nst p = true) : PA X (p :: ps) (tEvs X T G k W (.cons e es)) :=
  (pa_cons hp hr (star_cons hs)).weak fun σ H Q ⟨ω, st, env, H0, sim, re, h⟩ => by
    simp only [evs] at h
    refine ⟨ω, st, env, H0, sim, re, stepE h fun d st1 v H1 ω1 e1 s1 r1 h => ⟨ω1, st1, env, H0, s1, re.ext e1, stepEs h fun ds st2 vs H2 ω2 e2 s2 r2 h => ?_⟩⟩
    exact h _ H2 ω2 (Ext.refl H2 ω2) s2 ⟨r1.ext e2, r2⟩
theorem paNil : PA X [] (tEvs X T G k W .nil) :=
  pa_nil.weak fun σ H Q ⟨ω, st, env, H0, sim, re, h⟩ => by
    simp only [evs] at h
    exact h [] H ω (Ext.refl H ω) sim trivial
theorem peCallK {f : Nat} {x : Str} {p1 : Pos} {es : Es} {kws : List Keyword} {pm : List Nat} (ok : XOk X T G kw k c) (tk : Takes X W) (hs : (G.defs f).isSome = true) (hx : T.fn f = x) (hg : Gl X x) (hdb : (x == ("__debug__" : Str)) = false)
    (ha : PK X kws (tEvs X T G k W es)) (hn : es.noO = true) (hkw : (⟨f, kws.filterMap (·.arg), pm⟩ : Kw) ∈ kw) (hall : (kws.all fun q => q.arg.isSome) = true) (hel : es.len = kws.length) : PE X (.Call (.Name x p1) [] kws pos) (tEv X T G k W (.callK f es pm)) := by
  refine ⟨fun pins s σ H Q I ⟨ω, st, env, H0, sim, re, h⟩ => ?_⟩
  simp only [ev] at h
  have key := steps (es := es) (Q1 := fun vs H1 => ∃ ω1 st1 ds as, Sim X.K H1 ω1 st1 ∧ Reps X.K H1 ω1 vs ds ∧ ds.length = es.len ∧ pm.mapM (fun j => ds[j]?) = some as ∧ PostE X T W σ Q H1 ω1 (.callK f es pm) (callN G k f as st1)) h fun ds st1 vs H1 ω1 e1 s1 r1 h => by
    split at h
    · rename_i as has
      exact ⟨ω1, st1, ds, as, s1, r1.reps hn, r1.len.2, has, h⟩
    · exact h.elim
  obtain ⟨d, hd⟩ := Option.isSome_iff_exists.mp hs
  obtain ⟨g, fd, hm, hk, F, hl, _, hb⟩ := ok.g.fn f d hd
  rw [hx] at hm
  refine wpAny_Call_Name_kw (ld_glob I hg hm ?_ hdb)
  refine PySem.W.callWith_KW0 (h₀ := X.base) I.ok.mod.kin hk (kw_all hall) (thn (ha.run pos pins s σ H _ I ⟨ω, st, env, H0, sim, re, key⟩) fun us s1 ⟨vs, H1, I1, r, ω1, st1, ds, as, sim1, rp, hdl, has, h1⟩ => ⟨I1.kIn, ?_⟩) (kw_plain hall)
  rw [kw_names]
  obtain ⟨d', hd', hl'⟩ := callN_len h1.notNo
  rw [hd] at hd'
  cases hd'
  obtain ⟨bs, hbs, pb⟩ := mapM_get (R := fun d v => Rep X.K H1 ω1 v d) (fun i x hx => rp.get hx) has
  obtain ⟨zs, hzs, pz⟩ := mapM_get (R := RelV) (fun i x hx => r.get hx) hbs
  have rb := reps_paired pb
  have hlz : zs.length = (T.ps f).length := by rw [hl, ← hl', ← rb.length, pz.length]
  have hcnt : us.length = (kws.filterMap (·.arg)).length := by
    rw [← r.length, rp.length, hdl, hel]
    have : ∀ {l : List Keyword}, (l.all fun q => q.arg.isSome) = true → (l.filterMap (·.arg)).length = l.length := fun {l} => by
      induction l with
      | nil => intro _; rfl
      | cons a l ih =>
        intro hq
        simp only [List.all_cons, Bool.and_eq_true] at hq
        obtain ⟨y, hy⟩ := Option.isSome_iff_exists.mp hq.1
        rw [List.filterMap_cons, hy]
        simp [ih hq.2]
    exact (this hall).symm
  exact callStep (e := .callK f es pm) (us := []) ok tk I1 F (hb _ hkw rfl s1 us zs I1.kIn hcnt hzs) hlz pz sim1 rb rfl h1

/-! ### built-in functions -/
theorem Bi.kind (b : Bi) : (∃ id, b.py.2 = .builtin id) ∨ ∃ id, b.py.2 = .type id := by
  cases b <;> first | exact .inl ⟨_, rfl⟩ | exact .inr ⟨_, rfl⟩
theorem Bi.mem (b : Bi) : b.py.1 ∈ bnames := by cases b <;> (simp only [Bi.py, bnames]; decide +kernel)
theorem Bi.okN (b : Bi) : b.py.1 ≠ "__name__" ∧ (b.py.1 == ("__debug__" : Str)) = false := by cases b <;> (simp only [Bi.py]; decide +kernel)
theorem peBi {bi : Bi} {p1 : Pos} {es : Es} {ps : List Expr} (ok : XOk X T G kw k c) (hb : bi.plain = true) (hg : Gl X bi.py.1) (ha : PA X (p :: ps) (tEvs X T G k W es)) (h1 : nst p = true) (h2 : ps.all nst = true) :
    PE X (.Call (.Name bi.py.1 p1) (p :: ps) [] pos) (tEv X T G k W (.bi bi es)) := by
  have hm := ok.g.bt _ bi.mem
  have hc := callBi (X := X) ok.calm ok.gd ok.u100 bi hb
  have key : ∀ σ H Q, tEv X T G k W (.bi bi es) σ H Q → tCB (rBi X.K bi) (tEvs X T G k W es) σ H Q := fun σ H Q ⟨ω, st, env, H0, sim, re, h⟩ => by
    simp only [ev] at h
    refine ⟨ω, st, env, H0, sim, re, steps h fun ds st1 vs H1 ω1 e1 s1 r1 h => ?_⟩
    have hmap : biArg bi st1 = vwS st1 := by
      cases bi <;> first | rfl | cases hb
    rw [hmap] at h
    cases hd : biD bi (ds.map (vwS st1)) with
    | none => rw [hd] at h; exact h.elim
    | some z =>
      rw [hd] at h
      exact ⟨ω1, st1, _, z, s1, r1.s s1, hd, h.out rfl⟩
  rcases bi.kind with ⟨id, hid⟩ | ⟨id, hid⟩
  · rw [hid] at hc
    exact (pe_callB hc hg hm (by rw [bi.boot, hid]) ha bi.okN.1 bi.okN.2 (star_cons h1) (back_any h2)).weak key
  · rw [hid] at hc
    exact (pe_callTy hc hg hm (by rw [bi.boot, hid]) ha bi.okN.1 bi.okN.2 (star_cons h1) (back_any h2)).weak key

/-! ### isinstance -/
def Ty.py : Ty → String
  | .tint => "int"
  | .tstr => "str"
  | .tbool => "bool"
  | .ttup => "tuple"
  | .tlst => "list"
  | .tdct => "dict"
def Ty.name (t : Ty) : Str := t.py
theorem Ty.boot (t : Ty) : bootBuiltins t.name = some (.type t.py) := by cases t <;> (simp only [Ty.name, Ty.py]; decide +kernel)
theorem Ty.mem (t : Ty) : t.name ∈ bnames := by cases t <;> (simp only [Ty.name, Ty.py, bnames]; decide +kernel)
theorem Ty.okN (t : Ty) : t.name ≠ "__name__" ∧ (t.name == ("__debug__" : Str)) = false := by cases t <;> (simp only [Ty.name, Ty.py]; decide +kernel)
def tyName : D → String
  | .non => "NoneType"
  | .bl _ => "bool"
  | .int _ => "int"
  | .str _ => "str"
  | .tup _ => "tuple"
  | .lst _ => "list"
  | .ref _ => "dict"
  | .scr _ => "list"
theorem tyX {K : PySem.W.Frag} {H : Hp} {ω : Wd} {v : V} {d : D} (h : RepS K H ω v d) (hn : noRef d = true) : TyX K H v (.type (tyName d)) := by
  cases d with
  | non => have z := h.rep (fun _ q => nomatch q); simp only [Rep] at z; subst z; exact .base .non
  | bl b => have z := h.bl; subst z; exact .base (.bl b)
  | int i => have z := h.int; subst z; exact .base (.int i)
  | str x => obtain ⟨rfl, _⟩ := h.str; exact .base (.str _)
  | tup ds =>
    obtain ⟨a, vs, rfl, h1, _, _⟩ := h.tup
    rcases h1 with ⟨h1 | ⟨o, h1⟩, _⟩ | ⟨o, its, n, h1, h2, _⟩
    · exact .base (.tup h1)
    · exact .fTuple h1
    · exact .kTuple h1 h2
  | lst ds =>
    obtain ⟨a, vs, rfl, h1, _, _⟩ := h.lst
    rcases h1 with (h1 | ⟨o, h1⟩) | ⟨o, its, n, h1, h2, _⟩
    · exact .base (.lst h1)
    · exact .base (.frz h1)
    · exact .kList h1 h2
  | ref n => cases hn
  | scr n => cases hn
theorem kitD {d : D} (t : Ty) (hn : noRef d = true) : kitB (tyName d) t.py = some (tyIs t d) := by
  cases d <;> first | (cases hn; done) | (cases t <;> (simp only [tyName, Ty.py, tyIs]; decide +kernel))
def isTy (sc : Scope) (t : Ty) : Expr → Bool
  | .Name x _ => x == t.name && decide (sc.names.lookup x = some .globalImplicit)
  | _ => false
def isTys (sc : Scope) : List Ty → List Expr → Bool
  | [], [] => true
  | t :: ts, p :: ps => isTy sc t p && isTys sc ts ps
  | _, _ => false
theorem peTy {t : Ty} {sc : Scope} (ok : XOk X T G kw k c) (hsc : X.env.scope = sc) (h : isTy sc t p = true) : PE X p (tC (.ty t.py)) ∧ nst p = true := by
  cases p with
  | Name x ps =>
    simp only [isTy, Bool.and_eq_true, beq_iff_eq, decide_eq_true_eq] at h
    obtain ⟨rfl, h2⟩ := h
    exact ⟨pe_bltn (by show X.env.scope.names.lookup _ = _; rw [hsc]; exact h2) (ok.g.bt _ t.mem) t.boot rfl t.okN.1 t.okN.2, rfl⟩
  | _ => cases h
theorem paTys {sc : Scope} (ok : XOk X T G kw k c) (hsc : X.env.scope = sc) : ∀ {ts : List Ty} {ps : List Expr}, isTys sc ts ps = true → PA X ps (fun _ H Q => Q (ts.map fun t => .ty t.py) H)
  | [], [], _ => pa_nil
  | t :: ts, p :: ps, h => by
    simp only [isTys, Bool.and_eq_true] at h
    obtain ⟨h1, h2⟩ := peTy ok hsc h.1
    exact pa_cons h1 (paTys ok hsc h.2) (star_cons h2)
  | [], _ :: _, h => by cases h
  | _ :: _, [], h => by cases h
theorem keyIsi {ts : List Ty} {σ : L2.St} {H : Hp} {Q : VK} {Z : V → Hp → Prop} (hn : a.isO = false) (h : tEv X T G k W (.bi (.isin ts) (.cons a .nil)) σ H Q)
    (hr : ∀ v H1 d ω1 st1, Sim X.K H1 ω1 st1 → RepS X.K H1 ω1 v d → noRef d = true → Out X.K H1 ω1 st1 (.bl (ts.any (tyIs · d))) Q → Z v H1) : tEv X T G k W a σ H Z := by
  obtain ⟨ω, st, env, H0, sim, re, h⟩ := h
  have e : (evs (callN G k) G.gl env st (.cons a .nil)) = (ev (callN G k) G.gl env st a).bind fun d st1 => .ok [d] st1 := by simp only [evs, R.bind_ok]
  simp only [ev] at h
  rw [e] at h
  have e2 : ∀ (r : R D) (f : List D → St → R D), (r.bind fun d st1 => .ok [d] st1).bind f = r.bind fun d st1 => f [d] st1 := fun r f => by cases r <;> rfl
  rw [e2] at h
  refine ⟨ω, st, env, H0, sim, re, step h fun d st1 v H1 ω1 e1 s1 r1 h => ?_⟩
  have rs := r1.s s1
  simp only [List.map_cons, List.map_nil, biD, one, biArg] at h
  by_cases hz : noRef (vwS st1 d) = true
  · rw [if_pos hz] at h
    exact hr v H1 _ ω1 st1 s1 rs hz (h.out rfl)
  · rw [if_neg hz] at h
    exact h.elim
theorem isiName : (Bi.isin []).py.1 = "isinstance" := rfl
theorem peIsi1 {t : Ty} {sc : Scope} {p1 : Pos} (ok : XOk X T G kw k c) (hsc : X.env.scope = sc) (hg : Gl X "isinstance") (hp : PE X p (tEv X T G k W a)) (hn : a.isO = false) (h1 : nst p = true) (hq : isTy sc t q = true) :
    PE X (.Call (.Name "isinstance" p1) [p, q] [] pos) (tEv X T G k W (.bi (.isin [t]) (.cons a .nil))) := by
  obtain ⟨hq1, hq2⟩ := peTy ok hsc hq
  have hm := ok.g.bt "isinstance" (Bi.isin []).mem
  refine (pe_callB call_isi hg hm (Bi.isin []).boot (pa_cons hp (pa_cons hq1 pa_nil (star_cons hq2)) (star_cons h1)) (Bi.isin []).okN.1 (Bi.isin []).okN.2 (star_cons h1) (back_any (by simp [hq2]))).weak fun σ H Q h => ?_
  refine keyIsi hn h fun v H1 d ω1 st1 s1 rs hz o => ?_
  refine ⟨v, .ty t.py, _, _, _, rfl, .ty _, tyX rs hz, kit_ty (kitD t hz), ?_⟩
  have z := Out.bl s1 o
  simpa using z
theorem kitTys {K : PySem.W.Frag} {d : D} (hn : noRef d = true) : ∀ ts : List Ty, PySem.W.kitAny K (.type (tyName d)) (ts.map fun t => .type t.py) = some (ts.any (tyIs · d))
  | [] => kitAny_nil
  | t :: ts => by
    rw [List.map_cons, List.any_cons]
    refine kitAny_cons (kit_ty (kitD t hn)) (fun e => ?_) (fun e => ?_)
    · rw [e, Bool.false_or]; exact kitTys hn ts
    · rw [e]; rfl
theorem clsAll : ∀ ts : List Ty, Paired ClsV (ts.map fun t => V.ty t.py) (ts.map fun t => Value.type t.py)
  | [] => .nil
  | t :: ts => .cons (.ty _) (clsAll ts)
theorem TyX.keep {K : PySem.W.Frag} {H H' : Hp} {v : V} {t : Value} (hne : ∀ b o, H b = some o → H' b = some o) (e : TyX K H v t) : TyX K H' v t := by
  cases e with
  | base e =>
    cases e with
    | non => exact .base .non
    | bl => exact .base (.bl _)
    | int => exact .base (.int _)
    | str => exact .base (.str _)
    | flt => exact .base (.flt _)
    | lst e => exact .base (.lst (hne _ _ e))
    | frz e => exact .base (.frz (hne _ _ e))
    | tup e => exact .base (.tup (hne _ _ e))
    | dK e => exact .base (.dK (hne _ _ e))
    | dT e => exact .base (.dT (hne _ _ e))
    | ins e c a b d f => exact .base (.ins (hne _ _ e) c a b d f)
  | byt => exact .byt _
  | set e => exact .set (hne _ _ e)
  | kList e c => exact .kList e c
  | kTuple e c => exact .kTuple e c
  | kDict e c => exact .kDict e c
  | fTuple e => exact .fTuple (hne _ _ e)
  | fDict e => exact .fDict (hne _ _ e)
theorem peIsiT {ts : List Ty} {sc : Scope} {p1 p2 : Pos} {qs : List Expr} {kt : Nat} (ok : XOk X T G kw k c) (hsc : X.env.scope = sc) (hg : Gl X "isinstance") (hp : PE X p (tEv X T G k W a)) (hn : a.isO = false) (h1 : nst p = true) (hq : isTys sc ts qs = true) (hl : ts.length ≤ 1000) :
    PE X (.Call (.Name "isinstance" p1) [p, .Tuple qs kt p2] [] pos) (tEv X T G k W (.bi (.isin ts) (.cons a .nil))) := by
  have hm := ok.g.bt "isinstance" (Bi.isin []).mem
  refine (pe_callB call_isiT hg hm (Bi.isin []).boot (pa_cons hp (pa_cons (pe_tup (paTys ok hsc hq)) pa_nil) (star_cons h1)) (Bi.isin []).okN.1 (Bi.isin []).okN.2 (star_cons h1) rfl).weak fun σ H Q h => ?_
  refine keyIsi hn h fun v H1 d ω1 st1 s1 rs hz o => ?_
  refine ⟨by rw [List.length_map]; exact Nat.le_trans hl (by decide), fun tp htp => ?_⟩
  have x := Ext.updN (o := .tup (ts.map fun t => V.ty t.py)) s1 htp
  refine ⟨v, tp, _, .type (tyName d), _, _, rfl, upd_same, clsAll ts, ?_, kitTys hz ts, ?_⟩
  · exact TyX.keep (upd_keep htp) (tyX rs hz)
  · exact o _ _ _ x (s1.updN htp) (by simp only [Rep])

/-! ### subscripts -/
def plainIx : Expr → Bool
  | .Slice _ _ _ _ => false
  | _ => true
theorem plainIx_ok (h : plainIx q = true) : PlainIx q := by
  cases q <;> first | (intro o i; rfl) | cases h
theorem peIdx (ha : PE X p (tEv X T G k W a)) (hb : PE X q (tEv X T G k W b)) (hm : b.isO = false) (hs : plainIx q = true) : PE X (.Subscript p q pos) (tEv X T G k W (.idx a b)) :=
  (pe_ix ixD ha hb (plainIx_ok hs)).weak fun σ H Q ⟨ω, st, env, H0, sim, re, h⟩ => by
    simp only [ev] at h
    refine ⟨ω, st, env, H0, sim, re, step h fun d st1 v H1 ω1 e1 s1 r1 h => ⟨ω1, st1, env, H0, s1, re.ext e1, step h fun d2 st2 v2 H2 ω2 e2 s2 r2 h => ?_⟩⟩
    cases hd : idxD (vwS st2 d) d2 with
    | none => rw [hd] at h; exact h.elim
    | some z =>
      rw [hd] at h
      exact ⟨ω2, st2, _, _, z, s2, (r1.ext e2).s s2, r2.rep hm, hd, h.out rfl⟩
end
end Ev

set_option Elab.async false
set_option linter.all false
set_option maxRecDepth 100000
/-! Slices. -/
namespace HT
open PySem PySem.Spec PyProof.Rows PySem.W
section
variable {prog : Program} {w : World} {A : Around} {E : Value → Shared → Prop} {s : Shared}
theorem evAdjustBack (n : Nat) : Builtin.Slice.sliceAdjust none none (-1) (n : Int) = ((n : Int) - 1, -1) := by
  unfold Builtin.Slice.sliceAdjust
  simp
theorem evPlacesBack (n : Nat) : Builtin.Slice.slicePlaces ((n : Int) - 1) (-1) (-1) = n := by
  unfold Builtin.Slice.slicePlaces
  have h1 : ¬ ((-1 : Int) > 0) := by omega
  simp only [h1, if_false, show (- -1 : Int) = 1 by decide, Int.ediv_one]
  split <;> omega
theorem evFilterMap {α β : Type} {f g : α → Option β} : ∀ {l : List α}, (∀ m ∈ l, f m = g m) → l.filterMap f = l.filterMap g
  | [], _ => rfl
  | a :: l, h => by
    have ih := evFilterMap (l := l) fun m hm => h m (List.mem_cons_of_mem _ hm)
    rw [List.filterMap_cons, List.filterMap_cons, h a List.mem_cons_self, ih]
theorem evPickBack (xs : Array Value) : ((List.range xs.size).filterMap fun (m : Nat) => xs[((xs.size : Int) - 1 + (m : Int) * (-1)).toNat]?).toArray = xs.toList.reverse.toArray := by
  have e : (List.range xs.size).filterMap (fun (m : Nat) => xs[((xs.size : Int) - 1 + (m : Int) * (-1)).toNat]?) = ((List.range xs.size).map fun k => xs.size - 1 - k).filterMap (xs[·]?) := by
    rw [List.filterMap_map]
    refine evFilterMap fun m hm => ?_
    have : ((xs.size : Int) - 1 + (m : Int) * (-1)).toNat = xs.size - 1 - m := by omega
    show xs[((xs.size : Int) - 1 + (m : Int) * (-1)).toNat]? = xs[xs.size - 1 - m]?
    rw [this]
  rw [e, krv_range, List.filterMap_reverse, krv_all]
theorem evTupleBack {t sl : Addr} {items : Array Value} {tk : Tok} {Q : Value → Shared → Prop} (ht : IsTup s.heap t items) (hs : s.heap.IsSliceOf sl .none .none (.int (-1) tk))
    (h : Q (.ref s.heap.objs.size) { s with heap := s.heap.push { cls := .type "tuple", data := .seq items.toList.reverse.toArray } })
    (hsz : items.size ≤ sizeLine) : wpAny (model prog w) A (getItem (.ref t) (.ref sl)) Q E s := by
  have htake : sizeOk (.seq items.toList.reverse.toArray) := by
    show items.toList.reverse.toArray.size ≤ sizeLine
    simpa using hsz
  obtain ⟨os, hos, hcs, hds⟩ := id hs
  have hTs : s.TypeIs (.ref sl) "slice" := ⟨os, hos, hcs⟩
  unfold getItem
  try with_reducible refine wpAny_holding ?_
  first | refine wpAny_bind (wpAny_pure ?_) | skip
  refine wpAny_bind (wpAny_sequenceKey ht.typeIs (by decide) ?_)
  refine wpAny_bind (wpAny_callSpecial?_slot (name := Str.ofString "__getitem__") ht.typeIs PyProof.Rows.slot_tuple_getitem
    (wpAny_call_entry PyProof.Rows.slot_tuple_getitem ht.typeIs entry_tuple_getitem ?_ (args_tuple_getitem _ _)))
  show wpAny _ _ (Builtin.Tuple.tupleItemsOf (.ref t) >>= _) _ _ s
  refine wpAny_bind (tupleItemsOf_ ht ?_)
  refine wpAny_bind (wpAny_typeOf hTs ?_)
  rw [if_pos (by decide)]
  refine wpAny_bind ?_
  unfold Builtin.Slice.sliceApplied Builtin.Slice.sliceFields
  refine wpAny_bind (wpAny_bind (wpAny_field hos hds (x := .none) rfl (wpAny_bind (wpAny_field hos hds (x := .none) rfl (wpAny_bind (wpAny_field hos hds (x := .int (-1) tk) rfl (wpAny_pure ?_)))))))
  refine wpAny_bind (slicePart_int ?_)
  show wpAny _ _ (if ((-1 : Int) == 0) = true then _ else _) _ _ s
  rw [if_neg (by decide)]
  refine wpAny_bind (slicePart_none (wpAny_bind (slicePart_none (wpAny_bind (wpAny_pure ?_)))))
  show wpAny _ _ (match Builtin.Slice.sliceAdjust none none (-1) (items.size : Int) with | (lo, hi) => pure (lo, (-1 : Int), Builtin.Slice.slicePlaces lo hi (-1))) _ _ s
  rw [evAdjustBack]
  show wpAny _ _ (pure (((items.size : Int) - 1), (-1 : Int), Builtin.Slice.slicePlaces ((items.size : Int) - 1) (-1) (-1))) _ _ s
  rw [evPlacesBack]
  refine wpAny_pure ?_
  have hno : ¬ (((items.size : Int) - 1 == 0 && (-1 : Int) == 1 && items.size == items.size) = true) := by simp
  show wpAny _ _ (if ((items.size : Int) - 1 == 0 && (-1 : Int) == 1 && items.size == items.size) = true then _ else _) _ _ s
  rw [if_neg hno, evPickBack]
  first
    | exact wpAny_bind (m := Builtin.Tuple.tupleExact _) (wpAny_newObj_type (wpAny_pure ⟨_, rfl, wpAny_pure h⟩) htake)
    | exact wpAny_bind (m := Builtin.Tuple.tupleExact _) (wpAny_newObj_type (wpAny_bind (wpAny_pure (wpAny_pure ⟨_, rfl, wpAny_pure h⟩))) htake)
    | exact wpAny_bind (wpAny_bind (m := Builtin.Tuple.tupleExact _) (wpAny_newObj_type (wpAny_pure (wpAny_pure ⟨_, rfl, wpAny_pure h⟩)) htake))
    | exact wpAny_bind (wpAny_bind (m := Builtin.Tuple.tupleExact _) (wpAny_newObj_type (wpAny_pure ⟨_, rfl, wpAny_pure h⟩) htake))
end
end HT
namespace Ev
open PySem PySem.Spec PyProof.Rows L2
section
variable {X : Cx} {T : Nm} {G : Pg} {k : Nat} {W : WX} {c : Cn} {kw : List Kw} {pos p2 : Pos} {p q r : Expr} {a b e : E}
/-! ### a[lo:hi] -/
def slcO (a : D) (lo hi : Option Int) : Option D := match a with
  | .tup xs => some (.tup (cutL xs lo hi))
  | .lst xs => some (.lst (cutL xs lo hi))
  | .str x => some (.str (cutL x lo hi))
  | _ => none
def rSlc (K : PySem.W.Frag) : V → Option Int → Option Int → Hp → VK → Prop := fun x lo hi H Q => ∃ ω st a d, Sim K H ω st ∧ RepS K H ω x a ∧ slcO a lo hi = some d ∧ Out K H ω st d Q
theorem cutL_len {α : Type} (xs : List α) (lo hi : Option Int) : (cutL xs lo hi).length ≤ xs.length := by
  unfold cutL
  rw [List.length_take, List.length_drop]
  omega
theorem Reps.cut {K : PySem.W.Frag} {H : Hp} {ω : Wd} {vs : List V} {ds : List D} (h : Reps K H ω vs ds) (lo hi : Option Int) : Reps K H ω (cutV vs lo hi) (cutL ds lo hi) := by
  unfold cutV cutL
  rw [h.length]
  exact (h.drop _).take _
theorem cut_whole {α : Type} (xs : List α) (lo hi : Option Int) (h : HT.sIx xs.length 0 lo = 0 ∧ HT.sIx xs.length xs.length hi = xs.length) : cutL xs lo hi = xs := by
  unfold cutL
  rw [h.1, h.2]
  simp
theorem slD : SlR X (rSlc X.K) := by
  rintro pins s σ H x v vl vu lo hi sl Q I rx hs pl pu ⟨ω, st, a, d, sim, ra, hd, o⟩
  unfold slcO at hd
  split at hd
  · cases hd
    obtain ⟨p, vs, rfl, h1, h2, h3⟩ := ra.tup
    refine sl_tupA pins s σ H _ v vl vu lo hi sl Q I rx hs pl pu ⟨p, vs, rfl, h1.sq, fun hw => ?_, fun _ q hq => Out.tup sim o hq (Nat.le_trans (cutL_len _ _ _) h2) (h3.cut lo hi)⟩
    rw [h3.length] at hw
    rw [cut_whole _ _ _ hw] at o
    exact o.now sim (by simp only [Rep]; exact ⟨p, vs, rfl, h1, h2, h3⟩)
  · cases hd
    obtain ⟨p, vs, rfl, h1, h2, h3⟩ := ra.lst
    exact sl_list pins s σ H _ v vl vu lo hi sl Q I rx hs pl pu ⟨p, vs, rfl, h1, fun q hq => Out.lst sim o hq (Nat.le_trans (cutL_len _ _ _) h2) (h3.cut lo hi)⟩
  · cases hd
    rename_i z
    obtain ⟨rfl, hz⟩ := ra.str
    refine sl_str pins s σ H _ v vl vu lo hi sl Q I rx hs pl pu ⟨_, rfl, by rw [toS_len]; exact hz, ?_⟩
    have e : cutS (toS z) lo hi = toS (cutL z lo hi) := by
      have hl : (toS z).length = z.length := toS_len z
      unfold cutS cutL
      rw [hl, toS_list]
      rfl
    rw [e]
    exact Out.str sim o (Nat.le_trans (cutL_len _ _ _) hz)
  · cases hd
/-- a part: left out, or an expression -/
def tPart2 (t : TE) : TO := fun σ H Q => t σ H fun x H1 => ∃ o, (x = .non ∧ o = none ∨ ∃ i, x = .int i ∧ o = some i) ∧ Q o H1
theorem po_some2 {te : TE} {e' : Expr} (h : PE X e' te) : PO X (some e') (tPart2 te) := by
  refine ⟨fun pins s σ H Q I hw => ?_⟩
  rw [evalPart_some]
  refine thn (h.run pins s σ H _ I hw) fun u s1 ⟨x, H1, I1, r1, o, hx, q1⟩ => ?_
  rcases hx with ⟨rfl, rfl⟩ | ⟨i, rfl, rfl⟩
  · cases r1
    exact ⟨none, H1, I1, .none, q1⟩
  · obtain ⟨t, rfl⟩ := r1
    exact ⟨some i, H1, I1, .int i t, q1⟩
theorem po_none2 : PO X none (tPart2 (tEv X T G k W (.cst .non))) := by
  refine ⟨fun pins s σ H Q I hw => po_none.run pins s σ H Q I ?_⟩
  obtain ⟨ω, st, env, H0, sim, re, h⟩ := hw
  obtain ⟨o, hx, q⟩ := h .non H ω (Ext.refl H ω) sim (RepE.of rfl (by simp only [Rep]))
  rcases hx with ⟨_, rfl⟩ | ⟨i, hx, _⟩
  · exact q
  · cases hx
theorem peSlc {lo hi : Option Expr} {l h : E} (ha : PE X p (tEv X T G k W a)) (hl : PO X lo (tPart2 (tEv X T G k W l))) (hh : PO X hi (tPart2 (tEv X T G k W h))) (nl : l.isO = false) (nh : h.isO = false) : PE X (.Subscript p (.Slice lo hi none p2) pos) (tEv X T G k W (.slc a l h)) :=
  (pe_slice slD ha hl hh).weak fun σ H Q ⟨ω, st, env, H0, sim, re, hz⟩ => by
    simp only [ev] at hz
    refine ⟨ω, st, env, H0, sim, re, step hz fun d st1 v H1 ω1 e1 s1 r1 hz => ⟨ω1, st1, env, H0, s1, re.ext e1, step hz fun d2 st2 v2 H2 ω2 e2 s2 r2 hz => ?_⟩⟩
    have part : ∀ {d : D} {v : V} {H : Hp} {ω : Wd}, Rep X.K H ω v d → ∀ o, bndD d = some o → (v = .non ∧ o = none ∨ ∃ i, v = .int i ∧ o = some i) := fun {d v H ω} r o e => by
      cases d with
      | non => simp only [Rep] at r; cases e; exact .inl ⟨r, rfl⟩
      | int i => simp only [Rep] at r; cases e; exact .inr ⟨i, r, rfl⟩
      | _ => cases e
    cases hb2 : bndD d2 with
    | none => rw [hb2] at hz; exact hz.elim
    | some o2 =>
      rw [hb2] at hz
      refine ⟨o2, part (r2.rep nl) o2 hb2, ⟨ω2, st2, env, H0, s2, (re.ext e1).ext e2, step hz fun d3 st3 v3 H3 ω3 e3 s3 r3 hz => ?_⟩⟩
      cases hb3 : bndD d3 with
      | none => simp only [slcD, hb2, hb3] at hz; exact hz.elim
      | some o3 =>
        refine ⟨o3, part (r3.rep nh) o3 hb3, ?_⟩
        have e : slcD (vwS st3 d) d2 d3 = slcO (vwS st3 d) o2 o3 := by
          unfold slcD slcO
          (rw [hb2, hb3]) <;> (cases vwS st3 d <;> rfl)
        rw [e] at hz
        cases hd : slcO (vwS st3 d) o2 o3 with
        | none => rw [hd] at hz; exact hz.elim
        | some z =>
          rw [hd] at hz
          exact ⟨ω3, st3, _, z, s3, ((r1.ext e2).ext e3).s s3, hd, hz.out rfl⟩
/-! ### a[::-1] -/
def rRev (K : PySem.W.Frag) (te : TE) : TE := fun σ H Q => te σ H fun x H1 => ∃ a xs, x = .ref a ∧ ((SqL K H1 a xs ∧ ∀ p, H1 p = none → Q (.ref p) (upd H1 p (.lst xs.reverse))) ∨ (SqT K H1 a xs ∧ ∀ p, H1 p = none → Q (.ref p) (upd H1 p (.tup xs.reverse))))
theorem pe_rev2 {t : TE} {kk : Nat} {p1 p2 p3 pos : Pos} (he : PE X p t) : PE X (.Subscript p (.Slice none none (some (.UnaryOp .USub (.Constant (.int 1) kk p1) p2)) p3) pos) (rRev X.K t) := by
  refine ⟨fun pins s σ H Q I h => ?_⟩
  refine Subscript_ (thn (he.run pins s σ H _ I h) fun v s1 ⟨x, H1, I1, r1, a, xs, ex, hx⟩ => ?_)
  subst ex
  cases r1
  have hst : PO X (some (.UnaryOp .USub (.Constant (.int 1) kk p1) p2)) (tPart (tUn (rU fun i => .int (-i)) (tC (.int 1)))) := po_some (pe_un un_neg pe_int)
  refine wpAny_Slice (thn (po_none.run pins s1 σ H1 (fun o H2 => o = none ∧ H2 = H1) I1 ⟨rfl, rfl⟩) fun vl s2 ⟨l, H2, I2, pl, el, e2⟩ => ?_)
  obtain rfl := el
  obtain rfl := e2
  refine thn (po_none.run pins s2 σ H2 (fun o H3 => o = none ∧ H3 = H2) I2 ⟨rfl, rfl⟩) fun vu s3 ⟨u, H3, I3, pu, eu, e3⟩ => ?_
  obtain rfl := eu
  obtain rfl := e3
  refine thn (hst.run pins s3 σ H3 (fun o H4 => o = some (-1) ∧ H4 = H3) I3 ⟨1, rfl, -1, rfl, rfl, rfl⟩) fun vs s4 ⟨o, H4, I4, ps, eo, e4⟩ => ?_
  obtain rfl := eo
  obtain rfl := e4
  have I5 : Inv X pins σ H4 { s4 with heap := s4.heap.push { cls := .type "slice", data := .fields #[vl, vu, vs] } } := I4.kept (t' := s4.toks) fun b ob q => Heap.get?_push_of_some _ q
  rcases hx with ⟨hx, q⟩ | ⟨hx, q⟩
  · obtain ⟨its, r, ht, hz⟩ := I5.list hx
    have hlen := r.length
    show wpAny (model X.prog X.w) X.A (subscriptTail p _ (.ref a) (.ref s4.heap.objs.size)) (EP X pins σ Q) X.xe _
    refine tail_any (ops := [.ref a, .ref s4.heap.objs.size]) ht.isList.typeIs (PySem.slot_list_getitem.lookup) ?_ (by with_unfolding_all rfl)
    refine wpAny_getItem_list_slice ht.isList (Heap.IsSliceOf.new _ vl vu vs) pl pu ps (by decide) ?_ (by rw [List.size_toArray]; omega)
    rw [PySem.W.krv_pick]
    exact ⟨.ref _, _, I5.laid (t' := s4.toks) (o := .lst xs.reverse) (fun b ob q => Heap.get?_push_of_some _ q) (Nat.le_refl _) ⟨by rw [List.length_reverse]; exact hz, _, 0, r.reverse, Heap.get?_push_size _ rfl⟩, rfl, q _ (I5.hok.fresh (Nat.le_refl _))⟩
  · obtain ⟨its, r, ht, hz⟩ := I5.tuple hx
    have hlen := r.length
    cases pl
    cases pu
    cases ps
    rename_i tk
    show wpAny (model X.prog X.w) X.A (subscriptTail p _ (.ref a) (.ref s4.heap.objs.size)) (EP X pins σ Q) X.xe _
    refine tail_any (ops := [.ref a, .ref s4.heap.objs.size]) ht.typeIs (PyProof.Rows.slot_tuple_getitem.lookup) ?_ (by with_unfolding_all rfl)
    refine HT.evTupleBack ht (Heap.IsSliceOf.new _ _ _ _) ?_ (by rw [List.size_toArray]; omega)
    exact ⟨.ref _, _, I5.laid (t' := s4.toks) (o := .tup xs.reverse) (fun b ob q => Heap.get?_push_of_some _ q) (Nat.le_refl _) ⟨by rw [List.length_reverse]; exact hz, _, r.reverse, IsTup.new _ _⟩, rfl, q _ (I5.hok.fresh (Nat.le_refl _))⟩
theorem peRev {kk : Nat} {p1 p2 p3 pos : Pos} (ha : PE X p (tEv X T G k W a)) : PE X (.Subscript p (.Slice none none (some (.UnaryOp .USub (.Constant (.int 1) kk p1) p2)) p3) pos) (tEv X T G k W (.rev a)) :=
  (pe_rev2 ha).weak fun σ H Q ⟨ω, st, env, H0, sim, re, h⟩ => by
    simp only [ev] at h
    refine ⟨ω, st, env, H0, sim, re, step h fun d st1 v H1 ω1 e1 s1 r1 h => ?_⟩
    have rs := r1.s s1
    cases hd : vwS st1 d with
    | tup xs =>
      rw [hd] at h rs
      obtain ⟨p, vs, rfl, h1, h2, h3⟩ := rs.tup
      exact ⟨p, vs, rfl, .inr ⟨h1.sq, fun q hq => Out.tup s1 (h.out rfl) hq (by rw [List.length_reverse]; exact h2) h3.reverse⟩⟩
    | lst xs =>
      rw [hd] at h rs
      obtain ⟨p, vs, rfl, h1, h2, h3⟩ := rs.lst
      exact ⟨p, vs, rfl, .inl ⟨h1, fun q hq => Out.lst s1 (h.out rfl) hq (by rw [List.length_reverse]; exact h2) h3.reverse⟩⟩
    | _ => rw [hd] at h; exact h.elim
end
end Ev

set_option Elab.async false
set_option linter.all false
set_option maxRecDepth 100000
/-! Dicts whose keys are ints and texts. -/
namespace Ev
open PySem PySem.Spec PyProof.Rows L2
section
variable {X : Cx} {T : Nm} {G : Pg} {k : Nat} {W : WX} {c : Cn} {kw : List Kw} {pos p1 p2 : Pos} {p q r : Expr} {a b e : E}
theorem RepK.put {K : PySem.W.Frag} {H : Hp} {ω : Wd} {v : V} {d : D} (r : Rep K H ω v d) (x : Key) : ∀ {ps : List (Key × V)} {qs : List (Key × D)}, RepK K H ω ps qs → RepK K H ω (putK ps x v) (putD qs x d) := by
  have any : ∀ {ps : List (Key × V)} {qs : List (Key × D)}, RepK K H ω ps qs → (ps.any fun kv => decide (kv.1 = x)) = (qs.any fun kv => decide (kv.1 = x)) := by
    intro ps qs
    induction ps generalizing qs with
    | nil =>
      intro h
      cases qs with
      | nil => rfl
      | cons q qs => exact h.elim
    | cons p ps ih =>
      intro h
      cases qs with
      | nil => exact h.elim
      | cons q qs =>
        simp only [RepK] at h
        rw [List.any_cons, List.any_cons, ih h.2, h.1.1]
  have mp : ∀ {ps : List (Key × V)} {qs : List (Key × D)}, RepK K H ω ps qs → RepK K H ω (ps.map (fun kv => if kv.1 = x then (kv.1, v) else kv)) (qs.map (fun kv => if kv.1 = x then (kv.1, d) else kv)) := by
    intro ps qs
    induction ps generalizing qs with
    | nil =>
      intro h
      cases qs with
      | nil => trivial
      | cons q qs => exact h.elim
    | cons p ps ih =>
      intro h
      cases qs with
      | nil => exact h.elim
      | cons q qs =>
        simp only [RepK, List.map_cons] at h ⊢
        refine ⟨?_, ih h.2⟩
        by_cases e : q.1 = x
        · rw [if_pos e, if_pos (h.1.1.trans e)]
          exact ⟨h.1.1, r⟩
        · rw [if_neg e, if_neg (by rw [h.1.1]; exact e)]
          exact h.1
  have ap : ∀ {ps : List (Key × V)} {qs : List (Key × D)}, RepK K H ω ps qs → RepK K H ω (ps ++ [(x, v)]) (qs ++ [(x, d)]) := by
    intro ps qs
    induction ps generalizing qs with
    | nil =>
      intro h
      cases qs with
      | nil => simp only [List.nil_append, RepK]; exact ⟨⟨trivial, r⟩, trivial⟩
      | cons q qs => exact h.elim
    | cons p ps ih =>
      intro h
      cases qs with
      | nil => exact h.elim
      | cons q qs =>
        simp only [RepK, List.cons_append] at h ⊢
        exact ⟨h.1, ih h.2⟩
  intro ps qs h
  unfold putK putD
  rw [any h]
  split
  · exact mp h
  · exact ap h
theorem RepK.merge {K : PySem.W.Frag} {H : Hp} {ω : Wd} : ∀ {more : List (Key × V)} {moreD : List (Key × D)} {ps : List (Key × V)} {qs : List (Key × D)}, RepK K H ω more moreD → RepK K H ω ps qs → RepK K H ω (mergeK ps more) (mergeD qs moreD)
  | [], [], _, _, _, h => h
  | p :: more, q :: moreD, ps, qs, h, h2 => by
    simp only [RepK] at h
    have z := RepK.put h.1.2 q.1 h2
    unfold mergeK mergeD
    rw [List.foldl_cons, List.foldl_cons]
    rw [h.1.1]
    exact RepK.merge h.2 z
  | [], _ :: _, _, _, h, _ => h.elim
  | _ :: _, [], _, _, h, _ => h.elim
theorem RepK.len {K : PySem.W.Frag} {H : Hp} {ω : Wd} : ∀ {ps : List (Key × V)} {qs : List (Key × D)}, RepK K H ω ps qs → ps.length = qs.length ∧ ps.map (·.1) = qs.map (·.1)
  | [], [], _ => ⟨rfl, rfl⟩
  | p :: ps, q :: qs, h => by
    simp only [RepK] at h
    obtain ⟨h1, h2⟩ := RepK.len h.2
    exact ⟨by simp [h1], by simp [h2, h.1.1]⟩
  | [], _ :: _, h => h.elim
  | _ :: _, [], h => h.elim
/-- a list of pairs -/
theorem pairs_rep {K : PySem.W.Frag} {H : Hp} {ω : Wd} : ∀ {ds : List D} {kvs : List (Key × D)} {vs : List V}, pairsD ds = some kvs → Reps K H ω vs ds → ∃ (ps : List Addr) (vks : List (Key × V)), vs = ps.map V.ref ∧ Paired (fun p kv => SqT K H p [kV kv.1, kv.2]) ps vks ∧ RepK K H ω vks kvs
  | [], kvs, vs, h, r => by
    simp [pairsD] at h
    subst h
    cases vs with
    | nil => exact ⟨[], [], rfl, .nil, trivial⟩
    | cons v vs => exact r.elim
  | d :: ds, kvs, vs, h, r => by
    cases vs with
    | nil => exact r.elim
    | cons v vs =>
      simp only [Reps] at r
      unfold pairsD at h
      split at h
      · rename_i heq; cases heq
      · rename_i kk v' ps heq
        cases heq
        split at h
        · rename_i k' rest hk hr
          cases h
          obtain ⟨ps', vks, h1, h2, h3⟩ := pairs_rep hr r.2
          have r1 := r.1
          simp only [Rep] at r1
          obtain ⟨a, us, rfl, ht, hl, hu⟩ := r1
          match us, hu with
          | [x, y], hu =>
            simp only [Reps] at hu
            obtain ⟨hx, hy, _⟩ := hu
            have ex : x = kV k' := by
              cases kk with
              | int i => simp only [dKey, Option.some.injEq] at hk; subst hk; simp only [Rep] at hx; rw [hx]; rfl
              | str z => simp only [dKey, Option.some.injEq] at hk; subst hk; simp only [Rep] at hx; rw [hx.1]; rfl
              | _ => cases hk
            subst ex
            exact ⟨a :: ps', (k', y) :: vks, by rw [h1]; rfl, .cons ht.sq h2, by simp only [RepK]; exact ⟨⟨trivial, hy⟩, h3⟩⟩
          | [], hu => exact hu.elim
          | [x], hu => simp only [Reps] at hu; exact hu.2.elim
          | x :: y :: z :: us, hu => simp only [Reps] at hu; exact hu.2.2.elim
        · cases h
      · cases h
theorem peDct (ok : XOk X T G kw k c) (hg : Gl X "dict") (hp : PE X p (tEv X T G k W e)) (hn : e.isO = false) (h1 : nst p = true) : PE X (.Call (.Name "dict" p1) [p] [] pos) (tEv X T G k W (.dctC e)) := by
  refine (pe_callTy (call_dictP ok.calm) hg (ok.g.bt "dict" (by decide +kernel)) (show bootBuiltins "dict" = some (.type "dict") from Ty.boot .tdct) (pa_cons hp pa_nil (star_cons h1)) (Ty.okN .tdct).1 (Ty.okN .tdct).2 (star_cons h1) rfl).weak fun σ H Q ⟨ω, st, env, H0, sim, re, h⟩ => ?_
  simp only [ev] at h
  refine ⟨ω, st, env, H0, sim, re, step h fun d st1 v H1 ω1 e1 s1 r1 h => ?_⟩
  have r1 := r1.rep hn
  cases d with
  | lst ds =>
    simp only [Rep] at r1
    obtain ⟨p, vs, rfl, h1, h2, h3⟩ := r1
    cases hd : pairsD ds with
    | none => simp only [hd] at h; exact h.elim
    | some kvs =>
      simp only [hd] at h
      obtain ⟨ps, vks, rfl, hpp, hk⟩ := pairs_rep hd h3
      refine ⟨p, ps, vks, rfl, h1.sq, hpp, fun q hq => ?_⟩
      have x := Ext.cell (o := .dK (mergeK [] vks)) s1 hq
      refine h (.ref q) _ _ x (s1.cell_new hq ⟨_, upd_same, (RepK.merge hk (show RepK X.K H1 ω1 [] [] from trivial)).ext x⟩) (RepE.of rfl ?_)
      simp only [Rep]
      exact ⟨q, by show (ω1.φ ++ [q])[st1.length]? = some q; rw [← s1.len, List.getElem?_append_right (Nat.le_refl _)]; simp, rfl⟩
  | _ => exact h.elim

/-! ### sorted(dict) -/
theorem sortInts {ys ks : List Int} (h : ys.Perm ks) (hs : ys.Pairwise (· ≤ ·)) : ys = ks.mergeSort fun i j => decide (i ≤ j) := by
  have h2 := List.pairwise_mergeSort (le := fun i j : Int => decide (i ≤ j)) (fun a b c h1 h2 => by simp at *; omega) (fun a b => by simp; omega) ks
  refine List.Perm.eq_of_pairwise (le := fun a b : Int => a ≤ b) (fun a b _ _ h1 h2 => by omega) hs (h2.imp fun h => by simpa using h) (h.trans (List.mergeSort_perm ks _).symm)
theorem leS_iff {x y : List Nat} : leS x y = true ↔ x ≤ y := by
  unfold leS
  simp [List.not_lt]
theorem rising_pair : ∀ {ys : List Str} {y : Str}, risingS y ys = true → (∀ z ∈ ys, y.cps.toList ≤ z.cps.toList) ∧ ys.Pairwise (fun a b => a.cps.toList ≤ b.cps.toList)
  | [], y, _ => ⟨by simp, .nil⟩
  | x :: r, y, h => by
    simp only [risingS, Bool.and_eq_true, Bool.not_eq_true'] at h
    obtain ⟨h1, h2⟩ := h
    rw [ltCps_eq] at h1
    have h1 : y.cps.toList ≤ x.cps.toList := List.not_lt.mp (by simpa using h1)
    obtain ⟨h3, h4⟩ := rising_pair h2
    refine ⟨fun z hz => ?_, .cons h3 h4⟩
    rcases List.mem_cons.mp hz with rfl | hz
    · exact h1
    · exact List.le_trans h1 (h3 z hz)
theorem sortStrs {ys ks : List Str} {zs : List (List Nat)} (hz : ks = zs.map toS) (h : ys.Perm ks) (hs : sortedS ys = true) : ys = (zs.mergeSort leS).map toS := by
  subst hz
  have hp : ys.Pairwise (fun a b => a.cps.toList ≤ b.cps.toList) := by
    cases ys with
    | nil => exact .nil
    | cons y ys =>
      obtain ⟨h1, h2⟩ := rising_pair (show risingS y ys = true from hs)
      exact .cons h1 h2
  have h2 := List.pairwise_mergeSort (le := leS) (fun a b c h1 h2 => by rw [leS_iff] at *; exact List.le_trans h1 h2) (fun a b => by rw [Bool.or_eq_true, leS_iff, leS_iff]; exact List.le_total a b) zs
  refine List.Perm.eq_of_pairwise (le := fun a b : Str => a.cps.toList ≤ b.cps.toList) (fun a b _ _ h1 h2 => ?_) hp ?_ (h.trans ((List.mergeSort_perm zs leS).symm.map toS))
  · have := List.le_antisymm h1 h2
    rw [← toS_of a, ← toS_of b, this]
  · rw [List.pairwise_map]
    exact h2.imp fun h => by rw [leS_iff] at h; simpa [toS] using h
theorem strs_eq : ∀ {xs : List D} {bs : List (List Nat)}, strsOf xs = some bs → xs = bs.map .str
  | [], bs, h => by simp [strsOf] at h; subst h; rfl
  | .str b :: xs, bs, h => by
    simp only [strsOf] at h
    cases e : strsOf xs with
    | none => rw [e] at h; cases h
    | some cs => rw [e] at h; cases h; rw [strs_eq e]; rfl
  | .non :: _, _, h => by simp [strsOf] at h
  | .bl _ :: _, _, h => by simp [strsOf] at h
  | .int _ :: _, _, h => by simp [strsOf] at h
  | .tup _ :: _, _, h => by simp [strsOf] at h
  | .lst _ :: _, _, h => by simp [strsOf] at h
  | .ref _ :: _, _, h => by simp [strsOf] at h
  | .scr _ :: _, _, h => by simp [strsOf] at h
theorem keyD_ints : ∀ {kvs : List (Key × V)} {ns : List Int} {qs : List (Key × D)}, kvs.map (·.1) = qs.map (·.1) → (qs.map fun p => keyD p.1) = ns.map D.int → kvs.map (·.1) = ns.map Sum.inl
  | kvs, ns, qs, h, h2 => by
    rw [h]
    clear h
    induction qs generalizing ns with
    | nil => cases ns with
      | nil => rfl
      | cons n ns => cases h2
    | cons q qs ih =>
      cases ns with
      | nil => cases h2
      | cons n ns =>
        simp only [List.map_cons, List.cons.injEq] at h2 ⊢
        refine ⟨?_, ih _ h2.2⟩
        have z := h2.1
        cases hq : q.1 with
        | inl i => rw [hq] at z; simp only [keyD, D.int.injEq] at z; rw [z]
        | inr i => rw [hq] at z; cases z
theorem keyD_strs : ∀ {kvs : List (Key × V)} {ns : List (List Nat)} {qs : List (Key × D)}, kvs.map (·.1) = qs.map (·.1) → (qs.map fun p => keyD p.1) = ns.map D.str → kvs.map (·.1) = (ns.map toS).map Sum.inr
  | kvs, ns, qs, h, h2 => by
    rw [h]
    clear h
    induction qs generalizing ns with
    | nil => cases ns with
      | nil => rfl
      | cons n ns => cases h2
    | cons q qs ih =>
      cases ns with
      | nil => cases h2
      | cons n ns =>
        simp only [List.map_cons, List.cons.injEq] at h2 ⊢
        refine ⟨?_, ih _ h2.2⟩
        have z := h2.1
        cases hq : q.1 with
        | inr i => rw [hq] at z; simp only [keyD, D.str.injEq] at z; rw [← z, toS_of]
        | inl i => rw [hq] at z; cases z
theorem peSrtD (ok : XOk X T G kw k c) (hg : Gl X "sorted") (hp : PE X p (tEv X T G k W e)) (hn : e.isO = false) (h1 : nst p = true) : PE X (.Call (.Name "sorted" p1) [p] [] pos) (tEv X T G k W (.bi .sortedD (.cons e .nil))) := by
  have hc : CallR X (.builtin "sorted") (fun xs H Q => (∃ (a : Addr) (kvs : List (Key × V)) (ks : List Int), xs = [.ref a] ∧ Rd H a (.dK kvs) ∧ kvs.map (·.1) = ks.map Sum.inl ∧ ks.length < 64 ∧
      ∀ (ys : List Int) (p : Addr), ys.Perm ks → ys.Pairwise (· ≤ ·) → H p = none → Q (.ref p) (upd H p (.lst (ys.map V.int)))) ∨ (∃ (a : Addr) (kvs : List (Key × V)) (ks : List Str), xs = [.ref a] ∧ Rd H a (.dK kvs) ∧ kvs.map (·.1) = ks.map Sum.inr ∧ ks.length < 64 ∧
      ∀ ys p, ys.Perm ks → sortedS ys = true → H p = none → Q (.ref p) (upd H p (.lst (ys.map V.str))))) := by
    intro pins s σ H xs us Q I r q
    rcases q with q | q
    · exact call_sortedDI ok.calm pins s σ H xs us Q I r q
    · exact call_sortedD ok.calm pins s σ H xs us Q I r q
  refine (pe_callB hc hg (ok.g.bt "sorted" (by decide +kernel)) (show bootBuiltins "sorted" = some (.builtin "sorted") from Bi.boot .sorted) (pa_cons hp pa_nil (star_cons h1)) (Bi.okN .sorted).1 (Bi.okN .sorted).2 (star_cons h1) rfl).weak fun σ H Q ⟨ω, st, env, H0, sim, re, h⟩ => ?_
  have e1 : (evs (callN G k) G.gl env st (.cons e .nil)) = (ev (callN G k) G.gl env st e).bind fun d st1 => .ok [d] st1 := by simp only [evs, R.bind_ok]
  simp only [ev] at h
  rw [e1] at h
  have e2 : ∀ (r : R D) (f : List D → St → R D), (r.bind fun d st1 => .ok [d] st1).bind f = r.bind fun d st1 => f [d] st1 := fun r f => by cases r <;> rfl
  rw [e2] at h
  refine ⟨ω, st, env, H0, sim, re, step h fun d st1 v H1 ω1 e1 s1 r1 h => ?_⟩
  have r1 := r1.rep hn
  simp only [List.map_cons, List.map_nil, biD, one, biArg] at h
  cases d with
  | ref n =>
    simp only [Rep] at r1
    obtain ⟨a, ha, rfl⟩ := r1
    obtain ⟨cc, hcc⟩ := s1.has ha
    obtain ⟨a', ha', hcell⟩ := s1.cell n cc hcc
    rw [ha] at ha'
    cases ha'
    simp only [vwK, hcc] at h
    cases cc with
    | lst xs => exact h.elim
    | dct qs =>
      obtain ⟨ps, hps, hk⟩ := hcell
      simp only [lstD, Option.bind_some, sortK] at h
      split at h
      · rename_i h64
        split at h
        · rename_i ns hns
          have hi := keyD_ints hk.len.2 (ints_eq hns)
          refine .inl ⟨a, ps, ns, rfl, .inl hps, hi, ?_, fun ys p hpm hss hp => ?_⟩
          · have := congrArg List.length (ints_eq hns)
            simp at this h64
            omega
          · rw [sortInts hpm hss]
            refine Out.lst s1 (h.out rfl) hp ?_ ?_
            · have := congrArg List.length (ints_eq hns)
              simp at this h64 ⊢
              exact Nat.le_trans (show ns.length ≤ 64 by omega) (by decide)
            · have : ∀ l : List Int, Reps X.K H1 ω1 (l.map V.int) (l.map D.int) := fun l => by
                induction l with
                | nil => trivial
                | cons n l ih => simp only [List.map_cons, Reps, Rep]; exact ⟨trivial, ih⟩
              exact this _
        · cases hz : strsOf (qs.map fun p => keyD p.1) with
          | none => rw [hz] at h; exact h.elim
          | some zs =>
            rw [hz] at h
            simp only [Option.bind_some] at h
            have hi := keyD_strs hk.len.2 (strs_eq hz)
            have hll : zs.length < 64 := by
              have := congrArg List.length (strs_eq hz)
              simp at this h64
              omega
            by_cases hs : (zs.all fun z => decide (z.length ≤ sizeLine)) = true
            · rw [if_pos hs] at h
              refine .inr ⟨a, ps, zs.map toS, rfl, .inl hps, hi, by simpa using hll, fun ys p hpm hss hp => ?_⟩
              rw [sortStrs rfl hpm hss]
              have : ∀ l : List (List Nat), (∀ z ∈ l, z.length ≤ sizeLine) → Reps X.K H1 ω1 ((l.map toS).map V.str) (l.map D.str) := fun l => by
                induction l with
                | nil => intro _; trivial
                | cons n l ih =>
                  intro hq
                  simp only [List.map_cons, Reps, Rep]
                  exact ⟨⟨trivial, hq n List.mem_cons_self⟩, ih fun z hz => hq z (List.mem_cons_of_mem _ hz)⟩
              refine Out.lst s1 (h.out rfl) hp ?_ (this _ fun z hz => ?_)
              · simp only [List.length_map, List.length_mergeSort]
                exact Nat.le_trans (show zs.length ≤ 64 by omega) (by decide)
              · have hm := (List.mergeSort_perm zs leS).mem_iff.mp hz
                have := List.all_eq_true.mp hs z hm
                simpa using this
            · rw [if_neg hs] at h
              exact h.elim
      · exact h.elim
  | non => exact h.elim
  | bl _ => exact h.elim
  | int _ => exact h.elim
  | str _ => exact h.elim
  | tup _ => exact h.elim
  | lst xs => exact h.elim
  | scr _ => exact h.elim
/-! ### list(range(e)) -/
theorem rgV_rep {K : PySem.W.Frag} {H : Hp} {ω : Wd} (j : Int) : Reps K H ω (rgV 0 j) (rangeL 0 j.toNat) := by
  have : ∀ l : List Nat, Reps K H ω (l.map fun (i : Nat) => V.int (0 + (i : Nat))) (l.map fun (i : Nat) => D.int (0 + i)) := fun l => by
    induction l with
    | nil => trivial
    | cons n l ih => simp only [List.map_cons, Reps, Rep]; exact ⟨trivial, ih⟩
  have e : (j - 0).toNat = j.toNat := by simp
  unfold rgV rangeL
  rw [e]
  exact this _
theorem peLrg {p2 p3 : Pos} (ok : XOk X T G kw k c) (hg : Gl X "list") (hg2 : Gl X "range") (hp : PE X p (tEv X T G k W e)) (hn : e.isO = false) (h1 : nst p = true) : PE X (.Call (.Name "list" p1) [.Call (.Name "range" p2) [p] [] p3] [] pos) (tEv X T G k W (.lrg e)) := by
  have hr := prg_1 (X := X) (p := p2) (pos := p3) hg2 (ok.g.bt "range" (by decide +kernel)) hp (star_cons h1)
  refine (pe_listRg ok.calm hg (ok.g.bt "list" (by decide +kernel)) hr rfl).weak fun σ H Q ⟨ω, st, env, H0, sim, re, h⟩ => ?_
  simp only [ev] at h
  refine ⟨ω, st, env, H0, sim, re, step h fun d st1 v H1 ω1 e1 s1 r1 h => ?_⟩
  have r1 := r1.rep hn
  cases d with
  | int j =>
    simp only at h
    split at h
    · rename_i hj
      simp only [okRange, Bool.and_eq_true, decide_eq_true_eq] at hj
      obtain ⟨⟨q1, q2⟩, q3⟩ := hj
      simp only [Rep] at r1
      subst r1
      have e : (rangeL 0 j.toNat).length = j.toNat := by simp [rangeL]
      exact ⟨j, rfl, ⟨by decide, by decide, q1, q2, by simpa using q3⟩, fun q hq => Out.lst s1 (h.out rfl) hq (by rw [e, sizeLine_eq]; omega) (rgV_rep j)⟩
    · exact h.elim
  | _ => exact h.elim
end
end Ev

set_option Elab.async false
set_option linter.all false
set_option maxRecDepth 100000
/-! What is walked; comprehensions. -/
namespace Ev
open PySem PySem.Spec PyProof.Rows L2

def RelX (o : Bool) (H : Hp) (ω : Wd) (H' : Hp) (ω' : Wd) : Prop := if o = true then Ext H ω H' ω' else WExt H ω H' ω'
section
variable {o : Bool} {H H1 H2 H' : Hp} {ω ω1 ω2 ω' : Wd}
theorem RelX.w (h : RelX o H ω H' ω') : WExt H ω H' ω' := by
  unfold RelX at h
  split at h
  · exact h.w
  · exact h
theorem RelX.of (e : Ext H ω H' ω') : RelX o H ω H' ω' := by
  unfold RelX
  split
  · exact e
  · exact e.w
theorem RelX.trans (a : RelX o H ω H1 ω1) (b : RelX o H1 ω1 H2 ω2) : RelX o H ω H2 ω2 := by
  unfold RelX at *
  split
  · rename_i q
    rw [if_pos q] at a b
    exact a.trans b
  · rename_i q
    rw [if_neg q] at a b
    exact a.trans b
theorem RelX.less {p : Bool} (h : RelX o H ω H' ω') (q : p = true → o = true) : RelX p H ω H' ω' := by
  cases p with
  | false => exact h.w
  | true =>
    have q := q rfl
    subst q
    exact h
end
/-- the sequence at a holds these -/
def SeqIn (K : PySem.W.Frag) (H : Hp) (ω : Wd) (t : Bool) (a : Addr) (ds : List D) : Prop := ∃ vs, (if t = true then SqT K H a vs else SqL K H a vs) ∧ Reps K H ω vs ds
theorem gds_app {env : Env} {st : St} {gs hs : List Gd} (h : gdsOk env st (gs ++ hs) = true) : gdsOk env st gs = true ∧ gdsOk env st hs = true := by
  unfold gdsOk at *
  rw [List.all_append, Bool.and_eq_true] at h
  exact h
theorem seqKeep {K : PySem.W.Frag} {H1 : Hp} {ω1 : Wd} {st1 : St} {e : E} {v : V} {d : D} {xs : List D} {gs : List Gd} (s1 : Sim K H1 ω1 st1) (r : RepE K H1 ω1 e v d) (h : seqOf st1 d = some (xs, gs)) :
    ∃ a, v = .ref a ∧ SeqIn K H1 ω1 (isTup d) a xs ∧ ∀ H ω st env, RelX e.isO H1 ω1 H ω → Sim K H ω st → gdsOk env st gs = true → SeqIn K H ω (isTup d) a xs := by
  cases d with
  | tup ds =>
    cases h
    have ho : e.isO = false := by
      cases he : e.isO with
      | false => rfl
      | true =>
        unfold RepE at r
        rw [if_pos he] at r
        obtain ⟨_, _, _, _, z, _⟩ := r
        cases z
    have r := r.rep ho
    simp only [Rep] at r
    obtain ⟨a, vs, rfl, h1, h2, h3⟩ := r
    have mk : ∀ {H ω}, TupAt K H ω a vs → Reps K H ω vs xs → SeqIn K H ω true a xs := fun x y => ⟨vs, x.sq, y⟩
    exact ⟨a, rfl, mk h1 h3, fun H ω st env x _ _ => mk (h1.wext x.w) (Reps.wext x.w _ h3)⟩
  | lst ds =>
    cases h
    cases he : e.isO with
    | true =>
      unfold RepE at r
      rw [if_pos he] at r
      obtain ⟨a, vs, ds', rfl, z, h3, h4, h5, h6⟩ := r
      cases z
      exact ⟨a, rfl, ⟨vs, .inl (.inl h3), h6⟩, fun H ω st env x _ _ => ⟨vs, .inl (.inl ((show Ext H1 ω1 H ω from x).keep _ _ h3 h4)), Reps.wext x.w _ h6⟩⟩
    | false =>
      have r := r.rep he
      simp only [Rep] at r
      obtain ⟨a, vs, rfl, h1, h2, h3⟩ := r
      have mk : ∀ {H ω}, LstAt H ω a vs → Reps K H ω vs xs → SeqIn K H ω false a xs := fun x y => ⟨vs, x.sq, y⟩
      exact ⟨a, rfl, mk h1 h3, fun H ω st env x _ _ => mk (h1.wext x.w) (Reps.wext x.w _ h3)⟩
  | scr ns =>
    cases h
    have ho : e.isO = false := by
      cases he : e.isO with
      | false => rfl
      | true =>
        unfold RepE at r
        rw [if_pos he] at r
        obtain ⟨_, _, _, _, z, _⟩ := r
        cases z
    have r := r.rep ho
    simp only [Rep] at r
    obtain ⟨a, rfl, h1, h2⟩ := r
    have mk : ∀ {H ω}, ScrAt K H ω a (ns.map .int) → SeqIn K H ω false a (ns.map .int) := fun x => ⟨_, x.sq, Reps.ints ns⟩
    exact ⟨a, rfl, mk h1, fun H ω st env x _ _ => mk (h1.wext x.w)⟩
  | ref n =>
    have ho : e.isO = false := by
      cases he : e.isO with
      | false => rfl
      | true =>
        unfold RepE at r
        rw [if_pos he] at r
        obtain ⟨_, _, _, _, z, _⟩ := r
        cases z
    have r := r.rep ho
    simp only [Rep] at r
    obtain ⟨a, h1, rfl⟩ := r
    simp only [seqOf] at h
    have look : ∀ {H ω st}, Sim K H ω st → ω.φ[n]? = some a → st[n]? = some (.lst xs) → SeqIn K H ω false a xs := fun s ha hs => by
      obtain ⟨a', ha', vs, hv, _, hr⟩ := s.cell n _ hs
      rw [ha] at ha'
      cases ha'
      exact ⟨vs, .inl (.inl hv), hr⟩
    cases hc : st1[n]? with
    | none => rw [hc] at h; cases h
    | some cc =>
      cases cc with
      | dct kvs => rw [hc] at h; cases h
      | lst ys =>
        rw [hc] at h
        cases h
        refine ⟨a, rfl, look s1 h1 hc, fun H ω st env x s g => look s (x.w.at h1) ?_⟩
        simpa [gdsOk, Gd.ok] using g
  | _ => cases h

/-- J walks ds -/
def WalksR (K : PySem.W.Frag) (o : Bool) (J : L2.It) (ds : List D) (gs : List Gd) (H0 : Hp) (ω0 : Wd) : Prop :=
  ∀ (H : Hp) (ω : Wd) (st : St) (env : Env), RelX o H0 ω0 H ω → Sim K H ω st → gdsOk env st gs = true →
    (∀ i, i < ds.length → J.go i H) ∧ J.stop ds.length H ∧ ∀ i d, ds[i]? = some d → ∀ x H', J.yld i H x H' → ∃ ω', Ext H ω H' ω' ∧ Sim K H' ω' st ∧ Rep K H' ω' x d
section
variable {K : PySem.W.Frag} {o : Bool} {ds es : List D} {gs hs : List Gd} {H0 : Hp} {ω0 : Wd} {a b : Addr}
theorem walksL (h : ∀ H ω st env, RelX o H0 ω0 H ω → Sim K H ω st → gdsOk env st gs = true → SeqIn K H ω false a ds) : WalksR K o (Itl K a) ds gs H0 ω0 := fun H ω st env x s g => by
  obtain ⟨vs, hq, hr⟩ := h H ω st env x s g
  simp only [Bool.false_eq_true, if_false] at hq
  refine ⟨fun i hi => ?_, ⟨vs, hq, Nat.le_of_eq hr.length⟩, fun i d hd y H' yl => ?_⟩
  · obtain ⟨v, h1, _⟩ := hr.get (List.getElem?_eq_getElem hi)
    exact ⟨vs, v, hq, h1⟩
  · obtain ⟨v, h1, h2⟩ := hr.get hd
    obtain ⟨rfl, hy⟩ := yl
    have := hy vs hq
    rw [h1] at this
    cases this
    exact ⟨ω, Ext.refl _ _, s, h2⟩
theorem walksT (h : ∀ H ω st env, RelX o H0 ω0 H ω → Sim K H ω st → gdsOk env st gs = true → SeqIn K H ω true a ds) : WalksR K o (Itt K a) ds gs H0 ω0 := fun H ω st env x s g => by
  obtain ⟨vs, hq, hr⟩ := h H ω st env x s g
  simp only [if_true] at hq
  refine ⟨fun i hi => ?_, ⟨vs, hq, Nat.le_of_eq hr.length⟩, fun i d hd y H' yl => ?_⟩
  · obtain ⟨v, h1, _⟩ := hr.get (List.getElem?_eq_getElem hi)
    exact ⟨vs, v, hq, h1⟩
  · obtain ⟨v, h1, h2⟩ := hr.get hd
    obtain ⟨rfl, hy⟩ := yl
    have := hy vs hq
    rw [h1] at this
    cases this
    exact ⟨ω, Ext.refl _ _, s, h2⟩
theorem newPair {H : Hp} {ω : Wd} {st : St} {p : Addr} {u v : V} {d e : D} (s : Sim K H ω st) (hp : H p = none) (r1 : Rep K H ω u d) (r2 : Rep K H ω v e) : ∃ ω', Ext H ω (upd H p (.tup [u, v])) ω' ∧ Sim K (upd H p (.tup [u, v])) ω' st ∧ Rep K (upd H p (.tup [u, v])) ω' (.ref p) (.tup [d, e]) :=
  ⟨ω, Ext.updN s hp, s.updN hp, Rep.newTup s hp (by show 2 ≤ sizeLine; decide) (by simp only [Reps]; exact ⟨r1, r2, trivial⟩)⟩
theorem walksE (t : Bool) (h : ∀ H ω st env, RelX o H0 ω0 H ω → Sim K H ω st → gdsOk env st gs = true → SeqIn K H ω t a ds) : WalksR K o (if t = true then IteT K a else Ite K a) (ds.mapIdx fun i u => .tup [.int i, u]) gs H0 ω0 := fun H ω st env x s g => by
  obtain ⟨vs, hq, hr⟩ := h H ω st env x s g
  have item : ∀ (i : Nat) (d : D), (ds.mapIdx fun i u => D.tup [.int i, u])[i]? = some d → ∃ u v, d = .tup [.int i, u] ∧ vs[i]? = some v ∧ Rep K H ω v u := fun i d hd => by
    rw [List.getElem?_mapIdx] at hd
    cases hu : ds[i]? with
    | none => rw [hu] at hd; cases hd
    | some u =>
      rw [hu] at hd
      cases hd
      obtain ⟨v, h1, h2⟩ := hr.get hu
      exact ⟨u, v, rfl, h1, h2⟩
  have some_at : ∀ i, i < (ds.mapIdx fun i u => D.tup [.int i, u]).length → ∃ v, vs[i]? = some v := fun i hi => by
    rw [List.length_mapIdx] at hi
    obtain ⟨v, h1, _⟩ := hr.get (List.getElem?_eq_getElem hi)
    exact ⟨v, h1⟩
  cases t with
  | true =>
    simp only [if_true] at hq ⊢
    refine ⟨fun i hi => let ⟨v, hv⟩ := some_at i hi; ⟨vs, v, hq, hv⟩, ⟨vs, hq, by rw [List.length_mapIdx]; exact hr.length⟩, fun i d hd y H' yl => ?_⟩
    obtain ⟨u, v, rfl, hv, hu⟩ := item i d hd
    obtain ⟨p, w, rfl, hp, rfl, hw⟩ := yl
    have := hw vs hq
    rw [hv] at this
    cases this
    exact newPair s hp (by simp only [Rep]) hu
  | false =>
    simp only [Bool.false_eq_true, if_false] at hq ⊢
    refine ⟨fun i hi => let ⟨v, hv⟩ := some_at i hi; ⟨vs, v, hq, hv⟩, ⟨vs, hq, by rw [List.length_mapIdx]; exact Nat.le_of_eq hr.length⟩, fun i d hd y H' yl => ?_⟩
    obtain ⟨u, v, rfl, hv, hu⟩ := item i d hd
    obtain ⟨p, w, rfl, hp, rfl, hw⟩ := yl
    have := hw vs hq
    rw [hv] at this
    cases this
    exact newPair s hp (by simp only [Rep]) hu
theorem walksZ (t : Bool) (h : ∀ H ω st env, RelX o H0 ω0 H ω → Sim K H ω st → gdsOk env st gs = true → SeqIn K H ω t a ds ∧ SeqIn K H ω t b es) : WalksR K o (if t = true then RZ.ItzT K a b else L2.Itz K a b) (List.zipWith (fun u v => .tup [u, v]) ds es) gs H0 ω0 := fun H ω st env x s g => by
  obtain ⟨⟨vs, hq, hr⟩, ⟨ws, hq2, hr2⟩⟩ := h H ω st env x s g
  have item : ∀ (i : Nat) (d : D), (List.zipWith (fun u v => D.tup [u, v]) ds es)[i]? = some d → ∃ u u2 v v2, d = .tup [u, u2] ∧ vs[i]? = some v ∧ ws[i]? = some v2 ∧ Rep K H ω v u ∧ Rep K H ω v2 u2 := fun i d hd => by
    rw [List.getElem?_zipWith] at hd
    cases hu : ds[i]? with
    | none => rw [hu] at hd; cases hd
    | some u =>
      cases hu2 : es[i]? with
      | none => rw [hu, hu2] at hd; cases hd
      | some u2 =>
        rw [hu, hu2] at hd
        cases hd
        obtain ⟨v, h1, h2⟩ := hr.get hu
        obtain ⟨v2, h3, h4⟩ := hr2.get hu2
        exact ⟨u, u2, v, v2, rfl, h1, h3, h2, h4⟩
  have some_at : ∀ i, i < (List.zipWith (fun u v => D.tup [u, v]) ds es).length → ∃ v w, vs[i]? = some v ∧ ws[i]? = some w := fun i hi => by
    rw [List.length_zipWith] at hi
    obtain ⟨v, h1, _⟩ := hr.get (List.getElem?_eq_getElem (by omega : i < ds.length))
    obtain ⟨w, h2, _⟩ := hr2.get (List.getElem?_eq_getElem (by omega : i < es.length))
    exact ⟨v, w, h1, h2⟩
  have e1 := hr.length
  have e2 := hr2.length
  cases t with
  | true =>
    simp only [if_true] at hq hq2 ⊢
    refine ⟨fun i hi => let ⟨v, w, hv, hw⟩ := some_at i hi; ⟨vs, ws, v, w, hq, hq2, hv, hw⟩, ⟨vs, ws, hq, hq2, by rw [List.length_zipWith]; omega⟩, fun i d hd y H' yl => ?_⟩
    obtain ⟨u, u2, v, v2, rfl, hv, hv2, hu, hu2⟩ := item i d hd
    obtain ⟨p, w, w2, rfl, hp, rfl, hw, hw2⟩ := yl
    have z1 := hw vs hq
    have z2 := hw2 ws hq2
    rw [hv] at z1
    rw [hv2] at z2
    cases z1
    cases z2
    exact newPair s hp hu hu2
  | false =>
    simp only [Bool.false_eq_true, if_false] at hq hq2 ⊢
    refine ⟨fun i hi => let ⟨v, w, hv, hw⟩ := some_at i hi; ⟨vs, ws, v, w, hq, hq2, hv, hw⟩, ⟨vs, ws, hq, hq2, by rw [List.length_zipWith]; omega⟩, fun i d hd y H' yl => ?_⟩
    obtain ⟨u, u2, v, v2, rfl, hv, hv2, hu, hu2⟩ := item i d hd
    obtain ⟨p, w, w2, rfl, hp, rfl, hw, hw2⟩ := yl
    have z1 := hw vs hq
    have z2 := hw2 ws hq2
    rw [hv] at z1
    rw [hv2] at z2
    cases z1
    cases z2
    exact newPair s hp hu hu2
theorem walksR {lo : Int} {n : Nat} : WalksR K o (Itr lo n) (rangeL lo n) gs H0 ω0 := fun H ω st env x s g => by
  have hl : (rangeL lo n).length = n := by simp [rangeL]
  rw [hl]
  refine ⟨fun i hi => hi, Nat.le_refl _, fun i d hd y H' yl => ?_⟩
  obtain ⟨rfl, rfl⟩ := yl
  refine ⟨ω, Ext.refl _ _, s, ?_⟩
  simp only [rangeL, List.getElem?_map] at hd
  cases hr : (List.range n)[i]? with
  | none => rw [hr] at hd; cases hd
  | some j =>
    rw [hr] at hd
    cases hd
    obtain ⟨h1, h2⟩ := List.getElem?_eq_some_iff.mp hr
    rw [List.getElem_range] at h2
    subst h2
    simp only [Rep]
theorem walksS {z : List Nat} : WalksR K o (Its (toS z)) (z.map fun c => .str [c]) gs H0 ω0 := fun H ω st env x s g => by
  have hl : (toS z).cps.size = z.length := by simp [toS]
  refine ⟨fun i hi => ?_, ?_, fun i d hd y H' yl => ?_⟩
  · rw [List.length_map] at hi
    show i < (toS z).cps.size
    rw [hl]; exact hi
  · show (toS z).cps.size ≤ _
    rw [hl, List.length_map]
    exact Nat.le_refl _
  · obtain ⟨rfl, cc, hc, rfl⟩ := yl
    refine ⟨ω, Ext.refl _ _, s, ?_⟩
    rw [List.getElem?_map] at hd
    cases hz : z[i]? with
    | none => rw [hz] at hd; cases hd
    | some q =>
      rw [hz] at hd
      cases hd
      have : (toS z).cps[i]? = some q := by simpa [toS] using hz
      rw [this] at hc
      cases hc
      simp only [Rep]
      exact ⟨rfl, by show 1 ≤ sizeLine; decide⟩
end
end Ev

set_option Elab.async false
set_option linter.all false
set_option maxRecDepth 100000
/-! Iterators as the tree's; comprehensions. -/
namespace Ev
open PySem PySem.Spec PyProof.Rows L2

def It.isO : Ev.It → Bool
  | .va e => e.isO
  | .rg1 e => false
  | .rg2 _ _ => false
  | .zp a b => a.isO || b.isO
  | .en a => a.isO
  | .st a => false
section
variable (X : Cx) (T : Nm) (G : Pg) (k : Nat) (W : WX)
def PostIt (o : Bool) (σ : L2.St) (Z : L2.It → Hp → Prop) (H : Hp) (ω : Wd) : R (List D × List Gd) → Prop
  | .ok p st => ∀ J H' ω', Ext H ω H' ω' → Sim X.K H' ω' st → WalksR X.K o J p.1 p.2 H' ω' → Z J H'
  | .ex x st => ∀ c da H' ω', Ext H ω H' ω' → Sim X.K H' ω' st → XRep X.K X.mg T H' ω' c da x → W c da σ H'
  | .no => False
def tIt (it : Ev.It) : TI := fun σ H Z => ∃ ω st env H0, Sim X.K H ω st ∧ REnv X.K H0 H ω σ env ∧ PostIt X T W it.isO σ Z H ω (evIt (callN G k) G.gl env st it)
end
section
variable {X : Cx} {T : Nm} {G : Pg} {k : Nat} {W : WX} {c : Cn} {kw : List Kw} {pos p1 p2 : Pos} {p q r tg : Expr} {a b e : E} {σ : L2.St} {H H' : Hp} {ω ω' : Wd} {o : Bool} {Z : L2.It → Hp → Prop}
theorem PostIt.mono (x : Ext H ω H' ω') {r : R (List D × List Gd)} (h : PostIt X T W o σ Z H ω r) : PostIt X T W o σ Z H' ω' r := by
  cases r with
  | ok d st => exact fun v H2 ω2 e2 => h v H2 ω2 (x.trans e2)
  | ex y st => exact fun c da H2 ω2 e2 => h c da H2 ω2 (x.trans e2)
  | no => exact h
theorem stepI {r : R D} {f : D → St → R (List D × List Gd)} {Q1 : VK} (h : PostIt X T W o σ Z H ω (r.bind f))
    (q : ∀ d st1 v H1 ω1, Ext H ω H1 ω1 → Sim X.K H1 ω1 st1 → RepE X.K H1 ω1 a v d → PostIt X T W o σ Z H1 ω1 (f d st1) → Q1 v H1) : PostE X T W σ Q1 H ω a r := by
  cases r with
  | ok d st => exact fun v H1 ω1 e1 s1 r1 => q d st v H1 ω1 e1 s1 r1 (PostIt.mono e1 h)
  | ex y st => exact h
  | no => exact h
theorem _root_.L2.PI.weak {X : Cx} {e i : Expr} {t t' : TI} (h : PI X e i t) (q : ∀ σ H Q, t' σ H Q → t σ H Q) : PI X e i t' := ⟨fun pins s σ H Q I hw => h.run pins s σ H Q I (q σ H Q hw)⟩
theorem seqSq {K : PySem.W.Frag} {H : Hp} {ω : Wd} {t : Bool} {a : Addr} {ds : List D} (h : SeqIn K H ω t a ds) : ∃ vs, if t = true then SqT K H a vs else SqL K H a vs := let ⟨vs, h, _⟩ := h; ⟨vs, h⟩
theorem piVa (hp : PE X p (tEv X T G k W e)) : PI X tg p (tIt X T G k W (.va e)) :=
  (pi_seq hp).weak fun σ H R ⟨ω, st, env, H0, sim, re, h⟩ => by
    simp only [evIt] at h
    refine ⟨ω, st, env, H0, sim, re, stepI h fun d st1 v H1 ω1 e1 s1 r1 h => ?_⟩
    cases hs : seqOf st1 d with
    | none => rw [hs] at h; exact h.elim
    | some pq =>
      obtain ⟨xs, gs⟩ := pq
      rw [hs] at h
      obtain ⟨a, rfl, hq, hk⟩ := seqKeep s1 r1 hs
      have hk' : ∀ H ω st env, RelX e.isO H1 ω1 H ω → Sim X.K H ω st → gdsOk env st (gs ++ guardOf e d) = true → SeqIn X.K H ω (isTup d) a xs := fun H ω st env x s g => hk H ω st env x s (gds_app g).1
      cases ht : isTup d with
      | true =>
        rw [ht] at hq hk'
        obtain ⟨vs, hv, _⟩ := hq
        exact ⟨a, vs, rfl, .inr ⟨by simpa using hv, h _ H1 ω1 (Ext.refl _ _) s1 (walksT hk')⟩⟩
      | false =>
        rw [ht] at hq hk'
        obtain ⟨vs, hv, _⟩ := hq
        exact ⟨a, vs, rfl, .inl ⟨by simpa using hv, h _ H1 ω1 (Ext.refl _ _) s1 (walksL hk')⟩⟩
theorem okRange_iff {i : Int} (h : okRange i = true) : -(2 ^ 62) ≤ i ∧ i < 2 ^ 62 := by
  unfold okRange at h
  simpa using h
theorem piRg1 (ok : XOk X T G kw k c) (hg : Gl X "range") (hp : PE X p (tEv X T G k W e)) (hn : e.isO = false) (h1 : nst p = true) : PI X tg (.Call (.Name "range" p1) [p] [] pos) (tIt X T G k W (.rg1 e)) :=
  (pi_range1 hg (ok.g.bt "range" (by decide +kernel)) (pa_cons hp pa_nil (star_cons h1)) (star_cons h1)).weak fun σ H R ⟨ω, st, env, H0, sim, re, h⟩ => by
    simp only [evIt] at h
    refine ⟨ω, st, env, H0, sim, re, stepI h fun d st1 v H1 ω1 e1 s1 r1 h => ?_⟩
    have r1 := r1.rep hn
    cases d with
    | int j =>
      simp only at h
      split at h
      · rename_i hj
        obtain ⟨q1, q2⟩ := okRange_iff hj
        simp only [Rep] at r1
        subst r1
        exact ⟨j, rfl, q1, q2, h _ H1 ω1 (Ext.refl _ _) s1 walksR⟩
      · exact h.elim
    | _ => exact h.elim
theorem piRg2 (ok : XOk X T G kw k c) (hg : Gl X "range") (hp : PE X p (tEv X T G k W a)) (hq : PE X q (tEv X T G k W b)) (hn : a.isO = false) (hm : b.isO = false) (h1 : nst p = true) (h2 : nst q = true) : PI X tg (.Call (.Name "range" p1) [p, q] [] pos) (tIt X T G k W (.rg2 a b)) :=
  (pi_range2 hg (ok.g.bt "range" (by decide +kernel)) (pa_cons hp (pa_cons hq pa_nil (star_cons h2)) (star_cons h1)) ((star_cons h1).trans (by rw [star_cons h2]; rfl)) ((star_cons h2).trans rfl)).weak fun σ H R ⟨ω, st, env, H0, sim, re, h⟩ => by
    simp only [evIt] at h
    refine ⟨ω, st, env, H0, sim, re, stepI h fun d st1 v H1 ω1 e1 s1 r1 h => ⟨ω1, st1, env, H0, s1, re.ext e1, stepI h fun d2 st2 v2 H2 ω2 e2 s2 r2 h => ?_⟩⟩
    have r1 := r1.rep hn
    have r2 := r2.rep hm
    cases d with
    | int i =>
      cases d2 with
      | int j =>
        simp only at h
        split at h
        · rename_i hj
          rw [Bool.and_eq_true] at hj
          obtain ⟨q1, q2⟩ := okRange_iff hj.1
          obtain ⟨q3, q4⟩ := okRange_iff hj.2
          simp only [Rep] at r1 r2
          subst r1
          subst r2
          exact ⟨i, j, rfl, ⟨q1, q2, q3, q4⟩, h _ H2 ω2 (Ext.refl _ _) s2 walksR⟩
        · exact h.elim
      | _ => exact h.elim
    | _ => exact h.elim
theorem piEn {elts : List Expr} {kk : Nat} {tpos : Pos} (ok : XOk X T G kw k c) (hg : Gl X "enumerate") (hp : PE X p (tEv X T G k W e)) (h1 : nst p = true) : PI X (.Tuple elts kk tpos) (.Call (.Name "enumerate" p1) [p] [] pos) (tIt X T G k W (.en e)) :=
  (pi_enm hg (ok.g.bt "enumerate" (by decide +kernel)) (pa_cons hp pa_nil (star_cons h1)) (star_cons h1)).weak fun σ H R ⟨ω, st, env, H0, sim, re, h⟩ => by
    simp only [evIt] at h
    refine ⟨ω, st, env, H0, sim, re, stepI h fun d st1 v H1 ω1 e1 s1 r1 h => ?_⟩
    cases hs : seqOf st1 d with
    | none => rw [hs] at h; exact h.elim
    | some pq =>
      obtain ⟨xs, gs⟩ := pq
      simp only [hs] at h
      obtain ⟨a, rfl, hq, hk⟩ := seqKeep s1 r1 hs
      have hk' : ∀ H ω st env, RelX e.isO H1 ω1 H ω → Sim X.K H ω st → gdsOk env st (gs ++ guardOf e d) = true → SeqIn X.K H ω (isTup d) a xs := fun H ω st env x s g => hk H ω st env x s (gds_app g).1
      have w := walksE (isTup d) hk'
      cases ht : isTup d with
      | true =>
        rw [ht] at hq w
        obtain ⟨vs, hv, _⟩ := hq
        exact ⟨a, vs, rfl, .inr ⟨by simpa using hv, h _ H1 ω1 (Ext.refl _ _) s1 w⟩⟩
      | false =>
        rw [ht] at hq w
        obtain ⟨vs, hv, _⟩ := hq
        exact ⟨a, vs, rfl, .inl ⟨by simpa using hv, h _ H1 ω1 (Ext.refl _ _) s1 w⟩⟩
theorem piZp {elts : List Expr} {kk : Nat} {tpos : Pos} (ok : XOk X T G kw k c) (hg : Gl X "zip") (hp : PE X p (tEv X T G k W a)) (hq : PE X q (tEv X T G k W b)) (h1 : nst p = true) (h2 : nst q = true) : PI X (.Tuple elts kk tpos) (.Call (.Name "zip" p1) [p, q] [] pos) (tIt X T G k W (.zp a b)) :=
  (RZ.pi_zipA hg (ok.g.bt "zip" (by decide +kernel)) (pa_cons hp (pa_cons hq pa_nil (star_cons h2)) (star_cons h1)) (star_cons h1) (back_any (by simp [h2]))).weak fun σ H R ⟨ω, st, env, H0, sim, re, h⟩ => by
    simp only [evIt] at h
    refine ⟨ω, st, env, H0, sim, re, stepI h fun d st1 v H1 ω1 e1 s1 r1 h => ⟨ω1, st1, env, H0, s1, re.ext e1, stepI h fun d2 st2 v2 H2 ω2 e2 s2 r2 h => ?_⟩⟩
    have r1 := r1.ext e2
    by_cases hb : (isTup d != isTup d2) = true
    · rw [if_pos hb] at h; exact h.elim
    · rw [if_neg hb] at h
      have hb : isTup d = isTup d2 := by simpa using hb
      cases hs : seqOf st2 d with
      | none => rw [hs] at h; exact h.elim
      | some pq =>
        cases hs2 : seqOf st2 d2 with
        | none => rw [hs, hs2] at h; exact h.elim
        | some pq2 =>
          obtain ⟨xs, gs⟩ := pq
          obtain ⟨ys, gs2⟩ := pq2
          simp only [hs, hs2] at h
          obtain ⟨x, rfl, hq, hk⟩ := seqKeep s2 r1 hs
          obtain ⟨y, rfl, hq2, hk2⟩ := seqKeep s2 r2 hs2
          rw [← hb] at hq2 hk2
          have w := walksZ (K := X.K) (o := (It.zp a b).isO) (gs := gs ++ guardOf a d ++ (gs2 ++ guardOf b d2)) (H0 := H2) (ω0 := ω2) (isTup d) (a := x) (b := y) (ds := xs) (es := ys) fun H ω st env z s g =>
            ⟨hk H ω st env (z.less fun q => by simp [It.isO, q]) s (gds_app (gds_app g).1).1, hk2 H ω st env (z.less fun q => by simp [It.isO, q]) s (gds_app (gds_app g).2).1⟩
          cases ht : isTup d with
          | true =>
            rw [ht] at hq hq2 w
            obtain ⟨vs, hv, _⟩ := hq
            obtain ⟨vs2, hv2, _⟩ := hq2
            exact ⟨x, y, vs, vs2, rfl, .inr ⟨by simpa using hv, by simpa using hv2, h _ H2 ω2 (Ext.refl _ _) s2 w⟩⟩
          | false =>
            rw [ht] at hq hq2 w
            obtain ⟨vs, hv, _⟩ := hq
            obtain ⟨vs2, hv2, _⟩ := hq2
            exact ⟨x, y, vs, vs2, rfl, .inl ⟨by simpa using hv, by simpa using hv2, h _ H2 ω2 (Ext.refl _ _) s2 w⟩⟩
theorem piSt (hp : PE X p (tEv X T G k W e)) (hn : e.isO = false) : PI X tg p (tIt X T G k W (.st e)) :=
  (pi_str hp).weak fun σ H R ⟨ω, st, env, H0, sim, re, h⟩ => by
    simp only [evIt] at h
    refine ⟨ω, st, env, H0, sim, re, stepI h fun d st1 v H1 ω1 e1 s1 r1 h => ?_⟩
    have r1 := r1.rep hn
    cases d with
    | str z =>
      simp only [Rep] at r1
      obtain ⟨rfl, _⟩ := r1
      exact ⟨_, rfl, h _ H1 ω1 (Ext.refl _ _) s1 walksS⟩
    | _ => exact h.elim
end

/-! ### targets -/
mutual
def Tg.slots : Tg → List Nat
  | .nm i => [i]
  | .tp ts => Tg.slotss ts
def Tg.slotss : List Tg → List Nat
  | [] => []
  | t :: ts => t.slots ++ Tg.slotss ts
end
def tG (K : PySem.W.Frag) (tg : Tg) : TG := fun v σ H Q => ∃ ω d env env' H0, Rep K H ω v d ∧ REnv K H0 H ω σ env ∧ asgTg tg d env = some env' ∧
  ∀ σ', REnv K H0 H ω σ' env' → (∀ vs, (∀ i ∈ tg.slots, i ∈ vs) → L2.wipe σ' vs = L2.wipe σ vs) → Q σ' H
def tGs (K : PySem.W.Frag) (ts : List Tg) : TGs := fun vs σ H Q => ∃ ω ds env env' H0, Reps K H ω vs ds ∧ REnv K H0 H ω σ env ∧ asgTgs ts ds env = some env' ∧
  ∀ σ', REnv K H0 H ω σ' env' → (∀ vs, (∀ i ∈ Tg.slotss ts, i ∈ vs) → L2.wipe σ' vs = L2.wipe σ vs) → Q σ' H
theorem wipe_set {σ : L2.St} {i : Nat} {x : Option V} : ∀ {vs : List Nat}, i ∈ vs → L2.wipe (σ.set i x) vs = L2.wipe σ vs
  | v :: vs, h => by
    by_cases hi : i ∈ vs
    · show (L2.wipe (σ.set i x) vs).set v none = (L2.wipe σ vs).set v none
      rw [wipe_set hi]
    · have e : i = v := (List.mem_cons.mp h).resolve_right hi
      subst e
      show (L2.wipe (σ.set i x) vs).set i none = (L2.wipe σ vs).set i none
      have : ∀ {ws : List Nat}, i ∉ ws → L2.wipe (σ.set i x) ws = (L2.wipe σ ws).set i x := by
        intro ws
        induction ws with
        | nil => intro _; rfl
        | cons w ws ih =>
          intro hn
          simp only [List.mem_cons, not_or] at hn
          show (L2.wipe (σ.set i x) ws).set w none = ((L2.wipe σ ws).set w none).set i x
          rw [ih hn.2, List.set_comm _ _ hn.1]
      rw [this hi, List.set_set]
section
variable (sc : Scope) (fn : Str → Bool) (N : List Str)
/-- a name that may be stored -/
def locB (x : Str) : Bool := (match sc.names.lookup x with | some .local => true | some .cell => true | _ => false) && (fn x || decide (sc.names.lookup x = some .local))
mutual
def chkTg : Tg → Expr → Bool
  | .nm i, .Name x _ => decide (N[i]? = some x) && locB sc fn x
  | .tp ts, .Tuple ps _ _ => chkTgs ts ps
  | _, _ => false
def chkTgs : List Tg → List Expr → Bool
  | [], [] => true
  | t :: ts, p :: ps => chkTg t p && chkTgs ts ps
  | _, _ => false
end
end
theorem locB_ok {sc : Scope} {fn : Str → Bool} {x : Str} (h : locB sc fn x = true) : Loc sc x ∧ (fn x = true ∨ sc.names.lookup x = some .local) := by
  unfold locB at h
  rw [Bool.and_eq_true, Bool.or_eq_true, decide_eq_true_eq] at h
  refine ⟨?_, h.2⟩
  have h1 := h.1
  split at h1 <;> first | (rename_i q; exact .inl q) | (rename_i q; exact .inr q) | cases h1
mutual
theorem asgTg_len : ∀ (t : Tg) {d : D} {env env' : Env}, asgTg t d env = some env' → env'.length = env.length
  | .nm i, d, env, env', h => by
    simp only [asgTg] at h
    split at h
    · cases h; simp
    · cases h
  | .tp ts, d, env, env', h => by
    simp only [asgTg] at h
    split at h
    · exact asgTgs_len1 ts h
    · cases h
theorem asgTgs_len1 : ∀ (ts : List Tg) {ds : List D} {env env' : Env}, asgTgs ts ds env = some env' → env'.length = env.length
  | [], ds, env, env', h => by
    cases ds with
    | nil => simp only [asgTgs] at h; cases h; rfl
    | cons d ds => simp [asgTgs] at h
  | t :: ts, ds, env, env', h => by
    cases ds with
    | nil => simp [asgTgs] at h
    | cons d ds =>
      simp only [asgTgs] at h
      split at h
      · rename_i e1 he
        rw [asgTgs_len1 ts h, asgTg_len t he]
      · cases h
end
theorem asgTgs_len : ∀ (ts : List Tg) {ds : List D} {env env' : Env}, asgTgs ts ds env = some env' → ds.length = ts.length
  | [], ds, env, env', h => by
    cases ds with
    | nil => rfl
    | cons d ds => simp [asgTgs] at h
  | t :: ts, ds, env, env', h => by
    cases ds with
    | nil => simp [asgTgs] at h
    | cons d ds =>
      simp only [asgTgs] at h
      split at h
      · simp [asgTgs_len ts h]
      · cases h
def tgOk : Expr → Bool
  | .Name _ _ => true
  | .Tuple _ _ _ => true
  | .Subscript _ _ _ => true
  | _ => false
theorem asg_cons {e : Expr} {es : List Expr} {env : PySem.Env} (h : tgOk e = true) : assignEach (e :: es) env = (false, assign e env) :: assignEach es env := by
  cases e <;> first | rfl | cases h
theorem asg_all {env : PySem.Env} : ∀ {es : List Expr}, es.all tgOk = true → (assignEach es env).length = es.length ∧ (assignEach es env).findIdx? (·.1) = none
  | [], _ => ⟨rfl, rfl⟩
  | e :: es, h => by
    simp only [List.all_cons, Bool.and_eq_true] at h
    rw [asg_cons h.1]
    obtain ⟨h1, h2⟩ := asg_all (env := env) h.2
    refine ⟨by simp [h1], ?_⟩
    rw [List.findIdx?_cons]
    simp [h2]
section
variable {X : Cx} {T : Nm} {G : Pg} {k : Nat} {c : Cn} {kw : List Kw}
mutual
theorem pgTg (ok : XOk X T G kw k c) : ∀ (t : Tg) {p : Expr}, chkTg c.sc c.fn c.N t p = true → PG X p (tG X.K t) ∧ tgOk p = true
  | .nm i, p, h => by
    cases p with
    | Name x pos =>
      simp only [chkTg, Bool.and_eq_true, decide_eq_true_eq] at h
      obtain ⟨h1, h2⟩ := h
      obtain ⟨h2, h3⟩ := locB_ok h2
      have g := pg_name (X := X) (i := i) (x := x) (pos := pos) (by rw [ok.N]; exact ok.nd) (by rw [ok.N]; exact h1) (by rw [ok.sc]; exact h2) (by rw [ok.fn, ok.sc]; exact h3)
      refine ⟨⟨fun pins s σ H v u Q I rv q => g.run pins s σ H v u Q I rv ?_⟩, rfl⟩
      obtain ⟨ω, d, env, env', H0, r, re, ha, hq⟩ := q
      simp only [asgTg] at ha
      split at ha
      · rename_i hi
        cases ha
        exact hq _ (re.setV hi r) fun vs hv => wipe_set (hv i (by simp [Tg.slots]))
      · cases ha
    | _ => simp [chkTg] at h
  | .tp ts, p, h => by
    cases p with
    | Tuple ps kk pos =>
      simp only [chkTg] at h
      obtain ⟨g, hl, hall⟩ := pgTgs ok ts h
      obtain ⟨h1, h2⟩ := asg_all (env := X.env) hall
      have g := pg_tup (X := X) (k := kk) (pos := pos) (n := ts.length) ok.calm g (h1.trans hl) h2
      refine ⟨⟨fun pins s σ H v u Q I rv q => g.run pins s σ H v u Q I rv ?_⟩, rfl⟩
      obtain ⟨ω, d, env, env', H0, r, re, ha, hq⟩ := q
      simp only [asgTg] at ha
      split at ha
      · rename_i ds
        simp only [Rep] at r
        obtain ⟨a, vs, rfl, ht, hz, hr⟩ := r
        exact ⟨a, vs, rfl, ht.sq, by rw [hr.length, asgTgs_len ts ha], ω, ds, env, env', H0, hr, re, ha, fun σ' re' hw => hq σ' re' fun vs hv => hw vs fun i hi => hv i (by simpa [Tg.slots] using hi)⟩
      · cases ha
    | _ => simp [chkTg] at h
theorem pgTgs (ok : XOk X T G kw k c) : ∀ (ts : List Tg) {ps : List Expr}, chkTgs c.sc c.fn c.N ts ps = true → PGs X ps (tGs X.K ts) ∧ ps.length = ts.length ∧ ps.all tgOk = true
  | [], ps, h => by
    cases ps with
    | nil =>
      refine ⟨⟨fun pins s σ H vs us Q I rv q => pgs_nil.run pins s σ H vs us Q I rv ?_⟩, rfl, rfl⟩
      obtain ⟨ω, ds, env, env', H0, r, re, ha, hq⟩ := q
      cases ds with
      | nil =>
        simp only [asgTgs] at ha
        cases ha
        cases vs with
        | nil => exact ⟨rfl, hq σ re fun _ _ => rfl⟩
        | cons v vs => exact r.elim
      | cons d ds => simp [asgTgs] at ha
    | cons p ps => simp [chkTgs] at h
  | t :: ts, ps, h => by
    cases ps with
    | nil => simp [chkTgs] at h
    | cons p ps =>
      simp only [chkTgs, Bool.and_eq_true] at h
      obtain ⟨g1, ho⟩ := pgTg ok t h.1
      obtain ⟨g2, hl, hall⟩ := pgTgs ok ts h.2
      have g := pgs_cons g1 g2 (by rw [asg_cons ho]; rfl)
      refine ⟨⟨fun pins s σ H vs us Q I rv q => g.run pins s σ H vs us Q I rv ?_⟩, by simp [hl], by simp [ho]; simpa using hall⟩
      obtain ⟨ω, ds, env, env', H0, r, re, ha, hq⟩ := q
      cases ds with
      | nil => simp [asgTgs] at ha
      | cons d ds =>
        cases vs with
        | nil => exact r.elim
        | cons v vs =>
          simp only [Reps] at r
          simp only [asgTgs] at ha
          split at ha
          · rename_i e1 he
            exact ⟨v, vs, rfl, ω, d, env, e1, H0, r.1, re, he, fun σ' re' hw => ⟨ω, ds, e1, env', H0, r.2, re', ha, fun σ2 re2 hw2 => hq σ2 re2 fun ws hws => (hw2 ws fun i hi => hws i (by simp [Tg.slotss, hi])).trans (hw ws fun i hi => hws i (by simp [Tg.slotss, hi]))⟩⟩
          · cases ha
end
end
end Ev

set_option Elab.async false
set_option linter.all false
set_option maxRecDepth 100000
/-! List comprehensions. -/
namespace Ev
open PySem PySem.Spec PyProof.Rows L2

/-- nothing is wanted of an exception: none may come -/
def noW : WX := fun _ _ _ _ => False
theorem sub_some {α : Type} {xs : List α} {i : Nat} {ys : List α} {x : α} (h : xs.drop i = x :: ys) : xs[i]? = some x ∧ xs.drop (i + 1) = ys ∧ i < xs.length := by
  have h1 : xs[i]? = some x := by
    have := congrArg (·[0]?) h
    simpa using this
  refine ⟨h1, ?_, (List.getElem?_eq_some_iff.mp h1).1⟩
  rw [← List.drop_drop, h]
  rfl
section
variable {K : PySem.W.Frag} {H H' : Hp} {ω ω' : Wd} {st : St}
/-- a list that is neither frozen nor a cell is rewritten -/
theorem WExt.own {a : Addr} {xs ys : List V} (h : H a = some (.lst xs)) (hf : ¬ ω.F a) : WExt H ω (upd H a (.lst ys)) ω where
  pre := List.prefix_refl _
  frz := fun _ h => h
  keep := fun b o e _ q => by
    by_cases hb : b = a
    · subst hb
      rw [h] at e
      cases e
      exact q.elim (fun z => absurd z hf) fun z => absurd rfl (z xs)
    · rw [upd_ne hb]; exact e
  new := fun _ h => .inl h
  newF := fun _ h => .inl h
  stay := fun b e => by
    by_cases hb : b = a
    · subst hb; rw [upd_same]; simp
    · rw [upd_ne hb]; exact e
theorem Sim.own (s : Sim K H ω st) {a : Addr} {xs ys : List V} (h : H a = some (.lst xs)) (hn : a ∉ ω.φ) (hf : ¬ ω.F a) : Sim K (upd H a (.lst ys)) ω st :=
  ⟨s.len, s.nd, s.nF, fun b hb => (WExt.own (ys := ys) h hf).stay b (s.hF b hb), fun n c e => by
    obtain ⟨b, h1, h2⟩ := s.cell n c e
    have hb : b ≠ a := fun z => hn (by rw [← z]; exact List.mem_of_getElem? h1)
    refine ⟨b, h1, ?_⟩
    cases c with
    | lst zs =>
      obtain ⟨vs, q1, q2, q3⟩ := h2
      exact ⟨vs, by rw [upd_ne hb]; exact q1, q2, Reps.wext (WExt.own h hf) zs q3⟩
    | dct kvs =>
      obtain ⟨vs, q1, q2⟩ := h2
      refine ⟨vs, by rw [upd_ne hb]; exact q1, ?_⟩
      have : ∀ {ps : List (Key × V)} {qs : List (Key × D)}, RepK K H ω ps qs → RepK K (upd H a (.lst ys)) ω ps qs := by
        intro ps
        induction ps with
        | nil =>
          intro qs q
          cases qs with
          | nil => trivial
          | cons _ _ => exact q.elim
        | cons p ps ih =>
          intro qs q
          cases qs with
          | nil => exact q.elim
          | cons r qs =>
            simp only [RepK] at q ⊢
            exact ⟨⟨q.1.1, Rep.wext (WExt.own h hf) _ q.1.2⟩, ih q.2⟩
      exact this q2⟩
/-- a list is frozen: from now on nobody changes it -/
theorem RExt.freeze (ω : Wd) (H : Hp) (a : Addr) : RExt H ω H (ω.frz a) := ⟨List.prefix_refl _, fun _ h => .inl h, fun _ _ h _ _ => h, fun _ h => .inl h⟩
theorem RepK.rext (e : RExt H ω H' ω') : ∀ {ps : List (Key × V)} {qs : List (Key × D)}, RepK K H ω ps qs → RepK K H' ω' ps qs
  | [], [], h => h
  | p :: ps, q :: qs, h => by
    simp only [RepK] at h ⊢
    exact ⟨⟨h.1.1, Rep.rext e _ h.1.2⟩, RepK.rext e h.2⟩
  | [], _ :: _, h => h.elim
  | _ :: _, [], h => h.elim
theorem Sim.freeze (s : Sim K H ω st) {a : Addr} (h : H a ≠ none) (hn : a ∉ ω.φ) : Sim K H (ω.frz a) st :=
  ⟨s.len, s.nd, fun b hb hq => hq.elim (s.nF b hb) fun z => hn (by rw [← z]; exact hb), fun b hb => hb.elim (s.hF b) fun z => by rw [z]; exact h, fun n c e => by
    obtain ⟨b, h1, h2⟩ := s.cell n c e
    refine ⟨b, h1, ?_⟩
    cases c with
    | lst zs =>
      obtain ⟨vs, q1, q2, q3⟩ := h2
      exact ⟨vs, q1, q2, Reps.rext (RExt.freeze ω H a) zs q3⟩
    | dct kvs =>
      obtain ⟨vs, q1, q2⟩ := h2
      exact ⟨vs, q1, q2.rext (RExt.freeze ω H a)⟩⟩
theorem Ext.freeze {H0 : Hp} {ω0 : Wd} (x : Ext H0 ω0 H ω) {a : Addr} (h : H0 a = none) : Ext H0 ω0 H (ω.frz a) :=
  ⟨x.pre, fun b hb => .inl (x.frz b hb), x.keep, x.new, fun b hb => hb.elim (x.newF b) fun z => .inr (by rw [z]; exact h), x.cells⟩
/-- a list that is younger than the start is rewritten -/
theorem Ext.young {H0 : Hp} {ω0 : Wd} (x : Ext H0 ω0 H ω) {a : Addr} {o : HO} (h : H0 a = none) : Ext H0 ω0 (upd H a o) ω where
  pre := x.pre
  frz := x.frz
  keep := fun b u e n => by rw [upd_ne (ne_of_none e h)]; exact x.keep b u e n
  new := x.new
  newF := x.newF
  cells := fun b hb n => by
    by_cases e : b = a
    · subst e; exact absurd h n
    · rw [upd_ne e]; exact x.cells b hb n
end
section
variable {X : Cx} {T : Nm} {G : Pg} {k : Nat} {W : WX} {c : Cn} {kw : List Kw} {pos p1 p2 : Pos} {p q r ptg piter : Expr} {a b e elt cond : E} {it : Ev.It} {tg : Tg} {own : List Nat} {σ : L2.St} {H : Hp}
theorem noX_ok {α : Type} {r : R α} {a : α} {st : St} (h : r.noX = .ok a st) : r = .ok a st := by
  cases r with
  | ok a st => exact h
  | ex x st => cases h
  | no => cases h
theorem bind_ok' {α β : Type} {r : R α} {f : α → St → R β} {b : β} {st : St} (h : r.bind f = .ok b st) : ∃ a st1, r = .ok a st1 ∧ f a st1 = .ok b st := by
  cases r with
  | ok a st1 => exact ⟨a, st1, rfl, h⟩
  | ex x st => cases h
  | no => cases h
/-- what is wanted of the new list -/
def LcQ (X : Cx) (Q : VK) (H1 : Hp) (ω1 : Wd) (ys : List D) (st : St) : Prop :=
  ∀ D H' ω' vs, H1 D = none → Ext H1 ω1 H' ω' → Sim X.K H' ω' st → H' D = some (.lst vs) → D ∉ ω'.φ → ¬ ω'.F D → ys.length ≤ sizeLine → Reps X.K H' ω' vs ys → Q (.ref D) H'
/-- the turns -/
theorem lcTurns {env : Env} {H0 H1 : Hp} {ω1 : Wd} {Q : VK} {J : L2.It} {ds : List D} {gs : List Gd} {st1 stF : St} {ys : List D} {o : Bool} (re : REnv X.K H0 H1 ω1 σ env) (s1 : Sim X.K H1 ω1 st1) (hw : WalksR X.K o J ds gs H1 ω1) (hz : ds.length ≤ sizeLine)
    (hsl : ∀ i ∈ tg.slots, i ∈ own) (hc : cond.isO = false) (he : elt.isO = false)
    (hl : lcLoop (fun x st2 => match asgTg tg x (wipeE env own) with
      | some env1 => (ev (callN G k) G.gl env1 st2 cond).bind fun c st3 => cnd c ((ev (callN G k) G.gl env1 st3 elt).bind fun y st4 => .ok (some y) st4) (.ok none st3)
      | none => .no) gs env ds st1 = .ok ys stF)
    (hQ : LcQ X Q H1 ω1 ys stF) : ∀ A, H1 A = none → ∃ W : Nat → Nat → Hp → Prop, (∃ m, W 0 m (upd H1 A (.lst []))) ∧ ∀ i m H, W i m H →
      (J.stop i H ∧ Q (.ref A) H) ∨ (J.go i H ∧ ∃ Nx : Hp → Prop, (∀ H', Nx H' → ∃ m', m' < m ∧ W (i + 1) m' H') ∧ ∀ x H', J.yld i H x H' → tG X.K tg x (L2.wipe σ own) H' fun σ2 H2 => L2.wipe σ2 own = L2.wipe σ own ∧ tT X T G k noW cond σ2 H2 fun b H3 =>
        if b = true then tEv X T G k noW elt σ2 H3 fun y H4 => ∃ acc, H4 A = some (.lst acc) ∧ acc.length < sizeLine ∧ Nx (upd H4 A (.lst (acc ++ [y]))) else Nx H3) := by
  intro A hA
  generalize hF : (fun x st2 => match asgTg tg x (wipeE env own) with
      | some env1 => (ev (callN G k) G.gl env1 st2 cond).bind fun c st3 => cnd c ((ev (callN G k) G.gl env1 st3 elt).bind fun y st4 => .ok (some y) st4) (.ok none st3)
      | none => .no : D → St → R (Option D)) = F at hl
  refine ⟨fun i m H => m = ds.length - i ∧ i ≤ ds.length ∧ ∃ ω st acc accD rest, Ext H1 ω1 H ω ∧ Sim X.K H ω st ∧ H A = some (.lst acc) ∧ A ∉ ω.φ ∧ ¬ ω.F A ∧ Reps X.K H ω acc accD ∧ accD.length ≤ i ∧ lcLoop F gs env (ds.drop i) st = .ok rest stF ∧ accD ++ rest = ys,
    ⟨ds.length, rfl, Nat.zero_le _, ω1, st1, [], [], ys, (Ext.updN s1 hA), s1.updN hA, upd_same, s1.fresh hA, fun z => s1.hF A z hA, trivial, Nat.le_refl _, hl, rfl⟩, ?_⟩
  rintro i m H ⟨rfl, hi, ω, st, acc, accD, rest, x1, sim, hacc, hn, hnf, hr, hal, hloop, hys⟩
  cases hd : ds.drop i with
  | nil =>
    have hi' : i = ds.length := by
      have := congrArg List.length hd
      simp at this
      omega
    subst hi'
    rw [hd] at hloop
    unfold lcLoop at hloop
    split at hloop
    · rename_i hg
      cases hloop
      obtain ⟨_, h2, _⟩ := hw H ω _ env (.of x1) sim hg
      refine .inl ⟨h2, ?_⟩
      rw [List.append_nil] at hys
      subst hys
      exact hQ A H ω acc hA x1 sim hacc hn hnf (Nat.le_trans hal hz) hr
    · cases hloop
  | cons x xs =>
    obtain ⟨hx, hxs, hlt⟩ := sub_some hd
    rw [hd] at hloop
    unfold lcLoop at hloop
    split at hloop
    · rename_i hg
      obtain ⟨h1, _, h3⟩ := hw H ω _ env (.of x1) sim hg
      obtain ⟨ov, st2, hF1, hloop⟩ := bind_ok' hloop
      obtain ⟨ys2, st3, hF2, hloop⟩ := bind_ok' hloop
      cases hloop
      refine .inr ⟨h1 i hlt, fun H' => ∃ ω' acc' accD', Ext H1 ω1 H' ω' ∧ Sim X.K H' ω' st2 ∧ H' A = some (.lst acc') ∧ A ∉ ω'.φ ∧ ¬ ω'.F A ∧ Reps X.K H' ω' acc' accD' ∧ accD'.length ≤ i + 1 ∧ accD' ++ ys2 = ys,
        fun H' ⟨ω', acc', accD', q1, q2, q3, q4, q5, q6, q7, q8⟩ => ⟨ds.length - (i + 1), by omega, rfl, hlt, ω', st2, acc', accD', ys2, q1, q2, q3, q4, q5, q6, q7, by rw [hxs]; exact hF2, q8⟩, fun y H' yl => ?_⟩
      obtain ⟨ω2, e2, s2, r2⟩ := h3 i x hx y H' yl
      rw [← hF] at hF1
      simp only at hF1
      cases ha : asgTg tg x (wipeE env own) with
      | none => rw [ha] at hF1; cases hF1
      | some env1 =>
        rw [ha] at hF1
        simp only at hF1
        have x2 := x1.trans e2
        refine ⟨ω2, x, wipeE env own, env1, H0, r2, (re.ext x2).wipe own, ha, fun σ2 re2 hw2 => ⟨(hw2 own hsl).trans ?_, ?_⟩⟩
        · have : ∀ {vs : List Nat} {σ : L2.St}, L2.wipe (L2.wipe σ vs) vs = L2.wipe σ vs := by
            intro vs σ
            apply List.ext_getElem?
            intro j
            have z1 := wipe_get [] (L2.wipe σ vs) vs j
            by_cases hj : j ∈ vs
            · have len : (L2.wipe (L2.wipe σ vs) vs).length = (L2.wipe σ vs).length := wipe_len _ _
              have no : ∀ {τ : L2.St} {ws : List Nat}, j ∈ ws → ∀ o, (L2.wipe τ ws)[j]? = some o → o = none := by
                intro τ ws
                induction ws with
                | nil => intro h; simp at h
                | cons w ws ih =>
                  intro hj o ho
                  unfold L2.wipe at ho
                  by_cases hw : w = j
                  · subst hw
                    by_cases hl : w < (L2.wipe τ ws).length
                    · rw [List.getElem?_set_self hl] at ho
                      exact (Option.some.inj ho).symm
                    · rw [List.getElem?_eq_none (by simpa using hl)] at ho
                      cases ho
                  · rw [List.getElem?_set_ne hw] at ho
                    exact ih ((List.mem_cons.mp hj).resolve_left fun z => hw z.symm) o ho
              by_cases hlt : j < (L2.wipe σ vs).length
              · have h1 : j < (L2.wipe (L2.wipe σ vs) vs).length := by rw [len]; exact hlt
                rw [List.getElem?_eq_getElem hlt, List.getElem?_eq_getElem h1]
                have a1 := no hj _ (List.getElem?_eq_getElem hlt)
                have a2 := no hj _ (List.getElem?_eq_getElem h1)
                rw [a1, a2]
              · rw [List.getElem?_eq_none (l := L2.wipe (L2.wipe σ vs) vs) (Nat.le_of_not_lt fun z => hlt (Nat.lt_of_lt_of_eq z len)), List.getElem?_eq_none (l := L2.wipe σ vs) (Nat.le_of_not_lt hlt)]
            · exact (z1.2 hj).2
          exact this
        · -- the test
          obtain ⟨cv, st4, hc1, hF1⟩ := bind_ok' hF1
          have hb : ∃ b, cv = .bl b := by
            cases cv with
            | bl b => exact ⟨b, rfl⟩
            | _ => cases hF1
          obtain ⟨b, rfl⟩ := hb
          have accAt : ∀ {H3 ω3}, Ext H ω H3 ω3 → H3 A = some (.lst acc) ∧ A ∉ ω3.φ ∧ ¬ ω3.F A := fun x => ⟨x.keep _ _ hacc hn, fun z => (x.new A z).elim hn fun w => (by rw [hacc] at w; cases w), fun z => (x.newF A z).elim hnf fun w => (by rw [hacc] at w; cases w)⟩
          refine ⟨ω2, st, env1, H0, s2, re2, ?_⟩
          rw [hc1]
          intro v H3 ω3 e3 s3 r3
          have r3 := (r3.rep hc).isBl
          subst r3
          refine ⟨b, rfl, ?_⟩
          have x3 := x2.trans e3
          show ite _ _ _
          cases b with
          | false =>
            rw [if_neg Bool.false_ne_true]
            cases hF1
            obtain ⟨q1, q2, q3⟩ := accAt (e2.trans e3)
            refine ⟨ω3, acc, accD, x3, s3, q1, q2, q3, Reps.ext (e2.trans e3) _ hr, Nat.le_succ_of_le hal, hys⟩
          | true =>
            rw [if_pos rfl]
            replace hF1 : (ev (callN G k) G.gl env1 st4 elt).bind (fun y st4 => R.ok (some y) st4) = R.ok ov st2 := hF1
            obtain ⟨yv, st5, he1, hF1⟩ := bind_ok' hF1
            cases hF1
            refine ⟨ω3, st4, env1, H0, s3, re2.ext e3, ?_⟩
            rw [he1]
            intro w H4 ω4 e4 s4 r4
            have r4 := r4.rep he
            obtain ⟨q1, q2, q3⟩ := accAt ((e2.trans e3).trans e4)
            have hlen : acc.length = accD.length := hr.length
            refine ⟨acc, q1, by omega, ω4, acc ++ [w], accD ++ [yv], (x3.trans e4).young hA, s4.own q1 q2 q3, upd_same, q2, q3, ?_, by simp; omega, by rw [List.append_assoc]; exact hys⟩
            have z := (Reps.ext ((e2.trans e3).trans e4) _ hr).append (show Reps X.K H4 ω4 [w] [yv] by simp only [Reps]; exact ⟨r4, trivial⟩)
            exact Reps.wext (WExt.own q1 q3) _ z
    · cases hloop
/-- the context of a block -/
def Cn.blk (c : Cn) (scope : Scope) : Cn := ⟨c.N, relS scope c.sc, fun x => scope.names.lookup x == some .cell⟩
theorem XOk.blk (ok : XOk X T G kw k c) (s : Shared) (H : Hp) (scope : Scope) (C : Addr) (cl : List (Str × Addr)) (fp : List Addr) : XOk (X.blk s H scope (compEnvC scope cl C X.env) fp) T G kw k (c.blk scope) :=
  ⟨ok.N, by show relS scope X.env.scope = relS scope c.sc; rw [ok.sc], rfl, ok.calm, ok.nd, ok.room, ok.gd, ok.g⟩
theorem takes_no {Y : Cx} : Takes Y noW := fun u s' ⟨a, B, sI, pins, σ, H, cls, d, e, I, nb, up, sky, na, os, ag, w⟩ => w.elim
def lcIfs (Y : Cx) (ifs : List Expr) (cond : E) (T : Nm) (G : Pg) (k : Nat) : Prop := (ifs = [] ∧ cond = .cst (.bl true)) ∨ ∃ c, ifs = [c] ∧ PT Y c (tT Y T G k noW cond)
theorem lcIfs_pts {Y : Cx} {ifs : List Expr} (h : lcIfs Y ifs cond T G k) : PTs Y ifs (tT Y T G k noW cond) := by
  rcases h with ⟨rfl, rfl⟩ | ⟨c, rfl, h⟩
  · refine ⟨fun pins s σ H Q I hw => pts_nil.run pins s σ H Q I ?_⟩
    obtain ⟨ω, st, env, H0, sim, re, h⟩ := hw
    obtain ⟨b, e, q⟩ := h (.bl true) H ω (Ext.refl _ _) sim (RepE.of rfl (by simp only [Rep]))
    cases e
    exact q
  · exact pts_one h
section
variable {pelt : Expr} {ifs : List Expr} {scope : Scope} {own' : List (Str × Nat)}
/-- a comprehension's wish, by its loop -/
theorem lcKey {σ : L2.St} {H : Hp} {Q : VK} {e0 : E} {ω : Wd} {st : St} {env : Env} {H0 : Hp} (fin : ∀ H1 ω1 ys st, Ext H ω H1 ω1 → PostE X T W σ Q H1 ω1 e0 (.ok (.lst ys) st) → LcQ X Q H1 ω1 ys st)
    (sim : Sim X.K H ω st) (re : REnv X.K H0 H ω σ env) (hsl : ∀ i ∈ tg.slots, i ∈ own) (hc : cond.isO = false) (he : elt.isO = false)
    (h : PostE X T W σ Q H ω e0 (ev (callN G k) G.gl env st (.lc elt tg it cond own))) :
    tLc (tIt X T G k W it) (tG X.K tg) (tT X T G k noW cond) (tEv X T G k noW elt) own σ H Q := by
  simp only [ev] at h
  refine ⟨ω, st, env, H0, sim, re, ?_⟩
  cases hi : evIt (callN G k) G.gl env st it with
  | no => rw [hi] at h; exact h.elim
  | ex x st1 => rw [hi] at h; exact h
  | ok pq st1 =>
    obtain ⟨ds, gs⟩ := pq
    rw [hi] at h
    simp only [R.bind_ok] at h
    intro J H1 ω1 e1 s1 hw A hA
    split at h
    · rename_i hz
      revert h
      generalize hl : lcLoop _ gs env ds st1 = r
      intro h
      cases r with
      | no => exact h.elim
      | ex x st2 => exact h.elim
      | ok ys st2 => exact lcTurns (re.ext e1) s1 hw hz hsl hc he hl (fin H1 ω1 ys st2 e1 (PostE.mono e1 h)) A hA
    · exact h.elim
theorem lcFin {σ : L2.St} {H : Hp} {Q : VK} {e0 : E} {ω : Wd} (h0 : e0.isO = false) : ∀ H1 ω1 ys st, Ext H ω H1 ω1 → PostE X T W σ Q H1 ω1 e0 (.ok (.lst ys) st) → LcQ X Q H1 ω1 ys st := fun H1 ω1 ys st e1 h D H' ω' vs hD x s hv hn hf hl hr => by
  refine h (.ref D) H' (ω'.frz D) (x.freeze hD) (s.freeze (by rw [hv]; simp) hn) (RepE.of h0 ?_)
  simp only [Rep]
  exact ⟨D, vs, rfl, ⟨hv, hn, .inr rfl⟩, hl, Reps.rext (RExt.freeze ω' H' D) _ hr⟩
theorem peLc (ok : XOk X T G kw k c) (hi : PI X ptg piter (tIt X T G k W it)) (hb : blkC c.N c.sc scope own' = true) (hg : chkTg (relS scope c.sc) (fun x => scope.names.lookup x == some .cell) c.N tg ptg = true)
    (ht : ∀ (s : Shared) (H : Hp) (C : Addr) (cl : List (Str × Addr)) (fp : List Addr), lcIfs (X.blk s H scope (compEnvC scope cl C X.env) fp) ifs cond T G k)
    (hel : ∀ (s : Shared) (H : Hp) (C : Addr) (cl : List (Str × Addr)) (fp : List Addr), PE (X.blk s H scope (compEnvC scope cl C X.env) fp) pelt (tEv X T G k noW elt))
    (hs : ∀ x, foldedSetIterable piter X.env x = pure x) (hsl : ∀ i ∈ tg.slots, i ∈ own'.map (·.2)) (hc : cond.isO = false) (he : elt.isO = false) :
    PE X (.ListComp pelt [⟨ptg, piter, ifs, 0⟩] scope pos) (tEv X T G k W (.lc elt tg it cond (own'.map (·.2)))) :=
  (pe_lc ok.calm (by rw [ok.N]; exact ok.nd) hi (blkOk_by (by rw [ok.N, ok.sc]; exact hb)) (fun s H C cl fp => (pgTg (ok.blk s H scope C cl fp) tg hg).1) (fun s H C cl fp => lcIfs_pts (ht s H C cl fp)) hel hs).weak
    fun σ H Q ⟨ω, st, env, H0, sim, re, h⟩ => lcKey (lcFin rfl) sim re hsl hc he h
end
end
end Ev

set_option Elab.async false
set_option linter.all false
set_option maxRecDepth 100000
/-! A tree is that of a text: checked by computing. -/
namespace Ev
open PySem PySem.Spec PyProof.Rows L2

def notIf : Expr → Bool
  | .IfExp _ _ _ _ => false
  | _ => true
def notSet : Expr → Bool
  | .Set _ _ _ => false
  | _ => true
theorem behind_of {op : CmpOp} {p : Expr} (h : notSet p = true) : behindInMarks op p = false := by
  cases p <;> first | rfl | cases h
theorem last_of {o1 o2 : CmpOp} {p q : Expr} (h : notSet q = true) : lastMarks [o1, o2] [p, q] = false := behind_of h
theorem folded_of {p : Expr} {env : PySem.Env} (h : notSet p = true) : ∀ x, foldedSetIterable p env x = pure x := by
  cases p <;> first | (intro x; rfl) | cases h
def visB (sc : Scope) (x : Str) : Bool := match sc.names.lookup x with
  | some .local => true
  | some .cell => true
  | some .free => true
  | _ => false
def glB (sc : Scope) (x : Str) : Bool := decide (sc.names.lookup x = some .globalImplicit)
def okNm (x : Str) : Bool := !(x == ("__debug__" : Str)) && !(x == ("__classdict__" : Str))
theorem visB_ok {sc : Scope} {x : Str} (h : visB sc x = true) : Vis sc x := by
  unfold visB at h
  split at h
  · rename_i q; exact .inl q
  · rename_i q; exact .inr (.inl q)
  · rename_i q; exact .inr (.inr q)
  · cases h
theorem okNm_ok {x : Str} (h : okNm x = true) : (x == ("__debug__" : Str)) = false ∧ (x == ("__classdict__" : Str)) = false := by
  unfold okNm at h
  simpa using h
def isYes : E → Bool
  | .cst (.bl true) => true
  | _ => false
def isNonC : E → Bool
  | .cst .non => true
  | _ => false
section
variable (T : Nm) (G : Pg) (kw : List Kw)
mutual
def chkE (c : Cn) : E → Expr → Bool
  | .var i, p => match p with
    | .Name x _ => decide (c.N[i]? = some x) && visB c.sc x && okNm x
    | _ => false
  | .own i, p => match p with
    | .Name x _ => decide (c.N[i]? = some x) && visB c.sc x && okNm x
    | _ => false
  | .glob g, p => match p with
    | .Name x _ => T.gl g == x && glB c.sc x && (G.gl g).isSome && okNm x
    | _ => false
  | .cst d, p => match p with
    | .Constant k _ _ => cstOk d k
    | .UnaryOp .USub (.Constant (.int i) _ _) _ => decide (d = .int (-i))
    | _ => false
  | .tup es, p => match p with
    | .Tuple ps _ _ => chkEs c es ps && es.noO && decide (es.len ≤ 1000)
    | _ => false
  | .lst es, p => match p with
    | .List ps _ => chkEs c es ps && es.noO && decide (es.len ≤ 1000)
    | _ => false
  | .lstC es, p => match p with
    | .List ps _ => chkEs c es ps && es.noO && decide (es.len ≤ 1000)
    | _ => false
  | .dctC e, p => match p with
    | .Call (.Name x _) [q] [] _ => x == ("dict" : Str) && glB c.sc "dict" && chkE c e q && !e.isO && nst q
    | _ => false
  | .bin op a b, p => match p with
    | .BinOp l o r _ => decide (o = op.py) && chkE c a l && chkE c b r
    | _ => false
  | .cmp op a b, p => match p with
    | .Compare l [o] [r] _ => decide (o = op.py) && chkE c a l && chkE c b r && notSet r
    | _ => false
  | .chn o1 o2 a b d, p => match p with
    | .Compare l [q1, q2] [m, r] _ => decide (q1 = o1.py) && decide (q2 = o2.py) && chkE c a l && chkE c b m && chkE c d r && notSet r
    | _ => false
  | .isN neg a, p => match p with
    | .Compare l [o] [.Constant .none _ _] _ => decide (o = notC neg) && chkE c a l && !a.isO
    | _ => false
  | .isB neg b a, p => match p with
    | .Compare l [o] [.Constant (.bool b') _ _] _ => decide (o = notC neg) && decide (b = b') && chkE c a l && !a.isO
    | _ => false
  | .and a b, p => match p with
    | .BoolOp .And (q :: qs) _ => chkE c a q && notIf q && !a.isO && !b.isO && (match qs with
      | [] => false
      | [r] => chkE c b r && notIf r
      | r :: r2 :: rs => chkAnd c b (r :: r2 :: rs))
    | _ => false
  | .or a b, p => match p with
    | .BoolOp .Or (q :: qs) _ => chkE c a q && notIf q && !a.isO && !b.isO && (match qs with
      | [] => false
      | [r] => chkE c b r && notIf r
      | r :: r2 :: rs => chkOr c b (r :: r2 :: rs))
    | _ => false
  | .not a, p => match p with
    | .UnaryOp .Not q _ => chkE c a q && notIf q && !a.isO
    | _ => false
  | .ife t a b, p => match p with
    | .IfExp q l r _ => chkE c t q && notIf q && chkE c a l && chkE c b r && !t.isO && !a.isO && !b.isO
    | _ => false
  | .call f es, p => match p with
    | .Call (.Name x _) ps [] _ => (G.defs f).isSome && T.fn f == x && glB c.sc x && okNm x && chkEs c es ps && es.noO
    | _ => false
  | .callK f es pm, p => match p with
    | .Call (.Name x _) [] kws _ => (G.defs f).isSome && T.fn f == x && glB c.sc x && okNm x && chkKs c es kws && es.noO && decide ((⟨f, kws.filterMap (·.arg), pm⟩ : Kw) ∈ kw) && (kws.all fun q => q.arg.isSome) && decide (es.len = kws.length)
    | _ => false
  | .bi b es, p => match p with
    | .Call (.Name x _) (q :: qs) [] _ => match b with
      | .isin ts => x == ("isinstance" : Str) && glB c.sc "isinstance" && chkEs c es [q] && es.noO && (match ts, qs with
        | [t], [.Name y z] => isTy c.sc t (.Name y z)
        | ts, [.Tuple rs _ _] => isTys c.sc ts rs && decide (ts.length ≤ 1000)
        | _, _ => false)
      | .sortedD => x == ("sorted" : Str) && glB c.sc "sorted" && chkEs c es [q] && es.noO && qs.isEmpty
      | b => b.plain && x == b.py.1 && glB c.sc x && chkEs c es (q :: qs)
    | _ => false
  | .idx a i, p => match p with
    | .Subscript l r _ => chkE c a l && chkE c i r && !i.isO && plainIx r
    | _ => false
  | .slc a lo hi, p => match p with
    | .Subscript l (.Slice u v none _) _ => chkE c a l && (match u with | none => isNonC lo | some q => chkE c lo q) && (match v with | none => isNonC hi | some q => chkE c hi q) && !lo.isO && !hi.isO
    | _ => false
  | .rev a, p => match p with
    | .Subscript l (.Slice none none (some (.UnaryOp .USub (.Constant (.int 1) _ _) _)) _) _ => chkE c a l
    | _ => false
  | .lc elt tg it cond own, p => match p with
    | .ListComp pe [⟨ptg, pit, ifs, 0⟩] scope _ => blkC c.N c.sc scope (own.map fun i => (c.N.getD i "", i)) && chkIt c it ptg pit && notSet pit && chkTg (c.blk scope).sc (c.blk scope).fn c.N tg ptg && (tg.slots.all fun i => decide (i ∈ own)) &&
        !cond.isO && !elt.isO && chkE (c.blk scope) elt pe && (match ifs with | [] => isYes cond | [q] => chkE (c.blk scope) cond q && notIf q | _ => false)
    | _ => false
  | .lrg e, p => match p with
    | .Call (.Name x _) [.Call (.Name y _) [q] [] _] [] _ => x == ("list" : Str) && y == ("range" : Str) && glB c.sc "list" && glB c.sc "range" && chkE c e q && !e.isO && nst q
    | _ => false
  | .nev, _ => true
def chkAnd (c : Cn) : E → List Expr → Bool
  | .and a b, ps => match ps with
    | q :: qs => chkE c a q && notIf q && !a.isO && !b.isO && (match qs with
      | [] => false
      | [r] => chkE c b r && notIf r
      | r :: r2 :: rs => chkAnd c b (r :: r2 :: rs))
    | [] => false
  | _, _ => false
def chkOr (c : Cn) : E → List Expr → Bool
  | .or a b, ps => match ps with
    | q :: qs => chkE c a q && notIf q && !a.isO && !b.isO && (match qs with
      | [] => false
      | [r] => chkE c b r && notIf r
      | r :: r2 :: rs => chkOr c b (r :: r2 :: rs))
    | [] => false
  | _, _ => false
def chkEs (c : Cn) : Es → List Expr → Bool
  | .nil, ps => ps.isEmpty
  | .cons e es, ps => match ps with
    | q :: qs => chkE c e q && nst q && chkEs c es qs
    | [] => false
def chkKs (c : Cn) : Es → List Keyword → Bool
  | .nil, ps => ps.isEmpty
  | .cons e es, ps => match ps with
    | ⟨_, q, _⟩ :: qs => chkE c e q && chkKs c es qs
    | [] => false
def chkIt (c : Cn) : Ev.It → Expr → Expr → Bool
  | .va e, _, p => chkE c e p
  | .rg1 e, _, p => match p with
    | .Call (.Name x _) [q] [] _ => x == ("range" : Str) && glB c.sc "range" && chkE c e q && !e.isO && nst q
    | _ => false
  | .rg2 a b, _, p => match p with
    | .Call (.Name x _) [q, r] [] _ => x == ("range" : Str) && glB c.sc "range" && chkE c a q && chkE c b r && !a.isO && !b.isO && nst q && nst r
    | _ => false
  | .zp a b, t, p => match t, p with
    | .Tuple _ _ _, .Call (.Name x _) [q, r] [] _ => x == ("zip" : Str) && glB c.sc "zip" && chkE c a q && chkE c b r && nst q && nst r
    | _, _ => false
  | .en a, t, p => match t, p with
    | .Tuple _ _ _, .Call (.Name x _) [q] [] _ => x == ("enumerate" : Str) && glB c.sc "enumerate" && chkE c a q && nst q
    | _, _ => false
  | .st a, _, p => chkE c a p && !a.isO
end
end
end Ev

set_option Elab.async false
set_option linter.all false
set_option maxRecDepth 100000
/-! What is checked is sound. -/
namespace Ev
open PySem PySem.Spec PyProof.Rows L2

/-- a text's expression does what the tree says, as a value and as a test -/
def Snd (X : Cx) (T : Nm) (G : Pg) (k : Nat) (W : WX) (e : E) (p : Expr) : Prop := PE X p (tEv X T G k W e) ∧ (notIf p = true → PT X p (tT X T G k W e))
theorem glB_ok {X : Cx} {sc : Scope} {x : Str} (hs : X.env.scope = sc) (h : glB sc x = true) : Gl X x := by
  show X.env.scope.names.lookup x = _
  rw [hs]
  exact of_decide_eq_true h
theorem isYes_ok {e : E} (h : isYes e = true) : e = .cst (.bl true) := by
  unfold isYes at h
  split at h
  · rfl
  · cases h
theorem isNonC_ok {e : E} (h : isNonC e = true) : e = .cst .non := by
  unfold isNonC at h
  split at h
  · rfl
  · cases h
section
variable {X : Cx} {T : Nm} {G : Pg} {kw : List Kw} {k : Nat} {c : Cn} {W : WX} {a b d : E} {p q r : Expr} {pos : Pos} {ps : List Expr}
theorem cmpSnd {op : Co} (ok : XOk X T G kw k c) (ha : PE X p (tEv X T G k W a)) (hb : PE X q (tEv X T G k W b)) (hm : behindInMarks op.py q = false) : Snd X T G k W (.cmp op a b) (.Compare p [op.py] [q] pos) :=
  ⟨peCmp ok ha hb hm, fun _ => (pt_cmpR (opCmp ok.u65 op) ha hb hm).weak fun σ H Q ⟨ω, st, env, H0, sim, re, h⟩ => by
    simp only [ev] at h
    refine ⟨ω, st, env, H0, sim, re, step h fun d st1 v H1 ω1 e1 s1 r1 h => ⟨ω1, st1, env, H0, s1, re.ext e1, step h fun d2 st2 v2 H2 ω2 e2 s2 r2 h => ?_⟩⟩
    cases hd : cmpD op (vw st2 d) (vw st2 d2) with
    | none => rw [hd] at h; exact h.elim
    | some z =>
      rw [hd] at h
      exact cmpStep e2 s2 r1 r2 hd (Out.bl s2 (h.out rfl))⟩
theorem chnSnd {o1 o2 : Co} (ok : XOk X T G kw k c) (ha : PE X p (tEv X T G k W a)) (hb : PE X q (tEv X T G k W b)) (hc : PE X r (tEv X T G k W d)) (hm : lastMarks [o1.py, o2.py] [q, r] = false) : Snd X T G k W (.chn o1 o2 a b d) (.Compare p [o1.py, o2.py] [q, r] pos) :=
  ⟨peChn ok ha hb hc hm, fun _ => (pt_chain (opCmp ok.u65 o1) (opCmp ok.u65 o2) ha hb hc hm).weak fun σ H Q h => chnKey h⟩
theorem andPw (z : Snd X T G k W a p) (h2 : notIf p = true) (h3 : a.isO = false) (h4 : b.isO = false) (y : PE X (.BoolOp .And (q :: ps) pos) (tEv X T G k W b) ∧ PW X (.BoolOp .And (q :: ps) pos) (tT X T G k W b)) :
    PE X (.BoolOp .And (p :: q :: ps) pos) (tEv X T G k W (.and a b)) ∧ PW X (.BoolOp .And (p :: q :: ps) pos) (tT X T G k W (.and a b)) :=
  ⟨(pe_and z.1 y.1).weak (keyAnd h3 h4), (pw_and (z.2 h2) y.2).weak (keyAndT h3 h4)⟩
theorem orPw (z : Snd X T G k W a p) (h2 : notIf p = true) (h3 : a.isO = false) (h4 : b.isO = false) (y : PE X (.BoolOp .Or (q :: ps) pos) (tEv X T G k W b) ∧ PW X (.BoolOp .Or (q :: ps) pos) (tT X T G k W b)) :
    PE X (.BoolOp .Or (p :: q :: ps) pos) (tEv X T G k W (.or a b)) ∧ PW X (.BoolOp .Or (p :: q :: ps) pos) (tT X T G k W (.or a b)) :=
  ⟨(pe_or z.1 y.1).weak (keyOr h3 h4), (pw_or (z.2 h2) y.2).weak (keyOrT h3 h4)⟩
theorem andSnd (z : Snd X T G k W a p) (h2 : notIf p = true) (h3 : a.isO = false) (h4 : b.isO = false) (y : PE X (.BoolOp .And (q :: ps) pos) (tEv X T G k W b) ∧ PW X (.BoolOp .And (q :: ps) pos) (tT X T G k W b)) :
    Snd X T G k W (.and a b) (.BoolOp .And (p :: q :: ps) pos) := ⟨(andPw z h2 h3 h4 y).1, fun _ => (andPw z h2 h3 h4 y).2.pt⟩
theorem orSnd (z : Snd X T G k W a p) (h2 : notIf p = true) (h3 : a.isO = false) (h4 : b.isO = false) (y : PE X (.BoolOp .Or (q :: ps) pos) (tEv X T G k W b) ∧ PW X (.BoolOp .Or (q :: ps) pos) (tT X T G k W b)) :
    Snd X T G k W (.or a b) (.BoolOp .Or (p :: q :: ps) pos) := ⟨(orPw z h2 h3 h4 y).1, fun _ => (orPw z h2 h3 h4 y).2.pt⟩
end
section
variable {T : Nm} {G : Pg} {kw : List Kw} {k : Nat}
theorem own_map (N : List Str) (own : List Nat) : (own.map fun i => (N.getD i "", i)).map (·.2) = own := by
  rw [List.map_map]
  exact List.map_id' own
theorem Snd.val {X : Cx} {W : WX} {e : E} {p : Expr} (h : PE X p (tEv X T G k W e)) (he : ∀ whole, isTrue p X.env whole = (do let v ← whole; standAt p.pos; holding [v] (truthy v))) : Snd X T G k W e p := ⟨h, fun _ => pt_val h he⟩
mutual
theorem sndE : ∀ (e : E) {c : Cn} {X : Cx} {W : WX} {p : Expr}, XOk X T G kw k c → Takes X W → chkE T G kw c e p = true → Snd X T G k W e p
  | .var i, c, X, W, p, ok, tk, h => by
    simp only [chkE] at h
    split at h
    · simp only [Bool.and_eq_true, decide_eq_true_eq] at h
      obtain ⟨h3, h4⟩ := okNm_ok h.2
      exact .val (peVar (by rw [ok.N]; exact h.1.1) (by rw [ok.sc]; exact visB_ok h.1.2) h3 h4) (by intro _; rfl)
    · cases h
  | .own i, c, X, W, p, ok, tk, h => by
    simp only [chkE] at h
    split at h
    · simp only [Bool.and_eq_true, decide_eq_true_eq] at h
      obtain ⟨h3, h4⟩ := okNm_ok h.2
      exact .val (peOwn (by rw [ok.N]; exact h.1.1) (by rw [ok.sc]; exact visB_ok h.1.2) h3 h4) (by intro _; rfl)
    · cases h
  | .glob g, c, X, W, p, ok, tk, h => by
    simp only [chkE] at h
    split at h
    · simp only [Bool.and_eq_true, beq_iff_eq] at h
      obtain ⟨h3, h4⟩ := okNm_ok h.2
      exact .val (peGlob ok h.1.1.1 (glB_ok ok.sc h.1.1.2) h.1.2 h3) (by intro _; rfl)
    · cases h
  | .cst d, c, X, W, p, ok, tk, h => by
    simp only [chkE] at h
    split at h
    · exact .val (peCst h) (by intro _; rfl)
    · obtain rfl := of_decide_eq_true h
      exact .val peNeg (by intro _; rfl)
    · cases h
  | .tup es, c, X, W, p, ok, tk, h => by
    simp only [chkE] at h
    split at h
    · simp only [Bool.and_eq_true, decide_eq_true_eq] at h
      exact .val (peTup (sndEs es ok tk h.1.1).1 h.1.2 h.2) (by intro _; rfl)
    · cases h
  | .lst es, c, X, W, p, ok, tk, h => by
    simp only [chkE] at h
    split at h
    · simp only [Bool.and_eq_true, decide_eq_true_eq] at h
      exact .val (peLst (sndEs es ok tk h.1.1).1 h.1.2 h.2) (by intro _; rfl)
    · cases h
  | .lstC es, c, X, W, p, ok, tk, h => by
    simp only [chkE] at h
    split at h
    · simp only [Bool.and_eq_true, decide_eq_true_eq] at h
      exact .val (peLstC (sndEs es ok tk h.1.1).1 h.1.2 h.2) (by intro _; rfl)
    · cases h
  | .dctC e, c, X, W, p, ok, tk, h => by
    simp only [chkE] at h
    split at h
    · simp only [Bool.and_eq_true, beq_iff_eq, Bool.not_eq_true'] at h
      obtain ⟨⟨⟨⟨rfl, h2⟩, h3⟩, h4⟩, h5⟩ := h
      exact .val (peDct ok (glB_ok ok.sc h2) (sndE e ok tk h3).1 h4 h5) (by intro _; rfl)
    · cases h
  | .bin op a b, c, X, W, p, ok, tk, h => by
    simp only [chkE] at h
    split at h
    · simp only [Bool.and_eq_true, decide_eq_true_eq] at h
      obtain ⟨⟨rfl, h2⟩, h3⟩ := h
      exact .val (peBin (sndE a ok tk h2).1 (sndE b ok tk h3).1) (by intro _; rfl)
    · cases h
  | .cmp op a b, c, X, W, p, ok, tk, h => by
    simp only [chkE] at h
    split at h
    · simp only [Bool.and_eq_true, decide_eq_true_eq] at h
      obtain ⟨⟨⟨rfl, h2⟩, h3⟩, h4⟩ := h
      exact cmpSnd ok (sndE a ok tk h2).1 (sndE b ok tk h3).1 (behind_of h4)
    · cases h
  | .chn o1 o2 a b d, c, X, W, p, ok, tk, h => by
    simp only [chkE] at h
    split at h
    · simp only [Bool.and_eq_true, decide_eq_true_eq] at h
      obtain ⟨⟨⟨⟨⟨rfl, rfl⟩, h2⟩, h3⟩, h4⟩, h5⟩ := h
      exact chnSnd ok (sndE a ok tk h2).1 (sndE b ok tk h3).1 (sndE d ok tk h4).1 (last_of h5)
    · cases h
  | .isN neg a, c, X, W, p, ok, tk, h => by
    simp only [chkE] at h
    split at h
    · simp only [Bool.and_eq_true, decide_eq_true_eq, Bool.not_eq_true'] at h
      obtain ⟨⟨rfl, h2⟩, h3⟩ := h
      obtain ⟨q1, q2⟩ := pcIsN (neg := neg) (sndE a ok tk h2).1 h3
      exact ⟨q1, fun _ => q2⟩
    · cases h
  | .isB neg b a, c, X, W, p, ok, tk, h => by
    simp only [chkE] at h
    split at h
    · simp only [Bool.and_eq_true, decide_eq_true_eq, Bool.not_eq_true'] at h
      obtain ⟨⟨⟨rfl, rfl⟩, h2⟩, h3⟩ := h
      obtain ⟨q1, q2⟩ := pcIsB (neg := neg) (sndE a ok tk h2).1 h3
      exact ⟨q1, fun _ => q2⟩
    · cases h
  | .and a b, c, X, W, p, ok, tk, h => by
    simp only [chkE] at h
    split at h
    · simp only [Bool.and_eq_true, Bool.not_eq_true'] at h
      obtain ⟨⟨⟨⟨h1, h2⟩, h3⟩, h4⟩, h5⟩ := h
      have z := sndE a ok tk h1
      split at h5
      · cases h5
      · rw [Bool.and_eq_true] at h5
        have y := sndE b ok tk h5.1
        exact andSnd z h2 h3 h4 ⟨pe_one y.1, pw_and1 (y.2 h5.2)⟩
      · exact andSnd z h2 h3 h4 (sndAnd b ok tk h5)
    · cases h
  | .or a b, c, X, W, p, ok, tk, h => by
    simp only [chkE] at h
    split at h
    · simp only [Bool.and_eq_true, Bool.not_eq_true'] at h
      obtain ⟨⟨⟨⟨h1, h2⟩, h3⟩, h4⟩, h5⟩ := h
      have z := sndE a ok tk h1
      split at h5
      · cases h5
      · rw [Bool.and_eq_true] at h5
        have y := sndE b ok tk h5.1
        exact orSnd z h2 h3 h4 ⟨pe_one y.1, pw_or1 (y.2 h5.2)⟩
      · exact orSnd z h2 h3 h4 (sndOr b ok tk h5)
    · cases h
  | .not a, c, X, W, p, ok, tk, h => by
    simp only [chkE] at h
    split at h
    · simp only [Bool.and_eq_true, Bool.not_eq_true'] at h
      obtain ⟨⟨h1, h2⟩, h3⟩ := h
      have z := sndE a ok tk h1
      exact ⟨(pe_not z.1).weak (keyNot h3), fun _ => (pt_not (z.2 h2)).weak (keyNotT h3)⟩
    · cases h
  | .ife t a b, c, X, W, p, ok, tk, h => by
    simp only [chkE] at h
    split at h
    · simp only [Bool.and_eq_true, Bool.not_eq_true'] at h
      obtain ⟨⟨⟨⟨⟨⟨h1, h2⟩, h3⟩, h4⟩, h5⟩, h6⟩, h7⟩ := h
      exact ⟨(pe_ifExp ((sndE t ok tk h1).2 h2) (sndE a ok tk h3).1 (sndE b ok tk h4).1).weak (keyIfe h5 h6 h7), fun z => by cases z⟩
    · cases h
  | .call f es, c, X, W, p, ok, tk, h => by
    simp only [chkE] at h
    split at h
    · rename_i x p1 ps p2
      simp only [Bool.and_eq_true, beq_iff_eq] at h
      obtain ⟨⟨⟨⟨⟨h1, h2⟩, h3⟩, h4⟩, h5⟩, h6⟩ := h
      have z := sndEs es ok tk h5
      cases ps with
      | nil =>
        cases es with
        | nil => exact .val (peCall0 ok tk h1 h2 (glB_ok ok.sc h3) (okNm_ok h4).1) (by intro _; rfl)
        | cons e es => simp [chkEs] at h5
      | cons q qs =>
        have hz := z.2
        rw [List.all_cons, Bool.and_eq_true] at hz
        exact .val (peCall ok tk h1 h2 (glB_ok ok.sc h3) (okNm_ok h4).1 z.1 h6 hz.1 hz.2) (by intro _; rfl)
    · cases h
  | .callK f es pm, c, X, W, p, ok, tk, h => by
    simp only [chkE] at h
    split at h
    · rename_i x p1 kws p2
      simp only [Bool.and_eq_true, beq_iff_eq, decide_eq_true_eq] at h
      obtain ⟨⟨⟨⟨⟨⟨⟨⟨h1, h2⟩, h3⟩, h4⟩, h5⟩, h6⟩, h7⟩, h8⟩, h9⟩ := h
      exact .val (peCallK ok tk h1 h2 (glB_ok ok.sc h3) (okNm_ok h4).1 (sndKs es ok tk h5) h6 h7 h8 h9) (by intro _; rfl)
    · cases h
  | .bi b .nil, c, X, W, p, ok, tk, h => by
    simp only [chkE] at h
    split at h
    · rename_i x p1 q qs p2
      split at h
      · simp [chkEs] at h
      · simp [chkEs] at h
      · simp [chkEs] at h
    · cases h
  | .bi b (.cons a es), c, X, W, p, ok, tk, h => by
    simp only [chkE] at h
    split at h
    · rename_i x p1 q qs p2
      split at h
      · rename_i ts
        simp only [Bool.and_eq_true, beq_iff_eq, chkEs, Es.noO, Bool.not_eq_true'] at h
        obtain ⟨⟨⟨⟨rfl, h2⟩, ⟨h3, h5⟩, h7⟩, h4, h8⟩, h6⟩ := h
        have z := sndE a ok tk h3
        cases es with
        | cons e es => simp [chkEs] at h7
        | nil =>
          split at h6
          · exact .val (peIsi1 ok ok.sc (glB_ok ok.sc h2) z.1 h4 h5 h6) (by intro _; rfl)
          · rw [Bool.and_eq_true, decide_eq_true_eq] at h6
            exact .val (peIsiT ok ok.sc (glB_ok ok.sc h2) z.1 h4 h5 h6.1 h6.2) (by intro _; rfl)
          · cases h6
      · simp only [Bool.and_eq_true, beq_iff_eq, chkEs, Es.noO, Bool.not_eq_true', List.isEmpty_iff] at h
        obtain ⟨⟨⟨⟨rfl, h2⟩, ⟨h3, h5⟩, h7⟩, h4, h8⟩, rfl⟩ := h
        cases es with
        | cons e es => simp [chkEs] at h7
        | nil => exact .val (peSrtD ok (glB_ok ok.sc h2) (sndE a ok tk h3).1 h4 h5) (by intro _; rfl)
      · simp only [Bool.and_eq_true, beq_iff_eq] at h
        obtain ⟨⟨⟨h1, rfl⟩, h3⟩, h4⟩ := h
        have z := sndEs (.cons a es) ok tk h4
        have hz := z.2
        rw [List.all_cons, Bool.and_eq_true] at hz
        exact .val (peBi ok h1 (glB_ok ok.sc h3) z.1 hz.1 hz.2) (by intro _; rfl)
    · cases h
  | .idx a i, c, X, W, p, ok, tk, h => by
    simp only [chkE] at h
    split at h
    · simp only [Bool.and_eq_true, Bool.not_eq_true'] at h
      obtain ⟨⟨⟨h1, h2⟩, h3⟩, h4⟩ := h
      exact .val (peIdx (sndE a ok tk h1).1 (sndE i ok tk h2).1 h3 h4) (by intro _; rfl)
    · cases h
  | .slc a lo hi, c, X, W, p, ok, tk, h => by
    simp only [chkE] at h
    split at h
    · rename_i l u v p1 p2
      simp only [Bool.and_eq_true, Bool.not_eq_true'] at h
      obtain ⟨⟨⟨⟨h1, h2⟩, h3⟩, h4⟩, h5⟩ := h
      have z := (sndE a ok tk h1).1
      have zl : PO X u (tPart2 (tEv X T G k W lo)) := by
        cases u with
        | none =>
          obtain rfl := isNonC_ok h2
          exact po_none2
        | some q => exact po_some2 (sndE lo ok tk h2).1
      have zh : PO X v (tPart2 (tEv X T G k W hi)) := by
        cases v with
        | none =>
          obtain rfl := isNonC_ok h3
          exact po_none2
        | some q => exact po_some2 (sndE hi ok tk h3).1
      exact .val (peSlc z zl zh h4 h5) (by intro _; rfl)
    · cases h
  | .rev a, c, X, W, p, ok, tk, h => by
    simp only [chkE] at h
    split at h
    · exact .val (peRev (sndE a ok tk h).1) (by intro _; rfl)
    · cases h
  | .lc elt tg it cond own, c, X, W, p, ok, tk, h => by
    simp only [chkE] at h
    split at h
    · rename_i pe ptg pit ifs scope pos
      simp only [Bool.and_eq_true, Bool.not_eq_true', List.all_eq_true, decide_eq_true_eq] at h
      obtain ⟨⟨⟨⟨⟨⟨⟨⟨h1, h2⟩, h3⟩, h4⟩, h5⟩, h6⟩, h7⟩, h8⟩, h9⟩ := h
      have z := peLc (pos := pos) (ifs := ifs) (own' := own.map fun i => (c.N.getD i "", i)) ok (sndIt it ok tk h2) h1 h4 (fun s H C cl fp => ?_) (fun s H C cl fp => (sndE elt (ok.blk s H scope C cl fp) takes_no h8).1) (folded_of h3) (by rw [own_map]; exact h5) h6 h7
      · rw [own_map] at z
        exact .val z (by intro _; rfl)
      · split at h9
        · exact .inl ⟨rfl, isYes_ok h9⟩
        · rename_i q
          rw [Bool.and_eq_true] at h9
          exact .inr ⟨q, rfl, (sndE cond (ok.blk s H scope C cl fp) takes_no h9.1).2 h9.2⟩
        · cases h9
    · cases h
  | .lrg e, c, X, W, p, ok, tk, h => by
    simp only [chkE] at h
    split at h
    · simp only [Bool.and_eq_true, beq_iff_eq, Bool.not_eq_true'] at h
      obtain ⟨⟨⟨⟨⟨⟨rfl, rfl⟩, h2⟩, h3⟩, h4⟩, h5⟩, h6⟩ := h
      exact .val (peLrg ok (glB_ok ok.sc h2) (glB_ok ok.sc h3) (sndE e ok tk h4).1 h5 h6) (by intro _; rfl)
    · cases h
  | .nev, c, X, W, p, ok, tk, h => ⟨⟨fun pins s σ H Q I ⟨ω, st, env, H0, sim, re, h⟩ => by simp only [ev] at h; exact h.elim⟩, fun _ => ⟨fun pins s σ H Q I ⟨ω, st, env, H0, sim, re, h⟩ => by simp only [ev] at h; exact h.elim⟩⟩
theorem sndAnd : ∀ (e : E) {c : Cn} {X : Cx} {W : WX} {ps : List Expr} {pos : Pos}, XOk X T G kw k c → Takes X W → chkAnd T G kw c e ps = true → PE X (.BoolOp .And ps pos) (tEv X T G k W e) ∧ PW X (.BoolOp .And ps pos) (tT X T G k W e)
  | .and a b, c, X, W, ps, pos, ok, tk, h => by
    simp only [chkAnd] at h
    split at h
    · simp only [Bool.and_eq_true, Bool.not_eq_true'] at h
      obtain ⟨⟨⟨⟨h1, h2⟩, h3⟩, h4⟩, h5⟩ := h
      have z := sndE a ok tk h1
      split at h5
      · cases h5
      · rw [Bool.and_eq_true] at h5
        have y := sndE b ok tk h5.1
        exact andPw z h2 h3 h4 ⟨pe_one y.1, pw_and1 (y.2 h5.2)⟩
      · exact andPw z h2 h3 h4 (sndAnd b ok tk h5)
    · cases h
  | .var _, c, X, W, ps, pos, ok, tk, h => by simp [chkAnd] at h
  | .own _, c, X, W, ps, pos, ok, tk, h => by simp [chkAnd] at h
  | .glob _, c, X, W, ps, pos, ok, tk, h => by simp [chkAnd] at h
  | .cst _, c, X, W, ps, pos, ok, tk, h => by simp [chkAnd] at h
  | .tup _, c, X, W, ps, pos, ok, tk, h => by simp [chkAnd] at h
  | .lst _, c, X, W, ps, pos, ok, tk, h => by simp [chkAnd] at h
  | .lstC _, c, X, W, ps, pos, ok, tk, h => by simp [chkAnd] at h
  | .dctC _, c, X, W, ps, pos, ok, tk, h => by simp [chkAnd] at h
  | .bin _ _ _, c, X, W, ps, pos, ok, tk, h => by simp [chkAnd] at h
  | .cmp _ _ _, c, X, W, ps, pos, ok, tk, h => by simp [chkAnd] at h
  | .chn _ _ _ _ _, c, X, W, ps, pos, ok, tk, h => by simp [chkAnd] at h
  | .isN _ _, c, X, W, ps, pos, ok, tk, h => by simp [chkAnd] at h
  | .isB _ _ _, c, X, W, ps, pos, ok, tk, h => by simp [chkAnd] at h
  | .or _ _, c, X, W, ps, pos, ok, tk, h => by simp [chkAnd] at h
  | .not _, c, X, W, ps, pos, ok, tk, h => by simp [chkAnd] at h
  | .ife _ _ _, c, X, W, ps, pos, ok, tk, h => by simp [chkAnd] at h
  | .call _ _, c, X, W, ps, pos, ok, tk, h => by simp [chkAnd] at h
  | .callK _ _ _, c, X, W, ps, pos, ok, tk, h => by simp [chkAnd] at h
  | .bi _ _, c, X, W, ps, pos, ok, tk, h => by simp [chkAnd] at h
  | .idx _ _, c, X, W, ps, pos, ok, tk, h => by simp [chkAnd] at h
  | .slc _ _ _, c, X, W, ps, pos, ok, tk, h => by simp [chkAnd] at h
  | .rev _, c, X, W, ps, pos, ok, tk, h => by simp [chkAnd] at h
  | .lc _ _ _ _ _, c, X, W, ps, pos, ok, tk, h => by simp [chkAnd] at h
  | .lrg _, c, X, W, ps, pos, ok, tk, h => by simp [chkAnd] at h
  | .nev, c, X, W, ps, pos, ok, tk, h => by simp [chkAnd] at h
theorem sndOr : ∀ (e : E) {c : Cn} {X : Cx} {W : WX} {ps : List Expr} {pos : Pos}, XOk X T G kw k c → Takes X W → chkOr T G kw c e ps = true → PE X (.BoolOp .Or ps pos) (tEv X T G k W e) ∧ PW X (.BoolOp .Or ps pos) (tT X T G k W e)
  | .or a b, c, X, W, ps, pos, ok, tk, h => by
    simp only [chkOr] at h
    split at h
    · simp only [Bool.and_eq_true, Bool.not_eq_true'] at h
      obtain ⟨⟨⟨⟨h1, h2⟩, h3⟩, h4⟩, h5⟩ := h
      have z := sndE a ok tk h1
      split at h5
      · cases h5
      · rw [Bool.and_eq_true] at h5
        have y := sndE b ok tk h5.1
        exact orPw z h2 h3 h4 ⟨pe_one y.1, pw_or1 (y.2 h5.2)⟩
      · exact orPw z h2 h3 h4 (sndOr b ok tk h5)
    · cases h
  | .var _, c, X, W, ps, pos, ok, tk, h => by simp [chkOr] at h
  | .own _, c, X, W, ps, pos, ok, tk, h => by simp [chkOr] at h
  | .glob _, c, X, W, ps, pos, ok, tk, h => by simp [chkOr] at h
  | .cst _, c, X, W, ps, pos, ok, tk, h => by simp [chkOr] at h
  | .tup _, c, X, W, ps, pos, ok, tk, h => by simp [chkOr] at h
  | .lst _, c, X, W, ps, pos, ok, tk, h => by simp [chkOr] at h
  | .lstC _, c, X, W, ps, pos, ok, tk, h => by simp [chkOr] at h
  | .dctC _, c, X, W, ps, pos, ok, tk, h => by simp [chkOr] at h
  | .bin _ _ _, c, X, W, ps, pos, ok, tk, h => by simp [chkOr] at h
  | .cmp _ _ _, c, X, W, ps, pos, ok, tk, h => by simp [chkOr] at h
  | .chn _ _ _ _ _, c, X, W, ps, pos, ok, tk, h => by simp [chkOr] at h
  | .isN _ _, c, X, W, ps, pos, ok, tk, h => by simp [chkOr] at h
  | .isB _ _ _, c, X, W, ps, pos, ok, tk, h => by simp [chkOr] at h
  | .and _ _, c, X, W, ps, pos, ok, tk, h => by simp [chkOr] at h
  | .not _, c, X, W, ps, pos, ok, tk, h => by simp [chkOr] at h
  | .ife _ _ _, c, X, W, ps, pos, ok, tk, h => by simp [chkOr] at h
  | .call _ _, c, X, W, ps, pos, ok, tk, h => by simp [chkOr] at h
  | .callK _ _ _, c, X, W, ps, pos, ok, tk, h => by simp [chkOr] at h
  | .bi _ _, c, X, W, ps, pos, ok, tk, h => by simp [chkOr] at h
  | .idx _ _, c, X, W, ps, pos, ok, tk, h => by simp [chkOr] at h
  | .slc _ _ _, c, X, W, ps, pos, ok, tk, h => by simp [chkOr] at h
  | .rev _, c, X, W, ps, pos, ok, tk, h => by simp [chkOr] at h
  | .lc _ _ _ _ _, c, X, W, ps, pos, ok, tk, h => by simp [chkOr] at h
  | .lrg _, c, X, W, ps, pos, ok, tk, h => by simp [chkOr] at h
  | .nev, c, X, W, ps, pos, ok, tk, h => by simp [chkOr] at h
theorem sndEs : ∀ (es : Es) {c : Cn} {X : Cx} {W : WX} {ps : List Expr}, XOk X T G kw k c → Takes X W → chkEs T G kw c es ps = true → PA X ps (tEvs X T G k W es) ∧ ps.all nst = true
  | .nil, c, X, W, ps, ok, tk, h => by
    simp only [chkEs, List.isEmpty_iff] at h
    subst h
    exact ⟨paNil, rfl⟩
  | .cons e es, c, X, W, ps, ok, tk, h => by
    simp only [chkEs] at h
    split at h
    · simp only [Bool.and_eq_true] at h
      obtain ⟨⟨h1, h2⟩, h3⟩ := h
      have z := sndEs es ok tk h3
      exact ⟨paCons (sndE e ok tk h1).1 z.1 h2, by rw [List.all_cons, h2, z.2]; rfl⟩
    · cases h
theorem sndKs : ∀ (es : Es) {c : Cn} {X : Cx} {W : WX} {ps : List Keyword}, XOk X T G kw k c → Takes X W → chkKs T G kw c es ps = true → PK X ps (tEvs X T G k W es)
  | .nil, c, X, W, ps, ok, tk, h => by
    simp only [chkKs, List.isEmpty_iff] at h
    subst h
    exact pkNil
  | .cons e es, c, X, W, ps, ok, tk, h => by
    simp only [chkKs] at h
    split at h
    · simp only [Bool.and_eq_true] at h
      exact pkCons (sndE e ok tk h.1).1 (sndKs es ok tk h.2)
    · cases h
theorem sndIt : ∀ (it : Ev.It) {c : Cn} {X : Cx} {W : WX} {t p : Expr}, XOk X T G kw k c → Takes X W → chkIt T G kw c it t p = true → PI X t p (tIt X T G k W it)
  | .va e, c, X, W, t, p, ok, tk, h => by
    simp only [chkIt] at h
    exact piVa (sndE e ok tk h).1
  | .rg1 e, c, X, W, t, p, ok, tk, h => by
    simp only [chkIt] at h
    split at h
    · simp only [Bool.and_eq_true, beq_iff_eq, Bool.not_eq_true'] at h
      obtain ⟨⟨⟨⟨rfl, h2⟩, h3⟩, h4⟩, h5⟩ := h
      exact piRg1 ok (glB_ok ok.sc h2) (sndE e ok tk h3).1 h4 h5
    · cases h
  | .rg2 a b, c, X, W, t, p, ok, tk, h => by
    simp only [chkIt] at h
    split at h
    · simp only [Bool.and_eq_true, beq_iff_eq, Bool.not_eq_true'] at h
      obtain ⟨⟨⟨⟨⟨⟨⟨rfl, h2⟩, h3⟩, h4⟩, h5⟩, h6⟩, h7⟩, h8⟩ := h
      exact piRg2 ok (glB_ok ok.sc h2) (sndE a ok tk h3).1 (sndE b ok tk h4).1 h5 h6 h7 h8
    · cases h
  | .zp a b, c, X, W, t, p, ok, tk, h => by
    simp only [chkIt] at h
    split at h
    · simp only [Bool.and_eq_true, beq_iff_eq] at h
      obtain ⟨⟨⟨⟨⟨rfl, h2⟩, h3⟩, h4⟩, h5⟩, h6⟩ := h
      exact piZp ok (glB_ok ok.sc h2) (sndE a ok tk h3).1 (sndE b ok tk h4).1 h5 h6
    · cases h
  | .en a, c, X, W, t, p, ok, tk, h => by
    simp only [chkIt] at h
    split at h
    · simp only [Bool.and_eq_true, beq_iff_eq] at h
      obtain ⟨⟨⟨rfl, h2⟩, h3⟩, h4⟩ := h
      exact piEn ok (glB_ok ok.sc h2) (sndE a ok tk h3).1 h4
    · cases h
  | .st a, c, X, W, t, p, ok, tk, h => by
    simp only [chkIt] at h
    simp only [Bool.and_eq_true, Bool.not_eq_true'] at h
    exact piSt (sndE a ok tk h.1).1 h.2
end
end
end Ev

set_option Elab.async false
set_option linter.all false
set_option maxRecDepth 100000
/-! Statements. -/
namespace Ev
open PySem PySem.Spec PyProof.Rows L2

section
variable {K : PySem.W.Frag} {H0 H H' : Hp} {ω0 ω ω' : Wd} {σ : L2.St} {env : Env} {st : St}
theorem Ext.wtrans {H1 : Hp} {ω1 : Wd} (a : Ext H0 ω0 H ω) (b : Ext H ω H1 ω1) : Ext H0 ω0 H1 ω1 := a.trans b
/-- a name holds an own list that is new -/
theorem REnv.newOwn (x0 : Ext H0 ω0 H ω) (re : REnv K H0 H ω σ env) (x : Ext H ω H' ω') {i : Nat} {a : Addr} {vs : List V} {xs : List D} (hi : i < env.length) (hn : H a = none) (hv : H' a = some (.lst vs)) (hf : a ∉ ω'.φ) (hF : ¬ ω'.F a)
    (hl : xs.length ≤ sizeLine) (hr : Reps K H' ω' vs xs) : REnv K H0 H' ω' (σ.set i (some (.ref a))) (env.set i (.ow xs)) := by
  have re' := re.ext x
  have hσ : i < σ.length := by rw [re.len]; exact hi
  have h0 : H0 a = none := by
    cases q : H0 a with
    | none => rfl
    | some o => exact absurd hn (x0.stay (by rw [q]; simp))
  have other : ∀ (j : Nat) (ys : List D), env[j]? = some (.ow ys) → σ[j]? = some (some (.ref a)) → False := fun j ys e1 e2 => by
    obtain ⟨b, ws, h1, h2, _⟩ := re.sl j _ e1
    rw [e2] at h1
    cases h1
    rw [hn] at h2
    cases h2
  refine ⟨by simpa using re.len, fun j s q => ?_, fun j k b ys zs q1 q2 q3 q4 => ?_⟩
  · by_cases e : i = j
    · subst e
      rw [List.getElem?_set_self hi] at q
      cases q
      exact ⟨a, vs, by rw [List.getElem?_set_self hσ], hv, hf, hF, h0, hl, hr⟩
    · rw [List.getElem?_set_ne e] at q
      have z := re'.sl j s q
      cases s with
      | no => trivial
      | va d => obtain ⟨v, h1, h2⟩ := z; exact ⟨v, by rw [List.getElem?_set_ne e]; exact h1, h2⟩
      | ow ys => obtain ⟨b, ws, h1, r⟩ := z; exact ⟨b, ws, by rw [List.getElem?_set_ne e]; exact h1, r⟩
  · by_cases e1 : i = j
    · by_cases e2 : i = k
      · exact e1.symm.trans e2
      · subst e1
        rw [List.getElem?_set_self hσ] at q3
        cases q3
        rw [List.getElem?_set_ne e2] at q2 q4
        exact (other k zs q2 q4).elim
    · by_cases e2 : i = k
      · subst e2
        rw [List.getElem?_set_self hσ] at q4
        cases q4
        rw [List.getElem?_set_ne e1] at q1 q3
        exact (other j ys q1 q3).elim
      · rw [List.getElem?_set_ne e1] at q1 q3
        rw [List.getElem?_set_ne e2] at q2 q4
        exact re.un j k b ys zs q1 q2 q3 q4
/-- an own list is rewritten -/
theorem REnv.mutOwn (re : REnv K H0 H ω σ env) {i : Nat} {a : Addr} {us vs : List V} {ys xs : List D} (he : env[i]? = some (.ow ys)) (hs : σ[i]? = some (some (.ref a))) (hv : H a = some (.lst us)) (hF : ¬ ω.F a)
    (hl : xs.length ≤ sizeLine) (hr : Reps K H ω vs xs) : REnv K H0 (upd H a (.lst vs)) ω σ (env.set i (.ow xs)) := by
  have hi : i < env.length := (List.getElem?_eq_some_iff.mp he).1
  have x := WExt.own (ys := vs) hv hF
  refine ⟨by simpa using re.len, fun j s q => ?_, fun j k b zs ws q1 q2 q3 q4 => ?_⟩
  · by_cases e : i = j
    · subst e
      rw [List.getElem?_set_self hi] at q
      cases q
      obtain ⟨b, ws, h1, h2, h3, h4, h5, _, _⟩ := re.sl i _ he
      rw [hs] at h1
      cases h1
      exact ⟨a, vs, hs, upd_same, h3, h4, h5, hl, Reps.wext x _ hr⟩
    · rw [List.getElem?_set_ne e] at q
      have z := re.sl j s q
      cases s with
      | no => trivial
      | va d => obtain ⟨v, h1, h2⟩ := z; exact ⟨v, h1, Rep.wext x _ h2⟩
      | ow zs =>
        obtain ⟨b, ws, h1, h2, h3, h4, h5, h6, h7⟩ := z
        have hb : b ≠ a := fun w => by
          subst w
          exact e (re.un i j b ys zs he q hs h1)
        exact ⟨b, ws, h1, by rw [upd_ne hb]; exact h2, h3, h4, h5, h6, Reps.wext x _ h7⟩
  · have tr : ∀ {j : Nat} {zs : List D}, (env.set i (.ow xs))[j]? = some (.ow zs) → ∃ zs', env[j]? = some (.ow zs') := fun {j zs} q => by
      by_cases e : i = j
      · subst e; exact ⟨ys, he⟩
      · rw [List.getElem?_set_ne e] at q; exact ⟨zs, q⟩
    obtain ⟨z1, q1⟩ := tr q1
    obtain ⟨z2, q2⟩ := tr q2
    exact re.un j k b _ _ q1 q2 q3 q4
/-- a cell is rewritten -/
theorem Sim.setCell (s : Sim K H ω st) {n : Nat} {a : Addr} {c : C} {o : HO} (ha : ω.φ[n]? = some a) (hc : CellR K (upd H a o) ω a c) : Ext H ω (upd H a o) ω ∧ Sim K (upd H a o) ω (st.set n c) := by
  have ham : a ∈ ω.φ := List.mem_of_getElem? ha
  have x : Ext H ω (upd H a o) ω := ⟨List.prefix_refl _, fun _ h => h, fun b u e q => by rw [upd_ne (fun z => q (by rw [z]; exact ham))]; exact e, fun _ h => .inl h, fun _ h => .inl h, fun b _ q => by
    by_cases e : b = a
    · subst e; rw [upd_same]; simp
    · rw [upd_ne e]; exact q⟩
  obtain ⟨c0, hc0⟩ := s.has ha
  have hn : n < st.length := (List.getElem?_eq_some_iff.mp hc0).1
  refine ⟨x, by rw [List.length_set]; exact s.len, s.nd, s.nF, fun b hb => x.stay (s.hF b hb), fun m d e => ?_⟩
  by_cases hm : n = m
  · subst hm
    rw [List.getElem?_set_self hn] at e
    cases e
    exact ⟨a, ha, hc⟩
  · rw [List.getElem?_set_ne hm] at e
    obtain ⟨b, h1, h2⟩ := s.cell m d e
    have hb : b ≠ a := fun z => by
      subst z
      obtain ⟨g1, g2⟩ := List.getElem?_eq_some_iff.mp ha
      obtain ⟨g3, g4⟩ := List.getElem?_eq_some_iff.mp h1
      exact hm ((List.getElem_inj s.nd).mp (g2.trans g4.symm))
    exact ⟨b, h1, h2.ext x fun u q => by rw [upd_ne hb]; exact q⟩
end

section
variable (X : Cx) (T : Nm) (G : Pg) (k : Nat) (W : WX)
/-- what is wanted behind a statement, by the tree's end -/
def PostO (D : Ends) (H0 : Hp) (ω0 : Wd) (H : Hp) (ω : Wd) : O → Prop
  | .nx env st => ∀ σ' H' ω', WExt H ω H' ω' → Ext H0 ω0 H' ω' → Sim X.K H' ω' st → REnv X.K H0 H' ω' σ' env → D.nx σ' H'
  | .bk env st => ∀ σ' H' ω', WExt H ω H' ω' → Ext H0 ω0 H' ω' → Sim X.K H' ω' st → REnv X.K H0 H' ω' σ' env → D.bk σ' H'
  | .ct env st => ∀ σ' H' ω', WExt H ω H' ω' → Ext H0 ω0 H' ω' → Sim X.K H' ω' st → REnv X.K H0 H' ω' σ' env → D.ct σ' H'
  | .rt d st => ∀ v H' ω', Ext H0 ω0 H' ω' → Sim X.K H' ω' st → Rep X.K H' ω' v d → D.rt v H'
  | .ex x env st => ∀ c da σ' H' ω', Ext H0 ω0 H' ω' → Sim X.K H' ω' st → XRep X.K X.mg T H' ω' c da x → W c da σ' H'
  | .no => False
def tS (s : S) : TS := fun D σ H => ∃ ω st env H0 ω0, Sim X.K H ω st ∧ REnv X.K H0 H ω σ env ∧ Ext H0 ω0 H ω ∧ PostO X T W D H0 ω0 H ω (exec (callN G k) G.gl env st s)
def tSs (ss : Ss) : TS := fun D σ H => ∃ ω st env H0 ω0, Sim X.K H ω st ∧ REnv X.K H0 H ω σ env ∧ Ext H0 ω0 H ω ∧ PostO X T W D H0 ω0 H ω (execs (callN G k) G.gl env st ss)
end
section
variable {X : Cx} {T : Nm} {G : Pg} {k : Nat} {W : WX} {c : Cn} {kw : List Kw} {pos p1 p2 : Pos} {p q r : Expr} {a b e : E} {σ : L2.St} {H0 H H' : Hp} {ω0 ω ω' : Wd} {D : Ends} {env : Env} {st : St}
theorem PostO.mono (x : WExt H ω H' ω') {r : O} (h : PostO X T W D H0 ω0 H ω r) : PostO X T W D H0 ω0 H' ω' r := by
  cases r with
  | nx env st => exact fun σ' H2 ω2 e2 => h σ' H2 ω2 (x.trans e2)
  | bk env st => exact fun σ' H2 ω2 e2 => h σ' H2 ω2 (x.trans e2)
  | ct env st => exact fun σ' H2 ω2 e2 => h σ' H2 ω2 (x.trans e2)
  | rt d st => exact h
  | ex y env st => exact h
  | no => exact h
theorem stepO {r : R Ev.D} {f : Ev.D → St → O} {Q1 : VK} (x0 : Ext H0 ω0 H ω) (h : PostO X T W D H0 ω0 H ω (r.o env f))
    (q : ∀ d st1 v H1 ω1, Ext H ω H1 ω1 → Sim X.K H1 ω1 st1 → RepE X.K H1 ω1 a v d → Ext H0 ω0 H1 ω1 → PostO X T W D H0 ω0 H1 ω1 (f d st1) → Q1 v H1) : PostE X T W σ Q1 H ω a r := by
  cases r with
  | ok d st => exact fun v H1 ω1 e1 s1 r1 => q d st v H1 ω1 e1 s1 r1 (x0.trans e1) (PostO.mono e1.w h)
  | ex y st => exact fun c da H' ω' e s x => h c da σ H' ω' (x0.trans e) s x
  | no => exact h
/-- what a def's text may lean on -/
structure SOk (X : Cx) (T : Nm) (G : Pg) (kw : List Kw) (k : Nat) (c : Cn) (W : WX) : Prop where
  ok : XOk X T G kw k c
  tk : Takes X W
  po : PassesOwn (model X.prog X.w) X.A X.env X.xe
  kind : X.env.scope.kind = .function

/-! ### simple statements -/
theorem psRet (hp : PE X p (tEv X T G k W e)) (hn : e.isO = false) : PS X (.Return (some p) pos) (tS X T G k W (.ret e)) :=
  (ps_ret hp).weak fun D σ H ⟨ω, st, env, H0, ω0, sim, re, x0, h⟩ => by
    simp only [exec] at h
    exact ⟨ω, st, env, H0, sim, re, stepO x0 h fun d st1 v H1 ω1 e1 s1 r1 x1 h => h v H1 ω1 x1 s1 (r1.rep hn)⟩
theorem psRetN : PS X (.Return none pos) (tS X T G k W (.ret (.cst .non))) :=
  ps_retN.weak fun D σ H ⟨ω, st, env, H0, ω0, sim, re, x0, h⟩ => by
    simp only [exec, ev, R.o_ok] at h
    exact h .non H ω x0 sim (by simp only [Rep])
theorem psRetO {i : Nat} {x : Str} (ok : XOk X T G kw k c) (hN : c.N[i]? = some x) (hv : visB c.sc x = true) (hd : okNm x = true) : PS X (.Return (some (.Name x p1)) pos) (tS X T G k W (.retO i)) := by
  obtain ⟨h3, h4⟩ := okNm_ok hd
  refine (ps_ret (pe_var (i := i) (by rw [ok.N]; exact hN) (by rw [ok.sc]; exact visB_ok hv) h3 h4)).weak fun D σ H ⟨ω, st, env, H0, ω0, sim, re, x0, h⟩ => ?_
  simp only [exec] at h
  split at h
  · rename_i xs he
    obtain ⟨a, vs, h1, h2, h3, h4, h5, h6, h7⟩ := re.sl i _ he
    refine ⟨_, h1, h (.ref a) H (ω.frz a) (x0.freeze h5) (sim.freeze (by rw [h2]; simp) h3) ?_⟩
    simp only [Rep]
    exact ⟨a, vs, rfl, ⟨h2, h3, .inr rfl⟩, h6, Reps.rext (RExt.freeze ω H a) _ h7⟩
  · exact h.elim
theorem psExp (hp : PE X p (tEv X T G k W e)) (hs : swapsWith p none pos.line X.env = pure false) : PS X (.Expr p pos) (tS X T G k W (.exp e)) :=
  (ps_expr hp hs).weak fun D σ H ⟨ω, st, env, H0, ω0, sim, re, x0, h⟩ => by
    simp only [exec] at h
    exact ⟨ω, st, env, H0, sim, re, stepO x0 h fun d st1 v H1 ω1 e1 s1 r1 x1 h => h σ H1 ω1 (WExt.refl _ _) x1 s1 (re.ext e1)⟩
theorem psPss : PS X (.Pass pos) (tS X T G k W .pss) :=
  ps_pass.weak fun D σ H ⟨ω, st, env, H0, ω0, sim, re, x0, h⟩ => by
    simp only [exec] at h
    exact h σ H ω (WExt.refl _ _) x0 sim re
theorem psBrk : PS X (.Break pos) (tS X T G k W .brk) :=
  ps_break.weak fun D σ H ⟨ω, st, env, H0, ω0, sim, re, x0, h⟩ => by
    simp only [exec] at h
    exact h σ H ω (WExt.refl _ _) x0 sim re
theorem psCnt : PS X (.Continue pos) (tS X T G k W .cnt) :=
  ps_continue.weak fun D σ H ⟨ω, st, env, H0, ω0, sim, re, x0, h⟩ => by
    simp only [exec] at h
    exact h σ H ω (WExt.refl _ _) x0 sim re
theorem psNev {s : Stmt} : PS X s (tS X T G k W .nev) :=
  ps_never.weak fun D σ H ⟨ω, st, env, H0, ω0, sim, re, x0, h⟩ => by
    simp only [exec] at h
    exact h
theorem psIte {as bs : List Stmt} {sa sb : Ss} (hc : PT X p (tT X T G k W e)) (hn : e.isO = false) (ha : PSs X as (tSs X T G k W sa)) (hb : PSs X bs (tSs X T G k W sb)) : PS X (.If p as bs pos) (tS X T G k W (.ite e sa sb)) :=
  (ps_if hc ha hb).weak fun D σ H ⟨ω, st, env, H0, ω0, sim, re, x0, h⟩ => by
    simp only [exec] at h
    refine ⟨ω, st, env, H0, sim, re, stepO x0 h fun d st1 v H1 ω1 e1 s1 r1 x1 h => ?_⟩
    have r1 := r1.rep hn
    cases d with
    | bl z =>
      refine ⟨z, r1.isBl, ?_⟩
      cases z with
      | true => rw [if_pos rfl]; exact ⟨ω1, st1, env, H0, ω0, s1, re.ext e1, x1, h⟩
      | false => rw [if_neg Bool.false_ne_true]; exact ⟨ω1, st1, env, H0, ω0, s1, re.ext e1, x1, h⟩
    | _ => exact h.elim
theorem pssNil : PSs X [] (tSs X T G k W .nil) :=
  pss_nil.weak fun D σ H ⟨ω, st, env, H0, ω0, sim, re, x0, h⟩ => by
    simp only [execs] at h
    exact h σ H ω (WExt.refl _ _) x0 sim re
theorem pssCons {s : Stmt} {ss : List Stmt} {t : S} {ts : Ss} (h1 : PS X s (tS X T G k W t)) (h2 : PSs X ss (tSs X T G k W ts)) : PSs X (s :: ss) (tSs X T G k W (.cons t ts)) :=
  (pss_cons h1 h2).weak fun D σ H ⟨ω, st, env, H0, ω0, sim, re, x0, h⟩ => by
    simp only [execs] at h
    refine ⟨ω, st, env, H0, ω0, sim, re, x0, ?_⟩
    cases hx : exec (callN G k) G.gl env st t with
    | nx env' st' =>
      rw [hx] at h
      exact fun σ' H' ω' w x s r => ⟨ω', st', env', H0, ω0, s, r, x, PostO.mono w h⟩
    | bk env' st' => rw [hx] at h; exact h
    | ct env' st' => rw [hx] at h; exact h
    | rt d st' => rw [hx] at h; exact h
    | ex y env' st' => rw [hx] at h; exact h
    | no => rw [hx] at h; exact h
theorem psWhl {bs : List Stmt} {sb : Ss} (sk : SOk X T G kw k c W) (hc : PT X p (tT X T G k W e)) (hn : e.isO = false) (hb : PSs X bs (tSs X T G k W sb)) : PS X (.While p bs [] pos) (tS X T G k W (.whl e sb)) :=
  (ps_while sk.po hc hb).weak fun D σ H ⟨ω, st, env, H0, ω0, sim, re, x0, h⟩ => by
    simp only [exec] at h
    refine ⟨fun m σ H => ∃ ω st env, Sim X.K H ω st ∧ REnv X.K H0 H ω σ env ∧ Ext H0 ω0 H ω ∧ PostO X T W D H0 ω0 H ω (whlLoop (fun env st => ev (callN G k) G.gl env st e) (fun env st => execs (callN G k) G.gl env st sb) m env st), ⟨fuel, ω, st, env, sim, re, x0, h⟩, ?_⟩
    rintro m σ H ⟨ω, st, env, sim, re, x0, h⟩
    cases m with
    | zero => exact h.elim
    | succ m =>
      simp only [whlLoop] at h
      refine ⟨ω, st, env, H0, sim, re, stepO x0 h fun d st1 v H1 ω1 e1 s1 r1 x1 h => ?_⟩
      have r1 := r1.rep hn
      cases d with
      | bl z =>
        refine ⟨z, r1.isBl, ?_⟩
        cases z with
        | false => rw [if_neg Bool.false_ne_true]; exact h σ H1 ω1 (WExt.refl _ _) x1 s1 (re.ext e1)
        | true =>
          rw [if_pos rfl]
          refine ⟨_, fun σ' H' hw => ⟨m, Nat.lt_succ_self m, hw⟩, ω1, st1, env, H0, ω0, s1, re.ext e1, x1, ?_⟩
          simp only at h
          cases hx : execs (callN G k) G.gl env st1 sb with
          | nx env' st' => rw [hx] at h; exact fun σ' H' ω' w x s r => ⟨ω', st', env', s, r, x, PostO.mono w h⟩
          | ct env' st' => rw [hx] at h; exact fun σ' H' ω' w x s r => ⟨ω', st', env', s, r, x, PostO.mono w h⟩
          | bk env' st' => rw [hx] at h; exact h
          | rt d st' => rw [hx] at h; exact h
          | ex y env' st' => rw [hx] at h; exact h
          | no => rw [hx] at h; exact h
      | _ => exact h.elim
theorem psFor {it : Ev.It} {tg : Tg} {ptg piter : Expr} {bs : List Stmt} {sb : Ss} (sk : SOk X T G kw k c W) (hi : PI X ptg piter (tIt X T G k W it)) (ho : it.isO = false) (hg : chkTg c.sc c.fn c.N tg ptg = true) (hb : PSs X bs (tSs X T G k W sb))
    (hs : ∀ x, foldedSetIterable piter X.env x = pure x) : PS X (.For ptg piter bs [] pos) (tS X T G k W (.for tg it sb)) :=
  (ps_for sk.po sk.ok.calm hi (pgTg sk.ok tg hg).1 hb hs).weak fun D σ H ⟨ω, st, env, H0, ω0, sim, re, x0, h⟩ => by
    simp only [exec] at h
    refine ⟨ω, st, env, H0, sim, re, ?_⟩
    cases hit : evIt (callN G k) G.gl env st it with
    | no => rw [hit] at h; exact h
    | ex y st1 => rw [hit] at h; exact fun cc da H' ω' e s x => h cc da σ H' ω' (x0.trans e) s x
    | ok pq st1 =>
      obtain ⟨ds, gs⟩ := pq
      rw [hit] at h
      simp only [R.o_ok] at h
      rw [ho]
      intro J H1 ω1 e1 s1 hw
      have h := PostO.mono e1.w h
      revert h
      generalize hF : (fun x env st => match asgTg tg x env with
        | some env1 => execs (callN G k) G.gl env1 st sb
        | none => .no : Ev.D → Env → St → O) = F
      intro h
      refine ⟨fun i m σ H => m = ds.length - i ∧ i ≤ ds.length ∧ ∃ ω st env, WExt H1 ω1 H ω ∧ Ext H0 ω0 H ω ∧ Sim X.K H ω st ∧ REnv X.K H0 H ω σ env ∧ PostO X T W D H0 ω0 H ω (forLoop F gs (ds.drop i) env st),
        ⟨ds.length, rfl, Nat.zero_le _, ω1, st1, env, WExt.refl _ _, x0.trans e1, s1, re.ext e1, h⟩, ?_⟩
      rintro i m σ H ⟨rfl, hi, ω, st, env, w1, x0, sim, re, h⟩
      cases hd : ds.drop i with
      | nil =>
        have hi' : i = ds.length := by
          have := congrArg List.length hd
          simp at this
          omega
        subst hi'
        rw [hd] at h
        unfold forLoop at h
        split at h
        · rename_i hg
          obtain ⟨_, h2, _⟩ := hw H ω st env w1 sim hg
          exact .inl ⟨h2, h σ H ω (WExt.refl _ _) x0 sim re⟩
        · exact h.elim
      | cons x xs =>
        obtain ⟨hx, hxs, hlt⟩ := sub_some hd
        rw [hd] at h
        unfold forLoop at h
        split at h
        · rename_i hg
          obtain ⟨h1, _, h3⟩ := hw H ω st env w1 sim hg
          refine .inr ⟨h1 i hlt, fun σ' H' => ∃ ω' st' env', WExt H1 ω1 H' ω' ∧ Ext H0 ω0 H' ω' ∧ Sim X.K H' ω' st' ∧ REnv X.K H0 H' ω' σ' env' ∧ PostO X T W D H0 ω0 H' ω' (forLoop F gs xs env' st'),
            fun σ' H' ⟨ω', st', env', q1, q2, q3, q4, q5⟩ => ⟨ds.length - (i + 1), by omega, rfl, hlt, ω', st', env', q1, q2, q3, q4, by rw [hxs]; exact q5⟩, fun y H' yl => ?_⟩
          obtain ⟨ω2, e2, s2, r2⟩ := h3 i x hx y H' yl
          have h := PostO.mono e2.w h
          rw [← hF] at h
          simp only at h
          cases ha : asgTg tg x env with
          | none => rw [ha] at h; exact h.elim
          | some env1 =>
            rw [ha] at h
            simp only at h
            refine ⟨ω2, x, env, env1, H0, r2, re.ext e2, ha, fun σ2 re2 _ => ⟨ω2, st, env1, H0, ω0, s2, re2, x0.trans e2, ?_⟩⟩
            rw [hF] at h
            cases hx : execs (callN G k) G.gl env1 st sb with
            | nx env' st' => rw [hx] at h; exact fun σ' H'' ω' w xx s r => ⟨ω', st', env', (w1.trans e2.w).trans w, xx, s, r, PostO.mono w h⟩
            | ct env' st' => rw [hx] at h; exact fun σ' H'' ω' w xx s r => ⟨ω', st', env', (w1.trans e2.w).trans w, xx, s, r, PostO.mono w h⟩
            | bk env' st' => rw [hx] at h; exact h
            | rt d st' => rw [hx] at h; exact h
            | ex y env' st' => rw [hx] at h; exact h
            | no => rw [hx] at h; exact h
        · exact h.elim
end
end Ev

set_option Elab.async false
set_option linter.all false
set_option maxRecDepth 100000
/-! Assignments. -/
namespace Ev
open PySem PySem.Spec PyProof.Rows L2

section
variable {X : Cx} {T : Nm} {G : Pg} {k : Nat} {W : WX} {c : Cn} {kw : List Kw} {pos p1 p2 : Pos} {p q r : Expr} {a b e : E} {σ : L2.St} {H0 H H' : Hp} {ω0 ω ω' : Wd} {env : Env} {st : St}
/-! ### [.. for ..] as a value that is stored -/
def PostL (X : Cx) (T : Nm) (W : WX) (σ : L2.St) (Q : VK) (H : Hp) (ω : Wd) : R D → Prop
  | .ok (.lst ys) st => ∀ H1 ω1, Ext H ω H1 ω1 → LcQ X Q H1 ω1 ys st
  | .ok _ _ => False
  | .ex x st => ∀ c da H' ω', Ext H ω H' ω' → Sim X.K H' ω' st → XRep X.K X.mg T H' ω' c da x → W c da σ H'
  | .no => False
theorem lcKey2 {it : Ev.It} {tg : Tg} {own : List Nat} {elt cond : E} {Q : VK} (sim : Sim X.K H ω st) (re : REnv X.K H0 H ω σ env) (hsl : ∀ i ∈ tg.slots, i ∈ own) (hc : cond.isO = false) (he : elt.isO = false)
    (h : PostL X T W σ Q H ω (ev (callN G k) G.gl env st (.lc elt tg it cond own))) :
    tLc (tIt X T G k W it) (tG X.K tg) (tT X T G k noW cond) (tEv X T G k noW elt) own σ H Q := by
  simp only [ev] at h
  refine ⟨ω, st, env, H0, sim, re, ?_⟩
  cases hi : evIt (callN G k) G.gl env st it with
  | no => rw [hi] at h; exact h.elim
  | ex x st1 => rw [hi] at h; exact h
  | ok pq st1 =>
    obtain ⟨ds, gs⟩ := pq
    rw [hi] at h
    simp only [R.bind_ok] at h
    intro J H1 ω1 e1 s1 hw A hA
    split at h
    · rename_i hz
      revert h
      generalize hl : lcLoop _ gs env ds st1 = r
      intro h
      cases r with
      | no => exact h.elim
      | ex x st2 => exact h.elim
      | ok ys st2 => exact lcTurns (re.ext e1) s1 hw hz hsl hc he hl (h H1 ω1 e1) A hA
    · exact h.elim
/-- a comprehension's parts -/
structure LcP (X : Cx) (T : Nm) (G : Pg) (k : Nat) (W : WX) (elt : E) (tg : Tg) (it : Ev.It) (cond : E) (own : List Nat) (pe ptg pit : Expr) (ifs : List Expr) (scope : Scope) : Prop where
  own' : ∃ own' : List (Str × Nat), own'.map (·.2) = own ∧ BlkOk X.N X.env.scope scope own'
  hi : PI X ptg pit (tIt X T G k W it)
  hg : ∀ (s : Shared) (H : Hp) (C : Addr) (cl : List (Str × Addr)) (fp : List Addr), PG (X.blk s H scope (compEnvC scope cl C X.env) fp) ptg (tG X.K tg)
  ht : ∀ (s : Shared) (H : Hp) (C : Addr) (cl : List (Str × Addr)) (fp : List Addr), PTs (X.blk s H scope (compEnvC scope cl C X.env) fp) ifs (tT X T G k noW cond)
  hel : ∀ (s : Shared) (H : Hp) (C : Addr) (cl : List (Str × Addr)) (fp : List Addr), PE (X.blk s H scope (compEnvC scope cl C X.env) fp) pe (tEv X T G k noW elt)
  hs : ∀ x, foldedSetIterable pit X.env x = pure x
  hsl : ∀ i ∈ tg.slots, i ∈ own
  hc : cond.isO = false
  he : elt.isO = false
theorem lcParts {elt : E} {tg : Tg} {it : Ev.It} {cond : E} {own : List Nat} {pe : Expr} {gs : List Comprehension} {scope : Scope} (ok : XOk X T G kw k c) (tk : Takes X W) (h : chkE T G kw c (.lc elt tg it cond own) (.ListComp pe gs scope pos) = true) :
    ∃ ptg pit ifs, gs = [⟨ptg, pit, ifs, 0⟩] ∧ LcP X T G k W elt tg it cond own pe ptg pit ifs scope := by
  simp only [chkE] at h
  split at h
  · rename_i pe ptg pit ifs scope pos heq
    cases heq
    simp only [Bool.and_eq_true, Bool.not_eq_true', List.all_eq_true, decide_eq_true_eq] at h
    obtain ⟨⟨⟨⟨⟨⟨⟨⟨h1, h2⟩, h3⟩, h4⟩, h5⟩, h6⟩, h7⟩, h8⟩, h9⟩ := h
    refine ⟨ptg, pit, ifs, rfl, ⟨_, own_map c.N own, blkOk_by (by rw [ok.N, ok.sc]; exact h1)⟩, sndIt it ok tk h2, fun s H C cl fp => (pgTg (ok.blk s H scope C cl fp) tg h4).1, fun s H C cl fp => lcIfs_pts ?_, fun s H C cl fp => (sndE elt (ok.blk s H scope C cl fp) takes_no h8).1, folded_of h3, h5, h6, h7⟩
    split at h9
    · exact .inl ⟨rfl, isYes_ok h9⟩
    · rename_i q
      rw [Bool.and_eq_true] at h9
      exact .inr ⟨q, rfl, (sndE cond (ok.blk s H scope C cl fp) takes_no h9.1).2 h9.2⟩
    · cases h9
  · cases h
/-- is name = [..] one of those stores that the machine does at once? -/
def swB (sc : Scope) (y : Str) (py : Pos) : Expr → Bool
  | .ListComp _ _ scope pos => decide (sc.names.lookup y = some .local) && (py.line == pos.line) && !(scope.names.any fun (n, k) => n == y && (k == .local || k == .cell))
  | _ => false
def notC2 : Expr → Bool
  | .SetComp _ _ _ _ => false
  | .DictComp _ _ _ _ _ => false
  | _ => true
theorem swEq {env : PySem.Env} {y : Str} {py : Pos} {l : Nat} (hk : env.scope.kind = .function) (h : notC2 p = true) : swapsWith p (some (.Name y py)) l env = pure (swB env.scope y py p) := by
  have hb : env.blockKind = .function := by unfold Env.blockKind; rw [hk]; rfl
  cases p <;> first
    | (cases h; done)
    | (unfold swapsWith swB
       simp only [hb, Env.kindOf]
       have e : (env.scope.names.lookup y == some NameKind.local) = decide (env.scope.names.lookup y = some NameKind.local) := by
         by_cases q : env.scope.names.lookup y = some NameKind.local
         · rw [q]; rfl
         · rw [decide_eq_false q]; exact beq_eq_false_iff_ne.mpr q
       rw [e]
       rfl)
    | rfl
/-- name = a comprehension -/
theorem psLc {i : Nat} {y : Str} {py spos : Pos} {elt : E} {tg : Tg} {it : Ev.It} {cond : E} {own : List Nat} {pe ptg pit : Expr} {ifs : List Expr} {scope : Scope} (sk : SOk X T G kw k c W) (hN : c.N[i]? = some y) (hl : locB c.sc c.fn y = true)
    (h : LcP X T G k W elt tg it cond own pe ptg pit ifs scope) : PS X (.Assign [.Name y py] (.ListComp pe [⟨ptg, pit, ifs, 0⟩] scope pos) spos) (tAsg (tLc (tIt X T G k W it) (tG X.K tg) (tT X T G k noW cond) (tEv X T G k noW elt) own) (gName i)) := by
  obtain ⟨own', rfl, hb⟩ := h.own'
  obtain ⟨h2, h3⟩ := locB_ok hl
  have hNd : X.N.Nodup := by rw [sk.ok.N]; exact sk.ok.nd
  have hy : X.N[i]? = some y := by rw [sk.ok.N]; exact hN
  have hsw := swEq (py := py) (l := spos.line) (y := y) (p := .ListComp pe [⟨ptg, pit, ifs, 0⟩] scope pos) sk.kind rfl
  cases hq : swB X.env.scope y py (.ListComp pe [⟨ptg, pit, ifs, 0⟩] scope pos) with
  | true =>
    rw [hq] at hsw
    have hloc : X.env.scope.names.lookup y = some .local := by
      unfold swB at hq
      simp only [Bool.and_eq_true, decide_eq_true_eq] at hq
      exact hq.1.1
    exact ps_setLc sk.ok.calm hNd hy hloc hsw h.hi hb h.hg h.ht h.hel h.hs
  | false =>
    rw [hq] at hsw
    exact ps_set hNd hy (by rw [sk.ok.sc]; exact h2) (pe_lc sk.ok.calm hNd h.hi hb h.hg h.ht h.hel h.hs) hsw (by rw [sk.ok.fn, sk.ok.sc]; exact h3)
end
end Ev

set_option Elab.async false
set_option linter.all false
set_option maxRecDepth 100000
/-! Assignments to names; own lists. -/
namespace Ev
open PySem PySem.Spec PyProof.Rows L2

section
variable {X : Cx} {T : Nm} {G : Pg} {k : Nat} {W : WX} {c : Cn} {kw : List Kw} {pos p1 p2 apos : Pos} {p q r : Expr} {a b e : E} {σ : L2.St} {H0 H H' : Hp} {ω0 ω ω' : Wd} {env : Env} {st : St}
theorem evLc_lst {elt : E} {tg : Tg} {it : Ev.It} {cond : E} {own : List Nat} {cf : Cf} {gl : Nat → Option D} {env : Env} {st st' : St} {d : D} (h : ev cf gl env st (.lc elt tg it cond own) = .ok d st') : ∃ ys, d = .lst ys := by
  simp only [ev] at h
  obtain ⟨pq, st1, _, h⟩ := bind_ok' h
  split at h
  · obtain ⟨ys, st2, _, h⟩ := bind_ok' h
    cases h
    exact ⟨ys, rfl⟩
  · cases h
theorem none_back (x : Ext H ω H' ω') {a : Addr} (h : H' a = none) : H a = none := by
  cases q : H a with
  | none => rfl
  | some o => exact absurd h (x.stay (by rw [q]; simp))
theorem setV_eq {env env' : Env} {i : Nat} {s : Sl} (h : setV env i s = some env') : i < env.length ∧ env' = env.set i s := by
  unfold setV at h
  split at h
  · rename_i q
    cases h
    exact ⟨q, rfl⟩
  · cases h
/-! ### values that are stored: represented, or a new own list -/
def PostV (o : Bool) (X : Cx) (T : Nm) (W : WX) (σ : L2.St) (Q : VK) (H : Hp) (ω : Wd) : R D → Prop
  | .ok d st => if o = true then ∃ xs, d = .lst xs ∧ ∀ A H' ω' vs, H A = none → Ext H ω H' ω' → Sim X.K H' ω' st → H' A = some (.lst vs) → A ∉ ω'.φ → ¬ ω'.F A → xs.length ≤ sizeLine → Reps X.K H' ω' vs xs → Q (.ref A) H'
    else ∀ v H' ω', Ext H ω H' ω' → Sim X.K H' ω' st → Rep X.K H' ω' v d → Q v H'
  | .ex x st => ∀ c da H' ω', Ext H ω H' ω' → Sim X.K H' ω' st → XRep X.K X.mg T H' ω' c da x → W c da σ H'
  | .no => False
def tVal (o : Bool) (X : Cx) (T : Nm) (G : Pg) (k : Nat) (W : WX) (e : E) : TE := fun σ H Q => ∃ ω st env H0, Sim X.K H ω st ∧ REnv X.K H0 H ω σ env ∧ PostV o X T W σ Q H ω (ev (callN G k) G.gl env st e)
theorem PostV.toE {Q : VK} {x : R D} (he : e.isO = false) (h : PostV false X T W σ Q H ω x) : PostE X T W σ Q H ω e x := by
  cases x with
  | ok d st => exact fun v H' ω' x s r => h v H' ω' x s (r.rep he)
  | ex y st => exact h
  | no => exact h
theorem peVal (hp : PE X p (tEv X T G k W e)) (he : e.isO = false) : PE X p (tVal false X T G k W e) :=
  hp.weak fun σ H Q ⟨ω, st, env, H0, sim, re, h⟩ => ⟨ω, st, env, H0, sim, re, h.toE he⟩
theorem peValL {es : Es} {ps : List Expr} (h : PA X ps (tEvs X T G k W es)) (hn : es.noO = true) (hl : es.len ≤ 1000) : PE X (.List ps pos) (tVal true X T G k W (.lst es)) :=
  (pe_lst h).weak fun σ H Q ⟨ω, st, env, H0, sim, re, h⟩ => by
    simp only [ev] at h
    refine ⟨ω, st, env, H0, sim, re, ?_⟩
    cases hx : evs (callN G k) G.gl env st es with
    | no => rw [hx] at h; exact h
    | ex y st1 => rw [hx] at h; exact h
    | ok ds st1 =>
      rw [hx] at h
      obtain ⟨xs, hd, h⟩ := h
      cases hd
      intro vs H1 ω1 e1 s1 r1
      have hz : ds.length ≤ sizeLine := by rw [r1.len.2]; exact Nat.le_trans hl (by decide)
      exact ⟨by rw [r1.len.1, ← r1.len.2]; exact hz, fun A hA => h A _ ω1 vs (none_back e1 hA) (e1.trans (Ext.updN s1 hA)) (s1.updN hA) upd_same (s1.fresh hA) (fun z => s1.hF A z hA) hz (Reps.ext (Ext.updN s1 hA) _ (r1.reps hn))⟩
theorem peValC {elt : E} {tg : Tg} {it : Ev.It} {cond : E} {own : List Nat} {pe ptg pit : Expr} {ifs : List Expr} {scope : Scope} (ok : XOk X T G kw k c) (h : LcP X T G k W elt tg it cond own pe ptg pit ifs scope) :
    PE X (.ListComp pe [⟨ptg, pit, ifs, 0⟩] scope pos) (tVal true X T G k W (.lc elt tg it cond own)) := by
  obtain ⟨own', rfl, hb⟩ := h.own'
  refine (pe_lc ok.calm (by rw [ok.N]; exact ok.nd) h.hi hb h.hg h.ht h.hel h.hs).weak fun σ H Q ⟨ω, st, env, H0, sim, re, hv⟩ => lcKey2 sim re h.hsl h.hc h.he ?_
  cases hx : ev (callN G k) G.gl env st (.lc elt tg it cond (own'.map (·.2))) with
  | no => rw [hx] at hv; exact hv
  | ex y st1 => rw [hx] at hv; exact hv
  | ok d st1 =>
    rw [hx] at hv
    obtain ⟨xs, rfl, hv⟩ := hv
    exact fun H1 ω1 e1 A H' ω' vs hA x s h1 h2 h3 h4 h5 => hv A H' ω' vs (none_back e1 hA) (e1.trans x) s h1 h2 h3 h4 h5
/-- a value is stored at a slot -/
theorem REnv.store {o : Bool} {D' : D} {u : Sl} {i : Nat} {v : V} {H1 : Hp} {ω1 : Wd} (x0 : Ext H0 ω0 H ω) (re : REnv X.K H0 H ω σ env) (x : Ext H ω H1 ω1) (hi : i < env.length) (hs : slot o D' = some u)
    (hv : if o = true then ∃ A vs xs, v = .ref A ∧ D' = .lst xs ∧ H A = none ∧ H1 A = some (.lst vs) ∧ A ∉ ω1.φ ∧ ¬ ω1.F A ∧ xs.length ≤ sizeLine ∧ Reps X.K H1 ω1 vs xs else Rep X.K H1 ω1 v D') : REnv X.K H0 H1 ω1 (σ.set i (some v)) (env.set i u) := by
  cases o with
  | true =>
    simp only [if_true] at hv
    obtain ⟨A, vs, xs, rfl, rfl, h1, h2, h3, h4, h5, h6⟩ := hv
    simp only [slot, if_true] at hs
    cases hs
    exact REnv.newOwn x0 re x hi h1 h2 h3 h4 h5 h6
  | false =>
    simp only [Bool.false_eq_true, if_false] at hv
    simp only [slot, Bool.false_eq_true, if_false] at hs
    cases hs
    exact (re.ext x).setV hi hv
theorem slot_true {d : D} {u : Sl} (h : slot true d = some u) : ∃ xs, d = .lst xs ∧ u = .ow xs := by
  cases d with
  | lst xs => simp only [slot, if_true] at h; cases h; exact ⟨xs, rfl, rfl⟩
  | _ => simp [slot] at h
/-- name = value, the value a stored one -/
theorem psStore {o : Bool} {i : Nat} {x : Str} {t : S} (sk : SOk X T G kw k c W) (hN : c.N[i]? = some x) (hl : locB c.sc c.fn x = true) (hp : PE X p (tVal o X T G k W e)) (hsw : swapsWith p (some (.Name x p1)) pos.line X.env = pure false)
    (ht : ∀ env st, exec (callN G k) G.gl env st t = (ev (callN G k) G.gl env st e).o env fun d st1 => match slot o d with
      | some u => match setV env i u with
        | some env1 => .nx env1 st1
        | none => .no
      | none => .no) : PS X (.Assign [.Name x p1] p pos) (tS X T G k W t) := by
  obtain ⟨h2, h3⟩ := locB_ok hl
  refine (ps_set (i := i) (by rw [sk.ok.N]; exact sk.ok.nd) (by rw [sk.ok.N]; exact hN) (by rw [sk.ok.sc]; exact h2) hp hsw (by rw [sk.ok.fn, sk.ok.sc]; exact h3)).weak fun D σ H ⟨ω, st, env, H0, ω0, sim, re, x0, h⟩ => ?_
  rw [ht] at h
  refine ⟨ω, st, env, H0, sim, re, ?_⟩
  cases hx : ev (callN G k) G.gl env st e with
  | no => rw [hx] at h; exact h
  | ex y st1 => rw [hx] at h; exact fun cc da H' ω' e s x => h cc da σ H' ω' (x0.trans e) s x
  | ok d st1 =>
    rw [hx] at h
    simp only [R.o_ok] at h
    cases hs : slot o d with
    | none => rw [hs] at h; exact h.elim
    | some u =>
      rw [hs] at h
      simp only at h
      cases hv : setV env i u with
      | none => rw [hv] at h; exact h.elim
      | some env1 =>
        rw [hv] at h
        obtain ⟨hi, rfl⟩ := setV_eq hv
        cases o with
        | true =>
          obtain ⟨xs, rfl, rfl⟩ := slot_true hs
          exact ⟨xs, rfl, fun A H' ω' vs hA x s h1 h2 h3 h4 h5 => h _ H' ω' x.w (x0.trans x) s (REnv.newOwn x0 re x hi hA h1 h2 h3 h4 h5)⟩
        | false =>
          simp only [slot, Bool.false_eq_true, if_false] at hs
          cases hs
          exact fun v H' ω' x s r => h _ H' ω' x.w (x0.trans x) s ((re.ext x).setV hi r)
/-- .. of a comprehension -/
theorem psStoreC {o : Bool} {i : Nat} {x : Str} {t : S} {elt : E} {tg : Tg} {it : Ev.It} {cond : E} {own : List Nat} {pe ptg pit : Expr} {ifs : List Expr} {scope : Scope} {py : Pos} (sk : SOk X T G kw k c W) (hN : c.N[i]? = some x) (hl : locB c.sc c.fn x = true)
    (hp : LcP X T G k W elt tg it cond own pe ptg pit ifs scope)
    (ht : ∀ env st, exec (callN G k) G.gl env st t = (ev (callN G k) G.gl env st (.lc elt tg it cond own)).o env fun d st1 => match slot o d with
      | some u => match setV env i u with
        | some env1 => .nx env1 st1
        | none => .no
      | none => .no) : PS X (.Assign [.Name x py] (.ListComp pe [⟨ptg, pit, ifs, 0⟩] scope p1) pos) (tS X T G k W t) := by
  refine (psLc sk hN hl hp).weak fun D σ H ⟨ω, st, env, H0, ω0, sim, re, x0, h⟩ => ?_
  rw [ht] at h
  refine lcKey2 sim re hp.hsl hp.hc hp.he ?_
  cases hx : ev (callN G k) G.gl env st (.lc elt tg it cond own) with
  | no => rw [hx] at h; exact h
  | ex y st1 => rw [hx] at h; exact fun cc da H' ω' e s x => h cc da σ H' ω' (x0.trans e) s x
  | ok d st1 =>
    obtain ⟨ys, rfl⟩ := evLc_lst hx
    rw [hx] at h
    simp only [R.o_ok] at h
    cases hs : slot o (.lst ys) with
    | none => rw [hs] at h; exact h.elim
    | some u =>
      rw [hs] at h
      simp only at h
      cases hv : setV env i u with
      | none => rw [hv] at h; exact h.elim
      | some env1 =>
        rw [hv] at h
        obtain ⟨hi, rfl⟩ := setV_eq hv
        intro H1 ω1 e1 A H' ω' vs hA x s h1 h2 h3 h4 h5
        have hA0 := none_back e1 hA
        cases o with
        | true =>
          obtain ⟨xs, e, rfl⟩ := slot_true hs
          cases e
          exact h _ H' ω' (e1.trans x).w (x0.trans (e1.trans x)) s (REnv.newOwn x0 re (e1.trans x) hi hA0 h1 h2 h3 h4 h5)
        | false =>
          simp only [slot, Bool.false_eq_true, if_false] at hs
          cases hs
          have xf : Ext H ω H' (ω'.frz A) := (e1.trans x).freeze hA0
          refine h _ H' (ω'.frz A) xf.w (x0.trans xf) (s.freeze (by rw [h1]; simp) h2) ((re.ext xf).setV hi ?_)
          simp only [Rep]
          exact ⟨A, vs, rfl, ⟨h1, h2, .inr rfl⟩, h4, Reps.rext (RExt.freeze ω' H' A) _ h5⟩
/-! ### x, y = a, b -/
theorem psPar {oi oj : Bool} {i j : Nat} {x y : Str} {px py pt pt2 : Pos} {kt k2 : Nat} (sk : SOk X T G kw k c W) (hi : c.N[i]? = some x) (hj : c.N[j]? = some y) (hij : i ≠ j) (hx : c.sc.names.lookup x = some .local) (hy : c.sc.names.lookup y = some .local)
    (hp : PE X p (tVal oi X T G k W a)) (hq : PE X q (tVal oj X T G k W b)) (h1 : nst p = true) (h2 : nst q = true)
    (hw : swappedStores [.Tuple [.Name x px, .Name y py] kt pt] (.Tuple [p, q] k2 pt2) X.env = pure (some [x, y])) :
    PS X (.Assign [.Tuple [.Name x px, .Name y py] kt pt] (.Tuple [p, q] k2 pt2) pos) (tS X T G k W (.par i oi j oj a b)) := by
  refine (ps_par sk.ok.calm (by rw [sk.ok.N]; exact sk.ok.nd) (by rw [sk.ok.N]; exact hi) (by rw [sk.ok.N]; exact hj) hij (by rw [sk.ok.sc]; exact hx) (by rw [sk.ok.sc]; exact hy) (pa_cons hp (pa_cons hq pa_nil (star_cons h2)) (star_cons h1)) hw).weak
    fun D σ H ⟨ω, st, env, H0, ω0, sim, re, x0, h⟩ => ?_
  simp only [exec] at h
  refine ⟨ω, st, env, H0, sim, re, ?_⟩
  -- what the second value leads to
  have second : ∀ (u : Sl) (d : Ev.D) (st1 : St) (v : V) (H1 : Hp) (ω1 : Wd), slot oi d = some u → Ext H ω H1 ω1 → Sim X.K H1 ω1 st1 →
      (if oi = true then ∃ A vs xs, v = .ref A ∧ d = .lst xs ∧ H A = none ∧ H1 A = some (.lst vs) ∧ A ∉ ω1.φ ∧ ¬ ω1.F A ∧ xs.length ≤ sizeLine ∧ Reps X.K H1 ω1 vs xs else Rep X.K H1 ω1 v d) →
      PostO X T W D H0 ω0 H1 ω1 ((ev (callN G k) G.gl env st1 b).o env fun y st2 => match slot oj y with
        | some v => match setV env i u with
          | some env1 => match setV env1 j v with
            | some env2 => if i = j then .no else .nx env2 st2
            | none => .no
          | none => .no
        | none => .no) →
      tCons (tVal oj X T G k W b) tNil σ H1 fun vs H2 => ∃ v2 w, (v :: vs) = [v2, w] ∧ D.nx ((σ.set i (some v2)).set j (some w)) H2 := by
    intro u d st1 v H1 ω1 hs1 e1 s1 hv h
    refine ⟨ω1, st1, env, H0, s1, re.ext e1, ?_⟩
    cases hx : ev (callN G k) G.gl env st1 b with
    | no => rw [hx] at h; exact h
    | ex y st2 => rw [hx] at h; exact fun cc da H' ω' e s x => h cc da σ H' ω' ((x0.trans e1).trans e) s x
    | ok d2 st2 =>
      rw [hx] at h
      simp only [R.o_ok] at h
      cases hs2 : slot oj d2 with
      | none => rw [hs2] at h; exact h.elim
      | some u2 =>
        rw [hs2] at h
        simp only at h
        cases hv1 : setV env i u with
        | none => rw [hv1] at h; exact h.elim
        | some env1 =>
          rw [hv1] at h
          simp only at h
          obtain ⟨hi1, rfl⟩ := setV_eq hv1
          cases hv2 : setV (env.set i u) j u2 with
          | none => rw [hv2] at h; exact h.elim
          | some env2 =>
            rw [hv2] at h
            simp only [if_neg hij] at h
            obtain ⟨hj1, rfl⟩ := setV_eq hv2
            have re1 := REnv.store (X := X) x0 re e1 hi1 hs1 hv
            cases oj with
            | true =>
              obtain ⟨xs, rfl, rfl⟩ := slot_true hs2
              exact ⟨xs, rfl, fun A H' ω' vs hA x s q1 q2 q3 q4 q5 => ⟨v, .ref A, rfl, h _ H' ω' x.w ((x0.trans e1).trans x) s (REnv.newOwn (x0.trans e1) re1 x hj1 hA q1 q2 q3 q4 q5)⟩⟩
            | false =>
              simp only [slot, Bool.false_eq_true, if_false] at hs2
              cases hs2
              exact fun w H' ω' x s r => ⟨v, w, rfl, h _ H' ω' x.w ((x0.trans e1).trans x) s ((re1.ext x).setV hj1 r)⟩
  cases hx : ev (callN G k) G.gl env st a with
  | no => rw [hx] at h; exact h
  | ex y st1 => rw [hx] at h; exact fun cc da H' ω' e s x => h cc da σ H' ω' (x0.trans e) s x
  | ok d st1 =>
    rw [hx] at h
    simp only [R.o_ok] at h
    cases hs1 : slot oi d with
    | none => rw [hs1] at h; exact h.elim
    | some u =>
      rw [hs1] at h
      simp only at h
      cases oi with
      | true =>
        obtain ⟨xs, rfl, _⟩ := slot_true hs1
        exact ⟨xs, rfl, fun A H' ω' vs hA x s q1 q2 q3 q4 q5 => second u _ st1 _ H' ω' hs1 x s (by simp only [if_true]; exact ⟨A, vs, xs, rfl, rfl, hA, q1, q2, q3, q4, q5⟩) (PostO.mono x.w h)⟩
      | false => exact fun v H' ω' x s r => second u d st1 v H' ω' hs1 x s (by simp only [Bool.false_eq_true, if_false]; exact r) (PostO.mono x.w h)
end
end Ev

set_option Elab.async false
set_option linter.all false
set_option maxRecDepth 100000
/-! Own lists, targets with subscripts, dicts that are updated. -/
namespace Ev
open PySem PySem.Spec PyProof.Rows L2

section
variable {X : Cx} {T : Nm} {G : Pg} {k : Nat} {W : WX} {c : Cn} {kw : List Kw} {pos p1 p2 apos cpos : Pos} {p q r : Expr} {a b e : E} {σ : L2.St} {H0 H H' : Hp} {ω0 ω ω' : Wd} {env : Env} {st : St}
theorem few_of {cpos : Pos} {env : PySem.Env} (h : nst q = true) : ((backTo cpos (starEach [q] env)).all (fun x => !x.1) && (backToKw cpos (keywordEach [] env)).all (fun x => x.1.isSome)
      && decide ([q].length + ([] : List Keyword).length + (if ([] : List Keyword).isEmpty then 0 else 1) < 30)) = true := by
  rw [star_cons h]
  rfl
/-- an own list, read -/
theorem ownAt {i : Nat} {xs : List D} (re : REnv X.K H0 H ω σ env) (he : env[i]? = some (.ow xs)) : ∃ a vs, σ[i]? = some (some (.ref a)) ∧ H a = some (.lst vs) ∧ a ∉ ω.φ ∧ ¬ ω.F a ∧ H0 a = none ∧ xs.length ≤ sizeLine ∧ Reps X.K H ω vs xs := re.sl i _ he
/-- x.append(e) -/
theorem psApp {i : Nat} {x : Str} (sk : SOk X T G kw k c W) (hN : c.N[i]? = some x) (hv : visB c.sc x = true) (hd : okNm x = true) (hq : PE X q (tEv X T G k W e)) (hn : e.isO = false) (h1 : nst q = true) (hl : (apos.endLine == cpos.line) = true) :
    PS X (.Expr (.Call (.Attribute (.Name x p1) "append" apos) [q] [] cpos) pos) (tS X T G k W (.appO i e)) := by
  obtain ⟨h3, h4⟩ := okNm_ok hd
  refine (ps_expr (pe_bm PySem.F.plainAttrs_list PySem.F.slot_list_append PySem.F.type_list_append mt_append (pe_var (i := i) (by rw [sk.ok.N]; exact hN) (by rw [sk.ok.sc]; exact visB_ok hv) h3 h4) (pa_cons hq pa_nil (star_cons h1)) rfl (few_of h1) hl (star_cons h1) rfl)).weak
    fun D σ H ⟨ω, st, env, H0, ω0, sim, re, x0, h⟩ => ?_
  simp only [exec] at h
  split at h
  · rename_i xs he
    obtain ⟨A, vs, hs, hA, hφ, hF, h0, hz, hr⟩ := ownAt re he
    refine ⟨.ref A, hs, .inl ⟨rfl, vs, .inl (.inl hA)⟩, ω, st, env, H0, sim, re, stepO x0 h fun d st1 v H1 ω1 e1 s1 r1 x1 h => ?_⟩
    have r1 := r1.rep hn
    have re1 := re.ext e1
    obtain ⟨A', vs', hs', hA', hφ', hF', _, _, hr'⟩ := ownAt re1 he
    rw [hs] at hs'
    cases hs'
    split at h
    · rename_i hlt
      have hl : vs'.length = xs.length := hr'.length
      refine ⟨A, vs', v, rfl, rfl, hA', by omega, ?_⟩
      refine h σ (upd H1 A (.lst (vs' ++ [v]))) ω1 (WExt.own hA' hF') (x1.young h0) (s1.own hA' hφ' hF') (re1.mutOwn he hs hA' hF' (by simp; omega) (hr'.append ?_))
      simp only [Reps]
      exact ⟨r1, trivial⟩
    · exact h.elim
  · exact h.elim
/-- x.extend(e) -/
theorem psExt {i : Nat} {x : Str} (sk : SOk X T G kw k c W) (hN : c.N[i]? = some x) (hv : visB c.sc x = true) (hd : okNm x = true) (hq : PE X q (tEv X T G k W e)) (h1 : nst q = true) (hl : (apos.endLine == cpos.line) = true) :
    PS X (.Expr (.Call (.Attribute (.Name x p1) "extend" apos) [q] [] cpos) pos) (tS X T G k W (.extO i e)) := by
  obtain ⟨h3, h4⟩ := okNm_ok hd
  refine (ps_expr (pe_bm PySem.F.plainAttrs_list PySem.F.slot_list_extend PySem.F.type_list_extend mt_extend (pe_var (i := i) (by rw [sk.ok.N]; exact hN) (by rw [sk.ok.sc]; exact visB_ok hv) h3 h4) (pa_cons hq pa_nil (star_cons h1)) rfl (few_of h1) hl (star_cons h1) rfl)).weak
    fun D σ H ⟨ω, st, env, H0, ω0, sim, re, x0, h⟩ => ?_
  simp only [exec] at h
  split at h
  · rename_i xs he
    obtain ⟨A, vs, hs, hA, hφ, hF, h0, hz, hr⟩ := ownAt re he
    refine ⟨.ref A, hs, .inl ⟨rfl, vs, .inl (.inl hA)⟩, ω, st, env, H0, sim, re, stepO x0 h fun d st1 v H1 ω1 e1 s1 r1 x1 h => ?_⟩
    have rt := r1.t s1
    have re1 := re.ext e1
    obtain ⟨A', vs', hs', hA', hφ', hF', _, _, hr'⟩ := ownAt re1 he
    rw [hs] at hs'
    cases hs'
    split at h
    · rename_i ys heq
      rw [heq] at rt
      obtain ⟨B, ws, rfl, hB, hyl, hyr⟩ := rt.lst
      split at h
      · rename_i hlt
        have hl : vs'.length = xs.length := hr'.length
        have hl2 : ws.length = ys.length := hyr.length
        refine ⟨A, B, vs', ws, rfl, rfl, hA', hB, by omega, ?_⟩
        exact h σ (upd H1 A (.lst (vs' ++ ws))) ω1 (WExt.own hA' hF') (x1.young h0) (s1.own hA' hφ' hF') (re1.mutOwn he hs hA' hF' (by simp; omega) (hr'.append hyr))
      · exact h.elim
    · exact h.elim
  · exact h.elim
theorem sub_asg {o : Expr} {env : PySem.Env} (h : plainIx q = true) : ∀ v, assign (.Subscript o q p2) env v = (do
      let ov ← holding [v] (eval o env)
      let iv ← holding [v, ov] (eval q env)
      standAt p2
      holding [v, ov, iv] (setItem ov iv v)
      release [v, ov, iv] []) := by
  cases q <;> first | (intro v; rfl) | cases h
/-- x[a] = e -/
theorem psSetO {i : Nat} {x : Str} (sk : SOk X T G kw k c W) (hN : c.N[i]? = some x) (hv : visB c.sc x = true) (hd : okNm x = true) (hp : PE X p (tEv X T G k W e)) (hn : e.isO = false) (hq : PE X q (tEv X T G k W a)) (hm : a.isO = false) (hix : plainIx q = true)
    (hsw : swapsWithSole [.Subscript (.Name x p1) q p2] p pos.line X.env = pure false) : PS X (.Assign [.Subscript (.Name x p1) q p2] p pos) (tS X T G k W (.setO i a e)) := by
  obtain ⟨h3, h4⟩ := okNm_ok hd
  refine (ps_asg hp (pg_sub (pe_var (i := i) (by rw [sk.ok.N]; exact hN) (by rw [sk.ok.sc]; exact visB_ok hv) h3 h4) hq set_list (sub_asg hix)) hsw (by unfold swappedStores; rfl)).weak fun D σ H ⟨ω, st, env, H0, ω0, sim, re, x0, h⟩ => ?_
  simp only [exec] at h
  refine ⟨ω, st, env, H0, sim, re, stepO x0 h fun d st1 v H1 ω1 e1 s1 r1 x1 h => ?_⟩
  have r1 := r1.rep hn
  split at h
  · rename_i xs he
    have re1 := re.ext e1
    obtain ⟨A, vs, hs, hA, hφ, hF, h0, hz, hr⟩ := ownAt re1 he
    refine ⟨.ref A, hs, ω1, st1, env, H0, s1, re1, stepO x1 h fun d2 st2 v2 H2 ω2 e2 s2 r2 x2 h => ?_⟩
    have r2 := r2.rep hm
    have re2 := re1.ext e2
    obtain ⟨A', vs', hs', hA', hφ', hF', _, _, hr'⟩ := ownAt re2 he
    rw [hs] at hs'
    cases hs'
    cases d2 with
    | int kk =>
      simp only [Rep] at r2
      subst r2
      simp only at h
      split at h
      · rename_i j hj
        refine ⟨A, vs', kk, j, rfl, rfl, hA', by rw [hr'.length]; exact hj, ?_⟩
        exact h σ _ ω2 (WExt.own hA' hF') (x2.young h0) (s2.own hA' hφ' hF') (re2.mutOwn he hs hA' hF' (by simpa using hz) (hr'.set j (Rep.ext e2 _ r1)))
      · exact h.elim
    | _ => exact h.elim
  · exact h.elim
theorem psAug {i : Nat} {x : Str} {op : Bo} (hop : op = .add ∨ op = .sub) (sk : SOk X T G kw k c W) (hN : c.N[i]? = some x) (hl : locB c.sc c.fn x = true) (hp : PE X p (tEv X T G k W e)) (hn : e.isO = false) : PS X (.AugAssign (.Name x p1) op.py p pos) (tS X T G k W (.aug i op e)) := by
  obtain ⟨h2, h3⟩ := locB_ok hl
  have base : ∀ {f : Int → Int → Int} (ho : PIp X op.py (ipI f)) (hf : ∀ env st, exec (callN G k) G.gl env st (.aug i op e) = match env[i]? with
      | some (.va x) => (ev (callN G k) G.gl env st e).o env fun y st1 => match x, y with
        | .int a, .int b => .nx (env.set i (.va (.int (f a b)))) st1
        | _, _ => .no
      | _ => .no), PS X (.AugAssign (.Name x p1) op.py p pos) (tS X T G k W (.aug i op e)) := fun {f} ho hf => by
    refine (ps_aug (i := i) (by rw [sk.ok.N]; exact sk.ok.nd) (by rw [sk.ok.N]; exact hN) (by rw [sk.ok.sc]; exact h2) hp ho (by rw [sk.ok.fn, sk.ok.sc]; exact h3)).weak fun D σ H ⟨ω, st, env, H0, ω0, sim, re, x0, h⟩ => ?_
    rw [hf] at h
    split at h
    · rename_i d he
      obtain ⟨v, hv, r0⟩ := re.sl i _ he
      refine ⟨v, hv, ω, st, env, H0, sim, re, stepO x0 h fun d2 st1 v2 H1 ω1 e1 s1 r1 x1 h => ?_⟩
      have r1 := r1.rep hn
      cases d with
      | int m =>
        cases d2 with
        | int n =>
          simp only [Rep] at r0 r1
          subst r0
          subst r1
          exact ⟨m, n, rfl, rfl, h _ H1 ω1 (WExt.refl _ _) x1 s1 ((re.ext e1).setV (List.getElem?_eq_some_iff.mp he).1 (by simp only [Rep]))⟩
        | _ => exact h.elim
      | _ => exact h.elim
    · exact h.elim
  cases op with
  | add =>
    refine base ip_add fun env st => ?_
    simp only [exec]
    cases env[i]? with
    | none => rfl
    | some s =>
      cases s with
      | va d => cases ev (callN G k) G.gl env st e <;> (first | rfl | (rename_i y st1; cases d <;> cases y <;> rfl))
      | no => rfl
      | ow xs => rfl
  | sub =>
    refine base ip_sub fun env st => ?_
    simp only [exec]
    cases env[i]? with
    | none => rfl
    | some s =>
      cases s with
      | va d => cases ev (callN G k) G.gl env st e <;> (first | rfl | (rename_i y st1; cases d <;> cases y <;> rfl))
      | no => rfl
      | ow xs => rfl
  | _ => rcases hop with h | h <;> cases h
/-! ### d.update(..) -/
def rUpd : V → List V → Hp → VK → Prop := fun x vs H Q => ∃ (a b : Addr) (kvs more : List (Key × V)), x = .ref a ∧ vs = [.ref b] ∧ a ≠ b ∧ H a = some (.dK kvs) ∧ H b = some (.dK more) ∧ kvs.length + more.length ≤ sizeLine ∧ Q .non (upd H a (.dK (mergeK kvs more)))
theorem mt_upd : MtR X "dict.update" rUpd := by
  rintro pins s σ H x vs v us Q I rx rv ⟨A, B, kvs, more, rfl, rfl, hne, hA, hB, hz, q⟩
  cases rx
  obtain ⟨u, rfl, ru⟩ := rv.one
  cases ru
  obtain ⟨z, hd, ws, rel, dd⟩ := dk_of I.hok hA
  obtain ⟨z2, hd2, ws2, rel2, dd2⟩ := dk_of I.hok hB
  refine call_meetsIn PySem.F.slot_dict_update dd.typeIs PySem.F.entry_dict_update (PySem.F.args_dict_update_2 _ _) (meets_dict_update (mixKind X.prog X.w) A B hne hd2) ⟨ws, ws2, dd, dd2, by rw [← rel.length, ← rel2.length]; exact hz, fun h' dd' _ hs => ?_⟩
  have he : ∃ q, h'.get? A = some q := let ⟨q, _, _, hq, _⟩ := dd'; ⟨q, hq⟩
  exact ⟨.non, _, d_write (t' := s.toks) I (by rw [hA]; exact True.intro) hs he (dk_new (Nat.le_trans (length_mergeK more kvs) hz) hd (KV.merge rel2 rel) dd'), rfl, q⟩
theorem psUpd (sk : SOk X T G kw k c W) (hp : PE X p (tEv X T G k W a)) (hn : a.isO = false) (hq : PE X q (tEv X T G k W b)) (hm : b.isO = false) (h1 : nst q = true) (hl : (apos.endLine == cpos.line) = true) (hb : attributeBase p "update" X.env (eval p X.env) = eval p X.env) :
    PS X (.Expr (.Call (.Attribute p "update" apos) [q] [] cpos) pos) (tS X T G k W (.updC a b)) := by
  refine (ps_expr (pe_bm PySem.F.plainAttrs_dict PySem.F.slot_dict_update PySem.F.type_dict_update mt_upd hp (pa_cons hq pa_nil (star_cons h1)) hb (few_of h1) hl (star_cons h1) rfl)).weak fun D σ H ⟨ω, st, env, H0, ω0, sim, re, x0, h⟩ => ?_
  simp only [exec] at h
  refine ⟨ω, st, env, H0, sim, re, stepO x0 h fun d st1 v H1 ω1 e1 s1 r1 x1 h => ?_⟩
  have r1 := r1.rep hn
  cases d with
  | ref n =>
    simp only [Rep] at r1
    obtain ⟨A, hA, rfl⟩ := r1
    simp only at h
    split at h
    · rename_i qs hc1
      obtain ⟨A', hA', ps, hps, hk⟩ := s1.cell n _ hc1
      rw [hA] at hA'
      cases hA'
      refine ⟨.inr (.inr (.inl ⟨rfl, .inl ⟨ps, hps⟩⟩)), ω1, st1, env, H0, s1, re.ext e1, stepO x1 h fun d2 st2 v2 H2 ω2 e2 s2 r2 x2 h => ?_⟩
      have r2 := r2.rep hm
      cases d2 with
      | ref m =>
        simp only [Rep] at r2
        obtain ⟨B, hB, rfl⟩ := r2
        simp only at h
        split at h
        · rename_i kvs more hc hc2
          split at h
          · rename_i hnm
            have hA2 := e2.at hA
            obtain ⟨A2, hA3, ps2, hps2, hk2⟩ := s2.cell n _ hc
            rw [hA2] at hA3
            cases hA3
            obtain ⟨B2, hB3, qs2, hqs2, hk3⟩ := s2.cell m _ hc2
            rw [hB] at hB3
            cases hB3
            have hAB : A ≠ B := fun z => by
              subst z
              obtain ⟨g1, g2⟩ := List.getElem?_eq_some_iff.mp hA2
              obtain ⟨g3, g4⟩ := List.getElem?_eq_some_iff.mp hB
              exact hnm.1 ((List.getElem_inj s2.nd).mp (g2.trans g4.symm))
            have l1 := hk2.len.1
            have l2 := hk3.len.1
            have z : RepK X.K H2 ω2 (mergeK ps2 qs2) (mergeD kvs more) := RepK.merge hk3 hk2
            have cell : CellR X.K (upd H2 A (.dK (mergeK ps2 qs2))) ω2 A (.dct (mergeD kvs more)) := ⟨_, upd_same, z.ext ⟨List.prefix_refl _, fun _ h => h, fun b u e q => by rw [upd_ne (fun z => q (by rw [z]; exact List.mem_of_getElem? hA2))]; exact e, fun _ h => .inl h, fun _ h => .inl h, fun b _ q => by
              by_cases e : b = A
              · subst e; rw [upd_same]; simp
              · rw [upd_ne e]; exact q⟩⟩
            obtain ⟨xx, ss⟩ := s2.setCell hA2 cell
            refine ⟨A, B, ps2, qs2, rfl, rfl, hAB, hps2, hqs2, by omega, ?_⟩
            exact h σ _ ω2 xx.w (x2.trans xx) ss (((re.ext e1).ext e2).ext xx)
          · exact h.elim
        · exact h.elim
      | _ => exact h.elim
    · exact h.elim
  | _ => exact h.elim
end
end Ev

set_option Elab.async false
set_option linter.all false
set_option maxRecDepth 100000
/-! Targets of all forms; statements checked by computing. -/
namespace Ev
open PySem PySem.Spec PyProof.Rows L2

def tTt (X : Cx) (T : Nm) (G : Pg) (k : Nat) (W : WX) (t : Tt) : TG := fun v σ H Q => ∃ ω d st env H0 ω0, Sim X.K H ω st ∧ REnv X.K H0 H ω σ env ∧ Ext H0 ω0 H ω ∧ Rep X.K H ω v d ∧
  PostO X T W ⟨Q, fun _ _ => False, fun _ _ => False, fun _ _ => False⟩ H0 ω0 H ω (asgT (callN G k) G.gl env st t d)
def tTts (X : Cx) (T : Nm) (G : Pg) (k : Nat) (W : WX) (ts : List Tt) : TGs := fun vs σ H Q => ∃ ω ds st env H0 ω0, Sim X.K H ω st ∧ REnv X.K H0 H ω σ env ∧ Ext H0 ω0 H ω ∧ Reps X.K H ω vs ds ∧
  PostO X T W ⟨Q, fun _ _ => False, fun _ _ => False, fun _ _ => False⟩ H0 ω0 H ω (asgTs (callN G k) G.gl env st ts ds)
section
variable (T : Nm) (G : Pg) (kw : List Kw) (c : Cn)
mutual
def chkTt : Tt → Expr → Bool
  | .nm i, p => match p with
    | .Name x _ => decide (c.N[i]? = some x) && locB c.sc c.fn x
    | _ => false
  | .sub a i, p => match p with
    | .Subscript o q _ => chkE T G kw c a o && chkE T G kw c i q && !a.isO && !i.isO && plainIx q
    | _ => false
  | .tp ts, p => match p with
    | .Tuple ps _ _ => chkTts ts ps
    | _ => false
def chkTts : List Tt → List Expr → Bool
  | [], ps => ps.isEmpty
  | t :: ts, ps => match ps with
    | p :: ps => chkTt t p && chkTts ts ps
    | [] => false
end
end
section
variable {X : Cx} {T : Nm} {G : Pg} {k : Nat} {W : WX} {c : Cn} {kw : List Kw}
/-- an end that a store may have -/
def O.plain : O → Bool
  | .nx _ _ => true
  | .ex _ _ _ => true
  | .no => true
  | _ => false
mutual
theorem asgT_plain {cf : Cf} {gl : Nat → Option D} : ∀ (t : Tt) (d : D) (env : Env) (st : St), (asgT cf gl env st t d).plain = true
  | .nm i, d, env, st => by
    simp only [asgT]
    split <;> rfl
  | .sub a i, d, env, st => by
    simp only [asgT]
    cases ev cf gl env st a with
    | no => rfl
    | ex x s => rfl
    | ok x s =>
      simp only [R.o_ok]
      cases ev cf gl env s i with
      | no => rfl
      | ex x s => rfl
      | ok y s =>
        simp only [R.o_ok]
        split
        · split
          · split <;> rfl
          · rfl
        · rfl
  | .tp ts, d, env, st => by
    simp only [asgT]
    split
    · split
      · exact asgTs_plain ts _ env st
      · rfl
    · rfl
theorem asgTs_plain {cf : Cf} {gl : Nat → Option D} : ∀ (ts : List Tt) (ds : List D) (env : Env) (st : St), (asgTs cf gl env st ts ds).plain = true
  | [], ds, env, st => by cases ds <;> (simp only [asgTs]; rfl)
  | t :: ts, ds, env, st => by
    cases ds with
    | nil => simp only [asgTs]; rfl
    | cons d ds =>
      simp only [asgTs]
      split
      · exact asgTs_plain ts _ _ _
      · rfl
      · rfl
end
mutual
theorem pgTt (ok : XOk X T G kw k c) (tk : Takes X W) : ∀ (t : Tt) {p : Expr}, chkTt T G kw c t p = true → PG X p (tTt X T G k W t) ∧ tgOk p = true
  | .nm i, p, h => by
    simp only [chkTt] at h
    split at h
    · rename_i x pos
      simp only [Bool.and_eq_true, decide_eq_true_eq] at h
      obtain ⟨h1, h2⟩ := h
      obtain ⟨h2, h3⟩ := locB_ok h2
      have g := pg_name (X := X) (i := i) (x := x) (pos := pos) (by rw [ok.N]; exact ok.nd) (by rw [ok.N]; exact h1) (by rw [ok.sc]; exact h2) (by rw [ok.fn, ok.sc]; exact h3)
      refine ⟨⟨fun pins s σ H v u Q I rv q => g.run pins s σ H v u Q I rv ?_⟩, rfl⟩
      obtain ⟨ω, d, st, env, H0, ω0, sim, re, x0, r, h⟩ := q
      simp only [asgT] at h
      split at h
      · rename_i env' hv
        obtain ⟨hi, rfl⟩ := setV_eq hv
        exact h _ H ω (WExt.refl _ _) x0 sim (re.setV hi r)
      · exact h.elim
    · cases h
  | .sub a i, p, h => by
    simp only [chkTt] at h
    split at h
    · rename_i o q pos
      simp only [Bool.and_eq_true, Bool.not_eq_true'] at h
      obtain ⟨⟨⟨⟨h1, h2⟩, h3⟩, h4⟩, h5⟩ := h
      have g := pg_sub (pos := pos) (sndE a ok tk h1).1 (sndE i ok tk h2).1 (set_list (X := X)) (sub_asg h5)
      refine ⟨⟨fun pins s σ H v u Q I rv q => g.run pins s σ H v u Q I rv ?_⟩, rfl⟩
      obtain ⟨ω, d, st, env, H0, ω0, sim, re, x0, r, h⟩ := q
      simp only [asgT] at h
      refine ⟨ω, st, env, H0, sim, re, stepO x0 h fun d1 st1 v1 H1 ω1 e1 s1 r1 x1 h => ⟨ω1, st1, env, H0, s1, re.ext e1, stepO x1 h fun d2 st2 v2 H2 ω2 e2 s2 r2 x2 h => ?_⟩⟩
      have r1 := r1.rep h3
      have r2 := r2.rep h4
      split at h
      · simp only [Rep] at r1 r2
        obtain ⟨A, hA, rfl⟩ := r1
        subst r2
        split at h
        · rename_i xs hc
          split at h
          · rename_i j hj
            have hA2 := e2.at hA
            obtain ⟨A2, hA3, vs, hvs, hl, hr⟩ := s2.cell _ _ hc
            rw [hA2] at hA3
            cases hA3
            refine ⟨A, vs, _, j, rfl, rfl, hvs, by rw [hr.length]; exact hj, ?_⟩
            have r3 := Rep.ext (e1.trans e2) _ r
            have xx : Ext H2 ω2 (upd H2 A (.lst (vs.set j v))) ω2 := ⟨List.prefix_refl _, fun _ h => h, fun b u e q => by rw [upd_ne (fun z => q (by rw [z]; exact List.mem_of_getElem? hA2))]; exact e, fun _ h => .inl h, fun _ h => .inl h, fun b _ q => by
              by_cases e : b = A
              · subst e; rw [upd_same]; simp
              · rw [upd_ne e]; exact q⟩
            obtain ⟨_, ss⟩ := s2.setCell (c := .lst (xs.set j d)) (o := .lst (vs.set j v)) hA2 ⟨_, upd_same, by simpa using hl, Reps.ext xx _ (hr.set j r3)⟩
            exact h σ _ ω2 xx.w (x2.trans xx) ss (((re.ext e1).ext e2).ext xx)
          · exact h.elim
        · exact h.elim
      · exact h.elim
    · cases h
  | .tp ts, p, h => by
    simp only [chkTt] at h
    split at h
    · rename_i ps kk pos
      obtain ⟨g, hl, hall⟩ := pgTts ok tk ts h
      obtain ⟨h1, h2⟩ := asg_all (env := X.env) hall
      have g := pg_tup (X := X) (k := kk) (pos := pos) (n := ts.length) ok.calm g (h1.trans hl) h2
      refine ⟨⟨fun pins s σ H v u Q I rv q => ?_⟩, rfl⟩
      obtain ⟨ω, d, st, env, H0, ω0, sim, re, x0, r, h⟩ := q
      simp only [asgT] at h
      split at h
      · rename_i ds
        refine g.run pins s σ H v u Q I rv ?_
        simp only [Rep] at r
        obtain ⟨A, vs, rfl, ht, hz, hr⟩ := r
        split at h
        · rename_i hlen
          exact ⟨A, vs, rfl, ht.sq, by rw [hr.length, hlen], ω, ds, st, env, H0, ω0, sim, re, x0, hr, h⟩
        · exact h.elim
      · exact h.elim
    · cases h
theorem pgTts (ok : XOk X T G kw k c) (tk : Takes X W) : ∀ (ts : List Tt) {ps : List Expr}, chkTts T G kw c ts ps = true → PGs X ps (tTts X T G k W ts) ∧ ps.length = ts.length ∧ ps.all tgOk = true
  | [], ps, h => by
    simp only [chkTts, List.isEmpty_iff] at h
    subst h
    refine ⟨⟨fun pins s σ H vs us Q I rv q => pgs_nil.run pins s σ H vs us Q I rv ?_⟩, rfl, rfl⟩
    obtain ⟨ω, ds, st, env, H0, ω0, sim, re, x0, r, h⟩ := q
    cases ds with
    | nil =>
      simp only [asgTs] at h
      cases vs with
      | nil => exact ⟨rfl, h σ H ω (WExt.refl _ _) x0 sim re⟩
      | cons v vs => exact r.elim
    | cons d ds => simp only [asgTs] at h; exact h.elim
  | t :: ts, ps, h => by
    simp only [chkTts] at h
    split at h
    · rename_i p ps
      simp only [Bool.and_eq_true] at h
      obtain ⟨g1, ho⟩ := pgTt ok tk t h.1
      obtain ⟨g2, hl, hall⟩ := pgTts ok tk ts h.2
      have g := pgs_cons g1 g2 (by rw [asg_cons ho]; rfl)
      refine ⟨⟨fun pins s σ H vs us Q I rv q => g.run pins s σ H vs us Q I rv ?_⟩, by simp [hl], by simp [ho]; simpa using hall⟩
      obtain ⟨ω, ds, st, env, H0, ω0, sim, re, x0, r, h⟩ := q
      cases ds with
      | nil => simp only [asgTs] at h; exact h.elim
      | cons d ds =>
        cases vs with
        | nil => exact r.elim
        | cons v vs =>
          simp only [Reps] at r
          simp only [asgTs] at h
          refine ⟨v, vs, rfl, ω, d, st, env, H0, ω0, sim, re, x0, r.1, ?_⟩
          have hno := asgT_plain (cf := callN G k) (gl := G.gl) t d env st
          cases hx : asgT (callN G k) G.gl env st t d with
          | nx env' st' => rw [hx] at h; exact fun σ' H' ω' w x s re' => ⟨ω', ds, st', env', H0, ω0, s, re', x, Reps.wext w _ r.2, PostO.mono w h⟩
          | ex y env' st' => rw [hx] at h; exact h
          | rt d' st' => rw [hx] at hno; cases hno
          | bk d' st' => rw [hx] at hno; cases hno
          | ct d' st' => rw [hx] at hno; cases hno
          | no => rw [hx] at h; exact h
    · cases h
end
end
end Ev

set_option Elab.async false
set_option linter.all false
set_option maxRecDepth 100000
/-! Statements checked by computing. -/
namespace Ev
open PySem PySem.Spec PyProof.Rows L2

def isLcE : E → Bool
  | .lc _ _ _ _ _ => true
  | _ => false
def isLstE : E → Bool
  | .lst _ => true
  | _ => false
def notLc : Expr → Bool
  | .ListComp _ _ _ _ => false
  | .SetComp _ _ _ _ => false
  | .DictComp _ _ _ _ _ => false
  | _ => true
def notTup : Expr → Bool
  | .Tuple _ _ _ => false
  | _ => true
def isNm : Expr → Bool
  | .Name _ _ => true
  | _ => false
def isSub : Expr → Bool
  | .Subscript _ _ _ => true
  | _ => false
def notCall : Expr → Bool
  | .Call _ _ _ _ => false
  | _ => true
theorem notLc_sw {p : Expr} {o : Option Expr} {l : Nat} {env : PySem.Env} (h : notLc p = true) : swapsWith p o l env = pure false := by
  cases p <;> first | (cases h; done) | rfl
theorem sole_sw {p t : Expr} {l : Nat} {env : PySem.Env} (h : notLc p = true) : swapsWithSole [t] p l env = pure false := notLc_sw h
theorem swapped_no {p t : Expr} {env : PySem.Env} (h : (notTup p || isSub t) = true) : swappedStores [t] p env = pure none := by
  cases t <;> first
    | (unfold swappedStores; rfl)
    | (cases p <;> first | (unfold swappedStores; rfl) | (cases h; done))
def parB (p q : Expr) : Bool := !([p, q].all (foldedForSure 8)) && !([p, q].all (constantsAlone 8))
theorem par_sw {x y : Str} {px py pt pt2 : Pos} {kt k2 : Nat} {p q : Expr} {env : PySem.Env} (hk : env.scope.kind = .function) (hx : env.scope.names.lookup x = some .local) (hy : env.scope.names.lookup y = some .local) (hxy : x ≠ y) (hl : (py.line == px.line) = true)
    (h1 : nst p = true) (h2 : nst q = true) (h3 : parB p q = true) : swappedStores [.Tuple [.Name x px, .Name y py] kt pt] (.Tuple [p, q] k2 pt2) env = pure (some [x, y]) := by
  have hb : env.blockKind = .function := by unfold Env.blockKind; rw [hk]; rfl
  unfold parB at h3
  rw [Bool.and_eq_true, Bool.not_eq_true', Bool.not_eq_true'] at h3
  have star : ∀ z : Expr, nst z = true → (match z with | .Starred .. => true | _ => false) = false := fun z hz => by cases z <;> first | rfl | cases hz
  have hp := star p h1
  have hq := star q h2
  have kx : env.kindOf x = some .local := hx
  have ky : env.kindOf y = some .local := hy
  have hxy' : (y == x) = false := beq_eq_false_iff_ne.mpr (Ne.symm hxy)
  unfold swappedStores
  simp only [hb, hp, hq, kx, ky, List.any_cons, List.any_nil, Bool.or_false, h3.1, h3.2, Expr.pos, List.length_cons, List.length_nil, List.head?_cons, Option.map_some, Option.getD_some, List.filterMap_cons, List.filterMap_nil, hl, beq_self_eq_true, Bool.and_self, if_true, Bool.true_or]
  have e : ([x, y].eraseDups).length = 2 := by
    rw [List.eraseDups_cons]
    simp [hxy', List.eraseDups_cons]
  simp [e]
  rintro (w | w)
  · cases (show false = true from hp.symm.trans w)
  · cases (show false = true from hq.symm.trans w)
/-- two names of which one is no plain local -/
def cellPair (sc : Scope) : Expr → Expr → Bool
  | .Tuple [.Name x _, .Name y _] _ _, .Tuple [p, q] _ _ => nst p && nst q && (decide (sc.names.lookup x ≠ some .local) || decide (sc.names.lookup y ≠ some .local))
  | _, _ => false
theorem pair_sw {t p : Expr} {env : PySem.Env} (hk : env.scope.kind = .function) (h : cellPair env.scope t p = true) : swappedStores [t] p env = pure none := by
  unfold cellPair at h
  split at h
  · rename_i x px y py kt pt p q k2 pt2
    simp only [Bool.and_eq_true, Bool.or_eq_true, decide_eq_true_eq] at h
    have hb : env.blockKind = .function := by unfold Env.blockKind; rw [hk]; rfl
    have star : ∀ z : Expr, nst z = true → (match z with | .Starred .. => true | _ => false) = false := fun z hz => by cases z <;> first | rfl | cases hz
    have hp := star p h.1.1
    have hq := star q h.1.2
    unfold swappedStores
    simp only [hb, List.any_cons, List.any_nil, Bool.or_false, List.length_cons, List.length_nil, List.head?_cons, Option.map_some, Option.getD_some, List.filterMap_cons, List.filterMap_nil, Expr.pos]
    have key : ∀ z : Str, env.scope.names.lookup z ≠ some .local → (env.kindOf z == some NameKind.local) = false := fun z hz => beq_eq_false_iff_ne.mpr hz
    rcases h.2 with z | z
    · have kx := key x z
      rcases Bool.eq_false_or_eq_true (env.kindOf y == some NameKind.local) with hc | hc <;> rcases Bool.eq_false_or_eq_true (py.line == px.line) with hl | hl <;>
        simp only [kx, hc, hl, Bool.false_and, Bool.and_false, Bool.and_true, Bool.false_eq_true, if_false, if_true, List.length_cons, List.length_nil] <;> (split <;> first | rfl | (split <;> first | rfl | (split <;> first | rfl | simp_all)))
    · have ky := key y z
      rcases Bool.eq_false_or_eq_true (env.kindOf x == some NameKind.local) with hc | hc <;> rcases Bool.eq_false_or_eq_true (px.line == px.line) with hl | hl <;>
        simp only [ky, hc, hl, Bool.false_and, Bool.and_false, Bool.and_true, Bool.false_eq_true, if_false, if_true, List.length_cons, List.length_nil] <;> (split <;> first | rfl | (split <;> first | rfl | (split <;> first | rfl | simp_all)))
  · cases h
section
variable (T : Nm) (G : Pg) (kw : List Kw)
/-- a value that is stored -/
def chkV (c : Cn) (o : Bool) (e : E) (p : Expr) : Bool := chkE T G kw c e p && !e.isO && (if o then isLstE e || isLcE e else true)
mutual
def chkS (c : Cn) : S → Stmt → Bool
  | .asg t e, s => match s with
    | .Assign [tg] p _ => match t, tg with
      | .nm i, .Name x _ => decide (c.N[i]? = some x) && locB c.sc c.fn x && chkV T G kw c false e p && (isLcE e || notLc p)
      | .nm _, _ => false
      | t, tg => chkTt T G kw c t tg && chkV T G kw c false e p && notLc p && (notTup p || isSub tg || cellPair c.sc tg p)
    | _ => false
  | .par i oi j oj a b, s => match s with
    | .Assign [.Tuple [.Name x px, .Name y py] _ _] (.Tuple [p, q] _ _) _ => decide (c.N[i]? = some x) && decide (c.N[j]? = some y) && !(decide (i = j)) && decide (c.sc.names.lookup x = some .local) && decide (c.sc.names.lookup y = some .local) && (py.line == px.line) &&
        decide (x ≠ y) && nst p && nst q && parB p q && chkV T G kw c oi a p && chkV T G kw c oj b q
    | _ => false
  | .newO i e, s => match s with
    | .Assign [.Name x _] p _ => decide (c.N[i]? = some x) && locB c.sc c.fn x && chkV T G kw c true e p && (isLcE e || notLc p)
    | _ => false
  | .appO i e, s => match s with
    | .Expr (.Call (.Attribute (.Name x _) m apos) [q] [] cpos) _ => m == ("append" : Str) && decide (c.N[i]? = some x) && visB c.sc x && okNm x && chkE T G kw c e q && !e.isO && nst q && (apos.endLine == cpos.line)
    | _ => false
  | .extO i e, s => match s with
    | .Expr (.Call (.Attribute (.Name x _) m apos) [q] [] cpos) _ => m == ("extend" : Str) && decide (c.N[i]? = some x) && visB c.sc x && okNm x && chkE T G kw c e q && nst q && (apos.endLine == cpos.line)
    | _ => false
  | .setO i a e, s => match s with
    | .Assign [.Subscript (.Name x _) q _] p _ => decide (c.N[i]? = some x) && visB c.sc x && okNm x && chkE T G kw c e p && !e.isO && chkE T G kw c a q && !a.isO && plainIx q && notLc p
    | _ => false
  | .aug i op e, s => match s with
    | .AugAssign (.Name x _) o p _ => decide (c.N[i]? = some x) && locB c.sc c.fn x && decide (o = op.py) && (decide (op = .add) || decide (op = .sub)) && chkE T G kw c e p && !e.isO
    | _ => false
  | .exp e, s => match s with
    | .Expr p _ => chkE T G kw c e p && notLc p
    | _ => false
  | .updC a b, s => match s with
    | .Expr (.Call (.Attribute p m apos) [q] [] cpos) _ => m == ("update" : Str) && chkE T G kw c a p && !a.isO && chkE T G kw c b q && !b.isO && nst q && (apos.endLine == cpos.line) && notCall p
    | _ => false
  | .ret e, s => match s with
    | .Return (some p) _ => chkE T G kw c e p && !e.isO
    | .Return none _ => isNonC e
    | _ => false
  | .retO i, s => match s with
    | .Return (some (.Name x _)) _ => decide (c.N[i]? = some x) && visB c.sc x && okNm x
    | _ => false
  | .ite e a b, s => match s with
    | .If p as bs _ => chkE T G kw c e p && notIf p && !e.isO && chkSs c a as && chkSs c b bs
    | _ => false
  | .whl e b, s => match s with
    | .While p bs [] _ => chkE T G kw c e p && notIf p && !e.isO && chkSs c b bs
    | _ => false
  | .for tg it b, s => match s with
    | .For ptg pit bs [] _ => chkIt T G kw c it ptg pit && !it.isO && chkTg c.sc c.fn c.N tg ptg && notSet pit && chkSs c b bs
    | _ => false
  | .brk, s => match s with
    | .Break _ => true
    | _ => false
  | .cnt, s => match s with
    | .Continue _ => true
    | _ => false
  | .pss, s => match s with
    | .Pass _ => true
    | .Expr (.Constant (.str _) _ _) _ => true
    | _ => false
  | .nev, _ => true
def chkSs (c : Cn) : Ss → List Stmt → Bool
  | .nil, ss => ss.isEmpty
  | .cons t ts, ss => match ss with
    | s :: ss => chkS c t s && chkSs c ts ss
    | [] => false
end
end
section
variable {X : Cx} {T : Nm} {G : Pg} {kw : List Kw} {k : Nat} {c : Cn} {W : WX}
theorem chkV_pe {o : Bool} {e : E} {p : Expr} (ok : XOk X T G kw k c) (tk : Takes X W) (h : chkV T G kw c o e p = true) : PE X p (tVal o X T G k W e) := by
  unfold chkV at h
  simp only [Bool.and_eq_true, Bool.not_eq_true'] at h
  obtain ⟨⟨h1, h2⟩, h3⟩ := h
  cases o with
  | false => exact peVal (sndE e ok tk h1).1 h2
  | true =>
    simp only [if_true, Bool.or_eq_true] at h3
    cases e with
    | lst es =>
      simp only [chkE] at h1
      split at h1
      · simp only [Bool.and_eq_true, decide_eq_true_eq] at h1
        exact peValL (sndEs es ok tk h1.1.1).1 h1.1.2 h1.2
      · cases h1
    | lc elt tg it cond own =>
      cases p with
      | ListComp pe gs scope pos =>
        obtain ⟨ptg, pit, ifs, rfl, z⟩ := lcParts ok tk h1
        exact peValC ok z
      | _ => simp [chkE] at h1
    | _ => rcases h3 with h3 | h3 <;> cases h3
theorem attr_of {p : Expr} {m : Str} {env : PySem.Env} (h : notCall p = true) : attributeBase p m env (eval p env) = eval p env := by
  cases p <;> first | rfl | cases h
theorem psName {o : Bool} {i : Nat} {x : Str} {py pos : Pos} {p : Expr} {e : E} {t : S} (sk : SOk X T G kw k c W) (hN : c.N[i]? = some x) (hl : locB c.sc c.fn x = true) (hv : chkV T G kw c o e p = true) (hlc : (isLcE e || notLc p) = true)
    (ht : ∀ env st, exec (callN G k) G.gl env st t = (ev (callN G k) G.gl env st e).o env fun d st1 => match slot o d with
      | some u => match setV env i u with
        | some env1 => .nx env1 st1
        | none => .no
      | none => .no) : PS X (.Assign [.Name x py] p pos) (tS X T G k W t) := by
  have hp := chkV_pe sk.ok sk.tk hv
  cases hq : notLc p with
  | true => exact psStore sk hN hl hp (notLc_sw hq) ht
  | false =>
    rw [hq, Bool.or_false] at hlc
    cases e with
    | lc elt tg it cond own =>
      unfold chkV at hv
      simp only [Bool.and_eq_true] at hv
      cases p with
      | ListComp pe gs scope pos =>
        obtain ⟨ptg, pit, ifs, rfl, z⟩ := lcParts sk.ok sk.tk hv.1.1
        exact psStoreC sk hN hl z ht
      | _ => have := hv.1.1; simp [chkE] at this
    | _ => cases hlc
theorem sw_of {t p : Expr} (sk : SOk X T G kw k c W) (h : (notTup p || isSub t || cellPair c.sc t p) = true) : swappedStores [t] p X.env = pure none := by
  rw [Bool.or_eq_true] at h
  rcases h with h | h
  · exact swapped_no h
  · exact pair_sw sk.kind (by rw [sk.ok.sc]; exact h)
mutual
theorem sndS (sk : SOk X T G kw k c W) : ∀ (t : S) {s : Stmt}, chkS T G kw c t s = true → PS X s (tS X T G k W t)
  | .asg t e, s, h => by
    simp only [chkS] at h
    split at h
    · rename_i tg p pos
      split at h
      · simp only [Bool.and_eq_true, decide_eq_true_eq] at h
        obtain ⟨⟨⟨h1, h2⟩, h3⟩, h4⟩ := h
        refine psName sk h1 h2 h3 h4 fun env st => ?_
        (simp only [exec, slot, Bool.false_eq_true, if_false, asgT]) <;> rfl
      · cases h
      · simp only [Bool.and_eq_true] at h
        obtain ⟨⟨⟨h1, h2⟩, h3⟩, h4⟩ := h
        obtain ⟨g, ho⟩ := pgTt sk.ok sk.tk t h1
        refine (ps_asg (chkV_pe sk.ok sk.tk h2) g (sole_sw h3) (sw_of sk h4) (by rw [asg_cons ho]; rfl)).weak fun D σ H ⟨ω, st, env, H0, ω0, sim, re, x0, h⟩ => ?_
        simp only [exec] at h
        refine ⟨ω, st, env, H0, sim, re, ?_⟩
        cases hx : ev (callN G k) G.gl env st e with
        | no => rw [hx] at h; exact h
        | ex y st1 => rw [hx] at h; exact fun cc da H' ω' e s x => h cc da σ H' ω' (x0.trans e) s x
        | ok d st1 =>
          rw [hx] at h
          simp only [R.o_ok] at h
          intro v H' ω' x s r
          refine ⟨ω', d, st1, env, H0, ω0, s, re.ext x, x0.trans x, r, ?_⟩
          have hpl := asgT_plain (cf := callN G k) (gl := G.gl) t d env st1
          have h := PostO.mono x.w h
          cases hz : asgT (callN G k) G.gl env st1 t d with
          | nx env' st' => rw [hz] at h; exact h
          | ex y env' st' => rw [hz] at h; exact h
          | no => rw [hz] at h; exact h
          | rt d' st' => rw [hz] at hpl; cases hpl
          | bk d' st' => rw [hz] at hpl; cases hpl
          | ct d' st' => rw [hz] at hpl; cases hpl
    · cases h
  | .par i oi j oj a b, s, h => by
    simp only [chkS] at h
    split at h
    · simp only [Bool.and_eq_true, decide_eq_true_eq, Bool.not_eq_true', decide_eq_false_iff_not] at h
      obtain ⟨⟨⟨⟨⟨⟨⟨⟨⟨⟨⟨h1, h2⟩, h3⟩, h4⟩, h5⟩, h6⟩, h7⟩, h8⟩, h9⟩, h10⟩, h11⟩, h12⟩ := h
      exact psPar sk h1 h2 h3 h4 h5 (chkV_pe sk.ok sk.tk h11) (chkV_pe sk.ok sk.tk h12) h8 h9 (par_sw sk.kind (by rw [sk.ok.sc]; exact h4) (by rw [sk.ok.sc]; exact h5) h7 h6 h8 h9 h10)
    · cases h
  | .newO i e, s, h => by
    simp only [chkS] at h
    split at h
    · simp only [Bool.and_eq_true, decide_eq_true_eq] at h
      obtain ⟨⟨⟨h1, h2⟩, h3⟩, h4⟩ := h
      exact psName sk h1 h2 h3 h4 fun env st => by (simp only [exec]) <;> rfl
    · cases h
  | .appO i e, s, h => by
    simp only [chkS] at h
    split at h
    · simp only [Bool.and_eq_true, decide_eq_true_eq, Bool.not_eq_true', beq_iff_eq] at h
      obtain ⟨⟨⟨⟨⟨⟨⟨rfl, h2⟩, h3⟩, h4⟩, h5⟩, h6⟩, h7⟩, h8⟩ := h
      exact psApp sk h2 h3 h4 (sndE e sk.ok sk.tk h5).1 h6 h7 (by simpa using h8)
    · cases h
  | .extO i e, s, h => by
    simp only [chkS] at h
    split at h
    · simp only [Bool.and_eq_true, decide_eq_true_eq, Bool.not_eq_true', beq_iff_eq] at h
      obtain ⟨⟨⟨⟨⟨⟨rfl, h2⟩, h3⟩, h4⟩, h5⟩, h7⟩, h8⟩ := h
      exact psExt sk h2 h3 h4 (sndE e sk.ok sk.tk h5).1 h7 (by simpa using h8)
    · cases h
  | .setO i a e, s, h => by
    simp only [chkS] at h
    split at h
    · simp only [Bool.and_eq_true, decide_eq_true_eq, Bool.not_eq_true'] at h
      obtain ⟨⟨⟨⟨⟨⟨⟨⟨h1, h2⟩, h3⟩, h4⟩, h5⟩, h6⟩, h7⟩, h8⟩, h9⟩ := h
      exact psSetO sk h1 h2 h3 (sndE e sk.ok sk.tk h4).1 h5 (sndE a sk.ok sk.tk h6).1 h7 h8 (sole_sw h9)
    · cases h
  | .aug i op e, s, h => by
    simp only [chkS] at h
    split at h
    · simp only [Bool.and_eq_true, decide_eq_true_eq, Bool.not_eq_true', Bool.or_eq_true] at h
      obtain ⟨⟨⟨⟨⟨h1, h2⟩, rfl⟩, h4⟩, h5⟩, h6⟩ := h
      exact psAug h4 sk h1 h2 (sndE e sk.ok sk.tk h5).1 h6
    · cases h
  | .exp e, s, h => by
    simp only [chkS] at h
    split at h
    · simp only [Bool.and_eq_true] at h
      exact psExp (sndE e sk.ok sk.tk h.1).1 (notLc_sw h.2)
    · cases h
  | .updC a b, s, h => by
    simp only [chkS] at h
    split at h
    · simp only [Bool.and_eq_true, Bool.not_eq_true', beq_iff_eq] at h
      obtain ⟨⟨⟨⟨⟨⟨⟨rfl, h2⟩, h3⟩, h4⟩, h5⟩, h6⟩, h7⟩, h8⟩ := h
      exact psUpd sk (sndE a sk.ok sk.tk h2).1 h3 (sndE b sk.ok sk.tk h4).1 h5 h6 (by simpa using h7) (attr_of h8)
    · cases h
  | .ret e, s, h => by
    simp only [chkS] at h
    split at h
    · simp only [Bool.and_eq_true, Bool.not_eq_true'] at h
      exact psRet (sndE e sk.ok sk.tk h.1).1 h.2
    · obtain rfl := isNonC_ok h
      exact psRetN
    · cases h
  | .retO i, s, h => by
    simp only [chkS] at h
    split at h
    · simp only [Bool.and_eq_true, decide_eq_true_eq] at h
      exact psRetO sk.ok h.1.1 h.1.2 h.2
    · cases h
  | .ite e a b, s, h => by
    simp only [chkS] at h
    split at h
    · simp only [Bool.and_eq_true, Bool.not_eq_true'] at h
      obtain ⟨⟨⟨⟨h1, h2⟩, h3⟩, h4⟩, h5⟩ := h
      exact psIte ((sndE e sk.ok sk.tk h1).2 h2) h3 (sndSs sk a h4) (sndSs sk b h5)
    · cases h
  | .whl e b, s, h => by
    simp only [chkS] at h
    split at h
    · simp only [Bool.and_eq_true, Bool.not_eq_true'] at h
      obtain ⟨⟨⟨h1, h2⟩, h3⟩, h4⟩ := h
      exact psWhl sk ((sndE e sk.ok sk.tk h1).2 h2) h3 (sndSs sk b h4)
    · cases h
  | .for tg it b, s, h => by
    simp only [chkS] at h
    split at h
    · simp only [Bool.and_eq_true, Bool.not_eq_true'] at h
      obtain ⟨⟨⟨⟨h1, h2⟩, h3⟩, h4⟩, h5⟩ := h
      exact psFor sk (sndIt it sk.ok sk.tk h1) h2 h3 (sndSs sk b h5) (folded_of h4)
    · cases h
  | .brk, s, h => by
    simp only [chkS] at h
    split at h
    · exact psBrk
    · cases h
  | .cnt, s, h => by
    simp only [chkS] at h
    split at h
    · exact psCnt
    · cases h
  | .pss, s, h => by
    simp only [chkS] at h
    split at h
    · exact psPss
    · exact ps_doc.weak fun D σ H ⟨ω, st, env, H0, ω0, sim, re, x0, h⟩ => by
        simp only [exec] at h
        exact h σ H ω (WExt.refl _ _) x0 sim re
    · cases h
  | .nev, s, h => psNev
theorem sndSs (sk : SOk X T G kw k c W) : ∀ (ts : Ss) {ss : List Stmt}, chkSs T G kw c ts ss = true → PSs X ss (tSs X T G k W ts)
  | .nil, ss, h => by
    simp only [chkSs, List.isEmpty_iff] at h
    subst h
    exact pssNil
  | .cons t ts, ss, h => by
    simp only [chkSs] at h
    split at h
    · simp only [Bool.and_eq_true] at h
      exact pssCons (sndS sk t h.1) (sndSs sk ts h.2)
    · cases h
end
end
end Ev

set_option Elab.async false
set_option linter.all false
set_option maxRecDepth 100000
/-! A def does what its tree says, at each level. -/
namespace Ev
open PySem PySem.Spec PyProof.Rows L2

section
variable {P : Program} {w : World} {K : PySem.W.Frag} {mg : Str → Option Value} {base : Heap} {T : Nm} {G : Pg} {kw : List Kw} {k : Nat}
theorem start_rep {H : Hp} {ω : Wd} {N : List Str} {vs : List V} {ds : List D} (r : Reps K H ω vs ds) (hn : ds.length ≤ N.length) : REnv K H H ω (L2.start N vs) (ds.map Sl.va ++ List.replicate (N.length - ds.length) Sl.no) := by
  have hl := r.length
  refine ⟨by unfold L2.start; simp; omega, fun i s q => ?_, fun i j a xs ys q1 _ _ _ => ?_⟩
  · by_cases hi : i < ds.length
    · rw [List.getElem?_append_left (by simpa using hi), List.getElem?_map] at q
      obtain ⟨v, h1, h2⟩ := r.get (List.getElem?_eq_getElem hi)
      rw [List.getElem?_eq_getElem hi] at q
      cases q
      refine ⟨v, ?_, h2⟩
      unfold L2.start
      rw [List.getElem?_append_left (by simp; omega), List.getElem?_map, h1]
      rfl
    · rw [List.getElem?_append_right (by simp; omega), List.getElem?_replicate] at q
      split at q
      · cases q; trivial
      · cases q
  · exfalso
    by_cases hi : i < ds.length
    · rw [List.getElem?_append_left (by simpa using hi), List.getElem?_map, List.getElem?_eq_getElem hi] at q1
      cases q1
    · rw [List.getElem?_append_right (by simp; omega), List.getElem?_replicate] at q1
      split at q1 <;> cases q1
/-- one level up -/
theorem fnd_step (hG : GOk P w K mg base T G kw k) {f : Nat} {d : Def} (hd : G.defs f = some d) {x qual : Str} {params : Arguments} {body : List Stmt} {scope : Scope} {dvs : List V} {kws : List (Str × V)} {a : Addr} {fd : FuncData} {N : List Str}
    (F : FunD K x qual params body scope dvs kws a fd) (S : FnScope N (T.ps f) scope) (hps : (T.ps f).length = d.ps) (hN : N.length = d.n) (hchk : chkSs T G kw ⟨N, scope, fun _ => true⟩ d.body body = true) : FnD P w K mg base T G (k + 1) a fd f := by
  obtain ⟨oc, od, dV, kV, doc, pm, an, cdv, ct, osl, hfd, hlk, hcode, _, _⟩ := F.ex
  subst hfd
  intro A outer s H args us vs ds ω st Q E room gd e0 bind hus rv sim rep post
  have inK : K.In s.heap := e0.mod.kin.keeps fun b o q => (e0.bs b o q).1
  have noLim : s.heap.NoLimit := e0.mod.nolimit.keeps fun b o q => (e0.bs b o q).1
  have kinds : ∀ y ∈ (T.ps f).zip us, scope.names.lookup y.1 = some .local ∨ (scope.names.lookup y.1 = some .cell ∧ ((cellsFrom (s.heap.objs.size + 1) scope.names []).lookup y.1).isSome = true) := by
    rintro ⟨n, v⟩ hy
    rcases S.par n (List.of_mem_zip hy).1 with q | q
    · exact .inl q
    · exact .inr ⟨q, PySem.W.cellsFrom_some _ _ _ (.inl q)⟩
  refine codeAny_call_function room.depth (inK _ _ hlk) rfl S.co S.gen rfl (PySem.W.codeRec_of inK hcode) (bind _ _ _ _ ?_)
  refine wpAny_newFunctionEnv_cells S.kind kinds fun env' henv s1 hin => ?_
  subst henv
  refine ⟨noLim.keeps hin.toInCall.keep, codeAny_func ?_⟩
  have hvl : vs.length = (T.ps f).length := by rw [rv.length, hus]
  have I := inv_start (CX := L2.CX P w) (E := E) (cd := cdv) (qual := qual) (f := a) S room.hd e0 hvl rv hin
  have room' : Room k (A.deeper (envOfC qual scope s.heap.objs.size a cdv)) := room.deeper _
  generalize hX : cxOf (L2.CX P w) P w K mg base N qual scope a cdv A outer s H E = X at I
  have tk : Takes X (fun cls da _ H' => E cls da H') := by
    subst hX
    exact takes_of (E := E) rfl rfl rfl rfl
  have sk : SOk X T G kw k ⟨N, scope, fun _ => true⟩ (fun cls da _ H' => E cls da H') := by
    refine ⟨?_, tk, ?_, ?_⟩
    · subst hX
      exact ⟨rfl, rfl, rfl, rfl, S.nd, room', by show (A.deeper (envOfC qual scope s.heap.objs.size a cdv)).guards = some []; first | exact gd | simpa [Around.deeper, Around.under, Code.guards, Code.isGuard, pushGuards] using gd, hG⟩
    · subst hX
      exact passes_of rfl
    · subst hX
      exact S.kind
  have hdl : ds.length = d.ps := by rw [← rep.length, hvl, hps]
  have hpl : d.ps ≤ N.length := by
    have := congrArg List.length S.pre
    rw [List.length_take] at this
    omega
  have run := (sndSs sk d.body hchk).run [] s1 (L2.start N vs) H { nx := fun _ H' => Q .non H', rt := Q } I (by
    have hk : X.K = K := by subst hX; rfl
    have hm : X.mg = mg := by subst hX; rfl
    refine ⟨ω, st, ds.map Sl.va ++ List.replicate (N.length - ds.length) Sl.no, H, ω, by rw [hk]; exact sim, by rw [hk]; exact start_rep rep (by omega), Ext.refl _ _, ?_⟩
    have post' := post
    simp only [callN, hd, if_pos hdl] at post'
    rw [hN, hdl]
    cases hr : execs (callN G k) G.gl (ds.map Sl.va ++ List.replicate (d.n - d.ps) Sl.no) st d.body with
    | nx env' st' => rw [hr] at post'; exact fun σ' H' ω' _ x s _ => post' .non H' ω' x (by rw [← hk]; exact s) (by simp only [Rep])
    | rt d' st' => rw [hr] at post'; exact fun v H' ω' x s r => post' v H' ω' x (by rw [← hk]; exact s) (by rw [← hk]; exact r)
    | ex y env' st' => rw [hr] at post'; exact fun c da σ' H' ω' x s r => post' c da H' ω' x (by rw [← hk]; exact s) (by rw [← hk, ← hm]; exact r)
    | bk env' st' => rw [hr] at post'; exact False.elim post'
    | ct env' st' => rw [hr] at post'; exact False.elim post'
    | no => rw [hr] at post'; exact post')
  subst hX
  refine wpAny_mono run (fun fl s' hs => ?_) fun _ _ he => he
  have back : ∀ {σ' : L2.St} {H' : Hp} {v : V} {u : Value}, L2.Inv (cxOf (L2.CX P w) P w K mg base N qual scope a cdv A outer s H E) [] σ' H' s' → RelV v u → Q v H' → CE outer P w H s Q u s' := fun {σ' H' v u} J r q => ⟨v, H', J.os, J.bare, J.base, J.hok, r, q⟩
  match fl, hs with
  | .ret u, ⟨v, σ', H', J, r, q⟩ => exact back J r q
  | .next, ⟨σ', H', J, q⟩ => exact back (v := .non) (u := .none) J rfl q
  | .brk, ⟨_, _, _, q⟩ => exact q.elim
  | .cont, ⟨_, _, _, q⟩ => exact q.elim
/-- what the head tells of a def -/
structure DefOk (K : PySem.W.Frag) (mg : Str → Option Value) (T : Nm) (G : Pg) (kw : List Kw) (f : Nat) (d : Def) : Prop where
  it : ∃ (a : Addr) (fd : FuncData) (x qual : Str) (params : Arguments) (body : List Stmt) (scope : Scope) (dvs : List V) (kws : List (Str × V)) (N : List Str), mg (T.fn f) = some (.ref a) ∧ FunD K x qual params body scope dvs kws a fd ∧ FnScope N (T.ps f) scope ∧ (T.ps f).length = d.ps ∧ N.length = d.n ∧
    chkSs T G kw ⟨N, scope, fun _ => true⟩ d.body body = true ∧
    (∀ (s : Shared) (us : List Value), K.In s.heap → us.length = (T.ps f).length → BindsTo s fd ⟨us, []⟩ ((T.ps f).zip us)) ∧
    ∀ q ∈ kw, q.f = f → ∀ (s : Shared) (ws zs : List Value), K.In s.heap → ws.length = q.ks.length → q.perm.mapM (fun j => ws[j]?) = some zs → BindsTo s fd ⟨[], q.ks.zip ws⟩ ((T.ps f).zip zs)
/-- all levels -/
theorem gok (hd : ∀ f d, G.defs f = some d → DefOk K mg T G kw f d) (hg : ∀ g d, G.gl g = some d → ∃ v u, mg (T.gl g) = some u ∧ RelV v u ∧ ∀ H ω, Rep K H ω v d) (hb : ∀ x ∈ bnames, mg x = none) : ∀ k, GOk P w K mg base T G kw k
  | 0 => ⟨fun f d q => by
      obtain ⟨a, fd, x, qual, params, body, scope, dvs, kws, N, h1, F, S, h2, h3, h4, h5, h6⟩ := (hd f d q).it
      exact ⟨a, fd, h1, F.kp, fun A outer s H args us vs ds ω st Q E _ _ _ _ _ _ _ _ post => post.elim, h2, h5, h6⟩, hg, hb⟩
  | k + 1 => ⟨fun f d q => by
      obtain ⟨a, fd, x, qual, params, body, scope, dvs, kws, N, h1, F, S, h2, h3, h4, h5, h6⟩ := (hd f d q).it
      exact ⟨a, fd, h1, F.kp, fnd_step (gok hd hg hb k) q F S h2 h3 h4, h2, h5, h6⟩, hg, hb⟩
end
end Ev

set_option Elab.async false
set_option linter.all false
set_option maxRecDepth 100000
/-! A law, from the evaluator's answer at each script. -/
namespace Ev
open PySem PySem.Spec PyProof.Rows L2

section
variable {P : Program} {w : World} {K : PySem.W.Frag} {mg mb : Str → Option Value} {T : Nm} {G : Pg} {kw : List Kw} {k fl : Nat}
/-- the head's facts -/
structure Facts (K : PySem.W.Frag) (mg : Str → Option Value) (T : Nm) (G : Pg) (kw : List Kw) : Prop where
  defs : ∀ f d, G.defs f = some d → DefOk K mg T G kw f d
  gl : ∀ g d, G.gl g = some d → ∃ v u, mg (T.gl g) = some u ∧ RelV v u ∧ ∀ H ω, Rep K H ω v d
  bt : ∀ x ∈ bnames, mg x = none
/-- from an abstract heap in which at most the script is tracked -/
theorem evCore (fc : Facts K mg T G kw) {s : Shared} {a fa : Addr} {vs : List Value} {ns : List Int} {H : Hp} (inK : K.In s.heap) (hns : s.heap.Ns mainGlobals mg) (hb : s.heap.Ns builtinsNs mb) (hbb : ∀ x : Str, x ≠ "__name__" → mb x = bootBuiltins x)
    (hlim : s.heap.NoLimit) (hg : s.gens = #[]) (ha : s.heap.get? a = some { cls := .type "list", data := .seq vs.toArray }) (hl : ns.length ≤ sizeLine) (hr : Room k callerA) (hfa : mg (T.fn fl) = some (.ref fa)) {xp : Str} (hps : T.ps fl = [xp])
    (hlaw : ∃ st, callN G k fl [.scr ns] [] = .ok (.bl true) st) (hO : Only H) (hS : ScrAt K H ⟨[], fun _ => False⟩ a (ns.map V.int)) (hok : HOk P w H s.heap) (hA : ∀ b, H b ≠ none → b = a) (hK : H a ≠ none → K.lookup a = none) :
    codeAny (model P w) callerA (.call (.ref fa) ⟨[.ref a], []⟩) (fun r s' => r = .ok (.ret (.bool true)) ∧ OldK s.heap s'.heap ∧ s'.os = s.os ∧ AllBare s'.gens) s := by
  have isA : ∀ {b : Addr} {u : HO}, H b = some u → b = a := fun {b u} e => hA b (by rw [e]; simp)
  have noDict : ∀ {b : Addr} {o : Obj} {es : Array DictEntry} {ep : Nat}, s.heap.get? b = some o → o.data = .dict es ep → H b = none := fun {b o es ep} e dd => by
    cases q : H b with
    | none => rfl
    | some u =>
      rw [isA q, ha] at e
      cases e
      cases dd
  have nsB : ∀ {b : Addr} {m : Str → Option Value}, s.heap.Ns b m → (hidT s.heap H).Ns b m := fun {b m} ⟨o, es, ep, e, dd, r⟩ => ⟨o, es, ep, hidT_get e (noDict e dd), dd, r⟩
  have inB : K.In (hidT s.heap H) := fun b o e => by
    refine hidT_get (inK b o e) ?_
    cases q : H b with
    | none => rfl
    | some u =>
      have hba := isA q
      subst hba
      rw [hK (by rw [q]; simp)] at e
      cases e
  have e0 : Env0 P w K mg (hidT s.heap H) callerA [] s H := by
    refine ⟨rfl, ⟨inB, nsB hns, ⟨mb, nsB hb, hbb⟩, ?_⟩, fun b o e => of_hidT e, Nat.le_of_eq (hidT_size _ _), trivial, fun b hb => ?_, hok, .of_eq hg⟩
    · obtain ⟨mc, h1, h2⟩ := hlim
      exact ⟨mc, nsB h1, h2⟩
    · simp [frs] at hb
  obtain ⟨st, hst⟩ := hlaw
  obtain ⟨d, hd, _⟩ := callN_len (G := G) (k := k) (f := fl) (ds := [.scr ns]) (st := []) (by rw [hst]; exact fun z => nomatch z)
  have go := gok (P := P) (w := w) (base := hidT s.heap H) fc.defs fc.gl fc.bt k
  obtain ⟨g, fd, hm, _, F, _, hbind, _⟩ := go.fn fl d hd
  rw [hfa] at hm
  cases hm
  have sim : Sim K H ⟨[], fun _ => False⟩ [] := ⟨rfl, List.nodup_nil, fun _ h => by simp at h, fun _ h => h.elim, fun n c h => by simp at h⟩
  have rep : Reps K H ⟨[], fun _ => False⟩ [.ref a] [.scr ns] := by
    simp only [Reps, Rep]
    exact ⟨⟨a, rfl, hS, hl⟩, trivial⟩
  refine codeAny_mono (F callerA [] s H ⟨[.ref a], []⟩ [.ref a] [.ref a] [.scr ns] ⟨[], fun _ => False⟩ [] (fun v _ => v = .bl true) (fun _ _ _ => False) hr rfl e0 (hbind s [.ref a] inK (by rw [hps]; rfl)) (by rw [hps]; rfl) (.cons rfl .nil) sim rep ?_) fun r s' h => ?_
  · rw [hst]
    exact fun v H' ω' _ _ r => by simpa only [Rep] using r
  · cases r with
    | error e =>
      obtain ⟨_, _, _, _, _, _, _, _, _, _, _, _, z⟩ := h
      exact z.elim
    | ok fw =>
      cases fw with
      | next => exact False.elim h
      | brk => exact False.elim h
      | cont => exact False.elim h
      | ret u =>
        obtain ⟨v, H', os, bare, un, hok', r', q⟩ := h
        have q : v = .bl true := q
        subst q
        cases r'
        refine ⟨rfl, OldK.of_keep fun b o e => ?_, os, bare⟩
        rcases hO b with z | ⟨ob, xs, z⟩
        · exact un.keep b o e z (by simp [frs]) (by simp)
        · obtain ⟨e1, _⟩ := hok b _ z
          obtain ⟨e2, _⟩ := hok' b _ (un.frzs b ob _ z)
          rw [e] at e1
          cases e1
          exact e2
theorem evCall (fc : Facts K mg T G kw) {s : Shared} {a fa : Addr} {vs : List Value} {ns : List Int} (inK : K.In s.heap) (hns : s.heap.Ns mainGlobals mg) (hb : s.heap.Ns builtinsNs mb) (hbb : ∀ x : Str, x ≠ "__name__" → mb x = bootBuiltins x)
    (hlim : s.heap.NoLimit) (hg : s.gens = #[]) (ha : s.heap.get? a = some { cls := .type "list", data := .seq vs.toArray }) (hi : IntsAre vs ns) (hl : ns.length ≤ sizeLine) (hr : Room k callerA) (hfa : mg (T.fn fl) = some (.ref fa)) {xp : Str} (hps : T.ps fl = [xp])
    (hlaw : ∃ st, callN G k fl [.scr ns] [] = .ok (.bl true) st) :
    codeAny (model P w) callerA (.call (.ref fa) ⟨[.ref a], []⟩) (fun r s' => r = .ok (.ret (.bool true)) ∧ OldK s.heap s'.heap ∧ s'.os = s.os ∧ AllBare s'.gens) s := by
  have rv := vals_ints hi
  have len := hi.length
  by_cases hk : (K.lookup a).isSome = true
  · obtain ⟨o, hk⟩ := Option.isSome_iff_exists.mp hk
    have e := inK a o hk
    rw [ha] at e
    cases e
    exact evCore (H := fun _ => none) fc inK hns hb hbb hlim hg ha hl hr hfa hps hlaw (fun _ => .inl rfl) (.inr ⟨_, vs.toArray, _, hk, rfl, rfl, rfl, by rw [List.size_toArray, len]; exact hl, by simpa using rv⟩) (fun b u z => by cases z) (fun b z => absurd rfl z) fun z => absurd rfl z
  · have hk : K.lookup a = none := by
      cases z : K.lookup a with
      | none => rfl
      | some o => rw [z] at hk; exact absurd rfl hk
    obtain ⟨H, hH⟩ : ∃ H : Hp, H = fun b => if b = a then some (.frz { cls := .type "list", data := .seq vs.toArray } (.lst (ns.map V.int))) else none := ⟨_, rfl⟩
    have h1 : H a = some (.frz { cls := .type "list", data := .seq vs.toArray } (.lst (ns.map V.int))) := by rw [hH]; exact if_pos rfl
    have h2 : ∀ b, b ≠ a → H b = none := fun b hb => by rw [hH]; exact if_neg hb
    refine evCore (H := H) fc inK hns hb hbb hlim hg ha hl hr hfa hps hlaw (fun b => ?_) (.inl ⟨⟨_, h1⟩, by simp⟩) (fun b u z => ?_) (fun b z => ?_) fun _ => hk
    · by_cases e : b = a
      · rw [e]; exact .inr ⟨_, _, h1⟩
      · exact .inl (h2 b e)
    · by_cases e : b = a
      · subst e
        rw [h1] at z
        cases z
        exact ⟨ha, by simpa using hl, vs, _, rv, ha⟩
      · rw [h2 b e] at z
        cases z
    · by_cases e : b = a
      · exact e
      · exact absurd (h2 b e) z
end
/-- the walk of a law -/
theorem evWalk {l : PySem.W.OpenLaw} {n k fl : Nat} {q : Program} {loose : List Str} {XP : (Str → Option Value) → Heap → Prop} {YP : World → Heap → Prop} {d : DefRec} {T : Nm} {G : Pg} {kw : List Kw} {xp : Str}
    (hn : l.most = some n) (hn2 : n ≤ sizeLine) (hdf : d.params.defaults = []) (hr : Room k callerA) (hps : T.ps fl = [xp]) (hfn : d.name = T.fn fl)
    (F : ∀ (w : World) (mg : Str → Option Value) (h : Heap), YP w h → h.Ns mainGlobals mg → ∃ K : PySem.W.Frag, K.In h ∧ Facts K mg T G kw)
    (hlaw : ∀ ns : List Int, ns.length ≤ n → (∀ i ∈ ns, Builtin.Int.intBits i ≤ 1048576) → ∃ st, callN G k fl [.scr ns] [] = .ok (.bl true) st) :
    PySem.W.WalkO q loose XP YP l.row.toRowW d [] (fun f vs => PySem.call f vs) := by
  refine Att.attach_callB hn hdf fun w s₀ s₁ mg mb fa o pm cd doc a vs ns Gr Y _ _ _ hmg hobj hints hlen hbits hgens => ?_
  obtain ⟨K, inK, fc⟩ := F w mg _ Y Gr.T.g
  exact evCall fc inK Gr.T.g Gr.T.b Gr.T.builtins Gr.T.nolimit hgens hobj hints (Nat.le_trans hlen hn2) hr (by rw [← hfn]; exact hmg) hps (hlaw ns hlen hbits)
end Ev

set_option Elab.async false
set_option linter.all false
set_option maxRecDepth 100000
/-! Values without references: how they are shown, compared. -/
namespace Ev
open PySem

mutual
def okD : D → Bool
  | .non => true
  | .bl _ => true
  | .int i => decide (i.natAbs < 10 ^ 19)
  | .str x => x.all fun c => decide (c < 0x110000)
  | .tup xs => okDs xs
  | .lst xs => okDs xs
  | .ref _ => false
  | .scr _ => false
def okDs : List D → Bool
  | [] => true
  | x :: xs => okD x && okDs xs
end
mutual
def ln : D → Nat
  | .str x => 10 * x.length + 2
  | .tup xs => lns xs + 3
  | .lst xs => lns xs + 3
  | .int _ => 20
  | _ => 5
def lns : List D → Nat
  | [] => 0
  | x :: xs => ln x + 2 + lns xs
end
mutual
def dp : D → Nat
  | .tup xs => dps xs + 1
  | .lst xs => dps xs + 1
  | _ => 0
def dps : List D → Nat
  | [] => 0
  | x :: xs => max (dp x) (dps xs)
end
theorem okDs_iff : ∀ {xs : List D}, okDs xs = true ↔ ∀ x ∈ xs, okD x = true
  | [] => by simp [okDs]
  | x :: xs => by simp [okDs, okDs_iff (xs := xs)]
theorem okDs_append {xs ys : List D} : okDs (xs ++ ys) = (okDs xs && okDs ys) := by
  induction xs with
  | nil => simp [okDs]
  | cons x xs ih => simp [okDs, ih, Bool.and_assoc]
theorem lns_append (xs ys : List D) : lns (xs ++ ys) = lns xs + lns ys := by
  induction xs with
  | nil => simp [lns]
  | cons x xs ih => simp only [List.cons_append, lns, ih]; omega
theorem ln_mem {x : D} {xs : List D} (h : x ∈ xs) : ln x + 2 ≤ lns xs := by
  induction xs with
  | nil => cases h
  | cons y ys ih =>
    simp only [lns]
    rcases List.mem_cons.mp h with rfl | h
    · omega
    · have := ih h; omega
theorem dps_append (xs ys : List D) : dps (xs ++ ys) = max (dps xs) (dps ys) := by
  induction xs with
  | nil => simp [dps]
  | cons x xs ih => simp only [List.cons_append, dps, ih]; omega
theorem dp_mem {x : D} {xs : List D} (h : x ∈ xs) : dp x ≤ dps xs := by
  induction xs with
  | nil => cases h
  | cons y ys ih =>
    simp only [dps]
    rcases List.mem_cons.mp h with rfl | h
    · omega
    · have := ih h; omega
theorem dps_le {xs : List D} {n : Nat} (h : ∀ x ∈ xs, dp x ≤ n) : dps xs ≤ n := by
  induction xs with
  | nil => simp [dps]
  | cons x xs ih =>
    simp only [dps]
    have := ih fun y hy => h y (List.mem_cons_of_mem _ hy)
    have := h x (List.mem_cons_self ..)
    omega
theorem lns_len : ∀ (xs : List D), 2 * xs.length ≤ lns xs
  | [] => by simp [lns]
  | x :: xs => by have := lns_len xs; simp only [lns, List.length_cons]; omega

def strS (s : Str) : Prop := PyData.strOk s = true
theorem strS_append {a b : Str} (h1 : strS a) (h2 : strS b) : strS (a ++ b) := by
  unfold strS PyData.strOk at *
  show (a.cps ++ b.cps).all _ = true
  rw [Array.all_append, h1, h2]; rfl
theorem strS_join {sep : Str} (h : strS sep) : ∀ {ts : List Str}, (∀ t ∈ ts, strS t) → strS (Str.join sep ts)
  | [], _ => (by unfold strS; decide +kernel : strS Str.empty)
  | [x], q => q x (List.mem_cons_self ..)
  | x :: y :: r, q => strS_append (strS_append (q x (List.mem_cons_self ..)) h) (strS_join h fun t ht => q t (List.mem_cons_of_mem _ ht))
theorem strS_textFrom : ∀ (ts : List Str) (k : Nat) (acc : Str), strS acc → (∀ t ∈ ts, strS t) → strS (textFrom k acc ts)
  | [], _, _, h, _ => h
  | t :: ts, k, acc, h, q => by
    unfold textFrom
    refine strS_textFrom ts (k + 1) _ (strS_append (strS_append h ?_) (q t (List.mem_cons_self ..))) fun u hu => q u (List.mem_cons_of_mem _ hu)
    by_cases hk : k > 0
    · rw [if_pos hk]; unfold strS; decide +kernel
    · rw [if_neg hk]; unfold strS; decide +kernel
theorem strS_list {ts : List Str} (q : ∀ t ∈ ts, strS t) : strS (listText ts) :=
  strS_append (strS_textFrom ts 0 _ (by unfold strS; decide +kernel) q) (by unfold strS; decide +kernel)
theorem strS_tuple {ts : List Str} (q : ∀ t ∈ ts, strS t) : strS (tupleText ts) := by
  unfold tupleText
  refine strS_append (strS_append (by unfold strS; decide +kernel) (strS_join (by unfold strS; decide +kernel) q)) ?_
  split <;> (unfold strS; decide +kernel)
theorem listText_le (ts : List Str) : (listText ts).length ≤ piled ts + 2 := by
  cases ts with
  | nil => decide +kernel
  | cons t r =>
    have h := textFrom_length_pos r 1 (("[" : Str) ++ (if (0 : Nat) > 0 then ", " else "" : String) ++ t) (Nat.succ_pos 0)
    have e : ((("[" : Str) ++ (if (0 : Nat) > 0 then ", " else "" : String) ++ t)).length = 1 + t.length := by
      rw [strLen_append, strLen_append]; rfl
    have hX : (listText (t :: r)).length = (textFrom 0 "[" (t :: r)).length + 1 := by
      show (textFrom 0 "[" (t :: r) ++ "]").length = _
      rw [strLen_append]; rfl
    have hY : (textFrom 0 "[" (t :: r)).length = (textFrom 1 (("[" : Str) ++ (if (0 : Nat) > 0 then ", " else "" : String) ++ t) r).length := rfl
    rw [hX, hY, h, e, piled_cons]; omega
theorem tupleText_le (ts : List Str) : (tupleText ts).length ≤ piled ts + 3 := by
  unfold tupleText
  rw [strLen_append, strLen_append]
  have e1 : ((("(" : String) : Str)).length = 1 := rfl
  have e3 : (((if ts.length == 1 then ",)" else ")" : String) : Str)).length ≤ 2 := by split <;> decide
  by_cases h : ts = []
  · subst h
    have : (Str.join ", " []).length = 0 := rfl
    omega
  · have := join_length_add ts h
    omega
theorem chars_ok (l : List Char) : ∀ z ∈ l.map Char.toNat, z < 0x110000 := by
  intro z hz
  obtain ⟨c, _, rfl⟩ := List.mem_map.mp hz
  have := c.valid
  unfold UInt32.isValidChar Nat.isValidChar at this
  show c.val.toNat < _
  omega
theorem reprChar_ok (q c : Nat) (hc : c < 0x110000) : ∀ z ∈ PySem.Builtin.Str.reprChar q c, z < 0x110000 := by
  intro z hz
  unfold PySem.Builtin.Str.reprChar at hz
  dsimp only at hz
  have hx : ∀ w, z ∈ (List.replicate (w - ((Nat.toDigits 16 c).map Char.toNat).length) 48 ++ (Nat.toDigits 16 c).map Char.toNat) → z < 0x110000 := by
    intro w h
    rcases List.mem_append.mp h with h | h
    · have := List.eq_of_mem_replicate h; omega
    · exact chars_ok _ z h
  repeat' split at hz
  all_goals simp only [List.mem_append, List.mem_cons, List.not_mem_nil, or_false] at hz hx
  all_goals first | omega | (rcases hz with hz | hz <;> first | omega | exact hx _ hz)
theorem reprQ (x : Str) : PySem.reprQuote x = 34 ∨ PySem.reprQuote x = 39 := by
  unfold PySem.reprQuote
  split
  · exact .inl rfl
  · exact .inr rfl
theorem strS_text {x : Str} (h : strS x) : strS (PySem.reprText x) := by
  have hq : PySem.reprQuote x < 0x110000 := by rcases reprQ x with e | e <;> omega
  have key : ∀ (l : List Nat) (acc : Array Nat), (∀ c ∈ l, c < 0x110000) → (∀ z ∈ acc.toList, z < 0x110000) → ∀ z ∈ (l.foldl (fun out c => out ++ (PySem.Builtin.Str.reprChar (PySem.reprQuote x) c).toArray) acc).toList, z < 0x110000 := by
    intro l
    induction l with
    | nil => intro acc _ h; exact h
    | cons c l ih =>
      intro acc h1 h2
      refine ih _ (fun d hd => h1 d (List.mem_cons_of_mem _ hd)) fun z hz => ?_
      simp only [Array.toList_append, List.mem_append] at hz
      rcases hz with hz | hz
      · exact h2 z hz
      · exact reprChar_ok _ c (h1 c (List.mem_cons_self ..)) z hz
  unfold strS PyData.strOk at *
  unfold PySem.reprText
  rw [Array.all_eq_true'] at *
  intro z hz
  simp only [Array.mem_push] at hz
  simp only [decide_eq_true_eq] at *
  rcases hz with hz | rfl
  · rw [← Array.foldl_toList] at hz
    exact key x.cps.toList #[PySem.reprQuote x] (fun c hc => h c (by simpa using hc)) (by simp [hq]) z (Array.mem_def.mp hz)
  · exact hq
theorem strS_of (s : String) : strS (Str.ofString s) := by
  unfold strS PyData.strOk
  rw [Str.ofString_eq_toList, Array.all_eq_true']
  intro z hz
  simp only [decide_eq_true_eq]
  exact chars_ok s.toList z (by simpa using hz)
theorem ofS_len (a b : String) : (Str.ofString (a ++ b)).length = (Str.ofString a).length + (Str.ofString b).length := by
  simp [Str.ofString_eq_toList, Str.length]
theorem int_len (i : Int) {k : Nat} (hk : 0 < k) (h : i.natAbs < 10 ^ k) : (Str.ofString (toString i)).length ≤ k + 1 := by
  cases i with
  | ofNat n =>
    have := PyProof.Rows.toString_length_le (v := Int.ofNat n) (by simp) hk (by simpa using (by exact_mod_cast h : ((n : Nat) : Int) < 10 ^ k))
    omega
  | negSucc n =>
    show (Str.ofString ("-" ++ toString (n + 1))).length ≤ _
    rw [ofS_len]
    have := PyProof.Rows.toString_length_le (v := ((n + 1 : Nat) : Int)) (by omega) hk (by exact_mod_cast h)
    have e : (Str.ofString "-").length = 1 := by decide +kernel
    have e2 : toString ((n + 1 : Nat) : Int) = toString (n + 1) := rfl
    rw [e2] at this
    omega

theorem piled_lns (xs : List D) (h : ∀ x ∈ xs, x.py.shown.length ≤ ln x) : piled (PyData.shownAll (D.pys xs)) ≤ lns xs := by
  induction xs with
  | nil => simp [D.pys, PyData.shownAll, piled, lns]
  | cons x xs ih =>
    simp only [D.pys, PyData.shownAll, piled_cons, lns]
    have := ih fun y hy => h y (List.mem_cons_of_mem _ hy)
    have := h x (List.mem_cons_self ..)
    omega
structure OkP (v : D) : Prop where
  lay : v.py.canLay0 = true
  dep : v.py.depth = dp v
  sh : v.py.showable = true
  len : v.py.shown.length ≤ ln v
  str : strS v.py.shown
structure OkPs (xs : List D) : Prop where
  lay : PyData.canLayAll0 (D.pys xs) = true
  dep : PyData.depthAll (D.pys xs) = dps xs
  sh : PyData.showableAll (D.pys xs) = true
  len : piled (PyData.shownAll (D.pys xs)) ≤ lns xs
  str : ∀ t ∈ PyData.shownAll (D.pys xs), strS t
mutual
theorem okP : ∀ (v : D), okD v = true → OkP v
  | .non, _ => ⟨rfl, rfl, rfl, by decide +kernel, by unfold strS; decide +kernel⟩
  | .bl b, _ => by cases b <;> exact ⟨rfl, rfl, rfl, by decide +kernel, by unfold strS; decide +kernel⟩
  | .int i, h => by
    simp only [okD, decide_eq_true_eq] at h
    refine ⟨rfl, rfl, ?_, ?_, ?_⟩
    · simp only [D.py, PyData.showable, decide_eq_true_eq]
      have h2 : i.natAbs < 2 ^ 64 := Nat.lt_of_lt_of_le h (by decide)
      by_cases hz : i.natAbs = 0
      · rw [hz]; decide
      · have := (Nat.log2_lt hz (k := 64)).mpr h2
        omega
    · simp only [D.py, PyData.shown, ln]
      exact int_len i (by decide) h
    · simp only [D.py, PyData.shown]
      exact strS_of _
  | .str x, h => by
    simp only [okD, List.all_eq_true, decide_eq_true_eq] at h
    have hs : strS (toS x) := by
      unfold strS PyData.strOk toS
      rw [Array.all_eq_true']
      intro z hz
      simpa using h z (by simpa using hz)
    refine ⟨by simp only [D.py, PyData.canLay0]; exact hs, rfl, rfl, ?_, ?_⟩
    · simp only [D.py, PyData.shown, ln]
      have := PySem.StrLaws.reprText_len (toS x) fun c hc => by
        have := h c (by simpa [toS] using hc)
        omega
      have e : (toS x).length = x.length := by simp [toS, Str.length]
      omega
    · simp only [D.py, PyData.shown]
      exact strS_text hs
  | .tup xs, h => by
    have q := okPs xs (by simpa only [okD] using h)
    refine ⟨by simpa only [D.py, PyData.canLay0] using q.lay, by simp only [D.py, PyData.depth, dp, q.dep], by simpa only [D.py, PyData.showable] using q.sh, ?_, ?_⟩
    · simp only [D.py, PyData.shown, ln]
      have := tupleText_le (PyData.shownAll (D.pys xs))
      have := q.len
      omega
    · simp only [D.py, PyData.shown]
      exact strS_tuple q.str
  | .lst xs, h => by
    have q := okPs xs (by simpa only [okD] using h)
    refine ⟨by simpa only [D.py, PyData.canLay0] using q.lay, by simp only [D.py, PyData.depth, dp, q.dep], by simpa only [D.py, PyData.showable] using q.sh, ?_, ?_⟩
    · simp only [D.py, PyData.shown, ln]
      have := listText_le (PyData.shownAll (D.pys xs))
      have := q.len
      omega
    · simp only [D.py, PyData.shown]
      exact strS_list q.str
  | .ref _, h => by simp [okD] at h
  | .scr _, h => by simp [okD] at h
theorem okPs : ∀ (xs : List D), okDs xs = true → OkPs xs
  | [], _ => ⟨rfl, rfl, rfl, by simp [D.pys, PyData.shownAll, piled, lns], by simp [D.pys, PyData.shownAll]⟩
  | x :: xs, h => by
    simp only [okDs, Bool.and_eq_true] at h
    have p := okP x h.1
    have q := okPs xs h.2
    refine ⟨by simp only [D.pys, PyData.canLayAll0, p.lay, q.lay, Bool.and_self], by simp only [D.pys, PyData.depthAll, p.dep, q.dep, dps], by simp only [D.pys, PyData.showableAll, p.sh, q.sh, Bool.and_self], ?_, ?_⟩
    · simp only [D.pys, PyData.shownAll, piled_cons, lns]
      have := p.len
      have := q.len
      omega
    · intro t ht
      simp only [D.pys, PyData.shownAll, List.mem_cons] at ht
      rcases ht with rfl | ht
      · exact p.str
      · exact q.str t ht
end
/-- how a value is shown -/
def shw (v : D) : List Nat := v.py.shown.cps.toList
theorem okShaped {v : D} (h : okD v = true) (hd : dp v ≤ 64) : SeqAt.shaped v.py = true := by
  unfold SeqAt.shaped
  have p := okP v h
  rw [p.lay, p.dep]
  simpa using hd
theorem reprD_ok {v : D} (h : okD v = true) (hl : ln v ≤ sizeLine) (hd : dp v ≤ 64) : reprD v = some (.str (shw v)) := by
  have p := okP v h
  unfold reprD
  rw [okShaped h hd, p.sh, PyData.hasDict_of_canLay _ p.lay]
  have : v.py.shown.length ≤ sizeLine := Nat.le_trans p.len hl
  simp [this, shw]
theorem lay_str {x : List Nat} (h : ∀ c ∈ x, c < 0x110000) : (D.str x).py.canLay0 = true := by
  simp only [D.py, PyData.canLay0, toS, PyData.strOk]
  rw [Array.all_eq_true']
  intro z hz
  simpa using h z (by simpa using hz)
theorem lay_shw {v : D} (h : okD v = true) : (D.str (shw v)).py.canLay0 = true := by
  refine lay_str fun c hc => ?_
  have p := (okP v h).str
  unfold strS PyData.strOk at p
  rw [Array.all_eq_true'] at p
  simpa using p c (by simpa [shw] using hc)
theorem eqD_strs {x y : List Nat} (h1 : (D.str x).py.canLay0 = true) (h2 : (D.str y).py.canLay0 = true) : eqD (.str x) (.str y) = some (decide (x = y)) := by
  unfold eqD
  rw [h1, h2, if_pos (by simp [D.py, PySem.PyData.depth])]
  simp only [D.py, PySem.PyData.eqv]
  congr 1
  rw [Bool.eq_iff_iff]
  simp
  exact ⟨fun h => toS_inj h, fun h => by rw [h]⟩
theorem eqD_ok {a b : D} (h1 : okD a = true) (h2 : okD b = true) (hd : min (dp a) (dp b) ≤ 64) : eqD a b = some (PyData.eqv a.py b.py) := by
  unfold eqD
  rw [(okP a h1).lay, (okP b h2).lay, (okP a h1).dep, (okP b h2).dep]
  simp [hd]
end Ev

set_option Elab.async false
set_option linter.all false
set_option maxRecDepth 100000
/-! Loops and comprehensions of the evaluator, step by step. -/
namespace Ev
open PySem
/-! ### the engine: one step by one rewriting; what is not reached yet stays as it is: it stands as a tree, not under a binder -/
def rdV (o : Option Sl) (st : St) : R D := match o with
  | some (.va d) => .ok d st
  | _ => .no
def rdO (o : Option Sl) (st : St) : R D := match o with
  | some (.ow xs) => .ok (.lst xs) st
  | _ => .no
@[simp] theorem rdV_va (d : D) (st : St) : rdV (some (.va d)) st = .ok d st := Eq.trans rfl rfl
@[simp] theorem rdO_ow (xs : List D) (st : St) : rdO (some (.ow xs)) st = .ok (.lst xs) st := Eq.trans rfl rfl
@[simp] theorem vw_tup (st : St) (xs : List D) : vw st (.tup xs) = .tup xs := Eq.trans rfl rfl
@[simp] theorem vw_lst (st : St) (xs : List D) : vw st (.lst xs) = .lst xs := Eq.trans rfl rfl
@[simp] theorem vw_str (st : St) (x : List Nat) : vw st (.str x) = .str x := Eq.trans rfl rfl
@[simp] theorem vw_int (st : St) (i : Int) : vw st (.int i) = .int i := Eq.trans rfl rfl
@[simp] theorem vw_bl (st : St) (b : Bool) : vw st (.bl b) = .bl b := Eq.trans rfl rfl
@[simp] theorem vw_non (st : St) : vw st .non = .non := Eq.trans rfl rfl
theorem vw_ref {st : St} {n : Nat} {xs : List D} (h : st[n]? = some (.lst xs)) : vw st (.ref n) = .lst xs := by simp [vw, h]
@[simp] theorem vwS_tup (st : St) (xs : List D) : vwS st (.tup xs) = .tup xs := Eq.trans rfl rfl
@[simp] theorem vwS_lst (st : St) (xs : List D) : vwS st (.lst xs) = .lst xs := Eq.trans rfl rfl
@[simp] theorem vwS_str (st : St) (x : List Nat) : vwS st (.str x) = .str x := Eq.trans rfl rfl
@[simp] theorem vwS_int (st : St) (i : Int) : vwS st (.int i) = .int i := Eq.trans rfl rfl
@[simp] theorem vwS_bl (st : St) (b : Bool) : vwS st (.bl b) = .bl b := Eq.trans rfl rfl
@[simp] theorem vwS_non (st : St) : vwS st .non = .non := Eq.trans rfl rfl
@[simp] theorem vwS_scr (st : St) (ns : List Int) : vwS st (.scr ns) = .lst (ns.map .int) := Eq.trans rfl rfl
theorem vwS_ref {st : St} {n : Nat} {xs : List D} (h : st[n]? = some (.lst xs)) : vwS st (.ref n) = .lst xs := by simp [vwS, vw, h]
theorem vw_ok {st : St} {v : D} (h : okD v = true) : vw st v = v := by cases v <;> first | rfl | simp [okD] at h
theorem vwS_ok {st : St} {v : D} (h : okD v = true) : vwS st v = v := by cases v <;> first | rfl | simp [okD] at h
@[simp] theorem idxD_tup (xs : List D) (i : Int) : idxD (.tup xs) (.int i) = L2.atI xs i := Eq.trans rfl rfl
@[simp] theorem idxD_lst (xs : List D) (i : Int) : idxD (.lst xs) (.int i) = L2.atI xs i := Eq.trans rfl rfl
@[simp] theorem atI0 {α : Type} (x : α) (xs : List α) : L2.atI (x :: xs) 0 = some x := by simp [L2.atI, L2.ixN]
@[simp] theorem atI1 {α : Type} (x y : α) (xs : List α) : L2.atI (x :: y :: xs) 1 = some y := by
  have : (1 : Int) < ((x :: y :: xs).length : Int) := by simp; omega
  simp only [L2.atI, L2.ixN]
  rw [if_pos (by omega), if_pos this]
  rfl
@[simp] theorem atI2 {α : Type} (x y z : α) (xs : List α) : L2.atI (x :: y :: z :: xs) 2 = some z := by
  have : (2 : Int) < ((x :: y :: z :: xs).length : Int) := by simp; omega
  simp only [L2.atI, L2.ixN]
  rw [if_pos (by omega), if_pos this]
  rfl
theorem atI_nat {α : Type} (xs : List α) (i : Nat) : L2.atI xs (i : Int) = xs[i]? := by
  unfold L2.atI L2.ixN
  rw [if_pos (by omega)]
  by_cases h : (i : Int) < (xs.length : Int)
  · rw [if_pos h]; simp
  · rw [if_neg h]
    have : xs.length ≤ i := by omega
    simp [this]
@[simp] theorem cmpD_eq (a b : D) : cmpD .eq a b = eqD a b := Eq.trans rfl rfl
@[simp] theorem cmpD_ne (a b : D) : cmpD .ne a b = (eqD a b).map (!·) := Eq.trans rfl rfl
@[simp] theorem cmpD_isin (a b : D) : cmpD .isin a b = isinD a b := Eq.trans rfl rfl
@[simp] theorem cmpD_nin (a b : D) : cmpD .nin a b = (isinD a b).map (!·) := Eq.trans rfl rfl
@[simp] theorem cmpD_lt_i (i j : Int) : cmpD .lt (.int i) (.int j) = some (decide (i < j)) := Eq.trans rfl rfl
@[simp] theorem cmpD_gt_i (i j : Int) : cmpD .gt (.int i) (.int j) = some (decide (j < i)) := Eq.trans rfl rfl
@[simp] theorem cmpD_le_i (i j : Int) : cmpD .le (.int i) (.int j) = some (decide (i ≤ j)) := Eq.trans rfl rfl
@[simp] theorem cmpD_ge_i (i j : Int) : cmpD .ge (.int i) (.int j) = some (decide (j ≤ i)) := Eq.trans rfl rfl
@[simp] theorem cmpD_lt_s (i j : List Nat) : cmpD .lt (.str i) (.str j) = some (decide (i < j)) := Eq.trans rfl rfl
@[simp] theorem cmpD_gt_s (i j : List Nat) : cmpD .gt (.str i) (.str j) = some (decide (j < i)) := Eq.trans rfl rfl
@[simp] theorem cmpD_le_s (i j : List Nat) : cmpD .le (.str i) (.str j) = some (!decide (j < i)) := Eq.trans rfl rfl
@[simp] theorem cmpD_ge_s (i j : List Nat) : cmpD .ge (.str i) (.str j) = some (!decide (i < j)) := Eq.trans rfl rfl
@[simp] theorem eqD_ii (i j : Int) : eqD (.int i) (.int j) = some (decide (i = j)) := by
  simp [eqD, D.py, PySem.PyData.canLay0, PySem.PyData.depth, PySem.PyData.eqv]
  rw [Bool.eq_iff_iff]; simp
@[simp] theorem binD_add (i j : Int) : binD .add (.int i) (.int j) = some (.int (i + j)) := Eq.trans rfl rfl
@[simp] theorem binD_sub (i j : Int) : binD .sub (.int i) (.int j) = some (.int (i - j)) := Eq.trans rfl rfl
theorem binD_mul {i : Int} (j : Int) (h : small i = true) : binD .mul (.int i) (.int j) = some (.int (i * j)) := by simp [binD, h]
theorem binD_mod (i : Int) {j : Int} (h : j ≠ 0) : binD .mod (.int i) (.int j) = some (.int (i.fmod j)) := by simp [binD, h]
theorem binD_tup {xs ys : List D} (h : xs.length + ys.length ≤ sizeLine) : binD .add (.tup xs) (.tup ys) = some (.tup (xs ++ ys)) := by simp [binD, catL, h]
theorem binD_lst {xs ys : List D} (h : xs.length + ys.length ≤ sizeLine) : binD .add (.lst xs) (.lst ys) = some (.lst (xs ++ ys)) := by simp [binD, catL, h]
@[simp] theorem isin_tup (ts : List Ty) (xs : List D) : biD (.isin ts) [.tup xs] = some (.bl (ts.any (tyIs · (.tup xs)))) := Eq.trans rfl rfl
@[simp] theorem isin_lst (ts : List Ty) (xs : List D) : biD (.isin ts) [.lst xs] = some (.bl (ts.any (tyIs · (.lst xs)))) := Eq.trans rfl rfl
@[simp] theorem isin_str (ts : List Ty) (xs : List Nat) : biD (.isin ts) [.str xs] = some (.bl (ts.any (tyIs · (.str xs)))) := Eq.trans rfl rfl
@[simp] theorem isin_int (ts : List Ty) (i : Int) : biD (.isin ts) [.int i] = some (.bl (ts.any (tyIs · (.int i)))) := Eq.trans rfl rfl
@[simp] theorem isin_bl (ts : List Ty) (b : Bool) : biD (.isin ts) [.bl b] = some (.bl (ts.any (tyIs · (.bl b)))) := Eq.trans rfl rfl
@[simp] theorem isin_non (ts : List Ty) : biD (.isin ts) [.non] = some (.bl (ts.any (tyIs · .non))) := Eq.trans rfl rfl
theorem isin_ok (ts : List Ty) {v : D} (h : noRef v = true) : biD (.isin ts) [v] = some (.bl (ts.any (tyIs · v))) := by simp [biD, one, h]
@[simp] theorem len_tup (xs : List D) : biD .len [.tup xs] = some (.int xs.length) := Eq.trans rfl rfl
@[simp] theorem len_lst (xs : List D) : biD .len [.lst xs] = some (.int xs.length) := Eq.trans rfl rfl
@[simp] theorem len_str (xs : List Nat) : biD .len [.str xs] = some (.int xs.length) := Eq.trans rfl rfl
@[simp] theorem tuple_lst (xs : List D) : biD .tuple [.lst xs] = some (.tup xs) := Eq.trans rfl rfl
@[simp] theorem tuple_tup (xs : List D) : biD .tuple [.tup xs] = some (.tup xs) := Eq.trans rfl rfl
@[simp] theorem list_lst (xs : List D) : biD .list [.lst xs] = some (.lst xs) := Eq.trans rfl rfl
@[simp] theorem list_tup (xs : List D) : biD .list [.tup xs] = some (.lst xs) := Eq.trans rfl rfl
@[simp] theorem biArg_sd (st : St) (d : D) : biArg .sortedD st d = vwK st d := Eq.trans rfl rfl
@[simp] theorem biArg_len (st : St) (d : D) : biArg .len st d = vwS st d := Eq.trans rfl rfl
@[simp] theorem biArg_all (st : St) (d : D) : biArg .all st d = vwS st d := Eq.trans rfl rfl
@[simp] theorem biArg_any (st : St) (d : D) : biArg .any st d = vwS st d := Eq.trans rfl rfl
@[simp] theorem biArg_sum (st : St) (d : D) : biArg .sum st d = vwS st d := Eq.trans rfl rfl
@[simp] theorem biArg_tuple (st : St) (d : D) : biArg .tuple st d = vwS st d := Eq.trans rfl rfl
@[simp] theorem biArg_list (st : St) (d : D) : biArg .list st d = vwS st d := Eq.trans rfl rfl
@[simp] theorem biArg_sorted (st : St) (d : D) : biArg .sorted st d = vwS st d := Eq.trans rfl rfl
@[simp] theorem biArg_repr (st : St) (d : D) : biArg .repr st d = vwS st d := Eq.trans rfl rfl
@[simp] theorem biArg_intf (st : St) (d : D) : biArg .intf st d = vwS st d := Eq.trans rfl rfl
@[simp] theorem biArg_abs (st : St) (d : D) : biArg .abs st d = vwS st d := Eq.trans rfl rfl
@[simp] theorem biArg_max2 (st : St) (d : D) : biArg .max2 st d = vwS st d := Eq.trans rfl rfl
@[simp] theorem biArg_min2 (st : St) (d : D) : biArg .min2 st d = vwS st d := Eq.trans rfl rfl
@[simp] theorem biArg_divmod (st : St) (d : D) : biArg .divmod st d = vwS st d := Eq.trans rfl rfl
@[simp] theorem biArg_isin (ts : List Ty) (st : St) (d : D) : biArg (.isin ts) st d = vwS st d := Eq.trans rfl rfl
@[simp] theorem biD_repr (d : D) : biD .repr [d] = reprD d := Eq.trans rfl rfl
@[simp] theorem retOf_nx (env : Env) (st : St) : retOf (.nx env st) = .ok .non st := Eq.trans rfl rfl
@[simp] theorem retOf_rt (d : D) (st : St) : retOf (.rt d st) = .ok d st := Eq.trans rfl rfl
@[simp] theorem retOf_ex (x : Xc) (env : Env) (st : St) : retOf (.ex x env st) = .ex x st := Eq.trans rfl rfl
def nxO (o : Option Env) (st : St) : O := match o with
  | some env => .nx env st
  | none => .no
@[simp] theorem nxO_some (env : Env) (st : St) : nxO (some env) st = .nx env st := Eq.trans rfl rfl
section
variable (cf : Cf) (gl : Nat → Option D) (env : Env) (st st1 st2 st3 : St)
def lcK3 (y : R D) : R (Option D) := y.bind fun y st4 => .ok (some y) st4
@[simp] theorem lcK3_ok (y : D) : lcK3 (.ok y st) = .ok (some y) st := Eq.trans rfl rfl
def lcK2 (elt : E) (c : D) : R (Option D) := cnd c (lcK3 (ev cf gl env st elt)) (.ok none st)
@[simp] theorem lcK2_t (elt : E) : lcK2 cf gl env st elt (.bl true) = lcK3 (ev cf gl env st elt) := Eq.trans rfl rfl
@[simp] theorem lcK2_f (elt : E) : lcK2 cf gl env st elt (.bl false) = .ok none st := Eq.trans rfl rfl
theorem lcK2_bl (elt : E) (c : Bool) : lcK2 cf gl env st elt (.bl c) = if c then lcK3 (ev cf gl env st elt) else .ok none st := by cases c <;> rfl
def lcK1 (elt : E) (r : R D) : R (Option D) := r.bind fun c st3 => lcK2 cf gl env st3 elt c
@[simp] theorem lcK1_ok (elt : E) (c : D) : lcK1 cf gl env elt (.ok c st) = lcK2 cf gl env st elt c := Eq.trans rfl rfl
def lcK0 (elt cond : E) (o : Option Env) : R (Option D) := match o with
  | some env1 => lcK1 cf gl env1 elt (ev cf gl env1 st cond)
  | none => .no
@[simp] theorem lcK0_some (elt cond : E) : lcK0 cf gl st elt cond (some env) = lcK1 cf gl env elt (ev cf gl env st cond) := Eq.trans rfl rfl
def lcF (elt : E) (tg : Tg) (cond : E) (own : List Nat) (x : D) (st2 : St) : R (Option D) := lcK0 cf gl st2 elt cond (asgTg tg x (wipeE env own))
def forK (b : Ss) (o : Option Env) : O := match o with
  | some env1 => execs cf gl env1 st b
  | none => .no
@[simp] theorem forK_some (b : Ss) : forK cf gl st b (some env) = execs cf gl env st b := Eq.trans rfl rfl
def forF (tg : Tg) (b : Ss) (x : D) (env : Env) (st : St) : O := forK cf gl st b (asgTg tg x env)
def whlC (c : E) (env : Env) (st : St) : R D := ev cf gl env st c
def whlB (b : Ss) (env : Env) (st : St) : O := execs cf gl env st b
@[simp] theorem ev_var (i : Nat) : ev cf gl env st (.var i) = rdV env[i]? st := by rw [ev]; rfl
@[simp] theorem ev_own (i : Nat) : ev cf gl env st (.own i) = rdO env[i]? st := by rw [ev]; rfl
@[simp] theorem ev_glob (i : Nat) : ev cf gl env st (.glob i) = R.of (gl i) st := by rw [ev]
@[simp] theorem ev_cst (d : D) : ev cf gl env st (.cst d) = .ok d st := by rw [ev]
def tupK  (r : R (List D)) : R D := r.bind fun x st1 => .ok (.tup x) st1
@[simp] theorem tupK_ok  (x : (List D)) : tupK (.ok x st1) = .ok (.tup x) st1 := Eq.trans rfl rfl
@[simp] theorem tupK_ex  (q : Xc) : tupK (.ex q st1) = .ex q st1 := Eq.trans rfl rfl
@[simp] theorem ev_tup (es : Es) : ev cf gl env st (.tup es) = tupK (evs cf gl env st es) := by rw [ev]; rfl
def lstK  (r : R (List D)) : R D := r.bind fun x st1 => .ok (.lst x) st1
@[simp] theorem lstK_ok  (x : (List D)) : lstK (.ok x st1) = .ok (.lst x) st1 := Eq.trans rfl rfl
@[simp] theorem lstK_ex  (q : Xc) : lstK (.ex q st1) = .ex q st1 := Eq.trans rfl rfl
@[simp] theorem ev_lst (es : Es) : ev cf gl env st (.lst es) = lstK (evs cf gl env st es) := by rw [ev]; rfl
def lstCK  (r : R (List D)) : R D := r.bind fun x st1 => .ok (.ref st1.length) (st1 ++ [.lst x])
@[simp] theorem lstCK_ok  (x : (List D)) : lstCK (.ok x st1) = .ok (.ref st1.length) (st1 ++ [.lst x]) := Eq.trans rfl rfl
@[simp] theorem lstCK_ex  (q : Xc) : lstCK (.ex q st1) = .ex q st1 := Eq.trans rfl rfl
@[simp] theorem ev_lstC (es : Es) : ev cf gl env st (.lstC es) = lstCK (evs cf gl env st es) := by rw [ev]; rfl
def mkDct (d : D) (st1 : St) : R D := match d with
  | .lst ps => match pairsD ps with
    | some kvs => .ok (.ref st1.length) (st1 ++ [.dct (mergeD [] kvs)])
    | none => .no
  | _ => .no
def dctK  (r : R D) : R D := r.bind fun x st1 => mkDct x st1
@[simp] theorem dctK_ok  (x : D) : dctK (.ok x st1) = mkDct x st1 := Eq.trans rfl rfl
@[simp] theorem dctK_ex  (q : Xc) : dctK (.ex q st1) = .ex q st1 := Eq.trans rfl rfl
@[simp] theorem ev_dctC (e : E) : ev cf gl env st (.dctC e) = dctK (ev cf gl env st e) := by rw [ev]; rfl
def binK2 (op : Bo) (u : D) (r : R D) : R D := r.bind fun x st1 => R.of (binD op (vw st1 u) (vw st1 x)) st1
@[simp] theorem binK2_ok (op : Bo) (u : D) (x : D) : binK2 op u (.ok x st1) = R.of (binD op (vw st1 u) (vw st1 x)) st1 := Eq.trans rfl rfl
@[simp] theorem binK2_ex (op : Bo) (u : D) (q : Xc) : binK2 op u (.ex q st1) = .ex q st1 := Eq.trans rfl rfl
def binK (op : Bo) (b : E) (r : R D) : R D := r.bind fun x st1 => binK2 op x (ev cf gl env st1 b)
@[simp] theorem binK_ok (op : Bo) (b : E) (x : D) : binK cf gl env op b (.ok x st1) = binK2 op x (ev cf gl env st1 b) := Eq.trans rfl rfl
@[simp] theorem binK_ex (op : Bo) (b : E) (q : Xc) : binK cf gl env op b (.ex q st1) = .ex q st1 := Eq.trans rfl rfl
@[simp] theorem ev_bin (op : Bo) (a b : E) : ev cf gl env st (.bin op a b) = binK cf gl env op b (ev cf gl env st a) := by rw [ev]; rfl
def cmpK2 (op : Co) (u : D) (r : R D) : R D := r.bind fun x st1 => R.of ((cmpD op (vw st1 u) (vw st1 x)).map .bl) st1
@[simp] theorem cmpK2_ok (op : Co) (u : D) (x : D) : cmpK2 op u (.ok x st1) = R.of ((cmpD op (vw st1 u) (vw st1 x)).map .bl) st1 := Eq.trans rfl rfl
@[simp] theorem cmpK2_ex (op : Co) (u : D) (q : Xc) : cmpK2 op u (.ex q st1) = .ex q st1 := Eq.trans rfl rfl
def cmpK (op : Co) (b : E) (r : R D) : R D := r.bind fun x st1 => cmpK2 op x (ev cf gl env st1 b)
@[simp] theorem cmpK_ok (op : Co) (b : E) (x : D) : cmpK cf gl env op b (.ok x st1) = cmpK2 op x (ev cf gl env st1 b) := Eq.trans rfl rfl
@[simp] theorem cmpK_ex (op : Co) (b : E) (q : Xc) : cmpK cf gl env op b (.ex q st1) = .ex q st1 := Eq.trans rfl rfl
@[simp] theorem ev_cmp (op : Co) (a b : E) : ev cf gl env st (.cmp op a b) = cmpK cf gl env op b (ev cf gl env st a) := by rw [ev]; rfl
def chnK3 (o2 : Co) (u : D) (r : R D) : R D := r.bind fun x st1 => R.of ((cmpD o2 (vw st1 u) (vw st1 x)).map .bl) st1
@[simp] theorem chnK3_ok (o2 : Co) (u : D) (x : D) : chnK3 o2 u (.ok x st1) = R.of ((cmpD o2 (vw st1 u) (vw st1 x)).map .bl) st1 := Eq.trans rfl rfl
@[simp] theorem chnK3_ex (o2 : Co) (u : D) (q : Xc) : chnK3 o2 u (.ex q st1) = .ex q st1 := Eq.trans rfl rfl
def chnB (o2 : Co) (c : E) (y : D) (o : Option Bool) : R D := match o with
  | some true => chnK3 o2 y (ev cf gl env st c)
  | some false => .ok (.bl false) st
  | none => .no
@[simp] theorem chnB_t (o2 : Co) (c : E) (y : D) : chnB cf gl env st o2 c y (some true) = chnK3 o2 y (ev cf gl env st c) := Eq.trans rfl rfl
@[simp] theorem chnB_f (o2 : Co) (c : E) (y : D) : chnB cf gl env st o2 c y (some false) = .ok (.bl false) st := Eq.trans rfl rfl
@[simp low] theorem chnB_b (o2 : Co) (c : E) (y : D) (t : Bool) : chnB cf gl env st o2 c y (some t) = if t then chnK3 o2 y (ev cf gl env st c) else .ok (.bl false) st := by cases t <;> rfl
def chnK2 (o1 o2 : Co) (c : E) (u : D) (r : R D) : R D := r.bind fun x st1 => chnB cf gl env st1 o2 c x (cmpD o1 (vw st1 u) (vw st1 x))
@[simp] theorem chnK2_ok (o1 o2 : Co) (c : E) (u : D) (x : D) : chnK2 cf gl env o1 o2 c u (.ok x st1) = chnB cf gl env st1 o2 c x (cmpD o1 (vw st1 u) (vw st1 x)) := Eq.trans rfl rfl
@[simp] theorem chnK2_ex (o1 o2 : Co) (c : E) (u : D) (q : Xc) : chnK2 cf gl env o1 o2 c u (.ex q st1) = .ex q st1 := Eq.trans rfl rfl
def chnK (o1 o2 : Co) (b c : E) (r : R D) : R D := r.bind fun x st1 => chnK2 cf gl env o1 o2 c x (ev cf gl env st1 b)
@[simp] theorem chnK_ok (o1 o2 : Co) (b c : E) (x : D) : chnK cf gl env o1 o2 b c (.ok x st1) = chnK2 cf gl env o1 o2 c x (ev cf gl env st1 b) := Eq.trans rfl rfl
@[simp] theorem chnK_ex (o1 o2 : Co) (b c : E) (q : Xc) : chnK cf gl env o1 o2 b c (.ex q st1) = .ex q st1 := Eq.trans rfl rfl
@[simp] theorem ev_chn (o1 o2 : Co) (a b c : E) : ev cf gl env st (.chn o1 o2 a b c) = chnK cf gl env o1 o2 b c (ev cf gl env st a) := by rw [ev]; rfl
def isNK (neg : Bool) (r : R D) : R D := r.bind fun x st1 => .ok (.bl (Bool.xor neg (decide (x = .non)))) st1
@[simp] theorem isNK_ok (neg : Bool) (x : D) : isNK neg (.ok x st1) = .ok (.bl (Bool.xor neg (decide (x = .non)))) st1 := Eq.trans rfl rfl
@[simp] theorem isNK_ex (neg : Bool) (q : Xc) : isNK neg (.ex q st1) = .ex q st1 := Eq.trans rfl rfl
@[simp] theorem ev_isN (neg : Bool) (a : E) : ev cf gl env st (.isN neg a) = isNK neg (ev cf gl env st a) := by rw [ev]; rfl
def isBD (neg b : Bool) (x : D) (st : St) : R D := match x with
  | .bl c => .ok (.bl (Bool.xor neg (decide (c = b)))) st
  | _ => .no
@[simp] theorem isBD_bl (neg b c : Bool) : isBD neg b (.bl c) st = .ok (.bl (Bool.xor neg (decide (c = b)))) st := Eq.trans rfl rfl
def isBK (neg b : Bool) (r : R D) : R D := r.bind fun x st1 => isBD neg b x st1
@[simp] theorem isBK_ok (neg b : Bool) (x : D) : isBK neg b (.ok x st1) = isBD neg b x st1 := Eq.trans rfl rfl
@[simp] theorem isBK_ex (neg b : Bool) (q : Xc) : isBK neg b (.ex q st1) = .ex q st1 := Eq.trans rfl rfl
@[simp] theorem ev_isB (neg b : Bool) (a : E) : ev cf gl env st (.isB neg b a) = isBK neg b (ev cf gl env st a) := by rw [ev]; rfl
def blK  (r : R D) : R D := r.bind fun x st1 => blR x st1
@[simp] theorem blK_ok  (x : D) : blK (.ok x st1) = blR x st1 := Eq.trans rfl rfl
@[simp] theorem blK_ex  (q : Xc) : blK (.ex q st1) = .ex q st1 := Eq.trans rfl rfl
def andC (b : E) (x : D) : R D := cnd x (blK (ev cf gl env st b)) (.ok (.bl false) st)
@[simp] theorem andC_t (b : E) : andC cf gl env st b (.bl true) = blK (ev cf gl env st b) := Eq.trans rfl rfl
@[simp] theorem andC_f (b : E) : andC cf gl env st b (.bl false) = .ok (.bl false) st := Eq.trans rfl rfl
@[simp low] theorem andC_b (b : E) (c : Bool) : andC cf gl env st b (.bl c) = if c then blK (ev cf gl env st b) else .ok (.bl false) st := by cases c <;> rfl
def orC (b : E) (x : D) : R D := cnd x (.ok (.bl true) st) (blK (ev cf gl env st b))
@[simp] theorem orC_t (b : E) : orC cf gl env st b (.bl true) = .ok (.bl true) st := Eq.trans rfl rfl
@[simp] theorem orC_f (b : E) : orC cf gl env st b (.bl false) = blK (ev cf gl env st b) := Eq.trans rfl rfl
@[simp low] theorem orC_b (b : E) (c : Bool) : orC cf gl env st b (.bl c) = if c then .ok (.bl true) st else blK (ev cf gl env st b) := by cases c <;> rfl
def ifeC (a b : E) (x : D) : R D := cnd x (ev cf gl env st a) (ev cf gl env st b)
@[simp] theorem ifeC_t (a b : E) : ifeC cf gl env st a b (.bl true) = ev cf gl env st a := Eq.trans rfl rfl
@[simp] theorem ifeC_f (a b : E) : ifeC cf gl env st a b (.bl false) = ev cf gl env st b := Eq.trans rfl rfl
@[simp low] theorem ifeC_b (a b : E) (c : Bool) : ifeC cf gl env st a b (.bl c) = if c then ev cf gl env st a else ev cf gl env st b := by cases c <;> rfl
def notD (x : D) (st : St) : R D := match x with
  | .bl c => .ok (.bl (!c)) st
  | _ => .no
@[simp] theorem notD_bl (c : Bool) (st : St) : notD (.bl c) st = .ok (.bl (!c)) st := Eq.trans rfl rfl
def andK (b : E) (r : R D) : R D := r.bind fun x st1 => andC cf gl env st1 b x
@[simp] theorem andK_ok (b : E) (x : D) : andK cf gl env b (.ok x st1) = andC cf gl env st1 b x := Eq.trans rfl rfl
@[simp] theorem andK_ex (b : E) (q : Xc) : andK cf gl env b (.ex q st1) = .ex q st1 := Eq.trans rfl rfl
@[simp] theorem ev_and (a b : E) : ev cf gl env st (.and a b) = andK cf gl env b (ev cf gl env st a) := by rw [ev]; rfl
def orK (b : E) (r : R D) : R D := r.bind fun x st1 => orC cf gl env st1 b x
@[simp] theorem orK_ok (b : E) (x : D) : orK cf gl env b (.ok x st1) = orC cf gl env st1 b x := Eq.trans rfl rfl
@[simp] theorem orK_ex (b : E) (q : Xc) : orK cf gl env b (.ex q st1) = .ex q st1 := Eq.trans rfl rfl
@[simp] theorem ev_or (a b : E) : ev cf gl env st (.or a b) = orK cf gl env b (ev cf gl env st a) := by rw [ev]; rfl
def notK  (r : R D) : R D := r.bind fun x st1 => notD x st1
@[simp] theorem notK_ok  (x : D) : notK (.ok x st1) = notD x st1 := Eq.trans rfl rfl
@[simp] theorem notK_ex  (q : Xc) : notK (.ex q st1) = .ex q st1 := Eq.trans rfl rfl
@[simp] theorem ev_not (a : E) : ev cf gl env st (.not a) = notK (ev cf gl env st a) := by rw [ev]; rfl
def ifeK (a b : E) (r : R D) : R D := r.bind fun x st1 => ifeC cf gl env st1 a b x
@[simp] theorem ifeK_ok (a b : E) (x : D) : ifeK cf gl env a b (.ok x st1) = ifeC cf gl env st1 a b x := Eq.trans rfl rfl
@[simp] theorem ifeK_ex (a b : E) (q : Xc) : ifeK cf gl env a b (.ex q st1) = .ex q st1 := Eq.trans rfl rfl
@[simp] theorem ev_ife (c a b : E) : ev cf gl env st (.ife c a b) = ifeK cf gl env a b (ev cf gl env st c) := by rw [ev]; rfl
def callK (f : Nat) (r : R (List D)) : R D := r.bind fun x st1 => cf f x st1
@[simp] theorem callK_ok (f : Nat) (x : (List D)) : callK cf f (.ok x st1) = cf f x st1 := Eq.trans rfl rfl
@[simp] theorem callK_ex (f : Nat) (q : Xc) : callK cf f (.ex q st1) = .ex q st1 := Eq.trans rfl rfl
@[simp] theorem ev_call (f : Nat) (es : Es) : ev cf gl env st (.call f es) = callK cf f (evs cf gl env st es) := by rw [ev]; rfl
def permR (f : Nat) (perm : List Nat) (ds : List D) : R D := match perm.mapM (fun j => ds[j]?) with
  | some as => cf f as st
  | none => .no
theorem permR_some {f : Nat} {perm : List Nat} {ds as : List D} (h : perm.mapM (fun j => ds[j]?) = some as) : permR cf st f perm ds = cf f as st := by unfold permR; rw [h]
@[simp] theorem permR_0 (f : Nat) (a : D) : permR cf st f [0] [a] = cf f [a] st := Eq.trans rfl rfl
@[simp] theorem permR_10 (f : Nat) (a b : D) : permR cf st f [1, 0] [a, b] = cf f [b, a] st := Eq.trans rfl rfl
@[simp] theorem permR_01 (f : Nat) (a b : D) : permR cf st f [0, 1] [a, b] = cf f [a, b] st := Eq.trans rfl rfl
@[simp] theorem permR_210 (f : Nat) (a b c : D) : permR cf st f [2, 1, 0] [a, b, c] = cf f [c, b, a] st := Eq.trans rfl rfl
def kwK (f : Nat) (perm : List Nat) (r : R (List D)) : R D := r.bind fun x st1 => permR cf st1 f perm x
@[simp] theorem kwK_ok (f : Nat) (perm : List Nat) (x : (List D)) : kwK cf f perm (.ok x st1) = permR cf st1 f perm x := Eq.trans rfl rfl
@[simp] theorem kwK_ex (f : Nat) (perm : List Nat) (q : Xc) : kwK cf f perm (.ex q st1) = .ex q st1 := Eq.trans rfl rfl
@[simp] theorem ev_callK (f : Nat) (es : Es) (perm : List Nat) : ev cf gl env st (.callK f es perm) = kwK cf f perm (evs cf gl env st es) := by rw [ev]; rfl
def biK (b : Bi) (r : R (List D)) : R D := r.bind fun x st1 => R.of (biD b (x.map (biArg b st1))) st1
@[simp] theorem biK_ok (b : Bi) (x : (List D)) : biK b (.ok x st1) = R.of (biD b (x.map (biArg b st1))) st1 := Eq.trans rfl rfl
@[simp] theorem biK_ex (b : Bi) (q : Xc) : biK b (.ex q st1) = .ex q st1 := Eq.trans rfl rfl
@[simp] theorem ev_bi (b : Bi) (es : Es) : ev cf gl env st (.bi b es) = biK b (evs cf gl env st es) := by rw [ev]; rfl
def idxK2 (u : D) (r : R D) : R D := r.bind fun x st1 => R.of (idxD (vwS st1 u) x) st1
@[simp] theorem idxK2_ok (u : D) (x : D) : idxK2 u (.ok x st1) = R.of (idxD (vwS st1 u) x) st1 := Eq.trans rfl rfl
@[simp] theorem idxK2_ex (u : D) (q : Xc) : idxK2 u (.ex q st1) = .ex q st1 := Eq.trans rfl rfl
def idxK (i : E) (r : R D) : R D := r.bind fun x st1 => idxK2 x (ev cf gl env st1 i)
@[simp] theorem idxK_ok (i : E) (x : D) : idxK cf gl env i (.ok x st1) = idxK2 x (ev cf gl env st1 i) := Eq.trans rfl rfl
@[simp] theorem idxK_ex (i : E) (q : Xc) : idxK cf gl env i (.ex q st1) = .ex q st1 := Eq.trans rfl rfl
@[simp] theorem ev_idx (a i : E) : ev cf gl env st (.idx a i) = idxK cf gl env i (ev cf gl env st a) := by rw [ev]; rfl
def slcK3 (u l : D) (r : R D) : R D := r.bind fun x st1 => R.of (slcD (vwS st1 u) l x) st1
@[simp] theorem slcK3_ok (u l : D) (x : D) : slcK3 u l (.ok x st1) = R.of (slcD (vwS st1 u) l x) st1 := Eq.trans rfl rfl
@[simp] theorem slcK3_ex (u l : D) (q : Xc) : slcK3 u l (.ex q st1) = .ex q st1 := Eq.trans rfl rfl
def slcB (hi : E) (u l : D) : R D := match bndD l with
  | some _ => slcK3 u l (ev cf gl env st hi)
  | none => .no
@[simp] theorem slcB_int (hi : E) (u : D) (i : Int) : slcB cf gl env st hi u (.int i) = slcK3 u (.int i) (ev cf gl env st hi) := Eq.trans rfl rfl
@[simp] theorem slcB_non (hi : E) (u : D) : slcB cf gl env st hi u .non = slcK3 u .non (ev cf gl env st hi) := Eq.trans rfl rfl
def slcK2 (hi : E) (u : D) (r : R D) : R D := r.bind fun x st1 => slcB cf gl env st1 hi u x
@[simp] theorem slcK2_ok (hi : E) (u : D) (x : D) : slcK2 cf gl env hi u (.ok x st1) = slcB cf gl env st1 hi u x := Eq.trans rfl rfl
@[simp] theorem slcK2_ex (hi : E) (u : D) (q : Xc) : slcK2 cf gl env hi u (.ex q st1) = .ex q st1 := Eq.trans rfl rfl
def slcK (lo hi : E) (r : R D) : R D := r.bind fun x st1 => slcK2 cf gl env hi x (ev cf gl env st1 lo)
@[simp] theorem slcK_ok (lo hi : E) (x : D) : slcK cf gl env lo hi (.ok x st1) = slcK2 cf gl env hi x (ev cf gl env st1 lo) := Eq.trans rfl rfl
@[simp] theorem slcK_ex (lo hi : E) (q : Xc) : slcK cf gl env lo hi (.ex q st1) = .ex q st1 := Eq.trans rfl rfl
@[simp] theorem ev_slc (a lo hi : E) : ev cf gl env st (.slc a lo hi) = slcK cf gl env lo hi (ev cf gl env st a) := by rw [ev]; rfl
def revK  (r : R D) : R D := r.bind fun x st1 => R.of (revD (vwS st1 x)) st1
@[simp] theorem revK_ok  (x : D) : revK (.ok x st1) = R.of (revD (vwS st1 x)) st1 := Eq.trans rfl rfl
@[simp] theorem revK_ex  (q : Xc) : revK (.ex q st1) = .ex q st1 := Eq.trans rfl rfl
@[simp] theorem ev_rev (a : E) : ev cf gl env st (.rev a) = revK (ev cf gl env st a) := by rw [ev]; rfl
def lcE  (r : R (List D)) : R D := r.bind fun x st1 => .ok (.lst x) st1
@[simp] theorem lcE_ok  (x : (List D)) : lcE (.ok x st1) = .ok (.lst x) st1 := Eq.trans rfl rfl
@[simp] theorem lcE_ex  (q : Xc) : lcE (.ex q st1) = .ex q st1 := Eq.trans rfl rfl
def lcL (elt : E) (tg : Tg) (cond : E) (own : List Nat) (p : List D × List Gd) : R D := if p.1.length ≤ sizeLine then lcE (lcLoop (lcF cf gl env elt tg cond own) p.2 env p.1 st).noX else .no
theorem lcL_ok {cf : Cf} {gl : Nat → Option D} {env : Env} {st st1 : St} {elt : E} {tg : Tg} {cond : E} {own : List Nat} {xs ys : List D} {gs : List Gd} (hl : xs.length ≤ sizeLine) (h : lcLoop (lcF cf gl env elt tg cond own) gs env xs st = .ok ys st1) : lcL cf gl env st elt tg cond own (xs, gs) = .ok (.lst ys) st1 := by
  unfold lcL
  rw [if_pos hl, h]; rfl
def lcK (elt : E) (tg : Tg) (cond : E) (own : List Nat) (r : R (List D × List Gd)) : R D := r.bind fun x st1 => lcL cf gl env st1 elt tg cond own x
@[simp] theorem lcK_ok (elt : E) (tg : Tg) (cond : E) (own : List Nat) (x : (List D × List Gd)) : lcK cf gl env elt tg cond own (.ok x st1) = lcL cf gl env st1 elt tg cond own x := Eq.trans rfl rfl
@[simp] theorem lcK_ex (elt : E) (tg : Tg) (cond : E) (own : List Nat) (q : Xc) : lcK cf gl env elt tg cond own (.ex q st1) = .ex q st1 := Eq.trans rfl rfl
@[simp] theorem ev_lc (elt : E) (tg : Tg) (it : It) (cond : E) (own : List Nat) : ev cf gl env st (.lc elt tg it cond own) = lcK cf gl env elt tg cond own (evIt cf gl env st it) := by rw [ev]; rfl
def lrgR (d : D) (st : St) : R D := match d with
  | .int j => if okRange j && decide (j.toNat ≤ 16777216) then .ok (.lst (rangeL 0 j.toNat)) st else .no
  | _ => .no
theorem lrgR_int {j : Int} (st : St) (h : okRange j = true) (h2 : j.toNat ≤ 16777216) : lrgR (.int j) st = .ok (.lst (rangeL 0 j.toNat)) st := by simp [lrgR, h, h2]
def lrgK  (r : R D) : R D := r.bind fun x st1 => lrgR x st1
@[simp] theorem lrgK_ok  (x : D) : lrgK (.ok x st1) = lrgR x st1 := Eq.trans rfl rfl
@[simp] theorem lrgK_ex  (q : Xc) : lrgK (.ex q st1) = .ex q st1 := Eq.trans rfl rfl
@[simp] theorem ev_lrg (e : E) : ev cf gl env st (.lrg e) = lrgK (ev cf gl env st e) := by rw [ev]; rfl
@[simp] theorem ev_nev : ev cf gl env st .nev = .no := by rw [ev]
def consK2 (d : D) (r : R (List D)) : R (List D) := r.bind fun x st1 => .ok (d :: x) st1
@[simp] theorem consK2_ok (d : D) (x : (List D)) : consK2 d (.ok x st1) = .ok (d :: x) st1 := Eq.trans rfl rfl
@[simp] theorem consK2_ex (d : D) (q : Xc) : consK2 d (.ex q st1) = .ex q st1 := Eq.trans rfl rfl
def consK (es : Es) (r : R D) : R (List D) := r.bind fun x st1 => consK2 x (evs cf gl env st1 es)
@[simp] theorem consK_ok (es : Es) (x : D) : consK cf gl env es (.ok x st1) = consK2 x (evs cf gl env st1 es) := Eq.trans rfl rfl
@[simp] theorem consK_ex (es : Es) (q : Xc) : consK cf gl env es (.ex q st1) = .ex q st1 := Eq.trans rfl rfl
@[simp] theorem evs_nil : evs cf gl env st .nil = .ok [] st := by rw [evs]
@[simp] theorem evs_cons (e : E) (es : Es) : evs cf gl env st (.cons e es) = consK cf gl env es (ev cf gl env st e) := by rw [evs]; rfl
def vaK (e : E) (r : R D) : R (List D × List Gd) := r.bind fun x st1 => R.of ((seqOf st1 x).map fun p => (p.1, p.2 ++ guardOf e x)) st1
@[simp] theorem vaK_ok (e : E) (x : D) : vaK e (.ok x st1) = R.of ((seqOf st1 x).map fun p => (p.1, p.2 ++ guardOf e x)) st1 := Eq.trans rfl rfl
@[simp] theorem vaK_ex (e : E) (q : Xc) : vaK e (.ex q st1) = .ex q st1 := Eq.trans rfl rfl
@[simp] theorem evIt_va (e : E) : evIt cf gl env st (.va e) = vaK e (ev cf gl env st e) := by rw [evIt]; rfl
def rg1R (d : D) (st : St) : R (List D × List Gd) := match d with
  | .int j => if okRange j then .ok (rangeL 0 j.toNat, []) st else .no
  | _ => .no
theorem rg1R_int {j : Int} (st : St) (h : okRange j = true) : rg1R (.int j) st = .ok (rangeL 0 j.toNat, []) st := by simp [rg1R, h]
def rg1K  (r : R D) : R (List D × List Gd) := r.bind fun x st1 => rg1R x st1
@[simp] theorem rg1K_ok  (x : D) : rg1K (.ok x st1) = rg1R x st1 := Eq.trans rfl rfl
@[simp] theorem rg1K_ex  (q : Xc) : rg1K (.ex q st1) = .ex q st1 := Eq.trans rfl rfl
@[simp] theorem evIt_rg1 (e : E) : evIt cf gl env st (.rg1 e) = rg1K (ev cf gl env st e) := by rw [evIt]; rfl
def rg2R (x y : D) (st : St) : R (List D × List Gd) := match x, y with
  | .int i, .int j => if okRange i && okRange j then .ok (rangeL i (j - i).toNat, []) st else .no
  | _, _ => .no
theorem rg2R_int {i j : Int} (st : St) (h : okRange i = true) (h2 : okRange j = true) : rg2R (.int i) (.int j) st = .ok (rangeL i (j - i).toNat, []) st := by simp [rg2R, h, h2]
def rg2K2 (u : D) (r : R D) : R (List D × List Gd) := r.bind fun x st1 => rg2R u x st1
@[simp] theorem rg2K2_ok (u : D) (x : D) : rg2K2 u (.ok x st1) = rg2R u x st1 := Eq.trans rfl rfl
@[simp] theorem rg2K2_ex (u : D) (q : Xc) : rg2K2 u (.ex q st1) = .ex q st1 := Eq.trans rfl rfl
def rg2K (b : E) (r : R D) : R (List D × List Gd) := r.bind fun x st1 => rg2K2 x (ev cf gl env st1 b)
@[simp] theorem rg2K_ok (b : E) (x : D) : rg2K cf gl env b (.ok x st1) = rg2K2 x (ev cf gl env st1 b) := Eq.trans rfl rfl
@[simp] theorem rg2K_ex (b : E) (q : Xc) : rg2K cf gl env b (.ex q st1) = .ex q st1 := Eq.trans rfl rfl
@[simp] theorem evIt_rg2 (a b : E) : evIt cf gl env st (.rg2 a b) = rg2K cf gl env b (ev cf gl env st a) := by rw [evIt]; rfl
def zpR (a b : E) (x y : D) (st2 : St) : R (List D × List Gd) := if isTup x != isTup y then .no else match seqOf st2 x, seqOf st2 y with
    | some p, some q => .ok (List.zipWith (fun u v => .tup [u, v]) p.1 q.1, p.2 ++ guardOf a x ++ (q.2 ++ guardOf b y)) st2
    | _, _ => .no
def zpK2 (a b : E) (u : D) (r : R D) : R (List D × List Gd) := r.bind fun x st1 => zpR a b u x st1
@[simp] theorem zpK2_ok (a b : E) (u : D) (x : D) : zpK2 a b u (.ok x st1) = zpR a b u x st1 := Eq.trans rfl rfl
@[simp] theorem zpK2_ex (a b : E) (u : D) (q : Xc) : zpK2 a b u (.ex q st1) = .ex q st1 := Eq.trans rfl rfl
def zpK (a b : E) (r : R D) : R (List D × List Gd) := r.bind fun x st1 => zpK2 a b x (ev cf gl env st1 b)
@[simp] theorem zpK_ok (a b : E) (x : D) : zpK cf gl env a b (.ok x st1) = zpK2 a b x (ev cf gl env st1 b) := Eq.trans rfl rfl
@[simp] theorem zpK_ex (a b : E) (q : Xc) : zpK cf gl env a b (.ex q st1) = .ex q st1 := Eq.trans rfl rfl
@[simp] theorem evIt_zp (a b : E) : evIt cf gl env st (.zp a b) = zpK cf gl env a b (ev cf gl env st a) := by rw [evIt]; rfl
def enR (a : E) (x : D) (st1 : St) : R (List D × List Gd) := match seqOf st1 x with
    | some p => .ok (p.1.mapIdx (fun i u => .tup [.int i, u]), p.2 ++ guardOf a x) st1
    | none => .no
def enK (a : E) (r : R D) : R (List D × List Gd) := r.bind fun x st1 => enR a x st1
@[simp] theorem enK_ok (a : E) (x : D) : enK a (.ok x st1) = enR a x st1 := Eq.trans rfl rfl
@[simp] theorem enK_ex (a : E) (q : Xc) : enK a (.ex q st1) = .ex q st1 := Eq.trans rfl rfl
@[simp] theorem evIt_en (a : E) : evIt cf gl env st (.en a) = enK a (ev cf gl env st a) := by rw [evIt]; rfl
def stR (x : D) (st1 : St) : R (List D × List Gd) := match x with
    | .str z => .ok (z.map fun c => .str [c], []) st1
    | _ => .no
@[simp] theorem stR_str (z : List Nat) : stR (.str z) st1 = .ok (z.map fun c => .str [c], []) st1 := Eq.trans rfl rfl
def stK  (r : R D) : R (List D × List Gd) := r.bind fun x st1 => stR x st1
@[simp] theorem stK_ok  (x : D) : stK (.ok x st1) = stR x st1 := Eq.trans rfl rfl
@[simp] theorem stK_ex  (q : Xc) : stK (.ex q st1) = .ex q st1 := Eq.trans rfl rfl
@[simp] theorem evIt_st (a : E) : evIt cf gl env st (.st a) = stK (ev cf gl env st a) := by rw [evIt]; rfl
@[simp] theorem seqOf_tup (xs : List D) : seqOf st (.tup xs) = some (xs, []) := Eq.trans rfl rfl
@[simp] theorem seqOf_lst (xs : List D) : seqOf st (.lst xs) = some (xs, []) := Eq.trans rfl rfl
@[simp] theorem zpR_tup (a b : E) (xs ys : List D) (ha : guardOf a (.tup xs) = []) (hb : guardOf b (.tup ys) = []) : zpR a b (.tup xs) (.tup ys) st = .ok (List.zipWith (fun u v => .tup [u, v]) xs ys, []) st := by simp [zpR, isTup, ha, hb]
@[simp] theorem zpR_lst (a b : E) (xs ys : List D) (ha : guardOf a (.lst xs) = []) (hb : guardOf b (.lst ys) = []) : zpR a b (.lst xs) (.lst ys) st = .ok (List.zipWith (fun u v => .tup [u, v]) xs ys, []) st := by simp [zpR, isTup, ha, hb]
@[simp] theorem enR_tup (a : E) (xs : List D) : enR a (.tup xs) st = .ok (xs.mapIdx (fun i u => .tup [.int i, u]), guardOf a (.tup xs)) st := by simp [enR]
@[simp] theorem enR_lst (a : E) (xs : List D) : enR a (.lst xs) st = .ok (xs.mapIdx (fun i u => .tup [.int i, u]), guardOf a (.lst xs)) st := by simp [enR]
@[simp] theorem guardOf_tup (e : E) (xs : List D) : guardOf e (.tup xs) = [] := by cases e <;> rfl
@[simp] theorem guardOf_var (i : Nat) (d : D) : guardOf (.var i) d = [] := Eq.trans rfl rfl
@[simp] theorem guardOf_lc (a : E) (t : Tg) (i : It) (c : E) (o : List Nat) (d : D) : guardOf (.lc a t i c o) d = [] := Eq.trans rfl rfl
@[simp] theorem guardOf_bin (o : Bo) (a b : E) (d : D) : guardOf (.bin o a b) d = [] := Eq.trans rfl rfl
@[simp] theorem guardOf_idx (a b : E) (d : D) : guardOf (.idx a b) d = [] := Eq.trans rfl rfl
@[simp] theorem guardOf_slc (a b c : E) (d : D) : guardOf (.slc a b c) d = [] := Eq.trans rfl rfl
@[simp] theorem guardOf_bi (a : Bi) (b : Es) (d : D) : guardOf (.bi a b) d = [] := Eq.trans rfl rfl
@[simp] theorem guardOf_lst (b : Es) (d : D) : guardOf (.lst b) d = [] := Eq.trans rfl rfl
@[simp] theorem guardOf_call (f : Nat) (b : Es) (d : D) : guardOf (.call f b) d = [] := Eq.trans rfl rfl
@[simp] theorem guardOf_rev (b : E) (d : D) : guardOf (.rev b) d = [] := Eq.trans rfl rfl
/-! statements -/
def asgK (t : Tt) (r : R D) : O := r.o env fun x st1 => asgT cf gl env st1 t x
@[simp] theorem asgK_ok (t : Tt) (x : D) : asgK cf gl env t (.ok x st1) = asgT cf gl env st1 t x := Eq.trans rfl rfl
@[simp] theorem asgK_ex (t : Tt) (q : Xc) : asgK cf gl env t (.ex q st1) = .ex q env st1 := Eq.trans rfl rfl
@[simp] theorem exec_asg (t : Tt) (e : E) : exec cf gl env st (.asg t e) = asgK cf gl env t (ev cf gl env st e) := by rw [exec]; rfl
@[simp] theorem asgT_nm (i : Nat) (d : D) : asgT cf gl env st (.nm i) d = nxO (setV env i (.va d)) st := by rw [asgT]; rfl
def tpO (ts : List Tt) (d : D) : O := match d with
    | .tup ds => if ds.length = ts.length then asgTs cf gl env st ts ds else .no
    | _ => .no
@[simp] theorem tpO_tup (ts : List Tt) (ds : List D) : tpO cf gl env st ts (.tup ds) = if ds.length = ts.length then asgTs cf gl env st ts ds else .no := Eq.trans rfl rfl
@[simp] theorem asgT_tp (ts : List Tt) (d : D) : asgT cf gl env st (.tp ts) d = tpO cf gl env st ts d := by cases d <;> simp [asgT, tpO]
def asgsK (ts : List Tt) (ds : List D) (r : O) : O := match r with
    | .nx env' st' => asgTs cf gl env' st' ts ds
    | .ex x env' st' => .ex x env' st'
    | _ => .no
@[simp] theorem asgsK_nx (ts : List Tt) (ds : List D) : asgsK cf gl ts ds (.nx env st) = asgTs cf gl env st ts ds := Eq.trans rfl rfl
@[simp] theorem asgTs_nil : asgTs cf gl env st [] [] = .nx env st := by rw [asgTs]
@[simp] theorem asgTs_cons (t : Tt) (ts : List Tt) (d : D) (ds : List D) : asgTs cf gl env st (t :: ts) (d :: ds) = asgsK cf gl ts ds (asgT cf gl env st t d) := by rw [asgTs]; rfl
def subR (d x y : D) (st2 : St) : O := match x, y with
    | .ref n, .int k => match st2[n]? with
      | some (.lst xs) => match L2.ixN xs.length k with
        | some j => .nx env (st2.set n (.lst (xs.set j d)))
        | none => .no
      | _ => .no
    | _, _ => .no
def subK2 (d u : D) (r : R D) : O := r.o env fun x st1 => subR env d u x st1
@[simp] theorem subK2_ok (d u : D) (x : D) : subK2 env d u (.ok x st1) = subR env d u x st1 := Eq.trans rfl rfl
@[simp] theorem subK2_ex (d u : D) (q : Xc) : subK2 env d u (.ex q st1) = .ex q env st1 := Eq.trans rfl rfl
def subK (i : E) (d : D) (r : R D) : O := r.o env fun x st1 => subK2 env d x (ev cf gl env st1 i)
@[simp] theorem subK_ok (i : E) (d : D) (x : D) : subK cf gl env i d (.ok x st1) = subK2 env d x (ev cf gl env st1 i) := Eq.trans rfl rfl
@[simp] theorem subK_ex (i : E) (d : D) (q : Xc) : subK cf gl env i d (.ex q st1) = .ex q env st1 := Eq.trans rfl rfl
@[simp] theorem asgT_sub (a i : E) (d : D) : asgT cf gl env st (.sub a i) d = subK cf gl env i d (ev cf gl env st a) := by rw [asgT]; rfl
def parO (i j : Nat) (u v : Sl) (st : St) : O := match setV env i u with
        | some env1 => match setV env1 j v with
          | some env2 => if i = j then .no else .nx env2 st
          | none => .no
        | none => .no
def parS (i j : Nat) (u : Sl) (s : Option Sl) : O := match s with
  | some v => parO env i j u v st
  | none => .no
@[simp] theorem parS_some (i j : Nat) (u v : Sl) : parS env st i j u (some v) = parO env i j u v st := Eq.trans rfl rfl
@[simp] theorem slot_t (xs : List D) : slot true (.lst xs) = some (.ow xs) := Eq.trans rfl rfl
@[simp] theorem slot_f (d : D) : slot false d = some (.va d) := Eq.trans rfl rfl
def parK2 (i j : Nat) (oj : Bool) (u : Sl) (r : R D) : O := r.o env fun x st1 => parS env st1 i j u (slot oj x)
@[simp] theorem parK2_ok (i j : Nat) (oj : Bool) (u : Sl) (x : D) : parK2 env i j oj u (.ok x st1) = parS env st1 i j u (slot oj x) := Eq.trans rfl rfl
@[simp] theorem parK2_ex (i j : Nat) (oj : Bool) (u : Sl) (q : Xc) : parK2 env i j oj u (.ex q st1) = .ex q env st1 := Eq.trans rfl rfl
def parBe (i j : Nat) (oj : Bool) (b : E) (s : Option Sl) : O := match s with
  | some u => parK2 env i j oj u (ev cf gl env st b)
  | none => .no
@[simp] theorem parBe_some (i j : Nat) (oj : Bool) (b : E) (u : Sl) : parBe cf gl env st i j oj b (some u) = parK2 env i j oj u (ev cf gl env st b) := Eq.trans rfl rfl
def parK (i : Nat) (oi : Bool) (j : Nat) (oj : Bool) (b : E) (r : R D) : O := r.o env fun x st1 => parBe cf gl env st1 i j oj b (slot oi x)
@[simp] theorem parK_ok (i : Nat) (oi : Bool) (j : Nat) (oj : Bool) (b : E) (x : D) : parK cf gl env i oi j oj b (.ok x st1) = parBe cf gl env st1 i j oj b (slot oi x) := Eq.trans rfl rfl
@[simp] theorem parK_ex (i : Nat) (oi : Bool) (j : Nat) (oj : Bool) (b : E) (q : Xc) : parK cf gl env i oi j oj b (.ex q st1) = .ex q env st1 := Eq.trans rfl rfl
@[simp] theorem exec_par (i : Nat) (oi : Bool) (j : Nat) (oj : Bool) (a b : E) : exec cf gl env st (.par i oi j oj a b) = parK cf gl env i oi j oj b (ev cf gl env st a) := by
  rw [exec]
  unfold parK
  congr 1
def newS (i : Nat) (s : Option Sl) : O := match s with
  | some u => nxO (setV env i u) st
  | none => .no
@[simp] theorem newS_some (i : Nat) (u : Sl) : newS env st i (some u) = nxO (setV env i u) st := Eq.trans rfl rfl
def newK (i : Nat) (r : R D) : O := r.o env fun x st1 => newS env st1 i (slot true x)
@[simp] theorem newK_ok (i : Nat) (x : D) : newK env i (.ok x st1) = newS env st1 i (slot true x) := Eq.trans rfl rfl
@[simp] theorem newK_ex (i : Nat) (q : Xc) : newK env i (.ex q st1) = .ex q env st1 := Eq.trans rfl rfl
@[simp] theorem exec_newO (i : Nat) (e : E) : exec cf gl env st (.newO i e) = newK env i (ev cf gl env st e) := by
  rw [exec]
  unfold newK
  congr 1
def appK (i : Nat) (xs : List D) (r : R D) : O := r.o env fun x st1 => if xs.length < sizeLine then .nx (env.set i (.ow (xs ++ [x]))) st1 else .no
@[simp] theorem appK_ok (i : Nat) (xs : List D) (x : D) : appK env i xs (.ok x st1) = if xs.length < sizeLine then .nx (env.set i (.ow (xs ++ [x]))) st1 else .no := Eq.trans rfl rfl
@[simp] theorem appK_ex (i : Nat) (xs : List D) (q : Xc) : appK env i xs (.ex q st1) = .ex q env st1 := Eq.trans rfl rfl
def appB (i : Nat) (e : E) (o : Option Sl) : O := match o with
  | some (.ow xs) => appK env i xs (ev cf gl env st e)
  | _ => .no
@[simp] theorem appB_ow (i : Nat) (e : E) (xs : List D) : appB cf gl env st i e (some (.ow xs)) = appK env i xs (ev cf gl env st e) := Eq.trans rfl rfl
@[simp] theorem exec_appO (i : Nat) (e : E) : exec cf gl env st (.appO i e) = appB cf gl env st i e env[i]? := by rw [exec]; rfl
def extR (i : Nat) (xs : List D) (d : D) : O := match d with
      | .lst ys => if xs.length + ys.length ≤ sizeLine then .nx (env.set i (.ow (xs ++ ys))) st else .no
      | _ => .no
@[simp] theorem extR_lst (i : Nat) (xs ys : List D) : extR env st i xs (.lst ys) = if xs.length + ys.length ≤ sizeLine then .nx (env.set i (.ow (xs ++ ys))) st else .no := Eq.trans rfl rfl
def extK (i : Nat) (xs : List D) (r : R D) : O := r.o env fun x st1 => extR env st1 i xs (vw st1 x)
@[simp] theorem extK_ok (i : Nat) (xs : List D) (x : D) : extK env i xs (.ok x st1) = extR env st1 i xs (vw st1 x) := Eq.trans rfl rfl
@[simp] theorem extK_ex (i : Nat) (xs : List D) (q : Xc) : extK env i xs (.ex q st1) = .ex q env st1 := Eq.trans rfl rfl
def extB (i : Nat) (e : E) (o : Option Sl) : O := match o with
  | some (.ow xs) => extK env i xs (ev cf gl env st e)
  | _ => .no
@[simp] theorem extB_ow (i : Nat) (e : E) (xs : List D) : extB cf gl env st i e (some (.ow xs)) = extK env i xs (ev cf gl env st e) := Eq.trans rfl rfl
@[simp] theorem exec_extO (i : Nat) (e : E) : exec cf gl env st (.extO i e) = extB cf gl env st i e env[i]? := by rw [exec]; rfl
def setR (i : Nat) (xs : List D) (d k : D) (st2 : St) : O := match k with
      | .int k => match L2.ixN xs.length k with
        | some j => .nx (env.set i (.ow (xs.set j d))) st2
        | none => .no
      | _ => .no
theorem setR_int {i : Nat} {xs : List D} {d : D} {k : Int} {j : Nat} {st2 : St} (h : L2.ixN xs.length k = some j) : setR env i xs d (.int k) st2 = .nx (env.set i (.ow (xs.set j d))) st2 := by simp [setR, h]
def setK2 (i : Nat) (xs : List D) (d : D) (r : R D) : O := r.o env fun x st1 => setR env i xs d x st1
@[simp] theorem setK2_ok (i : Nat) (xs : List D) (d : D) (x : D) : setK2 env i xs d (.ok x st1) = setR env i xs d x st1 := Eq.trans rfl rfl
@[simp] theorem setK2_ex (i : Nat) (xs : List D) (d : D) (q : Xc) : setK2 env i xs d (.ex q st1) = .ex q env st1 := Eq.trans rfl rfl
def setB (i : Nat) (a : E) (d : D) (o : Option Sl) : O := match o with
  | some (.ow xs) => setK2 env i xs d (ev cf gl env st a)
  | _ => .no
@[simp] theorem setB_ow (i : Nat) (a : E) (d : D) (xs : List D) : setB cf gl env st i a d (some (.ow xs)) = setK2 env i xs d (ev cf gl env st a) := Eq.trans rfl rfl
def setK (i : Nat) (a : E) (r : R D) : O := r.o env fun x st1 => setB cf gl env st1 i a x env[i]?
@[simp] theorem setK_ok (i : Nat) (a : E) (x : D) : setK cf gl env i a (.ok x st1) = setB cf gl env st1 i a x env[i]? := Eq.trans rfl rfl
@[simp] theorem setK_ex (i : Nat) (a : E) (q : Xc) : setK cf gl env i a (.ex q st1) = .ex q env st1 := Eq.trans rfl rfl
@[simp] theorem exec_setO (i : Nat) (a e : E) : exec cf gl env st (.setO i a e) = setK cf gl env i a (ev cf gl env st e) := by rw [exec]; rfl
def augR (i : Nat) (op : Bo) (x y : D) : O := match op, x, y with
      | .add, .int a, .int b => .nx (env.set i (.va (.int (a + b)))) st
      | .sub, .int a, .int b => .nx (env.set i (.va (.int (a - b)))) st
      | _, _, _ => .no
@[simp] theorem augR_add (i : Nat) (a b : Int) : augR env st i .add (.int a) (.int b) = .nx (env.set i (.va (.int (a + b)))) st := Eq.trans rfl rfl
@[simp] theorem augR_sub (i : Nat) (a b : Int) : augR env st i .sub (.int a) (.int b) = .nx (env.set i (.va (.int (a - b)))) st := Eq.trans rfl rfl
def augK (i : Nat) (op : Bo) (u : D) (r : R D) : O := r.o env fun x st1 => augR env st1 i op u x
@[simp] theorem augK_ok (i : Nat) (op : Bo) (u : D) (x : D) : augK env i op u (.ok x st1) = augR env st1 i op u x := Eq.trans rfl rfl
@[simp] theorem augK_ex (i : Nat) (op : Bo) (u : D) (q : Xc) : augK env i op u (.ex q st1) = .ex q env st1 := Eq.trans rfl rfl
def augB (i : Nat) (op : Bo) (e : E) (o : Option Sl) : O := match o with
  | some (.va x) => augK env i op x (ev cf gl env st e)
  | _ => .no
@[simp] theorem augB_va (i : Nat) (op : Bo) (e : E) (x : D) : augB cf gl env st i op e (some (.va x)) = augK env i op x (ev cf gl env st e) := Eq.trans rfl rfl
@[simp] theorem exec_aug (i : Nat) (op : Bo) (e : E) : exec cf gl env st (.aug i op e) = augB cf gl env st i op e env[i]? := by rw [exec]; rfl
def expK  (r : R D) : O := r.o env fun x st1 => .nx env st1
@[simp] theorem expK_ok  (x : D) : expK env (.ok x st1) = .nx env st1 := Eq.trans rfl rfl
@[simp] theorem expK_ex  (q : Xc) : expK env (.ex q st1) = .ex q env st1 := Eq.trans rfl rfl
@[simp] theorem exec_exp (e : E) : exec cf gl env st (.exp e) = expK env (ev cf gl env st e) := by rw [exec]; rfl
def retK  (r : R D) : O := r.o env fun x st1 => .rt x st1
@[simp] theorem retK_ok  (x : D) : retK env (.ok x st1) = .rt x st1 := Eq.trans rfl rfl
@[simp] theorem retK_ex  (q : Xc) : retK env (.ex q st1) = .ex q env st1 := Eq.trans rfl rfl
@[simp] theorem exec_ret (e : E) : exec cf gl env st (.ret e) = retK env (ev cf gl env st e) := by rw [exec]; rfl
def retB (o : Option Sl) : O := match o with
  | some (.ow xs) => .rt (.lst xs) st
  | _ => .no
@[simp] theorem retB_ow (xs : List D) : retB st (some (.ow xs)) = .rt (.lst xs) st := Eq.trans rfl rfl
@[simp] theorem exec_retO (i : Nat) : exec cf gl env st (.retO i) = retB st env[i]? := by rw [exec]; rfl
def iteC (a b : Ss) (d : D) : O := cndO .no d (execs cf gl env st a) (execs cf gl env st b)
@[simp] theorem iteC_t (a b : Ss) : iteC cf gl env st a b (.bl true) = execs cf gl env st a := Eq.trans rfl rfl
@[simp] theorem iteC_f (a b : Ss) : iteC cf gl env st a b (.bl false) = execs cf gl env st b := Eq.trans rfl rfl
@[simp low] theorem iteC_b (a b : Ss) (c : Bool) : iteC cf gl env st a b (.bl c) = if c then execs cf gl env st a else execs cf gl env st b := by cases c <;> rfl
def iteK (a b : Ss) (r : R D) : O := r.o env fun x st1 => iteC cf gl env st1 a b x
@[simp] theorem iteK_ok (a b : Ss) (x : D) : iteK cf gl env a b (.ok x st1) = iteC cf gl env st1 a b x := Eq.trans rfl rfl
@[simp] theorem iteK_ex (a b : Ss) (q : Xc) : iteK cf gl env a b (.ex q st1) = .ex q env st1 := Eq.trans rfl rfl
@[simp] theorem exec_ite (c : E) (a b : Ss) : exec cf gl env st (.ite c a b) = iteK cf gl env a b (ev cf gl env st c) := by rw [exec]; rfl
@[simp] theorem exec_whl (c : E) (b : Ss) : exec cf gl env st (.whl c b) = whlLoop (whlC cf gl c) (whlB cf gl b) fuel env st := by rw [exec]; rfl
def forKK (tg : Tg) (b : Ss) (r : R (List D × List Gd)) : O := r.o env fun x st1 => forLoop (forF cf gl tg b) x.2 x.1 env st1
@[simp] theorem forKK_ok (tg : Tg) (b : Ss) (x : (List D × List Gd)) : forKK cf gl env tg b (.ok x st1) = forLoop (forF cf gl tg b) x.2 x.1 env st1 := Eq.trans rfl rfl
@[simp] theorem forKK_ex (tg : Tg) (b : Ss) (q : Xc) : forKK cf gl env tg b (.ex q st1) = .ex q env st1 := Eq.trans rfl rfl
@[simp] theorem exec_for (tg : Tg) (it : It) (b : Ss) : exec cf gl env st (.for tg it b) = forKK cf gl env tg b (evIt cf gl env st it) := by rw [exec]; rfl
@[simp] theorem exec_brk : exec cf gl env st .brk = .bk env st := by rw [exec]
@[simp] theorem exec_cnt : exec cf gl env st .cnt = .ct env st := by rw [exec]
@[simp] theorem exec_pss : exec cf gl env st .pss = .nx env st := by rw [exec]
@[simp] theorem exec_nev : exec cf gl env st .nev = .no := by rw [exec]
def sqK (ss : Ss) (r : O) : O := match r with
  | .nx env st => execs cf gl env st ss
  | r => r
@[simp] theorem sqK_nx (ss : Ss) : sqK cf gl ss (.nx env st) = execs cf gl env st ss := Eq.trans rfl rfl
@[simp] theorem sqK_rt (ss : Ss) (d : D) : sqK cf gl ss (.rt d st) = .rt d st := Eq.trans rfl rfl
@[simp] theorem sqK_bk (ss : Ss) : sqK cf gl ss (.bk env st) = .bk env st := Eq.trans rfl rfl
@[simp] theorem sqK_ct (ss : Ss) : sqK cf gl ss (.ct env st) = .ct env st := Eq.trans rfl rfl
@[simp] theorem sqK_ex (ss : Ss) (x : Xc) : sqK cf gl ss (.ex x env st) = .ex x env st := Eq.trans rfl rfl
@[simp] theorem execs_nil : execs cf gl env st .nil = .nx env st := by rw [execs]
@[simp] theorem execs_cons (s : S) (ss : Ss) : execs cf gl env st (.cons s ss) = sqK cf gl ss (exec cf gl env st s) := by rw [execs]; rfl
@[simp] theorem setV_lit (i : Nat) (s : Sl) : setV env i s = if i < env.length then some (env.set i s) else none := Eq.trans rfl rfl
end
@[simp] theorem gdsOk_nil (env : Env) (st : St) : gdsOk env st [] = true := Eq.trans rfl rfl
theorem whl_t {c : Env → St → R D} {f : Env → St → O} {n : Nat} {env env' : Env} {st st1 st' : St} (h1 : c env st = .ok (.bl true) st1) (h2 : f env st1 = .nx env' st') : whlLoop c f (n + 1) env st = whlLoop c f n env' st' := by
  rw [whlLoop, h1]
  simp [h2]
theorem whl_r {c : Env → St → R D} {f : Env → St → O} {n : Nat} {env : Env} {st st1 st' : St} {d : D} (h1 : c env st = .ok (.bl true) st1) (h2 : f env st1 = .rt d st') : whlLoop c f (n + 1) env st = .rt d st' := by
  rw [whlLoop, h1]
  simp [h2]
theorem whl_f {c : Env → St → R D} {f : Env → St → O} {n : Nat} {env : Env} {st st1 : St} (h1 : c env st = .ok (.bl false) st1) : whlLoop c f (n + 1) env st = .nx env st1 := by
  rw [whlLoop, h1]
  simp
theorem for_nil {f : D → Env → St → O} {gs : List Gd} {env : Env} {st : St} (hg : gdsOk env st gs = true) : forLoop f gs [] env st = .nx env st := by
  rw [forLoop, if_pos hg]
theorem for_nx {f : D → Env → St → O} {gs : List Gd} {x : D} {xs : List D} {env env' : Env} {st st' : St} (hg : gdsOk env st gs = true) (h : f x env st = .nx env' st') : forLoop f gs (x :: xs) env st = forLoop f gs xs env' st' := by
  rw [forLoop, if_pos hg, h]
theorem for_ct {f : D → Env → St → O} {gs : List Gd} {x : D} {xs : List D} {env env' : Env} {st st' : St} (hg : gdsOk env st gs = true) (h : f x env st = .ct env' st') : forLoop f gs (x :: xs) env st = forLoop f gs xs env' st' := by
  rw [forLoop, if_pos hg, h]
theorem for_rt {f : D → Env → St → O} {gs : List Gd} {x : D} {xs : List D} {env : Env} {st st' : St} {d : D} (hg : gdsOk env st gs = true) (h : f x env st = .rt d st') : forLoop f gs (x :: xs) env st = .rt d st' := by
  rw [forLoop, if_pos hg, h]
theorem lc_nil {f : D → St → R (Option D)} {gs : List Gd} {env : Env} {st : St} (hg : gdsOk env st gs = true) : lcLoop f gs env [] st = .ok [] st := by
  rw [lcLoop, if_pos hg]
theorem lc_some {f : D → St → R (Option D)} {gs : List Gd} {env : Env} {x : D} {xs ys : List D} {y : D} {st st1 st2 : St} (hg : gdsOk env st gs = true) (h : f x st = .ok (some y) st1) (h2 : lcLoop f gs env xs st1 = .ok ys st2) : lcLoop f gs env (x :: xs) st = .ok (y :: ys) st2 := by
  rw [lcLoop, if_pos hg, h, R.bind_ok, h2, R.bind_ok]
theorem lc_none {f : D → St → R (Option D)} {gs : List Gd} {env : Env} {x : D} {xs ys : List D} {st st1 st2 : St} (hg : gdsOk env st gs = true) (h : f x st = .ok none st1) (h2 : lcLoop f gs env xs st1 = .ok ys st2) : lcLoop f gs env (x :: xs) st = .ok ys st2 := by
  rw [lcLoop, if_pos hg, h, R.bind_ok, h2, R.bind_ok]
theorem lc_pure {f : D → St → R (Option D)} {gs : List Gd} {env : Env} (g : D → Option D) {xs : List D} {st : St} (hg : gdsOk env st gs = true) (h : ∀ x ∈ xs, f x st = .ok (g x) st) : lcLoop f gs env xs st = .ok (xs.filterMap g) st := by
  induction xs with
  | nil => exact lc_nil hg
  | cons x xs ih =>
    have h1 := h x (List.mem_cons_self ..)
    have h2 := ih fun y hy => h y (List.mem_cons_of_mem _ hy)
    cases e : g x with
    | none => rw [List.filterMap_cons_none e]; exact lc_none hg (h1.trans (by rw [e])) h2
    | some y => rw [List.filterMap_cons_some e]; exact lc_some hg (h1.trans (by rw [e])) h2
theorem lc_map {f : D → St → R (Option D)} {gs : List Gd} {env : Env} (g : D → D) {xs : List D} {st : St} (hg : gdsOk env st gs = true) (h : ∀ x ∈ xs, f x st = .ok (some (g x)) st) : lcLoop f gs env xs st = .ok (xs.map g) st := by
  rw [lc_pure (fun x => some (g x)) hg h]
  congr 1
  exact List.filterMap_eq_map ▸ rfl
theorem bools_map (p : D → Bool) : ∀ xs : List D, bools (xs.map fun x => .bl (p x)) = some (xs.map p)
  | [] => rfl
  | x :: xs => by simp [bools, bools_map p xs]
theorem all_map (p : D → Bool) (xs : List D) : biD .all [.lst (xs.map fun x => .bl (p x))] = some (.bl (xs.all p)) := by
  simp [biD, one, lstD, bools_map, Function.comp_def]
theorem bools_mapN {α : Type} (p : α → Bool) : ∀ xs : List α, bools (xs.map fun x => .bl (p x)) = some (xs.map p)
  | [] => rfl
  | x :: xs => by simp [bools, bools_mapN p xs]
theorem all_mapN {α : Type} (p : α → Bool) (xs : List α) : biD .all [.lst (xs.map fun x => .bl (p x))] = some (.bl (xs.all p)) := by
  simp [biD, one, lstD, bools_mapN, Function.comp_def]
/-- a loop that tells a bool as soon as something is not so -/
theorem for_chk {f : D → Env → St → O} {gs : List Gd} (I : Env → Prop) (p : D → Bool) (d : D) : ∀ {xs : List D} {env : Env} {st : St}, (∀ env, I env → gdsOk env st gs = true) →
    (∀ x ∈ xs, ∀ env, I env → if p x then ∃ env', I env' ∧ f x env st = .nx env' st else f x env st = .rt d st) → I env →
    if xs.all p then ∃ env', I env' ∧ forLoop f gs xs env st = .nx env' st else forLoop f gs xs env st = .rt d st
  | [], env, st, hg, h, i => by simpa using ⟨env, i, for_nil (hg env i)⟩
  | x :: xs, env, st, hg, h, i => by
    have h1 := h x (List.mem_cons_self ..) env i
    by_cases hp : p x = true
    · rw [if_pos hp] at h1
      obtain ⟨env', i', e⟩ := h1
      have ih := for_chk I p d hg (fun y hy => h y (List.mem_cons_of_mem _ hy)) i'
      rw [List.all_cons, hp, Bool.true_and, for_nx (hg env i) e]
      exact ih
    · rw [if_neg hp] at h1
      have hpf : p x = false := by simpa using hp
      rw [List.all_cons, hpf, Bool.false_and, for_rt (hg env i) h1]
      simp
end Ev

set_option Elab.async false
set_option linter.all false
set_option maxRecDepth 100000
/-! The trees of the law. Written by gen.py. -/
namespace K79
open PySem Ev
def fnL : List Str := (["is_integer", "is_count", "is_below", "is_row", "is_rising", "is_name", "is_built", "is_kind_of", "is_leaf", "width_of", "want_kind", "is_world", "is_kept", "is_web_of", "truths_of", "want_web", "is_web", "is_true", "truths", "_law_pot", "_law_draw", "_law_pick", "_law_kind", "_law_width", "_law_depth", "_law_some_kind", "_law_shape", "_law_bent", "_law_led", "_law_like", "_law_is_web", "_law_truths", "_law_web", "_law_right", "law"] : List String).map Str.ofString
def psL : List (List Str) := ([["value"], ["value"], ["value", "many"], ["value", "many"], ["items"], ["value"], ["value", "deep"], ["value"], ["kind"], ["kind"], ["value"], ["value", "at", "many"], ["worlds", "at"], ["value"], ["worlds", "kind"], ["value"], ["value"], ["web", "world", "kind"], ["web", "kind"], ["script", "k"], ["pot", "many"], ["pot", "some"], ["pot", "level", "some"], ["kind"], ["kind"], ["pot", "level", "most"], ["kind"], ["pot", "value"], ["pot", "kind"], ["pot", "kind", "turns"], ["value"], ["web", "kind"], ["pot"], ["pot"], ["script"]] : List (List String)).map (·.map Str.ofString)
def glL : List (Str × D) := [("LETTERS", .str [97, 98, 99, 100, 101, 102, 103, 104, 105, 106, 107, 108, 109, 110, 111, 112, 113, 114, 115, 116, 117, 118, 119, 120, 121, 122]), ("MOST_LETTERS", .int 8), ("FROM", .str [102, 114, 111, 109]), ("PAIR", .str [112, 97, 105, 114]), ("NOTHING", .str [110, 111, 116, 104, 105, 110, 103]), ("ATOM", .str [97, 116, 111, 109]), ("MOST_WIDTH", .int 12), ("MOST_DEPTH", .int 6), ("MOST_WORLDS", .int 200), ("WEB", .str [119, 101, 98])]
def nm : Nm := ⟨fun f => fnL.getD f "", fun f => psL.getD f [], fun i => (glL.map (·.1)).getD i "", fun _ => ""⟩
def b_is_integer : Ss := .cons (.ret (.and (.bi (.isin [.tint]) (.cons (.var 0) .nil)) (.not (.bi (.isin [.tbool]) (.cons (.var 0) .nil)))))
 (.nil)
def b_is_count : Ss := .cons (.ret (.and (.call 0 (.cons (.var 0) (.nil))) (.cmp .ge (.var 0) (.cst (.int 0)))))
 (.nil)
def b_is_below : Ss := .cons (.ret (.and (.call 1 (.cons (.var 0) (.nil))) (.cmp .lt (.var 0) (.var 1))))
 (.nil)
def b_is_row : Ss := .cons (.ret (.and (.bi (.isin [.ttup]) (.cons (.var 0) .nil)) (.cmp .eq (.bi .len (.cons (.var 0) (.nil))) (.var 1))))
 (.nil)
def p0_is_rising : E := .cmp .lt (.var 1) (.var 2)
def b_is_rising : Ss := .cons (.ret (.bi .all (.cons (.lc (p0_is_rising) (.tp [.nm 1, .nm 2]) (.zp (.var 0) (.slc (.var 0) (.cst (.int 1)) (.cst .non))) (.cst (.bl true)) [1, 2]) (.nil))))
 (.nil)
def p0_is_name : E := .cmp .isin (.var 1) (.glob 0)
def b_is_name : Ss := .cons (.ret (.and (.bi (.isin [.tstr]) (.cons (.var 0) .nil)) (.and (.chn .le .le (.cst (.int 1)) (.bi .len (.cons (.var 0) (.nil))) (.glob 1)) (.bi .all (.cons (.lc (p0_is_name) (.nm 1) (.st (.var 0)) (.cst (.bl true)) [1]) (.nil))))))
 (.nil)
def b_is_built : Ss := .cons (.ite (.or (.cmp .eq (.var 1) (.cst (.int 0))) (.or (.not (.bi (.isin [.ttup]) (.cons (.var 0) .nil))) (.or (.cmp .eq (.var 0) (.tup (.nil))) (.not (.bi (.isin [.tstr]) (.cons (.idx (.var 0) (.cst (.int 0))) .nil)))))) (.cons (.ret (.cst (.bl false)))
 (.nil)) (.nil))
 (.cons (.ite (.cmp .eq (.idx (.var 0) (.cst (.int 0))) (.glob 5)) (.cons (.ret (.and (.cmp .eq (.bi .len (.cons (.var 0) (.nil))) (.cst (.int 2))) (.call 5 (.cons (.idx (.var 0) (.cst (.int 1))) (.nil)))))
 (.nil)) (.nil))
 (.cons (.ite (.cmp .eq (.idx (.var 0) (.cst (.int 0))) (.glob 4)) (.cons (.ret (.cmp .eq (.bi .len (.cons (.var 0) (.nil))) (.cst (.int 1))))
 (.nil)) (.nil))
 (.cons (.ite (.or (.cmp .nin (.idx (.var 0) (.cst (.int 0))) (.tup (.cons (.glob 3) (.cons (.glob 2) (.nil))))) (.cmp .ne (.bi .len (.cons (.var 0) (.nil))) (.cst (.int 3)))) (.cons (.ret (.cst (.bl false)))
 (.nil)) (.nil))
 (.cons (.ret (.and (.call 6 (.cons (.idx (.var 0) (.cst (.int 1))) (.cons (.bin .sub (.var 1) (.cst (.int 1))) (.nil)))) (.call 6 (.cons (.idx (.var 0) (.cst (.int 2))) (.cons (.bin .sub (.var 1) (.cst (.int 1))) (.nil))))))
 (.nil)))))
def b_is_kind_of : Ss := .cons (.ret (.and (.call 6 (.cons (.var 0) (.cons (.glob 7) (.nil)))) (.cmp .le (.call 9 (.cons (.var 0) (.nil))) (.glob 6))))
 (.nil)
def b_is_leaf : Ss := .cons (.ret (.cmp .isin (.idx (.var 0) (.cst (.int 0))) (.tup (.cons (.glob 5) (.cons (.glob 4) (.nil))))))
 (.nil)
def b_width_of : Ss := .cons (.ret (.ife (.call 8 (.cons (.var 0) (.nil))) (.cst (.int 1)) (.bin .add (.call 9 (.cons (.idx (.var 0) (.cst (.int 1))) (.nil))) (.call 9 (.cons (.idx (.var 0) (.cst (.int 2))) (.nil))))))
 (.nil)
def b_want_kind : Ss := .cons (.ite (.not (.call 7 (.cons (.var 0) (.nil)))) (.cons (.nev)
 (.nil)) (.nil))
 (.cons (.ret (.var 0))
 (.nil))
def p0_is_world : E := .and (.call 2 (.cons (.var 3) (.cons (.var 2) (.nil)))) (.cmp .gt (.var 3) (.var 1))
def p1_is_world : E := .call 5 (.cons (.var 4) (.nil))
def b_is_world : Ss := .cons (.ite (.or (.not (.call 3 (.cons (.var 0) (.cons (.cst (.int 2)) (.nil))))) (.or (.not (.bi (.isin [.ttup]) (.cons (.idx (.var 0) (.cst (.int 0))) .nil))) (.not (.bi (.isin [.ttup]) (.cons (.idx (.var 0) (.cst (.int 1))) .nil))))) (.cons (.ret (.cst (.bl false)))
 (.nil)) (.nil))
 (.cons (.ite (.or (.not (.bi .all (.cons (.lc (p1_is_world) (.nm 4) (.va (.idx (.var 0) (.cst (.int 0)))) (.cst (.bl true)) [4]) (.nil)))) (.not (.call 4 (.cons (.idx (.var 0) (.cst (.int 0))) (.nil))))) (.cons (.ret (.cst (.bl false)))
 (.nil)) (.nil))
 (.cons (.ret (.and (.bi .all (.cons (.lc (p0_is_world) (.nm 3) (.va (.idx (.var 0) (.cst (.int 1)))) (.cst (.bl true)) [3]) (.nil))) (.call 4 (.cons (.idx (.var 0) (.cst (.int 1))) (.nil)))))
 (.nil)))
def p0_is_kept : E := .cmp .isin (.var 6) (.var 4)
def p1_is_kept : E := .cmp .isin (.var 5) (.idx (.idx (.var 0) (.var 2)) (.cst (.int 0)))
def p2_is_kept : Ss := .cons (.ite (.or (.not (.bi .all (.cons (.lc (p1_is_kept) (.nm 5) (.va (.var 3)) (.cst (.bl true)) [5]) (.nil)))) (.not (.bi .all (.cons (.lc (p0_is_kept) (.nm 6) (.va (.idx (.idx (.var 0) (.var 2)) (.cst (.int 1)))) (.cst (.bl true)) [6]) (.nil))))) (.cons (.ret (.cst (.bl false)))
 (.nil)) (.nil))
 (.nil)
def b_is_kept : Ss := .cons (.asg (.tp [.nm 3, .nm 4]) (.idx (.var 0) (.var 1)))
 (.cons (.for (.nm 2) (.va (.var 4)) (p2_is_kept))
 (.cons (.ret (.cst (.bl true)))
 (.nil)))
def p0_is_web_of : E := .call 12 (.cons (.idx (.var 0) (.cst (.int 1))) (.cons (.var 2) (.nil)))
def p1_is_web_of : E := .call 11 (.cons (.idx (.idx (.var 0) (.cst (.int 1))) (.var 2)) (.cons (.var 2) (.cons (.var 1) (.nil))))
def b_is_web_of : Ss := .cons (.ite (.or (.not (.call 3 (.cons (.var 0) (.cons (.cst (.int 2)) (.nil))))) (.or (.not (.bi (.isin [.tstr]) (.cons (.idx (.var 0) (.cst (.int 0))) .nil))) (.or (.cmp .ne (.idx (.var 0) (.cst (.int 0))) (.glob 9)) (.not (.bi (.isin [.ttup]) (.cons (.idx (.var 0) (.cst (.int 1))) .nil)))))) (.cons (.ret (.cst (.bl false)))
 (.nil)) (.nil))
 (.cons (.asg (.nm 1) (.bi .len (.cons (.idx (.var 0) (.cst (.int 1))) (.nil))))
 (.cons (.ite (.or (.not (.chn .le .le (.cst (.int 1)) (.var 1) (.glob 8))) (.not (.bi .all (.cons (.lc (p1_is_web_of) (.nm 2) (.rg1 (.var 1)) (.cst (.bl true)) [2]) (.nil))))) (.cons (.ret (.cst (.bl false)))
 (.nil)) (.nil))
 (.cons (.ret (.bi .all (.cons (.lc (p0_is_web_of) (.nm 2) (.rg1 (.var 1)) (.cst (.bl true)) [2]) (.nil))))
 (.nil))))
def p0_truths_of : E := .or (.idx (.var 4) (.var 11)) (.not (.idx (.var 3) (.var 11)))
def p1_truths_of : Ss := .cons (.appO 2 (.bi .all (.cons (.lc (p0_truths_of) (.nm 11) (.va (.bin .add (.tup (.cons (.var 5) (.nil))) (.var 7))) (.cst (.bl true)) [11]) (.nil))))
 (.nil)
def p2_truths_of : E := .and (.var 9) (.var 10)
def p3_truths_of : E := .cmp .isin (.idx (.var 1) (.cst (.int 1))) (.var 6)
def b_truths_of : Ss := .cons (.ite (.cmp .eq (.idx (.var 1) (.cst (.int 0))) (.glob 5)) (.cons (.ret (.lc (p3_truths_of) (.tp [.nm 6, .nm 7]) (.va (.var 0)) (.cst (.bl true)) [6, 7]))
 (.nil)) (.nil))
 (.cons (.ite (.cmp .eq (.idx (.var 1) (.cst (.int 0))) (.glob 4)) (.cons (.ret (.lc (.cst (.bl true)) (.nm 8) (.va (.var 0)) (.cst (.bl true)) [8]))
 (.nil)) (.nil))
 (.cons (.asg (.tp [.nm 3, .nm 4]) (.tup (.cons (.call 14 (.cons (.var 0) (.cons (.idx (.var 1) (.cst (.int 1))) (.nil)))) (.cons (.call 14 (.cons (.var 0) (.cons (.idx (.var 1) (.cst (.int 2))) (.nil)))) (.nil)))))
 (.cons (.ite (.cmp .eq (.idx (.var 1) (.cst (.int 0))) (.glob 3)) (.cons (.ret (.lc (p2_truths_of) (.tp [.nm 9, .nm 10]) (.zp (.var 3) (.var 4)) (.cst (.bl true)) [9, 10]))
 (.nil)) (.nil))
 (.cons (.newO 2 (.lst (.nil)))
 (.cons (.for (.tp [.nm 5, .tp [.nm 6, .nm 7]]) (.en (.var 0)) (p1_truths_of))
 (.cons (.retO 2)
 (.nil)))))))
def b_want_web : Ss := .cons (.ite (.not (.call 13 (.cons (.var 0) (.nil)))) (.cons (.nev)
 (.nil)) (.nil))
 (.cons (.ret (.var 0))
 (.nil))
def b_is_web : Ss := .cons (.ret (.call 13 (.cons (.var 0) (.nil))))
 (.nil)
def b_is_true : Ss := .cons (.ite (.not (.call 2 (.cons (.var 1) (.cons (.bi .len (.cons (.idx (.call 15 (.cons (.var 0) (.nil))) (.cst (.int 1))) (.nil))) (.nil))))) (.cons (.nev)
 (.nil)) (.nil))
 (.cons (.ret (.idx (.call 14 (.cons (.idx (.var 0) (.cst (.int 1))) (.cons (.call 10 (.cons (.var 2) (.nil))) (.nil)))) (.var 1)))
 (.nil))
def b_truths : Ss := .cons (.asg (.nm 2) (.call 14 (.cons (.idx (.call 15 (.cons (.var 0) (.nil))) (.cst (.int 1))) (.cons (.call 10 (.cons (.var 1) (.nil))) (.nil)))))
 (.cons (.ret (.lc (.var 3) (.tp [.nm 3, .nm 4]) (.en (.var 2)) (.var 4) [3, 4]))
 (.nil))
def b__law_pot : Ss := .cons (.asg (.nm 2) (.ife (.cmp .lt (.var 1) (.bi .len (.cons (.var 0) (.nil)))) (.bi .abs (.cons (.idx (.var 0) (.var 1)) (.nil))) (.bin .add (.bin .mul (.cst (.int 4091)) (.var 1)) (.cst (.int 2373)))))
 (.cons (.ret (.lstC (.cons (.bi .max2 (.cons (.cst (.int 0)) (.cons (.bin .sub (.var 2) (.bin .pow (.cst (.int 10)) (.cst (.int 18)))) (.nil)))) (.cons (.bin .add (.bin .mod (.bi .intf (.cons (.bin .add (.bin .add (.bin .mul (.bin .mod (.bi .intf (.cons (.var 2) (.nil))) (.cst (.int 2147483549))) (.cst (.int 42197))) (.bin .mul (.cst (.int 2373)) (.var 1))) (.cst (.int 741))) (.nil))) (.cst (.int 2147483563))) (.cst (.int 1))) (.nil)))))
 (.nil))
def b__law_draw : Ss := .cons (.ite (.cmp .gt (.idx (.var 0) (.cst (.int 0))) (.cst (.int 0))) (.cons (.asg (.tp [.sub (.var 0) (.cst (.int 0)), .nm 2]) (.bi .divmod (.cons (.idx (.var 0) (.cst (.int 0))) (.cons (.var 1) (.nil)))))
 (.cons (.ret (.var 2))
 (.nil))) (.nil))
 (.cons (.asg (.sub (.var 0) (.cst (.int 1))) (.bin .mod (.bi .intf (.cons (.bin .add (.bin .mul (.idx (.var 0) (.cst (.int 1))) (.cst (.int 48271))) (.cst (.int 4091))) (.nil))) (.cst (.int 2147483587))))
 (.cons (.ret (.bin .mod (.bi .intf (.cons (.bin .fdv (.bin .mod (.bi .intf (.cons (.bin .mul (.idx (.var 0) (.cst (.int 1))) (.idx (.var 0) (.cst (.int 1)))) (.nil))) (.cst (.int 2147483549))) (.cst (.int 599))) (.nil))) (.var 1)))
 (.nil)))
def b__law_pick : Ss := .cons (.ret (.idx (.var 1) (.call 20 (.cons (.var 0) (.cons (.bi .len (.cons (.var 1) (.nil))) (.nil))))))
 (.nil)
def b__law_kind : Ss := .cons (.asg (.nm 3) (.call 20 (.cons (.var 0) (.cons (.cst (.int 8)) (.nil)))))
 (.cons (.ite (.or (.cmp .lt (.var 1) (.cst (.int 2))) (.cmp .lt (.var 3) (.cst (.int 2)))) (.cons (.ret (.ife (.cmp .eq (.call 20 (.cons (.var 0) (.cons (.cst (.int 6)) (.nil)))) (.cst (.int 0))) (.tup (.cons (.cst (.str [110, 111, 116, 104, 105, 110, 103])) (.nil))) (.tup (.cons (.cst (.str [97, 116, 111, 109])) (.cons (.call 21 (.cons (.var 0) (.cons (.var 2) (.nil)))) (.nil))))))
 (.nil)) (.nil))
 (.cons (.par 4 false 5 false (.call 22 (.cons (.var 0) (.cons (.bin .sub (.var 1) (.cst (.int 1))) (.cons (.var 2) (.nil))))) (.call 22 (.cons (.var 0) (.cons (.bin .sub (.var 1) (.cst (.int 1))) (.cons (.var 2) (.nil))))))
 (.cons (.ret (.tup (.cons (.ife (.cmp .lt (.var 3) (.cst (.int 5))) (.cst (.str [112, 97, 105, 114])) (.cst (.str [102, 114, 111, 109]))) (.cons (.var 4) (.cons (.var 5) (.nil))))))
 (.nil))))
def b__law_width : Ss := .cons (.ret (.ife (.cmp .isin (.idx (.var 0) (.cst (.int 0))) (.tup (.cons (.cst (.str [97, 116, 111, 109])) (.cons (.cst (.str [110, 111, 116, 104, 105, 110, 103])) (.nil))))) (.cst (.int 1)) (.bin .add (.call 23 (.cons (.idx (.var 0) (.cst (.int 1))) (.nil))) (.call 23 (.cons (.idx (.var 0) (.cst (.int 2))) (.nil))))))
 (.nil)
def b__law_depth : Ss := .cons (.ret (.ife (.cmp .isin (.idx (.var 0) (.cst (.int 0))) (.tup (.cons (.cst (.str [97, 116, 111, 109])) (.cons (.cst (.str [110, 111, 116, 104, 105, 110, 103])) (.nil))))) (.cst (.int 1)) (.bin .add (.cst (.int 1)) (.bi .max2 (.cons (.call 24 (.cons (.idx (.var 0) (.cst (.int 1))) (.nil))) (.cons (.call 24 (.cons (.idx (.var 0) (.cst (.int 2))) (.nil))) (.nil)))))))
 (.nil)
def p0__law_some_kind : E := .cmp .gt (.call 23 (.cons (.var 3) (.nil))) (.var 2)
def p1__law_some_kind : Ss := .cons (.asg (.nm 3) (.idx (.var 3) (.bin .add (.cst (.int 1)) (.call 20 (.cons (.var 0) (.cons (.cst (.int 2)) (.nil)))))))
 (.nil)
def b__law_some_kind : Ss := .cons (.asg (.nm 3) (.call 22 (.cons (.var 0) (.cons (.var 1) (.cons (.lst (.cons (.cst (.str [97])) (.cons (.cst (.str [98])) (.cons (.cst (.str [99])) (.nil))))) (.nil))))))
 (.cons (.whl (p0__law_some_kind) (p1__law_some_kind))
 (.cons (.ret (.var 3))
 (.nil)))
def p0__law_shape : E := .tup (.cons (.bi .tuple (.cons (.bi .sorted (.cons (.bin .add (.var 1) (.var 3)) (.nil))) (.nil))) (.cons (.var 4) (.nil)))
def b__law_shape : Ss := .cons (.ite (.cmp .eq (.idx (.var 0) (.cst (.int 0))) (.cst (.str [97, 116, 111, 109]))) (.cons (.ret (.tup (.cons (.tup (.cons (.tup (.nil)) (.cons (.idx (.var 0) (.cst (.int 1))) (.nil)))) (.nil))))
 (.nil)) (.nil))
 (.cons (.ite (.cmp .eq (.idx (.var 0) (.cst (.int 0))) (.cst (.str [110, 111, 116, 104, 105, 110, 103]))) (.cons (.ret (.tup (.nil)))
 (.nil)) (.nil))
 (.cons (.asg (.tp [.nm 1, .nm 2]) (.tup (.cons (.call 26 (.cons (.idx (.var 0) (.cst (.int 1))) (.nil))) (.cons (.call 26 (.cons (.idx (.var 0) (.cst (.int 2))) (.nil))) (.nil)))))
 (.cons (.ite (.cmp .eq (.idx (.var 0) (.cst (.int 0))) (.cst (.str [112, 97, 105, 114]))) (.cons (.ret (.bi .tuple (.cons (.bi .sorted (.cons (.bin .add (.var 1) (.var 2)) (.nil))) (.nil))))
 (.nil)) (.nil))
 (.cons (.ret (.bi .tuple (.cons (.bi .sorted (.cons (.lc (p0__law_shape) (.tp [.nm 3, .nm 4]) (.va (.var 2)) (.cst (.bl true)) [3, 4]) (.nil))) (.nil))))
 (.nil)))))
def b__law_bent : Ss := .cons (.ite (.and (.bi (.isin [.ttup, .tlst]) (.cons (.var 1) .nil)) (.and (.cmp .gt (.bi .len (.cons (.var 1) (.nil))) (.cst (.int 0))) (.cmp .gt (.call 20 (.cons (.var 0) (.cons (.cst (.int 6)) (.nil)))) (.cst (.int 0))))) (.cons (.par 3 false 4 false (.call 20 (.cons (.var 0) (.cons (.bi .len (.cons (.var 1) (.nil))) (.nil)))) (.call 20 (.cons (.var 0) (.cons (.cst (.int 9)) (.nil)))))
 (.cons (.ite (.cmp .eq (.var 4) (.cst (.int 0))) (.cons (.ret (.bin .add (.slc (.var 1) (.cst .non) (.var 3)) (.slc (.var 1) (.bin .add (.var 3) (.cst (.int 1))) (.cst .non))))
 (.nil)) (.nil))
 (.cons (.ite (.cmp .eq (.var 4) (.cst (.int 1))) (.cons (.ret (.bin .add (.slc (.var 1) (.cst .non) (.bin .add (.var 3) (.cst (.int 1)))) (.slc (.var 1) (.var 3) (.cst .non))))
 (.nil)) (.nil))
 (.cons (.asg (.nm 2) (.lst (.cons (.call 27 (.cons (.var 0) (.cons (.idx (.var 1) (.var 3)) (.nil)))) (.nil))))
 (.cons (.ret (.bin .add (.bin .add (.slc (.var 1) (.cst .non) (.var 3)) (.ife (.bi (.isin [.ttup]) (.cons (.var 1) .nil)) (.bi .tuple (.cons (.var 2) (.nil))) (.var 2))) (.slc (.var 1) (.bin .add (.var 3) (.cst (.int 1))) (.cst .non))))
 (.nil)))))) (.nil))
 (.cons (.ite (.and (.bi (.isin [.tint]) (.cons (.var 1) .nil)) (.not (.bi (.isin [.tbool]) (.cons (.var 1) .nil)))) (.cons (.ret (.call 21 (.cons (.var 0) (.cons (.lst (.cons (.bin .add (.var 1) (.cst (.int 1))) (.cons (.bin .sub (.var 1) (.cst (.int 1))) (.cons (.cst (.bl true)) (.cons (.cst (.non)) (.cons (.cst (.str [97])) (.cons (.cst (.int 0)) (.cons (.cst (.int 1)) (.nil))))))))) (.nil)))))
 (.nil)) (.nil))
 (.cons (.ite (.bi (.isin [.tstr]) (.cons (.var 1) .nil)) (.cons (.ret (.call 21 (.cons (.var 0) (.cons (.lst (.cons (.cst (.str [97])) (.cons (.cst (.str [98])) (.cons (.cst (.str [97, 116, 111, 109])) (.cons (.cst (.str [112, 97, 105, 114])) (.cons (.cst (.str [102, 114, 111, 109])) (.cons (.cst (.str [116, 97, 107, 101])) (.cons (.cst (.str [98, 111, 116, 104])) (.cons (.cst (.str [108, 101, 102, 116])) (.cons (.cst (.str [114, 105, 103, 104, 116])) (.cons (.cst (.str [103, 105, 118, 101, 110])) (.cons (.cst (.str [111, 110])) (.cons (.cst (.str [110, 111, 110, 101])) (.cons (.cst (.str [110, 111, 116, 104, 105, 110, 103])) (.cons (.cst (.str [])) (.cons (.cst (.str [65])) (.cons (.cst (.non)) (.nil)))))))))))))))))) (.nil)))))
 (.nil)) (.nil))
 (.cons (.ret (.call 21 (.cons (.var 0) (.cons (.lst (.cons (.cst (.non)) (.cons (.tup (.cons (.cst (.str [97, 116, 111, 109])) (.cons (.cst (.str [97])) (.nil)))) (.cons (.tup (.cons (.cst (.str [110, 111, 116, 104, 105, 110, 103])) (.nil))) (.cons (.tup (.cons (.cst (.str [116, 97, 107, 101])) (.cons (.cst (.int 0)) (.nil)))) (.cons (.tup (.cons (.cst (.str [110, 111, 110, 101])) (.nil))) (.cons (.tup (.nil)) (.cons (.lst (.nil)) (.cons (.cst (.int 0)) (.cons (.ife (.bi (.isin [.ttup]) (.cons (.var 1) .nil)) (.bi .list (.cons (.var 1) (.nil))) (.tup (.nil))) (.nil))))))))))) (.nil)))))
 (.nil))))
def b__law_led : Ss := .cons (.asg (.nm 2) (.call 20 (.cons (.var 0) (.cons (.cst (.int 7)) (.nil)))))
 (.cons (.ite (.and (.cmp .isin (.idx (.var 1) (.cst (.int 0))) (.tup (.cons (.cst (.str [112, 97, 105, 114])) (.cons (.cst (.str [102, 114, 111, 109])) (.nil))))) (.cmp .eq (.call 20 (.cons (.var 0) (.cons (.cst (.int 3)) (.nil)))) (.cst (.int 0)))) (.cons (.asg (.nm 3) (.bin .add (.cst (.int 1)) (.call 20 (.cons (.var 0) (.cons (.cst (.int 2)) (.nil))))))
 (.cons (.ret (.bin .add (.bin .add (.slc (.var 1) (.cst .non) (.var 3)) (.tup (.cons (.call 28 (.cons (.var 0) (.cons (.idx (.var 1) (.var 3)) (.nil)))) (.nil)))) (.slc (.var 1) (.bin .add (.var 3) (.cst (.int 1))) (.cst .non))))
 (.nil))) (.nil))
 (.cons (.ite (.and (.cmp .eq (.idx (.var 1) (.cst (.int 0))) (.cst (.str [112, 97, 105, 114]))) (.cmp .eq (.var 2) (.cst (.int 0)))) (.cons (.ret (.tup (.cons (.cst (.str [112, 97, 105, 114])) (.cons (.idx (.var 1) (.cst (.int 2))) (.cons (.idx (.var 1) (.cst (.int 1))) (.nil))))))
 (.nil)) (.nil))
 (.cons (.ite (.and (.cmp .eq (.idx (.var 1) (.cst (.int 0))) (.cst (.str [112, 97, 105, 114]))) (.and (.cmp .eq (.var 2) (.cst (.int 1))) (.cmp .eq (.idx (.idx (.var 1) (.cst (.int 1))) (.cst (.int 0))) (.cst (.str [112, 97, 105, 114]))))) (.cons (.ret (.tup (.cons (.cst (.str [112, 97, 105, 114])) (.cons (.idx (.idx (.var 1) (.cst (.int 1))) (.cst (.int 1))) (.cons (.tup (.cons (.cst (.str [112, 97, 105, 114])) (.cons (.idx (.idx (.var 1) (.cst (.int 1))) (.cst (.int 2))) (.cons (.idx (.var 1) (.cst (.int 2))) (.nil))))) (.nil))))))
 (.nil)) (.nil))
 (.cons (.ite (.cmp .eq (.var 2) (.cst (.int 2))) (.cons (.ret (.tup (.cons (.cst (.str [112, 97, 105, 114])) (.cons (.tup (.cons (.cst (.str [110, 111, 116, 104, 105, 110, 103])) (.nil))) (.cons (.var 1) (.nil))))))
 (.nil)) (.nil))
 (.cons (.ite (.and (.cmp .eq (.idx (.var 1) (.cst (.int 0))) (.cst (.str [102, 114, 111, 109]))) (.and (.cmp .lt (.var 2) (.cst (.int 4))) (.cmp .eq (.idx (.idx (.var 1) (.cst (.int 1))) (.cst (.int 0))) (.cst (.str [112, 97, 105, 114]))))) (.cons (.ret (.tup (.cons (.cst (.str [102, 114, 111, 109])) (.cons (.idx (.idx (.var 1) (.cst (.int 1))) (.cst (.int 1))) (.cons (.tup (.cons (.cst (.str [102, 114, 111, 109])) (.cons (.idx (.idx (.var 1) (.cst (.int 1))) (.cst (.int 2))) (.cons (.idx (.var 1) (.cst (.int 2))) (.nil))))) (.nil))))))
 (.nil)) (.nil))
 (.cons (.ite (.and (.cmp .eq (.idx (.var 1) (.cst (.int 0))) (.cst (.str [102, 114, 111, 109]))) (.and (.cmp .lt (.var 2) (.cst (.int 5))) (.cmp .eq (.idx (.idx (.var 1) (.cst (.int 2))) (.cst (.int 0))) (.cst (.str [102, 114, 111, 109]))))) (.cons (.ret (.tup (.cons (.cst (.str [102, 114, 111, 109])) (.cons (.tup (.cons (.cst (.str [112, 97, 105, 114])) (.cons (.idx (.idx (.var 1) (.cst (.int 2))) (.cst (.int 1))) (.cons (.idx (.var 1) (.cst (.int 1))) (.nil))))) (.cons (.idx (.idx (.var 1) (.cst (.int 2))) (.cst (.int 2))) (.nil))))))
 (.nil)) (.nil))
 (.cons (.ite (.and (.cmp .eq (.idx (.var 1) (.cst (.int 0))) (.cst (.str [102, 114, 111, 109]))) (.and (.cmp .lt (.var 2) (.cst (.int 6))) (.cmp .eq (.idx (.idx (.var 1) (.cst (.int 2))) (.cst (.int 0))) (.cst (.str [112, 97, 105, 114]))))) (.cons (.ret (.tup (.cons (.cst (.str [112, 97, 105, 114])) (.cons (.tup (.cons (.cst (.str [102, 114, 111, 109])) (.cons (.idx (.var 1) (.cst (.int 1))) (.cons (.idx (.idx (.var 1) (.cst (.int 2))) (.cst (.int 1))) (.nil))))) (.cons (.tup (.cons (.cst (.str [102, 114, 111, 109])) (.cons (.idx (.var 1) (.cst (.int 1))) (.cons (.idx (.idx (.var 1) (.cst (.int 2))) (.cst (.int 2))) (.nil))))) (.nil))))))
 (.nil)) (.nil))
 (.cons (.ret (.var 1))
 (.nil)))))))))
def p0__law_like : Ss := .cons (.asg (.nm 4) (.call 28 (.cons (.var 0) (.cons (.var 1) (.nil)))))
 (.cons (.ite (.and (.cmp .le (.call 23 (.cons (.var 4) (.nil))) (.cst (.int 10))) (.cmp .le (.call 24 (.cons (.var 4) (.nil))) (.cst (.int 5)))) (.cons (.asg (.nm 1) (.var 4))
 (.nil)) (.nil))
 (.nil))
def b__law_like : Ss := .cons (.for (.nm 3) (.rg1 (.var 2)) (p0__law_like))
 (.cons (.ret (.var 1))
 (.nil))
def p0__law_is_web : E := .cmp .isin (.var 11) (.var 5)
def p1__law_is_web : E := .cmp .isin (.var 7) (.idx (.idx (.var 1) (.var 6)) (.cst (.int 0)))
def p2__law_is_web : Ss := .cons (.ite (.or (.not (.bi .all (.cons (.lc (p1__law_is_web) (.nm 7) (.va (.var 4)) (.cst (.bl true)) [7]) (.nil)))) (.not (.bi .all (.cons (.lc (p0__law_is_web) (.nm 11) (.va (.idx (.idx (.var 1) (.var 6)) (.cst (.int 1)))) (.cst (.bl true)) [11]) (.nil))))) (.cons (.ret (.cst (.bl false)))
 (.nil)) (.nil))
 (.nil)
def p3__law_is_web : Ss := .cons (.for (.nm 6) (.va (.var 5)) (p2__law_is_web))
 (.nil)
def p4__law_is_web : E := .cmp .lt (.var 9) (.var 10)
def p5__law_is_web : E := .cmp .lt (.var 9) (.var 10)
def p6__law_is_web : E := .and (.bi (.isin [.tint]) (.cons (.var 6) .nil)) (.and (.not (.bi (.isin [.tbool]) (.cons (.var 6) .nil))) (.chn .lt .lt (.var 2) (.var 6) (.bi .len (.cons (.var 1) (.nil)))))
def p7__law_is_web : E := .chn .le .le (.cst (.str [97])) (.var 12) (.cst (.str [122]))
def p8__law_is_web : E := .and (.bi (.isin [.tstr]) (.cons (.var 7) .nil)) (.and (.chn .lt .lt (.cst (.int 0)) (.bi .len (.cons (.var 7) (.nil))) (.cst (.int 9))) (.bi .all (.cons (.lc (p7__law_is_web) (.nm 12) (.st (.var 7)) (.cst (.bl true)) [12]) (.nil))))
def p9__law_is_web : E := .bi (.isin [.ttup]) (.cons (.var 8) .nil)
def p10__law_is_web : Ss := .cons (.ite (.or (.not (.bi (.isin [.ttup]) (.cons (.var 3) .nil))) (.or (.cmp .ne (.bi .len (.cons (.var 3) (.nil))) (.cst (.int 2))) (.not (.bi .all (.cons (.lc (p9__law_is_web) (.nm 8) (.va (.var 3)) (.cst (.bl true)) [8]) (.nil)))))) (.cons (.ret (.cst (.bl false)))
 (.nil)) (.nil))
 (.cons (.ite (.not (.bi .all (.cons (.lc (p8__law_is_web) (.nm 7) (.va (.idx (.var 3) (.cst (.int 0)))) (.cst (.bl true)) [7]) (.nil)))) (.cons (.ret (.cst (.bl false)))
 (.nil)) (.nil))
 (.cons (.ite (.not (.bi .all (.cons (.lc (p6__law_is_web) (.nm 6) (.va (.idx (.var 3) (.cst (.int 1)))) (.cst (.bl true)) [6]) (.nil)))) (.cons (.ret (.cst (.bl false)))
 (.nil)) (.nil))
 (.cons (.ite (.or (.not (.bi .all (.cons (.lc (p5__law_is_web) (.tp [.nm 9, .nm 10]) (.zp (.idx (.var 3) (.cst (.int 0))) (.slc (.idx (.var 3) (.cst (.int 0))) (.cst (.int 1)) (.cst .non))) (.cst (.bl true)) [9, 10]) (.nil)))) (.not (.bi .all (.cons (.lc (p4__law_is_web) (.tp [.nm 9, .nm 10]) (.zp (.idx (.var 3) (.cst (.int 1))) (.slc (.idx (.var 3) (.cst (.int 1))) (.cst (.int 1)) (.cst .non))) (.cst (.bl true)) [9, 10]) (.nil))))) (.cons (.ret (.cst (.bl false)))
 (.nil)) (.nil))
 (.nil))))
def b__law_is_web : Ss := .cons (.ite (.or (.not (.bi (.isin [.ttup]) (.cons (.var 0) .nil))) (.or (.cmp .ne (.bi .len (.cons (.var 0) (.nil))) (.cst (.int 2))) (.or (.not (.bi (.isin [.tstr]) (.cons (.idx (.var 0) (.cst (.int 0))) .nil))) (.or (.cmp .ne (.idx (.var 0) (.cst (.int 0))) (.cst (.str [119, 101, 98]))) (.not (.bi (.isin [.ttup]) (.cons (.idx (.var 0) (.cst (.int 1))) .nil))))))) (.cons (.ret (.cst (.bl false)))
 (.nil)) (.nil))
 (.cons (.asg (.nm 1) (.idx (.var 0) (.cst (.int 1))))
 (.cons (.ite (.not (.chn .le .le (.cst (.int 1)) (.bi .len (.cons (.var 1) (.nil))) (.cst (.int 200)))) (.cons (.ret (.cst (.bl false)))
 (.nil)) (.nil))
 (.cons (.for (.tp [.nm 2, .nm 3]) (.en (.var 1)) (p10__law_is_web))
 (.cons (.for (.tp [.nm 4, .nm 5]) (.va (.var 1)) (p3__law_is_web))
 (.cons (.ret (.cst (.bl true)))
 (.nil))))))
def p0__law_truths : E := .or (.idx (.var 5) (.var 11)) (.not (.idx (.var 4) (.var 11)))
def p1__law_truths : Ss := .cons (.appO 3 (.bi .all (.cons (.lc (p0__law_truths) (.nm 11) (.va (.bin .add (.tup (.cons (.var 6) (.nil))) (.var 8))) (.cst (.bl true)) [11]) (.nil))))
 (.nil)
def p2__law_truths : E := .and (.var 9) (.var 10)
def p3__law_truths : E := .cmp .isin (.idx (.var 1) (.cst (.int 1))) (.var 7)
def b__law_truths : Ss := .cons (.asg (.nm 2) (.idx (.var 0) (.cst (.int 1))))
 (.cons (.ite (.cmp .eq (.idx (.var 1) (.cst (.int 0))) (.cst (.str [97, 116, 111, 109]))) (.cons (.ret (.lc (p3__law_truths) (.tp [.nm 7, .nm 8]) (.va (.var 2)) (.cst (.bl true)) [7, 8]))
 (.nil)) (.nil))
 (.cons (.ite (.cmp .eq (.idx (.var 1) (.cst (.int 0))) (.cst (.str [110, 111, 116, 104, 105, 110, 103]))) (.cons (.ret (.bin .mul (.lst (.cons (.cst (.bl true)) (.nil))) (.bi .len (.cons (.var 2) (.nil)))))
 (.nil)) (.nil))
 (.cons (.asg (.tp [.nm 4, .nm 5]) (.tup (.cons (.call 31 (.cons (.var 0) (.cons (.idx (.var 1) (.cst (.int 1))) (.nil)))) (.cons (.call 31 (.cons (.var 0) (.cons (.idx (.var 1) (.cst (.int 2))) (.nil)))) (.nil)))))
 (.cons (.ite (.cmp .eq (.idx (.var 1) (.cst (.int 0))) (.cst (.str [112, 97, 105, 114]))) (.cons (.ret (.lc (p2__law_truths) (.tp [.nm 9, .nm 10]) (.zp (.var 4) (.var 5)) (.cst (.bl true)) [9, 10]))
 (.nil)) (.nil))
 (.cons (.newO 3 (.lst (.nil)))
 (.cons (.for (.tp [.nm 6, .tp [.nm 7, .nm 8]]) (.en (.var 2)) (p1__law_truths))
 (.cons (.retO 3)
 (.nil))))))))
def p0__law_web : E := .tup (.cons (.bi .tuple (.cons (.bi .sortedD (.cons (.idx (.var 4) (.var 3)) .nil)) (.nil))) (.cons (.bi .tuple (.cons (.idx (.own 2) (.var 3)) (.nil))) (.nil)))
def p1__law_web : Ss := .cons (.updC (.idx (.var 4) (.var 5)) (.idx (.var 4) (.var 3)))
 (.nil)
def p2__law_web : Ss := .cons (.for (.nm 5) (.va (.idx (.own 2) (.var 3))) (p1__law_web))
 (.nil)
def p3__law_web : E := .tup (.cons (.var 6) (.cons (.cst (.int 0)) (.nil)))
def p4__law_web : E := .cmp .eq (.call 20 (.cons (.var 0) (.cons (.cst (.int 3)) (.nil)))) (.cst (.int 0))
def p5__law_web : E := .dctC (.lc (p3__law_web) (.nm 6) (.st (.cst (.str [97, 98, 99]))) (p4__law_web) [6])
def p6__law_web : E := .tup (.cons (.var 7) (.cons (.cst (.int 0)) (.nil)))
def p7__law_web : Ss := .cons (.setO 2 (.var 3) (.bi .sortedD (.cons (.dctC (.lc (p6__law_web) (.nm 7) (.va (.bin .add (.idx (.own 2) (.var 3)) (.idx (.own 2) (.var 5)))) (.cst (.bl true)) [7])) .nil)))
 (.nil)
def p8__law_web : Ss := .cons (.for (.nm 5) (.va (.bi .list (.cons (.idx (.own 2) (.var 3)) (.nil)))) (p7__law_web))
 (.nil)
def p9__law_web : E := .cmp .eq (.call 20 (.cons (.var 0) (.cons (.cst (.int 2)) (.nil)))) (.cst (.int 0))
def p10__law_web : E := .lc (.var 5) (.nm 5) (.rg2 (.bin .add (.var 3) (.cst (.int 1))) (.var 1)) (p9__law_web) [5]
def b__law_web : Ss := .cons (.asg (.nm 1) (.bin .add (.cst (.int 1)) (.call 20 (.cons (.var 0) (.cons (.cst (.int 5)) (.nil))))))
 (.cons (.newO 2 (.lc (p10__law_web) (.nm 3) (.rg1 (.var 1)) (.cst (.bl true)) [3]))
 (.cons (.for (.nm 3) (.va (.rev (.lrg (.var 1)))) (p8__law_web))
 (.cons (.asg (.nm 4) (.lc (p5__law_web) (.nm 3) (.rg1 (.var 1)) (.cst (.bl true)) [3]))
 (.cons (.for (.nm 3) (.rg1 (.var 1)) (p2__law_web))
 (.cons (.ret (.tup (.cons (.cst (.str [119, 101, 98])) (.cons (.bi .tuple (.cons (.lc (p0__law_web) (.nm 3) (.rg1 (.var 1)) (.cst (.bl true)) [3]) (.nil))) (.nil)))))
 (.nil))))))
def p0__law_right : E := .idx (.var 6) (.var 12)
def p1__law_right : Ss := .cons (.ite (.cmp .ne (.bi .repr (.cons (.lst (.cons (.call 17 (.cons (.var 1) (.cons (.var 8) (.cons (.var 5) (.nil))))) (.cons (.callK 17 (.cons (.var 5) (.cons (.var 8) (.cons (.var 1) (.nil)))) [2, 1, 0]) (.nil)))) (.nil))) (.bi .repr (.cons (.bin .mul (.lst (.cons (.idx (.var 6) (.var 8)) (.nil))) (.cst (.int 2))) (.nil)))) (.cons (.ret (.cst (.bl false)))
 (.nil)) (.nil))
 (.cons (.ite (.and (.idx (.var 6) (.var 8)) (.not (.bi .all (.cons (.lc (p0__law_right) (.nm 12) (.va (.idx (.idx (.idx (.var 1) (.cst (.int 1))) (.var 8)) (.cst (.int 1)))) (.cst (.bl true)) [12]) (.nil))))) (.cons (.ret (.cst (.bl false)))
 (.nil)) (.nil))
 (.nil))
def p2__law_right : Ss := .cons (.asg (.nm 6) (.call 31 (.cons (.var 1) (.cons (.var 5) (.nil)))))
 (.cons (.asg (.nm 7) (.lc (.var 8) (.tp [.nm 8, .nm 11]) (.en (.var 6)) (.var 11) [8, 11]))
 (.cons (.ite (.cmp .ne (.bi .repr (.cons (.lst (.cons (.call 18 (.cons (.var 1) (.cons (.var 5) (.nil)))) (.cons (.callK 18 (.cons (.var 5) (.cons (.var 1) (.nil))) [1, 0]) (.nil)))) (.nil))) (.bi .repr (.cons (.lst (.cons (.var 7) (.cons (.var 7) (.nil)))) (.nil)))) (.cons (.ret (.cst (.bl false)))
 (.nil)) (.nil))
 (.cons (.for (.nm 8) (.rg1 (.bi .len (.cons (.var 6) (.nil)))) (p1__law_right))
 (.nil))))
def p3__law_right : E := .call 27 (.cons (.var 0) (.cons (.var 1) (.nil)))
def p4__law_right : Ss := .cons (.asg (.tp [.nm 6, .nm 9]) (.tup (.cons (.call 30 (.cons (.var 3) (.nil))) (.cons (.bi .repr (.cons (.var 3) (.nil))) (.nil)))))
 (.cons (.ite (.or (.cmp .ne (.bi .repr (.cons (.lst (.cons (.call 16 (.cons (.var 3) (.nil))) (.cons (.callK 16 (.cons (.var 3) (.nil)) [0]) (.nil)))) (.nil))) (.bi .repr (.cons (.lst (.cons (.var 6) (.cons (.var 6) (.nil)))) (.nil)))) (.cmp .ne (.bi .repr (.cons (.var 3) (.nil))) (.var 9))) (.cons (.ret (.cst (.bl false)))
 (.nil)) (.nil))
 (.nil))
def b__law_right : Ss := .cons (.asg (.nm 1) (.call 32 (.cons (.var 0) (.nil))))
 (.cons (.asg (.nm 2) (.lst (.cons (.var 1) (.cons (.bi .list (.cons (.var 1) (.nil))) (.cons (.slc (.var 1) (.cst .non) (.cst (.int 1))) (.cons (.bin .add (.var 1) (.tup (.cons (.cst (.int 0)) (.nil)))) (.cons (.cst (.non)) (.cons (.tup (.nil)) (.cons (.cst (.str [119, 101, 98])) (.cons (.tup (.cons (.cst (.str [119, 101, 98])) (.cons (.tup (.nil)) (.nil)))) (.cons (.tup (.cons (.cst (.str [119, 101, 98])) (.cons (.rev (.idx (.var 1) (.cst (.int 1)))) (.nil)))) (.cons (.tup (.cons (.cst (.str [119, 101, 98])) (.cons (.bi .list (.cons (.idx (.var 1) (.cst (.int 1))) (.nil))) (.nil)))) (.cons (.tup (.cons (.cst (.str [87, 101, 98])) (.cons (.idx (.var 1) (.cst (.int 1))) (.nil)))) (.cons (.tup (.cons (.cst (.str [119, 101, 98])) (.cons (.tup (.cons (.tup (.cons (.tup (.cons (.cst (.str [97])) (.cons (.cst (.str [97])) (.nil)))) (.cons (.tup (.nil)) (.nil)))) (.nil))) (.nil)))) (.nil)))))))))))))))
 (.cons (.asg (.nm 2) (.bin .add (.var 2) (.lst (.cons (.tup (.cons (.cst (.str [119, 101, 98])) (.cons (.tup (.cons (.tup (.cons (.tup (.cons (.cst (.str [98])) (.cons (.cst (.str [97])) (.nil)))) (.cons (.tup (.nil)) (.nil)))) (.nil))) (.nil)))) (.cons (.tup (.cons (.cst (.str [119, 101, 98])) (.cons (.tup (.cons (.tup (.cons (.tup (.cons (.cst (.str [65])) (.nil))) (.cons (.tup (.nil)) (.nil)))) (.nil))) (.nil)))) (.cons (.tup (.cons (.cst (.str [119, 101, 98])) (.cons (.tup (.cons (.tup (.cons (.tup (.nil)) (.cons (.tup (.cons (.cst (.int 1)) (.nil))) (.nil)))) (.cons (.tup (.cons (.tup (.nil)) (.cons (.tup (.cons (.cst (.int 2)) (.nil))) (.nil)))) (.cons (.tup (.cons (.tup (.nil)) (.cons (.tup (.nil)) (.nil)))) (.nil))))) (.nil)))) (.cons (.tup (.cons (.cst (.str [119, 101, 98])) (.cons (.tup (.cons (.tup (.cons (.tup (.cons (.cst (.str [97])) (.nil))) (.cons (.tup (.cons (.cst (.int 1)) (.nil))) (.nil)))) (.cons (.tup (.cons (.tup (.nil)) (.cons (.tup (.nil)) (.nil)))) (.nil)))) (.nil)))) (.nil))))))))
 (.cons (.asg (.nm 2) (.bin .add (.var 2) (.lst (.cons (.tup (.cons (.cst (.str [119, 101, 98])) (.cons (.tup (.cons (.tup (.cons (.tup (.nil)) (.cons (.tup (.cons (.cst (.int 0)) (.nil))) (.nil)))) (.nil))) (.nil)))) (.cons (.tup (.cons (.cst (.str [119, 101, 98])) (.cons (.tup (.cons (.tup (.cons (.tup (.nil)) (.cons (.tup (.cons (.cst (.bl true)) (.nil))) (.nil)))) (.cons (.tup (.cons (.tup (.nil)) (.cons (.tup (.nil)) (.nil)))) (.nil)))) (.nil)))) (.cons (.tup (.cons (.cst (.str [119, 101, 98])) (.cons (.bin .mul (.tup (.cons (.tup (.cons (.tup (.nil)) (.cons (.tup (.nil)) (.nil)))) (.nil))) (.cst (.int 200))) (.nil)))) (.cons (.tup (.cons (.cst (.str [119, 101, 98])) (.cons (.bin .mul (.tup (.cons (.tup (.cons (.tup (.nil)) (.cons (.tup (.nil)) (.nil)))) (.nil))) (.cst (.int 201))) (.nil)))) (.nil))))))))
 (.cons (.for (.nm 3) (.va (.bin .add (.var 2) (.lc (p3__law_right) (.nm 10) (.rg1 (.cst (.int 8))) (.cst (.bl true)) [10]))) (p4__law_right))
 (.cons (.asg (.nm 4) (.call 25 (.cons (.var 0) (.cons (.cst (.int 4)) (.cons (.cst (.int 6)) (.nil))))))
 (.cons (.for (.nm 5) (.va (.lst (.cons (.var 4) (.cons (.call 29 (.cons (.var 0) (.cons (.var 4) (.cons (.cst (.int 3)) (.nil))))) (.nil))))) (p2__law_right))
 (.cons (.ret (.cmp .eq (.call 18 (.cons (.var 1) (.cons (.var 4) (.nil)))) (.call 18 (.cons (.var 1) (.cons (.call 29 (.cons (.var 0) (.cons (.var 4) (.cons (.cst (.int 3)) (.nil))))) (.nil))))))
 (.nil))))))))
def b_law : Ss := .cons (.asg (.nm 1) (.call 19 (.cons (.var 0) (.cons (.cst (.int 0)) (.nil)))))
 (.cons (.ret (.and (.call 33 (.cons (.var 1) (.nil))) (.and (.call 33 (.cons (.var 1) (.nil))) (.call 33 (.cons (.call 19 (.cons (.var 0) (.cons (.cst (.int 1)) (.nil)))) (.nil))))))
 (.nil))
def dfL : List Def := [⟨1, 1, b_is_integer⟩, ⟨1, 1, b_is_count⟩, ⟨2, 2, b_is_below⟩, ⟨2, 2, b_is_row⟩, ⟨1, 3, b_is_rising⟩, ⟨1, 2, b_is_name⟩, ⟨2, 2, b_is_built⟩, ⟨1, 1, b_is_kind_of⟩, ⟨1, 1, b_is_leaf⟩, ⟨1, 1, b_width_of⟩, ⟨1, 1, b_want_kind⟩, ⟨3, 5, b_is_world⟩, ⟨2, 7, b_is_kept⟩, ⟨1, 3, b_is_web_of⟩, ⟨2, 12, b_truths_of⟩, ⟨1, 1, b_want_web⟩, ⟨1, 1, b_is_web⟩, ⟨3, 3, b_is_true⟩, ⟨2, 5, b_truths⟩, ⟨2, 3, b__law_pot⟩, ⟨2, 3, b__law_draw⟩, ⟨2, 2, b__law_pick⟩, ⟨3, 6, b__law_kind⟩, ⟨1, 1, b__law_width⟩, ⟨1, 1, b__law_depth⟩, ⟨3, 4, b__law_some_kind⟩, ⟨1, 5, b__law_shape⟩, ⟨2, 5, b__law_bent⟩, ⟨2, 4, b__law_led⟩, ⟨3, 5, b__law_like⟩, ⟨1, 13, b__law_is_web⟩, ⟨2, 12, b__law_truths⟩, ⟨1, 8, b__law_web⟩, ⟨1, 13, b__law_right⟩, ⟨1, 2, b_law⟩]
/-- how deep calls may go -/
def lv : Nat := 60
def pg : Pg := ⟨fun f => dfL[f]?, fun i => (glL[i]?).map (·.2)⟩
@[simp] theorem gl_0 : pg.gl 0 = some (.str [97, 98, 99, 100, 101, 102, 103, 104, 105, 106, 107, 108, 109, 110, 111, 112, 113, 114, 115, 116, 117, 118, 119, 120, 121, 122]) := rfl
@[simp] theorem gl_1 : pg.gl 1 = some (.int 8) := rfl
@[simp] theorem gl_2 : pg.gl 2 = some (.str [102, 114, 111, 109]) := rfl
@[simp] theorem gl_3 : pg.gl 3 = some (.str [112, 97, 105, 114]) := rfl
@[simp] theorem gl_4 : pg.gl 4 = some (.str [110, 111, 116, 104, 105, 110, 103]) := rfl
@[simp] theorem gl_5 : pg.gl 5 = some (.str [97, 116, 111, 109]) := rfl
@[simp] theorem gl_6 : pg.gl 6 = some (.int 12) := rfl
@[simp] theorem gl_7 : pg.gl 7 = some (.int 6) := rfl
@[simp] theorem gl_8 : pg.gl 8 = some (.int 200) := rfl
@[simp] theorem gl_9 : pg.gl 9 = some (.str [119, 101, 98]) := rfl
def kwL : List Kw := [⟨17, ["kind", "world", "web"], [2, 1, 0]⟩, ⟨16, ["value"], [0]⟩, ⟨18, ["kind", "web"], [1, 0]⟩]
def top (i : Nat) : Stmt := PySem.Challenge.pw_kindsalike_k79_whole_webs_of_worlds.main.body.getD i (.Pass ⟨0, 0, 0, 0⟩)
def N_is_integer : List Str := (["value"] : List String).map Str.ofString
def N_is_count : List Str := (["value"] : List String).map Str.ofString
def N_is_below : List Str := (["value", "many"] : List String).map Str.ofString
def N_is_row : List Str := (["value", "many"] : List String).map Str.ofString
def N_is_rising : List Str := (["items", "near", "far"] : List String).map Str.ofString
def N_is_name : List Str := (["value", "sign"] : List String).map Str.ofString
def N_is_built : List Str := (["value", "deep"] : List String).map Str.ofString
def N_is_kind_of : List Str := (["value"] : List String).map Str.ofString
def N_is_leaf : List Str := (["kind"] : List String).map Str.ofString
def N_width_of : List Str := (["kind"] : List String).map Str.ofString
def N_want_kind : List Str := (["value"] : List String).map Str.ofString
def N_is_world : List Str := (["value", "at", "many", "late", "name"] : List String).map Str.ofString
def N_is_kept : List Str := (["worlds", "at", "late", "names", "later", "name", "one"] : List String).map Str.ofString
def N_is_web_of : List Str := (["value", "many", "at"] : List String).map Str.ofString
def N_truths_of : List Str := (["worlds", "kind", "found", "near", "far", "at", "names", "later", "world", "one", "other", "late"] : List String).map Str.ofString
def N_want_web : List Str := (["value"] : List String).map Str.ofString
def N_is_web : List Str := (["value"] : List String).map Str.ofString
def N_is_true : List Str := (["web", "world", "kind"] : List String).map Str.ofString
def N_truths : List Str := (["web", "kind", "found", "at", "told"] : List String).map Str.ofString
def N__law_pot : List Str := (["script", "k", "cell"] : List String).map Str.ofString
def N__law_draw : List Str := (["pot", "many", "digit"] : List String).map Str.ofString
def N__law_pick : List Str := (["pot", "some"] : List String).map Str.ofString
def N__law_kind : List Str := (["pot", "level", "some", "way", "one", "other"] : List String).map Str.ofString
def N__law_width : List Str := (["kind"] : List String).map Str.ofString
def N__law_depth : List Str := (["kind"] : List String).map Str.ofString
def N__law_some_kind : List Str := (["pot", "level", "most", "found"] : List String).map Str.ofString
def N__law_shape : List Str := (["kind", "one", "other", "some", "name"] : List String).map Str.ofString
def N__law_bent : List Str := (["pot", "value", "some", "at", "way"] : List String).map Str.ofString
def N__law_led : List Str := (["pot", "kind", "way", "at"] : List String).map Str.ofString
def N__law_like : List Str := (["pot", "kind", "turns", "turn", "late"] : List String).map Str.ofString
def N__law_is_web : List Str := (["value", "worlds", "at", "world", "names", "later", "late", "name", "part", "near", "far", "one", "sign"] : List String).map Str.ofString
def N__law_truths : List Str := (["web", "kind", "worlds", "found", "one", "other", "at", "names", "later", "near", "far", "late"] : List String).map Str.ofString
def N__law_web : List Str := (["pot", "many", "ahead", "at", "names", "late", "name", "one"] : List String).map Str.ofString
def N__law_right : List Str := (["pot", "web", "values", "value", "one", "kind", "due", "found", "at", "shown", "turn", "told", "late"] : List String).map Str.ofString
def N_law : List Str := (["script", "pot"] : List String).map Str.ofString
set_option maxRecDepth 1000000 in
theorem c_is_integer : chkSs nm pg kwL ⟨N_is_integer, L2.defScope (top 6), fun _ => true⟩ b_is_integer (L2.defBody (top 6)) = true := by decide +kernel
set_option maxRecDepth 1000000 in
theorem c_is_count : chkSs nm pg kwL ⟨N_is_count, L2.defScope (top 7), fun _ => true⟩ b_is_count (L2.defBody (top 7)) = true := by decide +kernel
set_option maxRecDepth 1000000 in
theorem c_is_below : chkSs nm pg kwL ⟨N_is_below, L2.defScope (top 8), fun _ => true⟩ b_is_below (L2.defBody (top 8)) = true := by decide +kernel
set_option maxRecDepth 1000000 in
theorem c_is_row : chkSs nm pg kwL ⟨N_is_row, L2.defScope (top 9), fun _ => true⟩ b_is_row (L2.defBody (top 9)) = true := by decide +kernel
set_option maxRecDepth 1000000 in
theorem c_is_rising : chkSs nm pg kwL ⟨N_is_rising, L2.defScope (top 10), fun _ => true⟩ b_is_rising (L2.defBody (top 10)) = true := by decide +kernel
set_option maxRecDepth 1000000 in
theorem c_is_name : chkSs nm pg kwL ⟨N_is_name, L2.defScope (top 20), fun _ => true⟩ b_is_name (L2.defBody (top 20)) = true := by decide +kernel
set_option maxRecDepth 1000000 in
theorem c_is_built : chkSs nm pg kwL ⟨N_is_built, L2.defScope (top 21), fun _ => true⟩ b_is_built (L2.defBody (top 21)) = true := by decide +kernel
set_option maxRecDepth 1000000 in
theorem c_is_kind_of : chkSs nm pg kwL ⟨N_is_kind_of, L2.defScope (top 22), fun _ => true⟩ b_is_kind_of (L2.defBody (top 22)) = true := by decide +kernel
set_option maxRecDepth 1000000 in
theorem c_is_leaf : chkSs nm pg kwL ⟨N_is_leaf, L2.defScope (top 23), fun _ => true⟩ b_is_leaf (L2.defBody (top 23)) = true := by decide +kernel
set_option maxRecDepth 1000000 in
theorem c_width_of : chkSs nm pg kwL ⟨N_width_of, L2.defScope (top 24), fun _ => true⟩ b_width_of (L2.defBody (top 24)) = true := by decide +kernel
set_option maxRecDepth 1000000 in
theorem c_want_kind : chkSs nm pg kwL ⟨N_want_kind, L2.defScope (top 25), fun _ => true⟩ b_want_kind (L2.defBody (top 25)) = true := by decide +kernel
set_option maxRecDepth 1000000 in
theorem c_is_world : chkSs nm pg kwL ⟨N_is_world, L2.defScope (top 29), fun _ => true⟩ b_is_world (L2.defBody (top 29)) = true := by decide +kernel
set_option maxRecDepth 1000000 in
theorem c_is_kept : chkSs nm pg kwL ⟨N_is_kept, L2.defScope (top 30), fun _ => true⟩ b_is_kept (L2.defBody (top 30)) = true := by decide +kernel
set_option maxRecDepth 1000000 in
theorem c_is_web_of : chkSs nm pg kwL ⟨N_is_web_of, L2.defScope (top 31), fun _ => true⟩ b_is_web_of (L2.defBody (top 31)) = true := by decide +kernel
set_option maxRecDepth 1000000 in
theorem c_truths_of : chkSs nm pg kwL ⟨N_truths_of, L2.defScope (top 32), fun _ => true⟩ b_truths_of (L2.defBody (top 32)) = true := by decide +kernel
set_option maxRecDepth 1000000 in
theorem c_want_web : chkSs nm pg kwL ⟨N_want_web, L2.defScope (top 33), fun _ => true⟩ b_want_web (L2.defBody (top 33)) = true := by decide +kernel
set_option maxRecDepth 1000000 in
theorem c_is_web : chkSs nm pg kwL ⟨N_is_web, L2.defScope (top 34), fun _ => true⟩ b_is_web (L2.defBody (top 34)) = true := by decide +kernel
set_option maxRecDepth 1000000 in
theorem c_is_true : chkSs nm pg kwL ⟨N_is_true, L2.defScope (top 35), fun _ => true⟩ b_is_true (L2.defBody (top 35)) = true := by decide +kernel
set_option maxRecDepth 1000000 in
theorem c_truths : chkSs nm pg kwL ⟨N_truths, L2.defScope (top 36), fun _ => true⟩ b_truths (L2.defBody (top 36)) = true := by decide +kernel
set_option maxRecDepth 1000000 in
theorem c__law_pot : chkSs nm pg kwL ⟨N__law_pot, L2.defScope (top 38), fun _ => true⟩ b__law_pot (L2.defBody (top 38)) = true := by decide +kernel
set_option maxRecDepth 1000000 in
theorem c__law_draw : chkSs nm pg kwL ⟨N__law_draw, L2.defScope (top 39), fun _ => true⟩ b__law_draw (L2.defBody (top 39)) = true := by decide +kernel
set_option maxRecDepth 1000000 in
theorem c__law_pick : chkSs nm pg kwL ⟨N__law_pick, L2.defScope (top 40), fun _ => true⟩ b__law_pick (L2.defBody (top 40)) = true := by decide +kernel
set_option maxRecDepth 1000000 in
theorem c__law_kind : chkSs nm pg kwL ⟨N__law_kind, L2.defScope (top 41), fun _ => true⟩ b__law_kind (L2.defBody (top 41)) = true := by decide +kernel
set_option maxRecDepth 1000000 in
theorem c__law_width : chkSs nm pg kwL ⟨N__law_width, L2.defScope (top 42), fun _ => true⟩ b__law_width (L2.defBody (top 42)) = true := by decide +kernel
set_option maxRecDepth 1000000 in
theorem c__law_depth : chkSs nm pg kwL ⟨N__law_depth, L2.defScope (top 43), fun _ => true⟩ b__law_depth (L2.defBody (top 43)) = true := by decide +kernel
set_option maxRecDepth 1000000 in
theorem c__law_some_kind : chkSs nm pg kwL ⟨N__law_some_kind, L2.defScope (top 44), fun _ => true⟩ b__law_some_kind (L2.defBody (top 44)) = true := by decide +kernel
set_option maxRecDepth 1000000 in
theorem c__law_shape : chkSs nm pg kwL ⟨N__law_shape, L2.defScope (top 45), fun _ => true⟩ b__law_shape (L2.defBody (top 45)) = true := by decide +kernel
set_option maxRecDepth 1000000 in
theorem c__law_bent : chkSs nm pg kwL ⟨N__law_bent, L2.defScope (top 46), fun _ => true⟩ b__law_bent (L2.defBody (top 46)) = true := by decide +kernel
set_option maxRecDepth 1000000 in
theorem c__law_led : chkSs nm pg kwL ⟨N__law_led, L2.defScope (top 47), fun _ => true⟩ b__law_led (L2.defBody (top 47)) = true := by decide +kernel
set_option maxRecDepth 1000000 in
theorem c__law_like : chkSs nm pg kwL ⟨N__law_like, L2.defScope (top 48), fun _ => true⟩ b__law_like (L2.defBody (top 48)) = true := by decide +kernel
set_option maxRecDepth 1000000 in
theorem c__law_is_web : chkSs nm pg kwL ⟨N__law_is_web, L2.defScope (top 49), fun _ => true⟩ b__law_is_web (L2.defBody (top 49)) = true := by decide +kernel
set_option maxRecDepth 1000000 in
theorem c__law_truths : chkSs nm pg kwL ⟨N__law_truths, L2.defScope (top 50), fun _ => true⟩ b__law_truths (L2.defBody (top 50)) = true := by decide +kernel
set_option maxRecDepth 1000000 in
theorem c__law_web : chkSs nm pg kwL ⟨N__law_web, L2.defScope (top 51), fun _ => true⟩ b__law_web (L2.defBody (top 51)) = true := by decide +kernel
set_option maxRecDepth 1000000 in
theorem c__law_right : chkSs nm pg kwL ⟨N__law_right, L2.defScope (top 52), fun _ => true⟩ b__law_right (L2.defBody (top 52)) = true := by decide +kernel
set_option maxRecDepth 1000000 in
theorem c_law : chkSs nm pg kwL ⟨N_law, L2.defScope (top 53), fun _ => true⟩ b_law (L2.defBody (top 53)) = true := by decide +kernel
end K79

set_option Elab.async false
set_option linter.all false
set_option maxRecDepth 100000
namespace K79
open Ev
theorem call_eq {k f : Nat} {ds : List D} {st : St} {d : Def} (h : pg.defs f = some d) (hl : ds.length = d.ps) :
    callN pg (k + 1) f ds st = retOf (execs (callN pg k) pg.gl (ds.map Sl.va ++ List.replicate (d.n - d.ps) Sl.no) st d.body) := by
  simp only [callN, h, if_pos hl]
def isInt : D → Bool
  | .int _ => true
  | _ => false
theorem e_is_integer (k : Nat) (v : D) (st : St) (h : noRef v = true) : callN pg (k + 1) 0 [v] st = .ok (.bl (isInt v)) st := by
  rw [call_eq (d := ⟨1, 1, b_is_integer⟩) rfl rfl]
  cases v <;> simp [b_is_integer, execs, exec, ev, evs, retOf, biD, one, biArg, vwS, vw, noRef, tyIs, isInt] at h ⊢
def isCount : D → Bool
  | .int i => decide (i ≥ 0)
  | _ => false
theorem e_is_count (k : Nat) (v : D) (st : St) (h : noRef v = true) : callN pg (k + 2) 1 [v] st = .ok (.bl (isCount v)) st := by
  rw [call_eq (d := ⟨1, 1, b_is_count⟩) rfl rfl]
  simp [b_is_count, execs, exec, ev, evs, e_is_integer k v st h, retOf]
  cases v <;> simp [isInt, isCount, vw, cmpD, ordD]
def isBelow (v : D) (m : Int) : Bool := match v with
  | .int i => decide (0 ≤ i) && decide (i < m)
  | _ => false
theorem e_is_below (k : Nat) (v : D) (m : Int) (st : St) (h : noRef v = true) : callN pg (k + 3) 2 [v, .int m] st = .ok (.bl (isBelow v m)) st := by
  rw [call_eq (d := ⟨2, 2, b_is_below⟩) rfl rfl]
  simp [b_is_below, execs, exec, ev, evs, e_is_count k v st h, retOf]
  cases v <;> simp [isCount, isBelow, vw, cmpD, ordD]
  rename_i i
  by_cases hi : 0 ≤ i <;> simp [hi]
def isRow (v : D) (m : Int) : Bool := match v with
  | .tup xs => decide ((xs.length : Int) = m)
  | _ => false
theorem eqD_int (i j : Int) : eqD (.int i) (.int j) = some (decide (i = j)) := by
  simp [eqD, D.py, PySem.PyData.canLay0, PySem.PyData.depth, PySem.PyData.eqv]
  rw [Bool.eq_iff_iff]; simp
theorem e_is_row (k : Nat) (v : D) (m : Int) (st : St) (h : noRef v = true) : callN pg (k + 1) 3 [v, .int m] st = .ok (.bl (isRow v m)) st := by
  rw [call_eq (d := ⟨2, 2, b_is_row⟩) rfl rfl]
  cases v <;> simp [b_is_row, execs, exec, ev, evs, retOf, biD, one, biArg, vwS, vw, noRef, tyIs, isRow, lenD, cmpD, eqD_int] at h ⊢
/-- the draw -/
def Pot (st : St) (n : Nat) : Prop := ∃ a b : Int, st[n]? = some (.lst [.int a, .int b]) ∧ 0 ≤ a ∧ 0 ≤ b ∧ b < 2147483648
/-- the pot alone has turned -/
def Dr (n : Nat) (st st' : St) : Prop := ∃ a b : Int, st' = st.set n (.lst [.int a, .int b]) ∧ 0 ≤ a ∧ 0 ≤ b ∧ b < 2147483648
theorem Dr.pot {n : Nat} {st st' : St} (p : Pot st n) (d : Dr n st st') : Pot st' n := by
  obtain ⟨a, b, e, h1, h2, h3⟩ := d
  obtain ⟨_, _, q, _⟩ := p
  have hn : n < st.length := (List.getElem?_eq_some_iff.mp q).1
  exact ⟨a, b, by rw [e, List.getElem?_set_self hn], h1, h2, h3⟩
theorem Dr.refl {n : Nat} {st : St} (p : Pot st n) : Dr n st st := by
  obtain ⟨a, b, q, h⟩ := p
  refine ⟨a, b, ?_, h⟩
  apply List.ext_getElem?
  intro i
  by_cases e : n = i
  · subst e
    rw [List.getElem?_set_self (List.getElem?_eq_some_iff.mp q).1, q]
  · rw [List.getElem?_set_ne e]
theorem Dr.trans {n : Nat} {st s1 s2 : St} (d : Dr n st s1) (e : Dr n s1 s2) : Dr n st s2 := by
  obtain ⟨a, b, q, _⟩ := d
  obtain ⟨a', b', q', h⟩ := e
  exact ⟨a', b', by rw [q', q, List.set_set], h⟩
theorem e_draw (k : Nat) (n : Nat) (m : Int) (st : St) (p : Pot st n) (h1 : 1 ≤ m) (h2 : m ≤ 1000) : ∃ (d : Int) (st' : St), callN pg (k + 1) 20 [.ref n, .int m] st = .ok (.int d) st' ∧ 0 ≤ d ∧ d < m ∧ Dr n st st' := by
  obtain ⟨a, b, q, ha, hb, hb2⟩ := p
  have hn : n < st.length := (List.getElem?_eq_some_iff.mp q).1
  rw [call_eq (d := ⟨2, 3, b__law_draw⟩) rfl rfl]
  have i0 : L2.ixN 2 0 = some 0 := by decide
  have i1 : L2.ixN 2 1 = some 1 := by decide
  have a0 : ∀ x y : D, L2.atI [x, y] 0 = some x := fun x y => by simp [L2.atI, i0]
  have a1 : ∀ x y : D, L2.atI [x, y] 1 = some y := fun x y => by simp [L2.atI, i1]
  have hm : 0 < m ∧ m < 1073741824 := by omega
  by_cases ha0 : 0 < a
  · refine ⟨a % m, st.set n (.lst [.int (a / m), .int b]), ?_, Int.emod_nonneg _ (by omega), Int.emod_lt_of_pos _ (by omega), a / m, b, rfl, Int.ediv_nonneg ha (by omega), hb, hb2⟩
    simp [b__law_draw, execs, exec, ev, evs, retOf, vwS, vw, q, idxD, a0, a1, cmpD, ordD, ha0, biD, two, int2, biArg, hm, asgT, asgTs, setV, i0]
  · have hs : small b = true := by simp [small]; omega
    obtain ⟨b', hb'⟩ : ∃ b' : Int, b' = (b * 48271 + 4091).fmod 2147483587 := ⟨_, rfl⟩
    have e1 : b' = (b * 48271 + 4091) % 2147483587 := by rw [hb', Int.fmod_eq_emod_of_nonneg _ (by omega)]
    have l1 : 0 ≤ b' ∧ b' < 2147483587 := by omega
    have hs2 : small b' = true := by simp [small]; omega
    refine ⟨(((b' * b').fmod 2147483549).fdiv 599).fmod m, st.set n (.lst [.int a, .int b']), ?_, ?_, ?_, a, b', rfl, ha, l1.1, by omega⟩
    · have hm0 : m ≠ 0 := by omega
      have q2 : ∀ c : C, (st.set n c)[n]? = some c := fun c => List.getElem?_set_self hn
      simp [b__law_draw, execs, exec, ev, evs, retOf, vwS, vw, q, idxD, a0, a1, cmpD, ordD, ha0, biD, one, int1, biArg, asgT, i1, binD, hs, ← hb', hs2, q2, hm0]
    · rw [Int.fmod_eq_emod_of_nonneg _ (by omega)]
      exact Int.emod_nonneg _ (by omega)
    · rw [Int.fmod_eq_emod_of_nonneg _ (by omega)]
      exact Int.emod_lt_of_pos _ (by omega)
theorem e_pick (k : Nat) (n : Nat) (xs : List D) (st : St) (p : Pot st n) (h1 : xs ≠ []) (h2 : xs.length ≤ 1000) : ∃ (x : D) (st' : St), callN pg (k + 2) 21 [.ref n, .lst xs] st = .ok x st' ∧ x ∈ xs ∧ Dr n st st' := by
  have hp : 0 < xs.length := List.length_pos_iff.mpr h1
  obtain ⟨d, st', e, h3, h4, h5⟩ := e_draw k n xs.length st p (by omega) (by omega)
  have hd : d.toNat < xs.length := by omega
  refine ⟨xs[d.toNat], st', ?_, List.getElem_mem _, h5⟩
  rw [call_eq (d := ⟨2, 2, b__law_pick⟩) rfl rfl]
  have hix : L2.atI xs d = some xs[d.toNat] := by
    have : L2.ixN xs.length d = some d.toNat := by
      unfold L2.ixN
      simp [h3]
      omega
    unfold L2.atI
    rw [this]
    simp [hd]
  simp [b__law_pick, execs, exec, ev, evs, retOf, biD, one, biArg, vwS, vw, lenD, e, idxD, hix]
theorem e_pot (k : Nat) (ns : List Int) (j : Int) (hj : j = 0 ∨ j = 1) (st : St) : ∃ x y : Int, callN pg (k + 1) 19 [.scr ns, .int j] st = .ok (.ref st.length) (st ++ [.lst [.int x, .int y]]) ∧ 0 ≤ x ∧ 0 ≤ y ∧ y < 2147483648 := by
  have key : ∀ cell : Int, 0 ≤ cell → ∃ x y : Int, x = (if 1000000000000000000 < cell then cell - 1000000000000000000 else 0) ∧ y = (cell.fmod 2147483549 * 42197 + 2373 * j + 741).fmod 2147483563 + 1 ∧ small (cell.fmod 2147483549) = true ∧ 0 ≤ x ∧ 0 ≤ y ∧ y < 2147483648 := by
    intro cell h
    refine ⟨_, _, rfl, rfl, ?_⟩
    have e1 : cell.fmod 2147483549 = cell % 2147483549 := Int.fmod_eq_emod_of_nonneg _ (by omega)
    rw [e1, Int.fmod_eq_emod_of_nonneg _ (by omega)]
    refine ⟨by simp [small]; omega, by split <;> omega, by omega, by omega⟩
  have s1 : small 4091 = true := by decide
  have s2 : small 2373 = true := by decide
  have p1 : (10 : Int) ^ 18 = 1000000000000000000 := by decide
  by_cases hlt : j < (ns.length : Int)
  · have hn : j.toNat < ns.length := by omega
    have hix : L2.atI (ns.map D.int) j = some (.int ns[j.toNat]) := by
      have : L2.ixN ns.length j = some j.toNat := by
        unfold L2.ixN
        rw [if_pos (by omega), if_pos hlt]
      unfold L2.atI
      rw [List.length_map, this]
      simp [hn]
    obtain ⟨x, y, hx, hy, hs, h1, h2, h3⟩ := key (if ns[j.toNat] < 0 then -ns[j.toNat] else ns[j.toNat]) (by split <;> omega)
    refine ⟨x, y, ?_, h1, h2, h3⟩
    rw [call_eq (d := ⟨2, 3, b__law_pot⟩) rfl rfl]
    simp [b__law_pot, execs, exec, ev, evs, retOf, vwS, vw, cmpD, ordD, biD, one, two, int1, int2, biArg, lenD, hlt, idxD, hix, asgT, setV, binD, hs, s2, p1, ← hx, ← hy]
  · obtain ⟨x, y, hx, hy, hs, h1, h2, h3⟩ := key (4091 * j + 2373) (by rcases hj with rfl | rfl <;> omega)
    refine ⟨x, y, ?_, h1, h2, h3⟩
    rw [call_eq (d := ⟨2, 3, b__law_pot⟩) rfl rfl]
    simp [b__law_pot, execs, exec, ev, evs, retOf, vwS, vw, cmpD, ordD, biD, one, two, int1, int2, biArg, lenD, hlt, idxD, asgT, setV, binD, hs, s1, s2, p1, ← hx, ← hy]
end K79

set_option Elab.async false
set_option linter.all false
set_option maxRecDepth 100000
namespace K79
open Ev
/-! kinds -/
inductive Ki where
  | atom (s : List Nat) | noth | pair (a b : Ki) | frm (a b : Ki)
abbrev cA : List Nat := [97, 116, 111, 109]
abbrev cN : List Nat := [110, 111, 116, 104, 105, 110, 103]
abbrev cP : List Nat := [112, 97, 105, 114]
abbrev cF : List Nat := [102, 114, 111, 109]
def Ki.d : Ki → D
  | .atom s => .tup [.str cA, .str s]
  | .noth => .tup [.str cN]
  | .pair a b => .tup [.str cP, a.d, b.d]
  | .frm a b => .tup [.str cF, a.d, b.d]
def Ki.dep : Ki → Nat
  | .atom _ => 1
  | .noth => 1
  | .pair a b => 1 + max a.dep b.dep
  | .frm a b => 1 + max a.dep b.dep
def Ki.wid : Ki → Nat
  | .atom _ => 1
  | .noth => 1
  | .pair a b => a.wid + b.wid
  | .frm a b => a.wid + b.wid
/-- names: one of a, b, c -/
def Ki.abc : Ki → Prop
  | .atom s => s = [97] ∨ s = [98] ∨ s = [99]
  | .noth => True
  | .pair a b => a.abc ∧ b.abc
  | .frm a b => a.abc ∧ b.abc
def abcD : D := .lst [.str [97], .str [98], .str [99]]
theorem e_leaf (n k : Nat) (L : Int) (st s1 : St) (w : Int) (e1 : callN pg (k + 2) 20 [.ref n, .int 8] st = .ok (.int w) s1) (d1 : Dr n st s1) (p : Pot st n) (hw : L < 2 ∨ w < 2) :
    ∃ (κ : Ki) (st' : St), callN pg (k + 3) 22 [.ref n, .int L, abcD] st = .ok κ.d st' ∧ κ.abc ∧ κ.dep = 1 ∧ Dr n st st' := by
  obtain ⟨w2, s2, e2, h3, h4, d2⟩ := e_draw (k + 1) n 6 s1 (d1.pot p) (by omega) (by omega)
  by_cases hz : w2 = 0
  · refine ⟨.noth, s2, ?_, trivial, by simp [Ki.dep], d1.trans d2⟩
    rw [call_eq (d := ⟨3, 6, b__law_kind⟩) rfl rfl]
    by_cases hL : L < 2
    · simp [b__law_kind, execs, exec, ev, evs, retOf, e1, asgT, setV, vw, cmpD, ordD, e2, hz, eqD_int, Ki.d, hL]
    · have hw := hw.resolve_left hL
      simp [b__law_kind, execs, exec, ev, evs, retOf, e1, asgT, setV, vw, cmpD, ordD, e2, hz, eqD_int, Ki.d, hL, hw]
  · obtain ⟨x, s3, e3, hx, d3⟩ := e_pick k n [.str [97], .str [98], .str [99]] s2 (d2.pot (d1.pot p)) (by simp) (by simp)
    have : ∃ s, x = .str s ∧ (s = [97] ∨ s = [98] ∨ s = [99]) := by
      simp at hx
      rcases hx with rfl | rfl | rfl
      · exact ⟨_, rfl, .inl rfl⟩
      · exact ⟨_, rfl, .inr (.inl rfl)⟩
      · exact ⟨_, rfl, .inr (.inr rfl)⟩
    obtain ⟨s, rfl, hs⟩ := this
    refine ⟨.atom s, s3, ?_, hs, by simp [Ki.dep], (d1.trans d2).trans d3⟩
    rw [call_eq (d := ⟨3, 6, b__law_kind⟩) rfl rfl]
    by_cases hL : L < 2
    · simp [b__law_kind, execs, exec, ev, evs, retOf, e1, asgT, setV, vw, cmpD, ordD, e2, hz, eqD_int, Ki.d, abcD, e3, hL]
    · have hw := hw.resolve_left hL
      simp [b__law_kind, execs, exec, ev, evs, retOf, e1, asgT, setV, vw, cmpD, ordD, e2, hz, eqD_int, Ki.d, abcD, e3, hL, hw]
theorem e_kind (n : Nat) : ∀ (l k : Nat) (st : St), l + 3 ≤ k → Pot st n → ∃ (κ : Ki) (st' : St), callN pg k 22 [.ref n, .int l, abcD] st = .ok κ.d st' ∧ κ.abc ∧ κ.dep ≤ max 1 l ∧ Dr n st st' := by
  intro l
  induction l with
  | zero =>
    intro k st hk p
    obtain ⟨k, rfl⟩ : ∃ k', k = k' + 3 := ⟨k - 3, by omega⟩
    obtain ⟨w, s1, e1, h1, h2, d1⟩ := e_draw (k + 1) n 8 st p (by omega) (by omega)
    obtain ⟨κ, st', e, ha, hd, dr⟩ := e_leaf n k 0 st s1 w e1 d1 p (.inl (by omega))
    exact ⟨κ, st', e, ha, by omega, dr⟩
  | succ l ih =>
    intro k st hk p
    obtain ⟨k, rfl⟩ : ∃ k', k = k' + 3 := ⟨k - 3, by omega⟩
    obtain ⟨w, s1, e1, h1, h2, d1⟩ := e_draw (k + 1) n 8 st p (by omega) (by omega)
    by_cases hc : ((l + 1 : Nat) : Int) < 2 ∨ w < 2
    · obtain ⟨κ, st', e, ha, hd, dr⟩ := e_leaf n k ((l + 1 : Nat) : Int) st s1 w e1 d1 p hc
      exact ⟨κ, st', e, ha, by omega, dr⟩
    · have hc1 : ¬ ((l : Int) + 1 < 2) := fun z => hc (.inl (by omega))
      have hc2 : ¬ w < 2 := fun z => hc (.inr z)
      obtain ⟨κ1, s2, e2, a1, p1, d2⟩ := ih (k + 2) s1 (by omega) (d1.pot p)
      obtain ⟨κ2, s3, e3, a2, p2, d3⟩ := ih (k + 2) s2 (by omega) (d2.pot (d1.pot p))
      by_cases hw : w < 5
      · refine ⟨.pair κ1 κ2, s3, ?_, ⟨a1, a2⟩, by simp only [Ki.dep]; omega, (d1.trans d2).trans d3⟩
        rw [call_eq (d := ⟨3, 6, b__law_kind⟩) rfl rfl]
        simp [b__law_kind, execs, exec, ev, evs, retOf, e1, asgT, setV, slot, vw, cmpD, ordD, binD, hc1, hc2, e2, e3, Ki.d, hw]
      · refine ⟨.frm κ1 κ2, s3, ?_, ⟨a1, a2⟩, by simp only [Ki.dep]; omega, (d1.trans d2).trans d3⟩
        rw [call_eq (d := ⟨3, 6, b__law_kind⟩) rfl rfl]
        simp [b__law_kind, execs, exec, ev, evs, retOf, e1, asgT, setV, slot, vw, cmpD, ordD, binD, hc1, hc2, e2, e3, Ki.d, hw]
theorem Ki.wid_pos : ∀ κ : Ki, 1 ≤ κ.wid
  | .atom _ => Nat.le_refl _
  | .noth => Nat.le_refl _
  | .pair a b => by have := a.wid_pos; simp only [Ki.wid]; omega
  | .frm a b => by have := a.wid_pos; simp only [Ki.wid]; omega
/-- comparisons of texts -/
theorem eqD_str (x y : List Nat) (h1 : PySem.PyData.canLay0 (D.str x).py = true) (h2 : PySem.PyData.canLay0 (D.str y).py = true) : eqD (.str x) (.str y) = some (decide (x = y)) := by
  have d : ∀ z : List Nat, (D.str z).py.depth = (PySem.PyData.str (toS z)).depth := fun z => rfl
  unfold eqD
  rw [h1, h2, if_pos (by simp [D.py, PySem.PyData.depth])]
  simp only [D.py, PySem.PyData.eqv]
  congr 1
  rw [Bool.eq_iff_iff]
  simp
  exact ⟨fun h => toS_inj h, fun h => by rw [h]⟩
theorem in_A : isinD (.str cA) (.tup [.str cA, .str cN]) = some true := by decide +kernel
theorem in_N : isinD (.str cN) (.tup [.str cA, .str cN]) = some true := by decide +kernel
theorem in_P : isinD (.str cP) (.tup [.str cA, .str cN]) = some false := by decide +kernel
theorem in_F : isinD (.str cF) (.tup [.str cA, .str cN]) = some false := by decide +kernel
theorem at0 {α : Type} (x : α) (xs : List α) : L2.atI (x :: xs) 0 = some x := by simp [L2.atI, L2.ixN]
theorem at1 {α : Type} (x y : α) (xs : List α) : L2.atI (x :: y :: xs) 1 = some y := by
  have : (1 : Int) < ((x :: y :: xs).length : Int) := by simp; omega
  simp only [L2.atI, L2.ixN]
  rw [if_pos (by omega), if_pos this]
  rfl
theorem at2 {α : Type} (x y z : α) (xs : List α) : L2.atI (x :: y :: z :: xs) 2 = some z := by
  have : (2 : Int) < ((x :: y :: z :: xs).length : Int) := by simp; omega
  simp only [L2.atI, L2.ixN]
  rw [if_pos (by omega), if_pos this]
  rfl
theorem e_width (st : St) : ∀ (κ : Ki) (k : Nat), κ.dep ≤ k → callN pg k 23 [κ.d] st = .ok (.int κ.wid) st
  | .atom s, k, h => by
    obtain ⟨k, rfl⟩ : ∃ k', k = k' + 1 := ⟨k - 1, by simp only [Ki.dep] at h; omega⟩
    rw [call_eq (d := ⟨1, 1, b__law_width⟩) rfl rfl]
    simp [b__law_width, execs, exec, ev, evs, retOf, Ki.d, vwS, vw, idxD, at0, cmpD, in_A, Ki.wid]
  | .noth, k, h => by
    obtain ⟨k, rfl⟩ : ∃ k', k = k' + 1 := ⟨k - 1, by simp only [Ki.dep] at h; omega⟩
    rw [call_eq (d := ⟨1, 1, b__law_width⟩) rfl rfl]
    simp [b__law_width, execs, exec, ev, evs, retOf, Ki.d, vwS, vw, idxD, at0, cmpD, in_N, Ki.wid]
  | .pair a b, k, h => by
    obtain ⟨k, rfl⟩ : ∃ k', k = k' + 1 := ⟨k - 1, by simp only [Ki.dep] at h; omega⟩
    simp only [Ki.dep] at h
    rw [call_eq (d := ⟨1, 1, b__law_width⟩) rfl rfl]
    simp [b__law_width, execs, exec, ev, evs, retOf, Ki.d, vwS, vw, idxD, at0, at1, at2, cmpD, in_P, Ki.wid, e_width st a k (by omega), e_width st b k (by omega), binD]
  | .frm a b, k, h => by
    obtain ⟨k, rfl⟩ : ∃ k', k = k' + 1 := ⟨k - 1, by simp only [Ki.dep] at h; omega⟩
    simp only [Ki.dep] at h
    rw [call_eq (d := ⟨1, 1, b__law_width⟩) rfl rfl]
    simp [b__law_width, execs, exec, ev, evs, retOf, Ki.d, vwS, vw, idxD, at0, at1, at2, cmpD, in_F, Ki.wid, e_width st a k (by omega), e_width st b k (by omega), binD]
theorem e_depth (st : St) : ∀ (κ : Ki) (k : Nat), κ.dep ≤ k → callN pg k 24 [κ.d] st = .ok (.int κ.dep) st
  | .atom s, k, h => by
    obtain ⟨k, rfl⟩ : ∃ k', k = k' + 1 := ⟨k - 1, by simp only [Ki.dep] at h; omega⟩
    rw [call_eq (d := ⟨1, 1, b__law_depth⟩) rfl rfl]
    simp [b__law_depth, execs, exec, ev, evs, retOf, Ki.d, vwS, vw, idxD, at0, at1, at2, cmpD, in_A, Ki.dep]
  | .noth, k, h => by
    obtain ⟨k, rfl⟩ : ∃ k', k = k' + 1 := ⟨k - 1, by simp only [Ki.dep] at h; omega⟩
    rw [call_eq (d := ⟨1, 1, b__law_depth⟩) rfl rfl]
    simp [b__law_depth, execs, exec, ev, evs, retOf, Ki.d, vwS, vw, idxD, at0, at1, at2, cmpD, in_N, Ki.dep]
  | .pair a b, k, h => by
    obtain ⟨k, rfl⟩ : ∃ k', k = k' + 1 := ⟨k - 1, by simp only [Ki.dep] at h; omega⟩
    simp only [Ki.dep] at h
    rw [call_eq (d := ⟨1, 1, b__law_depth⟩) rfl rfl]
    simp [b__law_depth, execs, exec, ev, evs, retOf, Ki.d, vwS, vw, idxD, at0, at1, at2, cmpD, in_P, Ki.dep, e_depth st a k (by omega), e_depth st b k (by omega), binD, biD, two, int2, biArg]
    omega
  | .frm a b, k, h => by
    obtain ⟨k, rfl⟩ : ∃ k', k = k' + 1 := ⟨k - 1, by simp only [Ki.dep] at h; omega⟩
    simp only [Ki.dep] at h
    rw [call_eq (d := ⟨1, 1, b__law_depth⟩) rfl rfl]
    simp [b__law_depth, execs, exec, ev, evs, retOf, Ki.d, vwS, vw, idxD, at0, at1, at2, cmpD, in_F, Ki.dep, e_depth st a k (by omega), e_depth st b k (by omega), binD, biD, two, int2, biArg]
    omega
/-- a part -/
theorem Ki.part (κ : Ki) (j : Int) (h : 2 ≤ κ.wid) (h0 : 0 ≤ j) (h1 : j < 2) : ∃ τ : Ki, idxD κ.d (.int (1 + j)) = some τ.d ∧ τ.wid < κ.wid ∧ τ.dep < κ.dep ∧ (κ.abc → τ.abc) := by
  have hj : j = 0 ∨ j = 1 := by omega
  cases κ with
  | atom s => simp [Ki.wid] at h
  | noth => simp [Ki.wid] at h
  | pair a b =>
    have := a.wid_pos
    have := b.wid_pos
    rcases hj with rfl | rfl
    · exact ⟨a, by simp [Ki.d, idxD, at1], by simp only [Ki.wid]; omega, by simp only [Ki.dep]; omega, fun q => q.1⟩
    · exact ⟨b, by simp [Ki.d, idxD, at2], by simp only [Ki.wid]; omega, by simp only [Ki.dep]; omega, fun q => q.2⟩
  | frm a b =>
    have := a.wid_pos
    have := b.wid_pos
    rcases hj with rfl | rfl
    · exact ⟨a, by simp [Ki.d, idxD, at1], by simp only [Ki.wid]; omega, by simp only [Ki.dep]; omega, fun q => q.1⟩
    · exact ⟨b, by simp [Ki.d, idxD, at2], by simp only [Ki.wid]; omega, by simp only [Ki.dep]; omega, fun q => q.2⟩
theorem whl_some (n k : Nat) (lv most : D) (mo : Int) (hmo : most = .int mo) (hm : 1 ≤ mo) : ∀ (m : Nat) (κ : Ki) (st : St), κ.wid ≤ m → Pot st n → κ.abc → κ.dep ≤ k + 1 →
    ∃ (κ' : Ki) (st' : St), whlLoop (fun env st => ev (callN pg (k + 1)) pg.gl env st p0__law_some_kind)
      (fun env st => execs (callN pg (k + 1)) pg.gl env st p1__law_some_kind) (m + 1) [.va (.ref n), .va lv, .va most, .va κ.d] st = .nx [.va (.ref n), .va lv, .va most, .va κ'.d] st' ∧
      (κ'.wid : Int) ≤ mo ∧ κ'.abc ∧ κ'.dep ≤ κ.dep ∧ Dr n st st' := by
  subst hmo
  intro m
  induction m with
  | zero => intro κ st h; have := κ.wid_pos; omega
  | succ m ih =>
    intro κ st h p ha hd
    have ew := e_width st κ (k + 1) hd
    by_cases hw : mo < (κ.wid : Int)
    · obtain ⟨j, s1, e1, h1, h2, d1⟩ := e_draw k n 2 st p (by omega) (by omega)
      obtain ⟨τ, et, w1, w2, w3⟩ := κ.part j (by omega) h1 h2
      obtain ⟨κ', st', e, q1, q2, q3, q4⟩ := ih τ s1 (by omega) (d1.pot p) (w3 ha) (by omega)
      have hv : vwS s1 κ.d = κ.d := by cases κ <;> rfl
      refine ⟨κ', st', ?_, q1, q2, by omega, d1.trans q4⟩
      refine (whl_t (st1 := st) (env' := [.va (.ref n), .va lv, .va (.int mo), .va τ.d]) (st' := s1) ?_ ?_).trans e
      · simp [p0__law_some_kind, ev, evs, ew, vw, cmpD, ordD, hw]
      · simp [p1__law_some_kind, ev, evs, execs, exec, e1, binD, vw, hv, et, asgT, setV]
    · refine ⟨κ, st, whl_f ?_, by omega, ha, Nat.le_refl _, Dr.refl p⟩
      simp [p0__law_some_kind, ev, evs, ew, vw, cmpD, ordD, hw]
theorem Ki.wid_dep : ∀ κ : Ki, κ.wid ≤ 2 ^ κ.dep
  | .atom _ => by simp [Ki.wid, Ki.dep]
  | .noth => by simp [Ki.wid, Ki.dep]
  | .pair a b => by
    have h1 := a.wid_dep
    have h2 := b.wid_dep
    have h3 : 2 ^ a.dep ≤ 2 ^ (max a.dep b.dep) := Nat.pow_le_pow_right (by decide) (by omega)
    have h4 : 2 ^ b.dep ≤ 2 ^ (max a.dep b.dep) := Nat.pow_le_pow_right (by decide) (by omega)
    simp only [Ki.wid, Ki.dep]
    rw [Nat.pow_add]
    omega
  | .frm a b => by
    have h1 := a.wid_dep
    have h2 := b.wid_dep
    have h3 : 2 ^ a.dep ≤ 2 ^ (max a.dep b.dep) := Nat.pow_le_pow_right (by decide) (by omega)
    have h4 : 2 ^ b.dep ≤ 2 ^ (max a.dep b.dep) := Nat.pow_le_pow_right (by decide) (by omega)
    simp only [Ki.wid, Ki.dep]
    rw [Nat.pow_add]
    omega
end K79

set_option Elab.async false
set_option linter.all false
set_option maxRecDepth 100000
namespace K79
open Ev
/-! webs, what is true where -/
structure W where
  nm : List (List Nat)
  la : List Nat
abbrev cW : List Nat := [119, 101, 98]
def intD (n : Nat) : D := .int n
def W.d (w : W) : D := .tup [.tup (w.nm.map .str), .tup (w.la.map intD)]
def webD (ws : List W) : D := .tup [.str cW, .tup (ws.map W.d)]
def laAt (ws : List W) (i : Nat) : List Nat := (ws[i]?.map W.la).getD []
def nmAt (ws : List W) (i : Nat) : List (List Nat) := (ws[i]?.map W.nm).getD []
/-- true at a world -/
def T (ws : List W) : Ki → Nat → Bool
  | .atom s, i => decide (s ∈ nmAt ws i)
  | .noth, _ => true
  | .pair a b, i => T ws a i && T ws b i
  | .frm a b, i => (i :: laAt ws i).all fun l => T ws b l || !T ws a l
structure Wok (ws : List W) : Prop where
  pos : 1 ≤ ws.length
  most : ws.length ≤ 5
  gt : ∀ i, ∀ l ∈ laAt ws i, i < l ∧ l < ws.length
  nm : ∀ i, ∀ l ∈ laAt ws i, ∀ s ∈ nmAt ws i, s ∈ nmAt ws l
  la : ∀ i, ∀ l ∈ laAt ws i, ∀ m ∈ laAt ws l, m ∈ laAt ws i
  abc : ∀ i, ∀ s ∈ nmAt ws i, s = [97] ∨ s = [98] ∨ s = [99]
  nmr : ∀ i, (nmAt ws i).Pairwise (· < ·)
  lar : ∀ i, (laAt ws i).Pairwise (· < ·)
theorem T_mono {ws : List W} (h : Wok ws) : ∀ (κ : Ki) (i l : Nat), l ∈ laAt ws i → T ws κ i = true → T ws κ l = true
  | .atom s, i, l, hl, ht => by
    simp only [T, decide_eq_true_eq] at *
    exact h.nm i l hl s ht
  | .noth, _, _, _, _ => rfl
  | .pair a b, i, l, hl, ht => by
    simp only [T, Bool.and_eq_true] at *
    exact ⟨T_mono h a i l hl ht.1, T_mono h b i l hl ht.2⟩
  | .frm a b, i, l, hl, ht => by
    simp only [T, List.all_eq_true] at *
    intro m hm
    refine ht m ?_
    rcases List.mem_cons.mp hm with rfl | hm
    · exact List.mem_cons_of_mem _ hl
    · exact List.mem_cons_of_mem _ (h.la i l hl m hm)
/-- alike: true at the same worlds -/
def Lk (κ κ' : Ki) : Prop := ∀ ws, Wok ws → T ws κ' = T ws κ
theorem Lk.refl (κ : Ki) : Lk κ κ := fun _ _ => rfl
theorem Lk.trans {a b c : Ki} (h : Lk a b) (g : Lk b c) : Lk a c := fun ws w => (g ws w).trans (h ws w)
theorem Lk.pair {a b a' b' : Ki} (h : Lk a a') (g : Lk b b') : Lk (.pair a b) (.pair a' b') := fun ws w => by
  funext i
  simp only [T, h ws w, g ws w]
theorem Lk.frm {a b a' b' : Ki} (h : Lk a a') (g : Lk b b') : Lk (.frm a b) (.frm a' b') := fun ws w => by
  funext i
  simp only [T, h ws w, g ws w]
theorem Lk.swap (a b : Ki) : Lk (.pair a b) (.pair b a) := fun ws w => by
  funext i
  simp only [T, Bool.and_comm]
theorem Lk.assoc (a b c : Ki) : Lk (.pair (.pair a b) c) (.pair a (.pair b c)) := fun ws w => by
  funext i
  simp only [T, Bool.and_assoc]
theorem Lk.noth (a : Ki) : Lk a (.pair .noth a) := fun ws w => by
  funext i
  simp only [T, Bool.true_and]
theorem T_curry {ws : List W} (h : Wok ws) (a b c : Ki) (i : Nat) : T ws (.frm a (.frm b c)) i = T ws (.frm (.pair a b) c) i := by
  rw [Bool.eq_iff_iff]
  simp only [T, List.all_eq_true, Bool.or_eq_true, Bool.not_eq_true', Bool.and_eq_false_iff]
  constructor
  · intro g l hl
    rcases g l hl with q | q
    · rcases q l (List.mem_cons_self ..) with q | q
      · exact .inl q
      · exact .inr (.inr q)
    · exact .inr (.inl q)
  · intro g l hl
    by_cases ha : T ws a l = true
    · refine .inl fun m hm => ?_
      have hmi : m ∈ i :: laAt ws i := by
        rcases List.mem_cons.mp hm with rfl | hm
        · exact hl
        · rcases List.mem_cons.mp hl with rfl | hl
          · exact List.mem_cons_of_mem _ hm
          · exact List.mem_cons_of_mem _ (h.la i l hl m hm)
      have ham : T ws a m = true := by
        rcases List.mem_cons.mp hm with rfl | hm
        · exact ha
        · exact T_mono h a l m hm ha
      rcases g m hmi with q | q | q
      · exact .inl q
      · rw [ham] at q; cases q
      · exact .inr q
    · exact .inr (by simpa using ha)
theorem Lk.curry (a b c : Ki) : Lk (.frm (.pair a b) c) (.frm a (.frm b c)) := fun ws w => by
  funext i
  exact T_curry w a b c i
theorem Lk.uncurry (a b c : Ki) : Lk (.frm a (.frm b c)) (.frm (.pair b a) c) := fun ws w => by
  funext i
  rw [T_curry w a b c i]
  simp only [T, Bool.and_comm]
theorem Lk.split (a b c : Ki) : Lk (.frm a (.pair b c)) (.pair (.frm a b) (.frm a c)) := fun ws w => by
  funext i
  rw [Bool.eq_iff_iff]
  simp only [T, List.all_eq_true, Bool.or_eq_true, Bool.not_eq_true', Bool.and_eq_true]
  constructor
  · rintro ⟨g1, g2⟩ l hl
    rcases g1 l hl with q | q
    · rcases g2 l hl with p | p
      · exact .inl ⟨q, p⟩
      · exact .inr p
    · exact .inr q
  · intro g
    refine ⟨fun l hl => ?_, fun l hl => ?_⟩
    · rcases g l hl with q | q
      · exact .inl q.1
      · exact .inr q
    · rcases g l hl with q | q
      · exact .inl q.2
      · exact .inr q
/-- the truths of a web as the list that is told -/
def Ts (ws : List W) (κ : Ki) : List D := (List.range ws.length).map fun i => .bl (T ws κ i)
end K79

set_option Elab.async false
set_option linter.all false
set_option maxRecDepth 100000
namespace K79
open Ev
theorem e_some_kind (n k : Nat) (st : St) (p : Pot st n) : ∃ (κ : Ki) (st' : St), callN pg (k + 10) 25 [.ref n, .int 4, .int 6] st = .ok κ.d st' ∧ κ.abc ∧ κ.dep ≤ 4 ∧ κ.wid ≤ 6 ∧ Dr n st st' := by
  obtain ⟨κ, s1, e1, a1, d1, r1⟩ := e_kind n 4 (k + 9) st (by omega) p
  have hw := κ.wid_dep
  have hw2 : 2 ^ κ.dep ≤ 2 ^ 4 := Nat.pow_le_pow_right (by decide) (by omega)
  have hw3 : κ.wid ≤ 999999 := by
    have : (2 : Nat) ^ 4 = 16 := rfl
    omega
  obtain ⟨κ', s2, e2, w2, a2, d2, r2⟩ := whl_some n (k + 8) (.int 4) (.int 6) 6 rfl (by decide) 999999 κ s1 hw3 (r1.pot p) a1 (by omega)
  refine ⟨κ', s2, ?_, a2, by omega, by omega, r1.trans r2⟩
  rw [call_eq (d := ⟨3, 4, b__law_some_kind⟩) rfl rfl]
  have e1' : callN pg (k + 9) 22 [.ref n, .int 4, abcD] st = .ok κ.d s1 := e1
  unfold abcD at e1'
  simp [b__law_some_kind, e1']
  rw [show fuel = 999999 + 1 from rfl]
  have e3 : whlLoop (whlC (callN pg (k + 8 + 1)) pg.gl p0__law_some_kind) (whlB (callN pg (k + 8 + 1)) pg.gl p1__law_some_kind) (999999 + 1) [.va (.ref n), .va (.int 4), .va (.int 6), .va κ.d] s1 = _ := e2
  rw [e3]
  simp
@[simp] theorem vwS_d (st : St) (κ : Ki) : vwS st κ.d = κ.d := by cases κ <;> rfl
@[simp] theorem vw_d (st : St) (κ : Ki) : vw st κ.d = κ.d := by cases κ <;> rfl
theorem q_PP : eqD (.str cP) (.str cP) = some true := by decide +kernel
theorem q_PF : eqD (.str cP) (.str cF) = some false := by decide +kernel
theorem q_PA : eqD (.str cP) (.str cA) = some false := by decide +kernel
theorem q_PN : eqD (.str cP) (.str cN) = some false := by decide +kernel
theorem q_FP : eqD (.str cF) (.str cP) = some false := by decide +kernel
theorem q_FF : eqD (.str cF) (.str cF) = some true := by decide +kernel
theorem q_FA : eqD (.str cF) (.str cA) = some false := by decide +kernel
theorem q_FN : eqD (.str cF) (.str cN) = some false := by decide +kernel
theorem q_AP : eqD (.str cA) (.str cP) = some false := by decide +kernel
theorem q_AF : eqD (.str cA) (.str cF) = some false := by decide +kernel
theorem q_AA : eqD (.str cA) (.str cA) = some true := by decide +kernel
theorem q_AN : eqD (.str cA) (.str cN) = some false := by decide +kernel
theorem q_NP : eqD (.str cN) (.str cP) = some false := by decide +kernel
theorem q_NF : eqD (.str cN) (.str cF) = some false := by decide +kernel
theorem q_NA : eqD (.str cN) (.str cA) = some false := by decide +kernel
theorem q_NN : eqD (.str cN) (.str cN) = some true := by decide +kernel
theorem pf_A : isinD (.str cA) (.tup [.str cP, .str cF]) = some false := by decide +kernel
theorem pf_N : isinD (.str cN) (.tup [.str cP, .str cF]) = some false := by decide +kernel
theorem pf_P : isinD (.str cP) (.tup [.str cP, .str cF]) = some true := by decide +kernel
theorem pf_F : isinD (.str cF) (.tup [.str cP, .str cF]) = some true := by decide +kernel
theorem slc3 (x y z : D) (f : List D → D) :
    cutL [x, y, z] none (some 1) = [x] ∧ cutL [x, y, z] none (some 2) = [x, y] ∧ cutL [x, y, z] (some 2) none = [z] ∧ cutL [x, y, z] (some 3) none = [] := by
  refine ⟨?_, ?_, ?_, ?_⟩ <;> simp [cutL, HT.sIx]
def Ki.tag : Ki → List Nat
  | .atom _ => cA
  | .noth => cN
  | .pair _ _ => cP
  | .frm _ _ => cF
def Ki.isP : Ki → Bool
  | .pair _ _ => true
  | _ => false
def Ki.isF : Ki → Bool
  | .frm _ _ => true
  | _ => false
theorem Ki.of_isP {κ : Ki} (h : κ.isP = true) : ∃ a b, κ = .pair a b := by cases κ <;> first | exact ⟨_, _, rfl⟩ | cases h
theorem Ki.of_isF {κ : Ki} (h : κ.isF = true) : ∃ a b, κ = .frm a b := by cases κ <;> first | exact ⟨_, _, rfl⟩ | cases h
theorem idx0_d (κ : Ki) : idxD κ.d (.int 0) = some (.str κ.tag) := by cases κ <;> simp [Ki.d, idxD, at0, Ki.tag]
theorem eqP_tag (κ : Ki) : eqD (.str κ.tag) (.str cP) = some κ.isP := by cases κ <;> first | exact q_AP | exact q_NP | exact q_PP | exact q_FP
theorem eqF_tag (κ : Ki) : eqD (.str κ.tag) (.str cF) = some κ.isF := by cases κ <;> first | exact q_AF | exact q_NF | exact q_PF | exact q_FF
/-- what a led kind is to the kind -/
structure LkP (κ κ' : Ki) : Prop where
  abc : κ.abc → κ'.abc
  dep : κ'.dep ≤ κ.dep + 1
  lk : Lk κ κ'
theorem Ki.dep_pos (κ : Ki) : 1 ≤ κ.dep := by cases κ <;> simp only [Ki.dep] <;> omega
theorem LkP.noth (κ : Ki) : LkP κ (.pair .noth κ) := ⟨fun h => ⟨trivial, h⟩, by have := κ.dep_pos; simp only [Ki.dep]; omega, Lk.noth κ⟩
theorem LkP.refl (κ : Ki) : LkP κ κ := ⟨id, by omega, Lk.refl κ⟩
set_option maxHeartbeats 0 in
theorem e_led (n : Nat) : ∀ (κ : Ki) (k : Nat) (st : St), κ.dep + 2 ≤ k → Pot st n → ∃ (κ' : Ki) (st' : St), callN pg k 28 [.ref n, κ.d] st = .ok κ'.d st' ∧ LkP κ κ' ∧ Dr n st st'
  | .atom s, k, st, hk, p => by
    obtain ⟨k, rfl⟩ : ∃ k', k = k' + 2 := ⟨k - 2, by omega⟩
    obtain ⟨w, s1, e1, h1, h2, d1⟩ := e_draw k n 7 st p (by omega) (by omega)
    by_cases hw : w = 2
    · refine ⟨.pair .noth (.atom s), s1, ?_, LkP.noth _, d1⟩
      rw [call_eq (d := ⟨2, 4, b__law_led⟩) rfl rfl]
      simp [b__law_led, Ki.d, eqD_int, q_PP, q_PF, q_PA, q_PN, q_FP, q_FF, q_FA, q_FN, q_AP, q_AF, q_AA, q_AN, q_NP, q_NF, q_NA, q_NN, pf_A, pf_N, pf_P, pf_F, slcD, bndD, binD, catL, PySem.sizeLine, e1, hw]
    · refine ⟨.atom s, s1, ?_, LkP.refl _, d1⟩
      rw [call_eq (d := ⟨2, 4, b__law_led⟩) rfl rfl]
      simp [b__law_led, Ki.d, eqD_int, q_PP, q_PF, q_PA, q_PN, q_FP, q_FF, q_FA, q_FN, q_AP, q_AF, q_AA, q_AN, q_NP, q_NF, q_NA, q_NN, pf_A, pf_N, pf_P, pf_F, slcD, bndD, binD, catL, PySem.sizeLine, e1, hw]
  | .noth, k, st, hk, p => by
    obtain ⟨k, rfl⟩ : ∃ k', k = k' + 2 := ⟨k - 2, by omega⟩
    obtain ⟨w, s1, e1, h1, h2, d1⟩ := e_draw k n 7 st p (by omega) (by omega)
    by_cases hw : w = 2
    · refine ⟨.pair .noth .noth, s1, ?_, LkP.noth _, d1⟩
      rw [call_eq (d := ⟨2, 4, b__law_led⟩) rfl rfl]
      simp [b__law_led, Ki.d, eqD_int, q_PP, q_PF, q_PA, q_PN, q_FP, q_FF, q_FA, q_FN, q_AP, q_AF, q_AA, q_AN, q_NP, q_NF, q_NA, q_NN, pf_A, pf_N, pf_P, pf_F, slcD, bndD, binD, catL, PySem.sizeLine, e1, hw]
    · refine ⟨.noth, s1, ?_, LkP.refl _, d1⟩
      rw [call_eq (d := ⟨2, 4, b__law_led⟩) rfl rfl]
      simp [b__law_led, Ki.d, eqD_int, q_PP, q_PF, q_PA, q_PN, q_FP, q_FF, q_FA, q_FN, q_AP, q_AF, q_AA, q_AN, q_NP, q_NF, q_NA, q_NN, pf_A, pf_N, pf_P, pf_F, slcD, bndD, binD, catL, PySem.sizeLine, e1, hw]
  | .pair a b, k, st, hk, p => by
    simp only [Ki.dep] at hk
    obtain ⟨k, rfl⟩ : ∃ k', k = k' + 2 := ⟨k - 2, by omega⟩
    obtain ⟨w, s1, e1, h1, h2, d1⟩ := e_draw k n 7 st p (by omega) (by omega)
    obtain ⟨v, s2, e2, h3, h4, d2⟩ := e_draw k n 3 s1 (d1.pot p) (by omega) (by omega)
    have p2 := d2.pot (d1.pot p)
    have d12 := d1.trans d2
    by_cases hv : v = 0
    · obtain ⟨j, s3, e3, h5, h6, d3⟩ := e_draw k n 2 s2 p2 (by omega) (by omega)
      have hj : j = 0 ∨ j = 1 := by omega
      rcases hj with rfl | rfl
      · obtain ⟨a', s4, e4, l4, d4⟩ := e_led n a (k + 1) s3 (by omega) (d3.pot p2)
        refine ⟨.pair a' b, s4, ?_, ⟨fun h => ⟨l4.abc h.1, h.2⟩, by have := l4.dep; simp only [Ki.dep]; omega, Lk.pair l4.lk (Lk.refl b)⟩, (d12.trans d3).trans d4⟩
        rw [call_eq (d := ⟨2, 4, b__law_led⟩) rfl rfl]
        simp [b__law_led, Ki.d, eqD_int, q_PP, q_PF, q_PA, q_PN, q_FP, q_FF, q_FA, q_FN, q_AP, q_AF, q_AA, q_AN, q_NP, q_NF, q_NA, q_NN, pf_A, pf_N, pf_P, pf_F, slcD, bndD, binD, catL, PySem.sizeLine, e1, e2, hv, e3, e4, (slc3 _ _ _ .tup).1, (slc3 _ _ _ .tup).2.2.1]
      · obtain ⟨b', s4, e4, l4, d4⟩ := e_led n b (k + 1) s3 (by omega) (d3.pot p2)
        refine ⟨.pair a b', s4, ?_, ⟨fun h => ⟨h.1, l4.abc h.2⟩, by have := l4.dep; simp only [Ki.dep]; omega, Lk.pair (Lk.refl a) l4.lk⟩, (d12.trans d3).trans d4⟩
        rw [call_eq (d := ⟨2, 4, b__law_led⟩) rfl rfl]
        simp [b__law_led, Ki.d, eqD_int, q_PP, q_PF, q_PA, q_PN, q_FP, q_FF, q_FA, q_FN, q_AP, q_AF, q_AA, q_AN, q_NP, q_NF, q_NA, q_NN, pf_A, pf_N, pf_P, pf_F, slcD, bndD, binD, catL, PySem.sizeLine, e1, e2, hv, e3, e4, (slc3 _ _ _ .tup).2.1, (slc3 _ _ _ .tup).2.2.2]
    · by_cases w0 : w = 0
      · refine ⟨.pair b a, s2, ?_, ⟨fun h => ⟨h.2, h.1⟩, by simp only [Ki.dep]; omega, Lk.swap a b⟩, d12⟩
        rw [call_eq (d := ⟨2, 4, b__law_led⟩) rfl rfl]
        simp [b__law_led, Ki.d, eqD_int, q_PP, q_PF, q_PA, q_PN, q_FP, q_FF, q_FA, q_FN, q_AP, q_AF, q_AA, q_AN, q_NP, q_NF, q_NA, q_NN, pf_A, pf_N, pf_P, pf_F, slcD, bndD, binD, catL, PySem.sizeLine, e1, e2, hv, w0]
      · by_cases w1 : w = 1
        · cases a with
          | pair a1 a2 =>
            refine ⟨.pair a1 (.pair a2 b), s2, ?_, ⟨fun h => ⟨h.1.1, h.1.2, h.2⟩, by simp only [Ki.dep]; omega, Lk.assoc a1 a2 b⟩, d12⟩
            rw [call_eq (d := ⟨2, 4, b__law_led⟩) rfl rfl]
            simp [b__law_led, Ki.d, eqD_int, q_PP, q_PF, q_PA, q_PN, q_FP, q_FF, q_FA, q_FN, q_AP, q_AF, q_AA, q_AN, q_NP, q_NF, q_NA, q_NN, pf_A, pf_N, pf_P, pf_F, slcD, bndD, binD, catL, PySem.sizeLine, e1, e2, hv, w1]
          | atom s =>
            refine ⟨.pair (.atom s) b, s2, ?_, LkP.refl _, d12⟩
            rw [call_eq (d := ⟨2, 4, b__law_led⟩) rfl rfl]
            simp [b__law_led, Ki.d, eqD_int, q_PP, q_PF, q_PA, q_PN, q_FP, q_FF, q_FA, q_FN, q_AP, q_AF, q_AA, q_AN, q_NP, q_NF, q_NA, q_NN, pf_A, pf_N, pf_P, pf_F, slcD, bndD, binD, catL, PySem.sizeLine, e1, e2, hv, w1]
          | noth =>
            refine ⟨.pair .noth b, s2, ?_, LkP.refl _, d12⟩
            rw [call_eq (d := ⟨2, 4, b__law_led⟩) rfl rfl]
            simp [b__law_led, Ki.d, eqD_int, q_PP, q_PF, q_PA, q_PN, q_FP, q_FF, q_FA, q_FN, q_AP, q_AF, q_AA, q_AN, q_NP, q_NF, q_NA, q_NN, pf_A, pf_N, pf_P, pf_F, slcD, bndD, binD, catL, PySem.sizeLine, e1, e2, hv, w1]
          | frm a1 a2 =>
            refine ⟨.pair (.frm a1 a2) b, s2, ?_, LkP.refl _, d12⟩
            rw [call_eq (d := ⟨2, 4, b__law_led⟩) rfl rfl]
            simp [b__law_led, Ki.d, eqD_int, q_PP, q_PF, q_PA, q_PN, q_FP, q_FF, q_FA, q_FN, q_AP, q_AF, q_AA, q_AN, q_NP, q_NF, q_NA, q_NN, pf_A, pf_N, pf_P, pf_F, slcD, bndD, binD, catL, PySem.sizeLine, e1, e2, hv, w1]
        · by_cases w2 : w = 2
          · refine ⟨.pair .noth (.pair a b), s2, ?_, LkP.noth _, d12⟩
            rw [call_eq (d := ⟨2, 4, b__law_led⟩) rfl rfl]
            simp [b__law_led, Ki.d, eqD_int, q_PP, q_PF, q_PA, q_PN, q_FP, q_FF, q_FA, q_FN, q_AP, q_AF, q_AA, q_AN, q_NP, q_NF, q_NA, q_NN, pf_A, pf_N, pf_P, pf_F, slcD, bndD, binD, catL, PySem.sizeLine, e1, e2, hv, w2]
          · refine ⟨.pair a b, s2, ?_, LkP.refl _, d12⟩
            rw [call_eq (d := ⟨2, 4, b__law_led⟩) rfl rfl]
            simp [b__law_led, Ki.d, eqD_int, q_PP, q_PF, q_PA, q_PN, q_FP, q_FF, q_FA, q_FN, q_AP, q_AF, q_AA, q_AN, q_NP, q_NF, q_NA, q_NN, pf_A, pf_N, pf_P, pf_F, slcD, bndD, binD, catL, PySem.sizeLine, e1, e2, hv, w0, w1, w2]
  | .frm a b, k, st, hk, p => by
    simp only [Ki.dep] at hk
    obtain ⟨k, rfl⟩ : ∃ k', k = k' + 2 := ⟨k - 2, by omega⟩
    obtain ⟨w, s1, e1, h1, h2, d1⟩ := e_draw k n 7 st p (by omega) (by omega)
    obtain ⟨v, s2, e2, h3, h4, d2⟩ := e_draw k n 3 s1 (d1.pot p) (by omega) (by omega)
    have p2 := d2.pot (d1.pot p)
    have d12 := d1.trans d2
    by_cases hv : v = 0
    · obtain ⟨j, s3, e3, h5, h6, d3⟩ := e_draw k n 2 s2 p2 (by omega) (by omega)
      have hj : j = 0 ∨ j = 1 := by omega
      rcases hj with rfl | rfl
      · obtain ⟨a', s4, e4, l4, d4⟩ := e_led n a (k + 1) s3 (by omega) (d3.pot p2)
        refine ⟨.frm a' b, s4, ?_, ⟨fun h => ⟨l4.abc h.1, h.2⟩, by have := l4.dep; simp only [Ki.dep]; omega, Lk.frm l4.lk (Lk.refl b)⟩, (d12.trans d3).trans d4⟩
        rw [call_eq (d := ⟨2, 4, b__law_led⟩) rfl rfl]
        simp [b__law_led, Ki.d, eqD_int, q_PP, q_PF, q_PA, q_PN, q_FP, q_FF, q_FA, q_FN, q_AP, q_AF, q_AA, q_AN, q_NP, q_NF, q_NA, q_NN, pf_A, pf_N, pf_P, pf_F, slcD, bndD, binD, catL, PySem.sizeLine, e1, e2, hv, e3, e4, (slc3 _ _ _ .tup).1, (slc3 _ _ _ .tup).2.2.1]
      · obtain ⟨b', s4, e4, l4, d4⟩ := e_led n b (k + 1) s3 (by omega) (d3.pot p2)
        refine ⟨.frm a b', s4, ?_, ⟨fun h => ⟨h.1, l4.abc h.2⟩, by have := l4.dep; simp only [Ki.dep]; omega, Lk.frm (Lk.refl a) l4.lk⟩, (d12.trans d3).trans d4⟩
        rw [call_eq (d := ⟨2, 4, b__law_led⟩) rfl rfl]
        simp [b__law_led, Ki.d, eqD_int, q_PP, q_PF, q_PA, q_PN, q_FP, q_FF, q_FA, q_FN, q_AP, q_AF, q_AA, q_AN, q_NP, q_NF, q_NA, q_NN, pf_A, pf_N, pf_P, pf_F, slcD, bndD, binD, catL, PySem.sizeLine, e1, e2, hv, e3, e4, (slc3 _ _ _ .tup).2.1, (slc3 _ _ _ .tup).2.2.2]
    · by_cases w2 : w = 2
      · refine ⟨.pair .noth (.frm a b), s2, ?_, LkP.noth _, d12⟩
        rw [call_eq (d := ⟨2, 4, b__law_led⟩) rfl rfl]
        simp [b__law_led, Ki.d, eqD_int, q_PP, q_PF, q_PA, q_PN, q_FP, q_FF, q_FA, q_FN, q_AP, q_AF, q_AA, q_AN, q_NP, q_NF, q_NA, q_NN, pf_A, pf_N, pf_P, pf_F, slcD, bndD, binD, catL, PySem.sizeLine, e1, e2, hv, w2]
      · have fin : ∀ κ' : Ki, callN pg (k + 2) 28 [.ref n, (Ki.frm a b).d] st = .ok κ'.d s2 → LkP (.frm a b) κ' → ∃ (κ' : Ki) (st' : St), callN pg (k + 2) 28 [.ref n, (Ki.frm a b).d] st = .ok κ'.d st' ∧ LkP (.frm a b) κ' ∧ Dr n st st' := fun κ' h1 h2 => ⟨κ', s2, h1, h2, d12⟩
        by_cases c1 : w < 4 ∧ a.isP = true
        · obtain ⟨w4, hp⟩ := c1
          obtain ⟨a1, a2, rfl⟩ := Ki.of_isP hp
          refine fin (.frm a1 (.frm a2 b)) ?_ ⟨fun h => ⟨h.1.1, h.1.2, h.2⟩, by simp only [Ki.dep]; omega, Lk.curry a1 a2 b⟩
          rw [call_eq (d := ⟨2, 4, b__law_led⟩) rfl rfl]
          simp [b__law_led, Ki.d, eqD_int, q_PP, q_PF, q_PA, q_PN, q_FP, q_FF, q_FA, q_FN, q_AP, q_AF, q_AA, q_AN, q_NP, q_NF, q_NA, q_NN, pf_A, pf_N, pf_P, pf_F, slcD, bndD, binD, catL, PySem.sizeLine, e1, e2, hv, w2, w4]
        · have g1 : (if w < 4 then a.isP else false) = false := by
            split
            · cases h : a.isP
              · rfl
              · exact absurd ⟨by assumption, h⟩ c1
            · rfl
          by_cases c2 : w < 5 ∧ b.isF = true
          · obtain ⟨w5, hp⟩ := c2
            obtain ⟨b1, b2, rfl⟩ := Ki.of_isF hp
            refine fin (.frm (.pair b1 a) b2) ?_ ⟨fun h => ⟨⟨h.2.1, h.1⟩, h.2.2⟩, by simp only [Ki.dep]; omega, Lk.uncurry a b1 b2⟩
            rw [call_eq (d := ⟨2, 4, b__law_led⟩) rfl rfl]
            by_cases w4 : w < 4
            · rw [if_pos w4] at g1
              simp [b__law_led, Ki.d, eqD_int, q_PP, q_PF, q_PA, q_PN, q_FP, q_FF, q_FA, q_FN, q_AP, q_AF, q_AA, q_AN, q_NP, q_NF, q_NA, q_NN, pf_A, pf_N, pf_P, pf_F, slcD, bndD, binD, catL, PySem.sizeLine, e1, e2, hv, w2, w4, w5, idx0_d, eqP_tag, g1]
            · simp [b__law_led, Ki.d, eqD_int, q_PP, q_PF, q_PA, q_PN, q_FP, q_FF, q_FA, q_FN, q_AP, q_AF, q_AA, q_AN, q_NP, q_NF, q_NA, q_NN, pf_A, pf_N, pf_P, pf_F, slcD, bndD, binD, catL, PySem.sizeLine, e1, e2, hv, w2, w4, w5, idx0_d, eqP_tag]
          · have g2 : (if w < 5 then b.isF else false) = false := by
              split
              · cases h : b.isF
                · rfl
                · exact absurd ⟨by assumption, h⟩ c2
              · rfl
            by_cases c3 : w < 6 ∧ b.isP = true
            · obtain ⟨w6, hp⟩ := c3
              obtain ⟨b1, b2, rfl⟩ := Ki.of_isP hp
              refine fin (.pair (.frm a b1) (.frm a b2)) ?_ ⟨fun h => ⟨⟨h.1, h.2.1⟩, ⟨h.1, h.2.2⟩⟩, by simp only [Ki.dep]; omega, Lk.split a b1 b2⟩
              rw [call_eq (d := ⟨2, 4, b__law_led⟩) rfl rfl]
              by_cases w4 : w < 4
              · rw [if_pos w4] at g1
                have w5 : w < 5 := by omega
                simp [b__law_led, Ki.d, eqD_int, q_PP, q_PF, q_PA, q_PN, q_FP, q_FF, q_FA, q_FN, q_AP, q_AF, q_AA, q_AN, q_NP, q_NF, q_NA, q_NN, pf_A, pf_N, pf_P, pf_F, slcD, bndD, binD, catL, PySem.sizeLine, e1, e2, hv, w2, w4, w5, w6, idx0_d, eqP_tag, g1]
              · by_cases w5 : w < 5
                · simp [b__law_led, Ki.d, eqD_int, q_PP, q_PF, q_PA, q_PN, q_FP, q_FF, q_FA, q_FN, q_AP, q_AF, q_AA, q_AN, q_NP, q_NF, q_NA, q_NN, pf_A, pf_N, pf_P, pf_F, slcD, bndD, binD, catL, PySem.sizeLine, e1, e2, hv, w2, w4, w5, w6, idx0_d, eqP_tag]
                · simp [b__law_led, Ki.d, eqD_int, q_PP, q_PF, q_PA, q_PN, q_FP, q_FF, q_FA, q_FN, q_AP, q_AF, q_AA, q_AN, q_NP, q_NF, q_NA, q_NN, pf_A, pf_N, pf_P, pf_F, slcD, bndD, binD, catL, PySem.sizeLine, e1, e2, hv, w2, w4, w5, w6, idx0_d, eqP_tag]
            · refine fin (.frm a b) ?_ (LkP.refl _)
              rw [call_eq (d := ⟨2, 4, b__law_led⟩) rfl rfl]
              have g3 : (if w < 6 then b.isP else false) = false := by
                split
                · cases h : b.isP
                  · rfl
                  · exact absurd ⟨by assumption, h⟩ c3
                · rfl
              by_cases w4 : w < 4
              · have w5 : w < 5 := by omega
                have w6 : w < 6 := by omega
                rw [if_pos w4] at g1
                rw [if_pos w5] at g2
                rw [if_pos w6] at g3
                simp [b__law_led, Ki.d, eqD_int, q_PP, q_PF, q_PA, q_PN, q_FP, q_FF, q_FA, q_FN, q_AP, q_AF, q_AA, q_AN, q_NP, q_NF, q_NA, q_NN, pf_A, pf_N, pf_P, pf_F, slcD, bndD, binD, catL, PySem.sizeLine, e1, e2, hv, w2, w4, w5, w6, idx0_d, eqP_tag, eqF_tag, g1, g2, g3]
              · by_cases w5 : w < 5
                · have w6 : w < 6 := by omega
                  rw [if_pos w5] at g2
                  rw [if_pos w6] at g3
                  simp [b__law_led, Ki.d, eqD_int, q_PP, q_PF, q_PA, q_PN, q_FP, q_FF, q_FA, q_FN, q_AP, q_AF, q_AA, q_AN, q_NP, q_NF, q_NA, q_NN, pf_A, pf_N, pf_P, pf_F, slcD, bndD, binD, catL, PySem.sizeLine, e1, e2, hv, w2, w4, w5, w6, idx0_d, eqP_tag, eqF_tag, g2, g3]
                · by_cases w6 : w < 6
                  · rw [if_pos w6] at g3
                    simp [b__law_led, Ki.d, eqD_int, q_PP, q_PF, q_PA, q_PN, q_FP, q_FF, q_FA, q_FN, q_AP, q_AF, q_AA, q_AN, q_NP, q_NF, q_NA, q_NN, pf_A, pf_N, pf_P, pf_F, slcD, bndD, binD, catL, PySem.sizeLine, e1, e2, hv, w2, w4, w5, w6, idx0_d, eqP_tag, eqF_tag, g3]
                  · simp [b__law_led, Ki.d, eqD_int, q_PP, q_PF, q_PA, q_PN, q_FP, q_FF, q_FA, q_FN, q_AP, q_AF, q_AA, q_AN, q_NP, q_NF, q_NA, q_NN, pf_A, pf_N, pf_P, pf_F, slcD, bndD, binD, catL, PySem.sizeLine, e1, e2, hv, w2, w4, w5, w6, idx0_d, eqP_tag, eqF_tag]
theorem Ki.d_tup (κ : Ki) : ∃ xs, κ.d = .tup xs := by cases κ <;> exact ⟨_, rfl⟩
theorem like_turn (n k : Nat) : ∀ (xs : List D) (κ1 : Ki) (x y : Sl) (s1 : St), κ1.dep ≤ 5 → κ1.abc → Pot s1 n →
      ∃ (κ' : Ki) (st' : St) (x' y' : Sl), forLoop (forF (callN pg (k + 9)) pg.gl (.nm 3) p0__law_like) [] xs [.va (.ref n), .va κ1.d, .va (.int 3), x, y] s1 = .nx [.va (.ref n), .va κ'.d, .va (.int 3), x', y'] st' ∧ κ'.abc ∧ Lk κ1 κ' ∧ κ'.dep ≤ 5 ∧ (κ'.wid ≤ κ1.wid ∨ κ'.wid ≤ 10) ∧ Dr n s1 st' := by
  intro xs
  induction xs with
  | nil => intro κ1 x y s1 h1 h2 h3; exact ⟨κ1, s1, x, y, for_nil rfl, h2, Lk.refl _, h1, .inl (Nat.le_refl _), Dr.refl h3⟩
  | cons d xs ih =>
    intro κ1 x y s1 h1 h2 h3
    obtain ⟨κ2, s2, e2, l2, d2⟩ := e_led n κ1 (k + 9) s1 (by omega) h3
    have hd2 := l2.dep
    have ew := e_width s2 κ2 (k + 9) (by omega)
    have ed := e_depth s2 κ2 (k + 9) (by omega)
    by_cases c : κ2.wid ≤ 10 ∧ κ2.dep ≤ 5
    · obtain ⟨κ', st', x', y', e', a', l', dd', w', r'⟩ := ih κ2 (.va d) (.va κ2.d) s2 c.2 (l2.abc h2) (d2.pot h3)
      refine ⟨κ', st', x', y', (for_nx rfl ?_).trans e', a', l2.lk.trans l', dd', .inr (by omega), d2.trans r'⟩
      have c1 : (κ2.wid : Int) ≤ 10 := by omega
      have c2 : (κ2.dep : Int) ≤ 5 := by omega
      simp [forF, p0__law_like, asgTg, e2, ew, ed, c1, c2]
    · obtain ⟨κ', st', x', y', e', a', l', dd', w', r'⟩ := ih κ1 (.va d) (.va κ2.d) s2 h1 h2 (d2.pot h3)
      refine ⟨κ', st', x', y', (for_nx rfl ?_).trans e', a', l', dd', w', d2.trans r'⟩
      by_cases c1 : (κ2.wid : Int) ≤ 10
      · have c2 : ¬ (κ2.dep : Int) ≤ 5 := by omega
        simp [forF, p0__law_like, asgTg, e2, ew, ed, c1, c2]
      · simp [forF, p0__law_like, asgTg, e2, ew, ed, c1]
theorem e_like (n : Nat) (κ : Ki) (k : Nat) (st : St) (hd : κ.dep ≤ 5) (p : Pot st n) (ha : κ.abc) :
    ∃ (κ' : Ki) (st' : St), callN pg (k + 10) 29 [.ref n, κ.d, .int 3] st = .ok κ'.d st' ∧ κ'.abc ∧ Lk κ κ' ∧ κ'.dep ≤ 5 ∧ (κ'.wid ≤ κ.wid ∨ κ'.wid ≤ 10) ∧ Dr n st st' := by
  rw [call_eq (d := ⟨3, 5, b__law_like⟩) rfl rfl]
  obtain ⟨κ', st', x', y', e', a', l', dd', w', r'⟩ := like_turn n k (rangeL 0 3) κ .no .no st hd ha p
  refine ⟨κ', st', ?_, a', l', dd', w', r'⟩
  simp [b__law_like, rg1R, okRange, e']
end K79

set_option Elab.async false
set_option linter.all false
set_option maxRecDepth 100000
namespace K79
open Ev
open PySem (sizeLine PyData)
/-! any value as a web -/
theorem noRef_ok {v : D} (h : okD v = true) : noRef v = true := by cases v <;> first | rfl | simp [okD] at h
theorem ok_mem {xs : List D} (h : okDs xs = true) {x : D} (hx : x ∈ xs) : okD x = true := okDs_iff.mp h x hx
def sgnOk : D → Bool
  | .str [c] => decide (97 ≤ c) && decide (c ≤ 122)
  | _ => false
def isName : D → Bool
  | .str x => decide (1 ≤ x.length) && decide (x.length ≤ 8) && (x.map fun c => D.str [c]).all sgnOk
  | _ => false
theorem lt_one (c d : Nat) : (decide ([c] < [d])) = decide (c < d) := by
  rw [Bool.eq_iff_iff]; simp [List.cons_lt_cons_iff]
theorem lettersB (c : Nat) : decide (c ∈ ([97, 98, 99, 100, 101, 102, 103, 104, 105, 106, 107, 108, 109, 110, 111, 112, 113, 114, 115, 116, 117, 118, 119, 120, 121, 122] : List Nat)) = (decide (97 ≤ c) && decide (c ≤ 122)) := by
  rw [Bool.eq_iff_iff]
  simp
  omega
theorem sl_len {x : List Nat} (h : x.length ≤ sizeLine) : (x.map fun c => D.str [c]).length ≤ sizeLine := by simpa using h
theorem e_is_name (k : Nat) (v : D) (st : St) (h : okD v = true) (hl : ln v ≤ sizeLine) : callN pg (k + 1) 5 [v] st = .ok (.bl (isName v)) st := by
  rw [call_eq (d := ⟨1, 2, b_is_name⟩) rfl rfl]
  cases v with
  | str x =>
    have hx : x.length ≤ sizeLine := by simp only [ln] at hl; omega
    have lc := lc_map (gs := []) (env := [.va (.str x), .no]) (f := lcF (callN pg k) pg.gl [.va (.str x), .no] p0_is_name (.nm 1) (.cst (.bl true)) [1]) (st := st) (fun d => .bl (sgnOk d)) (xs := x.map fun c => D.str [c]) rfl (by
      intro d hd
      obtain ⟨c, _, rfl⟩ := List.mem_map.mp hd
      simp [lcF, asgTg, wipeE, p0_is_name, isinD, sgnOk]
      rw [Bool.eq_iff_iff]; simp; omega)
    have lc2 := lcL_ok (cf := callN pg k) (gl := pg.gl) (env := [.va (.str x), .no]) (st := st) (sl_len hx) lc
    simp [b_is_name, tyIs, isName, Function.comp_def]
    by_cases h1 : (1 : Int) ≤ x.length
    · have h1' : 1 ≤ x.length := by omega
      by_cases h2 : (x.length : Int) ≤ 8
      · have h2' : x.length ≤ 8 := by omega
        have am := all_map sgnOk (x.map fun c => D.str [c])
        simp only [List.map_map, Function.comp_def] at am lc2
        simp [h1, h2, h1', h2', lc2, am, Function.comp_def]

      · have h2' : ¬ x.length ≤ 8 := by omega
        simp [h1, h2, h2']
    · have h1' : ¬ 1 ≤ x.length := by omega
      have h3 : x.length = 0 := by omega
      simp [h1, h3]
  | _ => first | (simp [okD] at h; done) | simp [b_is_name, tyIs, isName]
def ltP : D → Bool
  | .tup [.int i, .int j] => decide (i < j)
  | .tup [.str i, .str j] => decide (i < j)
  | _ => false
def prs (xs : List D) : List D := List.zipWith (fun u v => D.tup [u, v]) xs (cutL xs (some 1) none)
theorem fold_prs (xs : List D) : List.zipWith (fun u v => D.tup [u, v]) xs (cutL xs (some 1) none) = prs xs := rfl
def isRis (xs : List D) : Bool := (prs xs).all ltP
/-- all strings or all integers -/
def Homo (xs : List D) : Prop := (∀ x ∈ xs, ∃ s, x = .str s) ∨ ∀ x ∈ xs, ∃ i, x = .int i
theorem cut_sub {xs : List D} {l h : Option Int} {x : D} (q : x ∈ cutL xs l h) : x ∈ xs := List.mem_of_mem_drop (List.mem_of_mem_take q)
theorem prs_mem {xs : List D} {d : D} (h : d ∈ prs xs) : ∃ u v, u ∈ xs ∧ v ∈ xs ∧ d = .tup [u, v] := by
  unfold prs at h
  rw [← List.map_uncurry_zip_eq_zipWith] at h
  obtain ⟨⟨u, v⟩, h1, rfl⟩ := List.mem_map.mp h
  exact ⟨u, v, (List.of_mem_zip h1).1, cut_sub (List.of_mem_zip h1).2, rfl⟩
theorem prs_len (xs : List D) : (prs xs).length ≤ xs.length := by
  unfold prs
  rw [List.length_zipWith]
  omega
/-- what a comparing comprehension tells -/
theorem cmp_lc {cf : Cf} {gl : Nat → Option D} {env : Env} {st : St} {i j : Nat} {xs : List D} (hh : Homo xs) (hij : j ≠ i) (hi : i < env.length) (hj : j < env.length) (hl : xs.length ≤ sizeLine) :
    lcL cf gl env st (.cmp .lt (.var i) (.var j)) (.tp [.nm i, .nm j]) (.cst (.bl true)) [i, j] (prs xs, []) = .ok (.lst ((prs xs).map fun d => .bl (ltP d))) st := by
  refine lcL_ok (gs := []) (Nat.le_trans (prs_len xs) hl) (lc_map _ rfl fun d hd => ?_)
  obtain ⟨u, v, hu, hv, rfl⟩ := prs_mem hd
  have hw : ∀ vs : List Nat, (wipeE env vs).length = env.length := fun vs => by
    induction vs with
    | nil => rfl
    | cons v vs ih => simp [wipeE, ih]
  rcases hh with hh | hh
  · obtain ⟨s, rfl⟩ := hh u hu
    obtain ⟨t, rfl⟩ := hh v hv
    simp [lcF, asgTg, asgTgs, wipeE, hi, hj, List.getElem?_set, hij, ltP]
  · obtain ⟨s, rfl⟩ := hh u hu
    obtain ⟨t, rfl⟩ := hh v hv
    simp [lcF, asgTg, asgTgs, wipeE, hi, hj, List.getElem?_set, hij, ltP]
theorem e_is_rising (k : Nat) (xs : List D) (st : St) (hh : Homo xs) (hl : xs.length ≤ sizeLine) : callN pg (k + 1) 4 [.tup xs] st = .ok (.bl (isRis xs)) st := by
  rw [call_eq (d := ⟨1, 3, b_is_rising⟩) rfl rfl]
  have h := cmp_lc (cf := callN pg k) (gl := pg.gl) (env := [.va (.tup xs), .no, .no]) (st := st) (i := 1) (j := 2) hh (by decide) (by simp) (by simp) hl
  have am := all_map ltP (prs xs)
  simp [b_is_rising, slcD, bndD, p0_is_rising, fold_prs, h, am, isRis]
def belowD (v : D) (many : Nat) : Bool := match v with
  | .int i => decide (0 ≤ i) && decide (i < many)
  | _ => false
def gtD (v : D) (at_ : Nat) : Bool := match v with
  | .int i => decide ((at_ : Int) < i)
  | _ => false
def lateOk (n i : Nat) (l : D) : Bool := belowD l n && gtD l i
def isWorld (v : D) (i n : Nat) : Bool := match v with
  | .tup [.tup ns, .tup ls] => ns.all isName && isRis ns && (ls.all (lateOk n i) && isRis ls)
  | _ => false
theorem homo_names {ns : List D} (h : ns.all isName = true) : Homo ns := .inl fun x hx => by
  have := List.all_eq_true.mp h x hx
  cases x <;> first | exact ⟨_, rfl⟩ | simp [isName] at this
theorem homo_lates {ls : List D} {n i : Nat} (h : ls.all (lateOk n i) = true) : Homo ls := .inr fun x hx => by
  have := List.all_eq_true.mp h x hx
  cases x <;> first | exact ⟨_, rfl⟩ | simp [lateOk, belowD] at this
theorem len_ln_t (xs : List D) : 2 * xs.length + 3 ≤ ln (.tup xs) := by
  have := lns_len xs
  simp only [ln]; omega
theorem two_cases (xs : List D) : (∃ a b, xs = [a, b]) ∨ (xs.length ≠ 2 ∧ ∀ a b, xs ≠ [a, b]) := by
  match xs with
  | [] => exact .inr ⟨by simp, by simp⟩
  | [a] => exact .inr ⟨by simp, by simp⟩
  | [a, b] => exact .inl ⟨a, b, rfl⟩
  | a :: b :: c :: r => exact .inr ⟨by simp, by simp⟩
theorem e_is_world (k : Nat) (v : D) (i n : Nat) (st : St) (h : okD v = true) (hl : ln v ≤ sizeLine) : callN pg (k + 5) 11 [v, .int i, .int n] st = .ok (.bl (isWorld v i n)) st := by
  rw [call_eq (d := ⟨3, 5, b_is_world⟩) rfl rfl]
  have er := e_is_row (k + 3) v 2 st (noRef_ok h)
  cases v with
  | tup xs =>
    rcases two_cases xs with ⟨a, b, rfl⟩ | ⟨h2, h3⟩
    · have ha : okD a = true := ok_mem (by simpa only [okD] using h) (by simp)
      have hb : okD b = true := ok_mem (by simpa only [okD] using h) (by simp)
      have hla : ln a ≤ sizeLine := by simp only [ln, lns] at hl; omega
      have hlb : ln b ≤ sizeLine := by simp only [ln, lns] at hl; omega
      simp [isRow] at er
      cases a with
      | tup ns =>
        cases b with
        | tup ls =>
          have lns_ : ns.length ≤ sizeLine := by have := len_ln_t ns; omega
          have lls_ : ls.length ≤ sizeLine := by have := len_ln_t ls; omega
          have hns : okDs ns = true := by simpa only [okD] using ha
          have hls : okDs ls = true := by simpa only [okD] using hb
          have lc1 := lcL_ok (cf := callN pg (k + 4)) (gl := pg.gl) (env := [.va (.tup [.tup ns, .tup ls]), .va (.int i), .va (.int n), .no, .no]) (st := st) lns_
            (lc_map (gs := []) (env := [.va (.tup [.tup ns, .tup ls]), .va (.int i), .va (.int n), .no, .no]) (f := lcF (callN pg (k + 4)) pg.gl [.va (.tup [.tup ns, .tup ls]), .va (.int i), .va (.int n), .no, .no] p1_is_world (.nm 4) (.cst (.bl true)) [4]) (st := st) (fun d => .bl (isName d)) (xs := ns) rfl (by
              intro d hd
              have := e_is_name (k + 3) d st (ok_mem hns hd) (by have := ln_mem hd; simp only [ln] at hla; omega)
              simp [lcF, asgTg, wipeE, p1_is_world, this]))
          have lc2 := lcL_ok (cf := callN pg (k + 4)) (gl := pg.gl) (env := [.va (.tup [.tup ns, .tup ls]), .va (.int i), .va (.int n), .no, .no]) (st := st) lls_
            (lc_map (gs := []) (env := [.va (.tup [.tup ns, .tup ls]), .va (.int i), .va (.int n), .no, .no]) (f := lcF (callN pg (k + 4)) pg.gl [.va (.tup [.tup ns, .tup ls]), .va (.int i), .va (.int n), .no, .no] p0_is_world (.nm 3) (.cst (.bl true)) [3]) (st := st) (fun d => .bl (lateOk n i d)) (xs := ls) rfl (by
              intro d hd
              have := e_is_below (k + 1) d n st (noRef_ok (ok_mem hls hd))
              obtain ⟨b, hb⟩ : ∃ b, isBelow d n = b := ⟨_, rfl⟩
              rw [hb] at this
              have hb2 : belowD d n = b := by rw [← hb]; cases d <;> rfl
              cases b with
              | false => simp [lcF, asgTg, wipeE, p0_is_world, this, lateOk, hb2]
              | true =>
                cases d <;> simp [belowD] at hb2
                simp [lcF, asgTg, wipeE, p0_is_world, this, lateOk, belowD, gtD, hb2]))
          have am1 := all_map isName ns
          have am2 := all_map (lateOk n i) ls
          have en := e_is_rising (k + 3) ns st
          have el := e_is_rising (k + 3) ls st
          obtain ⟨b1, q1⟩ : ∃ b, ns.all isName = b := ⟨_, rfl⟩
          obtain ⟨b2, q2⟩ : ∃ b, isRis ns = b := ⟨_, rfl⟩
          obtain ⟨b3, q3⟩ : ∃ b, ls.all (lateOk n i) = b := ⟨_, rfl⟩
          obtain ⟨b4, q4⟩ : ∃ b, isRis ls = b := ⟨_, rfl⟩
          have due : isWorld (.tup [.tup ns, .tup ls]) i n = (b1 && b2 && (b3 && b4)) := by simp only [isWorld, q1, q2, q3, q4]
          rw [due]
          rw [q1] at am1
          rw [q3] at am2
          rw [q2] at en
          rw [q4] at el
          cases b1 with
          | false => simp [b_is_world, er, lc1, am1, tyIs]
          | true =>
            have en := en (homo_names q1) lns_
            cases b2 with
            | false => simp [b_is_world, er, lc1, am1, tyIs, en]
            | true =>
              cases b3 with
              | false => simp [b_is_world, er, lc1, am1, tyIs, en, lc2, am2]
              | true =>
                have el := el (homo_lates q3) lls_
                simp [b_is_world, er, lc1, am1, tyIs, en, lc2, am2, el]
        | _ => first | (simp [okD] at hb; done) | simp [b_is_world, er, tyIs, isWorld]
      | _ => first | (simp [okD] at ha; done) | simp [b_is_world, er, tyIs, isWorld]
    · have : isWorld (.tup xs) i n = false := by
        unfold isWorld
        split
        · rename_i q; cases q; exact absurd rfl (h3 _ _)
        · rfl
      simp [isRow] at er
      have h4 : ¬ (xs.length : Int) = 2 := by omega
      simp [b_is_world, er, h4, this]
  | _ => first | (simp [okD] at h; done) | (simp [isRow] at er; simp [b_is_world, er, isWorld])
end K79

set_option Elab.async false
set_option linter.all false
set_option maxRecDepth 100000
namespace K79
open Ev
open PySem (sizeLine PyData)
def inB (a : D) (xs : List D) : Bool := xs.any fun z => PyData.eqv z.py a.py
theorem isin_t {a : D} {xs : List D} (h : okD a = true) (hd : dp a ≤ 64) (hx : okDs xs = true) : isinD a (.tup xs) = some (inB a xs) := by
  simp only [isinD, inD, okShaped h hd, (okPs xs hx).lay, Bool.and_self, if_true]; rfl
theorem dp_name {x : D} (h : isName x = true) : dp x = 0 := by cases x <;> first | rfl | simp [isName] at h
theorem dp_late {x : D} {n i : Nat} (h : lateOk n i x = true) : dp x = 0 := by cases x <;> first | rfl | simp [lateOk, belowD] at h
theorem isWorld_form {v : D} {i n : Nat} (h : isWorld v i n = true) : ∃ ns ls, v = .tup [.tup ns, .tup ls] ∧ ns.all isName = true ∧ isRis ns = true ∧ ls.all (lateOk n i) = true ∧ isRis ls = true := by
  unfold isWorld at h
  split at h
  · simp only [Bool.and_eq_true] at h
    exact ⟨_, _, rfl, h.1.1, h.1.2, h.2.1, h.2.2⟩
  · cases h
theorem late_nat {l : D} {n i : Nat} (h : lateOk n i l = true) : ∃ j : Nat, l = .int j ∧ i < j ∧ j < n := by
  cases l <;> simp [lateOk, belowD, gtD] at h
  rename_i q
  exact ⟨q.toNat, by congr 1; omega, by omega, by omega⟩
/-- the names and the later worlds of a world by value -/
def nsOf : D → List D
  | .tup [.tup ns, _] => ns
  | _ => []
def lsOf : D → List D
  | .tup [_, .tup ls] => ls
  | _ => []
def atW (ws : List D) (j : Nat) : D := ws.getD j .non
def keptL (ws ns ls : List D) (l : D) : Bool := match l with
  | .int i => ns.all (fun a => inB a (nsOf (atW ws i.toNat))) && (lsOf (atW ws i.toNat)).all (fun o => inB o ls)
  | _ => false
def keptW (ws : List D) (w : D) : Bool := (lsOf w).all (keptL ws (nsOf w) (lsOf w))
def Worlds (ws : List D) : Prop := ∀ j, j < ws.length → isWorld (atW ws j) j ws.length = true
theorem getD_at {ws : List D} {j : Nat} (h : j < ws.length) : ws[j]? = some (atW ws j) := by
  unfold atW; rw [List.getD_eq_getElem?_getD, List.getElem?_eq_getElem h]; rfl
theorem getD_mem {ws : List D} {j : Nat} (h : j < ws.length) : atW ws j ∈ ws := List.mem_of_getElem? (getD_at h)
theorem okw {ws : List D} (ho : okDs ws = true) (hl : lns ws ≤ sizeLine) {j : Nat} (h : j < ws.length) {ns ls : List D} (e : atW ws j = .tup [.tup ns, .tup ls]) : okDs ns = true ∧ okDs ls = true ∧ ns.length ≤ sizeLine ∧ ls.length ≤ sizeLine := by
  have h1 := ok_mem ho (getD_mem h)
  have h2 := ln_mem (getD_mem h)
  rw [e] at h1 h2
  simp only [okD, okDs, Bool.and_eq_true, and_true] at h1
  simp only [ln, lns] at h2
  have := lns_len ns
  have := lns_len ls
  exact ⟨h1.1, h1.2, by omega, by omega⟩
theorem e_is_kept (k : Nat) (ws : List D) (i : Nat) (st : St) (hi : i < ws.length) (ho : okDs ws = true) (hl : lns ws ≤ sizeLine) (hw : Worlds ws) : callN pg (k + 1) 12 [.tup ws, .int i] st = .ok (.bl (keptW ws (atW ws i))) st := by
  rw [call_eq (d := ⟨2, 7, b_is_kept⟩) rfl rfl]
  obtain ⟨ns, ls, e, h1, h2, h3, h4⟩ := isWorld_form (hw i hi)
  obtain ⟨ons, ols, lns1, lls1⟩ := okw ho hl hi e
  have body := for_chk (f := forF (callN pg k) pg.gl (.nm 2) p2_is_kept) (gs := []) (fun env => ∃ x2, env = [.va (.tup ws), .va (.int i), x2, .va (.tup ns), .va (.tup ls), .no, .no]) (keptL ws ns ls) (.bl false) (xs := ls)
    (env := [.va (.tup ws), .va (.int i), .no, .va (.tup ns), .va (.tup ls), .no, .no]) (st := st) (fun _ _ => rfl) (by
      rintro l hm env ⟨x2, rfl⟩
      obtain ⟨j, rfl, j1, j2⟩ := late_nat (List.all_eq_true.mp h3 l hm)
      obtain ⟨ns', ls', e', h1', h2', h3', h4'⟩ := isWorld_form (hw j j2)
      obtain ⟨ons', ols', lns1', lls1'⟩ := okw ho hl j2 e'
      have ix : L2.atI ws (j : Int) = some (.tup [.tup ns', .tup ls']) := by rw [atI_nat, getD_at j2, e']
      have lc1 := lcL_ok (cf := callN pg k) (gl := pg.gl) (env := [.va (.tup ws), .va (.int i), .va (.int j), .va (.tup ns), .va (.tup ls), .no, .no]) (st := st) lns1
        (lc_map (gs := []) (env := [.va (.tup ws), .va (.int i), .va (.int j), .va (.tup ns), .va (.tup ls), .no, .no]) (f := lcF (callN pg k) pg.gl [.va (.tup ws), .va (.int i), .va (.int j), .va (.tup ns), .va (.tup ls), .no, .no] p1_is_kept (.nm 5) (.cst (.bl true)) [5]) (st := st) (fun d => .bl (inB d ns')) (xs := ns) rfl (by
          intro d hd
          have o := ok_mem ons hd
          have := isin_t o (by rw [dp_name (List.all_eq_true.mp h1 d hd)]; omega) ons'
          simp [lcF, asgTg, wipeE, p1_is_kept, ix, vw_ok o, this]))
      have lc2 := lcL_ok (cf := callN pg k) (gl := pg.gl) (env := [.va (.tup ws), .va (.int i), .va (.int j), .va (.tup ns), .va (.tup ls), .no, .no]) (st := st) lls1'
        (lc_map (gs := []) (env := [.va (.tup ws), .va (.int i), .va (.int j), .va (.tup ns), .va (.tup ls), .no, .no]) (f := lcF (callN pg k) pg.gl [.va (.tup ws), .va (.int i), .va (.int j), .va (.tup ns), .va (.tup ls), .no, .no] p0_is_kept (.nm 6) (.cst (.bl true)) [6]) (st := st) (fun d => .bl (inB d ls)) (xs := ls') rfl (by
          intro d hd
          have o := ok_mem ols' hd
          have := isin_t o (by rw [dp_late (List.all_eq_true.mp h3' d hd)]; omega) ols
          simp [lcF, asgTg, wipeE, p0_is_kept, ix, vw_ok o, this]))
      have am1 := all_map (fun d => inB d ns') ns
      have am2 := all_map (fun d => inB d ls) ls'
      obtain ⟨b1, q1⟩ : ∃ b, (ns.all fun d => inB d ns') = b := ⟨_, rfl⟩
      obtain ⟨b2, q2⟩ : ∃ b, (ls'.all fun d => inB d ls) = b := ⟨_, rfl⟩
      have due : keptL ws ns ls (.int j) = (b1 && b2) := by
        simp only [keptL, Int.toNat_natCast, e', nsOf, lsOf]
        rw [q1, q2]
      rw [q1] at am1
      rw [q2] at am2
      rw [due]
      cases b1 with
      | false => simp [forF, asgTg, p2_is_kept, lc1, am1]
      | true =>
        cases b2 with
        | false => simp [forF, asgTg, p2_is_kept, lc1, am1, ix, lc2, am2]
        | true => exact ⟨_, ⟨.va (.int j), rfl⟩, by simp [forF, asgTg, p2_is_kept, lc1, am1, ix, lc2, am2]⟩) ⟨.no, rfl⟩
  have ix : L2.atI ws (i : Int) = some (.tup [.tup ns, .tup ls]) := by rw [atI_nat, getD_at hi, e]
  have due : keptW ws (atW ws i) = ls.all (keptL ws ns ls) := by rw [e]; rfl
  rw [due]
  obtain ⟨b, q⟩ : ∃ b, ls.all (keptL ws ns ls) = b := ⟨_, rfl⟩
  rw [q] at body ⊢
  cases b with
  | false =>
    have body : forLoop _ _ _ _ _ = _ := body
    simp [b_is_kept, ix, body]
  | true =>
    obtain ⟨env', ⟨x2, rfl⟩, body⟩ := body
    simp [b_is_kept, ix, body]
/-- any value as a web -/
def worldsB (ws : List D) : Bool := (List.range ws.length).all fun i => isWorld (atW ws i) i ws.length
def isWeb (v : D) : Bool := match v with
  | .tup [.str w, .tup ws] => decide (w = cW) && (decide (1 ≤ ws.length) && decide (ws.length ≤ 200)) && (worldsB ws && ws.all (keptW ws))
  | _ => false
theorem worldsB_iff {ws : List D} : worldsB ws = true ↔ Worlds ws := by
  simp only [worldsB, List.all_eq_true, List.mem_range, Worlds]
theorem mem_rangeL {d : D} {n : Nat} : d ∈ rangeL 0 n ↔ ∃ i : Nat, i < n ∧ d = .int i := by
  simp only [rangeL, List.mem_map, List.mem_range]
  constructor
  · rintro ⟨i, h, rfl⟩; exact ⟨i, h, by simp⟩
  · rintro ⟨i, h, rfl⟩; exact ⟨i, h, by simp⟩
theorem rangeL_len (n : Nat) : (rangeL 0 n).length = n := by simp [rangeL]
def ixD : D → Nat
  | .int i => i.toNat
  | _ => 0
theorem all_rangeL (n : Nat) (p : Nat → Bool) : (rangeL 0 n).all (fun d => p (ixD d)) = (List.range n).all p := by
  rw [Bool.eq_iff_iff]
  simp only [List.all_eq_true, mem_rangeL, List.mem_range]
  constructor
  · intro h i hi
    have := h (.int i) ⟨i, hi, rfl⟩
    simpa [ixD] using this
  · rintro h d ⟨i, hi, rfl⟩
    simpa [ixD] using h i hi
theorem all_getD (ws : List D) (p : D → Bool) : ((List.range ws.length).all fun i => p (atW ws i)) = ws.all p := by
  rw [Bool.eq_iff_iff]
  simp only [List.all_eq_true, List.mem_range]
  constructor
  · intro h w hw
    obtain ⟨i, hi, rfl⟩ := List.mem_iff_getElem.mp hw
    have := h i hi
    unfold atW at this
    rwa [List.getD_eq_getElem?_getD, List.getElem?_eq_getElem hi] at this
  · intro h i hi
    exact h _ (getD_mem hi)
theorem eqD_web (x : List Nat) (h : okD (.str x) = true) : eqD (.str x) (.str cW) = some (decide (x = cW)) := eqD_strs (okP _ h).lay (by decide +kernel)
theorem rg_len (n : Nat) (st : St) (h : n ≤ 200) : rg1R (.int n) st = .ok (rangeL 0 n, []) st := by
  have : okRange (n : Int) = true := by simp [okRange]; omega
  rw [rg1R_int st this, Int.toNat_natCast]
theorem e_is_web1 (k : Nat) (ws : List D) (st : St) (hb : okD (.tup ws) = true) (hlb : ln (.tup ws) ≤ sizeLine) (er : callN pg (k + 4 + 1) 3 [.tup [.str cW, .tup ws], .int 2] st = .ok (.bl true) st) (ew : eqD (.str cW) (.str cW) = some true) : callN pg (k + 6) 13 [.tup [.str cW, .tup ws]] st = .ok (.bl (isWeb (.tup [.str cW, .tup ws]))) st := by
  rw [call_eq (d := ⟨1, 3, b_is_web_of⟩) rfl rfl]
  have how : okDs ws = true := by simpa only [okD] using hb
  have hlw : lns ws ≤ sizeLine := by simp only [ln] at hlb; omega
  have lws : ws.length ≤ sizeLine := by have := lns_len ws; omega
  have lc1 := lcL_ok (cf := callN pg (k + 5)) (gl := pg.gl) (env := [.va (.tup [.str cW, .tup ws]), .va (.int ws.length), .no]) (st := st) (xs := rangeL 0 ws.length) (by rw [rangeL_len]; exact lws)
    (lc_map (gs := []) (env := [.va (.tup [.str cW, .tup ws]), .va (.int ws.length), .no]) (f := lcF (callN pg (k + 5)) pg.gl [.va (.tup [.str cW, .tup ws]), .va (.int ws.length), .no] p1_is_web_of (.nm 2) (.cst (.bl true)) [2]) (st := st) (fun d => .bl (isWorld (atW ws (ixD d)) (ixD d) ws.length)) (xs := rangeL 0 ws.length) rfl (by
      intro d hd
      obtain ⟨i, hi, rfl⟩ := mem_rangeL.mp hd
      have ew := e_is_world k (atW ws i) i ws.length st (ok_mem how (getD_mem hi)) (by have := ln_mem (getD_mem hi); omega)
      have ix : L2.atI ws (i : Int) = some (atW ws i) := by rw [atI_nat, getD_at hi]
      simp [lcF, asgTg, wipeE, p1_is_web_of, ix, ew, ixD]))
  have am1 := all_map (fun d => isWorld (atW ws (ixD d)) (ixD d) ws.length) (rangeL 0 ws.length)
  rw [all_rangeL ws.length (fun i => isWorld (atW ws i) i ws.length)] at am1
  have fold1 : ((List.range ws.length).all fun i => isWorld (atW ws i) i ws.length) = worldsB ws := rfl
  rw [fold1] at am1
  by_cases n1 : 1 ≤ ws.length
  · by_cases n2 : ws.length ≤ 200
    · have n1' : (1 : Int) ≤ (ws.length : Int) := by omega
      have n2' : (ws.length : Int) ≤ 200 := by omega
      have rg := rg_len ws.length st n2
      obtain ⟨b1, q1⟩ : ∃ b, worldsB ws = b := ⟨_, rfl⟩
      have due : isWeb (.tup [.str cW, .tup ws]) = (b1 && ws.all (keptW ws)) := by simp [isWeb, n1, n2, q1]
      rw [due]
      rw [q1] at am1
      cases b1 with
      | false => simp [b_is_web_of, er, tyIs, ew, n1', n2', rg, lc1, am1]
      | true =>
        have hw := worldsB_iff.mp q1
        have lc2 := lcL_ok (cf := callN pg (k + 5)) (gl := pg.gl) (env := [.va (.tup [.str cW, .tup ws]), .va (.int ws.length), .no]) (st := st) (xs := rangeL 0 ws.length) (by rw [rangeL_len]; exact lws)
          (lc_map (gs := []) (env := [.va (.tup [.str cW, .tup ws]), .va (.int ws.length), .no]) (f := lcF (callN pg (k + 5)) pg.gl [.va (.tup [.str cW, .tup ws]), .va (.int ws.length), .no] p0_is_web_of (.nm 2) (.cst (.bl true)) [2]) (st := st) (fun d => .bl (keptW ws (atW ws (ixD d)))) (xs := rangeL 0 ws.length) rfl (by
            intro d hd
            obtain ⟨i, hi, rfl⟩ := mem_rangeL.mp hd
            have ek := e_is_kept (k + 4) ws i st hi how hlw hw
            simp [lcF, asgTg, wipeE, p0_is_web_of, ek, ixD]))
        have am2 := all_map (fun d => keptW ws (atW ws (ixD d))) (rangeL 0 ws.length)
        rw [all_rangeL ws.length (fun i => keptW ws (atW ws i)), all_getD ws (keptW ws)] at am2
        simp [b_is_web_of, er, tyIs, ew, n1', n2', rg, lc1, am1, lc2, am2]
    · have n1' : (1 : Int) ≤ (ws.length : Int) := by omega
      have n2' : ¬ (ws.length : Int) ≤ 200 := by omega
      simp [b_is_web_of, er, tyIs, ew, n1', n2', isWeb, n2]
  · have n1' : ¬ (1 : Int) ≤ (ws.length : Int) := by omega
    have n0 : ws.length = 0 := by omega
    simp [b_is_web_of, er, tyIs, ew, n1', isWeb, n0]
theorem e_is_web (k : Nat) (v : D) (st : St) (h : okD v = true) (hl : ln v ≤ sizeLine) : callN pg (k + 6) 13 [v] st = .ok (.bl (isWeb v)) st := by
  rw [call_eq (d := ⟨1, 3, b_is_web_of⟩) rfl rfl]
  have er := e_is_row (k + 4) v 2 st (noRef_ok h)
  cases v with
  | tup xs =>
    rcases two_cases xs with ⟨a, b, rfl⟩ | ⟨h2, h3⟩
    · have ha : okD a = true := ok_mem (by simpa only [okD] using h) (by simp)
      have hb : okD b = true := ok_mem (by simpa only [okD] using h) (by simp)
      have hlb : ln b ≤ sizeLine := by simp only [ln, lns] at hl; omega
      simp [isRow] at er
      cases a with
      | str w =>
        have ew := eqD_web w ha
        by_cases hw : w = cW
        · subst hw
          simp at ew
          cases b with
          | tup ws =>
            have := e_is_web1 k ws st hb hlb er ew
            rw [call_eq (d := ⟨1, 3, b_is_web_of⟩) rfl rfl] at this
            exact this
          | _ => first | (simp [okD] at hb; done) | simp [b_is_web_of, er, tyIs, isWeb, ew]
        · simp [hw] at ew
          have due : isWeb (.tup [.str w, b]) = false := by
            unfold isWeb
            split
            · rename_i q; cases q; simp [hw]
            · rfl
          rw [due]
          simp [b_is_web_of, er, tyIs, ew]
      | _ => first | (simp [okD] at ha; done) | simp [b_is_web_of, er, tyIs, isWeb]
    · have : isWeb (.tup xs) = false := by
        unfold isWeb
        split
        · rename_i q; cases q; exact absurd rfl (h3 _ _)
        · rfl
      simp [isRow] at er
      have h4 : ¬ (xs.length : Int) = 2 := by omega
      simp [b_is_web_of, er, h4, this]
  | _ => first | (simp [okD] at h; done) | (simp [isRow] at er; simp [b_is_web_of, er, isWeb])
end K79

set_option Elab.async false
set_option linter.all false
set_option maxRecDepth 100000
namespace K79
open Ev
open PySem (sizeLine PyData)
/-! the law's own look -/
theorem isTup_ty (d : D) : tyIs .ttup d = isTup d := by cases d <;> rfl
theorem own_name {cf : Cf} {st : St} {x0 x1 x2 x3 x4 x5 x6 x8 x9 x10 x11 : Sl} {d : D} (h : okD d = true) (hl : ln d ≤ sizeLine) :
    lcF cf pg.gl [x0, x1, x2, x3, x4, x5, x6, .no, x8, x9, x10, x11, .no] p8__law_is_web (.nm 7) (.cst (.bl true)) [7] d st = .ok (some (.bl (isName d))) st := by
  cases d with
  | str x =>
    have hx : x.length ≤ sizeLine := by simp only [ln] at hl; omega
    have lc := lcL_ok (cf := cf) (gl := pg.gl) (env := [x0, x1, x2, x3, x4, x5, x6, .va (.str x), x8, x9, x10, x11, .no]) (st := st) (sl_len hx)
      (lc_map (gs := []) (env := [x0, x1, x2, x3, x4, x5, x6, .va (.str x), x8, x9, x10, x11, .no]) (f := lcF cf pg.gl [x0, x1, x2, x3, x4, x5, x6, .va (.str x), x8, x9, x10, x11, .no] p7__law_is_web (.nm 12) (.cst (.bl true)) [12]) (st := st) (fun d => .bl (sgnOk d)) (xs := x.map fun c => D.str [c]) rfl (by
        intro d hd
        obtain ⟨c, _, rfl⟩ := List.mem_map.mp hd
        by_cases q1 : c < 97
        · have : ¬ 97 ≤ c := by omega
          simp [lcF, asgTg, wipeE, p7__law_is_web, sgnOk, List.cons_lt_cons_iff, q1, this]
        · have : 97 ≤ c := by omega
          by_cases q2 : c ≤ 122
          · have q3 : ¬ 122 < c := by omega
            simp [lcF, asgTg, wipeE, p7__law_is_web, sgnOk, List.cons_lt_cons_iff, q1, this, q2, q3]
          · have q3 : 122 < c := by omega
            simp [lcF, asgTg, wipeE, p7__law_is_web, sgnOk, List.cons_lt_cons_iff, q1, this, q2, q3]))
    have am := all_map sgnOk (x.map fun c => D.str [c])
    simp only [List.map_map, Function.comp_def] at am lc
    by_cases h1 : 0 < x.length
    · have h1' : 1 ≤ x.length := by omega
      have h1'' : 0 < (x.length : Int) := by omega
      by_cases h2 : x.length ≤ 8
      · have h2' : (x.length : Int) < 9 := by omega
        simp [lcF, asgTg, wipeE, p8__law_is_web, tyIs, isName, h1, h1'', h1', h2, h2', lc, am, Function.comp_def]
      · have h2' : ¬ (x.length : Int) < 9 := by omega
        simp [lcF, asgTg, wipeE, p8__law_is_web, tyIs, isName, h1, h1'', h1', h2, h2']
    · have h1' : x.length = 0 := by omega
      simp [lcF, asgTg, wipeE, p8__law_is_web, tyIs, isName, h1']
  | _ => first | (simp [okD] at h; done) | simp [lcF, asgTg, wipeE, p8__law_is_web, tyIs, isName]
theorem own_late {cf : Cf} {st : St} {x0 x3 x4 x5 x7 x8 x9 x10 x11 x12 : Sl} {ws : List D} {i : Nat} {d : D} (h : okD d = true) :
    lcF cf pg.gl [x0, .va (.tup ws), .va (.int i), x3, x4, x5, .no, x7, x8, x9, x10, x11, x12] p6__law_is_web (.nm 6) (.cst (.bl true)) [6] d st = .ok (some (.bl (lateOk ws.length i d))) st := by
  cases d with
  | int j =>
    by_cases q1 : (i : Int) < j
    · have : 0 ≤ j := by omega
      simp [lcF, asgTg, wipeE, p6__law_is_web, tyIs, lateOk, belowD, gtD, q1, this]
    · simp [lcF, asgTg, wipeE, p6__law_is_web, tyIs, lateOk, belowD, gtD, q1]
  | _ => first | (simp [okD] at h; done) | simp [lcF, asgTg, wipeE, p6__law_is_web, tyIs, lateOk, belowD]
def wB (ws : List D) (d : D) : Bool := match d with
  | .tup [.int i, u] => isWorld u i.toNat ws.length
  | _ => false
theorem own_world (cf : Cf) (st : St) (v : D) (ws : List D) (i : Nat) (u : D) (x2 x3 : Sl) (h : okD u = true) (hl : ln u ≤ sizeLine) :
    if isWorld u i ws.length then ∃ y2 y3, forF cf pg.gl (.tp [.nm 2, .nm 3]) p10__law_is_web (.tup [.int i, u]) [.va v, .va (.tup ws), x2, x3, .no, .no, .no, .no, .no, .no, .no, .no, .no] st = .nx [.va v, .va (.tup ws), y2, y3, .no, .no, .no, .no, .no, .no, .no, .no, .no] st
    else forF cf pg.gl (.tp [.nm 2, .nm 3]) p10__law_is_web (.tup [.int i, u]) [.va v, .va (.tup ws), x2, x3, .no, .no, .no, .no, .no, .no, .no, .no, .no] st = .rt (.bl false) st := by
  cases u with
  | tup xs =>
    rcases two_cases xs with ⟨a, b, rfl⟩ | ⟨h2, h3⟩
    · have ha : okD a = true := ok_mem (by simpa only [okD] using h) (by simp)
      have hb : okD b = true := ok_mem (by simpa only [okD] using h) (by simp)
      have hla : ln a ≤ sizeLine := by simp only [ln, lns] at hl; omega
      have hlb : ln b ≤ sizeLine := by simp only [ln, lns] at hl; omega
      obtain ⟨env, henv⟩ : ∃ env : Ev.Env, env = [.va v, .va (.tup ws), .va (.int i), .va (.tup [a, b]), .no, .no, .no, .no, .no, .no, .no, .no, .no] := ⟨_, rfl⟩
      have lc0 := lcL_ok (cf := cf) (gl := pg.gl) (env := env) (st := st) (xs := [a, b]) (by show 2 ≤ sizeLine; decide)
        (lc_map (gs := []) (env := env) (f := lcF cf pg.gl env p9__law_is_web (.nm 8) (.cst (.bl true)) [8]) (st := st) (fun d => .bl (isTup d)) (xs := [a, b]) rfl (by
          intro d hd
          have o : okD d = true := by rcases List.mem_cons.mp hd with rfl | hd
                                      · exact ha
                                      · rcases List.mem_cons.mp hd with rfl | hd
                                        · exact hb
                                        · cases hd
          subst henv
          simp [lcF, asgTg, wipeE, p9__law_is_web, vwS_ok o, isin_ok _ (noRef_ok o), isTup_ty]))
      have am0 : biD .all [.lst [.bl (isTup a), .bl (isTup b)]] = some (.bl (isTup a && isTup b)) := by simp [biD, one, lstD, bools]
      simp only [List.map_cons, List.map_nil] at lc0
      subst henv
      cases a with
      | tup ns =>
        cases b with
        | tup ls =>
          have lns_ : ns.length ≤ sizeLine := by have := len_ln_t ns; omega
          have lls_ : ls.length ≤ sizeLine := by have := len_ln_t ls; omega
          have hns : okDs ns = true := by simpa only [okD] using ha
          have hls : okDs ls = true := by simpa only [okD] using hb
          obtain ⟨env, henv⟩ : ∃ env : Ev.Env, env = [.va v, .va (.tup ws), .va (.int i), .va (.tup [.tup ns, .tup ls]), .no, .no, .no, .no, .no, .no, .no, .no, .no] := ⟨_, rfl⟩
          have lc1 := lcL_ok (cf := cf) (gl := pg.gl) (env := env) (st := st) lns_
            (lc_map (gs := []) (env := env) (f := lcF cf pg.gl env p8__law_is_web (.nm 7) (.cst (.bl true)) [7]) (st := st) (fun d => .bl (isName d)) (xs := ns) rfl (by
              intro d hd
              rw [henv]
              exact own_name (ok_mem hns hd) (by have := ln_mem hd; simp only [ln] at hla; omega)))
          have lc2 := lcL_ok (cf := cf) (gl := pg.gl) (env := env) (st := st) lls_
            (lc_map (gs := []) (env := env) (f := lcF cf pg.gl env p6__law_is_web (.nm 6) (.cst (.bl true)) [6]) (st := st) (fun d => .bl (lateOk ws.length i d)) (xs := ls) rfl (by
              intro d hd
              rw [henv]
              exact own_late (ok_mem hls hd)))
          have am1 := all_map isName ns
          have am2 := all_map (lateOk ws.length i) ls
          have am3 := all_map ltP (prs ns)
          have am4 := all_map ltP (prs ls)
          obtain ⟨b1, q1⟩ : ∃ b, ns.all isName = b := ⟨_, rfl⟩
          obtain ⟨b2, q2⟩ : ∃ b, isRis ns = b := ⟨_, rfl⟩
          obtain ⟨b3, q3⟩ : ∃ b, ls.all (lateOk ws.length i) = b := ⟨_, rfl⟩
          obtain ⟨b4, q4⟩ : ∃ b, isRis ls = b := ⟨_, rfl⟩
          have due : isWorld (.tup [.tup ns, .tup ls]) i ws.length = (b1 && b2 && (b3 && b4)) := by simp only [isWorld, q1, q2, q3, q4]
          rw [due]
          rw [q1] at am1
          rw [q3] at am2
          rw [show (prs ns).all ltP = b2 from q2] at am3
          rw [show (prs ls).all ltP = b4 from q4] at am4
          simp only [isTup, Bool.and_self] at lc0 am0
          cases b1 with
          | false => subst henv; simp [forF, asgTg, asgTgs, p10__law_is_web, tyIs, lc0, am0, lc1, am1]
          | true =>
            cases b3 with
            | false => subst henv; simp [forF, asgTg, asgTgs, p10__law_is_web, tyIs, lc0, am0, lc1, am1, lc2, am2]
            | true =>
              have cn := cmp_lc (cf := cf) (gl := pg.gl) (env := env) (st := st) (i := 9) (j := 10) (homo_names q1) (by decide) (by rw [henv]; simp) (by rw [henv]; simp) lns_
              have cl := cmp_lc (cf := cf) (gl := pg.gl) (env := env) (st := st) (i := 9) (j := 10) (homo_lates q3) (by decide) (by rw [henv]; simp) (by rw [henv]; simp) lls_
              subst henv
              cases b2 with
              | false => simp [forF, asgTg, asgTgs, p10__law_is_web, p5__law_is_web, tyIs, lc0, am0, lc1, am1, lc2, am2, slcD, bndD, fold_prs, cn, am3]
              | true =>
                cases b4 with
                | false => simp [forF, asgTg, asgTgs, p10__law_is_web, p5__law_is_web, p4__law_is_web, tyIs, lc0, am0, lc1, am1, lc2, am2, slcD, bndD, fold_prs, cn, am3, cl, am4]
                | true => simp [forF, asgTg, asgTgs, p10__law_is_web, p5__law_is_web, p4__law_is_web, tyIs, lc0, am0, lc1, am1, lc2, am2, slcD, bndD, fold_prs, cn, am3, cl, am4]
        | _ =>
          first
          | (simp [okD] at hb; done)
          | (simp only [isTup, Bool.and_false] at lc0 am0
             simp [forF, asgTg, asgTgs, p10__law_is_web, tyIs, lc0, am0, isWorld])
      | _ =>
        first
        | (simp [okD] at ha; done)
        | (simp only [isTup, Bool.false_and] at lc0 am0
           simp [forF, asgTg, asgTgs, p10__law_is_web, tyIs, lc0, am0, isWorld])
    · have : isWorld (.tup xs) i ws.length = false := by
        unfold isWorld
        split
        · rename_i q; cases q; exact absurd rfl (h3 _ _)
        · rfl
      have h4 : ¬ (xs.length : Int) = 2 := by omega
      rw [this]
      simp [forF, asgTg, asgTgs, p10__law_is_web, tyIs, h4]
  | _ => first | (simp [okD] at h; done) | simp [forF, asgTg, asgTgs, p10__law_is_web, tyIs, isWorld]
theorem own_kept (cf : Cf) (st : St) (v : D) (ws : List D) (i : Nat) (x2 x3 x4 x5 x6 : Sl) (hi : i < ws.length) (ho : okDs ws = true) (hl : lns ws ≤ sizeLine) (hw : Worlds ws) :
    if keptW ws (atW ws i) then ∃ y2 y3 y4 y5 y6, forF cf pg.gl (.tp [.nm 4, .nm 5]) p3__law_is_web (atW ws i) [.va v, .va (.tup ws), x2, x3, x4, x5, x6, .no, .no, .no, .no, .no, .no] st = .nx [.va v, .va (.tup ws), y2, y3, y4, y5, y6, .no, .no, .no, .no, .no, .no] st
    else forF cf pg.gl (.tp [.nm 4, .nm 5]) p3__law_is_web (atW ws i) [.va v, .va (.tup ws), x2, x3, x4, x5, x6, .no, .no, .no, .no, .no, .no] st = .rt (.bl false) st := by
  obtain ⟨ns, ls, e, h1, h2, h3, h4⟩ := isWorld_form (hw i hi)
  obtain ⟨ons, ols, lns1, lls1⟩ := okw ho hl hi e
  have body := for_chk (f := forF cf pg.gl (.nm 6) p2__law_is_web) (gs := []) (fun env => ∃ x6, env = [.va v, .va (.tup ws), x2, x3, .va (.tup ns), .va (.tup ls), x6, .no, .no, .no, .no, .no, .no]) (keptL ws ns ls) (.bl false) (xs := ls)
    (env := [.va v, .va (.tup ws), x2, x3, .va (.tup ns), .va (.tup ls), x6, .no, .no, .no, .no, .no, .no]) (st := st) (fun _ _ => rfl) (by
      rintro l hm env ⟨x6, rfl⟩
      obtain ⟨j, rfl, j1, j2⟩ := late_nat (List.all_eq_true.mp h3 l hm)
      obtain ⟨ns', ls', e', h1', h2', h3', h4'⟩ := isWorld_form (hw j j2)
      obtain ⟨ons', ols', lns1', lls1'⟩ := okw ho hl j2 e'
      have ix : L2.atI ws (j : Int) = some (.tup [.tup ns', .tup ls']) := by rw [atI_nat, getD_at j2, e']
      obtain ⟨env, henv⟩ : ∃ env : Ev.Env, env = [.va v, .va (.tup ws), x2, x3, .va (.tup ns), .va (.tup ls), .va (.int j), .no, .no, .no, .no, .no, .no] := ⟨_, rfl⟩
      have lc1 := lcL_ok (cf := cf) (gl := pg.gl) (env := env) (st := st) lns1
        (lc_map (gs := []) (env := env) (f := lcF cf pg.gl env p1__law_is_web (.nm 7) (.cst (.bl true)) [7]) (st := st) (fun d => .bl (inB d ns')) (xs := ns) rfl (by
          intro d hd
          have o := ok_mem ons hd
          have := isin_t o (by rw [dp_name (List.all_eq_true.mp h1 d hd)]; omega) ons'
          subst henv
          simp [lcF, asgTg, wipeE, p1__law_is_web, ix, vw_ok o, this]))
      have lc2 := lcL_ok (cf := cf) (gl := pg.gl) (env := env) (st := st) lls1'
        (lc_map (gs := []) (env := env) (f := lcF cf pg.gl env p0__law_is_web (.nm 11) (.cst (.bl true)) [11]) (st := st) (fun d => .bl (inB d ls)) (xs := ls') rfl (by
          intro d hd
          have o := ok_mem ols' hd
          have := isin_t o (by rw [dp_late (List.all_eq_true.mp h3' d hd)]; omega) ols
          subst henv
          simp [lcF, asgTg, wipeE, p0__law_is_web, ix, vw_ok o, this]))
      have am1 := all_map (fun d => inB d ns') ns
      have am2 := all_map (fun d => inB d ls) ls'
      obtain ⟨b1, q1⟩ : ∃ b, (ns.all fun d => inB d ns') = b := ⟨_, rfl⟩
      obtain ⟨b2, q2⟩ : ∃ b, (ls'.all fun d => inB d ls) = b := ⟨_, rfl⟩
      have due : keptL ws ns ls (.int j) = (b1 && b2) := by
        simp only [keptL, Int.toNat_natCast, e', nsOf, lsOf]
        rw [q1, q2]
      rw [q1] at am1
      rw [q2] at am2
      rw [due]
      subst henv
      cases b1 with
      | false => simp [forF, asgTg, p2__law_is_web, lc1, am1]
      | true =>
        cases b2 with
        | false => simp [forF, asgTg, p2__law_is_web, lc1, am1, ix, lc2, am2]
        | true => exact ⟨_, ⟨.va (.int j), rfl⟩, by simp [forF, asgTg, p2__law_is_web, lc1, am1, ix, lc2, am2]⟩) ⟨x6, rfl⟩
  have due : keptW ws (atW ws i) = ls.all (keptL ws ns ls) := by rw [e]; rfl
  rw [due, e]
  obtain ⟨b, q⟩ : ∃ b, ls.all (keptL ws ns ls) = b := ⟨_, rfl⟩
  rw [q] at body ⊢
  cases b with
  | false =>
    have body : forLoop _ _ _ _ _ = _ := body
    simp [forF, asgTg, asgTgs, p3__law_is_web, body]
  | true =>
    obtain ⟨env', ⟨x6', rfl⟩, body⟩ := body
    simp [forF, asgTg, asgTgs, p3__law_is_web, body]
theorem all_enum (ws : List D) : (ws.mapIdx fun i u => D.tup [.int i, u]).all (wB ws) = worldsB ws := by
  rw [Bool.eq_iff_iff]
  simp only [worldsB, List.all_eq_true, List.mem_range, List.mem_mapIdx]
  constructor
  · intro h i hi
    have := h _ ⟨i, hi, rfl⟩
    simp only [wB, Int.toNat_natCast] at this
    have e : atW ws i = ws[i] := by
      have := getD_at hi
      rw [List.getElem?_eq_getElem hi] at this
      exact (Option.some.inj this).symm
    rw [e]; exact this
  · rintro h d ⟨i, hi, rfl⟩
    have := h i hi
    have e : atW ws i = ws[i] := by
      have := getD_at hi
      rw [List.getElem?_eq_getElem hi] at this
      exact (Option.some.inj this).symm
    rw [e] at this
    simpa only [wB, Int.toNat_natCast] using this
theorem e_law_is_web1 (k : Nat) (ws : List D) (st : St) (hb : okD (.tup ws) = true) (hlb : ln (.tup ws) ≤ sizeLine) (ew : eqD (.str cW) (.str cW) = some true) : callN pg (k + 1) 30 [.tup [.str cW, .tup ws]] st = .ok (.bl (isWeb (.tup [.str cW, .tup ws]))) st := by
  rw [call_eq (d := ⟨1, 13, b__law_is_web⟩) rfl rfl]
  have how : okDs ws = true := by simpa only [okD] using hb
  have hlw : lns ws ≤ sizeLine := by simp only [ln] at hlb; omega
  obtain ⟨v, hv⟩ : ∃ v : D, v = .tup [.str cW, .tup ws] := ⟨_, rfl⟩
  have l1 := for_chk (f := forF (callN pg k) pg.gl (.tp [.nm 2, .nm 3]) p10__law_is_web) (gs := []) (fun env => ∃ x2 x3, env = [.va v, .va (.tup ws), x2, x3, .no, .no, .no, .no, .no, .no, .no, .no, .no]) (wB ws) (.bl false) (xs := ws.mapIdx fun i u => D.tup [.int i, u])
    (env := [.va v, .va (.tup ws), .no, .no, .no, .no, .no, .no, .no, .no, .no, .no, .no]) (st := st) (fun _ _ => rfl) (by
      rintro d hm env ⟨x2, x3, rfl⟩
      obtain ⟨i, hi, rfl⟩ := List.mem_mapIdx.mp hm
      have := own_world (callN pg k) st v ws i ws[i] x2 x3 (ok_mem how (List.getElem_mem hi)) (by have := ln_mem (List.getElem_mem hi : ws[i] ∈ ws); omega)
      obtain ⟨b, q⟩ : ∃ b, isWorld ws[i] i ws.length = b := ⟨_, rfl⟩
      have q2 : wB ws (.tup [.int i, ws[i]]) = b := by simpa only [wB, Int.toNat_natCast] using q
      rw [q] at this
      rw [q2]
      cases b with
      | true =>
        obtain ⟨y2, y3, e⟩ := this
        exact ⟨_, ⟨y2, y3, rfl⟩, e⟩
      | false => exact this) ⟨_, _, rfl⟩
  rw [all_enum] at l1
  by_cases n1 : 1 ≤ ws.length
  · by_cases n2 : ws.length ≤ 200
    · have n1' : (1 : Int) ≤ (ws.length : Int) := by omega
      have n2' : (ws.length : Int) ≤ 200 := by omega
      obtain ⟨b1, q1⟩ : ∃ b, worldsB ws = b := ⟨_, rfl⟩
      have due : isWeb (.tup [.str cW, .tup ws]) = (b1 && ws.all (keptW ws)) := by simp [isWeb, n1, n2, q1]
      rw [due]
      rw [q1] at l1
      cases b1 with
      | false =>
        have l1 : forLoop _ _ _ _ _ = _ := l1
        subst hv
        simp [b__law_is_web, tyIs, ew, n1', n2', l1]
      | true =>
        obtain ⟨env1, ⟨y2, y3, rfl⟩, l1⟩ := l1
        have hw := worldsB_iff.mp q1
        have l2 := for_chk (f := forF (callN pg k) pg.gl (.tp [.nm 4, .nm 5]) p3__law_is_web) (gs := []) (fun env => ∃ x2 x3 x4 x5 x6, env = [.va v, .va (.tup ws), x2, x3, x4, x5, x6, .no, .no, .no, .no, .no, .no]) (keptW ws) (.bl false) (xs := ws)
          (env := [.va v, .va (.tup ws), y2, y3, .no, .no, .no, .no, .no, .no, .no, .no, .no]) (st := st) (fun _ _ => rfl) (by
            rintro d hm env ⟨x2, x3, x4, x5, x6, rfl⟩
            obtain ⟨i, hi, rfl⟩ := List.mem_iff_getElem.mp hm
            have e : ws[i] = atW ws i := by
              have := getD_at hi
              rw [List.getElem?_eq_getElem hi] at this
              exact Option.some.inj this
            have := own_kept (callN pg k) st v ws i x2 x3 x4 x5 x6 hi how hlw hw
            rw [e]
            obtain ⟨b, q⟩ : ∃ b, keptW ws (atW ws i) = b := ⟨_, rfl⟩
            rw [q] at this ⊢
            cases b with
            | true =>
              obtain ⟨z2, z3, z4, z5, z6, e⟩ := this
              exact ⟨_, ⟨z2, z3, z4, z5, z6, rfl⟩, e⟩
            | false => exact this) ⟨_, _, _, _, _, rfl⟩
        obtain ⟨b2, q2⟩ : ∃ b, ws.all (keptW ws) = b := ⟨_, rfl⟩
        rw [q2] at l2 ⊢
        cases b2 with
        | false =>
          have l2 : forLoop _ _ _ _ _ = _ := l2
          subst hv
          simp [b__law_is_web, tyIs, ew, n1', n2', l1, l2]
        | true =>
          obtain ⟨env2, ⟨z2, z3, z4, z5, z6, rfl⟩, l2⟩ := l2
          subst hv
          simp [b__law_is_web, tyIs, ew, n1', n2', l1, l2]
    · have n1' : (1 : Int) ≤ (ws.length : Int) := by omega
      have n2' : ¬ (ws.length : Int) ≤ 200 := by omega
      simp [b__law_is_web, tyIs, ew, n1', n2', isWeb, n2]
  · have n1' : ¬ (1 : Int) ≤ (ws.length : Int) := by omega
    have n0 : ws.length = 0 := by omega
    simp [b__law_is_web, tyIs, ew, n1', isWeb, n0]
theorem e_law_is_web (k : Nat) (v : D) (st : St) (h : okD v = true) (hl : ln v ≤ sizeLine) : callN pg (k + 1) 30 [v] st = .ok (.bl (isWeb v)) st := by
  cases v with
  | tup xs =>
    rcases two_cases xs with ⟨a, b, rfl⟩ | ⟨h2, h3⟩
    · have ha : okD a = true := ok_mem (by simpa only [okD] using h) (by simp)
      have hb : okD b = true := ok_mem (by simpa only [okD] using h) (by simp)
      have hlb : ln b ≤ sizeLine := by simp only [ln, lns] at hl; omega
      cases a with
      | str w =>
        have ew := eqD_web w ha
        by_cases hw : w = cW
        · subst hw
          simp at ew
          cases b with
          | tup ws => exact e_law_is_web1 k ws st hb hlb ew
          | _ => first | (simp [okD] at hb; done) | (rw [call_eq (d := ⟨1, 13, b__law_is_web⟩) rfl rfl]; simp [b__law_is_web, tyIs, isWeb, ew])
        · simp [hw] at ew
          have due : isWeb (.tup [.str w, b]) = false := by
            unfold isWeb
            split
            · rename_i q; cases q; simp [hw]
            · rfl
          rw [due, call_eq (d := ⟨1, 13, b__law_is_web⟩) rfl rfl]
          simp [b__law_is_web, tyIs, ew]
      | _ => first | (simp [okD] at ha; done) | (rw [call_eq (d := ⟨1, 13, b__law_is_web⟩) rfl rfl]; simp [b__law_is_web, tyIs, isWeb])
    · have : isWeb (.tup xs) = false := by
        unfold isWeb
        split
        · rename_i q; cases q; exact absurd rfl (h3 _ _)
        · rfl
      have h4 : ¬ (xs.length : Int) = 2 := by omega
      rw [this, call_eq (d := ⟨1, 13, b__law_is_web⟩) rfl rfl]
      simp [b__law_is_web, tyIs, h4]
  | _ => first | (simp [okD] at h; done) | (rw [call_eq (d := ⟨1, 13, b__law_is_web⟩) rfl rfl]; simp [b__law_is_web, tyIs, isWeb])
end K79

set_option Elab.async false
set_option linter.all false
set_option maxRecDepth 100000
namespace K79
open Ev
open PySem (sizeLine PyData)
/-! what is true where; kinds -/
theorem for_app {f : D → Ev.Env → St → O} {gs : List Gd} {st : St} {N : Nat} (E : List D → Ev.Env → Prop) (g : D → D) : ∀ {xs : List D} {acc : List D} {env : Ev.Env}, (∀ acc env, E acc env → gdsOk env st gs = true) →
    (∀ x ∈ xs, ∀ acc env, acc.length < N → E acc env → ∃ env', E (acc ++ [g x]) env' ∧ f x env st = .nx env' st) → acc.length + xs.length ≤ N → E acc env → ∃ env', E (acc ++ xs.map g) env' ∧ forLoop f gs xs env st = .nx env' st
  | [], acc, env, hg, _, _, e => ⟨env, by simpa using e, for_nil (hg _ _ e)⟩
  | x :: xs, acc, env, hg, h, hl, e => by
    simp only [List.length_cons] at hl
    obtain ⟨env1, e1, s1⟩ := h x (List.mem_cons_self ..) acc env (by omega) e
    obtain ⟨env2, e2, s2⟩ := for_app E g (xs := xs) (acc := acc ++ [g x]) hg (fun y hy => h y (List.mem_cons_of_mem _ hy)) (by simp; omega) e1
    exact ⟨env2, by simpa using e2, (for_nx (hg _ _ e) s1).trans s2⟩
theorem inB_str (s : List Nat) (xs : List (List Nat)) : inB (.str s) (xs.map D.str) = decide (s ∈ xs) := by
  rw [Bool.eq_iff_iff]
  simp only [inB, List.any_eq_true, List.mem_map, decide_eq_true_eq]
  constructor
  · rintro ⟨z, ⟨t, ht, rfl⟩, e⟩
    simp only [D.py, PyData.eqv, beq_iff_eq] at e
    rw [← toS_inj e]; exact ht
  · intro h
    exact ⟨_, ⟨s, h, rfl⟩, by simp [D.py, PyData.eqv]⟩
theorem inB_int (i : Nat) (xs : List Nat) : inB (intD i) (xs.map intD) = decide (i ∈ xs) := by
  rw [Bool.eq_iff_iff]
  simp only [inB, List.any_eq_true, List.mem_map, decide_eq_true_eq]
  constructor
  · rintro ⟨z, ⟨t, ht, rfl⟩, e⟩
    simp only [intD, D.py, PyData.eqv, beq_iff_eq] at e
    have : t = i := by omega
    rw [← this]; exact ht
  · intro h
    exact ⟨_, ⟨i, h, rfl⟩, by simp [intD, D.py, PyData.eqv]⟩
theorem abc_ok {s : List Nat} (h : s = [97] ∨ s = [98] ∨ s = [99]) : okD (.str s) = true := by rcases h with rfl | rfl | rfl <;> decide +kernel
theorem ki_ok : ∀ {κ : Ki}, κ.abc → okD κ.d = true
  | .atom s, h => by
    have := abc_ok h
    simp only [Ki.d, okD, okDs, Bool.and_eq_true, and_true]
    exact ⟨by decide +kernel, by simpa only [okD] using this⟩
  | .noth, _ => by decide +kernel
  | .pair a b, h => by
    simp only [Ki.d, okD, okDs, Bool.and_eq_true, and_true]
    exact ⟨by decide +kernel, ki_ok h.1, ki_ok h.2⟩
  | .frm a b, h => by
    simp only [Ki.d, okD, okDs, Bool.and_eq_true, and_true]
    exact ⟨by decide +kernel, ki_ok h.1, ki_ok h.2⟩
theorem eq_empty {x : D} {xs : List D} (h : okD (.tup (x :: xs)) = true) : eqD (.tup (x :: xs)) (.tup []) = some false := by
  rw [eqD_ok h (by rfl) (by have : dp (.tup []) = 1 := rfl; omega)]
  simp [D.py, D.pys, PyData.eqv, PyData.eqvAll]
theorem isName_abc {s : List Nat} (h : s = [97] ∨ s = [98] ∨ s = [99]) : isName (.str s) = true := by rcases h with rfl | rfl | rfl <;> decide +kernel
theorem pfn_A : isinD (.str cA) (.tup [.str cA, .str cN]) = some true := in_A
theorem e_is_built (st : St) : ∀ (κ : Ki) (k m : Nat), κ.dep + 1 ≤ k → κ.dep ≤ m → κ.abc → callN pg k 6 [κ.d, .int m] st = .ok (.bl true) st
  | .atom s, k, m, h, hm, ha => by
    simp only [Ki.dep] at h hm
    obtain ⟨k, rfl⟩ : ∃ k', k = k' + 2 := ⟨k - 2, by omega⟩
    rw [call_eq (d := ⟨2, 2, b_is_built⟩) rfl rfl]
    have hm0 : ¬ m = 0 := by omega
    have e0 : eqD (.tup [.str cA, .str s]) (.tup []) = some false := eq_empty (ki_ok (κ := .atom s) ha)
    have en := e_is_name k (.str s) st (abc_ok ha) (by rcases ha with rfl | rfl | rfl <;> decide +kernel)
    rw [isName_abc ha] at en
    simp [b_is_built, Ki.d, hm0, tyIs, e0, q_AA, en]
  | .noth, k, m, h, hm, ha => by
    simp only [Ki.dep] at h hm
    obtain ⟨k, rfl⟩ : ∃ k', k = k' + 2 := ⟨k - 2, by omega⟩
    rw [call_eq (d := ⟨2, 2, b_is_built⟩) rfl rfl]
    have hm0 : ¬ m = 0 := by omega
    have e0 : eqD (.tup [.str cN]) (.tup []) = some false := eq_empty (ki_ok (κ := .noth) ha)
    simp [b_is_built, Ki.d, hm0, tyIs, e0, q_NA, q_NN]
  | .pair a b, k, m, h, hm, ha => by
    simp only [Ki.dep] at h hm
    obtain ⟨k, rfl⟩ : ∃ k', k = k' + 1 := ⟨k - 1, by omega⟩
    obtain ⟨m, rfl⟩ : ∃ m', m = m' + 1 := ⟨m - 1, by omega⟩
    rw [call_eq (d := ⟨2, 2, b_is_built⟩) rfl rfl]
    have hm0 : ¬ (m : Int) + 1 = 0 := by omega
    have e0 : eqD (.tup [.str cP, a.d, b.d]) (.tup []) = some false := eq_empty (ki_ok (κ := .pair a b) ha)
    have ea := e_is_built st a k m (by omega) (by omega) ha.1
    have eb := e_is_built st b k m (by omega) (by omega) ha.2
    simp [b_is_built, Ki.d, hm0, tyIs, e0, q_PA, q_PN, pf_P, ea, eb]
  | .frm a b, k, m, h, hm, ha => by
    simp only [Ki.dep] at h hm
    obtain ⟨k, rfl⟩ : ∃ k', k = k' + 1 := ⟨k - 1, by omega⟩
    obtain ⟨m, rfl⟩ : ∃ m', m = m' + 1 := ⟨m - 1, by omega⟩
    rw [call_eq (d := ⟨2, 2, b_is_built⟩) rfl rfl]
    have hm0 : ¬ (m : Int) + 1 = 0 := by omega
    have e0 : eqD (.tup [.str cF, a.d, b.d]) (.tup []) = some false := eq_empty (ki_ok (κ := .frm a b) ha)
    have ea := e_is_built st a k m (by omega) (by omega) ha.1
    have eb := e_is_built st b k m (by omega) (by omega) ha.2
    simp [b_is_built, Ki.d, hm0, tyIs, e0, q_FA, q_FN, pf_F, ea, eb]
theorem e_width_of (st : St) : ∀ (κ : Ki) (k : Nat), κ.dep + 1 ≤ k → callN pg k 9 [κ.d] st = .ok (.int κ.wid) st
  | .atom s, k, h => by
    simp only [Ki.dep] at h
    obtain ⟨k, rfl⟩ : ∃ k', k = k' + 2 := ⟨k - 2, by omega⟩
    rw [call_eq (d := ⟨1, 1, b_width_of⟩) rfl rfl]
    have : callN pg (k + 1) 8 [(Ki.atom s).d] st = .ok (.bl true) st := by
      rw [call_eq (d := ⟨1, 1, b_is_leaf⟩) rfl rfl]
      simp [b_is_leaf, Ki.d, in_A]
    simp [b_width_of, this, Ki.wid]
  | .noth, k, h => by
    simp only [Ki.dep] at h
    obtain ⟨k, rfl⟩ : ∃ k', k = k' + 2 := ⟨k - 2, by omega⟩
    rw [call_eq (d := ⟨1, 1, b_width_of⟩) rfl rfl]
    have : callN pg (k + 1) 8 [Ki.noth.d] st = .ok (.bl true) st := by
      rw [call_eq (d := ⟨1, 1, b_is_leaf⟩) rfl rfl]
      simp [b_is_leaf, Ki.d, in_N]
    simp [b_width_of, this, Ki.wid]
  | .pair a b, k, h => by
    simp only [Ki.dep] at h
    obtain ⟨k, rfl⟩ : ∃ k', k = k' + 2 := ⟨k - 2, by omega⟩
    rw [call_eq (d := ⟨1, 1, b_width_of⟩) rfl rfl]
    have : callN pg (k + 1) 8 [.tup [.str cP, a.d, b.d]] st = .ok (.bl false) st := by
      rw [call_eq (d := ⟨1, 1, b_is_leaf⟩) rfl rfl]
      simp [b_is_leaf, in_P]
    simp [b_width_of, Ki.d, this, Ki.wid, e_width_of st a (k + 1) (by omega), e_width_of st b (k + 1) (by omega)]
  | .frm a b, k, h => by
    simp only [Ki.dep] at h
    obtain ⟨k, rfl⟩ : ∃ k', k = k' + 2 := ⟨k - 2, by omega⟩
    rw [call_eq (d := ⟨1, 1, b_width_of⟩) rfl rfl]
    have : callN pg (k + 1) 8 [.tup [.str cF, a.d, b.d]] st = .ok (.bl false) st := by
      rw [call_eq (d := ⟨1, 1, b_is_leaf⟩) rfl rfl]
      simp [b_is_leaf, in_F]
    simp [b_width_of, Ki.d, this, Ki.wid, e_width_of st a (k + 1) (by omega), e_width_of st b (k + 1) (by omega)]
/-- a kind within the bounds -/
structure Fit (κ : Ki) : Prop where
  abc : κ.abc
  dep : κ.dep ≤ 5
  wid : κ.wid ≤ 12
theorem e_want_kind (st : St) (κ : Ki) (k : Nat) (h : Fit κ) : callN pg (k + 9) 10 [κ.d] st = .ok κ.d st := by
  rw [call_eq (d := ⟨1, 1, b_want_kind⟩) rfl rfl]
  have e1 : callN pg (k + 8) 7 [κ.d] st = .ok (.bl true) st := by
    rw [call_eq (d := ⟨1, 1, b_is_kind_of⟩) rfl rfl]
    have hd := h.dep
    have e2 : callN pg (k + 7) 6 [κ.d, .int 6] st = _ := e_is_built st κ (k + 7) 6 (by omega) (by omega) h.abc
    have e3 := e_width_of st κ (k + 7) (by omega)
    have e4 : (κ.wid : Int) ≤ 12 := by have := h.wid; omega
    simp [b_is_kind_of, e2, e3, e4]
  simp [b_want_kind, e1]
theorem Ts_len (ws : List W) (κ : Ki) : (Ts ws κ).length = ws.length := by simp [Ts]
theorem Ts_at {ws : List W} {κ : Ki} {l : Nat} (h : l < ws.length) : L2.atI (Ts ws κ) (l : Int) = some (.bl (T ws κ l)) := by
  rw [atI_nat]
  simp [Ts, h]
theorem map_Ts {ws : List W} {κ : Ki} {g : D → D} (h : ∀ i, (hi : i < ws.length) → g ws[i].d = .bl (T ws κ i)) : (ws.map W.d).map g = Ts ws κ := by
  refine List.ext_getElem (by simp [Ts]) fun i h1 h2 => ?_
  simp only [List.length_map] at h1
  simp [Ts, h i h1]
theorem nm_at {ws : List W} {i : Nat} (h : i < ws.length) : nmAt ws i = ws[i].nm := by simp [nmAt, h]
theorem la_at {ws : List W} {i : Nat} (h : i < ws.length) : laAt ws i = ws[i].la := by simp [laAt, h]
theorem zip_Ts (ws : List W) (a b : Ki) (g : D → D) (h : ∀ x y, g (.tup [.bl x, .bl y]) = .bl (x && y)) : (List.zipWith (fun u v => D.tup [u, v]) (Ts ws a) (Ts ws b)).map g = Ts ws (.pair a b) := by
  refine List.ext_getElem (by simp [Ts]) fun i h1 h2 => ?_
  simp [Ts, h, T]
theorem ws_len {ws : List W} (h : Wok ws) : (ws.map W.d).length ≤ sizeLine := by
  have := h.most
  rw [List.length_map]
  have : 5 ≤ sizeLine := by decide
  omega
theorem names_ok {ws : List W} (h : Wok ws) {i : Nat} (hi : i < ws.length) : okDs (ws[i].nm.map D.str) = true := by
  rw [okDs_iff]
  intro x hx
  obtain ⟨s, hs, rfl⟩ := List.mem_map.mp hx
  exact abc_ok (h.abc i s (by rw [nm_at hi]; exact hs))
theorem isin_nm {ws : List W} (h : Wok ws) {i : Nat} (hi : i < ws.length) {s : List Nat} (hs : s = [97] ∨ s = [98] ∨ s = [99]) : isinD (.str s) (.tup (ws[i].nm.map D.str)) = some (T ws (.atom s) i) := by
  rw [isin_t (abc_ok hs) (by simp [dp]) (names_ok h hi), inB_str]
  simp only [T, nm_at hi]
def frmG (ws : List W) (a b : Ki) (d : D) : D := match d with
  | .tup [.int i, _] => .bl (T ws (.frm a b) i.toNat)
  | _ => .non
theorem frm_map (ws : List W) (a b : Ki) : ((ws.map W.d).mapIdx fun i u => D.tup [.int i, u]).map (frmG ws a b) = Ts ws (.frm a b) := by
  refine List.ext_getElem (by simp [Ts]) fun i h1 h2 => ?_
  simp [Ts, frmG]
/-- the late worlds of a world looked at -/
theorem frm_lc {ws : List W} (h : Wok ws) {i : Nat} (hi : i < ws.length) (a b : Ki) {f : D → St → R (Option D)} {env : Ev.Env} {st : St}
    (hf : ∀ l : Nat, l < ws.length → f (.int l) st = .ok (some (.bl (T ws b l || !T ws a l))) st) :
    lcLoop f [] env (D.int i :: ws[i].la.map intD) st = .ok ((i :: ws[i].la).map fun l => .bl (T ws b l || !T ws a l)) st := by
  have : (D.int i :: ws[i].la.map intD) = (i :: ws[i].la).map intD := rfl
  rw [this, lc_map (fun d => match d with | .int l => .bl (T ws b l.toNat || !T ws a l.toNat) | _ => .non) rfl (fun d hd => by
    obtain ⟨l, hl, rfl⟩ := List.mem_map.mp hd
    have : l < ws.length := by
      rcases List.mem_cons.mp hl with rfl | hl
      · exact hi
      · exact (h.gt i l (by rw [la_at hi]; exact hl)).2
    rw [intD, hf l this]
    rfl), List.map_map]
  congr 1
theorem frm_all {ws : List W} {i : Nat} (hi : i < ws.length) (a b : Ki) : biD .all [.lst ((i :: ws[i].la).map fun l => .bl (T ws b l || !T ws a l))] = some (.bl (T ws (.frm a b) i)) := by
  rw [all_mapN (fun l => T ws b l || !T ws a l)]
  simp only [T, la_at hi]
theorem rising_len : ∀ (l : List Nat) (lo hi : Nat), l.Pairwise (· < ·) → (∀ x ∈ l, lo ≤ x ∧ x < hi) → l.length ≤ hi - lo
  | [], _, _, _, _ => Nat.zero_le _
  | x :: l, lo, hi, hp, hb => by
    have h1 := List.pairwise_cons.mp hp
    have h2 := hb x (List.mem_cons_self ..)
    have ih := rising_len l (x + 1) hi h1.2 fun y hy => ⟨h1.1 y hy, (hb y (List.mem_cons_of_mem _ hy)).2⟩
    simp only [List.length_cons]
    omega
theorem la_len {ws : List W} (h : Wok ws) {i : Nat} (hi : i < ws.length) : ws[i].la.length ≤ 5 := by
  have hp := h.lar i
  rw [la_at hi] at hp
  have hm := h.most
  have := rising_len ws[i].la 0 ws.length hp fun l hl => ⟨by omega, (h.gt i l (by rw [la_at hi]; exact hl)).2⟩
  omega
theorem e_truths_of {ws : List W} (h : Wok ws) (st : St) : ∀ (κ : Ki) (k : Nat), κ.dep ≤ k → κ.abc → callN pg k 14 [.tup (ws.map W.d), κ.d] st = .ok (.lst (Ts ws κ)) st
  | .atom s, k, hk, ha => by
    simp only [Ki.dep] at hk
    obtain ⟨k, rfl⟩ : ∃ k', k = k' + 1 := ⟨k - 1, by omega⟩
    rw [call_eq (d := ⟨2, 12, b_truths_of⟩) rfl rfl]
    obtain ⟨env, henv⟩ : ∃ env : Ev.Env, env = [.va (.tup (ws.map W.d)), .va (.tup [.str cA, .str s]), .no, .no, .no, .no, .no, .no, .no, .no, .no, .no] := ⟨_, rfl⟩
    have lc := lcL_ok (cf := callN pg k) (gl := pg.gl) (env := env) (st := st) (ws_len h)
      (lc_map (gs := []) (env := env) (f := lcF (callN pg k) pg.gl env p3_truths_of (.tp [.nm 6, .nm 7]) (.cst (.bl true)) [6, 7]) (st := st) (fun d => .bl (inB (.str s) (nsOf d))) (xs := ws.map W.d) rfl (by
        intro d hd
        obtain ⟨w, hw, rfl⟩ := List.mem_map.mp hd
        obtain ⟨i, hi, rfl⟩ := List.mem_iff_getElem.mp hw
        have q : isinD (.str s) (.tup (ws[i].nm.map D.str)) = some (inB (.str s) (ws[i].nm.map D.str)) := isin_t (abc_ok ha) (by simp [dp]) (names_ok h hi)
        subst henv
        simp [lcF, asgTg, asgTgs, wipeE, p3_truths_of, W.d, q, nsOf]))
    rw [map_Ts (κ := .atom s) fun i hi => by rw [W.d, nsOf, inB_str, T, nm_at hi]] at lc
    subst henv
    simp [b_truths_of, Ki.d, q_AA, lc]
  | .noth, k, hk, ha => by
    simp only [Ki.dep] at hk
    obtain ⟨k, rfl⟩ : ∃ k', k = k' + 1 := ⟨k - 1, by omega⟩
    rw [call_eq (d := ⟨2, 12, b_truths_of⟩) rfl rfl]
    obtain ⟨env, henv⟩ : ∃ env : Ev.Env, env = [.va (.tup (ws.map W.d)), .va (.tup [.str cN]), .no, .no, .no, .no, .no, .no, .no, .no, .no, .no] := ⟨_, rfl⟩
    have lc := lcL_ok (cf := callN pg k) (gl := pg.gl) (env := env) (st := st) (ws_len h)
      (lc_map (gs := []) (env := env) (f := lcF (callN pg k) pg.gl env (.cst (.bl true)) (.nm 8) (.cst (.bl true)) [8]) (st := st) (fun d => .bl true) (xs := ws.map W.d) rfl (by
        intro d hd
        subst henv
        simp [lcF, asgTg, wipeE]))
    rw [map_Ts (κ := .noth) fun i hi => rfl] at lc
    subst henv
    simp [b_truths_of, Ki.d, q_NA, q_NN, lc]
  | .pair a b, k, hk, ha => by
    simp only [Ki.dep] at hk
    obtain ⟨k, rfl⟩ : ∃ k', k = k' + 1 := ⟨k - 1, by omega⟩
    rw [call_eq (d := ⟨2, 12, b_truths_of⟩) rfl rfl]
    have ea := e_truths_of h st a k (by omega) ha.1
    have eb := e_truths_of h st b k (by omega) ha.2
    obtain ⟨env, henv⟩ : ∃ env : Ev.Env, env = [.va (.tup (ws.map W.d)), .va (.tup [.str cP, a.d, b.d]), .no, .va (.lst (Ts ws a)), .va (.lst (Ts ws b)), .no, .no, .no, .no, .no, .no, .no] := ⟨_, rfl⟩
    have lc := lcL_ok (cf := callN pg k) (gl := pg.gl) (env := env) (st := st) (xs := List.zipWith (fun u v => D.tup [u, v]) (Ts ws a) (Ts ws b)) (by have := ws_len h; simp [Ts_len] at this ⊢; omega)
      (lc_map (gs := []) (env := env) (f := lcF (callN pg k) pg.gl env p2_truths_of (.tp [.nm 9, .nm 10]) (.cst (.bl true)) [9, 10]) (st := st) (fun d => match d with | .tup [.bl x, .bl y] => .bl (x && y) | _ => .non) (xs := List.zipWith (fun u v => D.tup [u, v]) (Ts ws a) (Ts ws b)) rfl (by
        intro d hd
        rw [← List.map_uncurry_zip_eq_zipWith] at hd
        obtain ⟨⟨u, v⟩, h1, rfl⟩ := List.mem_map.mp hd
        obtain ⟨i, _, rfl⟩ := List.mem_map.mp (List.of_mem_zip h1).1
        obtain ⟨j, _, rfl⟩ := List.mem_map.mp (List.of_mem_zip h1).2
        subst henv
        cases q : T ws a i <;> simp [lcF, asgTg, asgTgs, wipeE, p2_truths_of, q]))
    rw [zip_Ts ws a b _ fun x y => rfl] at lc
    subst henv
    simp [b_truths_of, Ki.d, q_PA, q_PN, q_PP, ea, eb, lc]
  | .frm a b, k, hk, ha => by
    simp only [Ki.dep] at hk
    obtain ⟨k, rfl⟩ : ∃ k', k = k' + 1 := ⟨k - 1, by omega⟩
    rw [call_eq (d := ⟨2, 12, b_truths_of⟩) rfl rfl]
    have ea := e_truths_of h st a k (by omega) ha.1
    have eb := e_truths_of h st b k (by omega) ha.2
    have loop := for_app (f := forF (callN pg k) pg.gl (.tp [.nm 5, .tp [.nm 6, .nm 7]]) p1_truths_of) (gs := []) (st := st) (N := 5)
      (fun acc env => ∃ x5 x6 x7, env = [.va (.tup (ws.map W.d)), .va (.tup [.str cF, a.d, b.d]), .ow acc, .va (.lst (Ts ws a)), .va (.lst (Ts ws b)), x5, x6, x7, .no, .no, .no, .no]) (frmG ws a b)
      (xs := (ws.map W.d).mapIdx fun i u => D.tup [.int i, u]) (acc := []) (env := [.va (.tup (ws.map W.d)), .va (.tup [.str cF, a.d, b.d]), .ow [], .va (.lst (Ts ws a)), .va (.lst (Ts ws b)), .no, .no, .no, .no, .no, .no, .no]) (fun _ _ _ => rfl) (by
        rintro d hd acc env hN ⟨x5, x6, x7, rfl⟩
        obtain ⟨i, hi, rfl⟩ := List.mem_mapIdx.mp hd
        simp only [List.length_map] at hi
        have hll := la_len h hi
        have hs6 : 6 ≤ sizeLine := by decide
        have lc := lcL_ok (cf := callN pg k) (gl := pg.gl) (env := [.va (.tup (ws.map W.d)), .va (.tup [.str cF, a.d, b.d]), .ow acc, .va (.lst (Ts ws a)), .va (.lst (Ts ws b)), .va (.int i), .va (.tup (ws[i].nm.map .str)), .va (.tup (ws[i].la.map intD)), .no, .no, .no, .no]) (st := st)
          (xs := D.int i :: ws[i].la.map intD) (by simp; omega) (frm_lc h hi a b (f := lcF (callN pg k) pg.gl [.va (.tup (ws.map W.d)), .va (.tup [.str cF, a.d, b.d]), .ow acc, .va (.lst (Ts ws a)), .va (.lst (Ts ws b)), .va (.int i), .va (.tup (ws[i].nm.map .str)), .va (.tup (ws[i].la.map intD)), .no, .no, .no, .no] p0_truths_of (.nm 11) (.cst (.bl true)) [11]) (by
            intro l hl
            cases q : T ws b l <;> simp [lcF, asgTg, wipeE, p0_truths_of, Ts_at hl, q]))
        refine ⟨_, ⟨.va (.int i), .va (.tup (ws[i].nm.map .str)), .va (.tup (ws[i].la.map intD)), rfl⟩, ?_⟩
        have am := frm_all hi a b
        have cat : binD .add (.tup [.int i]) (.tup (ws[i].la.map intD)) = some (.tup (.int i :: ws[i].la.map intD)) := binD_tup (by simp; omega)
        have hN2 : acc.length < sizeLine := by omega
        simp only [List.map_cons] at am lc
        simp [forF, asgTg, asgTgs, p1_truths_of, W.d, cat, lc, am, hN2, frmG]) (by have := h.most; simpa using this) ⟨_, _, _, rfl⟩
    obtain ⟨env', ⟨x5, x6, x7, rfl⟩, loop⟩ := loop
    rw [frm_map] at loop
    simp [b_truths_of, Ki.d, q_FA, q_FN, q_FP, ea, eb, loop]
end K79

set_option Elab.async false
set_option linter.all false
set_option maxRecDepth 100000
namespace K79
open Ev
open PySem (sizeLine PyData)
/-! drawn webs are webs; truths told -/
theorem cut1 (xs : List D) : cutL xs (some 1) none = xs.drop 1 := by
  unfold cutL
  have h1 : HT.sIx xs.length 0 (some 1) = min 1 xs.length := by
    unfold HT.sIx
    simp
    try omega
  have h2 : HT.sIx xs.length xs.length none = xs.length := rfl
  rw [h1, h2]
  by_cases h : 1 ≤ xs.length
  · rw [Nat.min_eq_left h, List.take_of_length_le (by simp)]
  · have : xs = [] := List.eq_nil_of_length_eq_zero (by omega)
    subst this; rfl
theorem isRis_of {α : Type} (f : α → D) (R : α → α → Prop) (hf : ∀ a b, R a b → ltP (.tup [f a, f b]) = true) (xs : List α) (h : xs.Pairwise R) : isRis (xs.map f) = true := by
  unfold isRis prs
  rw [cut1, List.all_eq_true]
  intro d hd
  obtain ⟨i, hi, rfl⟩ := List.mem_iff_getElem.mp hd
  simp only [List.length_zipWith, List.length_map, List.length_drop] at hi
  rw [List.getElem_zipWith, List.getElem_map, List.getElem_drop, List.getElem_map]
  exact hf _ _ (List.pairwise_iff_getElem.mp h i (1 + i) (by omega) (by omega) (by omega))
theorem nm_len {ws : List W} (h : Wok ws) {i : Nat} (hi : i < ws.length) : ws[i].nm.length ≤ 3 := by
  have hp := h.nmr i
  have ha := h.abc i
  rw [nm_at hi] at hp ha
  have := rising_len (ws[i].nm.map fun s => s.headD 0) 97 100 (by
    rw [List.pairwise_map]
    refine hp.imp_of_mem fun {s t} hs ht q => ?_
    rcases ha s hs with rfl | rfl | rfl <;> rcases ha t ht with rfl | rfl | rfl <;> first | decide | (revert q; decide)) (by
    intro x hx
    obtain ⟨s, hs, rfl⟩ := List.mem_map.mp hx
    rcases ha s hs with rfl | rfl | rfl <;> decide)
  simpa using this
theorem lns_le {α : Type} (f : α → D) (b : Nat) (hb : ∀ x, ln (f x) ≤ b) (xs : List α) : lns (xs.map f) ≤ (b + 2) * xs.length := by
  induction xs with
  | nil => simp [lns]
  | cons x xs ih =>
    have := hb x
    simp only [List.map_cons, lns, List.length_cons, Nat.mul_add]
    omega
theorem lns_le' {α : Type} (f : α → D) (b : Nat) (xs : List α) (hb : ∀ x ∈ xs, ln (f x) ≤ b) : lns (xs.map f) ≤ (b + 2) * xs.length := by
  induction xs with
  | nil => simp [lns]
  | cons x xs ih =>
    have := hb x (List.mem_cons_self ..)
    have := ih fun y hy => hb y (List.mem_cons_of_mem _ hy)
    simp only [List.map_cons, lns, List.length_cons, Nat.mul_add]
    omega
theorem W_ln {ws : List W} (h : Wok ws) : ∀ w ∈ ws, ln w.d ≤ 170 := by
  intro w hw
  obtain ⟨i, hi, rfl⟩ := List.mem_iff_getElem.mp hw
  have h1 := nm_len h hi
  have h2 := la_len h hi
  have h3 := lns_le' D.str 12 ws[i].nm (by
    intro s hs
    rcases h.abc i s (by rw [nm_at hi]; exact hs) with rfl | rfl | rfl <;> decide)
  have h4 := lns_le intD 20 (by intro x; simp [intD, ln]) ws[i].la
  simp only [W.d, ln, lns]
  omega
theorem web_ln {ws : List W} (h : Wok ws) : ln (webD ws) ≤ 1000 := by
  have h1 := lns_le' W.d 170 ws (W_ln h)
  have := h.most
  simp only [webD, ln, lns]
  have : List.length cW = 3 := rfl
  omega
theorem int_ok {n : Nat} (h : n < 1000) : okD (intD n) = true := by
  simp only [intD, okD, decide_eq_true_eq]
  omega
theorem W_ok {ws : List W} (h : Wok ws) {i : Nat} (hi : i < ws.length) : okD ws[i].d = true := by
  have h2 : okDs (ws[i].la.map intD) = true := by
    rw [okDs_iff]
    intro x hx
    obtain ⟨l, hl, rfl⟩ := List.mem_map.mp hx
    have := (h.gt i l (by rw [la_at hi]; exact hl)).2
    have := h.most
    exact int_ok (by omega)
  simp only [W.d, okD, okDs, names_ok h hi, h2, Bool.and_self]
theorem ws_ok {ws : List W} (h : Wok ws) : okDs (ws.map W.d) = true := by
  rw [okDs_iff]
  intro x hx
  obtain ⟨w, hw, rfl⟩ := List.mem_map.mp hx
  obtain ⟨i, hi, rfl⟩ := List.mem_iff_getElem.mp hw
  exact W_ok h hi
theorem web_ok {ws : List W} (h : Wok ws) : okD (webD ws) = true := by
  simp only [webD, okD, okDs, ws_ok h, Bool.and_true, Bool.and_self]
  decide +kernel
theorem dp_map {α : Type} (f : α → D) (n : Nat) (hf : ∀ x, dp (f x) ≤ n) (xs : List α) : dps (xs.map f) ≤ n := dps_le fun y hy => by
  obtain ⟨x, _, rfl⟩ := List.mem_map.mp hy
  exact hf x
theorem web_dp (ws : List W) : dp (webD ws) ≤ 4 := by
  have h1 : ∀ w : W, dp w.d ≤ 2 := fun w => by
    have a := dp_map D.str 0 (by intro x; simp [dp]) w.nm
    have b := dp_map intD 0 (by intro x; simp [intD, dp]) w.la
    simp only [W.d, dp, dps]
    omega
  have h2 := dp_map W.d 2 h1 ws
  simp only [webD, dp, dps]
  omega
theorem atW_map {ws : List W} {i : Nat} (hi : i < ws.length) : atW (ws.map W.d) i = ws[i].d := by
  have h := getD_at (ws := ws.map W.d) (j := i) (by simpa using hi)
  rw [List.getElem?_map, List.getElem?_eq_getElem hi] at h
  exact (Option.some.inj h).symm
theorem web_is {ws : List W} (h : Wok ws) : isWeb (webD ws) = true := by
  have h1 := h.pos
  have h2 := h.most
  have hw : worldsB (ws.map W.d) = true := by
    rw [worldsB_iff]
    intro i hi
    rw [List.length_map] at hi ⊢
    rw [atW_map hi]
    have n1 : (ws[i].nm.map D.str).all isName = true := by
      rw [List.all_eq_true]
      intro x hx
      obtain ⟨s, hs, rfl⟩ := List.mem_map.mp hx
      exact isName_abc (h.abc i s (by rw [nm_at hi]; exact hs))
    have n2 : isRis (ws[i].nm.map D.str) = true := isRis_of D.str (· < ·) (by intro a b q; simpa [ltP] using q) _ (by have := h.nmr i; rwa [nm_at hi] at this)
    have n3 : (ws[i].la.map intD).all (lateOk ws.length i) = true := by
      rw [List.all_eq_true]
      intro x hx
      obtain ⟨l, hl, rfl⟩ := List.mem_map.mp hx
      have := h.gt i l (by rw [la_at hi]; exact hl)
      simp [intD, lateOk, belowD, gtD]
      omega
    have n4 : isRis (ws[i].la.map intD) = true := isRis_of intD (· < ·) (by intro a b q; simpa [ltP, intD] using q) _ (by have := h.lar i; rwa [la_at hi] at this)
    simp only [W.d, isWorld, n1, n2, n3, n4, Bool.and_self]
  have hk : (ws.map W.d).all (keptW (ws.map W.d)) = true := by
    rw [List.all_eq_true]
    intro x hx
    obtain ⟨w, hw, rfl⟩ := List.mem_map.mp hx
    obtain ⟨i, hi, rfl⟩ := List.mem_iff_getElem.mp hw
    unfold keptW
    rw [List.all_eq_true]
    intro y hy
    simp only [W.d, lsOf] at hy
    obtain ⟨l, hl, rfl⟩ := List.mem_map.mp hy
    have hl2 : l ∈ laAt ws i := by rw [la_at hi]; exact hl
    have hln := (h.gt i l hl2).2
    simp only [W.d, nsOf, lsOf, keptL, intD, Int.toNat_natCast, atW_map hln, Bool.and_eq_true, List.all_eq_true]
    constructor
    · intro a ha
      obtain ⟨s, hs, rfl⟩ := List.mem_map.mp ha
      rw [inB_str, decide_eq_true_eq]
      have := h.nm i l hl2 s (by rw [nm_at hi]; exact hs)
      rwa [nm_at hln] at this
    · intro a ha
      obtain ⟨s, hs, rfl⟩ := List.mem_map.mp ha
      have q := inB_int s ws[i].la
      rw [q, decide_eq_true_eq]
      have := h.la i l hl2 s (by rw [la_at hln]; exact hs)
      rwa [la_at hi] at this
  simp only [webD, isWeb, hw, hk, List.length_map, Bool.and_eq_true, decide_eq_true_eq, and_self, true_and, and_true]
  omega
theorem e_want_web {ws : List W} (h : Wok ws) (k : Nat) (st : St) : callN pg (k + 7) 15 [webD ws] st = .ok (webD ws) st := by
  rw [call_eq (d := ⟨1, 1, b_want_web⟩) rfl rfl]
  have e := e_is_web k (webD ws) st (web_ok h) (by have := web_ln h; have : 1000 ≤ sizeLine := by decide
                                                   omega)
  rw [web_is h] at e
  simp [b_want_web, e]
def toldG (d : D) : Option D := match d with
  | .tup [.int i, .bl true] => some (.int i)
  | _ => none
/-- the worlds told -/
def Fnd (ws : List W) (κ : Ki) : List D := ((Ts ws κ).mapIdx fun i u => D.tup [.int i, u]).filterMap toldG
theorem enum_len (ws : List W) (κ : Ki) (h : Wok ws) : ((Ts ws κ).mapIdx fun i u => D.tup [.int i, u]).length ≤ sizeLine := by
  have := h.most
  have : 5 ≤ sizeLine := by decide
  rw [List.length_mapIdx, Ts_len]
  omega
theorem e_truths {ws : List W} (h : Wok ws) (κ : Ki) (hκ : Fit κ) (k : Nat) (st : St) : callN pg (k + 10) 18 [webD ws, κ.d] st = .ok (.lst (Fnd ws κ)) st := by
  rw [call_eq (d := ⟨2, 5, b_truths⟩) rfl rfl]
  have e1 := e_want_web h (k + 2) st
  have e2 := e_want_kind st κ k hκ
  have e3 := e_truths_of h st κ (k + 9) (by have := hκ.dep; omega) hκ.abc
  obtain ⟨env, henv⟩ : ∃ env : Ev.Env, env = [.va (webD ws), .va κ.d, .va (.lst (Ts ws κ)), .no, .no] := ⟨_, rfl⟩
  have lc := lcL_ok (cf := callN pg (k + 9)) (gl := pg.gl) (env := env) (st := st) (enum_len ws κ h)
    (lc_pure (gs := []) (env := env) (f := lcF (callN pg (k + 9)) pg.gl env (.var 3) (.tp [.nm 3, .nm 4]) (.var 4) [3, 4]) (st := st) toldG (xs := (Ts ws κ).mapIdx fun i u => D.tup [.int i, u]) rfl (by
      intro d hd
      obtain ⟨i, hi, rfl⟩ := List.mem_mapIdx.mp hd
      subst henv
      have e : (Ts ws κ)[i] = .bl (T ws κ i) := by simp [Ts]
      rw [e]
      cases q : T ws κ i <;> simp [lcF, asgTg, asgTgs, wipeE, toldG]))
  subst henv
  have e4 : callN pg (k + 2 + 7) 15 [.tup [.str cW, .tup (ws.map W.d)]] st = .ok (.tup [.str cW, .tup (ws.map W.d)]) st := e1
  simp only [webD] at lc ⊢
  simp [b_truths, e4, e2, e3, lc]
  rfl
theorem e_is_true {ws : List W} (h : Wok ws) (κ : Ki) (hκ : Fit κ) (i k : Nat) (st : St) (hi : i < ws.length) : callN pg (k + 10) 17 [webD ws, .int i, κ.d] st = .ok (.bl (T ws κ i)) st := by
  rw [call_eq (d := ⟨3, 3, b_is_true⟩) rfl rfl]
  have e1 := e_want_web h (k + 2) st
  have e2 := e_want_kind st κ k hκ
  have e3 := e_truths_of h st κ (k + 9) (by have := hκ.dep; omega) hκ.abc
  have e4 : callN pg (k + 2 + 7) 15 [.tup [.str cW, .tup (ws.map W.d)]] st = .ok (.tup [.str cW, .tup (ws.map W.d)]) st := e1
  have e5 := e_is_below (k + 6) (.int i) ws.length st rfl
  have e6 : isBelow (.int i) ws.length = true := by simp [isBelow]; omega
  rw [e6] at e5
  simp only [webD]
  simp [b_is_true, e4, e2, e3, e5, Ts_at hi]
theorem e_law_truths {ws : List W} (h : Wok ws) (st : St) : ∀ (κ : Ki) (k : Nat), κ.dep ≤ k → κ.abc → callN pg k 31 [webD ws, κ.d] st = .ok (.lst (Ts ws κ)) st
  | .atom s, k, hk, ha => by
    simp only [Ki.dep] at hk
    obtain ⟨k, rfl⟩ : ∃ k', k = k' + 1 := ⟨k - 1, by omega⟩
    rw [call_eq (d := ⟨2, 12, b__law_truths⟩) rfl rfl]
    obtain ⟨env, henv⟩ : ∃ env : Ev.Env, env = [.va (webD ws), .va (.tup [.str cA, .str s]), .va (.tup (ws.map W.d)), .no, .no, .no, .no, .no, .no, .no, .no, .no] := ⟨_, rfl⟩
    have lc := lcL_ok (cf := callN pg k) (gl := pg.gl) (env := env) (st := st) (ws_len h)
      (lc_map (gs := []) (env := env) (f := lcF (callN pg k) pg.gl env p3__law_truths (.tp [.nm 7, .nm 8]) (.cst (.bl true)) [7, 8]) (st := st) (fun d => .bl (inB (.str s) (nsOf d))) (xs := ws.map W.d) rfl (by
        intro d hd
        obtain ⟨w, hw, rfl⟩ := List.mem_map.mp hd
        obtain ⟨i, hi, rfl⟩ := List.mem_iff_getElem.mp hw
        have q : isinD (.str s) (.tup (ws[i].nm.map D.str)) = some (inB (.str s) (ws[i].nm.map D.str)) := isin_t (abc_ok ha) (by simp [dp]) (names_ok h hi)
        subst henv
        simp [lcF, asgTg, asgTgs, wipeE, p3__law_truths, W.d, q, nsOf]))
    rw [map_Ts (κ := .atom s) fun i hi => by rw [W.d, nsOf, inB_str, T, nm_at hi]] at lc
    subst henv
    simp only [webD] at lc ⊢
    simp [b__law_truths, Ki.d, q_AA, lc]
  | .noth, k, hk, ha => by
    simp only [Ki.dep] at hk
    obtain ⟨k, rfl⟩ : ∃ k', k = k' + 1 := ⟨k - 1, by omega⟩
    rw [call_eq (d := ⟨2, 12, b__law_truths⟩) rfl rfl]
    have hm := h.most
    have mul : binD .mul (.lst [.bl true]) (.int ws.length) = some (.lst (Ts ws .noth)) := by
      have e : (List.replicate ws.length [D.bl true]).flatten = Ts ws .noth := by
        refine List.ext_getElem (by simp [Ts]) fun i h1 h2 => ?_
        simp [Ts, T]
      have c1 : (ws.length : Int) ≤ 1000 := by omega
      simp [binD, c1, e]
    simp only [webD]
    simp [b__law_truths, Ki.d, q_NA, q_NN, mul]
  | .pair a b, k, hk, ha => by
    simp only [Ki.dep] at hk
    obtain ⟨k, rfl⟩ : ∃ k', k = k' + 1 := ⟨k - 1, by omega⟩
    rw [call_eq (d := ⟨2, 12, b__law_truths⟩) rfl rfl]
    have ea := e_law_truths h st a k (by omega) ha.1
    have eb := e_law_truths h st b k (by omega) ha.2
    obtain ⟨env, henv⟩ : ∃ env : Ev.Env, env = [.va (webD ws), .va (.tup [.str cP, a.d, b.d]), .va (.tup (ws.map W.d)), .no, .va (.lst (Ts ws a)), .va (.lst (Ts ws b)), .no, .no, .no, .no, .no, .no] := ⟨_, rfl⟩
    have lc := lcL_ok (cf := callN pg k) (gl := pg.gl) (env := env) (st := st) (xs := List.zipWith (fun u v => D.tup [u, v]) (Ts ws a) (Ts ws b)) (by have := ws_len h; simp [Ts_len] at this ⊢; omega)
      (lc_map (gs := []) (env := env) (f := lcF (callN pg k) pg.gl env p2__law_truths (.tp [.nm 9, .nm 10]) (.cst (.bl true)) [9, 10]) (st := st) (fun d => match d with | .tup [.bl x, .bl y] => .bl (x && y) | _ => .non) (xs := List.zipWith (fun u v => D.tup [u, v]) (Ts ws a) (Ts ws b)) rfl (by
        intro d hd
        rw [← List.map_uncurry_zip_eq_zipWith] at hd
        obtain ⟨⟨u, v⟩, h1, rfl⟩ := List.mem_map.mp hd
        obtain ⟨i, _, rfl⟩ := List.mem_map.mp (List.of_mem_zip h1).1
        obtain ⟨j, _, rfl⟩ := List.mem_map.mp (List.of_mem_zip h1).2
        subst henv
        cases q : T ws a i <;> simp [lcF, asgTg, asgTgs, wipeE, p2__law_truths, q]))
    rw [zip_Ts ws a b _ fun x y => rfl] at lc
    subst henv
    simp only [webD] at ea eb lc ⊢
    simp [b__law_truths, Ki.d, q_PA, q_PN, q_PP, ea, eb, lc]
  | .frm a b, k, hk, ha => by
    simp only [Ki.dep] at hk
    obtain ⟨k, rfl⟩ : ∃ k', k = k' + 1 := ⟨k - 1, by omega⟩
    rw [call_eq (d := ⟨2, 12, b__law_truths⟩) rfl rfl]
    have ea := e_law_truths h st a k (by omega) ha.1
    have eb := e_law_truths h st b k (by omega) ha.2
    have loop := for_app (f := forF (callN pg k) pg.gl (.tp [.nm 6, .tp [.nm 7, .nm 8]]) p1__law_truths) (gs := []) (st := st) (N := 5)
      (fun acc env => ∃ x5 x6 x7, env = [.va (webD ws), .va (.tup [.str cF, a.d, b.d]), .va (.tup (ws.map W.d)), .ow acc, .va (.lst (Ts ws a)), .va (.lst (Ts ws b)), x5, x6, x7, .no, .no, .no]) (frmG ws a b)
      (xs := (ws.map W.d).mapIdx fun i u => D.tup [.int i, u]) (acc := []) (env := [.va (webD ws), .va (.tup [.str cF, a.d, b.d]), .va (.tup (ws.map W.d)), .ow [], .va (.lst (Ts ws a)), .va (.lst (Ts ws b)), .no, .no, .no, .no, .no, .no]) (fun _ _ _ => rfl) (by
        rintro d hd acc env hN ⟨x5, x6, x7, rfl⟩
        obtain ⟨i, hi, rfl⟩ := List.mem_mapIdx.mp hd
        simp only [List.length_map] at hi
        have hll := la_len h hi
        have hs6 : 6 ≤ sizeLine := by decide
        have lc := lcL_ok (cf := callN pg k) (gl := pg.gl) (env := [.va (webD ws), .va (.tup [.str cF, a.d, b.d]), .va (.tup (ws.map W.d)), .ow acc, .va (.lst (Ts ws a)), .va (.lst (Ts ws b)), .va (.int i), .va (.tup (ws[i].nm.map .str)), .va (.tup (ws[i].la.map intD)), .no, .no, .no]) (st := st)
          (xs := D.int i :: ws[i].la.map intD) (by simp; omega) (frm_lc h hi a b (f := lcF (callN pg k) pg.gl [.va (webD ws), .va (.tup [.str cF, a.d, b.d]), .va (.tup (ws.map W.d)), .ow acc, .va (.lst (Ts ws a)), .va (.lst (Ts ws b)), .va (.int i), .va (.tup (ws[i].nm.map .str)), .va (.tup (ws[i].la.map intD)), .no, .no, .no] p0__law_truths (.nm 11) (.cst (.bl true)) [11]) (by
            intro l hl
            cases q : T ws b l <;> simp [lcF, asgTg, wipeE, p0__law_truths, Ts_at hl, q]))
        refine ⟨_, ⟨.va (.int i), .va (.tup (ws[i].nm.map .str)), .va (.tup (ws[i].la.map intD)), rfl⟩, ?_⟩
        have am := frm_all hi a b
        have cat : binD .add (.tup [.int i]) (.tup (ws[i].la.map intD)) = some (.tup (.int i :: ws[i].la.map intD)) := binD_tup (by simp; omega)
        have hN2 : acc.length < sizeLine := by omega
        simp only [List.map_cons] at am lc
        simp [forF, asgTg, asgTgs, p1__law_truths, W.d, cat, lc, am, hN2, frmG]) (by have := h.most; simpa using this) ⟨_, _, _, rfl⟩
    obtain ⟨env', ⟨x5, x6, x7, rfl⟩, loop⟩ := loop
    rw [frm_map] at loop
    simp only [webD] at ea eb loop ⊢
    simp [b__law_truths, Ki.d, q_FA, q_FN, q_FP, ea, eb, loop]
end K79

set_option Elab.async false
set_option linter.all false
set_option maxRecDepth 100000
namespace K79
open Ev
open PySem (sizeLine PyData)
/-! values changed at one place -/
theorem sIx_nat (n i d : Nat) : HT.sIx n d (some (i : Int)) = min i n := by
  unfold HT.sIx
  simp
  try omega
theorem cut_take (xs : List D) {i : Nat} (h : i ≤ xs.length) : cutL xs none (some (i : Int)) = xs.take i := by
  unfold cutL
  rw [sIx_nat, Nat.min_eq_left h]
  rfl
theorem cut_drop (xs : List D) {i : Nat} (h : i ≤ xs.length) : cutL xs (some (i : Int)) none = xs.drop i := by
  unfold cutL
  rw [sIx_nat, Nat.min_eq_left h]
  have : HT.sIx xs.length xs.length none = xs.length := rfl
  rw [this, List.take_of_length_le (by simp)]
theorem lns_split (xs : List D) {i : Nat} (h : i < xs.length) : lns (xs.take i) + (ln xs[i] + 2) + lns (xs.drop (i + 1)) = lns xs := by
  have e : xs = xs.take i ++ xs[i] :: xs.drop (i + 1) := by
    rw [List.getElem_cons_drop, List.take_append_drop]
  have := congrArg lns e
  rw [lns_append] at this
  simp only [lns] at this
  omega
theorem okDs_sub {xs ys : List D} (h : okDs xs = true) (hs : ∀ y ∈ ys, y ∈ xs) : okDs ys = true := okDs_iff.mpr fun y hy => okDs_iff.mp h y (hs y hy)
theorem dps_sub {xs ys : List D} (hs : ∀ y ∈ ys, y ∈ xs) : dps ys ≤ dps xs := dps_le fun y hy => dp_mem (hs y hy)
mutual
/-- the greatest integer -/
def iv : D → Nat
  | .int i => i.natAbs
  | .tup xs => ivs xs
  | .lst xs => ivs xs
  | _ => 0
def ivs : List D → Nat
  | [] => 0
  | x :: xs => max (iv x) (ivs xs)
end
theorem iv_mem {x : D} {xs : List D} (h : x ∈ xs) : iv x ≤ ivs xs := by
  induction xs with
  | nil => cases h
  | cons y ys ih =>
    simp only [ivs]
    rcases List.mem_cons.mp h with rfl | h
    · omega
    · have := ih h; omega
/-- what a bent value is -/
structure Bent (v v' : D) : Prop where
  ok : okD v' = true
  len : ln v' ≤ 2 * ln v + 100
  dep : dp v' ≤ dp v + 1
structure BV (v : D) : Prop where
  ok : okD v = true
  len : ln v ≤ 1000
  int : iv v ≤ 1000
theorem ln_pos (v : D) (h : okD v = true) : 2 ≤ ln v := by cases v <;> simp [ln] <;> first | omega | simp [okD] at h
theorem bent_of {v x : D} {xs : List D} (h : x ∈ xs) (hv : okD v = true) (ok : okDs xs = true) (hl : lns xs ≤ 2 * ln v + 100 ∨ ∀ y ∈ xs, ln y ≤ 60) (hd : dps xs ≤ dp v + 1) : Bent v x := by
  refine ⟨okDs_iff.mp ok x h, ?_, Nat.le_trans (dp_mem h) hd⟩
  rcases hl with hl | hl
  · have := ln_mem h; omega
  · have := hl x h; omega
theorem app_ok {xs ys : List D} (h1 : okDs xs = true) (h2 : okDs ys = true) : okDs (xs ++ ys) = true := by rw [okDs_append, h1, h2]; rfl
def oddsD : List D := [.non, .tup [.str cA, .str [97]], .tup [.str cN], .tup [.str [116, 97, 107, 101], .int 0], .tup [.str [110, 111, 110, 101]], .tup [], .lst [], .int 0]
theorem odd_bent {v z y : D} (hv : okD v = true) (hz : Bent v z) (h : y ∈ oddsD ++ [z]) : Bent v y := by
  rcases List.mem_append.mp h with h | h
  · have e1 : okDs oddsD = true := by decide +kernel
    have e2 : ∀ x ∈ oddsD, ln x ≤ 81 := by decide +kernel
    have e3 : dps oddsD = 1 := by decide +kernel
    have := e2 y h
    have := ln_pos v hv
    exact ⟨okDs_iff.mp e1 y h, by omega, by have := dp_mem h; omega⟩
  · rcases List.mem_cons.mp h with rfl | h
    · exact hz
    · cases h

theorem e_bent_tup (n : Nat) (xs : List D) (k : Nat) (st : St) (p : Pot st n) (hb : BV (.tup xs)) (rec : ∀ (x : D) (st : St), x ∈ xs → Pot st n → ∃ (v' : D) (st' : St), callN pg (k + 2) 27 [.ref n, x] st = .ok v' st' ∧ Bent x v' ∧ Dr n st st') :
    ∃ (v' : D) (st' : St), callN pg (k + 3) 27 [.ref n, .tup xs] st = .ok v' st' ∧ Bent (.tup xs) v' ∧ Dr n st st' := by
  have hok : okDs xs = true := by simpa only [okD] using hb.ok
  have hlen := hb.len
  have hl2 := lns_len xs
  simp only [ln] at hlen
  have hs : 2000 ≤ sizeLine := by decide
  have last : ∀ s1, Dr n st s1 → ∃ (v' : D) (st' : St), callN pg (k + 2) 21 [.ref n, .lst (oddsD ++ [.lst xs])] s1 = .ok v' st' ∧ Bent (.tup xs) v' ∧ Dr n st st' := by
    intro s1 d1
    obtain ⟨y, s2, e2, hy, d2⟩ := e_pick k n (oddsD ++ [.lst xs]) s1 (d1.pot p) (by simp) (by simp [oddsD])
    exact ⟨y, s2, e2, odd_bent hb.ok ⟨by first | rfl | simpa only [okD] using hok, by simp [ln, lns] <;> omega, by simp [dp, dps] <;> omega⟩ hy, d1.trans d2⟩
  by_cases h0 : xs = []
  · subst h0
    obtain ⟨y, s2, e2, by_, d2⟩ := last st (Dr.refl p)
    refine ⟨y, s2, ?_, by_, d2⟩
    rw [call_eq (d := ⟨2, 5, b__law_bent⟩) rfl rfl]
    simp only [oddsD, List.cons_append, List.nil_append] at e2
    simp [b__law_bent, tyIs, e2]
  · have hpos : 0 < xs.length := List.length_pos_iff.mpr h0
    have hposi : (0 : Int) < xs.length := by omega
    obtain ⟨w, s1, e1, w1, w2, d1⟩ := e_draw (k + 1) n 6 st p (by omega) (by omega)
    by_cases hw : w = 0
    · subst hw
      obtain ⟨y, s2, e2, by_, d2⟩ := last s1 d1
      refine ⟨y, s2, ?_, by_, d2⟩
      rw [call_eq (d := ⟨2, 5, b__law_bent⟩) rfl rfl]
      simp only [oddsD, List.cons_append, List.nil_append] at e2
      simp [b__law_bent, tyIs, hpos, e1, e2]
    · have hwp : 0 < w := by omega
      obtain ⟨i, s2, e2, i1, i2, d2⟩ := e_draw (k + 1) n xs.length s1 (d1.pot p) (by omega) (by omega)
      obtain ⟨j, s3, e3, j1, j2, d3⟩ := e_draw (k + 1) n 9 s2 (d2.pot (d1.pot p)) (by omega) (by omega)
      obtain ⟨i, rfl⟩ : ∃ i' : Nat, i = i' := ⟨i.toNat, by omega⟩
      have hi : i < xs.length := by omega
      have d123 := (d1.trans d2).trans d3
      have sp := lns_split xs hi
      have lt := lns_len (xs.take i)
      have ld := lns_len (xs.drop (i + 1))
      have c1 := cut_take xs (i := i) (by omega)
      have c2 := cut_drop xs (i := i + 1) (by omega)
      have c3 := cut_take xs (i := i + 1) (by omega)
      have c4 := cut_drop xs (i := i) (by omega)
      simp only [Int.natCast_add, Int.cast_ofNat_Int] at c2 c3
      have ok1 : okDs (xs.take i) = true := okDs_sub hok fun y hy => List.mem_of_mem_take hy
      have ok2 : okDs (xs.drop (i + 1)) = true := okDs_sub hok fun y hy => List.mem_of_mem_drop hy
      have ok3 : okDs (xs.take (i + 1)) = true := okDs_sub hok fun y hy => List.mem_of_mem_take hy
      have ok4 : okDs (xs.drop i) = true := okDs_sub hok fun y hy => List.mem_of_mem_drop hy
      have dp1 : dps (xs.take i) ≤ dps xs := dps_sub fun y hy => List.mem_of_mem_take hy
      have dp2 : dps (xs.drop (i + 1)) ≤ dps xs := dps_sub fun y hy => List.mem_of_mem_drop hy
      have dp3 : dps (xs.take (i + 1)) ≤ dps xs := dps_sub fun y hy => List.mem_of_mem_take hy
      have dp4 : dps (xs.drop i) ≤ dps xs := dps_sub fun y hy => List.mem_of_mem_drop hy
      have t4 : lns (xs.take i) + lns (xs.drop i) = lns xs := by rw [← lns_append, List.take_append_drop]
      have t5 : lns (xs.take (i + 1)) + lns (xs.drop (i + 1)) = lns xs := by rw [← lns_append, List.take_append_drop]
      by_cases hj0 : j = 0
      · subst hj0
        refine ⟨.tup (xs.take i ++ xs.drop (i + 1)), s3, ?_, ⟨by simp only [okD]; exact app_ok ok1 ok2, by simp only [ln, lns_append]; omega, by simp only [dp, dps_append]; omega⟩, d123⟩
        rw [call_eq (d := ⟨2, 5, b__law_bent⟩) rfl rfl]
        have cat : binD .add (.tup (xs.take i)) (.tup (xs.drop (i + 1))) = some (.tup (xs.take i ++ xs.drop (i + 1))) := binD_tup (by simp; omega)
        simp [b__law_bent, tyIs, hpos, e1, hwp, e2, e3, parO, slcD, bndD, c1, c2, cat]
      · by_cases hj1 : j = 1
        · subst hj1
          refine ⟨.tup (xs.take (i + 1) ++ xs.drop i), s3, ?_, ⟨by simp only [okD]; exact app_ok ok3 ok4, by simp only [ln, lns_append]; omega, by simp only [dp, dps_append]; omega⟩, d123⟩
          rw [call_eq (d := ⟨2, 5, b__law_bent⟩) rfl rfl]
          have cat : binD .add (.tup (xs.take (i + 1))) (.tup (xs.drop i)) = some (.tup (xs.take (i + 1) ++ xs.drop i)) := binD_tup (by simp; omega)
          simp [b__law_bent, tyIs, hpos, e1, hwp, e2, e3, parO, slcD, bndD, c3, c4, cat]
        · obtain ⟨z, s4, e4, b4, d4⟩ := rec xs[i] s3 (List.getElem_mem hi) (d3.pot (d2.pot (d1.pot p)))
          have bl := b4.len
          have bd := b4.dep
          have hdm := dp_mem (List.getElem_mem hi : xs[i] ∈ xs)
          refine ⟨.tup (xs.take i ++ [z] ++ xs.drop (i + 1)), s4, ?_, ⟨by simp only [okD]; exact app_ok (app_ok ok1 (by simp [okDs, b4.ok])) ok2, by simp only [ln, lns_append, lns]; omega, by simp only [dp, dps_append, dps]; omega⟩, d123.trans d4⟩
          rw [call_eq (d := ⟨2, 5, b__law_bent⟩) rfl rfl]
          have cat1 : binD .add (.tup (xs.take i)) (.tup [z]) = some (.tup (xs.take i ++ [z])) := binD_tup (by simp; omega)
          have cat2 : binD .add (.tup (xs.take i ++ [z])) (.tup (xs.drop (i + 1))) = some (.tup (xs.take i ++ [z] ++ xs.drop (i + 1))) := binD_tup (by simp; omega)
          have ix : L2.atI xs (i : Int) = some xs[i] := by rw [atI_nat, List.getElem?_eq_getElem hi]
          simp only [List.append_assoc, List.cons_append, List.nil_append] at cat1 cat2 ⊢
          simp [b__law_bent, tyIs, hpos, e1, hwp, e2, e3, parO, hj0, hj1, slcD, bndD, c1, c2, cat1, cat2, ix, e4]

theorem e_bent_lst (n : Nat) (xs : List D) (k : Nat) (st : St) (p : Pot st n) (hb : BV (.lst xs)) (rec : ∀ (x : D) (st : St), x ∈ xs → Pot st n → ∃ (v' : D) (st' : St), callN pg (k + 2) 27 [.ref n, x] st = .ok v' st' ∧ Bent x v' ∧ Dr n st st') :
    ∃ (v' : D) (st' : St), callN pg (k + 3) 27 [.ref n, .lst xs] st = .ok v' st' ∧ Bent (.lst xs) v' ∧ Dr n st st' := by
  have hok : okDs xs = true := by simpa only [okD] using hb.ok
  have hlen := hb.len
  have hl2 := lns_len xs
  simp only [ln] at hlen
  have hs : 2000 ≤ sizeLine := by decide
  have last : ∀ s1, Dr n st s1 → ∃ (v' : D) (st' : St), callN pg (k + 2) 21 [.ref n, .lst (oddsD ++ [.tup []])] s1 = .ok v' st' ∧ Bent (.lst xs) v' ∧ Dr n st st' := by
    intro s1 d1
    obtain ⟨y, s2, e2, hy, d2⟩ := e_pick k n (oddsD ++ [.tup []]) s1 (d1.pot p) (by simp) (by simp [oddsD])
    exact ⟨y, s2, e2, odd_bent hb.ok ⟨by first | rfl | simpa only [okD] using hok, by simp [ln, lns] <;> omega, by simp [dp, dps] <;> omega⟩ hy, d1.trans d2⟩
  by_cases h0 : xs = []
  · subst h0
    obtain ⟨y, s2, e2, by_, d2⟩ := last st (Dr.refl p)
    refine ⟨y, s2, ?_, by_, d2⟩
    rw [call_eq (d := ⟨2, 5, b__law_bent⟩) rfl rfl]
    simp only [oddsD, List.cons_append, List.nil_append] at e2
    simp [b__law_bent, tyIs, e2]
  · have hpos : 0 < xs.length := List.length_pos_iff.mpr h0
    have hposi : (0 : Int) < xs.length := by omega
    obtain ⟨w, s1, e1, w1, w2, d1⟩ := e_draw (k + 1) n 6 st p (by omega) (by omega)
    by_cases hw : w = 0
    · subst hw
      obtain ⟨y, s2, e2, by_, d2⟩ := last s1 d1
      refine ⟨y, s2, ?_, by_, d2⟩
      rw [call_eq (d := ⟨2, 5, b__law_bent⟩) rfl rfl]
      simp only [oddsD, List.cons_append, List.nil_append] at e2
      simp [b__law_bent, tyIs, hpos, e1, e2]
    · have hwp : 0 < w := by omega
      obtain ⟨i, s2, e2, i1, i2, d2⟩ := e_draw (k + 1) n xs.length s1 (d1.pot p) (by omega) (by omega)
      obtain ⟨j, s3, e3, j1, j2, d3⟩ := e_draw (k + 1) n 9 s2 (d2.pot (d1.pot p)) (by omega) (by omega)
      obtain ⟨i, rfl⟩ : ∃ i' : Nat, i = i' := ⟨i.toNat, by omega⟩
      have hi : i < xs.length := by omega
      have d123 := (d1.trans d2).trans d3
      have sp := lns_split xs hi
      have lt := lns_len (xs.take i)
      have ld := lns_len (xs.drop (i + 1))
      have c1 := cut_take xs (i := i) (by omega)
      have c2 := cut_drop xs (i := i + 1) (by omega)
      have c3 := cut_take xs (i := i + 1) (by omega)
      have c4 := cut_drop xs (i := i) (by omega)
      simp only [Int.natCast_add, Int.cast_ofNat_Int] at c2 c3
      have ok1 : okDs (xs.take i) = true := okDs_sub hok fun y hy => List.mem_of_mem_take hy
      have ok2 : okDs (xs.drop (i + 1)) = true := okDs_sub hok fun y hy => List.mem_of_mem_drop hy
      have ok3 : okDs (xs.take (i + 1)) = true := okDs_sub hok fun y hy => List.mem_of_mem_take hy
      have ok4 : okDs (xs.drop i) = true := okDs_sub hok fun y hy => List.mem_of_mem_drop hy
      have dp1 : dps (xs.take i) ≤ dps xs := dps_sub fun y hy => List.mem_of_mem_take hy
      have dp2 : dps (xs.drop (i + 1)) ≤ dps xs := dps_sub fun y hy => List.mem_of_mem_drop hy
      have dp3 : dps (xs.take (i + 1)) ≤ dps xs := dps_sub fun y hy => List.mem_of_mem_take hy
      have dp4 : dps (xs.drop i) ≤ dps xs := dps_sub fun y hy => List.mem_of_mem_drop hy
      have t4 : lns (xs.take i) + lns (xs.drop i) = lns xs := by rw [← lns_append, List.take_append_drop]
      have t5 : lns (xs.take (i + 1)) + lns (xs.drop (i + 1)) = lns xs := by rw [← lns_append, List.take_append_drop]
      by_cases hj0 : j = 0
      · subst hj0
        refine ⟨.lst (xs.take i ++ xs.drop (i + 1)), s3, ?_, ⟨by simp only [okD]; exact app_ok ok1 ok2, by simp only [ln, lns_append]; omega, by simp only [dp, dps_append]; omega⟩, d123⟩
        rw [call_eq (d := ⟨2, 5, b__law_bent⟩) rfl rfl]
        have cat : binD .add (.lst (xs.take i)) (.lst (xs.drop (i + 1))) = some (.lst (xs.take i ++ xs.drop (i + 1))) := binD_lst (by simp; omega)
        simp [b__law_bent, tyIs, hpos, e1, hwp, e2, e3, parO, slcD, bndD, c1, c2, cat]
      · by_cases hj1 : j = 1
        · subst hj1
          refine ⟨.lst (xs.take (i + 1) ++ xs.drop i), s3, ?_, ⟨by simp only [okD]; exact app_ok ok3 ok4, by simp only [ln, lns_append]; omega, by simp only [dp, dps_append]; omega⟩, d123⟩
          rw [call_eq (d := ⟨2, 5, b__law_bent⟩) rfl rfl]
          have cat : binD .add (.lst (xs.take (i + 1))) (.lst (xs.drop i)) = some (.lst (xs.take (i + 1) ++ xs.drop i)) := binD_lst (by simp; omega)
          simp [b__law_bent, tyIs, hpos, e1, hwp, e2, e3, parO, slcD, bndD, c3, c4, cat]
        · obtain ⟨z, s4, e4, b4, d4⟩ := rec xs[i] s3 (List.getElem_mem hi) (d3.pot (d2.pot (d1.pot p)))
          have bl := b4.len
          have bd := b4.dep
          have hdm := dp_mem (List.getElem_mem hi : xs[i] ∈ xs)
          refine ⟨.lst (xs.take i ++ [z] ++ xs.drop (i + 1)), s4, ?_, ⟨by simp only [okD]; exact app_ok (app_ok ok1 (by simp [okDs, b4.ok])) ok2, by simp only [ln, lns_append, lns]; omega, by simp only [dp, dps_append, dps]; omega⟩, d123.trans d4⟩
          rw [call_eq (d := ⟨2, 5, b__law_bent⟩) rfl rfl]
          have cat1 : binD .add (.lst (xs.take i)) (.lst [z]) = some (.lst (xs.take i ++ [z])) := binD_lst (by simp; omega)
          have cat2 : binD .add (.lst (xs.take i ++ [z])) (.lst (xs.drop (i + 1))) = some (.lst (xs.take i ++ [z] ++ xs.drop (i + 1))) := binD_lst (by simp; omega)
          have ix : L2.atI xs (i : Int) = some xs[i] := by rw [atI_nat, List.getElem?_eq_getElem hi]
          simp only [List.append_assoc, List.cons_append, List.nil_append] at cat1 cat2 ⊢
          simp [b__law_bent, tyIs, hpos, e1, hwp, e2, e3, parO, hj0, hj1, slcD, bndD, c1, c2, cat1, cat2, ix, e4]

def intsL (i : Int) : List D := [.int (i + 1), .int (i - 1), .bl true, .non, .str [97], .int 0, .int 1]
def strsL : List D := [.str [97], .str [98], .str cA, .str cP, .str cF, .str [116, 97, 107, 101], .str [98, 111, 116, 104], .str [108, 101, 102, 116], .str [114, 105, 103, 104, 116], .str [103, 105, 118, 101, 110], .str [111, 110], .str [110, 111, 110, 101], .str cN, .str [], .str [65], .non]
theorem e_bent (n : Nat) : ∀ (m : Nat) (v : D) (k : Nat) (st : St), dp v ≤ m → m + 3 ≤ k → Pot st n → BV v → ∃ (v' : D) (st' : St), callN pg k 27 [.ref n, v] st = .ok v' st' ∧ Bent v v' ∧ Dr n st st' := by
  intro m
  induction m with
  | zero =>
    intro v k st hd hk p hb
    obtain ⟨k, rfl⟩ : ∃ k', k = k' + 3 := ⟨k - 3, by omega⟩
    have other : ∃ (v' : D) (st' : St), callN pg (k + 2) 21 [.ref n, .lst (oddsD ++ [.tup []])] st = .ok v' st' ∧ Bent v v' ∧ Dr n st st' := by
      obtain ⟨y, s2, e2, hy, d2⟩ := e_pick k n (oddsD ++ [.tup []]) st p (by simp) (by simp [oddsD])
      exact ⟨y, s2, e2, odd_bent hb.ok ⟨rfl, by simp [ln, lns] <;> omega, by simp [dp, dps]⟩ hy, d2⟩
    cases v with
    | tup xs => simp [dp] at hd
    | lst xs => simp [dp] at hd
    | ref r => have := hb.ok; simp [okD] at this
    | scr s => have := hb.ok; simp [okD] at this
    | non =>
      obtain ⟨y, s2, e2, by_, d2⟩ := other
      refine ⟨y, s2, ?_, by_, d2⟩
      rw [call_eq (d := ⟨2, 5, b__law_bent⟩) rfl rfl]
      simp only [oddsD, List.cons_append, List.nil_append] at e2
      simp [b__law_bent, tyIs, e2]
    | bl b =>
      obtain ⟨y, s2, e2, by_, d2⟩ := other
      refine ⟨y, s2, ?_, by_, d2⟩
      rw [call_eq (d := ⟨2, 5, b__law_bent⟩) rfl rfl]
      simp only [oddsD, List.cons_append, List.nil_append] at e2
      simp [b__law_bent, tyIs, e2]
    | int i =>
      have hi := hb.int
      simp only [iv] at hi
      obtain ⟨y, s2, e2, hy, d2⟩ := e_pick k n (intsL i) st p (by simp [intsL]) (by simp [intsL])
      refine ⟨y, s2, ?_, ?_, d2⟩
      · rw [call_eq (d := ⟨2, 5, b__law_bent⟩) rfl rfl]
        simp only [intsL] at e2
        simp [b__law_bent, tyIs, e2]
      · simp only [intsL, List.mem_cons, List.not_mem_nil, or_false] at hy
        rcases hy with rfl | rfl | rfl | rfl | rfl | rfl | rfl <;> refine ⟨?_, by simp [ln], by simp [dp]⟩ <;> first | rfl | (simp only [okD, decide_eq_true_eq]; omega)
    | str x =>
      obtain ⟨y, s2, e2, hy, d2⟩ := e_pick k n strsL st p (by simp [strsL]) (by simp [strsL])
      refine ⟨y, s2, ?_, ?_, d2⟩
      · rw [call_eq (d := ⟨2, 5, b__law_bent⟩) rfl rfl]
        simp only [strsL] at e2
        simp [b__law_bent, tyIs, e2]
      · have f1 : okDs strsL = true := by decide +kernel
        have f2 : ∀ x ∈ strsL, ln x ≤ 72 ∧ dp x = 0 := by decide +kernel
        have := f2 y hy
        exact ⟨okDs_iff.mp f1 y hy, by simp only [ln]; omega, by omega⟩
  | succ m ih =>
    intro v k st hd hk p hb
    obtain ⟨k, rfl⟩ : ∃ k', k = k' + 3 := ⟨k - 3, by omega⟩
    have low : dp v ≤ m → ∃ (v' : D) (st' : St), callN pg (k + 3) 27 [.ref n, v] st = .ok v' st' ∧ Bent v v' ∧ Dr n st st' := fun h => ih v (k + 3) st h (by omega) p hb
    have sub : ∀ (xs : List D), dps xs ≤ m → okDs xs = true → lns xs ≤ 1000 → ivs xs ≤ 1000 → ∀ (x : D) (st : St), x ∈ xs → Pot st n → ∃ (v' : D) (st' : St), callN pg (k + 2) 27 [.ref n, x] st = .ok v' st' ∧ Bent x v' ∧ Dr n st st' := fun xs h1 h2 h3 h4 x s hx q =>
      ih x (k + 2) s (by have := dp_mem hx; omega) (by omega) q ⟨ok_mem h2 hx, by have := ln_mem hx; omega, by have := iv_mem hx; omega⟩
    cases v with
    | tup xs =>
      have h1 := hb.len
      have h2 := hb.int
      simp only [ln] at h1
      simp only [iv] at h2
      simp only [dp] at hd
      exact e_bent_tup n xs k st p hb (sub xs (by omega) (by simpa only [okD] using hb.ok) (by omega) h2)
    | lst xs =>
      have h1 := hb.len
      have h2 := hb.int
      simp only [ln] at h1
      simp only [iv] at h2
      simp only [dp] at hd
      exact e_bent_lst n xs k st p hb (sub xs (by omega) (by simpa only [okD] using hb.ok) (by omega) h2)
    | _ => exact low (by simp [dp])
end K79

set_option Elab.async false
set_option linter.all false
set_option maxRecDepth 100000
namespace K79
open Ev
open PySem (sizeLine PyData)
/-! webs drawn: lists and dicts -/
def addm {α : Type} [DecidableEq α] (xs : List α) (k : α) : List α := if k ∈ xs then xs else xs ++ [k]
theorem addm_pos {α : Type} [DecidableEq α] {xs : List α} {k : α} (h : k ∈ xs) : addm xs k = xs := if_pos h
theorem addm_neg {α : Type} [DecidableEq α] {xs : List α} {k : α} (h : k ∉ xs) : addm xs k = xs ++ [k] := if_neg h
def mrg {α : Type} [DecidableEq α] (xs ys : List α) : List α := ys.foldl addm xs
theorem mem_mrg {α : Type} [DecidableEq α] {x : α} : ∀ {ys xs : List α}, x ∈ mrg xs ys ↔ x ∈ xs ∨ x ∈ ys
  | [], xs => by simp [mrg]
  | y :: ys, xs => by
    have : mrg xs (y :: ys) = mrg (addm xs y) ys := rfl
    rw [this, mem_mrg]
    by_cases h : y ∈ xs
    · rw [addm_pos h]
      constructor
      · rintro (q | q)
        · exact .inl q
        · exact .inr (List.mem_cons_of_mem _ q)
      · rintro (q | q)
        · exact .inl q
        · rcases List.mem_cons.mp q with rfl | q
          · exact .inl h
          · exact .inr q
    · rw [addm_neg h]
      simp [or_assoc]
theorem nodup_mrg {α : Type} [DecidableEq α] : ∀ {ys xs : List α}, xs.Nodup → (mrg xs ys).Nodup
  | [], xs, h => h
  | y :: ys, xs, h => by
    have : mrg xs (y :: ys) = mrg (addm xs y) ys := rfl
    rw [this]
    by_cases q : y ∈ xs
    · rw [addm_pos q]; exact nodup_mrg h
    · rw [addm_neg q]
      refine nodup_mrg ?_
      rw [List.nodup_append]
      exact ⟨h, by simp, by intro a ha b hb; rcases List.mem_cons.mp hb with rfl | hb
                            · intro e; exact q (e ▸ ha)
                            · cases hb⟩
theorem len_mrg {α : Type} [DecidableEq α] : ∀ {ys xs : List α}, (mrg xs ys).length ≤ xs.length + ys.length
  | [], xs => by simp [mrg]
  | y :: ys, xs => by
    have : mrg xs (y :: ys) = mrg (addm xs y) ys := rfl
    rw [this]
    have := len_mrg (ys := ys) (xs := addm xs y)
    simp only [List.length_cons]
    by_cases h : y ∈ xs
    · rw [addm_pos h] at this ⊢; omega
    · rw [addm_neg h] at this ⊢
      simp only [List.length_append, List.length_cons, List.length_nil] at this
      omega
theorem mrg_map {α β : Type} [DecidableEq α] [DecidableEq β] (f : α → β) (hf : ∀ a b, f a = f b → a = b) : ∀ (ys xs : List α), mrg (xs.map f) (ys.map f) = (mrg xs ys).map f
  | [], xs => rfl
  | y :: ys, xs => by
    have h1 : mrg xs (y :: ys) = mrg (addm xs y) ys := rfl
    have h2 : mrg (xs.map f) ((y :: ys).map f) = mrg (addm (xs.map f) (f y)) (ys.map f) := rfl
    have h3 : f y ∈ xs.map f ↔ y ∈ xs := by
      rw [List.mem_map]
      exact ⟨fun ⟨a, ha, e⟩ => hf _ _ e ▸ ha, fun h => ⟨y, h, rfl⟩⟩
    rw [h1, h2, ← mrg_map f hf ys]
    congr 1
    by_cases h : y ∈ xs
    · rw [addm_pos h, addm_pos (h3.mpr h)]
    · rw [addm_neg h, addm_neg (fun q => h (h3.mp q))]
      simp
/-- a dict whose values are all 0 -/
def kvz (ks : List L2.Key) : List (L2.Key × D) := ks.map fun k => (k, .int 0)
theorem putD_z (ks : List L2.Key) (k : L2.Key) : putD (kvz ks) k (.int 0) = kvz (addm ks k) := by
  have h : ((kvz ks).any fun kv => decide (kv.1 = k)) = true ↔ k ∈ ks := by
    simp only [kvz, List.any_map, List.any_eq_true, Function.comp_apply, decide_eq_true_eq]
    exact ⟨fun ⟨a, ha, e⟩ => e ▸ ha, fun h => ⟨k, h, rfl⟩⟩
  unfold putD
  rcases Classical.em (k ∈ ks) with q | q
  · rw [if_pos (h.mpr q), addm_pos q]
    unfold kvz
    rw [List.map_map]
    refine List.map_congr_left fun a _ => ?_
    simp only [Function.comp_apply]
    split
    · rename_i e; rw [e]
    · rfl
  · rw [if_neg (fun z => q (h.mp z)), addm_neg q]
    simp [kvz]
theorem mergeD_z : ∀ (ys xs : List L2.Key), mergeD (kvz xs) (kvz ys) = kvz (mrg xs ys)
  | [], xs => rfl
  | y :: ys, xs => by
    have h1 : mrg xs (y :: ys) = mrg (addm xs y) ys := rfl
    rw [h1, ← mergeD_z ys, ← putD_z]
    rfl
def inK (x : Nat) : L2.Key := .inl (x : Int)
def stK' (s : List Nat) : L2.Key := .inr (toS s)
theorem inK_inj (a b : Nat) (h : inK a = inK b) : a = b := by
  have : (a : Int) = (b : Int) := Sum.inl.inj h
  omega
theorem stK_inj (a b : List Nat) (h : stK' a = stK' b) : a = b := toS_inj (Sum.inr.inj h)
theorem pairs_int : ∀ zs : List Nat, pairsD (zs.map fun x => .tup [intD x, .int 0]) = some (kvz (zs.map inK))
  | [] => rfl
  | z :: zs => by
    have ih := pairs_int zs
    simp only [intD] at ih
    simp [pairsD, dKey, intD, ih, kvz, inK]
theorem pairs_str : ∀ zs : List (List Nat), pairsD (zs.map fun x => .tup [.str x, .int 0]) = some (kvz (zs.map stK'))
  | [] => rfl
  | z :: zs => by simp [pairsD, dKey, pairs_str zs, kvz, stK']
theorem intsOf_nat : ∀ ws : List Nat, intsOf (ws.map intD) = some (ws.map fun (n : Nat) => (n : Int))
  | [] => rfl
  | w :: ws => by
    have := intsOf_nat ws
    simp only [List.map_cons, intD, intsOf] at this ⊢
    rw [this]
    rfl
theorem strsOf_str : ∀ ws : List (List Nat), strsOf (ws.map D.str) = some ws
  | [] => rfl
  | w :: ws => by simp [strsOf, strsOf_str ws]
theorem sortK_int (ws : List Nat) (hn : ws.Nodup) (hl : ws.length < 64) : ∃ Y : List Nat, sortK (ws.map intD) = some (Y.map intD) ∧ Y.Pairwise (· < ·) ∧ ∀ y, y ∈ Y ↔ y ∈ ws := by
  refine ⟨ws.mergeSort fun a b => decide (a ≤ b), ?_, ?_, fun y => (List.mergeSort_perm ws _).mem_iff⟩
  · unfold sortK
    rw [List.length_map, if_pos hl, intsOf_nat]
    simp only
    rw [← List.map_mergeSort (r := fun a b => decide (a ≤ b)) (by intro a _ b _; simp), List.map_map]
    rfl
  · have h1 := List.pairwise_mergeSort (le := fun (a b : Nat) => decide (a ≤ b)) (by intro a b c; simp; omega) (by intro a b; simp; omega) ws
    have h2 : (ws.mergeSort fun a b => decide (a ≤ b)).Pairwise (· ≠ ·) := (List.mergeSort_perm ws _).nodup_iff.mpr hn
    refine (h1.and h2).imp fun {a b} q => ?_
    have := q.1
    have := q.2
    simp at *
    omega
theorem leS_trans (a b c : List Nat) : leS a b = true → leS b c = true → leS a c = true := by
  simp only [leS, Bool.not_eq_true', decide_eq_false_iff_not, List.not_lt]
  exact fun h1 h2 => List.le_trans h1 h2
theorem leS_total (a b : List Nat) : (leS a b || leS b a) = true := by
  simp only [leS, Bool.or_eq_true, Bool.not_eq_true', decide_eq_false_iff_not, List.not_lt]
  exact List.le_total a b
theorem sortK_str (ws : List (List Nat)) (hn : ws.Nodup) (hl : ws.length < 64) (hz : ∀ z ∈ ws, z.length ≤ sizeLine) : sortK (ws.map D.str) = some ((ws.mergeSort leS).map D.str) ∧ (ws.mergeSort leS).Pairwise (· < ·) ∧ ∀ y, y ∈ ws.mergeSort leS ↔ y ∈ ws := by
  refine ⟨?_, ?_, fun y => (List.mergeSort_perm ws _).mem_iff⟩
  · unfold sortK
    rw [List.length_map, if_pos hl]
    cases ws with
    | nil => simp [intsOf]
    | cons w ws =>
      have h1 : intsOf ((w :: ws).map D.str) = none := rfl
      have h2 : ((w :: ws).all fun z => decide (z.length ≤ sizeLine)) = true := by
        rw [List.all_eq_true]
        intro z q
        exact decide_eq_true (hz z q)
      rw [h1]
      simp only [strsOf_str, Option.bind_some, h2, if_true]
  · have h1 := List.pairwise_mergeSort (le := leS) leS_trans leS_total ws
    have h2 : (ws.mergeSort leS).Pairwise (· ≠ ·) := (List.mergeSort_perm ws _).nodup_iff.mpr hn
    refine (h1.and h2).imp fun {a b} q => ?_
    have q1 := q.1
    simp only [leS, Bool.not_eq_true', decide_eq_false_iff_not, List.not_lt] at q1
    rcases Decidable.em (a < b) with h | h
    · exact h
    · exact absurd (List.le_antisymm q1 (List.not_lt.mp h)) q.2
theorem keyD_in (x : Nat) : keyD (inK x) = intD x := rfl
theorem keyD_st (s : List Nat) : keyD (stK' s) = .str s := by simp [keyD, stK', toS]
/-- sorted(dict([(x, 0) for x in zs])) -/
theorem sd_ints (zs : List Nat) (hl : zs.length < 64) : ∃ (M : List (L2.Key × D)) (Y : List Nat), (∀ st, mkDct (.lst (zs.map fun x => .tup [intD x, .int 0])) st = .ok (.ref st.length) (st ++ [.dct M])) ∧
    (∀ st : St, biD .sortedD [vwK (st ++ [.dct M]) (.ref st.length)] = some (.lst (Y.map intD))) ∧ Y.Pairwise (· < ·) ∧ ∀ y, y ∈ Y ↔ y ∈ zs := by
  have e0 : kvz [] = [] := rfl
  have e1 : mergeD [] (kvz (zs.map inK)) = kvz ((mrg [] zs).map inK) := by
    rw [← e0, mergeD_z, ← mrg_map inK inK_inj]
    rfl
  obtain ⟨Y, h1, h2, h3⟩ := sortK_int (mrg [] zs) (nodup_mrg List.nodup_nil) (by have := len_mrg (xs := []) (ys := zs); simp at this; omega)
  refine ⟨kvz ((mrg [] zs).map inK), Y, fun st => ?_, fun st => ?_, h2, fun y => ?_⟩
  · simp only [mkDct, pairs_int, e1]
  · have : (st ++ [C.dct (kvz ((mrg [] zs).map inK))])[st.length]? = some (.dct (kvz ((mrg [] zs).map inK))) := by simp
    simp only [vwK, this, biD, one, lstD, Option.bind_some]
    have e2 : ((kvz ((mrg [] zs).map inK)).map fun p => keyD p.1) = (mrg [] zs).map intD := by
      simp [kvz, Function.comp_def, keyD_in]
    rw [e2, h1]
    rfl
  · rw [h3, mem_mrg]
    simp
def lD (l : List Nat) : D := .lst (l.map intD)
def atA {α : Type} (A : List (List α)) (i : Nat) : List α := A.getD i []
theorem atA_get {α : Type} {A : List (List α)} {i : Nat} (h : i < A.length) : A[i]? = some (atA A i) := by
  unfold atA
  rw [List.getD_eq_getElem?_getD, List.getElem?_eq_getElem h]; rfl
theorem atA_set_self {α : Type} {A : List (List α)} {i : Nat} (h : i < A.length) (x : List α) : atA (A.set i x) i = x := by
  have := atA_get (A := A.set i x) (i := i) (by simpa using h)
  rw [List.getElem?_set_self h] at this
  exact (Option.some.inj this).symm
theorem atA_set_ne {α : Type} {A : List (List α)} {i j : Nat} (h : i ≠ j) (x : List α) : atA (A.set i x) j = atA A j := by
  unfold atA
  rw [List.getD_eq_getElem?_getD, List.getD_eq_getElem?_getD, List.getElem?_set_ne h]
theorem atA_ix {α : Type} {A : List (List α)} {i : Nat} (f : List α → D) (h : i < A.length) : L2.atI (A.map f) (i : Int) = some (f (atA A i)) := by
  rw [atI_nat, List.getElem?_map, atA_get h]; rfl
/-- rows of later worlds -/
structure Rows (n : Nat) (A : List (List Nat)) : Prop where
  len : A.length = n
  ris : ∀ i, (atA A i).Pairwise (· < ·)
  gt : ∀ i, ∀ l ∈ atA A i, i < l ∧ l < n
theorem Rows.short {n : Nat} {A : List (List Nat)} (h : Rows n A) (i : Nat) : (atA A i).length ≤ n := by
  have := rising_len (atA A i) 0 n (h.ris i) fun x hx => ⟨by omega, (h.gt i x hx).2⟩
  omega
theorem Rows.set {n : Nat} {A : List (List Nat)} (h : Rows n A) {a : Nat} (ha : a < n) {B : List Nat} (h1 : B.Pairwise (· < ·)) (h2 : ∀ l ∈ B, a < l ∧ l < n) : Rows n (A.set a B) := by
  refine ⟨by simpa using h.len, fun i => ?_, fun i l hl => ?_⟩
  · by_cases e : a = i
    · subst e; rw [atA_set_self (by rw [h.len]; exact ha)]; exact h1
    · rw [atA_set_ne e]; exact h.ris i
  · by_cases e : a = i
    · subst e; rw [atA_set_self (by rw [h.len]; exact ha)] at hl; exact h2 l hl
    · rw [atA_set_ne e] at hl; exact h.gt i l hl
theorem set_map_lD (A : List (List Nat)) (a : Nat) (B : List Nat) : (A.map lD).set a (lD B) = (A.set a B).map lD := by rw [List.map_set]
/-- the inner loop: what is later than later ones comes in -/
theorem close_inner (cf : Cf) {n : Nat} (hn : n ≤ 5) {a : Nat} (ha : a < n) (x1 : Sl) (r0 : Sl) : ∀ (L : List Nat) (A : List (List Nat)) (x5 : Sl) (st : St), Rows n A → (∀ l ∈ L, a < l ∧ l < n) →
    ∃ (A' : List (List Nat)) (x5' : Sl) (ext : St), forLoop (forF cf pg.gl (.nm 5) p7__law_web) [] (L.map intD) [r0, x1, .ow (A.map lD), .va (.int a), .no, x5, .no, .no] st = .nx [r0, x1, .ow (A'.map lD), .va (.int a), .no, x5', .no, .no] (st ++ ext) ∧
      Rows n A' ∧ (∀ i, i ≠ a → atA A' i = atA A i) ∧ ∀ x, x ∈ atA A' a ↔ x ∈ atA A a ∨ ∃ l ∈ L, x ∈ atA A l
  | [], A, x5, st, hA, _ => ⟨A, x5, [], by simpa using for_nil rfl, hA, fun _ _ => rfl, by simp⟩
  | l :: L, A, x5, st, hA, hL => by
    have hs : 20 ≤ sizeLine := by decide
    have hl := hL l (List.mem_cons_self ..)
    have la : a < A.length := by rw [hA.len]; exact ha
    have ll : l < A.length := by rw [hA.len]; exact hl.2
    have s1 := hA.short a
    have s2 := hA.short l
    obtain ⟨zs, hzs⟩ : ∃ zs, zs = atA A a ++ atA A l := ⟨_, rfl⟩
    have hzl : zs.length ≤ 10 := by rw [hzs]; simp; omega
    obtain ⟨M, Y, m1, m2, m3, m4⟩ := sd_ints zs (by omega)
    have hY : ∀ y ∈ Y, a < y ∧ y < n := by
      intro y hy
      have hy := (m4 y).mp hy
      rw [hzs] at hy
      rcases List.mem_append.mp hy with q | q
      · exact hA.gt a y q
      · have := hA.gt l y q; omega
    have hA1 := hA.set ha m3 hY
    obtain ⟨A', x5', ext, e, h1, h2, h3⟩ := close_inner cf hn ha x1 r0 L (A.set a Y) (.va (intD l)) (st ++ [.dct M]) hA1 fun q hq => hL q (List.mem_cons_of_mem _ hq)
    refine ⟨A', x5', [.dct M] ++ ext, ?_, h1, fun i hi => by rw [h2 i hi, atA_set_ne (Ne.symm hi)], fun x => ?_⟩
    · rw [← List.append_assoc]
      refine (for_nx rfl ?_).trans e
      obtain ⟨env, henv⟩ : ∃ env : Ev.Env, env = [r0, x1, .ow (A.map lD), .va (.int a), .no, .va (intD l), .no, .no] := ⟨_, rfl⟩
      have lc := lcL_ok (cf := cf) (gl := pg.gl) (env := env) (st := st) (xs := zs.map intD) (by simp; omega)
        (lc_map (gs := []) (env := env) (f := lcF cf pg.gl env p6__law_web (.nm 7) (.cst (.bl true)) [7]) (st := st) (fun x => .tup [x, .int 0]) (xs := zs.map intD) rfl (by
          intro d hd
          obtain ⟨q, _, rfl⟩ := List.mem_map.mp hd
          subst henv
          simp [lcF, asgTg, wipeE, p6__law_web]))
      rw [List.map_map] at lc
      have mm : ∀ st, mkDct (.lst (zs.map ((fun x => D.tup [x, .int 0]) ∘ intD))) st = _ := m1
      have cat : binD .add (lD (atA A a)) (lD (atA A l)) = some (.lst (zs.map intD)) := by
        rw [hzs]
        unfold lD
        rw [binD_lst (by simp; omega), List.map_append]
      have i1 := atA_ix lD la
      have i2 := atA_ix lD ll
      have v1 : ∀ B, vw st (lD B) = lD B := fun _ => rfl
      have st1 : L2.ixN (A.map lD).length (a : Int) = some a := by
        unfold L2.ixN
        rw [if_pos (by omega), if_pos (by rw [List.length_map]; omega)]
        simp
      have st2 := setR_int [r0, x1, .ow (A.map lD), .va (.int a), .no, .va (intD l), .no, .no] (i := 2) (d := lD Y) (st2 := st ++ [.dct M]) st1
      rw [set_map_lD] at st2
      subst henv
      have i2' : L2.atI (A.map lD) ↑l = some (lD (atA A l)) := i2
      have e5 : intD l = .int l := rfl
      rw [e5] at lc st2
      have lc' : lcL cf pg.gl [r0, x1, .ow (A.map lD), .va (.int a), .no, .va (.int l), .no, .no] st p6__law_web (.nm 7) (.cst (.bl true)) [7] (zs.map intD, []) = _ := lc
      have m2' := m2 st
      have mm' := mm st
      have lDe : lD Y = .lst (Y.map intD) := rfl
      rw [lDe] at st2
      simp only [forF, asgTg]
      simp [p7__law_web, i1, i2', v1, cat, lc', mm', m2', st2, e5]
    · rw [h3, atA_set_self la, m4, hzs, List.mem_append]
      constructor
      · rintro ((q | q) | ⟨z, hz, q⟩)
        · exact .inl q
        · exact .inr ⟨l, List.mem_cons_self .., q⟩
        · have := hL z (List.mem_cons_of_mem _ hz)
          rw [atA_set_ne (by omega)] at q
          exact .inr ⟨z, List.mem_cons_of_mem _ hz, q⟩
      · rintro (q | ⟨z, hz, q⟩)
        · exact .inl (.inl q)
        · rcases List.mem_cons.mp hz with rfl | hz
          · exact .inl (.inr q)
          · have := hL z (List.mem_cons_of_mem _ hz)
            exact .inr ⟨z, hz, by rw [atA_set_ne (by omega)]; exact q⟩
end K79

set_option Elab.async false
set_option linter.all false
set_option maxRecDepth 100000
namespace K79
open Ev
open PySem (sizeLine PyData)
/-! webs drawn: the loops -/
def Clo (A : List (List Nat)) (j : Nat) : Prop := ∀ i, j ≤ i → ∀ l ∈ atA A i, ∀ m ∈ atA A l, m ∈ atA A i
theorem close_outer (cf : Cf) {n : Nat} (hn : n ≤ 5) (x1 r0 : Sl) : ∀ (j : Nat) (A : List (List Nat)) (x3 x5 : Sl) (st : St), j ≤ n → Rows n A → Clo A j →
    ∃ (A' : List (List Nat)) (x3' x5' : Sl) (ext : St), forLoop (forF cf pg.gl (.nm 3) p8__law_web) [] ((List.range j).reverse.map intD) [r0, x1, .ow (A.map lD), x3, .no, x5, .no, .no] st = .nx [r0, x1, .ow (A'.map lD), x3', .no, x5', .no, .no] (st ++ ext) ∧ Rows n A' ∧ Clo A' 0
  | 0, A, x3, x5, st, _, hA, hc => ⟨A, x3, x5, [], by simpa using for_nil rfl, hA, hc⟩
  | j + 1, A, x3, x5, st, hj, hA, hc => by
    have ja : j < A.length := by rw [hA.len]; omega
    obtain ⟨A1, y5, ext1, e1, h1, h2, h3⟩ := close_inner cf hn (a := j) (by omega) x1 r0 (atA A j) A x5 st hA (fun l hl => hA.gt j l hl)
    have hc1 : Clo A1 j := by
      intro i hi l hl m hm
      by_cases e : i = j
      · subst e
        rw [h3] at hl ⊢
        have lj : i < l := by
          rcases hl with q | ⟨z, hz, q⟩
          · exact (hA.gt i l q).1
          · have := (hA.gt i z hz).1
            have := (hA.gt z l q).1
            omega
        rw [h2 l (by omega)] at hm
        rcases hl with q | ⟨z, hz, q⟩
        · exact .inr ⟨l, q, hm⟩
        · have := (hA.gt i z hz).1
          exact .inr ⟨z, hz, hc z (by omega) l q m hm⟩
      · rw [h2 i e] at hl ⊢
        have := (hA.gt i l hl).1
        rw [h2 l (by omega)] at hm
        exact hc i (by omega) l hl m hm
    obtain ⟨A2, z3, z5, ext2, e2, h4, h5⟩ := close_outer cf hn x1 r0 j A1 (.va (.int j)) y5 (st ++ ext1) (by omega) h1 hc1
    refine ⟨A2, z3, z5, ext1 ++ ext2, ?_, h4, h5⟩
    rw [List.range_succ, List.reverse_append, ← List.append_assoc]
    refine (for_nx rfl ?_).trans e2
    have i1 := atA_ix lD ja
    have lde : lD (atA A j) = .lst ((atA A j).map intD) := rfl
    rw [lde] at i1
    simp [forF, asgTg, p8__law_web, intD, i1] at e1 ⊢
    simp [e1]
theorem subl_gt {zs ys : List Nat} (h : ys.Sublist zs) (hz : zs.Pairwise (· < ·)) : ys.Pairwise (· < ·) := hz.sublist h
/-- a row of later worlds drawn -/
theorem row_lc (k n : Nat) (x1 x2 x3 : Sl) : ∀ (zs : List Nat) (st : St), Pot st n → ∃ (ys : List Nat) (st' : St), lcLoop (lcF (callN pg (k + 1)) pg.gl [.va (.ref n), x1, x2, x3, .no, .no, .no, .no] (.var 5) (.nm 5) p9__law_web [5]) [] [.va (.ref n), x1, x2, x3, .no, .no, .no, .no] (zs.map intD) st = .ok (ys.map intD) st' ∧ ys.Sublist zs ∧ Dr n st st'
  | [], st, p => ⟨[], st, lc_nil rfl, .slnil, Dr.refl p⟩
  | z :: zs, st, p => by
    obtain ⟨w, s1, e1, w1, w2, d1⟩ := e_draw k n 2 st p (by omega) (by omega)
    obtain ⟨ys, s2, e2, h2, d2⟩ := row_lc k n x1 x2 x3 zs s1 (d1.pot p)
    by_cases hw : w = 0
    · refine ⟨z :: ys, s2, lc_some rfl ?_ e2, h2.cons_cons z, d1.trans d2⟩
      simp [lcF, asgTg, wipeE, p9__law_web, e1, hw]
    · refine ⟨ys, s2, lc_none rfl ?_ e2, h2.cons z, d1.trans d2⟩
      simp [lcF, asgTg, wipeE, p9__law_web, e1, hw]
theorem atA_cons0 {α : Type} (r : List α) (A : List (List α)) : atA (r :: A) 0 = r := rfl
theorem atA_cons {α : Type} (r : List α) (A : List (List α)) (i : Nat) : atA (r :: A) (i + 1) = atA A i := by simp [atA]
theorem rangeL_map (lo m : Nat) : rangeL (lo : Int) m = (List.range' lo m).map intD := by
  unfold rangeL
  rw [List.range'_eq_map_range, List.map_map]
  refine List.map_congr_left fun a _ => ?_
  simp [intD]
theorem rows_lc (k n : Nat) (many : Nat) (hm : many ≤ 5) (x2 : Sl) : ∀ (m lo : Nat) (st : St), Pot st n → lo + m = many →
    ∃ (A : List (List Nat)) (st' : St), lcLoop (lcF (callN pg (k + 1)) pg.gl [.va (.ref n), .va (.int many), x2, .no, .no, .no, .no, .no] p10__law_web (.nm 3) (.cst (.bl true)) [3]) [] [.va (.ref n), .va (.int many), x2, .no, .no, .no, .no, .no] ((List.range' lo m).map intD) st = .ok (A.map lD) st' ∧
      A.length = m ∧ (∀ i, (atA A i).Pairwise (· < ·)) ∧ (∀ i, ∀ l ∈ atA A i, lo + i < l ∧ l < many) ∧ Dr n st st'
  | 0, lo, st, p, _ => ⟨[], st, lc_nil rfl, rfl, by simp [atA], by simp [atA], Dr.refl p⟩
  | m + 1, lo, st, p, hl => by
    obtain ⟨ys, s1, e1, h1, d1⟩ := row_lc k n (.va (.int many)) x2 (.va (.int lo)) (List.range' (lo + 1) (many - (lo + 1))) st p
    obtain ⟨A, s2, e2, h2, h3, h4, d2⟩ := rows_lc k n many hm x2 m (lo + 1) s1 (d1.pot p) (by omega)
    have hys : ∀ y ∈ ys, lo < y ∧ y < many := by
      intro y hy
      have := h1.subset hy
      rw [List.mem_range'_1] at this
      omega
    refine ⟨ys :: A, s2, ?_, by simp [h2], fun i => ?_, fun i l hl => ?_, d1.trans d2⟩
    · rw [List.range'_succ]
      refine lc_some rfl ?_ e2
      have rg : rg2R (.int ((lo : Int) + 1)) (.int many) st = .ok ((List.range' (lo + 1) (many - (lo + 1))).map intD, []) st := by
        rw [rg2R_int st (by simp [okRange]; omega) (by simp [okRange]; omega), ← rangeL_map]
        have : ((many : Int) - ((lo : Int) + 1)).toNat = many - (lo + 1) := by omega
        rw [this]
        rfl
      have hs : 10 ≤ sizeLine := by decide
      have lc := lcL_ok (cf := callN pg (k + 1)) (gl := pg.gl) (xs := (List.range' (lo + 1) (many - (lo + 1))).map intD) (by simp; omega) e1
      simp [lcF, asgTg, wipeE, p10__law_web, intD, rg] at lc ⊢
      simp [lc, lD, intD]
    · cases i with
      | zero => rw [atA_cons0]; exact subl_gt h1 (List.pairwise_lt_range' ..)
      | succ i => rw [atA_cons]; exact h3 i
    · cases i with
      | zero => rw [atA_cons0] at hl; exact hys l hl
      | succ i => rw [atA_cons] at hl; have := h4 i l hl; omega
/-- names drawn -/
def dC (ys : List (List Nat)) : C := .dct (kvz (ys.map stK'))
theorem Dr_app {n : Nat} {s E t : St} (hn : n < s.length) (h : Dr n (s ++ E) t) : ∃ s', t = s' ++ E ∧ Dr n s s' ∧ s'.length = s.length := by
  obtain ⟨a, b, e, q⟩ := h
  exact ⟨s.set n (.lst [.int a, .int b]), by rw [e, List.set_append, if_pos hn], ⟨a, b, rfl, q⟩, by simp⟩
theorem Pot_app {n : Nat} {s E : St} (h : Pot s n) : Pot (s ++ E) n := by
  obtain ⟨a, b, e, q⟩ := h
  exact ⟨a, b, by rw [List.getElem?_append_left (List.getElem?_eq_some_iff.mp e).1]; exact e, q⟩
theorem Pot_lt {n : Nat} {s : St} (h : Pot s n) : n < s.length := by
  obtain ⟨a, b, e, q⟩ := h
  exact (List.getElem?_eq_some_iff.mp e).1
theorem letters_lc (k n : Nat) (x1 x2 x3 x5 : Sl) : ∀ (zs : List (List Nat)) (st : St), Pot st n → ∃ (ys : List (List Nat)) (st' : St), lcLoop (lcF (callN pg (k + 1)) pg.gl [.va (.ref n), x1, x2, x3, .no, x5, .no, .no] p3__law_web (.nm 6) p4__law_web [6]) [] [.va (.ref n), x1, x2, x3, .no, x5, .no, .no] (zs.map D.str) st = .ok (ys.map fun s => .tup [.str s, .int 0]) st' ∧ ys.Sublist zs ∧ Dr n st st'
  | [], st, p => ⟨[], st, lc_nil rfl, .slnil, Dr.refl p⟩
  | z :: zs, st, p => by
    obtain ⟨w, s1, e1, w1, w2, d1⟩ := e_draw k n 3 st p (by omega) (by omega)
    obtain ⟨ys, s2, e2, h2, d2⟩ := letters_lc k n x1 x2 x3 x5 zs s1 (d1.pot p)
    by_cases hw : w = 0
    · refine ⟨z :: ys, s2, lc_some rfl ?_ e2, h2.cons_cons z, d1.trans d2⟩
      simp [lcF, asgTg, wipeE, p3__law_web, p4__law_web, e1, hw]
    · refine ⟨ys, s2, lc_none rfl ?_ e2, h2.cons z, d1.trans d2⟩
      simp [lcF, asgTg, wipeE, p4__law_web, e1, hw]
structure NOk (N : List (List (List Nat))) : Prop where
  nd : ∀ i, (atA N i).Nodup
  abc : ∀ i, ∀ s ∈ atA N i, s = [97] ∨ s = [98] ∨ s = [99]
theorem mk_str (ys : List (List Nat)) (st : St) : mkDct (.lst (ys.map fun s => .tup [.str s, .int 0])) st = .ok (.ref st.length) (st ++ [dC (mrg [] ys)]) := by
  have e0 : kvz [] = [] := rfl
  have e1 : mergeD [] (kvz (ys.map stK')) = kvz ((mrg [] ys).map stK') := by
    rw [← e0, mergeD_z, ← mrg_map stK' stK_inj]
    rfl
  simp only [mkDct, pairs_str, e1, dC]
theorem names_lc (k n : Nat) (x1 x2 x3 x5 : Sl) : ∀ (xs : List D) (s E : St), Pot s n → ∃ (N : List (List (List Nat))) (s' : St), lcLoop (lcF (callN pg (k + 1)) pg.gl [.va (.ref n), x1, x2, x3, .no, x5, .no, .no] p5__law_web (.nm 3) (.cst (.bl true)) [3]) [] [.va (.ref n), x1, x2, x3, .no, x5, .no, .no] xs (s ++ E) = .ok ((List.range' (s.length + E.length) xs.length).map .ref) (s' ++ E ++ N.map dC) ∧
      N.length = xs.length ∧ NOk N ∧ Dr n s s' ∧ s'.length = s.length
  | [], s, E, p => ⟨[], s, by simpa using lc_nil rfl, rfl, ⟨by simp [atA], by simp [atA]⟩, Dr.refl p, rfl⟩
  | x :: xs, s, E, p => by
    obtain ⟨ys, t1, e1, h1, d1⟩ := letters_lc k n x1 x2 (.va x) x5 [[97], [98], [99]] (s ++ E) (Pot_app p)
    obtain ⟨s1, rfl, d1, l1⟩ := Dr_app (Pot_lt p) d1
    obtain ⟨N, s2, e2, h2, h3, d2, l2⟩ := names_lc k n x1 x2 x3 x5 xs s1 (E ++ [dC (mrg [] ys)]) (d1.pot p)
    refine ⟨mrg [] ys :: N, s2, ?_, by simp [h2], ⟨fun i => ?_, fun i z hz => ?_⟩, d1.trans d2, by omega⟩
    · have e3 := lcL_ok (cf := callN pg (k + 1)) (gl := pg.gl) (xs := [D.str [97], .str [98], .str [99]]) (by show 3 ≤ sizeLine; decide) e1
      rw [List.length_cons, List.range'_succ]
      have mk := mk_str ys (s1 ++ E)
      have len : s1.length + (E ++ [dC (mrg [] ys)]).length = s.length + E.length + 1 := by simp; omega
      rw [len] at e2
      have e2' : lcLoop (lcF (callN pg (k + 1)) pg.gl [.va (.ref n), x1, x2, x3, .no, x5, .no, .no] p5__law_web (.nm 3) (.cst (.bl true)) [3]) [] [.va (.ref n), x1, x2, x3, .no, x5, .no, .no] xs (s1 ++ E ++ [dC (mrg [] ys)]) = .ok ((List.range' (s.length + E.length + 1) xs.length).map .ref) (s2 ++ E ++ (mrg [] ys :: N).map dC) := by
        simpa using e2
      refine lc_some rfl ?_ e2'
      have l3 : (s1 ++ E).length = s.length + E.length := by simp; omega
      rw [l3] at mk
      simp [lcF, asgTg, wipeE, p5__law_web, e3, mk]
    · cases i with
      | zero => rw [atA_cons0]; exact nodup_mrg List.nodup_nil
      | succ i => rw [atA_cons]; exact h3.nd i
    · cases i with
      | zero =>
        rw [atA_cons0, mem_mrg] at hz
        rcases hz with hz | hz
        · cases hz
        · have := h1.subset hz
          simpa using this
      | succ i => rw [atA_cons] at hz; exact h3.abc i z hz
theorem exec_updC {cf : Cf} {gl : Nat → Option D} {env : Ev.Env} {st st1 st2 : St} {a b : E} {x y : Nat} {k0 k1 k2 : List (L2.Key × D)} (h1 : ev cf gl env st a = .ok (.ref x) st1) (h2 : st1[x]? = some (.dct k0)) (h3 : ev cf gl env st1 b = .ok (.ref y) st2) (h4 : st2[x]? = some (.dct k1)) (h5 : st2[y]? = some (.dct k2))
    (hne : x ≠ y) (hz : k1.length + k2.length ≤ sizeLine) : exec cf gl env st (.updC a b) = .nx env (st2.set x (.dct (mergeD k1 k2))) := by
  rw [exec, h1]
  simp [h2, h3, h4, h5, hne, hz]
theorem nd_short {xs : List (List Nat)} (h : xs.Nodup) (ha : ∀ s ∈ xs, s = [97] ∨ s = [98] ∨ s = [99]) : xs.length ≤ 3 := by
  have h1 := List.pairwise_mergeSort (le := leS) leS_trans leS_total xs
  have pm := List.mergeSort_perm xs leS
  have h2 : (xs.mergeSort leS).Pairwise (· ≠ ·) := pm.nodup_iff.mpr h
  have h3 : (xs.mergeSort leS).Pairwise (· < ·) := (h1.and h2).imp fun {a b} q => by
    have q1 := q.1
    simp only [leS, Bool.not_eq_true', decide_eq_false_iff_not, List.not_lt] at q1
    rcases Decidable.em (a < b) with h | h
    · exact h
    · exact absurd (List.le_antisymm q1 (List.not_lt.mp h)) q.2
  have ha' : ∀ s ∈ xs.mergeSort leS, s = [97] ∨ s = [98] ∨ s = [99] := fun s hs => ha s (pm.mem_iff.mp hs)
  have := rising_len ((xs.mergeSort leS).map fun s => s.headD 0) 97 100 (by
    rw [List.pairwise_map]
    refine h3.imp_of_mem fun {s t} hs ht q => ?_
    rcases ha' s hs with rfl | rfl | rfl <;> rcases ha' t ht with rfl | rfl | rfl <;> first | decide | (revert q; decide)) (by
    intro x hx
    obtain ⟨s, hs, rfl⟩ := List.mem_map.mp hx
    rcases ha' s hs with rfl | rfl | rfl <;> decide)
  rw [List.length_map, pm.length_eq] at this
  omega
theorem mrg_dC (xs ys : List (List Nat)) : mergeD (kvz (xs.map stK')) (kvz (ys.map stK')) = kvz ((mrg xs ys).map stK') := by
  rw [mergeD_z, mrg_map stK' stK_inj]
theorem NOk.set {N : List (List (List Nat))} (h : NOk N) (l a : Nat) (hl : l < N.length) : NOk (N.set l (mrg (atA N l) (atA N a))) := by
  refine ⟨fun i => ?_, fun i s hs => ?_⟩
  · by_cases e : l = i
    · subst e; rw [atA_set_self hl]; exact nodup_mrg (h.nd l)
    · rw [atA_set_ne e]; exact h.nd i
  · by_cases e : l = i
    · subst e
      rw [atA_set_self hl, mem_mrg] at hs
      exact hs.elim (h.abc l s) (h.abc a s)
    · rw [atA_set_ne e] at hs; exact h.abc i s hs
theorem cell_at (s : St) (N : List (List (List Nat))) {l : Nat} (hl : l < N.length) : (s ++ N.map dC)[s.length + l]? = some (dC (atA N l)) := by
  rw [List.getElem?_append_right (by omega), Nat.add_sub_cancel_left, List.getElem?_map, atA_get hl]
  rfl
theorem cell_set (s : St) (N : List (List (List Nat))) (l : Nat) (ys : List (List Nat)) : (s ++ N.map dC).set (s.length + l) (dC ys) = s ++ (N.set l ys).map dC := by
  rw [List.set_append, if_neg (by omega), Nat.add_sub_cancel_left, List.map_set]
theorem ref_ix {b n l : Nat} (h : l < n) : L2.atI ((List.range' b n).map D.ref) (l : Int) = some (.ref (b + l)) := by
  rw [atI_nat]
  simp [h]
theorem upd_inner (cf : Cf) {n : Nat} {a : Nat} (ha : a < n) (x1 r0 x2 : Sl) (s : St) : ∀ (L : List Nat) (N : List (List (List Nat))) (x5 : Sl), N.length = n → NOk N → (∀ l ∈ L, a < l ∧ l < n) →
    ∃ (N' : List (List (List Nat))) (x5' : Sl), forLoop (forF cf pg.gl (.nm 5) p1__law_web) [] (L.map intD) [r0, x1, x2, .va (.int a), .va (.lst ((List.range' s.length n).map .ref)), x5, .no, .no] (s ++ N.map dC) = .nx [r0, x1, x2, .va (.int a), .va (.lst ((List.range' s.length n).map .ref)), x5', .no, .no] (s ++ N'.map dC) ∧
      N'.length = n ∧ NOk N' ∧ (∀ i, i ≤ a → atA N' i = atA N i) ∧ (∀ i, ∀ z ∈ atA N i, z ∈ atA N' i) ∧ ∀ l ∈ L, ∀ z ∈ atA N a, z ∈ atA N' l
  | [], N, x5, hl, hN, _ => ⟨N, x5, for_nil rfl, hl, hN, fun _ _ => rfl, fun _ _ h => h, by simp⟩
  | l :: L, N, x5, hl, hN, hL => by
    have q := hL l (List.mem_cons_self ..)
    have ln_ : l < N.length := by omega
    have an : a < N.length := by omega
    obtain ⟨N', x5', e, h1, h2, h3, h4, h5⟩ := upd_inner cf ha x1 r0 x2 s L (N.set l (mrg (atA N l) (atA N a))) (.va (intD l)) (by simpa using hl) (hN.set l a ln_) fun z hz => hL z (List.mem_cons_of_mem _ hz)
    have s1 := nd_short (hN.nd l) (hN.abc l)
    have s2 := nd_short (hN.nd a) (hN.abc a)
    have hs : 10 ≤ sizeLine := by decide
    refine ⟨N', x5', (for_nx rfl ?_).trans e, h1, h2, fun i hi => by rw [h3 i hi, atA_set_ne (by omega)], fun i z hz => h4 i z ?_, fun m hm z hz => ?_⟩
    · have u := exec_updC (cf := cf) (gl := pg.gl) (env := [r0, x1, x2, .va (.int a), .va (.lst ((List.range' s.length n).map .ref)), .va (.int l), .no, .no]) (st := s ++ N.map dC) (a := .idx (.var 4) (.var 5)) (b := .idx (.var 4) (.var 3)) (x := s.length + l) (y := s.length + a)
        (st1 := s ++ N.map dC) (st2 := s ++ N.map dC) (by simp [ref_ix q.2]) (cell_at s N ln_) (by simp [ref_ix ha]) (cell_at s N ln_) (cell_at s N an) (by omega) (by simp [kvz]; omega)
      rw [mrg_dC] at u
      have u' : exec cf pg.gl [r0, x1, x2, .va (.int a), .va (.lst ((List.range' s.length n).map .ref)), .va (.int l), .no, .no] (s ++ N.map dC) (.updC (.idx (.var 4) (.var 5)) (.idx (.var 4) (.var 3))) = .nx _ ((s ++ N.map dC).set (s.length + l) (dC (mrg (atA N l) (atA N a)))) := u
      rw [cell_set] at u'
      simp only [forF, asgTg]
      simp [p1__law_web, intD, u']
    · by_cases e : l = i
      · subst e; rw [atA_set_self ln_, mem_mrg]; exact .inl hz
      · rw [atA_set_ne e]; exact hz
    · rcases List.mem_cons.mp hm with rfl | hm
      · exact h4 m z (by rw [atA_set_self ln_, mem_mrg]; exact .inr hz)
      · exact h5 m hm z (by rw [atA_set_ne (by omega)]; exact hz)
theorem upd_outer (cf : Cf) {n : Nat} (x1 r0 : Sl) (s : St) (A : List (List Nat)) (hA : Rows n A) : ∀ (m j : Nat) (N : List (List (List Nat))) (x3 x5 : Sl), j + m = n → N.length = n → NOk N → (∀ i, i < j → ∀ l ∈ atA A i, ∀ z ∈ atA N i, z ∈ atA N l) →
    ∃ (N' : List (List (List Nat))) (x3' x5' : Sl), forLoop (forF cf pg.gl (.nm 3) p2__law_web) [] ((List.range' j m).map intD) [r0, x1, .ow (A.map lD), x3, .va (.lst ((List.range' s.length n).map .ref)), x5, .no, .no] (s ++ N.map dC) = .nx [r0, x1, .ow (A.map lD), x3', .va (.lst ((List.range' s.length n).map .ref)), x5', .no, .no] (s ++ N'.map dC) ∧
      N'.length = n ∧ NOk N' ∧ ∀ i, i < n → ∀ l ∈ atA A i, ∀ z ∈ atA N' i, z ∈ atA N' l
  | 0, j, N, x3, x5, hj, hl, hN, hc => ⟨N, x3, x5, for_nil rfl, hl, hN, fun i hi => hc i (by omega)⟩
  | m + 1, j, N, x3, x5, hj, hl, hN, hc => by
    have ja : j < A.length := by rw [hA.len]; omega
    obtain ⟨N1, y5, e1, h1, h2, h3, h4, h5⟩ := upd_inner cf (n := n) (a := j) (by omega) x1 r0 (.ow (A.map lD)) s (atA A j) N x5 hl hN (fun l hq => hA.gt j l hq)
    obtain ⟨N2, z3, z5, e2, h6, h7, h8⟩ := upd_outer cf x1 r0 s A hA m (j + 1) N1 (.va (.int j)) y5 (by omega) h1 h2 (by
      intro i hi l hq z hz
      by_cases e : i = j
      · subst e
        rw [h3 i (by omega)] at hz
        exact h5 l hq z hz
      · rw [h3 i (by omega)] at hz
        exact h4 l z (hc i (by omega) l hq z hz))
    refine ⟨N2, z3, z5, ?_, h6, h7, h8⟩
    rw [List.range'_succ]
    refine (for_nx rfl ?_).trans e2
    have i1 := atA_ix lD ja
    have lde : lD (atA A j) = .lst ((atA A j).map intD) := rfl
    rw [lde] at i1
    simp only [forF, asgTg]
    simp [p2__law_web, intD, i1] at e1 ⊢
    simp [e1]
end K79

set_option Elab.async false
set_option linter.all false
set_option maxRecDepth 100000
namespace K79
open Ev
open PySem (sizeLine PyData)
/-! a web comes out -/
def srt (xs : List (List Nat)) : List (List Nat) := xs.mergeSort leS
def wsOf (n : Nat) (N : List (List (List Nat))) (A : List (List Nat)) : List W := (List.range n).map fun i => ⟨srt (atA N i), atA A i⟩
theorem wsOf_nm {n : Nat} {N : List (List (List Nat))} {A : List (List Nat)} (i : Nat) : nmAt (wsOf n N A) i = if i < n then srt (atA N i) else [] := by
  unfold nmAt wsOf
  by_cases h : i < n
  · simp [h]
  · simp [h]
theorem wsOf_la {n : Nat} {N : List (List (List Nat))} {A : List (List Nat)} (i : Nat) : laAt (wsOf n N A) i = if i < n then atA A i else [] := by
  unfold laAt wsOf
  by_cases h : i < n
  · simp [h]
  · simp [h]
theorem sort_names {N : List (List (List Nat))} (hN : NOk N) (i : Nat) : sortK ((atA N i).map D.str) = some ((srt (atA N i)).map D.str) ∧ (srt (atA N i)).Pairwise (· < ·) ∧ ∀ y, y ∈ srt (atA N i) ↔ y ∈ atA N i := by
  have h := nd_short (hN.nd i) (hN.abc i)
  refine sortK_str (atA N i) (hN.nd i) (by omega) fun z hz => ?_
  have hs : 1 ≤ sizeLine := by decide
  rcases hN.abc i z hz with rfl | rfl | rfl <;> simpa using hs
theorem wsOf_ok {n : Nat} {N : List (List (List Nat))} {A : List (List Nat)} (h1 : 1 ≤ n) (h5 : n ≤ 5) (hA : Rows n A) (hc : Clo A 0) (hN : NOk N) (hk : ∀ i, i < n → ∀ l ∈ atA A i, ∀ z ∈ atA N i, z ∈ atA N l) : Wok (wsOf n N A) := by
  have len : (wsOf n N A).length = n := by simp [wsOf]
  refine ⟨by omega, by omega, fun i l hl => ?_, fun i l hl s hs => ?_, fun i l hl m hm => ?_, fun i s hs => ?_, fun i => ?_, fun i => ?_⟩
  · rw [wsOf_la] at hl
    split at hl
    · rw [len]; exact hA.gt i l hl
    · cases hl
  · rw [wsOf_la] at hl
    rw [wsOf_nm] at hs ⊢
    split at hl
    · rename_i q
      rw [if_pos q] at hs
      rw [if_pos (hA.gt i l hl).2]
      exact ((sort_names hN l).2.2 s).mpr (hk i q l hl s (((sort_names hN i).2.2 s).mp hs))
    · cases hl
  · rw [wsOf_la] at hl hm ⊢
    split at hl
    · rename_i q
      rw [if_pos (hA.gt i l hl).2] at hm
      rw [if_pos q]
      exact hc i (by omega) l hl m hm
    · cases hl
  · rw [wsOf_nm] at hs
    split at hs
    · exact hN.abc i s (((sort_names hN i).2.2 s).mp hs)
    · cases hs
  · rw [wsOf_nm]
    split
    · exact (sort_names hN i).2.1
    · exact List.Pairwise.nil
  · rw [wsOf_la]
    split
    · exact hA.ris i
    · exact List.Pairwise.nil
theorem e_web (k n : Nat) (st : St) (p : Pot st n) : ∃ (ws : List W) (st' : St), callN pg (k + 2) 32 [.ref n] st = .ok (webD ws) st' ∧ Wok ws ∧ Pot st' n := by
  obtain ⟨d, s0, e0, d1, d2, dr0⟩ := e_draw k n 5 st p (by omega) (by omega)
  obtain ⟨many, hmany⟩ : ∃ many : Nat, (1 : Int) + d = many := ⟨(1 + d).toNat, by omega⟩
  have hm1 : 1 ≤ many := by omega
  have hm5 : many ≤ 5 := by omega
  have hs : 10 ≤ sizeLine := by decide
  have p0 := dr0.pot p
  obtain ⟨A, s1, e1, a1, a2, a3, dr1⟩ := rows_lc k n many hm5 .no many 0 s0 p0 (by omega)
  have hA : Rows many A := ⟨a1, a2, fun i l hl => by have := a3 i l hl; omega⟩
  have p1 := dr1.pot p0
  obtain ⟨A', x3', x5', ext, e2, hA', hc⟩ := close_outer (callN pg (k + 1)) hm5 (.va (.int many)) (.va (.ref n)) many A .no .no s1 (Nat.le_refl _) hA (by
    intro i hi l hl
    have := (hA.gt i l hl).1
    have := (hA.gt i l hl).2
    omega)
  obtain ⟨N, s2, e3, n1, hN, dr2, l2⟩ := names_lc k n (.va (.int many)) (.ow (A'.map lD)) x3' x5' ((List.range' 0 many).map intD) s1 ext p1
  have p2 := dr2.pot p1
  have nl : N.length = many := by rw [n1]; simp
  have rl : ((List.range' 0 many).map intD).length = many := by simp
  obtain ⟨B, hB⟩ : ∃ B, B = s2 ++ ext := ⟨_, rfl⟩
  obtain ⟨S1, hS1⟩ : ∃ B, B = s1 ++ ext := ⟨_, rfl⟩
  have pB : Pot B n := by rw [hB]; exact Pot_app p2
  have b2 : s1.length + ext.length = B.length := by rw [hB]; simp; omega
  rw [← hS1] at e2 e3
  rw [← hB, b2, rl] at e3
  obtain ⟨N', y3, y5, e4, n2, hN', hk⟩ := upd_outer (callN pg (k + 1)) (n := many) (.va (.int many)) (.va (.ref n)) B A' hA' many 0 N x3' x5' (by omega) nl hN (by intro i hi; omega)
  obtain ⟨S3, hS3⟩ : ∃ S, S = B ++ N.map dC := ⟨_, rfl⟩
  obtain ⟨S4, hS4⟩ : ∃ S, S = B ++ N'.map dC := ⟨_, rfl⟩
  obtain ⟨RF, hRF⟩ : ∃ S, S = (List.range' B.length many).map D.ref := ⟨_, rfl⟩
  obtain ⟨RL, hRL⟩ : ∃ S, S = (List.range many).reverse.map intD := ⟨_, rfl⟩
  rw [← hS3, ← hRF] at e3
  rw [← hS3, ← hS4, ← hRF] at e4
  rw [← hRL] at e2
  have rg : ∀ st, rg1R (.int many) st = .ok ((List.range' 0 many).map intD, []) st := fun st => by
    rw [rg1R_int st (by simp [okRange]; omega), Int.toNat_natCast]
    have := rangeL_map 0 many
    simp only [Int.ofNat_zero, Int.natCast_zero] at this
    try rw [this]
    try exact congrArg (fun z => R.ok (z, []) st) this
  have rlen : ((List.range' 0 many).map intD).length ≤ sizeLine := by simp; omega
  have lc1 := lcL_ok (cf := callN pg (k + 1)) (gl := pg.gl) rlen e1
  have lc2 := lcL_ok (cf := callN pg (k + 1)) (gl := pg.gl) rlen e3
  have lrg : ∀ st, lrgR (.int many) st = .ok (.lst ((List.range many).map intD)) st := fun st => by
    rw [lrgR_int st (by simp [okRange]; omega) (by simp; omega), Int.toNat_natCast]
    have := rangeL_map 0 many
    simp only [Int.ofNat_zero, Int.natCast_zero] at this
    rw [List.range_eq_range']
    try rw [this]
    try exact congrArg (fun z => R.ok (.lst z) st) this
  have rev : revD (.lst ((List.range many).map intD)) = some (.lst RL) := by rw [hRL]; simp [revD]
  have fin := lcL_ok (cf := callN pg (k + 1)) (gl := pg.gl) rlen (lc_map (gs := []) (env := [.va (.ref n), .va (.int many), .ow (A'.map lD), y3, .va (.lst RF), y5, .no, .no])
    (f := lcF (callN pg (k + 1)) pg.gl [.va (.ref n), .va (.int many), .ow (A'.map lD), y3, .va (.lst RF), y5, .no, .no] p0__law_web (.nm 3) (.cst (.bl true)) [3]) (st := S4)
    (fun d => match d with | .int i => W.d ⟨srt (atA N' i.toNat), atA A' i.toNat⟩ | _ => .non) (xs := (List.range' 0 many).map intD) rfl (by
      intro d hd
      obtain ⟨i, hi, rfl⟩ := List.mem_map.mp hd
      rw [List.mem_range'_1] at hi
      have i1 := ref_ix (b := B.length) (n := many) (l := i) (by omega)
      rw [← hRF] at i1
      have i2 := atA_ix lD (A := A') (i := i) (by rw [hA'.len]; omega)
      have lde : lD (atA A' i) = .lst ((atA A' i).map intD) := rfl
      rw [lde] at i2
      have c1 := cell_at B N' (l := i) (by omega)
      rw [← hS4] at c1
      have v1 : vwK S4 (.ref (B.length + i)) = .lst ((atA N' i).map D.str) := by
        simp only [vwK, c1, dC]
        simp [kvz, Function.comp_def, keyD_st]
      have v2 : biD .sortedD [.lst ((atA N' i).map D.str)] = some (.lst ((srt (atA N' i)).map D.str)) := by
        simp only [biD, one, lstD, Option.bind_some, (sort_names hN' i).1]
        rfl
      simp only [lcF, asgTg, wipeE]
      simp [p0__law_web, intD, i1, i2, v1, v2, W.d]))
  have res : ((List.range' 0 many).map intD).map (fun d => match d with | .int i => W.d ⟨srt (atA N' i.toNat), atA A' i.toNat⟩ | _ => .non) = (wsOf many N' A').map W.d := by
    simp only [wsOf, List.map_map, List.range_eq_range']
    rfl
  rw [res] at fin
  refine ⟨wsOf many N' A', S4, ?_, wsOf_ok hm1 hm5 hA' hc hN' hk, by rw [hS4]; exact Pot_app pB⟩
  rw [call_eq (d := ⟨1, 8, b__law_web⟩) rfl rfl]
  simp [b__law_web, e0, hmany, rg, lc1, lrg, rev, e2, lc2, e4, fin, webD]
end K79

set_option Elab.async false
set_option linter.all false
set_option maxRecDepth 100000
namespace K79
open Ev
open PySem (sizeLine PyData)
/-! the law -/
mutual
theorem eqv_refl : ∀ v : D, okD v = true → PyData.eqv v.py v.py = true
  | .non, _ => rfl
  | .bl b, _ => by cases b <;> rfl
  | .int i, _ => by simp [D.py, PyData.eqv]
  | .str x, _ => by simp [D.py, PyData.eqv]
  | .tup xs, h => by simp only [D.py, PyData.eqv]; exact eqvs_refl xs (by simpa only [okD] using h)
  | .lst xs, h => by simp only [D.py, PyData.eqv]; exact eqvs_refl xs (by simpa only [okD] using h)
  | .ref _, h => by simp [okD] at h
  | .scr _, h => by simp [okD] at h
theorem eqvs_refl : ∀ xs : List D, okDs xs = true → PyData.eqvAll (D.pys xs) (D.pys xs) = true
  | [], _ => rfl
  | x :: xs, h => by
    simp only [okDs, Bool.and_eq_true] at h
    simp only [D.pys, PyData.eqvAll, eqv_refl x h.1, eqvs_refl xs h.2, Bool.and_self]
end
theorem eqD_self {v : D} (h : okD v = true) (hd : dp v ≤ 64) : eqD v v = some true := by
  rw [eqD_ok h h (by omega), eqv_refl v h]
theorem eq_shw {v : D} (h : okD v = true) : eqD (.str (shw v)) (.str (shw v)) = some true := by
  rw [eqD_strs (lay_shw h) (lay_shw h)]
  simp
/-- a value that is looked at -/
structure GV (v : D) : Prop where
  ok : okD v = true
  len : ln v ≤ 20000
  dep : dp v ≤ 10
theorem GV.sz {v : D} (h : GV v) : ln v ≤ sizeLine := by
  have h1 := h.len
  have h2 : 20000 ≤ sizeLine := by decide
  omega
theorem GV.repr {v : D} (h : GV v) : reprD v = some (.str (shw v)) := reprD_ok h.ok h.sz (by have := h.dep; omega)
theorem e_is_web16 (k : Nat) (v : D) (st : St) (h : okD v = true) (hl : ln v ≤ sizeLine) : callN pg (k + 7) 16 [v] st = .ok (.bl (isWeb v)) st := by
  rw [call_eq (d := ⟨1, 1, b_is_web⟩) rfl rfl]
  simp [b_is_web, e_is_web k v st h hl]
theorem right_val (k : Nat) (v : D) (st : St) (h : GV v) (x0 x1 x2 x3 x4 x5 x6 x7 x8 x9 x10 x11 x12 : Sl) : ∃ y3 y6 y9, forF (callN pg (k + 7)) pg.gl (.nm 3) p4__law_right v [x0, x1, x2, x3, x4, x5, x6, x7, x8, x9, x10, x11, x12] st = .nx [x0, x1, x2, y3, x4, x5, y6, x7, x8, y9, x10, x11, x12] st := by
  have hl := h.sz
  have e1 := e_law_is_web (k + 6) v st h.ok hl
  have e2 := e_is_web16 k v st h.ok hl
  have r := h.repr
  have vs := vwS_ok (st := st) h.ok
  obtain ⟨b, hb⟩ : ∃ b, isWeb v = b := ⟨_, rfl⟩
  rw [hb] at e1 e2
  have gb : GV (.lst [.bl b, .bl b]) := by cases b <;> exact ⟨by decide +kernel, by decide +kernel, by decide +kernel⟩
  have r2 := gb.repr
  have q1 := eq_shw gb.ok
  have q2 := eq_shw h.ok
  refine ⟨.va v, .va (.bl b), .va (.str (shw v)), ?_⟩
  simp only [forF, asgTg]
  simp [p4__law_right, e1, e2, r, vs, r2, q1, q2]
theorem right_vals (k : Nat) (st : St) (x0 x1 x2 x4 x5 x7 x8 x10 x11 x12 : Sl) : ∀ (vs : List D) (x3 x6 x9 : Sl), (∀ v ∈ vs, GV v) → ∃ y3 y6 y9, forLoop (forF (callN pg (k + 7)) pg.gl (.nm 3) p4__law_right) [] vs [x0, x1, x2, x3, x4, x5, x6, x7, x8, x9, x10, x11, x12] st = .nx [x0, x1, x2, y3, x4, x5, y6, x7, x8, y9, x10, x11, x12] st
  | [], x3, x6, x9, _ => ⟨x3, x6, x9, for_nil rfl⟩
  | v :: vs, x3, x6, x9, h => by
    obtain ⟨y3, y6, y9, e⟩ := right_val k v st (h v (List.mem_cons_self ..)) x0 x1 x2 x3 x4 x5 x6 x7 x8 x9 x10 x11 x12
    obtain ⟨z3, z6, z9, e2⟩ := right_vals k st x0 x1 x2 x4 x5 x7 x8 x10 x11 x12 vs y3 y6 y9 fun u hu => h u (List.mem_cons_of_mem _ hu)
    exact ⟨z3, z6, z9, (for_nx rfl e).trans e2⟩
/-! the values -/
def wd (ws : List W) : List D := ws.map W.d
def two0 : D := .tup [.tup [], .tup []]
def vals1 (ws : List W) : List D := [webD ws, .lst [.str cW, .tup (wd ws)], .tup [.str cW], .tup [.str cW, .tup (wd ws), .int 0], .non, .tup [], .str cW, .tup [.str cW, .tup []], .tup [.str cW, .tup (wd ws).reverse], .tup [.str cW, .lst (wd ws)], .tup [.str [87, 101, 98], .tup (wd ws)], .tup [.str cW, .tup [.tup [.tup [.str [97], .str [97]], .tup []]]]]
def vals2 : List D := [.tup [.str cW, .tup [.tup [.tup [.str [98], .str [97]], .tup []]]], .tup [.str cW, .tup [.tup [.tup [.str [65]], .tup []]]], .tup [.str cW, .tup [.tup [.tup [], .tup [.int 1]], .tup [.tup [], .tup [.int 2]], .tup [.tup [], .tup []]]], .tup [.str cW, .tup [.tup [.tup [.str [97]], .tup [.int 1]], .tup [.tup [], .tup []]]]]
def vals3 : List D := [.tup [.str cW, .tup [.tup [.tup [], .tup [.int 0]]]], .tup [.str cW, .tup [.tup [.tup [], .tup [.bl true]], .tup [.tup [], .tup []]]], .tup [.str cW, .tup (List.replicate 200 two0)], .tup [.str cW, .tup (List.replicate 201 two0)]]
theorem gv_b (v : D) (h : (okD v && decide (ln v ≤ 20000) && decide (dp v ≤ 10)) = true) : GV v := by
  simp only [Bool.and_eq_true, decide_eq_true_eq] at h
  exact ⟨h.1.1, h.1.2, h.2⟩
theorem lns_rev (xs : List D) : lns xs.reverse = lns xs := by
  induction xs with
  | nil => rfl
  | cons x xs ih =>
    rw [List.reverse_cons, lns_append, ih]
    simp only [lns]
    omega
theorem gv_vals1 {ws : List W} (h : Wok ws) : ∀ v ∈ vals1 ws, GV v := by
  have o := ws_ok h
  have l := web_ln h
  have d := web_dp ws
  simp only [webD, ln, lns] at l
  simp only [webD, dp, dps] at d
  have or : okDs (ws.map W.d).reverse = true := okDs_sub o fun y hy => List.mem_reverse.mp hy
  have lr := lns_rev (ws.map W.d)
  have dr : dps (ws.map W.d).reverse ≤ dps (ws.map W.d) := dps_sub fun y hy => List.mem_reverse.mp hy
  have ow : okD (.str cW) = true := by decide +kernel
  have ow2 : okD (.str [87, 101, 98]) = true := by decide +kernel
  have oi : okD (.int 0) = true := by decide +kernel
  have cl : List.length cW = 3 := rfl
  intro v hv
  simp only [vals1, wd, List.mem_cons, List.not_mem_nil, or_false] at hv
  rcases hv with rfl | rfl | rfl | rfl | rfl | rfl | rfl | rfl | rfl | rfl | rfl | rfl
  · exact ⟨web_ok h, by have := web_ln h; omega, by have := web_dp ws; omega⟩
  · exact ⟨by simp only [okD, okDs, o, Bool.and_true]; exact ow, by simp only [ln, lns]; omega, by simp only [dp, dps]; omega⟩
  · exact gv_b _ (by decide +kernel)
  · exact ⟨by simp only [okD, okDs, o, Bool.and_true, Bool.true_and] at ow oi ⊢; rw [ow, oi]; rfl, by simp only [ln, lns]; omega, by simp only [dp, dps]; omega⟩
  · exact gv_b _ (by decide +kernel)
  · exact gv_b _ (by decide +kernel)
  · exact gv_b _ (by decide +kernel)
  · exact gv_b _ (by decide +kernel)
  · exact ⟨by simp only [okD, okDs, or, Bool.and_true]; exact ow, by simp only [ln, lns, lr]; omega, by simp only [dp, dps]; omega⟩
  · exact ⟨by simp only [okD, okDs, o, Bool.and_true]; exact ow, by simp only [ln, lns]; omega, by simp only [dp, dps]; omega⟩
  · exact ⟨by simp only [okD, okDs, o, Bool.and_true]; exact ow2, by simp only [ln, lns, List.length_cons, List.length_nil]; omega, by simp only [dp, dps]; omega⟩
  · exact gv_b _ (by decide +kernel)
theorem gv_vals2 : ∀ v ∈ vals2, GV v := by
  intro v hv
  simp only [vals2, List.mem_cons, List.not_mem_nil, or_false] at hv
  rcases hv with rfl | rfl | rfl | rfl <;> exact gv_b _ (by decide +kernel)
theorem gv_vals3 : ∀ v ∈ vals3, GV v := by
  intro v hv
  simp only [vals3, List.mem_cons, List.not_mem_nil, or_false] at hv
  rcases hv with rfl | rfl | rfl | rfl <;> exact gv_b _ (by decide +kernel)
theorem ivs_le {xs : List D} {n : Nat} (h : ∀ x ∈ xs, iv x ≤ n) : ivs xs ≤ n := by
  induction xs with
  | nil => simp [ivs]
  | cons x xs ih =>
    simp only [ivs]
    have := ih fun y hy => h y (List.mem_cons_of_mem _ hy)
    have := h x (List.mem_cons_self ..)
    omega
theorem web_bv {ws : List W} (h : Wok ws) : BV (webD ws) := by
  refine ⟨web_ok h, web_ln h, ?_⟩
  have hw : ∀ w ∈ ws, iv w.d ≤ 1000 := by
    intro w hw
    obtain ⟨i, hi, rfl⟩ := List.mem_iff_getElem.mp hw
    have h1 : ivs (ws[i].nm.map D.str) ≤ 0 := ivs_le fun x hx => by
      obtain ⟨s, _, rfl⟩ := List.mem_map.mp hx
      simp [iv]
    have h2 : ivs (ws[i].la.map intD) ≤ 1000 := ivs_le fun x hx => by
      obtain ⟨l, hl, rfl⟩ := List.mem_map.mp hx
      have := (h.gt i l (by rw [la_at hi]; exact hl)).2
      have := h.most
      simp only [intD, iv]
      omega
    simp only [W.d, iv, ivs]
    omega
  have h3 : ivs (ws.map W.d) ≤ 1000 := ivs_le fun x hx => by
    obtain ⟨w, q, rfl⟩ := List.mem_map.mp hx
    exact hw w q
  simp only [webD, iv, ivs]
  omega
theorem bents_lc {ws : List W} (h : Wok ws) (k n : Nat) (x2 x3 x4 x5 x6 x7 x8 x9 x10 x11 x12 : Sl) : ∀ (xs : List D) (st : St), Pot st n → ∃ (ys : List D) (st' : St), lcLoop (lcF (callN pg (k + 10)) pg.gl [.va (.ref n), .va (webD ws), x2, x3, x4, x5, x6, x7, x8, x9, x10, x11, x12] p3__law_right (.nm 10) (.cst (.bl true)) [10]) [] [.va (.ref n), .va (webD ws), x2, x3, x4, x5, x6, x7, x8, x9, x10, x11, x12] xs st = .ok ys st' ∧ ys.length = xs.length ∧ (∀ y ∈ ys, GV y) ∧ Dr n st st'
  | [], st, p => ⟨[], st, lc_nil rfl, rfl, by simp, Dr.refl p⟩
  | x :: xs, st, p => by
    obtain ⟨v, s1, e1, b1, d1⟩ := e_bent n 5 (webD ws) (k + 10) st (by have := web_dp ws; omega) (by omega) p (web_bv h)
    obtain ⟨ys, s2, e2, h2, h3, d2⟩ := bents_lc h k n x2 x3 x4 x5 x6 x7 x8 x9 x10 x11 x12 xs s1 (d1.pot p)
    have l1 := web_ln h
    have l2 := web_dp ws
    refine ⟨v :: ys, s2, lc_some rfl ?_ e2, by simp [h2], fun y hy => ?_, d1.trans d2⟩
    · simp [lcF, asgTg, wipeE, p3__law_right, e1]
    · rcases List.mem_cons.mp hy with rfl | hy
      · exact ⟨b1.ok, by have := b1.len; omega, by have := b1.dep; omega⟩
      · exact h3 y hy
/-! truths looked at -/
theorem fnd_mem {ws : List W} {κ : Ki} {d : D} (hd : d ∈ Fnd ws κ) : ∃ i : Nat, i < ws.length ∧ d = intD i := by
  unfold Fnd at hd
  obtain ⟨t, ht, e⟩ := List.mem_filterMap.mp hd
  obtain ⟨i, hi, rfl⟩ := List.mem_mapIdx.mp ht
  rw [Ts_len] at hi
  have e1 : (Ts ws κ)[i] = .bl (T ws κ i) := by simp [Ts]
  rw [e1] at e
  cases q : T ws κ i with
  | true =>
    rw [q] at e
    cases e
    exact ⟨i, hi, rfl⟩
  | false =>
    rw [q] at e
    cases e
theorem fnd_len {ws : List W} (h : Wok ws) (κ : Ki) : (Fnd ws κ).length ≤ 5 := by
  have := List.length_filterMap_le toldG ((Ts ws κ).mapIdx fun i u => D.tup [.int i, u])
  rw [List.length_mapIdx, Ts_len] at this
  have := h.most
  unfold Fnd
  omega
theorem lns_bnd {xs : List D} {b : Nat} (h : ∀ x ∈ xs, ln x ≤ b) : lns xs ≤ (b + 2) * xs.length := by
  have := lns_le' id b xs h
  simpa using this
theorem gv_fnd {ws : List W} (h : Wok ws) (κ : Ki) : GV (.lst (Fnd ws κ)) ∧ GV (.lst [.lst (Fnd ws κ), .lst (Fnd ws κ)]) := by
  have o : okDs (Fnd ws κ) = true := okDs_iff.mpr fun d hd => by
    obtain ⟨i, hi, rfl⟩ := fnd_mem hd
    have := h.most
    exact int_ok (by omega)
  have l : lns (Fnd ws κ) ≤ 110 := by
    have := lns_bnd (xs := Fnd ws κ) (b := 20) fun d hd => by
      obtain ⟨i, hi, rfl⟩ := fnd_mem hd
      simp [intD, ln]
    have := fnd_len h κ
    omega
  have d : dps (Fnd ws κ) ≤ 0 := dps_le fun d hd => by
    obtain ⟨i, hi, rfl⟩ := fnd_mem hd
    simp [intD, dp]
  exact ⟨⟨by simp only [okD]; exact o, by simp only [ln]; omega, by simp only [dp]; omega⟩, ⟨by simp only [okD, okDs, o, Bool.and_self], by simp only [ln, lns]; omega, by simp only [dp, dps]; omega⟩⟩
/-- one world looked at -/
theorem right_at {ws : List W} (h : Wok ws) (κ : Ki) (hκ : Fit κ) (k : Nat) (st : St) (i : Nat) (hi : i < ws.length) (x0 x2 x3 x4 x7 x8 x9 x10 x11 : Sl) :
    forF (callN pg (k + 10)) pg.gl (.nm 8) p1__law_right (.int i) [x0, .va (webD ws), x2, x3, x4, .va κ.d, .va (.lst (Ts ws κ)), x7, x8, x9, x10, x11, .no] st = .nx [x0, .va (webD ws), x2, x3, x4, .va κ.d, .va (.lst (Ts ws κ)), x7, .va (.int i), x9, x10, x11, .no] st := by
  have e1 := e_is_true h κ hκ i k st hi
  have t1 := Ts_at (κ := κ) hi
  obtain ⟨b, hb⟩ : ∃ b, T ws κ i = b := ⟨_, rfl⟩
  rw [hb] at e1 t1
  have gb : GV (.lst [.bl b, .bl b]) := by cases b <;> exact ⟨by decide +kernel, by decide +kernel, by decide +kernel⟩
  have r2 := gb.repr
  have q1 := eq_shw gb.ok
  have mul : binD .mul (.lst [.bl b]) (.int 2) = some (.lst [.bl b, .bl b]) := by rfl
  have hs : 6 ≤ sizeLine := by decide
  have lal := la_len h hi
  simp only [forF, asgTg]
  cases b with
  | false => simp [p1__law_right, e1, t1, r2, q1, mul]
  | true =>
    have lc := lcL_ok (cf := callN pg (k + 10)) (gl := pg.gl) (xs := ws[i].la.map intD) (by simp; omega)
      (lc_map (gs := []) (env := [x0, .va (webD ws), x2, x3, x4, .va κ.d, .va (.lst (Ts ws κ)), x7, .va (.int i), x9, x10, x11, .no])
        (f := lcF (callN pg (k + 10)) pg.gl [x0, .va (webD ws), x2, x3, x4, .va κ.d, .va (.lst (Ts ws κ)), x7, .va (.int i), x9, x10, x11, .no] p0__law_right (.nm 12) (.cst (.bl true)) [12]) (st := st) (fun _ => .bl true) (xs := ws[i].la.map intD) rfl (by
          intro d hd
          obtain ⟨l, hl, rfl⟩ := List.mem_map.mp hd
          have hl2 : l ∈ laAt ws i := by rw [la_at hi]; exact hl
          have t2 := Ts_at (κ := κ) (h.gt i l hl2).2
          rw [T_mono h κ i l hl2 hb] at t2
          simp [lcF, asgTg, wipeE, p0__law_right, intD, t2]))
    have am := all_map (fun _ => true) (ws[i].la.map intD)
    have ix : L2.atI (ws.map W.d) (i : Int) = some (.tup [.tup (ws[i].nm.map .str), .tup (ws[i].la.map intD)]) := by
      rw [atI_nat, List.getElem?_map, List.getElem?_eq_getElem hi]; rfl
    have am2 : biD .all [.lst ((ws[i].la.map intD).map fun _ => D.bl true)] = some (.bl true) := by
      rw [am]
      congr 2
      rw [List.all_eq_true]; simp
    obtain ⟨Z, hZ⟩ : ∃ Z, Z = (ws[i].la.map intD).map fun _ => D.bl true := ⟨_, rfl⟩
    rw [← hZ] at lc am2
    simp only [webD] at e1 lc ⊢
    simp [p1__law_right, e1, t1, r2, q1, mul, ix, lc, am2]
theorem right_ats {ws : List W} (h : Wok ws) (κ : Ki) (hκ : Fit κ) (k : Nat) (st : St) (x0 x2 x3 x4 x7 x9 x10 x11 : Sl) : ∀ (xs : List Nat) (x8 : Sl), (∀ x ∈ xs, x < ws.length) →
    ∃ y8, forLoop (forF (callN pg (k + 10)) pg.gl (.nm 8) p1__law_right) [] (xs.map intD) [x0, .va (webD ws), x2, x3, x4, .va κ.d, .va (.lst (Ts ws κ)), x7, x8, x9, x10, x11, .no] st = .nx [x0, .va (webD ws), x2, x3, x4, .va κ.d, .va (.lst (Ts ws κ)), x7, y8, x9, x10, x11, .no] st
  | [], x8, _ => ⟨x8, for_nil rfl⟩
  | x :: xs, x8, hx => by
    obtain ⟨y8, e⟩ := right_ats h κ hκ k st x0 x2 x3 x4 x7 x9 x10 x11 xs (.va (.int x)) fun y hy => hx y (List.mem_cons_of_mem _ hy)
    exact ⟨y8, (for_nx rfl (right_at h κ hκ k st x (hx x (List.mem_cons_self ..)) x0 x2 x3 x4 x7 x8 x9 x10 x11)).trans e⟩
theorem right_kind {ws : List W} (h : Wok ws) (κ : Ki) (hκ : Fit κ) (k : Nat) (st : St) (x0 x2 x3 x4 x5 x6 x7 x8 x9 x10 x11 : Sl) :
    ∃ y5 y6 y7 y8, forF (callN pg (k + 10)) pg.gl (.nm 5) p2__law_right κ.d [x0, .va (webD ws), x2, x3, x4, x5, x6, x7, x8, x9, x10, x11, .no] st = .nx [x0, .va (webD ws), x2, x3, x4, y5, y6, y7, y8, x9, x10, x11, .no] st := by
  have e1 := e_law_truths h st κ (k + 10) (by have := hκ.dep; omega) hκ.abc
  have e2 := e_truths h κ hκ k st
  have lc := lcL_ok (cf := callN pg (k + 10)) (gl := pg.gl) (enum_len ws κ h)
    (lc_pure (gs := []) (env := [x0, .va (webD ws), x2, x3, x4, .va κ.d, .va (.lst (Ts ws κ)), x7, x8, x9, x10, x11, .no]) (f := lcF (callN pg (k + 10)) pg.gl [x0, .va (webD ws), x2, x3, x4, .va κ.d, .va (.lst (Ts ws κ)), x7, x8, x9, x10, x11, .no] (.var 8) (.tp [.nm 8, .nm 11]) (.var 11) [8, 11]) (st := st) toldG (xs := (Ts ws κ).mapIdx fun i u => D.tup [.int i, u]) rfl (by
      intro d hd
      obtain ⟨i, hi, rfl⟩ := List.mem_mapIdx.mp hd
      have e : (Ts ws κ)[i] = .bl (T ws κ i) := by simp [Ts]
      rw [e]
      cases q : T ws κ i <;> simp [lcF, asgTg, asgTgs, wipeE, toldG]))
  have lc' : lcL (callN pg (k + 10)) pg.gl [x0, .va (webD ws), x2, x3, x4, .va κ.d, .va (.lst (Ts ws κ)), x7, x8, x9, x10, x11, .no] st (.var 8) (.tp [.nm 8, .nm 11]) (.var 11) [8, 11] ((Ts ws κ).mapIdx fun i u => D.tup [.int i, u], []) = .ok (.lst (Fnd ws κ)) st := lc
  have g2 := (gv_fnd h κ).2
  have r2 := g2.repr
  have q2 := eq_shw g2.ok
  obtain ⟨y8, e3⟩ := right_ats h κ hκ k st x0 x2 x3 x4 (.va (.lst (Fnd ws κ))) x9 x10 x11 (List.range' 0 ws.length) x8 (by
    intro x hx
    rw [List.mem_range'_1] at hx
    omega)
  have hm := h.most
  have rg : rg1R (.int ws.length) st = .ok ((List.range' 0 ws.length).map intD, []) st := by
    rw [rg_len ws.length st (by omega)]
    exact congrArg (fun z => R.ok (z, []) st) (rangeL_map 0 ws.length)
  refine ⟨.va κ.d, .va (.lst (Ts ws κ)), .va (.lst (Fnd ws κ)), y8, ?_⟩
  simp only [forF, asgTg]
  simp [p2__law_right, e1, e2, lc', r2, q2, Ts_len, rg, e3]
theorem fnd_eq {ws : List W} {κ κ' : Ki} (h : T ws κ' = T ws κ) : Fnd ws κ' = Fnd ws κ := by
  unfold Fnd Ts
  rw [h]
theorem cut21 (x y : D) : cutL [x, y] none (some 1) = [x] := by simp [cutL, HT.sIx]
theorem mul200 : binD .mul (.tup [two0]) (.int 200) = some (.tup (List.replicate 200 two0)) := by decide +kernel
theorem mul201 : binD .mul (.tup [two0]) (.int 201) = some (.tup (List.replicate 201 two0)) := by decide +kernel
theorem e_right (k n : Nat) (st : St) (p : Pot st n) : ∃ st', callN pg (k + 20) 33 [.ref n] st = .ok (.bl true) st' ∧ Pot st' n := by
  obtain ⟨ws, s1, e1, h, p1⟩ := e_web (k + 17) n st p
  have hs : 100 ≤ sizeLine := by decide
  obtain ⟨V1, hV1⟩ : ∃ V, V = vals1 ws := ⟨_, rfl⟩
  obtain ⟨V2, hV2⟩ : ∃ V, V = vals2 := ⟨_, rfl⟩
  obtain ⟨V3, hV3⟩ : ∃ V, V = vals3 := ⟨_, rfl⟩
  have l1 : V1.length = 12 := by rw [hV1]; rfl
  have l2 : V2.length = 4 := by rw [hV2]; rfl
  have l3 : V3.length = 4 := by rw [hV3]; rfl
  obtain ⟨ys, s2, e2, h2, h3, d2⟩ := bents_lc h (k + 9) n (.va (.lst (V1 ++ V2 ++ V3))) .no .no .no .no .no .no .no .no .no .no (rangeL 0 8) s1 p1
  have p2 := d2.pot p1
  have lb := lcL_ok (cf := callN pg (k + 9 + 10)) (gl := pg.gl) (xs := rangeL 0 8) (by rw [rangeL_len]; omega) e2
  rw [rangeL_len] at h2
  obtain ⟨y3, y6, y9, e3⟩ := right_vals (k + 12) s2 (.va (.ref n)) (.va (webD ws)) (.va (.lst (V1 ++ V2 ++ V3))) .no .no .no .no .no .no .no (V1 ++ V2 ++ V3 ++ ys) .no .no .no (by
    intro v hv
    rcases List.mem_append.mp hv with hv | hv
    · rcases List.mem_append.mp hv with hv | hv
      · rcases List.mem_append.mp hv with hv | hv
        · exact gv_vals1 h v (hV1 ▸ hv)
        · exact gv_vals2 v (hV2 ▸ hv)
      · exact gv_vals3 v (hV3 ▸ hv)
    · exact h3 v hv)
  obtain ⟨κ, s3, e4, a1, a2, a3, d3⟩ := e_some_kind n (k + 9) s2 p2
  have p3 := d3.pot p2
  obtain ⟨κ', s4, e5, b1, b2, b3, b4, d4⟩ := e_like n κ (k + 9) s3 (by omega) p3 a1
  have p4 := d4.pot p3
  have f1 : Fit κ := ⟨a1, by omega, by omega⟩
  have f2 : Fit κ' := ⟨b1, b3, by omega⟩
  obtain ⟨z5, z6, z7, z8, e6⟩ := right_kind h κ f1 (k + 9) s4 (.va (.ref n)) (.va (.lst (V1 ++ V2 ++ V3))) y3 (.va κ.d) .no y6 .no .no y9 .no .no
  obtain ⟨u5, u6, u7, u8, e7⟩ := right_kind h κ' f2 (k + 9) s4 (.va (.ref n)) (.va (.lst (V1 ++ V2 ++ V3))) y3 (.va κ.d) z5 z6 z7 z8 y9 .no .no
  have loop : forLoop (forF (callN pg (k + 9 + 10)) pg.gl (.nm 5) p2__law_right) [] [κ.d, κ'.d] [.va (.ref n), .va (webD ws), .va (.lst (V1 ++ V2 ++ V3)), y3, .va κ.d, .no, y6, .no, .no, y9, .no, .no, .no] s4 = .nx [.va (.ref n), .va (webD ws), .va (.lst (V1 ++ V2 ++ V3)), y3, .va κ.d, u5, u6, u7, u8, y9, .no, .no, .no] s4 :=
    (for_nx rfl e6).trans ((for_nx rfl e7).trans (for_nil rfl))
  have e8 := e_truths h κ f1 (k + 9) s4
  obtain ⟨κ2, s5, e9, c1, c2, c3, c4, d5⟩ := e_like n κ (k + 9) s4 (by omega) p4 a1
  have f3 : Fit κ2 := ⟨c1, c3, by omega⟩
  have e10 := e_truths h κ2 f3 (k + 9) s5
  rw [fnd_eq (c2 ws h)] at e10
  have g1 := (gv_fnd h κ).1
  have q1 := eqD_self g1.ok (by have := g1.dep; omega)
  refine ⟨s5, ?_, d5.pot p4⟩
  rw [call_eq (d := ⟨1, 13, b__law_right⟩) rfl rfl]
  have rg : rg1R (.int 8) s1 = .ok (rangeL 0 8, []) s1 := rg1R_int s1 (by decide)
  have c12 : binD .add (.lst V1) (.lst V2) = some (.lst (V1 ++ V2)) := binD_lst (by omega)
  have c123 : binD .add (.lst (V1 ++ V2)) (.lst V3) = some (.lst (V1 ++ V2 ++ V3)) := binD_lst (by simp; omega)
  have c4' : binD .add (.lst (V1 ++ V2 ++ V3)) (.lst ys) = some (.lst (V1 ++ V2 ++ V3 ++ ys)) := binD_lst (by simp; omega)
  have w0 : binD .add (.tup [.str cW, .tup (wd ws)]) (.tup [.int 0]) = some (.tup [.str cW, .tup (wd ws), .int 0]) := by simp [binD, catL, sizeLine]
  obtain ⟨V12, h12⟩ : ∃ V, V = V1 ++ V2 := ⟨_, rfl⟩
  rw [← h12] at c12 c123 c4' lb e3 loop
  obtain ⟨V123, h123⟩ : ∃ V, V = V12 ++ V3 := ⟨_, rfl⟩
  rw [← h123] at c123 c4' lb e3 loop
  obtain ⟨V4, h4⟩ : ∃ V, V = V123 ++ ys := ⟨_, rfl⟩
  rw [← h4] at c4' e3
  have t1 : V1 = [webD ws, .lst [.str cW, .tup (wd ws)], .tup [.str cW], .tup [.str cW, .tup (wd ws), .int 0], .non, .tup [], .str cW, .tup [.str cW, .tup []], .tup [.str cW, .tup (wd ws).reverse], .tup [.str cW, .lst (wd ws)], .tup [.str [87, 101, 98], .tup (wd ws)], .tup [.str cW, .tup [.tup [.tup [.str [97], .str [97]], .tup []]]]] := hV1
  have t2 : V2 = [.tup [.str cW, .tup [.tup [.tup [.str [98], .str [97]], .tup []]]], .tup [.str cW, .tup [.tup [.tup [.str [65]], .tup []]]], .tup [.str cW, .tup [.tup [.tup [], .tup [.int 1]], .tup [.tup [], .tup [.int 2]], .tup [.tup [], .tup []]]], .tup [.str cW, .tup [.tup [.tup [.str [97]], .tup [.int 1]], .tup [.tup [], .tup []]]]] := hV2
  have t3 : V3 = [.tup [.str cW, .tup [.tup [.tup [], .tup [.int 0]]]], .tup [.str cW, .tup [.tup [.tup [], .tup [.bl true]], .tup [.tup [], .tup []]]], .tup [.str cW, .tup (List.replicate 200 two0)], .tup [.str cW, .tup (List.replicate 201 two0)]] := hV3
  have m2 := mul200
  have m3 := mul201
  have ewd : webD ws = .tup [.str cW, .tup (wd ws)] := rfl
  rw [ewd] at t1 e1 lb e3 loop e8 e10
  rw [t1, t2] at c12
  rw [t3] at c123
  obtain ⟨R200, h200⟩ : ∃ V, V = List.replicate 200 two0 := ⟨_, rfl⟩
  obtain ⟨R201, h201⟩ : ∃ V, V = List.replicate 201 two0 := ⟨_, rfl⟩
  rw [← h200, ← h201] at c123
  rw [← h200] at m2
  rw [← h201] at m3
  unfold two0 at m2 m3
  simp [b__law_right, e1, slcD, bndD, cut21, w0, revD, c12, m2, m3, c123, rg, lb, c4', e3, e4, e5, loop, e8, e9, e10, q1]
theorem law_ok (ns : List Int) (h : ns.length ≤ 63) : ∃ st, callN pg lv 34 [.scr ns] [] = .ok (.bl true) st := by
  show ∃ st, callN pg 60 34 [.scr ns] [] = .ok (.bl true) st
  obtain ⟨x, y, e1, hx, hy, hy2⟩ := e_pot 58 ns 0 (.inl rfl) []
  have p0 : Pot [C.lst [.int x, .int y]] 0 := ⟨x, y, rfl, hx, hy, hy2⟩
  obtain ⟨s1, e2, p1⟩ := e_right 39 0 _ p0
  obtain ⟨s2, e3, p2⟩ := e_right 39 0 s1 p1
  obtain ⟨x', y', e4, hx', hy', hy2'⟩ := e_pot 58 ns 1 (.inr rfl) s2
  have p3 : Pot (s2 ++ [C.lst [.int x', .int y']]) s2.length := ⟨x', y', by simp, hx', hy', hy2'⟩
  obtain ⟨s3, e5, p4⟩ := e_right 39 s2.length _ p3
  refine ⟨s3, ?_⟩
  rw [call_eq (d := ⟨1, 2, b_law⟩) rfl rfl]
  have e1' : callN pg 59 19 [.scr ns, .int 0] [] = .ok (.ref 0) [C.lst [.int x, .int y]] := e1
  simp [b_law, e1', e2, e3, e4, e5]
end K79

set_option Elab.async false
set_option linter.all false
set_option maxRecDepth 100000
set_option maxHeartbeats 0
/-! The head of the law: what its top leaves. Written by gen.py. -/
namespace K79
open PySem PySem.Spec PyProof.Rows L2 Ev
def dD (i : Nat) (x : Str) : He.DefD := ⟨(x, none), x, x, defArgs (top i), defBody (top i), defScope (top i), [], []⟩
def fn : List He.DefD := [dD 6 "is_integer", dD 7 "is_count", dD 8 "is_below", dD 9 "is_row", dD 10 "is_rising", dD 20 "is_name", dD 21 "is_built", dD 22 "is_kind_of", dD 23 "is_leaf", dD 24 "width_of", dD 25 "want_kind", dD 29 "is_world", dD 30 "is_kept", dD 31 "is_web_of", dD 32 "truths_of", dD 33 "want_web", dD 34 "is_web", dD 35 "is_true", dD 36 "truths", dD 38 "_law_pot", dD 39 "_law_draw", dD 40 "_law_pick", dD 41 "_law_kind", dD 42 "_law_width", dD 43 "_law_depth", dD 44 "_law_some_kind", dD 45 "_law_shape", dD 46 "_law_bent", dD 47 "_law_led", dD 48 "_law_like", dD 49 "_law_is_web", dD 50 "_law_truths", dD 51 "_law_web", dD 52 "_law_right", dD 53 "law"]
def fa1 : List He.Fa := [.glo "is_integer", .glo "is_count", .glo "is_below", .glo "is_row", .glo "is_rising", .glo "is_name", .glo "is_built", .glo "is_kind_of", .glo "is_leaf", .glo "width_of", .glo "want_kind", .glo "is_world", .glo "is_kept", .glo "is_web_of", .glo "truths_of", .glo "want_web", .glo "is_web", .glo "is_true", .glo "truths", .glo "_law_pot", .glo "_law_draw", .glo "_law_pick", .glo "_law_kind", .glo "_law_width", .glo "_law_depth", .glo "_law_some_kind", .glo "_law_shape", .glo "_law_bent", .glo "_law_led", .glo "_law_like", .glo "_law_is_web", .glo "_law_truths", .glo "_law_web", .glo "_law_right", .glo "law"]
def fa2 : List He.Fa := [.str "LETTERS" "abcdefghijklmnopqrstuvwxyz", .int "MOST_LETTERS" 8, .str "FROM" "from", .str "PAIR" "pair", .str "NOTHING" "nothing", .str "ATOM" "atom", .int "MOST_WIDTH" 12, .int "MOST_DEPTH" 6, .int "MOST_WORLDS" 200, .str "WEB" "web"]
def fa : List He.Fa := fa1 ++ (fa2 ++ bnames.map He.Fa.free)
def loose0 : List PySem.Str := ["__name__", "KindError", "InvalidKind", "InvalidWeb", "InvalidWorld", "is_integer", "is_count", "is_below", "is_row", "is_rising", "ATOM", "NOTHING", "PAIR", "FROM", "LETTERS", "MOST_WIDTH", "MOST_DEPTH", "MOST_LETTERS", "is_name", "is_built", "is_kind_of", "is_leaf", "width_of", "want_kind", "WEB", "MOST_WORLDS", "is_world", "is_kept", "is_web_of", "truths_of"]
def loose1 : List PySem.Str := ["want_web", "is_web", "is_true", "truths", "_law_pot", "_law_draw", "_law_pick", "_law_kind", "_law_width", "_law_depth", "_law_some_kind", "_law_shape", "_law_bent", "_law_led", "_law_like", "_law_is_web", "_law_truths", "_law_web", "_law_right"]
def loose : List PySem.Str := loose0 ++ loose1
abbrev R0 : PySem.W.OpenRow := PySem.W.OpenLaw.row PySem.Challenge.rw_kindsalike_k79_whole_webs_of_worlds
abbrev hk : PySem.W.Hook := He.hookD 4 fa fn
def ob (s : PySem.W.SharedT) : He.AlD := He.obsDG 4 fa fn (HandSHeadRun.getT s)
theorem ob_eq (s : PySem.W.SharedT) : ob s = hk.obs s.abs := He.obsDG_eq (HandSHeadRun.getT_eq s)
theorem run (w : World) : HandSHeadRun.RunEq R0 (PySem.W.view R0.prog [53]) hk ob 4000 loose w := by
  intro os
  kernel_rfl
end K79

set_option Elab.async false
set_option linter.all false
set_option maxRecDepth 100000
/-! Each def is as its tree says. Written by gen.py. -/
namespace K79
open PySem PySem.Spec PyProof.Rows L2 Ev
theorem kwBind {K : PySem.W.Frag} {x qual : Str} {params : Arguments} {body : List Stmt} {scope : Scope} {kws : List (Str × V)} {f : Addr} {fd : FuncData} {args : Args} {binds : List (Str × Value)} (F : FunD K x qual params body scope [] kws f fd)
    (h : ∀ (kV doc pm : Value) (an : Option Addr) (cdv ct : Value), bindArgs (PySem.W.fnOf x qual params body scope .none kV doc pm an cdv ct) args = pure binds) (s : Shared) : BindsTo s fd args binds := by
  obtain ⟨oc, od, dV, kV, doc, pm, an, cdv, ct, osl, rfl, lk, hcd, hD, hK⟩ := F.ex
  rcases hD with ⟨_, rfl⟩ | ⟨e, _⟩
  · exact .of_eq (h kV doc pm an cdv ct)
  · exact absurd rfl e
section
variable {K : PySem.W.Frag} {h : Heap} {mg : Str → Option Value}
theorem s_is_integer : FnScope N_is_integer (nm.ps 0) (defScope (top 6)) := ⟨by decide +kernel, by decide +kernel, by decide +kernel, by decide +kernel, by decide +kernel, by decide +kernel, by decide +kernel⟩
theorem ok_is_integer (X : K.In h) (Gm : h.Ns mainGlobals mg) (c : He.SaysD fa fn K) : DefOk K mg nm pg kwL 0 ⟨1, 1, b_is_integer⟩ := by
  obtain ⟨fd, F⟩ := c.def_ 0 (d := dD 6 "is_integer") rfl
  have e : mg (nm.fn 0) = some (.ref (He.ga K "is_integer")) := He.glo_ok X Gm (c.fact 0 (f := .glo "is_integer") rfl)
  refine ⟨⟨_, fd, _, _, _, _, _, _, _, N_is_integer, e, F, s_is_integer, rfl, rfl, c_is_integer, fun s us _ hl => ?_, fun q hq hf s ws zs _ hl hz => ?_⟩⟩
  · match us, hl with
    | [u0], _ => exact kwBind F (fun _ _ _ _ _ _ => rfl) s
  · simp only [kwL, List.mem_cons, List.not_mem_nil, or_false] at hq
    rcases hq with rfl | rfl | rfl
    · cases hf
    · cases hf
    · cases hf
theorem s_is_count : FnScope N_is_count (nm.ps 1) (defScope (top 7)) := ⟨by decide +kernel, by decide +kernel, by decide +kernel, by decide +kernel, by decide +kernel, by decide +kernel, by decide +kernel⟩
theorem ok_is_count (X : K.In h) (Gm : h.Ns mainGlobals mg) (c : He.SaysD fa fn K) : DefOk K mg nm pg kwL 1 ⟨1, 1, b_is_count⟩ := by
  obtain ⟨fd, F⟩ := c.def_ 1 (d := dD 7 "is_count") rfl
  have e : mg (nm.fn 1) = some (.ref (He.ga K "is_count")) := He.glo_ok X Gm (c.fact 1 (f := .glo "is_count") rfl)
  refine ⟨⟨_, fd, _, _, _, _, _, _, _, N_is_count, e, F, s_is_count, rfl, rfl, c_is_count, fun s us _ hl => ?_, fun q hq hf s ws zs _ hl hz => ?_⟩⟩
  · match us, hl with
    | [u0], _ => exact kwBind F (fun _ _ _ _ _ _ => rfl) s
  · simp only [kwL, List.mem_cons, List.not_mem_nil, or_false] at hq
    rcases hq with rfl | rfl | rfl
    · cases hf
    · cases hf
    · cases hf
theorem s_is_below : FnScope N_is_below (nm.ps 2) (defScope (top 8)) := ⟨by decide +kernel, by decide +kernel, by decide +kernel, by decide +kernel, by decide +kernel, by decide +kernel, by decide +kernel⟩
theorem ok_is_below (X : K.In h) (Gm : h.Ns mainGlobals mg) (c : He.SaysD fa fn K) : DefOk K mg nm pg kwL 2 ⟨2, 2, b_is_below⟩ := by
  obtain ⟨fd, F⟩ := c.def_ 2 (d := dD 8 "is_below") rfl
  have e : mg (nm.fn 2) = some (.ref (He.ga K "is_below")) := He.glo_ok X Gm (c.fact 2 (f := .glo "is_below") rfl)
  refine ⟨⟨_, fd, _, _, _, _, _, _, _, N_is_below, e, F, s_is_below, rfl, rfl, c_is_below, fun s us _ hl => ?_, fun q hq hf s ws zs _ hl hz => ?_⟩⟩
  · match us, hl with
    | [u0, u1], _ => exact kwBind F (fun _ _ _ _ _ _ => rfl) s
  · simp only [kwL, List.mem_cons, List.not_mem_nil, or_false] at hq
    rcases hq with rfl | rfl | rfl
    · cases hf
    · cases hf
    · cases hf
theorem s_is_row : FnScope N_is_row (nm.ps 3) (defScope (top 9)) := ⟨by decide +kernel, by decide +kernel, by decide +kernel, by decide +kernel, by decide +kernel, by decide +kernel, by decide +kernel⟩
theorem ok_is_row (X : K.In h) (Gm : h.Ns mainGlobals mg) (c : He.SaysD fa fn K) : DefOk K mg nm pg kwL 3 ⟨2, 2, b_is_row⟩ := by
  obtain ⟨fd, F⟩ := c.def_ 3 (d := dD 9 "is_row") rfl
  have e : mg (nm.fn 3) = some (.ref (He.ga K "is_row")) := He.glo_ok X Gm (c.fact 3 (f := .glo "is_row") rfl)
  refine ⟨⟨_, fd, _, _, _, _, _, _, _, N_is_row, e, F, s_is_row, rfl, rfl, c_is_row, fun s us _ hl => ?_, fun q hq hf s ws zs _ hl hz => ?_⟩⟩
  · match us, hl with
    | [u0, u1], _ => exact kwBind F (fun _ _ _ _ _ _ => rfl) s
  · simp only [kwL, List.mem_cons, List.not_mem_nil, or_false] at hq
    rcases hq with rfl | rfl | rfl
    · cases hf
    · cases hf
    · cases hf
theorem s_is_rising : FnScope N_is_rising (nm.ps 4) (defScope (top 10)) := ⟨by decide +kernel, by decide +kernel, by decide +kernel, by decide +kernel, by decide +kernel, by decide +kernel, by decide +kernel⟩
theorem ok_is_rising (X : K.In h) (Gm : h.Ns mainGlobals mg) (c : He.SaysD fa fn K) : DefOk K mg nm pg kwL 4 ⟨1, 3, b_is_rising⟩ := by
  obtain ⟨fd, F⟩ := c.def_ 4 (d := dD 10 "is_rising") rfl
  have e : mg (nm.fn 4) = some (.ref (He.ga K "is_rising")) := He.glo_ok X Gm (c.fact 4 (f := .glo "is_rising") rfl)
  refine ⟨⟨_, fd, _, _, _, _, _, _, _, N_is_rising, e, F, s_is_rising, rfl, rfl, c_is_rising, fun s us _ hl => ?_, fun q hq hf s ws zs _ hl hz => ?_⟩⟩
  · match us, hl with
    | [u0], _ => exact kwBind F (fun _ _ _ _ _ _ => rfl) s
  · simp only [kwL, List.mem_cons, List.not_mem_nil, or_false] at hq
    rcases hq with rfl | rfl | rfl
    · cases hf
    · cases hf
    · cases hf
theorem s_is_name : FnScope N_is_name (nm.ps 5) (defScope (top 20)) := ⟨by decide +kernel, by decide +kernel, by decide +kernel, by decide +kernel, by decide +kernel, by decide +kernel, by decide +kernel⟩
theorem ok_is_name (X : K.In h) (Gm : h.Ns mainGlobals mg) (c : He.SaysD fa fn K) : DefOk K mg nm pg kwL 5 ⟨1, 2, b_is_name⟩ := by
  obtain ⟨fd, F⟩ := c.def_ 5 (d := dD 20 "is_name") rfl
  have e : mg (nm.fn 5) = some (.ref (He.ga K "is_name")) := He.glo_ok X Gm (c.fact 5 (f := .glo "is_name") rfl)
  refine ⟨⟨_, fd, _, _, _, _, _, _, _, N_is_name, e, F, s_is_name, rfl, rfl, c_is_name, fun s us _ hl => ?_, fun q hq hf s ws zs _ hl hz => ?_⟩⟩
  · match us, hl with
    | [u0], _ => exact kwBind F (fun _ _ _ _ _ _ => rfl) s
  · simp only [kwL, List.mem_cons, List.not_mem_nil, or_false] at hq
    rcases hq with rfl | rfl | rfl
    · cases hf
    · cases hf
    · cases hf
theorem s_is_built : FnScope N_is_built (nm.ps 6) (defScope (top 21)) := ⟨by decide +kernel, by decide +kernel, by decide +kernel, by decide +kernel, by decide +kernel, by decide +kernel, by decide +kernel⟩
theorem ok_is_built (X : K.In h) (Gm : h.Ns mainGlobals mg) (c : He.SaysD fa fn K) : DefOk K mg nm pg kwL 6 ⟨2, 2, b_is_built⟩ := by
  obtain ⟨fd, F⟩ := c.def_ 6 (d := dD 21 "is_built") rfl
  have e : mg (nm.fn 6) = some (.ref (He.ga K "is_built")) := He.glo_ok X Gm (c.fact 6 (f := .glo "is_built") rfl)
  refine ⟨⟨_, fd, _, _, _, _, _, _, _, N_is_built, e, F, s_is_built, rfl, rfl, c_is_built, fun s us _ hl => ?_, fun q hq hf s ws zs _ hl hz => ?_⟩⟩
  · match us, hl with
    | [u0, u1], _ => exact kwBind F (fun _ _ _ _ _ _ => rfl) s
  · simp only [kwL, List.mem_cons, List.not_mem_nil, or_false] at hq
    rcases hq with rfl | rfl | rfl
    · cases hf
    · cases hf
    · cases hf
theorem s_is_kind_of : FnScope N_is_kind_of (nm.ps 7) (defScope (top 22)) := ⟨by decide +kernel, by decide +kernel, by decide +kernel, by decide +kernel, by decide +kernel, by decide +kernel, by decide +kernel⟩
theorem ok_is_kind_of (X : K.In h) (Gm : h.Ns mainGlobals mg) (c : He.SaysD fa fn K) : DefOk K mg nm pg kwL 7 ⟨1, 1, b_is_kind_of⟩ := by
  obtain ⟨fd, F⟩ := c.def_ 7 (d := dD 22 "is_kind_of") rfl
  have e : mg (nm.fn 7) = some (.ref (He.ga K "is_kind_of")) := He.glo_ok X Gm (c.fact 7 (f := .glo "is_kind_of") rfl)
  refine ⟨⟨_, fd, _, _, _, _, _, _, _, N_is_kind_of, e, F, s_is_kind_of, rfl, rfl, c_is_kind_of, fun s us _ hl => ?_, fun q hq hf s ws zs _ hl hz => ?_⟩⟩
  · match us, hl with
    | [u0], _ => exact kwBind F (fun _ _ _ _ _ _ => rfl) s
  · simp only [kwL, List.mem_cons, List.not_mem_nil, or_false] at hq
    rcases hq with rfl | rfl | rfl
    · cases hf
    · cases hf
    · cases hf
theorem s_is_leaf : FnScope N_is_leaf (nm.ps 8) (defScope (top 23)) := ⟨by decide +kernel, by decide +kernel, by decide +kernel, by decide +kernel, by decide +kernel, by decide +kernel, by decide +kernel⟩
theorem ok_is_leaf (X : K.In h) (Gm : h.Ns mainGlobals mg) (c : He.SaysD fa fn K) : DefOk K mg nm pg kwL 8 ⟨1, 1, b_is_leaf⟩ := by
  obtain ⟨fd, F⟩ := c.def_ 8 (d := dD 23 "is_leaf") rfl
  have e : mg (nm.fn 8) = some (.ref (He.ga K "is_leaf")) := He.glo_ok X Gm (c.fact 8 (f := .glo "is_leaf") rfl)
  refine ⟨⟨_, fd, _, _, _, _, _, _, _, N_is_leaf, e, F, s_is_leaf, rfl, rfl, c_is_leaf, fun s us _ hl => ?_, fun q hq hf s ws zs _ hl hz => ?_⟩⟩
  · match us, hl with
    | [u0], _ => exact kwBind F (fun _ _ _ _ _ _ => rfl) s
  · simp only [kwL, List.mem_cons, List.not_mem_nil, or_false] at hq
    rcases hq with rfl | rfl | rfl
    · cases hf
    · cases hf
    · cases hf
theorem s_width_of : FnScope N_width_of (nm.ps 9) (defScope (top 24)) := ⟨by decide +kernel, by decide +kernel, by decide +kernel, by decide +kernel, by decide +kernel, by decide +kernel, by decide +kernel⟩
theorem ok_width_of (X : K.In h) (Gm : h.Ns mainGlobals mg) (c : He.SaysD fa fn K) : DefOk K mg nm pg kwL 9 ⟨1, 1, b_width_of⟩ := by
  obtain ⟨fd, F⟩ := c.def_ 9 (d := dD 24 "width_of") rfl
  have e : mg (nm.fn 9) = some (.ref (He.ga K "width_of")) := He.glo_ok X Gm (c.fact 9 (f := .glo "width_of") rfl)
  refine ⟨⟨_, fd, _, _, _, _, _, _, _, N_width_of, e, F, s_width_of, rfl, rfl, c_width_of, fun s us _ hl => ?_, fun q hq hf s ws zs _ hl hz => ?_⟩⟩
  · match us, hl with
    | [u0], _ => exact kwBind F (fun _ _ _ _ _ _ => rfl) s
  · simp only [kwL, List.mem_cons, List.not_mem_nil, or_false] at hq
    rcases hq with rfl | rfl | rfl
    · cases hf
    · cases hf
    · cases hf
theorem s_want_kind : FnScope N_want_kind (nm.ps 10) (defScope (top 25)) := ⟨by decide +kernel, by decide +kernel, by decide +kernel, by decide +kernel, by decide +kernel, by decide +kernel, by decide +kernel⟩
theorem ok_want_kind (X : K.In h) (Gm : h.Ns mainGlobals mg) (c : He.SaysD fa fn K) : DefOk K mg nm pg kwL 10 ⟨1, 1, b_want_kind⟩ := by
  obtain ⟨fd, F⟩ := c.def_ 10 (d := dD 25 "want_kind") rfl
  have e : mg (nm.fn 10) = some (.ref (He.ga K "want_kind")) := He.glo_ok X Gm (c.fact 10 (f := .glo "want_kind") rfl)
  refine ⟨⟨_, fd, _, _, _, _, _, _, _, N_want_kind, e, F, s_want_kind, rfl, rfl, c_want_kind, fun s us _ hl => ?_, fun q hq hf s ws zs _ hl hz => ?_⟩⟩
  · match us, hl with
    | [u0], _ => exact kwBind F (fun _ _ _ _ _ _ => rfl) s
  · simp only [kwL, List.mem_cons, List.not_mem_nil, or_false] at hq
    rcases hq with rfl | rfl | rfl
    · cases hf
    · cases hf
    · cases hf
theorem s_is_world : FnScope N_is_world (nm.ps 11) (defScope (top 29)) := ⟨by decide +kernel, by decide +kernel, by decide +kernel, by decide +kernel, by decide +kernel, by decide +kernel, by decide +kernel⟩
theorem ok_is_world (X : K.In h) (Gm : h.Ns mainGlobals mg) (c : He.SaysD fa fn K) : DefOk K mg nm pg kwL 11 ⟨3, 5, b_is_world⟩ := by
  obtain ⟨fd, F⟩ := c.def_ 11 (d := dD 29 "is_world") rfl
  have e : mg (nm.fn 11) = some (.ref (He.ga K "is_world")) := He.glo_ok X Gm (c.fact 11 (f := .glo "is_world") rfl)
  refine ⟨⟨_, fd, _, _, _, _, _, _, _, N_is_world, e, F, s_is_world, rfl, rfl, c_is_world, fun s us _ hl => ?_, fun q hq hf s ws zs _ hl hz => ?_⟩⟩
  · match us, hl with
    | [u0, u1, u2], _ => exact kwBind F (fun _ _ _ _ _ _ => rfl) s
  · simp only [kwL, List.mem_cons, List.not_mem_nil, or_false] at hq
    rcases hq with rfl | rfl | rfl
    · cases hf
    · cases hf
    · cases hf
theorem s_is_kept : FnScope N_is_kept (nm.ps 12) (defScope (top 30)) := ⟨by decide +kernel, by decide +kernel, by decide +kernel, by decide +kernel, by decide +kernel, by decide +kernel, by decide +kernel⟩
theorem ok_is_kept (X : K.In h) (Gm : h.Ns mainGlobals mg) (c : He.SaysD fa fn K) : DefOk K mg nm pg kwL 12 ⟨2, 7, b_is_kept⟩ := by
  obtain ⟨fd, F⟩ := c.def_ 12 (d := dD 30 "is_kept") rfl
  have e : mg (nm.fn 12) = some (.ref (He.ga K "is_kept")) := He.glo_ok X Gm (c.fact 12 (f := .glo "is_kept") rfl)
  refine ⟨⟨_, fd, _, _, _, _, _, _, _, N_is_kept, e, F, s_is_kept, rfl, rfl, c_is_kept, fun s us _ hl => ?_, fun q hq hf s ws zs _ hl hz => ?_⟩⟩
  · match us, hl with
    | [u0, u1], _ => exact kwBind F (fun _ _ _ _ _ _ => rfl) s
  · simp only [kwL, List.mem_cons, List.not_mem_nil, or_false] at hq
    rcases hq with rfl | rfl | rfl
    · cases hf
    · cases hf
    · cases hf
theorem s_is_web_of : FnScope N_is_web_of (nm.ps 13) (defScope (top 31)) := ⟨by decide +kernel, by decide +kernel, by decide +kernel, by decide +kernel, by decide +kernel, by decide +kernel, by decide +kernel⟩
theorem ok_is_web_of (X : K.In h) (Gm : h.Ns mainGlobals mg) (c : He.SaysD fa fn K) : DefOk K mg nm pg kwL 13 ⟨1, 3, b_is_web_of⟩ := by
  obtain ⟨fd, F⟩ := c.def_ 13 (d := dD 31 "is_web_of") rfl
  have e : mg (nm.fn 13) = some (.ref (He.ga K "is_web_of")) := He.glo_ok X Gm (c.fact 13 (f := .glo "is_web_of") rfl)
  refine ⟨⟨_, fd, _, _, _, _, _, _, _, N_is_web_of, e, F, s_is_web_of, rfl, rfl, c_is_web_of, fun s us _ hl => ?_, fun q hq hf s ws zs _ hl hz => ?_⟩⟩
  · match us, hl with
    | [u0], _ => exact kwBind F (fun _ _ _ _ _ _ => rfl) s
  · simp only [kwL, List.mem_cons, List.not_mem_nil, or_false] at hq
    rcases hq with rfl | rfl | rfl
    · cases hf
    · cases hf
    · cases hf
theorem s_truths_of : FnScope N_truths_of (nm.ps 14) (defScope (top 32)) := ⟨by decide +kernel, by decide +kernel, by decide +kernel, by decide +kernel, by decide +kernel, by decide +kernel, by decide +kernel⟩
theorem ok_truths_of (X : K.In h) (Gm : h.Ns mainGlobals mg) (c : He.SaysD fa fn K) : DefOk K mg nm pg kwL 14 ⟨2, 12, b_truths_of⟩ := by
  obtain ⟨fd, F⟩ := c.def_ 14 (d := dD 32 "truths_of") rfl
  have e : mg (nm.fn 14) = some (.ref (He.ga K "truths_of")) := He.glo_ok X Gm (c.fact 14 (f := .glo "truths_of") rfl)
  refine ⟨⟨_, fd, _, _, _, _, _, _, _, N_truths_of, e, F, s_truths_of, rfl, rfl, c_truths_of, fun s us _ hl => ?_, fun q hq hf s ws zs _ hl hz => ?_⟩⟩
  · match us, hl with
    | [u0, u1], _ => exact kwBind F (fun _ _ _ _ _ _ => rfl) s
  · simp only [kwL, List.mem_cons, List.not_mem_nil, or_false] at hq
    rcases hq with rfl | rfl | rfl
    · cases hf
    · cases hf
    · cases hf
theorem s_want_web : FnScope N_want_web (nm.ps 15) (defScope (top 33)) := ⟨by decide +kernel, by decide +kernel, by decide +kernel, by decide +kernel, by decide +kernel, by decide +kernel, by decide +kernel⟩
theorem ok_want_web (X : K.In h) (Gm : h.Ns mainGlobals mg) (c : He.SaysD fa fn K) : DefOk K mg nm pg kwL 15 ⟨1, 1, b_want_web⟩ := by
  obtain ⟨fd, F⟩ := c.def_ 15 (d := dD 33 "want_web") rfl
  have e : mg (nm.fn 15) = some (.ref (He.ga K "want_web")) := He.glo_ok X Gm (c.fact 15 (f := .glo "want_web") rfl)
  refine ⟨⟨_, fd, _, _, _, _, _, _, _, N_want_web, e, F, s_want_web, rfl, rfl, c_want_web, fun s us _ hl => ?_, fun q hq hf s ws zs _ hl hz => ?_⟩⟩
  · match us, hl with
    | [u0], _ => exact kwBind F (fun _ _ _ _ _ _ => rfl) s
  · simp only [kwL, List.mem_cons, List.not_mem_nil, or_false] at hq
    rcases hq with rfl | rfl | rfl
    · cases hf
    · cases hf
    · cases hf
theorem s_is_web : FnScope N_is_web (nm.ps 16) (defScope (top 34)) := ⟨by decide +kernel, by decide +kernel, by decide +kernel, by decide +kernel, by decide +kernel, by decide +kernel, by decide +kernel⟩
theorem ok_is_web (X : K.In h) (Gm : h.Ns mainGlobals mg) (c : He.SaysD fa fn K) : DefOk K mg nm pg kwL 16 ⟨1, 1, b_is_web⟩ := by
  obtain ⟨fd, F⟩ := c.def_ 16 (d := dD 34 "is_web") rfl
  have e : mg (nm.fn 16) = some (.ref (He.ga K "is_web")) := He.glo_ok X Gm (c.fact 16 (f := .glo "is_web") rfl)
  refine ⟨⟨_, fd, _, _, _, _, _, _, _, N_is_web, e, F, s_is_web, rfl, rfl, c_is_web, fun s us _ hl => ?_, fun q hq hf s ws zs _ hl hz => ?_⟩⟩
  · match us, hl with
    | [u0], _ => exact kwBind F (fun _ _ _ _ _ _ => rfl) s
  · simp only [kwL, List.mem_cons, List.not_mem_nil, or_false] at hq
    rcases hq with rfl | rfl | rfl
    · cases hf
    · match ws, hl, hz with
      | [w0], _, hz =>
        obtain rfl : [w0] = zs := Option.some.inj hz
        exact kwBind F (fun _ _ _ _ _ _ => rfl) s
    · cases hf
theorem s_is_true : FnScope N_is_true (nm.ps 17) (defScope (top 35)) := ⟨by decide +kernel, by decide +kernel, by decide +kernel, by decide +kernel, by decide +kernel, by decide +kernel, by decide +kernel⟩
theorem ok_is_true (X : K.In h) (Gm : h.Ns mainGlobals mg) (c : He.SaysD fa fn K) : DefOk K mg nm pg kwL 17 ⟨3, 3, b_is_true⟩ := by
  obtain ⟨fd, F⟩ := c.def_ 17 (d := dD 35 "is_true") rfl
  have e : mg (nm.fn 17) = some (.ref (He.ga K "is_true")) := He.glo_ok X Gm (c.fact 17 (f := .glo "is_true") rfl)
  refine ⟨⟨_, fd, _, _, _, _, _, _, _, N_is_true, e, F, s_is_true, rfl, rfl, c_is_true, fun s us _ hl => ?_, fun q hq hf s ws zs _ hl hz => ?_⟩⟩
  · match us, hl with
    | [u0, u1, u2], _ => exact kwBind F (fun _ _ _ _ _ _ => rfl) s
  · simp only [kwL, List.mem_cons, List.not_mem_nil, or_false] at hq
    rcases hq with rfl | rfl | rfl
    · match ws, hl, hz with
      | [w0, w1, w2], _, hz =>
        obtain rfl : [w2, w1, w0] = zs := Option.some.inj hz
        exact kwBind F (fun _ _ _ _ _ _ => rfl) s
    · cases hf
    · cases hf
theorem s_truths : FnScope N_truths (nm.ps 18) (defScope (top 36)) := ⟨by decide +kernel, by decide +kernel, by decide +kernel, by decide +kernel, by decide +kernel, by decide +kernel, by decide +kernel⟩
theorem ok_truths (X : K.In h) (Gm : h.Ns mainGlobals mg) (c : He.SaysD fa fn K) : DefOk K mg nm pg kwL 18 ⟨2, 5, b_truths⟩ := by
  obtain ⟨fd, F⟩ := c.def_ 18 (d := dD 36 "truths") rfl
  have e : mg (nm.fn 18) = some (.ref (He.ga K "truths")) := He.glo_ok X Gm (c.fact 18 (f := .glo "truths") rfl)
  refine ⟨⟨_, fd, _, _, _, _, _, _, _, N_truths, e, F, s_truths, rfl, rfl, c_truths, fun s us _ hl => ?_, fun q hq hf s ws zs _ hl hz => ?_⟩⟩
  · match us, hl with
    | [u0, u1], _ => exact kwBind F (fun _ _ _ _ _ _ => rfl) s
  · simp only [kwL, List.mem_cons, List.not_mem_nil, or_false] at hq
    rcases hq with rfl | rfl | rfl
    · cases hf
    · cases hf
    · match ws, hl, hz with
      | [w0, w1], _, hz =>
        obtain rfl : [w1, w0] = zs := Option.some.inj hz
        exact kwBind F (fun _ _ _ _ _ _ => rfl) s
theorem s__law_pot : FnScope N__law_pot (nm.ps 19) (defScope (top 38)) := ⟨by decide +kernel, by decide +kernel, by decide +kernel, by decide +kernel, by decide +kernel, by decide +kernel, by decide +kernel⟩
theorem ok__law_pot (X : K.In h) (Gm : h.Ns mainGlobals mg) (c : He.SaysD fa fn K) : DefOk K mg nm pg kwL 19 ⟨2, 3, b__law_pot⟩ := by
  obtain ⟨fd, F⟩ := c.def_ 19 (d := dD 38 "_law_pot") rfl
  have e : mg (nm.fn 19) = some (.ref (He.ga K "_law_pot")) := He.glo_ok X Gm (c.fact 19 (f := .glo "_law_pot") rfl)
  refine ⟨⟨_, fd, _, _, _, _, _, _, _, N__law_pot, e, F, s__law_pot, rfl, rfl, c__law_pot, fun s us _ hl => ?_, fun q hq hf s ws zs _ hl hz => ?_⟩⟩
  · match us, hl with
    | [u0, u1], _ => exact kwBind F (fun _ _ _ _ _ _ => rfl) s
  · simp only [kwL, List.mem_cons, List.not_mem_nil, or_false] at hq
    rcases hq with rfl | rfl | rfl
    · cases hf
    · cases hf
    · cases hf
theorem s__law_draw : FnScope N__law_draw (nm.ps 20) (defScope (top 39)) := ⟨by decide +kernel, by decide +kernel, by decide +kernel, by decide +kernel, by decide +kernel, by decide +kernel, by decide +kernel⟩
theorem ok__law_draw (X : K.In h) (Gm : h.Ns mainGlobals mg) (c : He.SaysD fa fn K) : DefOk K mg nm pg kwL 20 ⟨2, 3, b__law_draw⟩ := by
  obtain ⟨fd, F⟩ := c.def_ 20 (d := dD 39 "_law_draw") rfl
  have e : mg (nm.fn 20) = some (.ref (He.ga K "_law_draw")) := He.glo_ok X Gm (c.fact 20 (f := .glo "_law_draw") rfl)
  refine ⟨⟨_, fd, _, _, _, _, _, _, _, N__law_draw, e, F, s__law_draw, rfl, rfl, c__law_draw, fun s us _ hl => ?_, fun q hq hf s ws zs _ hl hz => ?_⟩⟩
  · match us, hl with
    | [u0, u1], _ => exact kwBind F (fun _ _ _ _ _ _ => rfl) s
  · simp only [kwL, List.mem_cons, List.not_mem_nil, or_false] at hq
    rcases hq with rfl | rfl | rfl
    · cases hf
    · cases hf
    · cases hf
theorem s__law_pick : FnScope N__law_pick (nm.ps 21) (defScope (top 40)) := ⟨by decide +kernel, by decide +kernel, by decide +kernel, by decide +kernel, by decide +kernel, by decide +kernel, by decide +kernel⟩
theorem ok__law_pick (X : K.In h) (Gm : h.Ns mainGlobals mg) (c : He.SaysD fa fn K) : DefOk K mg nm pg kwL 21 ⟨2, 2, b__law_pick⟩ := by
  obtain ⟨fd, F⟩ := c.def_ 21 (d := dD 40 "_law_pick") rfl
  have e : mg (nm.fn 21) = some (.ref (He.ga K "_law_pick")) := He.glo_ok X Gm (c.fact 21 (f := .glo "_law_pick") rfl)
  refine ⟨⟨_, fd, _, _, _, _, _, _, _, N__law_pick, e, F, s__law_pick, rfl, rfl, c__law_pick, fun s us _ hl => ?_, fun q hq hf s ws zs _ hl hz => ?_⟩⟩
  · match us, hl with
    | [u0, u1], _ => exact kwBind F (fun _ _ _ _ _ _ => rfl) s
  · simp only [kwL, List.mem_cons, List.not_mem_nil, or_false] at hq
    rcases hq with rfl | rfl | rfl
    · cases hf
    · cases hf
    · cases hf
theorem s__law_kind : FnScope N__law_kind (nm.ps 22) (defScope (top 41)) := ⟨by decide +kernel, by decide +kernel, by decide +kernel, by decide +kernel, by decide +kernel, by decide +kernel, by decide +kernel⟩
theorem ok__law_kind (X : K.In h) (Gm : h.Ns mainGlobals mg) (c : He.SaysD fa fn K) : DefOk K mg nm pg kwL 22 ⟨3, 6, b__law_kind⟩ := by
  obtain ⟨fd, F⟩ := c.def_ 22 (d := dD 41 "_law_kind") rfl
  have e : mg (nm.fn 22) = some (.ref (He.ga K "_law_kind")) := He.glo_ok X Gm (c.fact 22 (f := .glo "_law_kind") rfl)
  refine ⟨⟨_, fd, _, _, _, _, _, _, _, N__law_kind, e, F, s__law_kind, rfl, rfl, c__law_kind, fun s us _ hl => ?_, fun q hq hf s ws zs _ hl hz => ?_⟩⟩
  · match us, hl with
    | [u0, u1, u2], _ => exact kwBind F (fun _ _ _ _ _ _ => rfl) s
  · simp only [kwL, List.mem_cons, List.not_mem_nil, or_false] at hq
    rcases hq with rfl | rfl | rfl
    · cases hf
    · cases hf
    · cases hf
theorem s__law_width : FnScope N__law_width (nm.ps 23) (defScope (top 42)) := ⟨by decide +kernel, by decide +kernel, by decide +kernel, by decide +kernel, by decide +kernel, by decide +kernel, by decide +kernel⟩
theorem ok__law_width (X : K.In h) (Gm : h.Ns mainGlobals mg) (c : He.SaysD fa fn K) : DefOk K mg nm pg kwL 23 ⟨1, 1, b__law_width⟩ := by
  obtain ⟨fd, F⟩ := c.def_ 23 (d := dD 42 "_law_width") rfl
  have e : mg (nm.fn 23) = some (.ref (He.ga K "_law_width")) := He.glo_ok X Gm (c.fact 23 (f := .glo "_law_width") rfl)
  refine ⟨⟨_, fd, _, _, _, _, _, _, _, N__law_width, e, F, s__law_width, rfl, rfl, c__law_width, fun s us _ hl => ?_, fun q hq hf s ws zs _ hl hz => ?_⟩⟩
  · match us, hl with
    | [u0], _ => exact kwBind F (fun _ _ _ _ _ _ => rfl) s
  · simp only [kwL, List.mem_cons, List.not_mem_nil, or_false] at hq
    rcases hq with rfl | rfl | rfl
    · cases hf
    · cases hf
    · cases hf
theorem s__law_depth : FnScope N__law_depth (nm.ps 24) (defScope (top 43)) := ⟨by decide +kernel, by decide +kernel, by decide +kernel, by decide +kernel, by decide +kernel, by decide +kernel, by decide +kernel⟩
theorem ok__law_depth (X : K.In h) (Gm : h.Ns mainGlobals mg) (c : He.SaysD fa fn K) : DefOk K mg nm pg kwL 24 ⟨1, 1, b__law_depth⟩ := by
  obtain ⟨fd, F⟩ := c.def_ 24 (d := dD 43 "_law_depth") rfl
  have e : mg (nm.fn 24) = some (.ref (He.ga K "_law_depth")) := He.glo_ok X Gm (c.fact 24 (f := .glo "_law_depth") rfl)
  refine ⟨⟨_, fd, _, _, _, _, _, _, _, N__law_depth, e, F, s__law_depth, rfl, rfl, c__law_depth, fun s us _ hl => ?_, fun q hq hf s ws zs _ hl hz => ?_⟩⟩
  · match us, hl with
    | [u0], _ => exact kwBind F (fun _ _ _ _ _ _ => rfl) s
  · simp only [kwL, List.mem_cons, List.not_mem_nil, or_false] at hq
    rcases hq with rfl | rfl | rfl
    · cases hf
    · cases hf
    · cases hf
theorem s__law_some_kind : FnScope N__law_some_kind (nm.ps 25) (defScope (top 44)) := ⟨by decide +kernel, by decide +kernel, by decide +kernel, by decide +kernel, by decide +kernel, by decide +kernel, by decide +kernel⟩
theorem ok__law_some_kind (X : K.In h) (Gm : h.Ns mainGlobals mg) (c : He.SaysD fa fn K) : DefOk K mg nm pg kwL 25 ⟨3, 4, b__law_some_kind⟩ := by
  obtain ⟨fd, F⟩ := c.def_ 25 (d := dD 44 "_law_some_kind") rfl
  have e : mg (nm.fn 25) = some (.ref (He.ga K "_law_some_kind")) := He.glo_ok X Gm (c.fact 25 (f := .glo "_law_some_kind") rfl)
  refine ⟨⟨_, fd, _, _, _, _, _, _, _, N__law_some_kind, e, F, s__law_some_kind, rfl, rfl, c__law_some_kind, fun s us _ hl => ?_, fun q hq hf s ws zs _ hl hz => ?_⟩⟩
  · match us, hl with
    | [u0, u1, u2], _ => exact kwBind F (fun _ _ _ _ _ _ => rfl) s
  · simp only [kwL, List.mem_cons, List.not_mem_nil, or_false] at hq
    rcases hq with rfl | rfl | rfl
    · cases hf
    · cases hf
    · cases hf
theorem s__law_shape : FnScope N__law_shape (nm.ps 26) (defScope (top 45)) := ⟨by decide +kernel, by decide +kernel, by decide +kernel, by decide +kernel, by decide +kernel, by decide +kernel, by decide +kernel⟩
theorem ok__law_shape (X : K.In h) (Gm : h.Ns mainGlobals mg) (c : He.SaysD fa fn K) : DefOk K mg nm pg kwL 26 ⟨1, 5, b__law_shape⟩ := by
  obtain ⟨fd, F⟩ := c.def_ 26 (d := dD 45 "_law_shape") rfl
  have e : mg (nm.fn 26) = some (.ref (He.ga K "_law_shape")) := He.glo_ok X Gm (c.fact 26 (f := .glo "_law_shape") rfl)
  refine ⟨⟨_, fd, _, _, _, _, _, _, _, N__law_shape, e, F, s__law_shape, rfl, rfl, c__law_shape, fun s us _ hl => ?_, fun q hq hf s ws zs _ hl hz => ?_⟩⟩
  · match us, hl with
    | [u0], _ => exact kwBind F (fun _ _ _ _ _ _ => rfl) s
  · simp only [kwL, List.mem_cons, List.not_mem_nil, or_false] at hq
    rcases hq with rfl | rfl | rfl
    · cases hf
    · cases hf
    · cases hf
theorem s__law_bent : FnScope N__law_bent (nm.ps 27) (defScope (top 46)) := ⟨by decide +kernel, by decide +kernel, by decide +kernel, by decide +kernel, by decide +kernel, by decide +kernel, by decide +kernel⟩
theorem ok__law_bent (X : K.In h) (Gm : h.Ns mainGlobals mg) (c : He.SaysD fa fn K) : DefOk K mg nm pg kwL 27 ⟨2, 5, b__law_bent⟩ := by
  obtain ⟨fd, F⟩ := c.def_ 27 (d := dD 46 "_law_bent") rfl
  have e : mg (nm.fn 27) = some (.ref (He.ga K "_law_bent")) := He.glo_ok X Gm (c.fact 27 (f := .glo "_law_bent") rfl)
  refine ⟨⟨_, fd, _, _, _, _, _, _, _, N__law_bent, e, F, s__law_bent, rfl, rfl, c__law_bent, fun s us _ hl => ?_, fun q hq hf s ws zs _ hl hz => ?_⟩⟩
  · match us, hl with
    | [u0, u1], _ => exact kwBind F (fun _ _ _ _ _ _ => rfl) s
  · simp only [kwL, List.mem_cons, List.not_mem_nil, or_false] at hq
    rcases hq with rfl | rfl | rfl
    · cases hf
    · cases hf
    · cases hf
theorem s__law_led : FnScope N__law_led (nm.ps 28) (defScope (top 47)) := ⟨by decide +kernel, by decide +kernel, by decide +kernel, by decide +kernel, by decide +kernel, by decide +kernel, by decide +kernel⟩
theorem ok__law_led (X : K.In h) (Gm : h.Ns mainGlobals mg) (c : He.SaysD fa fn K) : DefOk K mg nm pg kwL 28 ⟨2, 4, b__law_led⟩ := by
  obtain ⟨fd, F⟩ := c.def_ 28 (d := dD 47 "_law_led") rfl
  have e : mg (nm.fn 28) = some (.ref (He.ga K "_law_led")) := He.glo_ok X Gm (c.fact 28 (f := .glo "_law_led") rfl)
  refine ⟨⟨_, fd, _, _, _, _, _, _, _, N__law_led, e, F, s__law_led, rfl, rfl, c__law_led, fun s us _ hl => ?_, fun q hq hf s ws zs _ hl hz => ?_⟩⟩
  · match us, hl with
    | [u0, u1], _ => exact kwBind F (fun _ _ _ _ _ _ => rfl) s
  · simp only [kwL, List.mem_cons, List.not_mem_nil, or_false] at hq
    rcases hq with rfl | rfl | rfl
    · cases hf
    · cases hf
    · cases hf
theorem s__law_like : FnScope N__law_like (nm.ps 29) (defScope (top 48)) := ⟨by decide +kernel, by decide +kernel, by decide +kernel, by decide +kernel, by decide +kernel, by decide +kernel, by decide +kernel⟩
theorem ok__law_like (X : K.In h) (Gm : h.Ns mainGlobals mg) (c : He.SaysD fa fn K) : DefOk K mg nm pg kwL 29 ⟨3, 5, b__law_like⟩ := by
  obtain ⟨fd, F⟩ := c.def_ 29 (d := dD 48 "_law_like") rfl
  have e : mg (nm.fn 29) = some (.ref (He.ga K "_law_like")) := He.glo_ok X Gm (c.fact 29 (f := .glo "_law_like") rfl)
  refine ⟨⟨_, fd, _, _, _, _, _, _, _, N__law_like, e, F, s__law_like, rfl, rfl, c__law_like, fun s us _ hl => ?_, fun q hq hf s ws zs _ hl hz => ?_⟩⟩
  · match us, hl with
    | [u0, u1, u2], _ => exact kwBind F (fun _ _ _ _ _ _ => rfl) s
  · simp only [kwL, List.mem_cons, List.not_mem_nil, or_false] at hq
    rcases hq with rfl | rfl | rfl
    · cases hf
    · cases hf
    · cases hf
theorem s__law_is_web : FnScope N__law_is_web (nm.ps 30) (defScope (top 49)) := ⟨by decide +kernel, by decide +kernel, by decide +kernel, by decide +kernel, by decide +kernel, by decide +kernel, by decide +kernel⟩
theorem ok__law_is_web (X : K.In h) (Gm : h.Ns mainGlobals mg) (c : He.SaysD fa fn K) : DefOk K mg nm pg kwL 30 ⟨1, 13, b__law_is_web⟩ := by
  obtain ⟨fd, F⟩ := c.def_ 30 (d := dD 49 "_law_is_web") rfl
  have e : mg (nm.fn 30) = some (.ref (He.ga K "_law_is_web")) := He.glo_ok X Gm (c.fact 30 (f := .glo "_law_is_web") rfl)
  refine ⟨⟨_, fd, _, _, _, _, _, _, _, N__law_is_web, e, F, s__law_is_web, rfl, rfl, c__law_is_web, fun s us _ hl => ?_, fun q hq hf s ws zs _ hl hz => ?_⟩⟩
  · match us, hl with
    | [u0], _ => exact kwBind F (fun _ _ _ _ _ _ => rfl) s
  · simp only [kwL, List.mem_cons, List.not_mem_nil, or_false] at hq
    rcases hq with rfl | rfl | rfl
    · cases hf
    · cases hf
    · cases hf
theorem s__law_truths : FnScope N__law_truths (nm.ps 31) (defScope (top 50)) := ⟨by decide +kernel, by decide +kernel, by decide +kernel, by decide +kernel, by decide +kernel, by decide +kernel, by decide +kernel⟩
theorem ok__law_truths (X : K.In h) (Gm : h.Ns mainGlobals mg) (c : He.SaysD fa fn K) : DefOk K mg nm pg kwL 31 ⟨2, 12, b__law_truths⟩ := by
  obtain ⟨fd, F⟩ := c.def_ 31 (d := dD 50 "_law_truths") rfl
  have e : mg (nm.fn 31) = some (.ref (He.ga K "_law_truths")) := He.glo_ok X Gm (c.fact 31 (f := .glo "_law_truths") rfl)
  refine ⟨⟨_, fd, _, _, _, _, _, _, _, N__law_truths, e, F, s__law_truths, rfl, rfl, c__law_truths, fun s us _ hl => ?_, fun q hq hf s ws zs _ hl hz => ?_⟩⟩
  · match us, hl with
    | [u0, u1], _ => exact kwBind F (fun _ _ _ _ _ _ => rfl) s
  · simp only [kwL, List.mem_cons, List.not_mem_nil, or_false] at hq
    rcases hq with rfl | rfl | rfl
    · cases hf
    · cases hf
    · cases hf
theorem s__law_web : FnScope N__law_web (nm.ps 32) (defScope (top 51)) := ⟨by decide +kernel, by decide +kernel, by decide +kernel, by decide +kernel, by decide +kernel, by decide +kernel, by decide +kernel⟩
theorem ok__law_web (X : K.In h) (Gm : h.Ns mainGlobals mg) (c : He.SaysD fa fn K) : DefOk K mg nm pg kwL 32 ⟨1, 8, b__law_web⟩ := by
  obtain ⟨fd, F⟩ := c.def_ 32 (d := dD 51 "_law_web") rfl
  have e : mg (nm.fn 32) = some (.ref (He.ga K "_law_web")) := He.glo_ok X Gm (c.fact 32 (f := .glo "_law_web") rfl)
  refine ⟨⟨_, fd, _, _, _, _, _, _, _, N__law_web, e, F, s__law_web, rfl, rfl, c__law_web, fun s us _ hl => ?_, fun q hq hf s ws zs _ hl hz => ?_⟩⟩
  · match us, hl with
    | [u0], _ => exact kwBind F (fun _ _ _ _ _ _ => rfl) s
  · simp only [kwL, List.mem_cons, List.not_mem_nil, or_false] at hq
    rcases hq with rfl | rfl | rfl
    · cases hf
    · cases hf
    · cases hf
theorem s__law_right : FnScope N__law_right (nm.ps 33) (defScope (top 52)) := ⟨by decide +kernel, by decide +kernel, by decide +kernel, by decide +kernel, by decide +kernel, by decide +kernel, by decide +kernel⟩
theorem ok__law_right (X : K.In h) (Gm : h.Ns mainGlobals mg) (c : He.SaysD fa fn K) : DefOk K mg nm pg kwL 33 ⟨1, 13, b__law_right⟩ := by
  obtain ⟨fd, F⟩ := c.def_ 33 (d := dD 52 "_law_right") rfl
  have e : mg (nm.fn 33) = some (.ref (He.ga K "_law_right")) := He.glo_ok X Gm (c.fact 33 (f := .glo "_law_right") rfl)
  refine ⟨⟨_, fd, _, _, _, _, _, _, _, N__law_right, e, F, s__law_right, rfl, rfl, c__law_right, fun s us _ hl => ?_, fun q hq hf s ws zs _ hl hz => ?_⟩⟩
  · match us, hl with
    | [u0], _ => exact kwBind F (fun _ _ _ _ _ _ => rfl) s
  · simp only [kwL, List.mem_cons, List.not_mem_nil, or_false] at hq
    rcases hq with rfl | rfl | rfl
    · cases hf
    · cases hf
    · cases hf
theorem s_law : FnScope N_law (nm.ps 34) (defScope (top 53)) := ⟨by decide +kernel, by decide +kernel, by decide +kernel, by decide +kernel, by decide +kernel, by decide +kernel, by decide +kernel⟩
theorem ok_law (X : K.In h) (Gm : h.Ns mainGlobals mg) (c : He.SaysD fa fn K) : DefOk K mg nm pg kwL 34 ⟨1, 2, b_law⟩ := by
  obtain ⟨fd, F⟩ := c.def_ 34 (d := dD 53 "law") rfl
  have e : mg (nm.fn 34) = some (.ref (He.ga K "law")) := He.glo_ok X Gm (c.fact 34 (f := .glo "law") rfl)
  refine ⟨⟨_, fd, _, _, _, _, _, _, _, N_law, e, F, s_law, rfl, rfl, c_law, fun s us _ hl => ?_, fun q hq hf s ws zs _ hl hz => ?_⟩⟩
  · match us, hl with
    | [u0], _ => exact kwBind F (fun _ _ _ _ _ _ => rfl) s
  · simp only [kwL, List.mem_cons, List.not_mem_nil, or_false] at hq
    rcases hq with rfl | rfl | rfl
    · cases hf
    · cases hf
    · cases hf
theorem defs_ok (X : K.In h) (Gm : h.Ns mainGlobals mg) (c : He.SaysD fa fn K) : ∀ f d, pg.defs f = some d → DefOk K mg nm pg kwL f d
  | 0, _, e => by cases e; exact ok_is_integer X Gm c
  | 1, _, e => by cases e; exact ok_is_count X Gm c
  | 2, _, e => by cases e; exact ok_is_below X Gm c
  | 3, _, e => by cases e; exact ok_is_row X Gm c
  | 4, _, e => by cases e; exact ok_is_rising X Gm c
  | 5, _, e => by cases e; exact ok_is_name X Gm c
  | 6, _, e => by cases e; exact ok_is_built X Gm c
  | 7, _, e => by cases e; exact ok_is_kind_of X Gm c
  | 8, _, e => by cases e; exact ok_is_leaf X Gm c
  | 9, _, e => by cases e; exact ok_width_of X Gm c
  | 10, _, e => by cases e; exact ok_want_kind X Gm c
  | 11, _, e => by cases e; exact ok_is_world X Gm c
  | 12, _, e => by cases e; exact ok_is_kept X Gm c
  | 13, _, e => by cases e; exact ok_is_web_of X Gm c
  | 14, _, e => by cases e; exact ok_truths_of X Gm c
  | 15, _, e => by cases e; exact ok_want_web X Gm c
  | 16, _, e => by cases e; exact ok_is_web X Gm c
  | 17, _, e => by cases e; exact ok_is_true X Gm c
  | 18, _, e => by cases e; exact ok_truths X Gm c
  | 19, _, e => by cases e; exact ok__law_pot X Gm c
  | 20, _, e => by cases e; exact ok__law_draw X Gm c
  | 21, _, e => by cases e; exact ok__law_pick X Gm c
  | 22, _, e => by cases e; exact ok__law_kind X Gm c
  | 23, _, e => by cases e; exact ok__law_width X Gm c
  | 24, _, e => by cases e; exact ok__law_depth X Gm c
  | 25, _, e => by cases e; exact ok__law_some_kind X Gm c
  | 26, _, e => by cases e; exact ok__law_shape X Gm c
  | 27, _, e => by cases e; exact ok__law_bent X Gm c
  | 28, _, e => by cases e; exact ok__law_led X Gm c
  | 29, _, e => by cases e; exact ok__law_like X Gm c
  | 30, _, e => by cases e; exact ok__law_is_web X Gm c
  | 31, _, e => by cases e; exact ok__law_truths X Gm c
  | 32, _, e => by cases e; exact ok__law_web X Gm c
  | 33, _, e => by cases e; exact ok__law_right X Gm c
  | 34, _, e => by cases e; exact ok_law X Gm c
  | _ + 35, _, e => by cases e
theorem gl_ok (X : K.In h) (Gm : h.Ns mainGlobals mg) (c : He.SaysD fa fn K) : ∀ i d, pg.gl i = some d → ∃ v u, mg (nm.gl i) = some u ∧ RelV v u ∧ ∀ H ω, Rep K H ω v d
  | 0, _, e => by
    cases e
    obtain ⟨t, ht⟩ := He.str_ok X Gm (c.fact 35 (f := .str "LETTERS" "abcdefghijklmnopqrstuvwxyz") rfl)
    exact ⟨.str (toS [97, 98, 99, 100, 101, 102, 103, 104, 105, 106, 107, 108, 109, 110, 111, 112, 113, 114, 115, 116, 117, 118, 119, 120, 121, 122]), _, ht, ⟨t, by congr 1⟩, fun H ω => by simp only [Rep]; exact ⟨trivial, by decide⟩⟩
  | 1, _, e => by
    cases e
    obtain ⟨t, ht⟩ := He.int_ok X Gm (c.fact 36 (f := .int "MOST_LETTERS" 8) rfl)
    exact ⟨.int 8, _, ht, ⟨t, rfl⟩, fun H ω => by simp only [Rep]⟩
  | 2, _, e => by
    cases e
    obtain ⟨t, ht⟩ := He.str_ok X Gm (c.fact 37 (f := .str "FROM" "from") rfl)
    exact ⟨.str (toS [102, 114, 111, 109]), _, ht, ⟨t, by congr 1⟩, fun H ω => by simp only [Rep]; exact ⟨trivial, by decide⟩⟩
  | 3, _, e => by
    cases e
    obtain ⟨t, ht⟩ := He.str_ok X Gm (c.fact 38 (f := .str "PAIR" "pair") rfl)
    exact ⟨.str (toS [112, 97, 105, 114]), _, ht, ⟨t, by congr 1⟩, fun H ω => by simp only [Rep]; exact ⟨trivial, by decide⟩⟩
  | 4, _, e => by
    cases e
    obtain ⟨t, ht⟩ := He.str_ok X Gm (c.fact 39 (f := .str "NOTHING" "nothing") rfl)
    exact ⟨.str (toS [110, 111, 116, 104, 105, 110, 103]), _, ht, ⟨t, by congr 1⟩, fun H ω => by simp only [Rep]; exact ⟨trivial, by decide⟩⟩
  | 5, _, e => by
    cases e
    obtain ⟨t, ht⟩ := He.str_ok X Gm (c.fact 40 (f := .str "ATOM" "atom") rfl)
    exact ⟨.str (toS [97, 116, 111, 109]), _, ht, ⟨t, by congr 1⟩, fun H ω => by simp only [Rep]; exact ⟨trivial, by decide⟩⟩
  | 6, _, e => by
    cases e
    obtain ⟨t, ht⟩ := He.int_ok X Gm (c.fact 41 (f := .int "MOST_WIDTH" 12) rfl)
    exact ⟨.int 12, _, ht, ⟨t, rfl⟩, fun H ω => by simp only [Rep]⟩
  | 7, _, e => by
    cases e
    obtain ⟨t, ht⟩ := He.int_ok X Gm (c.fact 42 (f := .int "MOST_DEPTH" 6) rfl)
    exact ⟨.int 6, _, ht, ⟨t, rfl⟩, fun H ω => by simp only [Rep]⟩
  | 8, _, e => by
    cases e
    obtain ⟨t, ht⟩ := He.int_ok X Gm (c.fact 43 (f := .int "MOST_WORLDS" 200) rfl)
    exact ⟨.int 200, _, ht, ⟨t, rfl⟩, fun H ω => by simp only [Rep]⟩
  | 9, _, e => by
    cases e
    obtain ⟨t, ht⟩ := He.str_ok X Gm (c.fact 44 (f := .str "WEB" "web") rfl)
    exact ⟨.str (toS [119, 101, 98]), _, ht, ⟨t, by congr 1⟩, fun H ω => by simp only [Rep]; exact ⟨trivial, by decide⟩⟩
  | _ + 10, _, e => by cases e
theorem bt_ok (X : K.In h) (Gm : h.Ns mainGlobals mg) (c : He.SaysD fa fn K) : ∀ x ∈ bnames, mg x = none := fun x hx => by
  obtain ⟨i, hi⟩ := List.mem_iff_getElem?.mp hx
  refine He.free_ok X Gm (c.fact (45 + i) (f := .free x) ?_)
  unfold fa
  rw [List.getElem?_append_right (by show 35 ≤ _; omega), List.getElem?_append_right (by show 10 ≤ _ - 35; omega), List.getElem?_map]
  have e : 45 + i - fa1.length - fa2.length = i := by
    show 45 + i - 35 - 10 = i
    omega
  rw [e, hi]
  rfl
end
end K79
open PySem PySem.W PySem.Calls PyProof.Rows
set_option maxHeartbeats 0 in
theorem K79.holds_of (hlaw : ∀ ns : List Int, ns.length ≤ 63 → ∃ st, Ev.callN K79.pg K79.lv 34 [.scr ns] [] = .ok (.bl true) st) : PySem.Challenge.rw_kindsalike_k79_whole_webs_of_worlds.Holds := by
  w_on; o_law
  refine HandSHeadRun.head_any (r := OpenLaw.row PySem.Challenge.rw_kindsalike_k79_whole_webs_of_worlds) (q := view (OpenLaw.row PySem.Challenge.rw_kindsalike_k79_whole_webs_of_worlds).prog [53]) (H := K79.hk) (ob := K79.ob) (M := 4000) (loose := K79.loose) (d := HandSHeadRun.topDef (OpenLaw.row PySem.Challenge.rw_kindsalike_k79_whole_webs_of_worlds).prog 53) (kwd := []) K79.ob_eq
    (by kernel_rfl) (fun s => by kernel_rfl) K79.run (by kernel_rfl) (by kernel_rfl) (by kernel_rfl) (by rfl) (by first | assumption | decide +kernel) (by decide +kernel) ⟨rfl, rfl, rfl, rfl, rfl, by decide +kernel⟩ ?hw ?hc
  case hw => w_witness2
  case hc =>
    refine Ev.evWalk (l := PySem.Challenge.rw_kindsalike_k79_whole_webs_of_worlds) (n := 63) (k := K79.lv) (fl := 34) (T := K79.nm) (G := K79.pg) (kw := K79.kwL) (xp := "script") rfl (by decide) (by kernel_rfl) ⟨rfl, by decide, by decide⟩ rfl (by kernel_rfl) ?F (fun ns hl _ => hlaw ns hl)
    rintro w mg h ⟨K, KX, c⟩ Gm
    exact ⟨K, KX, K79.defs_ok KX Gm c, K79.gl_ok KX Gm c, K79.bt_ok KX Gm c⟩

theorem PySem.Challenge.cw_kindsalike_k79_whole_webs_of_worlds_holds : PySem.Challenge.rw_kindsalike_k79_whole_webs_of_worlds.Holds :=
  K79.holds_of K79.law_ok

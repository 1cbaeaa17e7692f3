import PyProof.Rows.All
import HandS.ForMost
import KE.SortData
import PyProof.ReprRoads
import KE.KDictDisplayH
import KE.KDictWalk
import KE.DataMinMax
import HandS.Zip
import HandS.TupAny
import HandS.TupMul
import HandS.TupLe
import HandS.Style
import HandS.Deep
import HandS.IsInst
import KE.GoesEnum
import PyProof.Transfer
import KE.LtSeq
import HandS.Exc
import HandS.More
import HandS.Conv
import HandS.Comp
import HandS.Defaults
import HandS.HeadHook2
import HandS.Ends
import HandS.EndBits
import PyProof.StrLawsRepr
import PyProof.ReprReads
import PyProof.ReprText
import PyProof.Rows.ReprOcc
import PySem.Challenge.RW_kindsalike_k73_any_value_as_near_paper
import HandS.Head0
import HandS.Head1
import HandS.Head2
import HandS.HeadEnd
import HandS.HeadHook1
set_option Elab.async false
set_option linter.all false
set_option maxRecDepth 100000
/-! A small evaluator of the Python subset of these laws. -/
namespace Ev
open PySem

/-! ### values -/
inductive D where
  | non | bl (b : Bool) | int (i : Int) | str (x : List Nat)
  | tup (xs : List D) | lst (xs : List D) | ref (n : Nat)
  /-- the script -/
  | scr (ns : List Int)

mutual
def D.beq : D → D → Bool
  | .non, .non => true
  | .bl a, .bl b => a == b
  | .int i, .int j => i == j
  | .str x, .str y => x == y
  | .tup xs, .tup ys => D.beqs xs ys
  | .lst xs, .lst ys => D.beqs xs ys
  | .ref n, .ref m => n == m
  | .scr x, .scr y => x == y
  | _, _ => false
def D.beqs : List D → List D → Bool
  | [], [] => true
  | x :: xs, y :: ys => D.beq x y && D.beqs xs ys
  | _, _ => false
end
mutual
theorem D.beq_eq : ∀ (x y : D), D.beq x y = true ↔ x = y
  | .non, y => by cases y <;> simp [D.beq]
  | .bl a, y => by cases y <;> simp [D.beq]
  | .int i, y => by cases y <;> simp [D.beq]
  | .str x, y => by cases y <;> simp [D.beq]
  | .tup xs, y => by cases y <;> simp [D.beq, D.beqs_eq xs]
  | .lst xs, y => by cases y <;> simp [D.beq, D.beqs_eq xs]
  | .ref n, y => by cases y <;> simp [D.beq]
  | .scr x, y => by cases y <;> simp [D.beq]
theorem D.beqs_eq : ∀ (xs ys : List D), D.beqs xs ys = true ↔ xs = ys
  | [], ys => by cases ys <;> simp [D.beqs]
  | x :: xs, ys => by cases ys <;> simp [D.beqs, D.beq_eq x, D.beqs_eq xs]
end
instance : DecidableEq D := fun x y => decidable_of_iff _ (D.beq_eq x y)

def toS (x : List Nat) : Str := ⟨x.toArray⟩
mutual
/-- a value without references as the kit's data; a reference is a dict, which nothing takes -/
def D.py : D → PyData
  | .non => .none
  | .bl b => .bool b
  | .int i => .int i
  | .str x => .str (toS x)
  | .tup xs => .tuple (D.pys xs)
  | .lst xs => .list (D.pys xs)
  | .ref _ => .dict []
  | .scr _ => .dict []
def D.pys : List D → List PyData
  | [] => []
  | x :: xs => D.py x :: D.pys xs
end
theorem D.pys_map : ∀ xs : List D, D.pys xs = xs.map D.py
  | [] => rfl
  | x :: xs => by rw [D.pys, D.pys_map xs, List.map_cons]

/-! ### the store, results -/
inductive C where
  | lst (xs : List D)
  | dct (ks : List (L2.Key × D))
  /-- a dict whose keys are tuples, nested -/
  | dcn (ks : List (D × D))
  deriving DecidableEq
abbrev St := List C
/-- an exception: its class (by number), its fields -/
structure Xc where
  cls : Nat
  fs : List (Str × D)
inductive R (α : Type) where
  | ok (a : α) (st : St)
  | ex (x : Xc) (st : St)
  | no
def R.bind {α β : Type} (r : R α) (f : α → St → R β) : R β := match r with
  | .ok a st => f a st
  | .ex x st => .ex x st
  | .no => .no
@[simp] theorem R.bind_ok {α β : Type} (a : α) (st : St) (f : α → St → R β) : (R.ok a st).bind f = f a st := rfl
@[simp] theorem R.bind_ex {α β : Type} (x : Xc) (st : St) (f : α → St → R β) : (R.ex x st).bind f = .ex x st := rfl
@[simp] theorem R.bind_no {α β : Type} (f : α → St → R β) : (R.no : R α).bind f = .no := rfl
/-- of an option -/
def R.of {α : Type} (o : Option α) (st : St) : R α := match o with
  | some a => .ok a st
  | none => .no
@[simp] theorem R.of_some {α : Type} (a : α) (st : St) : R.of (some a) st = .ok a st := rfl
@[simp] theorem R.of_none {α : Type} (st : St) : R.of (none : Option α) st = .no := rfl

/-- a slot of a frame: nothing yet, a value, a list of the frame's own -/
inductive Sl where
  | no | va (d : D) | ow (xs : List D)
  deriving DecidableEq
abbrev Env := List Sl

/-! ### the tree -/
inductive Bo where
  | add | sub | mul | mod | fdv | pow
  deriving DecidableEq
inductive Co where
  | eq | ne | lt | le | gt | ge | isin | nin
  deriving DecidableEq
/-- classes for isinstance -/
inductive Ty where
  | tint | tstr | tbool | ttup | tlst | tdct
  deriving DecidableEq
/-- built-in functions of values -/
inductive Bi where
  | len | all | any | sum | tuple | list | sorted | repr | intf | abs | max2 | min2 | divmod
  | isin (ts : List Ty) | sortedD | min1
  deriving DecidableEq
/-- a target of a loop or an assignment: a slot, or several -/
inductive Tg where
  | nm (i : Nat)
  | tp (ts : List Tg)

mutual
inductive E where
  | var (i : Nat)
  /-- an own list, read -/
  | own (i : Nat)
  | glob (g : Nat)
  | cst (d : D)
  | tup (es : Es)
  | lst (es : Es)
  /-- a new list in the store -/
  | lstC (es : Es)
  /-- a new dict of pairs in the store -/
  | dctC (e : E)
  | bin (op : Bo) (a b : E)
  | cmp (op : Co) (a b : E)
  | chn (o1 o2 : Co) (a b c : E)
  | isN (neg : Bool) (a : E)
  | isB (neg b : Bool) (a : E)
  | and (a b : E)
  | or (a b : E)
  | not (a : E)
  | ife (c a b : E)
  | call (f : Nat) (es : Es)
  /-- by keywords alone: the j-th parameter is the value at perm[j] -/
  | callK (f : Nat) (es : Es) (perm : List Nat)
  | bi (b : Bi) (es : Es)
  | idx (a i : E)
  | slc (a lo hi : E)
  | rev (a : E)
  | lc (elt : E) (tg : Tg) (it : It) (cond : E) (own : List Nat)
  /-- {k: v}, a new dict of nested keys in the store -/
  | dnN (k v : E)
  /-- d[i], i in d (not in), d a dict of nested keys -/
  | dgt (d i : E)
  | din (neg : Bool) (i d : E)
  /-- list(range(e)) -/
  | lrg (e : E)
  /-- never run -/
  | nev
inductive Es where
  | nil
  | cons (e : E) (es : Es)
inductive It where
  | va (e : E)
  | rg1 (e : E)
  | rg2 (a b : E)
  | zp (a b : E)
  | en (a : E)
  | st (a : E)
  /-- a dict's keys, its items -/
  | dk (a : E)
  | dit (a : E)
  /-- zip of a list and a tuple -/
  | zpm (a b : E)
end

inductive Tt where
  | nm (i : Nat)
  | sub (a i : E)
  /-- d[i], d a dict of nested keys -/
  | dsub (a i : E)
  | tp (ts : List Tt)
mutual
inductive S where
  | asg (t : Tt) (e : E)
  /-- x, y = a, b of names; own: the value becomes an own list -/
  | par (i : Nat) (oi : Bool) (j : Nat) (oj : Bool) (a b : E)
  /-- x = e, x an own list from now on -/
  | newO (i : Nat) (e : E)
  /-- x = y, y an own list that is not used any more -/
  | mov (i j : Nat)
  | appO (i : Nat) (e : E)
  | extO (i : Nat) (e : E)
  | setO (i : Nat) (a e : E)
  | aug (i : Nat) (op : Bo) (e : E)
  | exp (e : E)
  | updC (a b : E)
  | ret (e : E)
  | retO (i : Nat)
  | ite (c : E) (a b : Ss)
  | whl (c : E) (b : Ss)
  | for (tg : Tg) (it : It) (b : Ss)
  | brk
  | cnt
  | pss
  /-- never run -/
  | nev
inductive Ss where
  | nil
  | cons (s : S) (ss : Ss)
end
end Ev

set_option Elab.async false
set_option linter.all false
set_option maxRecDepth 100000
/-! The evaluator. -/
namespace Ev
open PySem

/-! ### operations by values -/
def vw (st : St) : D → D
  | .ref n => match st[n]? with
    | some (.lst xs) => .lst xs
    | _ => .ref n
  | d => d
/-- the script read as a list, too -/
def vwS (st : St) : D → D
  | .scr ns => .lst (ns.map .int)
  | d => vw st d
def keyD : L2.Key → D
  | .inl i => .int i
  | .inr x => .str x.cps.toList
def dKey : D → Option L2.Key
  | .int i => some (.inl i)
  | .str x => some (.inr (toS x))
  | _ => none
/-- a dict by its keys -/
def vwK (st : St) : D → D
  | .ref n => match st[n]? with
    | some (.dct kvs) => .lst (kvs.map fun p => keyD p.1)
    | _ => .non
  | _ => .non

mutual
/-- a value as a key -/
def nkey : D → Option NestedKey
  | .non => some .none
  | .bl b => some (.num (if b = true then 1 else 0))
  | .int i => some (.num i)
  | .str x => some (.text (toS x))
  | .tup xs => (nkeys xs).map .tup
  | .lst _ => none
  | .ref _ => none
  | .scr _ => none
def nkeys : List D → Option (List NestedKey)
  | [] => some []
  | x :: xs => match nkey x, nkeys xs with
    | some k, some ks => some (k :: ks)
    | _, _ => none
end
/-- a tuple as a key, no deeper than 8 -/
def tkey (d : D) : Option NestedKey := match d with
  | .tup xs => (nkey (.tup xs)).bind fun k => if k.depth ≤ 8 then some k else none
  | _ => none
def hasN (kvs : List (D × D)) (k : NestedKey) : Bool := kvs.any fun p => decide (nkey p.1 = some k)
def getN (kvs : List (D × D)) (k : NestedKey) : Option D := (kvs.find? fun p => decide (nkey p.1 = some k)).map (·.2)
def putN (kvs : List (D × D)) (k : NestedKey) (kd v : D) : List (D × D) :=
  if hasN kvs k = true then kvs.map (fun p => if nkey p.1 = some k then (p.1, v) else p) else kvs ++ [(kd, v)]
/-- the dict at a reference -/
def dnAt (st : St) : D → Option (Nat × List (D × D))
  | .ref n => match st[n]? with
    | some (.dcn kvs) => some (n, kvs)
    | _ => none
  | _ => none
def eqD (a b : D) : Option Bool := if a.py.canLay0 && b.py.canLay0 && decide (min a.py.depth b.py.depth ≤ 64) then some (PyData.eqv a.py b.py) else none
def small (i : Int) : Bool := decide (-(2 ^ 64) < i) && decide (i < 2 ^ 64)
def catL (xs ys : List D) : Option (List D) := if xs.length + ys.length ≤ sizeLine then some (xs ++ ys) else none
def repL (xs : List D) (k : Int) : Option (List D) := if 2 ≤ k ∧ k ≤ 1000 ∧ xs.length ≤ 1000 ∧ xs ≠ [] then some (List.replicate k.toNat xs).flatten else none
def binD (op : Bo) (a b : D) : Option D := match op, a, b with
  | .add, .int i, .int j => some (.int (i + j))
  | .add, .str x, .str y => if x.length + y.length ≤ sizeLine then some (.str (x ++ y)) else none
  | .add, .tup xs, .tup ys => (catL xs ys).map .tup
  | .add, .lst xs, .lst ys => (catL xs ys).map .lst
  | .sub, .int i, .int j => some (.int (i - j))
  | .mul, .int i, .int j => if small i then some (.int (i * j)) else none
  | .mul, .tup xs, .int j => (repL xs j).map .tup
  | .mul, .lst xs, .int j => if 0 ≤ j ∧ j ≤ 1000 ∧ xs.length ≤ 1000 then some (.lst (List.replicate j.toNat xs).flatten) else none
  | .mod, .int i, .int j => if j = 0 then none else some (.int (i.fmod j))
  | .fdv, .int i, .int j => if j ≠ 0 ∧ j.natAbs < 1073741824 then some (.int (i.fdiv j)) else none
  | .pow, .int i, .int j => if 0 ≤ j ∧ j ≤ 1000000 ∧ i.natAbs < 2 ^ 64 then some (.int (i ^ j.toNat)) else none
  | _, _, _ => none
def inD (a : D) (xs : List D) : Option Bool := if SeqAt.shaped a.py && PyData.canLayAll0 (D.pys xs) then some (xs.any fun z => PyData.eqv z.py a.py) else none
def isinD (a b : D) : Option Bool := match b with
  | .tup xs => inD a xs
  | .lst xs => inD a xs
  | .str z => match a with
    | .str [c] => some (decide (c ∈ z))
    | _ => none
  | _ => none
def ordD (f : Int → Int → Bool) (g : List Nat → List Nat → Bool) (a b : D) : Option Bool := match a, b with
  | .int i, .int j => some (f i j)
  | .str x, .str y => some (g x y)
  | _, _ => none
def cmpD (op : Co) (a b : D) : Option Bool := match op with
  | .eq => eqD a b
  | .ne => (eqD a b).map (!·)
  | .lt => ordD (fun i j => decide (i < j)) (fun x y => decide (x < y)) a b
  | .gt => ordD (fun i j => decide (j < i)) (fun x y => decide (y < x)) a b
  | .le => ordD (fun i j => decide (i ≤ j)) (fun x y => !decide (y < x)) a b
  | .ge => ordD (fun i j => decide (j ≤ i)) (fun x y => !decide (x < y)) a b
  | .isin => isinD a b
  | .nin => (isinD a b).map (!·)
def tyIs : Ty → D → Bool
  | .tint, .int _ => true
  | .tint, .bl _ => true
  | .tbool, .bl _ => true
  | .tstr, .str _ => true
  | .ttup, .tup _ => true
  | .tlst, .lst _ => true
  | _, _ => false
def noRef : D → Bool
  | .ref _ => false
  | .scr _ => false
  | _ => true
def cutL {α : Type} (xs : List α) (lo hi : Option Int) : List α := (xs.drop (HT.sIx xs.length 0 lo)).take (HT.sIx xs.length xs.length hi - HT.sIx xs.length 0 lo)
def bndD : D → Option (Option Int)
  | .non => some none
  | .int i => some (some i)
  | _ => none
def slcD (a lo hi : D) : Option D := match bndD lo, bndD hi with
  | some l, some h => match a with
    | .tup xs => some (.tup (cutL xs l h))
    | .lst xs => some (.lst (cutL xs l h))
    | .str x => some (.str (cutL x l h))
    | _ => none
  | _, _ => none
def revD : D → Option D
  | .tup xs => some (.tup xs.reverse)
  | .lst xs => some (.lst xs.reverse)
  | _ => none
def idxD (a i : D) : Option D := match a, i with
  | .tup xs, .int i => L2.atI xs i
  | .lst xs, .int i => L2.atI xs i
  | .str x, .int i => (L2.atI x i).map fun c => .str [c]
  | _, _ => none
def bools : List D → Option (List Bool)
  | [] => some []
  | .bl b :: xs => (bools xs).map (b :: ·)
  | _ :: _ => none
def intsOf : List D → Option (List Int)
  | [] => some []
  | .int b :: xs => (intsOf xs).map (b :: ·)
  | _ :: _ => none
/-- ordered as the kit's data are -/
def leD (a b : D) : Bool := PySem.W.dataLe false D.py a b
def alikes (xs : List D) : Bool := xs.all fun a => xs.all fun b => PySem.W.alike a.py b.py
def tupHead : D → Bool
  | .tup (_ :: _) => true
  | _ => false
def noTup : D → Bool
  | .tup _ => false
  | .non => false
  | _ => true
def sortD (xs : List D) : Option (List D) := if PyData.canLayAll0 (D.pys xs) && alikes xs && (xs.all tupHead || xs.all noTup) && xs.all (fun a => decide (a.py.depth ≤ 60)) then some (xs.mergeSort leD) else none
mutual
/-- x < y, where Python tells it: what stands behind the first difference is not asked -/
def ltP : PyData → PyData → Option Bool
  | .int a, y => match y with
    | .int b => some (decide (a < b))
    | _ => none
  | .str a, y => match y with
    | .str b => some (decide (a.cps.toList < b.cps.toList))
    | _ => none
  | .tuple xs, y => match y with
    | .tuple ys => ltPs xs ys
    | _ => none
  | .none, _ => none
  | .bool _, _ => none
  | .list _, _ => none
  | .dict _, _ => none
def ltPs : List PyData → List PyData → Option Bool
  | [], ys => some (!ys.isEmpty)
  | x :: xs, ys => match ys with
    | [] => some false
    | y :: ys => if PyData.eqv x y = true then ltPs xs ys else ltP x y
end
def ltB (x y : PyData) : Bool := (ltP x y).getD false
/-- the least one, the first of equal ones -/
def minD1 (xs : List D) : Option D := match xs with
  | [] => none
  | x :: r => if PyData.canLayAll0 (D.pys xs) && xs.all (fun a => xs.all fun b => (ltP a.py b.py).isSome) && xs.all (fun a => decide (a.py.depth ≤ 60)) then some (r.foldl (fun m y => if ltB y.py m.py then y else m) x) else none
def strsOf : List D → Option (List (List Nat))
  | [] => some []
  | .str b :: xs => (strsOf xs).map (b :: ·)
  | _ :: _ => none
def leS (x y : List Nat) : Bool := !decide (y < x)
/-- a dict's keys sorted -/
def sortK (xs : List D) : Option (List D) := if xs.length < 64 then (match intsOf xs with
  | some ns => some ((ns.mergeSort fun i j => decide (i ≤ j)).map .int)
  | none => (strsOf xs).bind fun zs => if zs.all (fun z => decide (z.length ≤ sizeLine)) then some ((zs.mergeSort leS).map .str) else none) else none
def putD (kvs : List (L2.Key × D)) (k : L2.Key) (v : D) : List (L2.Key × D) :=
  if (kvs.any fun kv => decide (kv.1 = k)) = true then kvs.map (fun kv => if kv.1 = k then (kv.1, v) else kv) else kvs ++ [(k, v)]
def mergeD (kvs more : List (L2.Key × D)) : List (L2.Key × D) := more.foldl (fun acc kv => putD acc kv.1 kv.2) kvs
/-- the pairs of a list of pairs (key, value) -/
def pairsD : List D → Option (List (L2.Key × D))
  | [] => some []
  | .tup [k, v] :: ps => match dKey k, pairsD ps with
    | some k', some r => some ((k', v) :: r)
    | _, _ => none
  | _ :: _ => none
def reprD (a : D) : Option D := if SeqAt.shaped a.py && a.py.showable && !a.py.hasDict && decide (a.py.shown.length ≤ sizeLine) then some (.str a.py.shown.cps.toList) else none
def one (as : List D) (f : D → Option D) : Option D := match as with
  | [a] => f a
  | _ => none
def two (as : List D) (f : D → D → Option D) : Option D := match as with
  | [a, b] => f a b
  | _ => none
theorem one_eq {as : List D} {f : D → Option D} {d : D} (h : one as f = some d) : ∃ a, as = [a] ∧ f a = some d := by
  unfold one at h
  split at h
  · exact ⟨_, rfl, h⟩
  · cases h
theorem two_eq {as : List D} {f : D → D → Option D} {d : D} (h : two as f = some d) : ∃ a b, as = [a, b] ∧ f a b = some d := by
  unfold two at h
  split at h
  · exact ⟨_, _, rfl, h⟩
  · cases h
def lenD : D → Option D
  | .tup xs => some (.int xs.length)
  | .lst xs => some (.int xs.length)
  | .str x => some (.int x.length)
  | _ => none
def itemsD : D → Option (List D)
  | .tup xs => some xs
  | .lst xs => some xs
  | _ => none
def lstD : D → Option (List D)
  | .lst xs => some xs
  | _ => none
def int1 (f : Int → Option D) : D → Option D
  | .int i => f i
  | _ => none
def int2 (f : Int → Int → Option D) : D → D → Option D
  | .int i, .int j => f i j
  | _, _ => none
def biD (b : Bi) (as : List D) : Option D := match b with
  | .len => one as lenD
  | .all => one as fun a => (lstD a).bind fun xs => (bools xs).map fun bs => .bl (bs.all id)
  | .any => one as fun a => (lstD a).bind fun xs => (bools xs).map fun bs => .bl (bs.any id)
  | .sum => one as fun a => (lstD a).bind fun xs => (intsOf xs).map fun ns => .int ns.sum
  | .tuple => one as fun a => (itemsD a).map .tup
  | .list => one as fun a => (itemsD a).map .lst
  | .sorted => one as fun a => (itemsD a).bind fun xs => (sortD xs).map .lst
  | .sortedD => one as fun a => (lstD a).bind fun xs => (sortK xs).map .lst
  | .repr => one as reprD
  | .min1 => one as fun a => (lstD a).bind minD1
  | .intf => one as (int1 fun i => some (.int i))
  | .abs => one as (int1 fun i => some (.int (if i < 0 then -i else i)))
  | .max2 => two as (int2 fun i j => some (.int (if j > i then j else i)))
  | .min2 => two as (int2 fun i j => some (.int (if j < i then j else i)))
  | .divmod => two as (int2 fun i j => if 0 < j ∧ j < 1073741824 then some (.tup [.int (i / j), .int (i % j)]) else none)
  | .isin ts => one as fun a => if noRef a then some (.bl (ts.any (tyIs · a))) else none
theorem lenD_eq {a d : D} (h : lenD a = some d) : (∃ xs, a = .tup xs ∧ d = .int xs.length) ∨ (∃ xs, a = .lst xs ∧ d = .int xs.length) ∨ ∃ x, a = .str x ∧ d = .int x.length := by
  unfold lenD at h
  split at h
  · exact .inl ⟨_, rfl, (Option.some.inj h).symm⟩
  · exact .inr (.inl ⟨_, rfl, (Option.some.inj h).symm⟩)
  · exact .inr (.inr ⟨_, rfl, (Option.some.inj h).symm⟩)
  · cases h
theorem itemsD_eq {a : D} {xs : List D} (h : itemsD a = some xs) : a = .tup xs ∨ a = .lst xs := by
  unfold itemsD at h
  split at h
  · cases h; exact .inl rfl
  · cases h; exact .inr rfl
  · cases h
theorem lstD_eq {a : D} {xs : List D} (h : lstD a = some xs) : a = .lst xs := by
  unfold lstD at h
  split at h
  · cases h; rfl
  · cases h
theorem int1_eq {f : Int → Option D} {a d : D} (h : int1 f a = some d) : ∃ i, a = .int i ∧ f i = some d := by
  unfold int1 at h
  split at h
  · exact ⟨_, rfl, h⟩
  · cases h
theorem int2_eq {f : Int → Int → Option D} {a b d : D} (h : int2 f a b = some d) : ∃ i j, a = .int i ∧ b = .int j ∧ f i j = some d := by
  unfold int2 at h
  split at h
  · exact ⟨_, _, rfl, rfl, h⟩
  · cases h
theorem map_eq {α β : Type} {o : Option α} {f : α → β} {b : β} (h : o.map f = some b) : ∃ a, o = some a ∧ b = f a := by
  cases o with
  | none => cases h
  | some a => exact ⟨a, rfl, (Option.some.inj h).symm⟩
theorem bind_eq {α β : Type} {o : Option α} {f : α → Option β} {b : β} (h : o.bind f = some b) : ∃ a, o = some a ∧ f a = some b := by
  cases o with
  | none => cases h
  | some a => exact ⟨a, rfl, h⟩
def biArg (b : Bi) (st : St) (d : D) : D := match b with
  | .sortedD => vwK st d
  | _ => vwS st d
def rangeL (lo : Int) (n : Nat) : List D := (List.range n).map fun (i : Nat) => .int (lo + i)
def okRange (i : Int) : Bool := decide (-(2 ^ 62) ≤ i) && decide (i < 2 ^ 62)

/-! ### frames -/
def wipeE (env : Env) : List Nat → Env
  | [] => env
  | v :: vs => (wipeE env vs).set v .no
mutual
def asgTg : Tg → D → Env → Option Env
  | .nm i, d, env => if i < env.length then some (env.set i (.va d)) else none
  | .tp ts, d, env => match d with
    | .tup ds => asgTgs ts ds env
    | _ => none
def asgTgs : List Tg → List D → Env → Option Env
  | [], [], env => some env
  | t :: ts, d :: ds, env => match asgTg t d env with
    | some env' => asgTgs ts ds env'
    | none => none
  | _, _, _ => none
end
/-- what a loop walks must stay -/
inductive Gd where
  | own (i : Nat) (xs : List D)
  | cell (n : Nat) (xs : List D)
  | dcl (n : Nat) (kvs : List (D × D))
def Gd.ok (env : Env) (st : St) : Gd → Bool
  | .own i xs => decide (env[i]? = some (.ow xs))
  | .cell n xs => decide (st[n]? = some (.lst xs))
  | .dcl n kvs => decide (st[n]? = some (.dcn kvs))
def gdsOk (env : Env) (st : St) (gs : List Gd) : Bool := gs.all (Gd.ok env st)
/-- the items of a sequence, and what must stay -/
def seqOf (st : St) : D → Option (List D × List Gd)
  | .tup xs => some (xs, [])
  | .lst xs => some (xs, [])
  | .scr ns => some (ns.map .int, [])
  | .ref n => match st[n]? with
    | some (.lst xs) => some (xs, [.cell n xs])
    | _ => none
  | _ => none
def isTup : D → Bool
  | .tup _ => true
  | _ => false
def guardOf : E → D → List Gd
  | .own i, .lst xs => [.own i xs]
  | _, _ => []

def R.noX {α : Type} : R α → R α
  | .ex _ _ => .no
  | r => r

/-- by a truth -/
def cnd {α : Type} (d : D) (a b : R α) : R α := match d with
  | .bl true => a
  | .bl false => b
  | _ => .no
def cndO {α : Type} (no : α) (d : D) (a b : α) : α := match d with
  | .bl true => a
  | .bl false => b
  | _ => no
def blR (d : D) (st : St) : R D := match d with
  | .bl c => .ok (.bl c) st
  | _ => .no
@[simp] theorem cnd_bl {α : Type} (c : Bool) (a b : R α) : cnd (.bl c) a b = if c then a else b := by cases c <;> rfl
@[simp] theorem cndO_bl {α : Type} (no : α) (c : Bool) (a b : α) : cndO no (.bl c) a b = if c then a else b := by cases c <;> rfl
@[simp] theorem blR_bl (c : Bool) (st : St) : blR (.bl c) st = .ok (.bl c) st := rfl

/-- the turns of a comprehension -/
def lcLoop (f : D → St → R (Option D)) (gs : List Gd) (env : Env) : List D → St → R (List D)
  | [], st => if gdsOk env st gs then .ok [] st else .no
  | x :: xs, st => if gdsOk env st gs then (f x st).bind fun o st1 => (lcLoop f gs env xs st1).bind fun ys st2 => .ok (match o with | some y => y :: ys | none => ys) st2 else .no

abbrev Cf := Nat → List D → St → R D

section
variable (cf : Cf) (gl : Nat → Option D)
mutual
def ev (env : Env) (st : St) : E → R D
  | .var i => match env[i]? with
    | some (.va d) => .ok d st
    | _ => .no
  | .own i => match env[i]? with
    | some (.ow xs) => .ok (.lst xs) st
    | _ => .no
  | .glob g => R.of (gl g) st
  | .cst d => .ok d st
  | .tup es => (evs env st es).bind fun ds st1 => .ok (.tup ds) st1
  | .lst es => (evs env st es).bind fun ds st1 => .ok (.lst ds) st1
  | .lstC es => (evs env st es).bind fun ds st1 => .ok (.ref st1.length) (st1 ++ [.lst ds])
  | .dctC e => (ev env st e).bind fun d st1 => match d with
    | .lst ps => match pairsD ps with
      | some kvs => .ok (.ref st1.length) (st1 ++ [.dct (mergeD [] kvs)])
      | none => .no
    | _ => .no
  | .bin op a b => (ev env st a).bind fun x st1 => (ev env st1 b).bind fun y st2 => R.of (binD op (vw st2 x) (vw st2 y)) st2
  | .cmp op a b => (ev env st a).bind fun x st1 => (ev env st1 b).bind fun y st2 => R.of ((cmpD op (vw st2 x) (vw st2 y)).map .bl) st2
  | .chn o1 o2 a b c => (ev env st a).bind fun x st1 => (ev env st1 b).bind fun y st2 => match cmpD o1 (vw st2 x) (vw st2 y) with
    | some true => (ev env st2 c).bind fun z st3 => R.of ((cmpD o2 (vw st3 y) (vw st3 z)).map .bl) st3
    | some false => .ok (.bl false) st2
    | none => .no
  | .isN neg a => (ev env st a).bind fun x st1 => .ok (.bl (Bool.xor neg (decide (x = .non)))) st1
  | .isB neg b a => (ev env st a).bind fun x st1 => match x with
    | .bl c => .ok (.bl (Bool.xor neg (decide (c = b)))) st1
    | _ => .no
  | .and a b => (ev env st a).bind fun x st1 => cnd x ((ev env st1 b).bind blR) (.ok (.bl false) st1)
  | .or a b => (ev env st a).bind fun x st1 => cnd x (.ok (.bl true) st1) ((ev env st1 b).bind blR)
  | .not a => (ev env st a).bind fun x st1 => match x with
    | .bl c => .ok (.bl (!c)) st1
    | _ => .no
  | .ife c a b => (ev env st c).bind fun x st1 => cnd x (ev env st1 a) (ev env st1 b)
  | .call f es => (evs env st es).bind fun ds st1 => cf f ds st1
  | .callK f es perm => (evs env st es).bind fun ds st1 => match perm.mapM (fun j => ds[j]?) with
    | some as => cf f as st1
    | none => .no
  | .bi b es => (evs env st es).bind fun ds st1 => R.of (biD b (ds.map (biArg b st1))) st1
  | .idx a i => (ev env st a).bind fun x st1 => (ev env st1 i).bind fun y st2 => R.of (idxD (vwS st2 x) y) st2
  | .slc a lo hi => (ev env st a).bind fun x st1 => (ev env st1 lo).bind fun l st2 => match bndD l with
    | some _ => (ev env st2 hi).bind fun h st3 => R.of (slcD (vwS st3 x) l h) st3
    | none => .no
  | .rev a => (ev env st a).bind fun x st1 => R.of (revD (vwS st1 x)) st1
  | .lc elt tg it cond own => (evIt env st it).bind fun p st1 => if p.1.length ≤ sizeLine then
    (lcLoop (fun x st2 => match asgTg tg x (wipeE env own) with
      | some env1 => (ev env1 st2 cond).bind fun c st3 => cnd c ((ev env1 st3 elt).bind fun y st4 => .ok (some y) st4) (.ok none st3)
      | none => .no) p.2 env p.1 st1).noX.bind fun ys st2 => .ok (.lst ys) st2
    else .no
  | .dnN k v => (ev env st k).bind fun x st1 => (ev env st1 v).bind fun y st2 => match tkey x with
    | some _ => .ok (.ref st2.length) (st2 ++ [.dcn [(x, y)]])
    | none => .no
  | .dgt d i => (ev env st d).bind fun x st1 => (ev env st1 i).bind fun y st2 => match dnAt st2 x, tkey y with
    | some p, some k => R.of (getN p.2 k) st2
    | _, _ => .no
  | .din neg i d => (ev env st i).bind fun y st1 => (ev env st1 d).bind fun x st2 => match dnAt st2 x, tkey y with
    | some p, some k => .ok (.bl (Bool.xor neg (hasN p.2 k))) st2
    | _, _ => .no
  | .lrg e => (ev env st e).bind fun d st1 => match d with
    | .int j => if okRange j && decide (j.toNat ≤ 16777216) then .ok (.lst (rangeL 0 j.toNat)) st1 else .no
    | _ => .no
  | .nev => .no
def evs (env : Env) (st : St) : Es → R (List D)
  | .nil => .ok [] st
  | .cons e es => (ev env st e).bind fun d st1 => (evs env st1 es).bind fun ds st2 => .ok (d :: ds) st2
def evIt (env : Env) (st : St) : It → R (List D × List Gd)
  | .va e => (ev env st e).bind fun d st1 => R.of ((seqOf st1 d).map fun p => (p.1, p.2 ++ guardOf e d)) st1
  | .rg1 e => (ev env st e).bind fun d st1 => match d with
    | .int j => if okRange j then .ok (rangeL 0 j.toNat, []) st1 else .no
    | _ => .no
  | .rg2 a b => (ev env st a).bind fun x st1 => (ev env st1 b).bind fun y st2 => match x, y with
    | .int i, .int j => if okRange i && okRange j then .ok (rangeL i (j - i).toNat, []) st2 else .no
    | _, _ => .no
  | .zp a b => (ev env st a).bind fun x st1 => (ev env st1 b).bind fun y st2 => if isTup x != isTup y then .no else match seqOf st2 x, seqOf st2 y with
    | some p, some q => .ok (List.zipWith (fun u v => .tup [u, v]) p.1 q.1, p.2 ++ guardOf a x ++ (q.2 ++ guardOf b y)) st2
    | _, _ => .no
  | .en a => (ev env st a).bind fun x st1 => match seqOf st1 x with
    | some p => .ok (p.1.mapIdx (fun i u => .tup [.int i, u]), p.2 ++ guardOf a x) st1
    | none => .no
  | .st a => (ev env st a).bind fun x st1 => match x with
    | .str z => .ok (z.map fun c => .str [c], []) st1
    | _ => .no
  | .dk a => (ev env st a).bind fun x st1 => match dnAt st1 x with
    | some p => .ok (p.2.map (·.1), [.dcl p.1 p.2]) st1
    | none => .no
  | .dit a => (ev env st a).bind fun x st1 => match dnAt st1 x with
    | some p => .ok (p.2.map (fun q => .tup [q.1, q.2]), [.dcl p.1 p.2]) st1
    | none => .no
  | .zpm a b => (ev env st a).bind fun x st1 => (ev env st1 b).bind fun y st2 => if isTup x || !isTup y then .no else match seqOf st2 x, seqOf st2 y with
    | some p, some q => .ok (List.zipWith (fun u v => .tup [u, v]) p.1 q.1, p.2 ++ guardOf a x ++ (q.2 ++ guardOf b y)) st2
    | _, _ => .no
end

/-! ### statements -/
inductive O where
  | nx (env : Env) (st : St)
  | rt (d : D) (st : St)
  | bk (env : Env) (st : St)
  | ct (env : Env) (st : St)
  | ex (x : Xc) (env : Env) (st : St)
  | no
def R.o {α : Type} (env : Env) (r : R α) (f : α → St → O) : O := match r with
  | .ok a st => f a st
  | .ex x st => .ex x env st
  | .no => .no
@[simp] theorem R.o_ok {α : Type} (env : Env) (a : α) (st : St) (f : α → St → O) : (R.ok a st).o env f = f a st := rfl
@[simp] theorem R.o_ex {α : Type} (env : Env) (x : Xc) (st : St) (f : α → St → O) : (R.ex x st : R α).o env f = .ex x env st := rfl
@[simp] theorem R.o_no {α : Type} (env : Env) (f : α → St → O) : (R.no : R α).o env f = .no := rfl
def setV (env : Env) (i : Nat) (s : Sl) : Option Env := if i < env.length then some (env.set i s) else none
mutual
/-- d stored at a target -/
def asgT (env : Env) (st : St) : Tt → D → O
  | .nm i, d => match setV env i (.va d) with
    | some env' => .nx env' st
    | none => .no
  | .sub a i, d => (ev cf gl env st a).o env fun x st1 => (ev cf gl env st1 i).o env fun y st2 => match x, y with
    | .ref n, .int k => match st2[n]? with
      | some (.lst xs) => match L2.ixN xs.length k with
        | some j => .nx env (st2.set n (.lst (xs.set j d)))
        | none => .no
      | _ => .no
    | _, _ => .no
  | .dsub a i, d => (ev cf gl env st a).o env fun x st1 => (ev cf gl env st1 i).o env fun y st2 => match dnAt st2 x, tkey y with
    | some p, some k => if p.2.length < sizeLine then .nx env (st2.set p.1 (.dcn (putN p.2 k y d))) else .no
    | _, _ => .no
  | .tp ts, d => match d with
    | .tup ds => if ds.length = ts.length then asgTs env st ts ds else .no
    | _ => .no
def asgTs (env : Env) (st : St) : List Tt → List D → O
  | [], [] => .nx env st
  | t :: ts, d :: ds => match asgT env st t d with
    | .nx env' st' => asgTs env' st' ts ds
    | .ex x env' st' => .ex x env' st'
    | _ => .no
  | _, _ => .no
end
def slot (own : Bool) (d : D) : Option Sl := if own then (match d with | .lst xs => some (.ow xs) | _ => none) else some (.va d)
/-- the turns of a for -/
def forLoop (f : D → Env → St → O) (gs : List Gd) : List D → Env → St → O
  | [], env, st => if gdsOk env st gs then .nx env st else .no
  | x :: xs, env, st => if gdsOk env st gs then match f x env st with
    | .nx env' st' => forLoop f gs xs env' st'
    | .ct env' st' => forLoop f gs xs env' st'
    | .bk env' st' => .nx env' st'
    | r => r
    else .no
def whlLoop (c : Env → St → R D) (f : Env → St → O) : Nat → Env → St → O
  | 0, _, _ => .no
  | n + 1, env, st => (c env st).o env fun d st1 => match d with
    | .bl true => match f env st1 with
      | .nx env' st' => whlLoop c f n env' st'
      | .ct env' st' => whlLoop c f n env' st'
      | .bk env' st' => .nx env' st'
      | r => r
    | .bl false => .nx env st1
    | _ => .no
def fuel : Nat := 1000000
mutual
def exec (env : Env) (st : St) : S → O
  | .asg t e => (ev cf gl env st e).o env fun d st1 => asgT cf gl env st1 t d
  | .par i oi j oj a b => (ev cf gl env st a).o env fun x st1 => match slot oi x with
    | some u => (ev cf gl env st1 b).o env fun y st2 => match slot oj y with
      | some v => match setV env i u with
        | some env1 => match setV env1 j v with
          | some env2 => if i = j then .no else .nx env2 st2
          | none => .no
        | none => .no
      | none => .no
    | none => .no
  | .newO i e => (ev cf gl env st e).o env fun d st1 => match slot true d with
    | some u => match setV env i u with
      | some env1 => .nx env1 st1
      | none => .no
    | none => .no
  | .mov i j => match env[j]? with
    | some (.ow xs) => if i = j then .no else match setV (env.set j .no) i (.va (.lst xs)) with
      | some env1 => .nx env1 st
      | none => .no
    | _ => .no
  | .appO i e => match env[i]? with
    | some (.ow xs) => (ev cf gl env st e).o env fun d st1 => if xs.length < sizeLine then .nx (env.set i (.ow (xs ++ [d]))) st1 else .no
    | _ => .no
  | .extO i e => match env[i]? with
    | some (.ow xs) => (ev cf gl env st e).o env fun d st1 => match vw st1 d with
      | .lst ys => if xs.length + ys.length ≤ sizeLine then .nx (env.set i (.ow (xs ++ ys))) st1 else .no
      | _ => .no
    | _ => .no
  | .setO i a e => (ev cf gl env st e).o env fun d st1 => match env[i]? with
    | some (.ow xs) => (ev cf gl env st1 a).o env fun k st2 => match k with
      | .int k => match L2.ixN xs.length k with
        | some j => .nx (env.set i (.ow (xs.set j d))) st2
        | none => .no
      | _ => .no
    | _ => .no
  | .aug i op e => match env[i]? with
    | some (.va x) => (ev cf gl env st e).o env fun y st1 => match op, x, y with
      | .add, .int a, .int b => .nx (env.set i (.va (.int (a + b)))) st1
      | .sub, .int a, .int b => .nx (env.set i (.va (.int (a - b)))) st1
      | _, _, _ => .no
    | _ => .no
  | .exp e => (ev cf gl env st e).o env fun _ st1 => .nx env st1
  | .updC a b => (ev cf gl env st a).o env fun x st1 => match x with
    | .ref n => match st1[n]? with
      | some (.dct _) => (ev cf gl env st1 b).o env fun y st2 => match y with
        | .ref m => match st2[n]?, st2[m]? with
          | some (.dct kvs), some (.dct more) => if n ≠ m ∧ kvs.length + more.length ≤ sizeLine then .nx env (st2.set n (.dct (mergeD kvs more))) else .no
          | _, _ => .no
        | _ => .no
      | _ => .no
    | _ => .no
  | .ret e => (ev cf gl env st e).o env fun d st1 => .rt d st1
  | .retO i => match env[i]? with
    | some (.ow xs) => .rt (.lst xs) st
    | _ => .no
  | .ite c a b => (ev cf gl env st c).o env fun d st1 => cndO .no d (execs env st1 a) (execs env st1 b)
  | .whl c b => whlLoop (fun env st => ev cf gl env st c) (fun env st => execs env st b) fuel env st
  | .for tg it b => (evIt cf gl env st it).o env fun p st1 => forLoop (fun x env st => match asgTg tg x env with
      | some env1 => execs env1 st b
      | none => .no) p.2 p.1 env st1
  | .brk => .bk env st
  | .cnt => .ct env st
  | .pss => .nx env st
  | .nev => .no
def execs (env : Env) (st : St) : Ss → O
  | .nil => .nx env st
  | .cons s ss => match exec env st s with
    | .nx env' st' => execs env' st' ss
    | r => r
end
end

structure Def where
  ps : Nat
  n : Nat
  body : Ss
structure Pg where
  defs : Nat → Option Def
  gl : Nat → Option D
def retOf : O → R D
  | .nx _ st => .ok .non st
  | .rt d st => .ok d st
  | .ex x _ st => .ex x st
  | _ => .no
def callN (P : Pg) : Nat → Cf
  | 0, _, _, _ => .no
  | k + 1, f, ds, st => match P.defs f with
    | some d => if ds.length = d.ps then retOf (execs (callN P k) P.gl (ds.map Sl.va ++ List.replicate (d.n - d.ps) Sl.no) st d.body) else .no
    | none => .no
end Ev

set_option Elab.async false
set_option linter.all false
set_option maxRecDepth 100000
/-! What a value of the evaluator stands for in the hand layer's abstract heap. -/
namespace Ev
open PySem PySem.Spec PyProof.Rows L2

/-- the cells' addresses; the lists that nobody changes any more -/
structure Wd where
  φ : List Addr
  F : Addr → Prop

section
variable (K : PySem.W.Frag)
def KLst (a : Addr) (xs : List V) : Prop :=
  ∃ (o : Obj) (its : Array Value) (n : Nat), K.lookup a = some o ∧ o.cls = .type "list" ∧ o.dict = none ∧ o.data = .seq its n ∧ its.size ≤ sizeLine ∧ Vals xs its.toList
def KTup (a : Addr) (xs : List V) : Prop :=
  ∃ (o : Obj) (its : Array Value) (n : Nat), K.lookup a = some o ∧ o.cls = .type "tuple" ∧ o.data = .seq its n ∧ its.size ≤ sizeLine ∧ Vals xs its.toList
def LstAt (H : Hp) (ω : Wd) (a : Addr) (vs : List V) : Prop := H a = some (.lst vs) ∧ a ∉ ω.φ ∧ ω.F a
def ScrAt (H : Hp) (ω : Wd) (a : Addr) (vs : List V) : Prop := ((∃ o, H a = some (.frz o (.lst vs))) ∧ a ∉ ω.φ) ∨ KLst K a vs
def TupAt (H : Hp) (ω : Wd) (a : Addr) (vs : List V) : Prop := (Rd H a (.tup vs) ∧ a ∉ ω.φ) ∨ KTup K a vs
mutual
def Rep (H : Hp) (ω : Wd) (v : V) : D → Prop
  | .non => v = .non
  | .bl b => v = .bl b
  | .int i => v = .int i
  | .str x => v = .str (toS x) ∧ x.length ≤ sizeLine
  | .tup ds => ∃ a vs, v = .ref a ∧ TupAt K H ω a vs ∧ ds.length ≤ sizeLine ∧ Reps H ω vs ds
  | .lst ds => ∃ a vs, v = .ref a ∧ LstAt H ω a vs ∧ ds.length ≤ sizeLine ∧ Reps H ω vs ds
  | .ref n => ∃ a, ω.φ[n]? = some a ∧ v = .ref a
  | .scr ns => ∃ a, v = .ref a ∧ ScrAt K H ω a (ns.map .int) ∧ ns.length ≤ sizeLine
def Reps (H : Hp) (ω : Wd) : List V → List D → Prop
  | [], [] => True
  | v :: vs, d :: ds => Rep H ω v d ∧ Reps H ω vs ds
  | _, _ => False
end
def RepK (H : Hp) (ω : Wd) : List (Key × V) → List (Key × D) → Prop
  | [], [] => True
  | p :: ps, q :: qs => (p.1 = q.1 ∧ Rep K H ω p.2 q.2) ∧ RepK H ω ps qs
  | _, _ => False
end

/-- how a step may leave the world -/
structure Ext (H : Hp) (ω : Wd) (H' : Hp) (ω' : Wd) : Prop where
  pre : ω.φ <+: ω'.φ
  frz : ∀ a, ω.F a → ω'.F a
  keep : ∀ a o, H a = some o → a ∉ ω.φ → H' a = some o
  new : ∀ a, a ∈ ω'.φ → a ∈ ω.φ ∨ H a = none
  newF : ∀ a, ω'.F a → ω.F a ∨ H a = none
  cells : ∀ a, a ∈ ω.φ → H a ≠ none → H' a ≠ none
theorem Ext.refl (H : Hp) (ω : Wd) : Ext H ω H ω := ⟨List.prefix_refl _, fun _ h => h, fun _ _ h _ => h, fun _ h => .inl h, fun _ h => .inl h, fun _ _ h => h⟩
theorem Ext.stay {H H' : Hp} {ω ω' : Wd} (e : Ext H ω H' ω') {a : Addr} (h : H a ≠ none) : H' a ≠ none := by
  by_cases q : a ∈ ω.φ
  · exact e.cells a q h
  · cases r : H a with
    | none => exact absurd r h
    | some o => rw [e.keep a o r q]; simp
theorem Ext.trans {H H1 H2 : Hp} {ω ω1 ω2 : Wd} (e : Ext H ω H1 ω1) (f : Ext H1 ω1 H2 ω2) : Ext H ω H2 ω2 where
  pre := e.pre.trans f.pre
  frz := fun a h => f.frz a (e.frz a h)
  keep := fun a o h n => f.keep a o (e.keep a o h n) fun q => (e.new a q).elim n fun z => by rw [z] at h; cases h
  new := fun a h => (f.new a h).elim (e.new a) fun z => by
    cases q : H a with
    | none => exact .inr rfl
    | some o => exact absurd z (e.stay (by rw [q]; simp))
  newF := fun a h => (f.newF a h).elim (e.newF a) fun z => by
    cases q : H a with
    | none => exact .inr rfl
    | some o => exact absurd z (e.stay (by rw [q]; simp))
  cells := fun a h q => f.stay (e.stay q)
theorem Ext.at {H H' : Hp} {ω ω' : Wd} (e : Ext H ω H' ω') {n : Nat} {a : Addr} (h : ω.φ[n]? = some a) : ω'.φ[n]? = some a := by
  obtain ⟨t, q⟩ := e.pre
  rw [← q, List.getElem?_append_left (List.getElem?_eq_some_iff.mp h).1]
  exact h

/-- what never changes -/
def fxd : HO → Bool
  | .lst _ => false
  | .ext _ => false
  | _ => true
/-- as Ext, but lists that are not frozen may change -/
structure WExt (H : Hp) (ω : Wd) (H' : Hp) (ω' : Wd) : Prop where
  pre : ω.φ <+: ω'.φ
  frz : ∀ a, ω.F a → ω'.F a
  keep : ∀ a o, H a = some o → a ∉ ω.φ → (ω.F a ∨ fxd o = true) → H' a = some o
  new : ∀ a, a ∈ ω'.φ → a ∈ ω.φ ∨ H a = none
  stay : ∀ a, H a ≠ none → H' a ≠ none
theorem Ext.w {H H' : Hp} {ω ω' : Wd} (e : Ext H ω H' ω') : WExt H ω H' ω' := ⟨e.pre, e.frz, fun a o h n _ => e.keep a o h n, e.new, fun _ h => e.stay h⟩
theorem WExt.refl (H : Hp) (ω : Wd) : WExt H ω H ω := (Ext.refl H ω).w
theorem WExt.trans {H H1 H2 : Hp} {ω ω1 ω2 : Wd} (e : WExt H ω H1 ω1) (f : WExt H1 ω1 H2 ω2) : WExt H ω H2 ω2 where
  pre := e.pre.trans f.pre
  frz := fun a h => f.frz a (e.frz a h)
  keep := fun a o h n c => f.keep a o (e.keep a o h n c) (fun q => (e.new a q).elim n fun z => by rw [z] at h; cases h) (c.elim (fun z => .inl (e.frz a z)) .inr)
  new := fun a h => (f.new a h).elim (e.new a) fun z => by
    cases q : H a with
    | none => exact .inr rfl
    | some o => exact absurd z (e.stay a (by rw [q]; simp))
  stay := fun a h => f.stay a (e.stay a h)
theorem WExt.at {H H' : Hp} {ω ω' : Wd} (e : WExt H ω H' ω') {n : Nat} {a : Addr} (h : ω.φ[n]? = some a) : ω'.φ[n]? = some a := by
  obtain ⟨t, q⟩ := e.pre
  rw [← q, List.getElem?_append_left (List.getElem?_eq_some_iff.mp h).1]
  exact h
/-- what represented values need of a step -/
structure RExt (H : Hp) (ω : Wd) (H' : Hp) (ω' : Wd) : Prop where
  pre : ω.φ <+: ω'.φ
  frz : ∀ a, ω.F a → ω'.F a
  keep : ∀ a o, H a = some o → a ∉ ω.φ → (ω.F a ∨ fxd o = true) → H' a = some o
  new : ∀ a, a ∈ ω'.φ → a ∈ ω.φ ∨ ∀ o, H a = some o → fxd o = false ∧ ¬ ω.F a
theorem WExt.r {H H' : Hp} {ω ω' : Wd} (e : WExt H ω H' ω') : RExt H ω H' ω' := ⟨e.pre, e.frz, e.keep, fun a h => (e.new a h).imp id fun z o q => by rw [z] at q; cases q⟩
theorem RExt.at {H H' : Hp} {ω ω' : Wd} (e : RExt H ω H' ω') {n : Nat} {a : Addr} (h : ω.φ[n]? = some a) : ω'.φ[n]? = some a := by
  obtain ⟨t, q⟩ := e.pre
  rw [← q, List.getElem?_append_left (List.getElem?_eq_some_iff.mp h).1]
  exact h

section
variable {K : PySem.W.Frag} {H H' : Hp} {ω ω' : Wd}
theorem RExt.rd (e : RExt H ω H' ω') {a : Addr} {u : HO} (hu : fxd u = true) (h : Rd H a u) (n : a ∉ ω.φ) : Rd H' a u ∧ a ∉ ω'.φ := by
  rcases h with h | ⟨o, h⟩
  · exact ⟨.inl (e.keep _ _ h n (.inr hu)), fun q => (e.new a q).elim n fun z => by have := (z _ h).1; rw [hu] at this; cases this⟩
  · exact ⟨.inr ⟨o, e.keep _ _ h n (.inr rfl)⟩, fun q => (e.new a q).elim n fun z => nomatch (z _ h).1⟩
theorem LstAt.rext (e : RExt H ω H' ω') {a : Addr} {vs : List V} (h : LstAt H ω a vs) : LstAt H' ω' a vs := by
  obtain ⟨h, n, f⟩ := h
  exact ⟨e.keep _ _ h n (.inl f), fun q => (e.new a q).elim n fun z => (z _ h).2 f, e.frz a f⟩
theorem ScrAt.rext (e : RExt H ω H' ω') {a : Addr} {vs : List V} (h : ScrAt K H ω a vs) : ScrAt K H' ω' a vs := by
  rcases h with ⟨⟨o, h⟩, n⟩ | h
  · exact .inl ⟨⟨o, e.keep _ _ h n (.inr rfl)⟩, fun q => (e.new a q).elim n fun z => nomatch (z _ h).1⟩
  · exact .inr h
theorem ScrAt.sq {a : Addr} {vs : List V} (h : ScrAt K H ω a vs) : SqL K H a vs := h.elim (fun h => .inl (.inr h.1)) .inr
theorem TupAt.rext (e : RExt H ω H' ω') {a : Addr} {vs : List V} (h : TupAt K H ω a vs) : TupAt K H' ω' a vs := by
  rcases h with ⟨h, n⟩ | h
  · exact .inl (e.rd rfl h n)
  · exact .inr h
theorem LstAt.sq {a : Addr} {vs : List V} (h : LstAt H ω a vs) : SqL K H a vs := .inl (.inl h.1)
theorem TupAt.sq {a : Addr} {vs : List V} (h : TupAt K H ω a vs) : SqT K H a vs := h.elim (fun h => .inl h.1) .inr
mutual
theorem Rep.rext (e : RExt H ω H' ω') : ∀ {v : V} (d : D), Rep K H ω v d → Rep K H' ω' v d
  | _, .non, h => by simpa [Rep] using h
  | _, .bl b, h => by simpa [Rep] using h
  | _, .int i, h => by simpa [Rep] using h
  | _, .str x, h => by simpa [Rep] using h
  | _, .tup ds, h => by
    simp only [Rep] at h ⊢
    obtain ⟨a, vs, h1, h2, h3, h4⟩ := h
    exact ⟨a, vs, h1, h2.rext e, h3, Reps.rext e ds h4⟩
  | _, .lst ds, h => by
    simp only [Rep] at h ⊢
    obtain ⟨a, vs, h1, h2, h3, h4⟩ := h
    exact ⟨a, vs, h1, h2.rext e, h3, Reps.rext e ds h4⟩
  | _, .ref n, h => by
    simp only [Rep] at h ⊢
    obtain ⟨a, h1, h2⟩ := h
    exact ⟨a, e.at h1, h2⟩
  | _, .scr ns, h => by
    simp only [Rep] at h ⊢
    obtain ⟨a, h1, h2, h3⟩ := h
    exact ⟨a, h1, h2.rext e, h3⟩
theorem Reps.rext (e : RExt H ω H' ω') : ∀ {vs : List V} (ds : List D), Reps K H ω vs ds → Reps K H' ω' vs ds
  | [], [], h => h
  | v :: vs, d :: ds, h => by
    simp only [Reps] at h ⊢
    exact ⟨Rep.rext e d h.1, Reps.rext e ds h.2⟩
  | [], _ :: _, h => h.elim
  | _ :: _, [], h => h.elim
end
theorem LstAt.wext (e : WExt H ω H' ω') {a : Addr} {vs : List V} (h : LstAt H ω a vs) : LstAt H' ω' a vs := h.rext e.r
theorem ScrAt.wext (e : WExt H ω H' ω') {a : Addr} {vs : List V} (h : ScrAt K H ω a vs) : ScrAt K H' ω' a vs := h.rext e.r
theorem TupAt.wext (e : WExt H ω H' ω') {a : Addr} {vs : List V} (h : TupAt K H ω a vs) : TupAt K H' ω' a vs := h.rext e.r
theorem Rep.wext (e : WExt H ω H' ω') {v : V} (d : D) (h : Rep K H ω v d) : Rep K H' ω' v d := Rep.rext e.r d h
theorem Reps.wext (e : WExt H ω H' ω') {vs : List V} (ds : List D) (h : Reps K H ω vs ds) : Reps K H' ω' vs ds := Reps.rext e.r ds h
theorem Rep.ext (e : Ext H ω H' ω') {v : V} (d : D) (h : Rep K H ω v d) : Rep K H' ω' v d := Rep.rext e.w.r d h
theorem Reps.ext (e : Ext H ω H' ω') {vs : List V} (ds : List D) (h : Reps K H ω vs ds) : Reps K H' ω' vs ds := Reps.rext e.w.r ds h
theorem Reps.length : ∀ {vs : List V} {ds : List D}, Reps K H ω vs ds → vs.length = ds.length
  | [], [], _ => rfl
  | v :: vs, d :: ds, h => by simp only [Reps] at h; simp [Reps.length h.2]
  | [], _ :: _, h => h.elim
  | _ :: _, [], h => h.elim
theorem Reps.get : ∀ {vs : List V} {ds : List D} {i : Nat} {d : D}, Reps K H ω vs ds → ds[i]? = some d → ∃ v, vs[i]? = some v ∧ Rep K H ω v d
  | [], [], _, _, _, e => by simp at e
  | v :: vs, d :: ds, 0, _, h, e => by
    simp only [Reps] at h
    simp at e; subst e
    exact ⟨v, rfl, h.1⟩
  | v :: vs, d :: ds, i + 1, _, h, e => by
    simp only [Reps] at h
    obtain ⟨w, h1, h2⟩ := Reps.get (i := i) h.2 (by simpa using e)
    exact ⟨w, by simpa using h1, h2⟩
  | [], _ :: _, _, _, h, _ => h.elim
  | _ :: _, [], _, _, h, _ => h.elim
theorem Reps.getV : ∀ {vs : List V} {ds : List D} {i : Nat} {v : V}, Reps K H ω vs ds → vs[i]? = some v → ∃ d, ds[i]? = some d ∧ Rep K H ω v d
  | [], [], _, _, _, e => by simp at e
  | v :: vs, d :: ds, 0, _, h, e => by
    simp only [Reps] at h
    simp at e; subst e
    exact ⟨d, rfl, h.1⟩
  | v :: vs, d :: ds, i + 1, _, h, e => by
    simp only [Reps] at h
    obtain ⟨w, h1, h2⟩ := Reps.getV (i := i) h.2 (by simpa using e)
    exact ⟨w, by simpa using h1, h2⟩
  | [], _ :: _, _, _, h, _ => h.elim
  | _ :: _, [], _, _, h, _ => h.elim
theorem Reps.append : ∀ {vs ws : List V} {ds es : List D}, Reps K H ω vs ds → Reps K H ω ws es → Reps K H ω (vs ++ ws) (ds ++ es)
  | [], _, [], _, _, h => h
  | v :: vs, _, d :: ds, _, h, h' => by
    simp only [Reps, List.cons_append] at h ⊢
    exact ⟨h.1, Reps.append h.2 h'⟩
  | [], _, _ :: _, _, h, _ => h.elim
  | _ :: _, _, [], _, h, _ => h.elim
theorem Reps.take : ∀ {vs : List V} {ds : List D} (n : Nat), Reps K H ω vs ds → Reps K H ω (vs.take n) (ds.take n)
  | [], [], n, _ => by cases n <;> trivial
  | _ :: _, _ :: _, 0, _ => trivial
  | v :: vs, d :: ds, n + 1, h => by
    simp only [Reps, List.take_succ_cons] at h ⊢
    exact ⟨h.1, Reps.take n h.2⟩
  | [], _ :: _, _, h => h.elim
  | _ :: _, [], _, h => h.elim
theorem Reps.drop : ∀ {vs : List V} {ds : List D} (n : Nat), Reps K H ω vs ds → Reps K H ω (vs.drop n) (ds.drop n)
  | [], [], n, _ => by cases n <;> trivial
  | _ :: _, _ :: _, 0, h => h
  | v :: vs, d :: ds, n + 1, h => by
    simp only [Reps, List.drop_succ_cons] at h ⊢
    exact Reps.drop n h.2
  | [], _ :: _, _, h => h.elim
  | _ :: _, [], _, h => h.elim
theorem Reps.set : ∀ {vs : List V} {ds : List D} {v : V} {d : D} (i : Nat), Reps K H ω vs ds → Rep K H ω v d → Reps K H ω (vs.set i v) (ds.set i d)
  | [], [], _, _, _, h, _ => by simpa using h
  | _ :: _, _ :: _, _, _, 0, h, r => by
    simp only [Reps, List.set_cons_zero] at h ⊢
    exact ⟨r, h.2⟩
  | v :: vs, d :: ds, _, _, n + 1, h, r => by
    simp only [Reps, List.set_cons_succ] at h ⊢
    exact ⟨h.1, Reps.set n h.2 r⟩
  | [], _ :: _, _, _, _, h, _ => h.elim
  | _ :: _, [], _, _, _, h, _ => h.elim
theorem Reps.reverse : ∀ {vs : List V} {ds : List D}, Reps K H ω vs ds → Reps K H ω vs.reverse ds.reverse
  | [], [], h => h
  | v :: vs, d :: ds, h => by
    simp only [Reps, List.reverse_cons] at h ⊢
    exact (Reps.reverse h.2).append (by simp only [Reps]; exact ⟨h.1, trivial⟩)
  | [], _ :: _, h => h.elim
  | _ :: _, [], h => h.elim
theorem Reps.flat {vs : List V} {ds : List D} (h : Reps K H ω vs ds) : ∀ n : Nat, Reps K H ω (List.replicate n vs).flatten (List.replicate n ds).flatten
  | 0 => trivial
  | n + 1 => by
    simp only [List.replicate_succ, List.flatten_cons]
    exact h.append (h.flat n)
theorem RepK.ext (e : Ext H ω H' ω') : ∀ {ps : List (Key × V)} {qs : List (Key × D)}, RepK K H ω ps qs → RepK K H' ω' ps qs
  | [], [], h => h
  | p :: ps, q :: qs, h => by
    simp only [RepK] at h ⊢
    exact ⟨⟨h.1.1, h.1.2.ext e⟩, RepK.ext e h.2⟩
  | [], _ :: _, h => h.elim
  | _ :: _, [], h => h.elim

/-- the world that hashes are of -/
class HW where
  w : World
section
variable [HW]
def nEnt (x : NestedKey × Addr × Value) : DictEntry := ⟨x.1.hash HW.w, .ref x.2.1, x.2.2⟩
/-- o is a dict of nested keys; its epoch is its size: no key ever goes -/
def NObj (o : Obj) (xs : List (NestedKey × Addr × Value)) : Prop := o.ExactDict ∧ (∃ es, o.data = .dict es xs.length ∧ es.toList = xs.map nEnt) ∧ (xs.map (·.1)).Nodup
end
def RepN (K : PySem.W.Frag) (H : Hp) (ω : Wd) : List (NestedKey × Addr × Value) → List (D × D) → Prop
  | [], [] => True
  | p :: ps, q :: qs => ((tkey q.1 = some p.1 ∧ Rep K H ω (.ref p.2.1) q.1) ∧ ∃ v, RelV v p.2.2 ∧ Rep K H ω v q.2) ∧ RepN K H ω ps qs
  | _, _ => False
theorem RepN.rext (e : RExt H ω H' ω') : ∀ {ps : List (NestedKey × Addr × Value)} {qs : List (D × D)}, RepN K H ω ps qs → RepN K H' ω' ps qs
  | [], [], h => h
  | p :: ps, q :: qs, h => by
    simp only [RepN] at h ⊢
    obtain ⟨⟨⟨h1, h2⟩, v, h3, h4⟩, h5⟩ := h
    exact ⟨⟨⟨h1, Rep.rext e _ h2⟩, v, h3, Rep.rext e _ h4⟩, RepN.rext e h5⟩
  | [], _ :: _, h => h.elim
  | _ :: _, [], h => h.elim
theorem RepN.ext (e : Ext H ω H' ω') {ps : List (NestedKey × Addr × Value)} {qs : List (D × D)} (h : RepN K H ω ps qs) : RepN K H' ω' ps qs := h.rext e.w.r
theorem RepN.length : ∀ {ps : List (NestedKey × Addr × Value)} {qs : List (D × D)}, RepN K H ω ps qs → ps.length = qs.length
  | [], [], _ => rfl
  | p :: ps, q :: qs, h => by
    simp only [RepN] at h
    simp [RepN.length h.2]
  | [], _ :: _, h => h.elim
  | _ :: _, [], h => h.elim
variable [HW]
/-- a cell's object -/
def CellR (K : PySem.W.Frag) (H : Hp) (ω : Wd) (a : Addr) : C → Prop
  | .lst xs => ∃ vs, H a = some (.lst vs) ∧ xs.length ≤ sizeLine ∧ Reps K H ω vs xs
  | .dct kvs => ∃ ps, H a = some (.dK ps) ∧ RepK K H ω ps kvs
  | .dcn kvs => ∃ o xs, H a = some (.ext fun h => h.get? a = some o) ∧ (a == sysModules) = false ∧ kvs.length ≤ sizeLine ∧ NObj o xs ∧ RepN K H ω xs kvs
structure Sim (K : PySem.W.Frag) (H : Hp) (ω : Wd) (st : St) : Prop where
  len : ω.φ.length = st.length
  nd : ω.φ.Nodup
  nF : ∀ a, a ∈ ω.φ → ¬ ω.F a
  hF : ∀ a, ω.F a → H a ≠ none
  cell : ∀ (n : Nat) (c : C), st[n]? = some c → ∃ a, ω.φ[n]? = some a ∧ CellR K H ω a c
theorem CellR.there {a : Addr} {c : C} (h : CellR K H ω a c) : H a ≠ none := by
  cases c with
  | lst xs => obtain ⟨vs, h, _⟩ := h; rw [h]; simp
  | dct kvs => obtain ⟨vs, h, _⟩ := h; rw [h]; simp
  | dcn kvs => obtain ⟨o, xs, h, _⟩ := h; rw [h]; simp
theorem Sim.has {st : St} (s : Sim K H ω st) {n : Nat} {a : Addr} (h : ω.φ[n]? = some a) : ∃ c : C, st[n]? = some c := by
  obtain ⟨hl, _⟩ := List.getElem?_eq_some_iff.mp h
  have hl : n < st.length := by rw [← s.len]; exact hl
  exact ⟨st[n], List.getElem?_eq_getElem hl⟩
theorem Sim.there {st : St} (s : Sim K H ω st) {a : Addr} (h : a ∈ ω.φ) : H a ≠ none := by
  obtain ⟨n, hn⟩ := List.mem_iff_getElem?.mp h
  obtain ⟨c, hc⟩ := s.has hn
  obtain ⟨b, h1, h2⟩ := s.cell n c hc
  rw [hn] at h1
  cases h1
  exact h2.there
theorem Sim.fresh {st : St} (s : Sim K H ω st) {p : Addr} (h : H p = none) : p ∉ ω.φ := fun q => s.there q h
theorem Sim.tup {st : St} (s : Sim K H ω st) {a : Addr} {vs : List V} (h : H a = some (.tup vs)) : a ∉ ω.φ := fun q => by
  obtain ⟨n, hn⟩ := List.mem_iff_getElem?.mp q
  obtain ⟨c, hc⟩ := s.has hn
  obtain ⟨b, h1, h2⟩ := s.cell n c hc
  rw [hn] at h1
  cases h1
  cases c with
  | lst xs => obtain ⟨ws, e, _⟩ := h2; rw [h] at e; cases e
  | dct xs => obtain ⟨ws, e, _⟩ := h2; rw [h] at e; cases e
  | dcn xs => obtain ⟨o, ws, e, _⟩ := h2; rw [h] at e; cases e

/-- a new object beside -/
theorem Ext.updN {st : St} (s : Sim K H ω st) {p : Addr} {o : HO} (h : H p = none) : Ext H ω (upd H p o) ω where
  pre := List.prefix_refl _
  frz := fun _ h => h
  keep := fun a u e _ => by rw [upd_ne (ne_of_none e h)]; exact e
  new := fun _ h => .inl h
  newF := fun _ h => .inl h
  cells := fun a _ n => by
    cases q : H a with
    | none => exact absurd q n
    | some u => rw [upd_ne (ne_of_none q h), q]; simp
theorem CellR.ext {H2 : Hp} (e : Ext H ω H2 ω') {a : Addr} {c : C} (hs : ∀ u, H a = some u → H2 a = some u) (h : CellR K H ω a c) : CellR K H2 ω' a c := by
  cases c with
  | lst xs =>
    obtain ⟨vs, h1, h2, h3⟩ := h
    exact ⟨vs, hs _ h1, h2, Reps.ext e xs h3⟩
  | dct kvs =>
    obtain ⟨vs, h1, h2⟩ := h
    exact ⟨vs, hs _ h1, h2.ext e⟩
  | dcn kvs =>
    obtain ⟨o, xs, h1, h2, h3, h4, h5⟩ := h
    exact ⟨o, xs, hs _ h1, h2, h3, h4, h5.ext e⟩
theorem Sim.updN {st : St} (s : Sim K H ω st) {p : Addr} {o : HO} (h : H p = none) : Sim K (upd H p o) ω st :=
  ⟨s.len, s.nd, s.nF, fun a ha => (Ext.updN (o := o) s h).stay (s.hF a ha), fun n c e => by
    obtain ⟨a, h1, h2⟩ := s.cell n c e
    exact ⟨a, h1, h2.ext (Ext.updN s h) fun u q => by rw [upd_ne (ne_of_none q h)]; exact q⟩⟩
/-- a new list that is frozen at once -/
def Wd.frz (ω : Wd) (p : Addr) : Wd := ⟨ω.φ, fun a => ω.F a ∨ a = p⟩
theorem Ext.frzN (ω : Wd) {H : Hp} {p : Addr} (h : H p = none ∨ ω.F p) (H' : Hp) (k : ∀ a o, H a = some o → H' a = some o) : Ext H ω H' (ω.frz p) where
  pre := List.prefix_refl _
  frz := fun _ h => .inl h
  keep := fun a u e _ => k a u e
  new := fun _ h => .inl h
  newF := fun a h' => h'.elim .inl fun e => by subst e; exact h.elim .inr .inl
  cells := fun a _ n => by
    cases q : H a with
    | none => exact absurd q n
    | some u => rw [k a u q]; simp
theorem upd_keep {H : Hp} {p : Addr} {o : HO} (h : H p = none) : ∀ a u, H a = some u → upd H p o a = some u := fun a u e => by
  rw [upd_ne (ne_of_none e h)]; exact e
theorem Sim.updF {st : St} (s : Sim K H ω st) {p : Addr} {o : HO} (h : H p = none) : Sim K (upd H p o) (ω.frz p) st :=
  ⟨s.len, s.nd, fun a ha => fun q => q.elim (s.nF a ha) fun e => by subst e; exact s.fresh h ha, fun a ha => ha.elim (fun z => (Ext.updN (o := o) s h).stay (s.hF a z)) fun z => by subst z; rw [upd_same]; simp, fun n c e => by
    obtain ⟨a, h1, h2⟩ := s.cell n c e
    exact ⟨a, h1, h2.ext (Ext.frzN ω (.inl h) _ (upd_keep h)) fun u q => by rw [upd_ne (ne_of_none q h)]; exact q⟩⟩
/-- a new tuple of represented things -/
theorem Rep.newTup {st : St} (s : Sim K H ω st) {p : Addr} {vs : List V} {ds : List D} (h : H p = none) (hl : ds.length ≤ sizeLine) (r : Reps K H ω vs ds) : Rep K (upd H p (.tup vs)) ω (.ref p) (.tup ds) := by
  simp only [Rep]
  exact ⟨p, vs, rfl, .inl ⟨.inl upd_same, s.fresh h⟩, hl, Reps.ext (Ext.updN s h) ds r⟩
theorem Rep.newLst {st : St} (s : Sim K H ω st) {p : Addr} {vs : List V} {ds : List D} (h : H p = none) (hl : ds.length ≤ sizeLine) (r : Reps K H ω vs ds) : Rep K (upd H p (.lst vs)) (ω.frz p) (.ref p) (.lst ds) := by
  simp only [Rep]
  exact ⟨p, vs, rfl, ⟨upd_same, s.fresh h, .inr rfl⟩, hl, Reps.ext (Ext.frzN ω (.inl h) _ (upd_keep h)) ds r⟩

/-- what may be read: a represented value, or a list that is the frame's own or a cell's -/
def RepT (K : PySem.W.Frag) (H : Hp) (ω : Wd) (v : V) (d : D) : Prop := Rep K H ω v d ∨ ∃ a vs ds, v = .ref a ∧ d = .lst ds ∧ H a = some (.lst vs) ∧ ds.length ≤ sizeLine ∧ Reps K H ω vs ds
theorem Rep.vw {st : St} (s : Sim K H ω st) {v : V} {d : D} (r : Rep K H ω v d) : RepT K H ω v (vw st d) := by
  cases d with
  | ref n =>
    simp only [Ev.vw]
    cases e : st[n]? with
    | none => exact .inl r
    | some c =>
      cases c with
      | dct kvs => exact .inl r
      | dcn kvs => exact .inl r
      | lst xs =>
        simp only [Rep] at r
        obtain ⟨a, h1, rfl⟩ := r
        obtain ⟨b, h2, vs, h3, h4, h5⟩ := s.cell n _ e
        rw [h1] at h2
        cases h2
        exact .inr ⟨a, vs, xs, rfl, rfl, h3, h4, h5⟩
  | non => exact .inl r
  | bl _ => exact .inl r
  | int _ => exact .inl r
  | str _ => exact .inl r
  | tup _ => exact .inl r
  | lst _ => exact .inl r
  | scr _ => exact .inl r
/-- what may be read as a sequence: the script, too -/
def RepS (K : PySem.W.Frag) (H : Hp) (ω : Wd) (v : V) (d : D) : Prop := Rep K H ω v d ∨ ∃ a vs ds, v = .ref a ∧ d = .lst ds ∧ SqL K H a vs ∧ ds.length ≤ sizeLine ∧ Reps K H ω vs ds
theorem Reps.ints : ∀ ns : List Int, Reps K H ω (ns.map .int) (ns.map .int)
  | [] => trivial
  | n :: ns => by simp only [List.map_cons, Reps, Rep]; exact ⟨trivial, Reps.ints ns⟩
theorem RepT.s {v : V} {d : D} (r : RepT K H ω v d) : RepS K H ω v d := by
  rcases r with r | ⟨a, vs, es, h1, h2, h3, h4, h5⟩
  · exact .inl r
  · exact .inr ⟨a, vs, es, h1, h2, .inl (.inl h3), h4, h5⟩
theorem Rep.vwS {st : St} (s : Sim K H ω st) {v : V} {d : D} (r : Rep K H ω v d) : RepS K H ω v (vwS st d) := by
  cases d with
  | scr ns =>
    simp only [Rep] at r
    obtain ⟨a, rfl, h2, h3⟩ := r
    exact .inr ⟨a, _, _, rfl, rfl, h2.sq, by simpa using h3, Reps.ints ns⟩
  | ref n => exact (Rep.vw s r).s
  | non => exact .inl r
  | bl _ => exact .inl r
  | int _ => exact .inl r
  | str _ => exact .inl r
  | tup _ => exact .inl r
  | lst _ => exact .inl r
/-- a readable list's items -/
theorem RepS.lst {v : V} {ds : List D} (r : RepS K H ω v (.lst ds)) : ∃ a vs, v = .ref a ∧ SqL K H a vs ∧ ds.length ≤ sizeLine ∧ Reps K H ω vs ds := by
  rcases r with r | ⟨a, vs, es, h1, h2, h3, h4, h5⟩
  · simp only [Rep] at r
    obtain ⟨a, vs, h1, h2, h3, h4⟩ := r
    exact ⟨a, vs, h1, h2.sq, h3, h4⟩
  · cases h2
    exact ⟨a, vs, h1, h3, h4, h5⟩
theorem RepS.rep {v : V} {d : D} (r : RepS K H ω v d) (h : ∀ ds, d ≠ .lst ds) : Rep K H ω v d := by
  rcases r with r | ⟨a, vs, es, h1, h2, h3, h4, h5⟩
  · exact r
  · exact absurd h2 (h es)
theorem RepS.tup {v : V} {ds : List D} (r : RepS K H ω v (.tup ds)) : ∃ a vs, v = .ref a ∧ TupAt K H ω a vs ∧ ds.length ≤ sizeLine ∧ Reps K H ω vs ds := by
  have r := r.rep (fun _ e => by cases e)
  simpa only [Rep] using r
theorem RepS.int {v : V} {i : Int} (r : RepS K H ω v (.int i)) : v = .int i := by
  have r := r.rep (fun _ e => by cases e)
  simpa only [Rep] using r
theorem RepS.bl {v : V} {i : Bool} (r : RepS K H ω v (.bl i)) : v = .bl i := by
  have r := r.rep (fun _ e => by cases e)
  simpa only [Rep] using r
theorem RepS.str {v : V} {i : List Nat} (r : RepS K H ω v (.str i)) : v = .str (toS i) ∧ i.length ≤ sizeLine := by
  have r := r.rep (fun _ e => by cases e)
  simpa only [Rep] using r
/-- a tracked list -/
theorem RepT.lst {v : V} {ds : List D} (r : RepT K H ω v (.lst ds)) : ∃ a vs, v = .ref a ∧ H a = some (.lst vs) ∧ ds.length ≤ sizeLine ∧ Reps K H ω vs ds := by
  rcases r with r | ⟨a, vs, es, h1, h2, h3, h4, h5⟩
  · simp only [Rep] at r
    obtain ⟨a, vs, h1, h2, h3, h4⟩ := r
    exact ⟨a, vs, h1, h2.1, h3, h4⟩
  · cases h2
    exact ⟨a, vs, h1, h3, h4, h5⟩
theorem RepT.ext (e : Ext H ω H' ω') {v : V} {d : D} (r : RepT K H ω v d) (hn : ∀ a vs, H a = some (.lst vs) → v = .ref a → H' a = some (.lst vs)) : RepT K H' ω' v d := by
  rcases r with r | ⟨a, vs, es, h1, h2, h3, h4, h5⟩
  · exact .inl (r.ext e)
  · exact .inr ⟨a, vs, es, h1, h2, hn a vs h3 h1, h4, Reps.ext e es h5⟩

mutual
/-- a value without references, as the layer's data -/
theorem Rep.dp : ∀ {v : V} (d : D), d.py.canLay0 = true → Rep K H ω v d → Dp K H v d.py
  | _, .non, _, h => by simp only [Rep] at h; subst h; exact .non
  | _, .bl b, _, h => by simp only [Rep] at h; subst h; exact .bl b
  | _, .int i, _, h => by simp only [Rep] at h; subst h; exact .int i
  | _, .str x, _, h => by simp only [Rep] at h; obtain ⟨rfl, _⟩ := h; exact .str _
  | _, .tup ds, c, h => by
    simp only [Rep] at h
    obtain ⟨a, vs, rfl, h2, _, h4⟩ := h
    exact .tup h2.sq (Reps.dp ds (by simpa [D.py, PyData.canLay0] using c) h4)
  | _, .lst ds, c, h => by
    simp only [Rep] at h
    obtain ⟨a, vs, rfl, h2, _, h4⟩ := h
    exact .lst h2.sq (Reps.dp ds (by simpa [D.py, PyData.canLay0] using c) h4)
  | _, .ref n, c, _ => by simp [D.py, PyData.canLay0] at c
  | _, .scr n, c, _ => by simp [D.py, PyData.canLay0] at c
theorem Reps.dp : ∀ {vs : List V} (ds : List D), PyData.canLayAll0 (D.pys ds) = true → Reps K H ω vs ds → DpAll K H vs (D.pys ds)
  | [], [], _, _ => .nil
  | v :: vs, d :: ds, c, h => by
    simp only [Reps] at h
    simp only [D.pys, PyData.canLayAll0, Bool.and_eq_true] at c ⊢
    exact .cons (Rep.dp d c.1 h.1) (Reps.dp ds c.2 h.2)
  | [], _ :: _, _, h => h.elim
  | _ :: _, [], _, h => h.elim
end
theorem RepS.dp {v : V} {d : D} (c : d.py.canLay0 = true) (r : RepS K H ω v d) : Dp K H v d.py := by
  rcases r with r | ⟨a, vs, es, rfl, rfl, h3, h4, h5⟩
  · exact Rep.dp d c r
  · exact .lst h3 (Reps.dp es (by simpa [D.py, PyData.canLay0] using c) h5)
end
end Ev

set_option Elab.async false
set_option linter.all false
set_option maxRecDepth 100000
/-! enumerate of a tuple; what a loop walks, be it a list or a tuple. -/
namespace PySem
open Sem (wp)
set_option maxHeartbeats 1000000 in
/-- enumerate(v), one argument, over anything that begins -/
theorem evEnumNew {v : Value} {o : Obj} {H : Heap → Prop} (B : Begins v o H) :
    Meets (Builtin.«enumerate.__new__» ⟨[.type "enumerate", v], []⟩) (fun _ R s => H s.heap ∧
      R (.ok (.ret (.ref (s.heap.push o).objs.size))) { s with heap := (s.heap.push o).push { cls := .type "enumerate", data := .fields #[.none, .bool false, .ref s.heap.objs.size, rawInt 0, .none, .none] } }) :=
  .of_wp fun prog w A R s q => by
    obtain ⟨hp, g, d, tk, os⟩ := s
    obtain ⟨h1, h⟩ := q
    have hsub := sub_enumerate
    have begun : ∀ {A' : Around} {E : Value → Shared → Prop} {Q : Value → Shared → Prop}, Q (.ref hp.objs.size) ⟨hp.push o, g, d, tk, os⟩ → wpAny (model prog w) A' (pyIter v) Q E ⟨hp, g, d, tk, os⟩ :=
      fun z => B.iter prog w _ _ ⟨hp, g, d, tk, os⟩ _ h1 z
    wp_walk using begun
    refine wpAny_stack_any fun _ => wpAny_pure ?_
    split
    · rename_i c _ _ _ _ _
      cases (c == Value.type "enumerate") <;> (wp_walk using begun; exact ⟨_, rfl, h⟩)
    · wp_walk using begun
      exact ⟨_, rfl, h⟩
section
variable {prog : Program} {w : World} {A : Around} {E : Value → Shared → Prop} {s : Shared}
theorem evEnumCall {v : Value} {o : Obj} {H : Heap → Prop} {Q : Value → Shared → Prop} (B : Begins v o H) (h1 : H s.heap)
    (h : ∀ h', IsEnum h' (s.heap.objs.size + 1) s.heap.objs.size 0 .none → h'.get? s.heap.objs.size = some o → h'.objs.size = s.heap.objs.size + 2 →
      (∀ b u, s.heap.get? b = some u → h'.get? b = some u) → Q (.ref (s.heap.objs.size + 1)) { s with heap := h' }) :
    wpAny (model prog w) A (call (.type "enumerate") [v]) Q E s := by
  have hz : (s.heap.push o).objs.size = s.heap.objs.size + 1 := Heap.size_push ..
  have he := Heap.get?_push_size (s.heap.push o) (o := { cls := .type "enumerate", data := .fields #[.none, .bool false, .ref s.heap.objs.size, rawInt 0, .none, .none] }) rfl
  rw [hz] at he
  refine callType_new F.called_enumerate (by decide) (F.typeCall_enumerate_1 _) (F.newCall_enumerate_1 _) (fun obj => F.args_object_init_2 obj _) F.entry_enumerate_new (evEnumNew B) ⟨h1, ?_⟩
  show _ ∧ _
  rw [hz]
  exact ⟨⟨_, he, rfl⟩, h _ he (Heap.get?_push_of_some _ (Heap.get?_push_size _ B.free)) (by rw [Heap.size_push, hz]) fun b u x => Heap.get?_push_of_some _ (Heap.get?_push_of_some _ x)⟩
end
end PySem

namespace Ev
open PySem PySem.Spec PyProof.Rows L2
variable [HW]
omit [HW] in
/-- the tuple at a, its items in new pairs -/
def IteT (K : PySem.W.Frag) (a : Addr) : L2.It :=
  ⟨fun i H => ∃ (xs : List V) (x : V), SqT K H a xs ∧ xs[i]? = some x, fun i H v H' => ∃ T x, v = .ref T ∧ H T = none ∧ H' = upd H T (.tup [.int (i : Nat), x]) ∧ ∀ xs, SqT K H a xs → xs[i]? = some x, fun i H => ∃ xs : List V, SqT K H a xs ∧ xs.length = i⟩
theorem turnEnumT {P : Program} {w : World} {K : PySem.W.Frag} {elts : List Expr} {kk : Nat} {tpos : Pos} (a e it : Addr) :
    Turn P w K (.Tuple elts kk tpos) (IteT K a) [e, it] e (fun i h => (∃ old, IsEnum h e it ((i : Nat) : Int) old) ∧ h.IsTupleIter it a i ∧ e ≠ it ∧ a ≠ it ∧ a ≠ e) where
  mem := by simp
  obj := fun i h st b hb => by
    obtain ⟨⟨old, he⟩, ⟨o, ho, hc, hd⟩, _⟩ := st
    rcases (show b = e ∨ b = it by simpa using hb) with rfl | rfl
    · exact ⟨_, he, fun v q => nomatch q⟩
    · exact ⟨o, ho, fun v q => by rw [hd] at q; cases q⟩
  keep := fun i h h' st k => let ⟨⟨old, he⟩, hi, hne⟩ := st; ⟨⟨old, k e (by simp) _ he⟩, hi.at fun o q => k it (by simp) o q, hne⟩
  item := by
    intro X hP hw hK hc i pins s σ H E I hf st hg
    subst hP hw hK
    obtain ⟨⟨old, he⟩, hit, hne, hn2, hn3⟩ := st
    obtain ⟨xs, x, hq, hx⟩ := hg
    obtain ⟨its, rv, p, hz⟩ := I.tuple hq
    obtain ⟨u, hu, ru⟩ := rv.get hx
    have hel : e < s.heap.objs.size := Heap.lt_size he
    have hil : it < s.heap.objs.size := by obtain ⟨_, q, _⟩ := hit; exact Heap.lt_size q
    have hlt : i < its.toArray.size := by
      have := (List.getElem?_eq_some_iff.mp hu).1
      simpa using this
    have DD := Draws.tuple (prog := X.prog) (w := X.w) (A := X.A.in1) (I.ok.hd hc) it a hn2 its.toArray
    refine wpAny_pyNext_enum_itemD DD he ⟨hit, show s.heap.IsTuple a its.toArray from p⟩ hlt hne (by simp [hne, Ne.symm hn3]) fun y h' tk hy ho hit' hT hsz hk => ?_
    have ey : y = u := by
      have h1 : its.toArray[i]? = some y := hy
      rw [show its.toArray[i]? = some u by simpa using hu] at h1
      exact (Option.some.inj h1).symm
    subst ey
    refine ⟨_, rfl, wpAny_letOwnedTupleGo_enum (s := { s with heap := h', toks := tk + 1 }) ho fun h'' he' sb => ?_⟩
    have hT2 : h''.get? s.heap.objs.size = some { cls := .type "tuple", data := .seq #[.int i tk, y] } := (sb.2 _ (Nat.ne_of_gt hel)).trans hT
    have new : ObjOk X.prog X.w (upd H s.heap.objs.size (.tup [.int (i : Nat), x])) h'' s.heap.objs.size (.tup [.int (i : Nat), x]) :=
      ⟨by show 2 ≤ sizeLine; decide, [.int i tk, y], .cons ⟨_, rfl⟩ (.cons ru .nil), ⟨_, hT2, rfl, _, rfl⟩⟩
    have I1 : Inv X pins σ (upd H s.heap.objs.size (.tup [.int (i : Nat), x])) { s with heap := h'', toks := tk + 1 } :=
      I.turnedNew (ch := [e, it]) (fun b ob hb q => (sb.2 b (fun z => hb (by simp [z]))).trans (hk b ob (fun z => hb (by simp [z])) (fun z => hb (by simp [z])) q)) hf (Nat.le_refl _) new
    refine ⟨.ref s.heap.objs.size, _, I1, rfl, ⟨_, x, rfl, I.hok.fresh (Nat.le_refl _), rfl, fun ys hy => by rw [I.tuple_inj hy hq]; exact hx⟩, ⟨⟨y, ?_⟩, hit'.1.at fun o q => (sb.2 it (Ne.symm hne)).trans q, hne, hn2, hn3⟩, fun b hb => ?_⟩
    · have e1 : ((i + 1 : Nat) : Int) = (i : Int) + 1 := by omega
      rw [e1]; exact he'
    · have hb' : b < s.heap.objs.size := by
        rcases (show b = e ∨ b = it by simpa using hb) with rfl | rfl
        · exact hel
        · exact hil
      rw [upd_ne (Nat.ne_of_lt hb')]
      exact (hf b hb).1
  done := by
    intro X hP hw hK hc i pins s σ H E I hf st hg
    subst hP hw hK
    obtain ⟨⟨old, he⟩, hit, hne, hn2, hn3⟩ := st
    obtain ⟨xs, hq, hx⟩ := hg
    obtain ⟨its, rv, p, hz⟩ := I.tuple hq
    obtain ⟨f0, f1, f2, f3, f4, f5⟩ := hf it (by simp)
    have hl := rv.length
    have hi : i = its.toArray.size := by
      rw [List.size_toArray, ← hl]
      exact hx.symm
    · subst hi
      have DD := Draws.tuple (prog := X.prog) (w := X.w) (A := X.A.in1) (I.ok.hd hc) it a hn2 its.toArray
      exact wpAny_pyNext_enum_endD DD he ⟨hit, show s.heap.IsTuple a its.toArray from p⟩ fun h' eb => ⟨rfl, I.turned (t' := s.toks) (fun b o hb q => eb b o hb q) f0 f1 f3 f4 f5⟩
  self := fun A i s Q E st h => let ⟨⟨_, he⟩, _⟩ := st; wpAny_pyIter_enum he h

omit [HW] in
/-- what is walked, told by its own record: the items xs, each by yld, as long as the sequence stands -/
def tSeq (K : PySem.W.Frag) (te : TE) : TI := fun σ H R => te σ H fun x H1 => ∃ a xs, x = .ref a ∧ ((SqL K H1 a xs ∧ R (Itl K a) H1) ∨ (SqT K H1 a xs ∧ R (Itt K a) H1))
theorem pi_seq {X : Cx} {tg l : Expr} {tl : TE} (hl : PE X l tl) : PI X tg l (tSeq X.K tl) := by
  refine ⟨fun pins s σ H R I h => ?_⟩
  refine thn (hl.run pins s σ H _ I h) fun v s1 ⟨x, H1, I1, r1, a, xs, e, q⟩ => ?_
  subst e
  cases r1
  have ok : ∀ {b : Addr}, b ∈ [s1.heap.objs.size] → FpOk X pins H1 b := fun {b} hb => by
    obtain rfl : b = s1.heap.objs.size := by simpa using hb
    exact I1.fpOk (Nat.le_refl _) (I1.hok.fresh (Nat.le_refl _))
  rcases q with ⟨hq, q⟩ | ⟨hq, q⟩
  · obtain ⟨its, r, p, hz⟩ := I1.list hq
    exact wpAny_pyIter_list p.isList ⟨s1.heap.objs.size, [s1.heap.objs.size], _, _, H1, rfl, I1.kept (t' := s1.toks) fun b o e => Heap.get?_push_of_some _ e, turn_list a _, ⟨_, Heap.get?_push_size _ rfl, rfl, rfl⟩, fun b hb => ok hb, q⟩
  · obtain ⟨its, r, p, hz⟩ := I1.tuple hq
    exact wpAny_pyIter_tuple (show s1.heap.IsTuple a its.toArray from p) ⟨s1.heap.objs.size, [s1.heap.objs.size], _, _, H1, rfl, I1.kept (t' := s1.toks) fun b o e => Heap.get?_push_of_some _ e, turn_tuple a _, ⟨_, Heap.get?_push_size _ rfl, rfl, rfl⟩, fun b hb => ok hb, q⟩
omit [HW] in
def tEnm (K : PySem.W.Frag) (ta : TA) : TI := fun σ H R => ta σ H fun vs H1 => ∃ a xs, vs = [.ref a] ∧ ((SqL K H1 a xs ∧ R (Ite K a) H1) ∨ (SqT K H1 a xs ∧ R (IteT K a) H1))
theorem pi_enm {X : Cx} {e : Expr} {ta : TA} {p pos tpos : Pos} {elts : List Expr} {kk : Nat} (hg : Gl X "enumerate") (hm : X.mg "enumerate" = none) (ha : PA X [e] ta) (hs : starEach [e] X.env = [(false, eval e X.env)]) :
    PI X (.Tuple elts kk tpos) (.Call (.Name "enumerate" p) [e] [] pos) (tEnm X.K ta) := by
  refine ⟨fun pins s σ H R I h => ?_⟩
  refine Call_ (ld_blt I hg hm boot_enumerate (PyProof.Rows.callWith_type1 (thn (ha.run pos pins s σ H _ I h) fun us s1 ⟨vs, H1, I1, r1, a, xs, ex, q⟩ => ?_) hs rfl))
  subst ex
  cases r1 with
  | cons r rr =>
    cases rr
    cases r
    have hle : ∀ {b : Addr}, b ∈ [s1.heap.objs.size + 1, s1.heap.objs.size] → FpOk X pins H1 b := fun {b} hb => by
      have hb : s1.heap.objs.size ≤ b := by
        rcases (show b = s1.heap.objs.size + 1 ∨ b = s1.heap.objs.size by simpa using hb) with rfl | rfl
        · exact Nat.le_succ _
        · exact Nat.le_refl _
      exact I1.fpOk hb (I1.hok.fresh hb)
    rcases q with ⟨hq, q⟩ | ⟨hq, q⟩
    · obtain ⟨its, rv, p', hz⟩ := I1.list hq
      exact call_enumerate_list p'.isList fun h' he hit hsz hk => wpAny_pyIter_enum he ⟨s1.heap.objs.size + 1, [s1.heap.objs.size + 1, s1.heap.objs.size], _, _, H1, rfl, I1.kept (t' := s1.toks) hk,
        turn_enum a (s1.heap.objs.size + 1) s1.heap.objs.size, ⟨⟨.none, he⟩, hit, Nat.succ_ne_self _⟩, fun b hb => hle hb, q⟩
    · obtain ⟨its, rv, p', hz⟩ := I1.tuple hq
      have hp : s1.heap.IsTuple a its.toArray := p'
      have la : a < s1.heap.objs.size := by obtain ⟨o, e, _⟩ := hp; exact Heap.lt_size e
      refine evEnumCall (begins_tuple a its.toArray) hp fun h' he hit hsz hk => wpAny_pyIter_enum he ⟨s1.heap.objs.size + 1, [s1.heap.objs.size + 1, s1.heap.objs.size], _, _, H1, rfl, I1.kept (t' := s1.toks) hk,
        turnEnumT a (s1.heap.objs.size + 1) s1.heap.objs.size, ⟨⟨.none, he⟩, ⟨_, hit, rfl, rfl⟩, Nat.succ_ne_self _, Nat.ne_of_lt la, Nat.ne_of_lt (Nat.lt_succ_of_lt la)⟩, fun b hb => hle hb, q⟩
end Ev

set_option Elab.async false
set_option linter.all false
set_option maxRecDepth 100000
/-! zip of a list and a tuple. -/
namespace Ev
open PySem PySem.Spec PyProof.Rows L2
/-- the list at a, the tuple at b, their items in new pairs -/
def ItzM (K : PySem.W.Frag) (a b : Addr) : L2.It :=
  ⟨fun i H => ∃ (xs ys : List V) (x y : V), SqL K H a xs ∧ SqT K H b ys ∧ xs[i]? = some x ∧ ys[i]? = some y,
   fun i H v H' => ∃ t x y, v = .ref t ∧ H t = none ∧ H' = upd H t (.tup [x, y]) ∧ (∀ l, SqL K H a l → l[i]? = some x) ∧ ∀ l, SqT K H b l → l[i]? = some y,
   fun i H => ∃ xs ys : List V, SqL K H a xs ∧ SqT K H b ys ∧ i = min xs.length ys.length⟩
theorem turnZipM {P : Program} {w : World} {K : PySem.W.Frag} {elts : List Expr} {kk : Nat} {tpos : Pos} {a b z ti to i1 i2 : Addr} (S : ZipSep2 z ti to i1 i2 [i1, a] [i2, b]) (n1 : a ≠ i1) (n2 : b ≠ i2) :
    Turn P w K (.Tuple elts kk tpos) (ItzM K a b) [z, ti, to, i1, i2] z (fun i h => IsZip h z ti to .none ∧ IsTupOf2 h ti (.ref i1) (.ref i2) ∧ (∃ x y, IsTupOf2 h to x y) ∧ h.IsListIter i1 a i ∧ h.IsTupleIter i2 b i) where
  mem := List.mem_cons_self
  obj := fun i h ⟨q1, q2, ⟨x, y, q3⟩, ⟨o1, e1, _, d1⟩, ⟨o2, e2, _, d2⟩⟩ c hc => by
    rcases (show c = z ∨ c = ti ∨ c = to ∨ c = i1 ∨ c = i2 by simpa using hc) with rfl | rfl | rfl | rfl | rfl
    · exact ⟨_, q1, fun v q => nomatch q⟩
    · exact ⟨_, q2, fun v q => nomatch q⟩
    · exact ⟨_, q3, fun v q => nomatch q⟩
    · exact ⟨o1, e1, fun v q => by rw [d1] at q; cases q⟩
    · exact ⟨o2, e2, fun v q => by rw [d2] at q; cases q⟩
  keep := fun i h h' ⟨q1, q2, ⟨x, y, q3⟩, q4, q5⟩ k => ⟨k z (by simp) _ q1, k ti (by simp) _ q2, ⟨x, y, k to (by simp) _ q3⟩, q4.at fun o q => k i1 (by simp) o q, q5.at fun o q => k i2 (by simp) o q⟩
  item := by
    intro X hP hw hK hc i pins s σ H E I hf st hg
    subst hP hw hK
    obtain ⟨q1, q2, ⟨x0, y0, q3⟩, q4, q5⟩ := st
    obtain ⟨xs, ys, x, y, g1, g2, g3, g4⟩ := hg
    obtain ⟨its, rv, p1, _⟩ := I.list g1
    obtain ⟨its2, rv2, p2, _⟩ := I.tuple g2
    obtain ⟨u, hu, ru⟩ := rv.get g3
    obtain ⟨u2, hu2, ru2⟩ := rv2.get g4
    have lz : z < s.heap.objs.size := Heap.lt_size q1
    have D1 := Draws.list (prog := X.prog) (w := X.w) (A := X.A.in1) (I.ok.hd hc) i1 a n1 its.toArray
    have D2 := Draws.tuple (prog := X.prog) (w := X.w) (A := X.A.in1) (I.ok.hd hc) i2 b n2 its2.toArray
    have l1 : i < its.toArray.size := by simpa using (List.getElem?_eq_some_iff.mp hu).1
    have l2 : i < its2.toArray.size := by simpa using (List.getElem?_eq_some_iff.mp hu2).1
    refine wpAny_pyNext_zipD2_item S D1 D2 q1 q2 q3 ⟨q4, p1.isList⟩ ⟨q5, show s.heap.IsTuple b its2.toArray from p2⟩ l1 l2 fun v1 v2 h' tk e1 e2 m1 m2 m3 m4 m5 m6 m7 => ?_
    obtain rfl : v1 = u := by
      have z : its[i]? = some v1 := by simpa using e1
      rw [hu] at z
      exact (Option.some.inj z).symm
    obtain rfl : v2 = u2 := by
      have z : its2[i]? = some v2 := by simpa using e2
      rw [hu2] at z
      exact (Option.some.inj z).symm
    refine ⟨_, rfl, wpAny_letOwnedTupleGo_zip (s := { s with heap := h', toks := tk }) m1 fun h'' m8 sb => ?_⟩
    have t2 : h''.get? s.heap.objs.size = some { cls := .type "tuple", data := .seq #[v1, v2] } := (sb.2 _ (Nat.ne_of_gt lz)).trans m5
    have new : ObjOk X.prog X.w (upd H s.heap.objs.size (.tup [x, y])) h'' s.heap.objs.size (.tup [x, y]) :=
      ⟨by show 2 ≤ sizeLine; decide, [v1, v2], .cons ru (.cons ru2 .nil), ⟨_, t2, rfl, _, rfl⟩⟩
    have I1 : Inv X pins σ (upd H s.heap.objs.size (.tup [x, y])) { s with heap := h'', toks := tk } :=
      I.turnedNew (ch := [z, ti, to, i1, i2]) (fun c o hb q => (sb.2 c (fun w => hb (by simp [w]))).trans (m7 c o (fun w => hb (by simp [w])) (fun w => hb (by simp [w])) (fun w => hb (by simp [w])) (fun w => hb (by simp [w])) q)) hf (Nat.le_refl _) new
    refine ⟨.ref s.heap.objs.size, _, I1, rfl, ⟨_, x, y, rfl, I.hok.fresh (Nat.le_refl _), rfl, fun l hl => by rw [I.list_inj hl g1]; exact g3, fun l hl => by rw [I.tuple_inj hl g2]; exact g4⟩, ⟨m8, ?_, ⟨v1, v2, ?_⟩, ?_, ?_⟩, fun c hcm => ?_⟩
    · exact (sb.2 _ S.TIz).trans (m7 _ _ S.TIz S.TITO S.TIi1 S.TIi2 q2)
    · exact (sb.2 _ S.TOz).trans m2
    · exact m3.1.at fun o q => (sb.2 _ (Ne.symm S.zi1)).trans q
    · exact m4.1.at fun o q => (sb.2 _ (Ne.symm S.zi2)).trans q
    · have lc : c < s.heap.objs.size := by
        rcases (show c = z ∨ c = ti ∨ c = to ∨ c = i1 ∨ c = i2 by simpa using hcm) with rfl | rfl | rfl | rfl | rfl
        · exact lz
        · exact Heap.lt_size q2
        · exact Heap.lt_size q3
        · obtain ⟨_, r, _⟩ := q4; exact Heap.lt_size r
        · obtain ⟨_, r, _⟩ := q5; exact Heap.lt_size r
      rw [upd_ne (Nat.ne_of_lt lc)]
      exact (hf c hcm).1
  done := by
    intro X hP hw hK hc i pins s σ H E I hf st hg
    subst hP hw hK
    obtain ⟨q1, q2, ⟨x0, y0, q3⟩, q4, q5⟩ := st
    obtain ⟨xs, ys, g1, g2, g3⟩ := hg
    obtain ⟨its, rv, p1, _⟩ := I.list g1
    obtain ⟨its2, rv2, p2, _⟩ := I.tuple g2
    have D1 := Draws.list (prog := X.prog) (w := X.w) (A := X.A.in1) (I.ok.hd hc) i1 a n1 its.toArray
    have D2 := Draws.tuple (prog := X.prog) (w := X.w) (A := X.A.in1) (I.ok.hd hc) i2 b n2 its2.toArray
    have l1 := rv.length
    have l2 := rv2.length
    have z1 : its.toArray.size = xs.length := by simp [l1]
    have z2 : its2.toArray.size = ys.length := by simp [l2]
    exact wpAny_pyNext_zipD2_end S D1 D2 q1 q2 q3 ⟨q4, p1.isList⟩ ⟨q5, show s.heap.IsTuple b its2.toArray from p2⟩ (by omega) (by omega) (by omega) fun h' tk m7 => ⟨rfl, I.turnedL (ch := [z, ti, to, i1, i2]) (fun c o hb q =>
      m7 c o (fun w => hb (by simp [w])) (fun w => hb (by simp [w])) (fun w => hb (by simp [w])) (fun w => hb (by simp [w])) q) hf⟩
  self := fun A i s Q E st h => wpAny_pyIter_zip st.1 h
def iZipM (K : PySem.W.Frag) (ta : TA) : TI := fun σ H R => ta σ H fun vs H1 => ∃ a b xs ys, vs = [.ref a, .ref b] ∧ SqL K H1 a xs ∧ SqT K H1 b ys ∧ R (ItzM K a b) H1
theorem pi_zipM {X : Cx} {e e2 : Expr} {ta : TA} {p pos tpos : Pos} {elts : List Expr} {kk : Nat} (hg : Gl X "zip") (hm : X.mg "zip" = none) (ha : PA X [e, e2] ta)
    (hs : starEach [e, e2] X.env = (false, eval e X.env) :: starEach [e2] X.env) (hpl : (backTo pos (starEach [e2] X.env)).any (·.1) = false) :
    PI X (.Tuple elts kk tpos) (.Call (.Name "zip" p) [e, e2] [] pos) (iZipM X.K ta) := by
  refine ⟨fun pins s σ H R I h => ?_⟩
  refine Call_ (ld_blt I hg hm PyProof.Rows.boot_zip (PyProof.Rows.callWith_type1 (thn (ha.run pos pins s σ H _ I h) fun us s1 ⟨vs, H1, I1, r1, a, b, xs, ys, ex, g1, g2, q⟩ => ?_) hs hpl))
  subst ex
  cases r1 with
  | cons r rr =>
    cases rr with
    | cons r' rr =>
      cases rr
      cases r
      cases r'
      obtain ⟨its, rv, p1, _⟩ := I1.list g1
      obtain ⟨its2, rv2, p2, _⟩ := I1.tuple g2
      have la : a < s1.heap.objs.size := p1.lt
      have lb : b < s1.heap.objs.size := by obtain ⟨o, e, _⟩ := id p2; exact Heap.lt_size e
      refine zip_begins2 (begins_list a its.toArray) (begins_tuple b its2.toArray) p1.isList p2 fun h' k1 k2 k3 k4 k5 k6 k7 => wpAny_pyIter_zip k1 ?_
      have I2 : Inv X pins σ H1 { s1 with heap := h' } := I1.kept (t' := s1.toks) k7
      refine ⟨s1.heap.objs.size + 4, [s1.heap.objs.size + 4, s1.heap.objs.size + 2, s1.heap.objs.size + 3, s1.heap.objs.size, s1.heap.objs.size + 1], _, _, H1, rfl, I2,
        turnZipM (zip_sep2 (N := s1.heap.objs.size) (fp1 := [a]) (fp2 := [b]) (by simpa using la) (by simpa using lb)) (Nat.ne_of_lt la) (Nat.ne_of_lt (Nat.lt_succ_of_lt lb)), ⟨k1, k2, ⟨_, _, k3⟩, ⟨_, k4, rfl, rfl⟩, ⟨_, k5, rfl, rfl⟩⟩, fun c hcm => ?_, q⟩
      have le : s1.heap.objs.size ≤ c := by
        rcases (show c = s1.heap.objs.size + 4 ∨ c = s1.heap.objs.size + 2 ∨ c = s1.heap.objs.size + 3 ∨ c = s1.heap.objs.size ∨ c = s1.heap.objs.size + 1 by simpa using hcm) with rfl | rfl | rfl | rfl | rfl
        · exact Nat.le_add_right _ _
        · exact Nat.le_add_right _ _
        · exact Nat.le_add_right _ _
        · exact Nat.le_refl _
        · exact Nat.le_add_right _ _
      exact I1.fpOk le (I1.hok.fresh le)
end Ev

set_option Elab.async false
set_option linter.all false
set_option maxRecDepth 100000
/-! Operations by values. -/
namespace Ev
open PySem PySem.Spec PyProof.Rows L2
variable [HW]

omit [HW] in
def Bo.py : Bo → Operator
  | .add => .Add
  | .sub => .Sub
  | .mul => .Mult
  | .mod => .Mod
  | .fdv => .FloorDiv
  | .pow => .Pow
omit [HW] in
def Co.py : Co → CmpOp
  | .eq => .Eq
  | .ne => .NotEq
  | .lt => .Lt
  | .le => .LtE
  | .gt => .Gt
  | .ge => .GtE
  | .isin => .In
  | .nin => .NotIn

/-- d is handed on -/
def Out (K : PySem.W.Frag) (H : Hp) (ω : Wd) (st : St) (d : D) (Q : VK) : Prop := ∀ v H' ω', Ext H ω H' ω' → Sim K H' ω' st → Rep K H' ω' v d → Q v H'
section
variable {K : PySem.W.Frag} {H : Hp} {ω : Wd} {st : St} {Q : VK}
theorem Out.now {d : D} {v : V} (s : Sim K H ω st) (o : Out K H ω st d Q) (r : Rep K H ω v d) : Q v H := o v H ω (Ext.refl H ω) s r
theorem Out.tup {ds : List D} {vs : List V} {p : Addr} (s : Sim K H ω st) (o : Out K H ω st (.tup ds) Q) (h : H p = none) (hl : ds.length ≤ sizeLine) (r : Reps K H ω vs ds) : Q (.ref p) (upd H p (.tup vs)) :=
  o _ _ ω (Ext.updN s h) (s.updN h) (Rep.newTup s h hl r)
theorem Out.lst {ds : List D} {vs : List V} {p : Addr} (s : Sim K H ω st) (o : Out K H ω st (.lst ds) Q) (h : H p = none) (hl : ds.length ≤ sizeLine) (r : Reps K H ω vs ds) : Q (.ref p) (upd H p (.lst vs)) :=
  o _ _ (ω.frz p) (Ext.frzN ω (.inl h) _ (upd_keep h)) (s.updF h) (Rep.newLst s h hl r)
theorem Out.int {i : Int} (s : Sim K H ω st) (o : Out K H ω st (.int i) Q) : Q (.int i) H := o.now s (by simp only [Rep])
theorem Out.bl {i : Bool} (s : Sim K H ω st) (o : Out K H ω st (.bl i) Q) : Q (.bl i) H := o.now s (by simp only [Rep])
theorem Out.str {x : List Nat} (s : Sim K H ω st) (o : Out K H ω st (.str x) Q) (h : x.length ≤ sizeLine) : Q (.str (toS x)) H := o.now s (by simp only [Rep]; exact ⟨trivial, h⟩)
end
theorem toS_len (x : List Nat) : (toS x).length = x.length := by simp [toS, PySem.Str.length]
theorem toS_list (x : List Nat) : (toS x).cps.toList = x := by simp [toS]
theorem toS_app (x y : List Nat) : toS x ++ toS y = toS (x ++ y) := by
  show PySem.Str.append _ _ = _
  simp [toS, PySem.Str.append]
theorem toS_of (x : Str) : toS x.cps.toList = x := by cases x; simp [toS]
theorem toS_inj {x y : List Nat} (h : toS x = toS y) : x = y := by rw [← toS_list x, h, toS_list]

def rBin (K : PySem.W.Frag) (op : Bo) : R2 := fun x y H Q => ∃ ω st a b d, Sim K H ω st ∧ RepT K H ω x a ∧ RepT K H ω y b ∧ binD op a b = some d ∧ Out K H ω st d Q

section
variable {X : Cx}
theorem catL_eq {xs ys zs : List D} (h : catL xs ys = some zs) : xs.length + ys.length ≤ sizeLine ∧ zs = xs ++ ys := by
  unfold catL at h
  split at h
  · exact ⟨by assumption, (Option.some.inj h).symm⟩
  · cases h
theorem repL_eq {xs zs : List D} {k : Int} (h : repL xs k = some zs) : (2 ≤ k ∧ k ≤ 1000 ∧ xs.length ≤ 1000 ∧ xs ≠ []) ∧ zs = (List.replicate k.toNat xs).flatten := by
  unfold repL at h
  split at h
  · exact ⟨by assumption, (Option.some.inj h).symm⟩
  · cases h
theorem flat_len {α : Type} (xs : List α) : ∀ n : Nat, (List.replicate n xs).flatten.length = n * xs.length
  | 0 => by simp
  | n + 1 => by simp [List.replicate_succ, flat_len xs n, Nat.succ_mul, Nat.add_comm]
theorem flat_small {α : Type} {xs : List α} {k : Int} (h1 : 0 ≤ k) (h2 : k ≤ 1000) (h3 : xs.length ≤ 1000) : xs.length * k.toNat ≤ sizeLine := by
  have a : k.toNat ≤ 1000 := by omega
  exact Nat.le_trans (Nat.mul_le_mul h3 a) (by decide)
set_option maxHeartbeats 1000000 in
theorem opBin (op : Bo) : OpR X (binaryOp op.py) (rBin X.K op) := by
  rintro pins s σ H x y v u Q I rx ry ⟨ω, st, a, b, d, sim, ra, rb, hd, o⟩
  unfold binD at hd
  split at hd
  · cases hd
    obtain rfl := ra.s.int
    obtain rfl := rb.s.int
    exact op_add pins s σ H _ _ v u Q I rx ry ⟨_, _, rfl, rfl, Out.int sim o⟩
  · rename_i x' y'
    split at hd
    · rename_i hz
      cases hd
      obtain ⟨rfl, h1⟩ := ra.s.str
      obtain ⟨rfl, h2⟩ := rb.s.str
      refine op_add_str pins s σ H _ _ v u Q I rx ry ⟨_, _, rfl, rfl, by rw [toS_len, toS_len]; exact hz, ?_⟩
      rw [toS_app]
      exact Out.str sim o (by rw [List.length_append]; exact hz)
    · cases hd
  · rename_i xs ys
    cases e : catL xs ys with
    | none => rw [e] at hd; cases hd
    | some zs =>
      rw [e] at hd
      cases hd
      obtain ⟨hz, rfl⟩ := catL_eq e
      obtain ⟨p, vs, rfl, h1, h2, h3⟩ := ra.s.tup
      obtain ⟨q, ws, rfl, h4, h5, h6⟩ := rb.s.tup
      have l1 := h3.length
      have l2 := h6.length
      refine op_catA pins s σ H _ _ v u Q I rx ry ⟨p, q, vs, ws, rfl, rfl, h1.sq, h4.sq, by omega, fun e => ?_, fun e1 e2 => ?_, fun e1 e2 r hr => ?_⟩
      · have e' : xs = [] := List.eq_nil_of_length_eq_zero (by rw [← l1, e]; rfl)
        subst e'
        exact o.now sim (by simp only [Rep]; exact ⟨q, ws, rfl, h4, h5, h6⟩)
      · have e' : ys = [] := List.eq_nil_of_length_eq_zero (by rw [← l2, e2]; rfl)
        subst e'
        rw [List.append_nil] at o
        exact o.now sim (by simp only [Rep]; exact ⟨p, vs, rfl, h1, h2, h3⟩)
      · exact Out.tup sim o hr (by rw [List.length_append]; exact hz) (h3.append h6)
  · rename_i xs ys
    cases e : catL xs ys with
    | none => rw [e] at hd; cases hd
    | some zs =>
      rw [e] at hd
      cases hd
      obtain ⟨hz, rfl⟩ := catL_eq e
      obtain ⟨p, vs, rfl, h1, h2, h3⟩ := ra.lst
      obtain ⟨q, ws, rfl, h4, h5, h6⟩ := rb.lst
      have l1 := h3.length
      have l2 := h6.length
      exact op_cat pins s σ H _ _ v u Q I rx ry ⟨p, q, vs, ws, rfl, rfl, h1, h4, by omega, fun r hr => Out.lst sim o hr (by rw [List.length_append]; exact hz) (h3.append h6)⟩
  · cases hd
    obtain rfl := ra.s.int
    obtain rfl := rb.s.int
    exact op_sub pins s σ H _ _ v u Q I rx ry ⟨_, _, rfl, rfl, Out.int sim o⟩
  · rename_i i j
    split at hd
    · rename_i hz
      cases hd
      obtain rfl := ra.s.int
      obtain rfl := rb.s.int
      simp only [small, Bool.and_eq_true, decide_eq_true_eq] at hz
      exact op_mul pins s σ H _ _ v u Q I rx ry ⟨_, _, rfl, rfl, .inl ⟨hz.1, hz.2⟩, Out.int sim o⟩
    · cases hd
  · rename_i xs k
    cases e : repL xs k with
    | none => rw [e] at hd; cases hd
    | some zs =>
      rw [e] at hd
      cases hd
      obtain ⟨⟨hk, hk2, hl, hne⟩, rfl⟩ := repL_eq e
      obtain ⟨p, vs, rfl, h1, h2, h3⟩ := ra.s.tup
      obtain rfl := rb.s.int
      have l1 := h3.length
      refine op_repT pins s σ H _ _ v u Q I rx ry ⟨p, k, vs, rfl, rfl, h1.sq, fun e => hne (List.eq_nil_of_length_eq_zero (by rw [← l1, e]; rfl)), hk, hk2, by omega, fun r hr => Out.tup sim o hr ?_ (h3.flat _)⟩
      rw [flat_len, Nat.mul_comm]
      exact flat_small (by omega) hk2 hl
  · rename_i xs k
    split at hd
    · rename_i hz
      cases hd
      obtain ⟨p, vs, rfl, h1, h2, h3⟩ := ra.lst
      obtain rfl := rb.s.int
      have l1 := h3.length
      refine op_rep pins s σ H _ _ v u Q I rx ry ⟨p, k, vs, rfl, rfl, h1, by omega, by omega, flat_small hz.1 hz.2.1 (by omega), fun r hr => Out.lst sim o hr ?_ (h3.flat _)⟩
      rw [flat_len, Nat.mul_comm]
      exact flat_small hz.1 hz.2.1 hz.2.2
    · cases hd
  · split at hd
    · cases hd
    · rename_i hz
      cases hd
      obtain rfl := ra.s.int
      obtain rfl := rb.s.int
      exact op_modN pins s σ H _ _ v u Q I rx ry ⟨_, _, rfl, rfl, hz, Out.int sim o⟩
  · split at hd
    · rename_i hz
      cases hd
      obtain rfl := ra.s.int
      obtain rfl := rb.s.int
      exact op_fdivN pins s σ H _ _ v u Q I rx ry ⟨_, _, rfl, rfl, hz, Out.int sim o⟩
    · cases hd
  · split at hd
    · rename_i hz
      cases hd
      obtain rfl := ra.s.int
      obtain rfl := rb.s.int
      exact op_pow pins s σ H _ _ v u Q I rx ry ⟨_, _, rfl, rfl, hz, Out.int sim o⟩
    · cases hd
  · cases hd

/-! ### comparisons -/
def rCmp (K : PySem.W.Frag) (op : Co) : R2 := fun x y H Q => ∃ ω st a b c, Sim K H ω st ∧ RepS K H ω x a ∧ RepS K H ω y b ∧ cmpD op a b = some c ∧ Q (.bl c) H
theorem eqD_eq {a b : D} {c : Bool} (h : eqD a b = some c) : a.py.canLay0 = true ∧ b.py.canLay0 = true ∧ min a.py.depth b.py.depth ≤ 64 ∧ c = PyData.eqv a.py b.py := by
  unfold eqD at h
  split at h
  · rename_i q
    simp only [Bool.and_eq_true, decide_eq_true_eq] at q
    exact ⟨q.1.1, q.1.2, q.2, (Option.some.inj h).symm⟩
  · cases h
theorem inD_eq {a : D} {xs : List D} {c : Bool} (h : inD a xs = some c) : SeqAt.shaped a.py = true ∧ PyData.canLayAll0 (D.pys xs) = true ∧ c = (D.pys xs).any fun z => PyData.eqv z a.py := by
  unfold inD at h
  split at h
  · rename_i q
    rw [Bool.and_eq_true] at q
    refine ⟨q.1, q.2, ?_⟩
    rw [← Option.some.inj h, D.pys_map, List.any_map]
    rfl
  · cases h
theorem ordD_eq {f : Int → Int → Bool} {g : List Nat → List Nat → Bool} {a b : D} {c : Bool} (h : ordD f g a b = some c) : (∃ i j, a = .int i ∧ b = .int j ∧ c = f i j) ∨ ∃ x y, a = .str x ∧ b = .str y ∧ c = g x y := by
  unfold ordD at h
  split at h
  · exact .inl ⟨_, _, rfl, rfl, (Option.some.inj h).symm⟩
  · exact .inr ⟨_, _, rfl, rfl, (Option.some.inj h).symm⟩
  · cases h
theorem isinD_eq {a b : D} {c : Bool} (h : isinD a b = some c) : (∃ xs, (b = .tup xs ∨ b = .lst xs) ∧ inD a xs = some c) ∨ ∃ k z, a = .str [k] ∧ b = .str z ∧ c = decide (k ∈ z) := by
  unfold isinD at h
  split at h
  · exact .inl ⟨_, .inl rfl, h⟩
  · exact .inl ⟨_, .inr rfl, h⟩
  · split at h
    · exact .inr ⟨_, _, rfl, rfl, (Option.some.inj h).symm⟩
    · cases h
  · cases h
theorem map_not {o : Option Bool} {c : Bool} (h : o.map (!·) = some c) : o = some (!c) := by
  cases o with
  | none => cases h
  | some b => cases h; simp
section
variable {pins : List (Addr × Obj)} {σ : L2.St} {H : Hp} {s : Shared} {ω : Wd}
theorem RepS.reads (I : Inv X pins σ H s) {x : V} {v : Value} {a : D} (r : RepS X.K H ω x a) (rx : RelV x v) (c : a.py.canLay0 = true) : ∃ as, Reads s.heap v a.py as := Dp.reads I a.py x v (r.dp c) rx
end
theorem opEq (hu : X.A.units + 65 < cLine) : OpR X (compareOp .Eq) (rCmp X.K .eq) := by
  rintro pins s σ H x y v u Q I rx ry ⟨ω, st, a, b, c, sim, ra, rb, hc, q⟩
  obtain ⟨h1, h2, h3, rfl⟩ := eqD_eq hc
  obtain ⟨as, r1⟩ := ra.reads I rx h1
  obtain ⟨bs, r2⟩ := rb.reads I ry h2
  exact SeqAt.compareEq_reads r1 r2 h1 h2 (by omega) ⟨.bl _, H, I, rfl, q⟩
theorem opNe (hu : X.A.units + 65 < cLine) : OpR X (compareOp .NotEq) (rCmp X.K .ne) := by
  rintro pins s σ H x y v u Q I rx ry ⟨ω, st, a, b, c, sim, ra, rb, hc, q⟩
  obtain ⟨h1, h2, h3, e⟩ := eqD_eq (map_not hc)
  obtain ⟨as, r1⟩ := ra.reads I rx h1
  obtain ⟨bs, r2⟩ := rb.reads I ry h2
  exact SeqAt.compareNe_reads r1 r2 h1 h2 (by omega) ⟨.bl _, H, I, rfl, by rw [← e, Bool.not_not]; exact q⟩
theorem opOrd {op : CmpOp} {f : Int → Int → Bool} {g : List Nat → List Nat → Bool} (h1 : OpR X (compareOp op) (rI0 fun i j => .bl (f i j))) (h2 : OpR X (compareOp op) (fun x y H Q => ∃ i j, x = .str i ∧ y = .str j ∧ Q (.bl (g i.cps.toList j.cps.toList)) H)) :
    OpR X (compareOp op) (fun x y H Q => ∃ ω st a b c, Sim X.K H ω st ∧ RepS X.K H ω x a ∧ RepS X.K H ω y b ∧ ordD f g a b = some c ∧ Q (.bl c) H) := by
  rintro pins s σ H x y v u Q I rx ry ⟨ω, st, a, b, c, sim, ra, rb, hc, q⟩
  rcases ordD_eq hc with ⟨i, j, rfl, rfl, rfl⟩ | ⟨i, j, rfl, rfl, rfl⟩
  · obtain rfl := ra.int
    obtain rfl := rb.int
    exact h1 pins s σ H _ _ v u Q I rx ry ⟨i, j, rfl, rfl, q⟩
  · obtain ⟨rfl, _⟩ := ra.str
    obtain ⟨rfl, _⟩ := rb.str
    exact h2 pins s σ H _ _ v u Q I rx ry ⟨_, _, rfl, rfl, by rw [toS_list, toS_list]; exact q⟩
theorem opIn (hu : X.A.units + 65 < cLine) : OpR X (compareOp .In) (rCmp X.K .isin) := by
  rintro pins s σ H x y v u Q I rx ry ⟨ω, st, a, b, c, sim, ra, rb, hc, q⟩
  rcases isinD_eq hc with ⟨xs, hb, hc⟩ | ⟨k, z, rfl, rfl, rfl⟩
  · obtain ⟨h1, h2, rfl⟩ := inD_eq hc
    obtain ⟨as, r1⟩ := ra.reads I rx (SeqAt.canLay_of_shaped h1)
    rcases hb with rfl | rfl
    · obtain ⟨bs, r2⟩ := rb.reads I ry (by simpa only [D.py, PyData.canLay0] using h2)
      exact SeqAt.in_tuple_reads r2 r1 h2 (SeqAt.canLay_of_shaped h1) (room_in_shaped h1 hu) ⟨.bl _, H, I, rfl, q⟩
    · obtain ⟨bs, r2⟩ := rb.reads I ry (by simpa only [D.py, PyData.canLay0] using h2)
      exact SeqAt.in_list_reads r2 r1 h2 (SeqAt.canLay_of_shaped h1) (room_in_shaped h1 hu) ⟨.bl _, H, I, rfl, q⟩
  · obtain ⟨rfl, _⟩ := ra.str
    obtain ⟨rfl, _⟩ := rb.str
    exact op_in_sign pins s σ H _ _ v u Q I rx ry ⟨k, _, rfl, rfl, by rw [toS_list]; exact q⟩
theorem opNotIn (hu : X.A.units + 65 < cLine) : OpR X (compareOp .NotIn) (rCmp X.K .nin) := by
  rintro pins s σ H x y v u Q I rx ry ⟨ω, st, a, b, c, sim, ra, rb, hc, q⟩
  have q : Q (.bl (!(!c))) H := by rw [Bool.not_not]; exact q
  rcases isinD_eq (map_not hc) with ⟨xs, hb, hc⟩ | ⟨k, z, rfl, rfl, e⟩
  · obtain ⟨h1, h2, e⟩ := inD_eq hc
    obtain ⟨as, r1⟩ := ra.reads I rx (SeqAt.canLay_of_shaped h1)
    rcases hb with rfl | rfl
    · obtain ⟨bs, r2⟩ := rb.reads I ry (by simpa only [D.py, PyData.canLay0] using h2)
      exact SeqAt.notIn_tuple_reads r2 r1 h2 (SeqAt.canLay_of_shaped h1) (room_in_shaped h1 hu) ⟨.bl _, H, I, rfl, by rw [← e]; exact q⟩
    · obtain ⟨bs, r2⟩ := rb.reads I ry (by simpa only [D.py, PyData.canLay0] using h2)
      exact SeqAt.notIn_list_reads r2 r1 h2 (SeqAt.canLay_of_shaped h1) (room_in_shaped h1 hu) ⟨.bl _, H, I, rfl, by rw [← e]; exact q⟩
  · obtain ⟨rfl, _⟩ := ra.str
    obtain ⟨rfl, _⟩ := rb.str
    exact op_notIn_sign pins s σ H _ _ v u Q I rx ry ⟨k, _, rfl, rfl, by rw [toS_list, ← e]; exact q⟩
theorem opCmp (hu : X.A.units + 65 < cLine) (op : Co) : OpR X (compareOp op.py) (rCmp X.K op) := by
  cases op with
  | eq => exact opEq hu
  | ne => exact opNe hu
  | lt => exact opOrd op_lt op_lt_str
  | gt => exact opOrd op_gt op_gt_str
  | le => exact opOrd op_le op_le_str
  | ge => exact opOrd op_ge op_ge_str
  | isin => exact opIn hu
  | nin => exact opNotIn hu

/-! ### subscripts -/
theorem atI_map {α β : Type} {xs : List α} {ys : List β} (hl : xs.length = ys.length) {i : Int} {y : β} (h : atI ys i = some y) : ∃ j, ixN xs.length i = some j ∧ ys[j]? = some y := by
  unfold atI at h
  rw [hl]
  cases e : ixN ys.length i with
  | none => rw [e] at h; cases h
  | some j => rw [e] at h; exact ⟨j, rfl, h⟩
def rIdx (K : PySem.W.Frag) : R2 := fun x y H Q => ∃ ω st a i d, Sim K H ω st ∧ RepS K H ω x a ∧ Rep K H ω y i ∧ idxD a i = some d ∧ Out K H ω st d Q
theorem ixD : IxR X (rIdx X.K) := by
  rintro value slice pins s σ H x y v u Q I rx ry ⟨ω, st, a, i, d, sim, ra, ri, hd, o⟩ hs
  have key : ∀ {vs : List V} {ds : List D} {k : Int}, Reps X.K H ω vs ds → atI ds k = some d → ∃ w, atI vs k = some w ∧ Rep X.K H ω w d := fun {vs ds k} r e => by
    obtain ⟨j, h1, h2⟩ := atI_map r.length e
    obtain ⟨w, h3, h4⟩ := r.get h2
    exact ⟨w, by unfold atI; rw [h1]; exact h3, h4⟩
  unfold idxD at hd
  split at hd
  · obtain ⟨p, vs, rfl, h1, h2, h3⟩ := ra.tup
    simp only [Rep] at ri
    subst ri
    obtain ⟨w, h4, h5⟩ := key h3 hd
    exact ix_tup value slice pins s σ H _ _ v u Q I rx ry ⟨p, vs, _, w, rfl, rfl, h1.sq, h4, o.now sim h5⟩ hs
  · obtain ⟨p, vs, rfl, h1, h2, h3⟩ := ra.lst
    simp only [Rep] at ri
    subst ri
    obtain ⟨w, h4, h5⟩ := key h3 hd
    exact ix_list value slice pins s σ H _ _ v u Q I rx ry ⟨p, vs, _, w, rfl, rfl, h1, h4, o.now sim h5⟩ hs
  · rename_i z k
    obtain ⟨rfl, hz⟩ := ra.str
    simp only [Rep] at ri
    subst ri
    cases e : atI z k with
    | none => rw [e] at hd; cases hd
    | some c =>
      rw [e] at hd
      cases hd
      exact ix_str value slice pins s σ H _ _ v u Q I rx ry ⟨toS z, k, c, rfl, rfl, by rw [toS_len]; exact hz, by rw [toS_list]; exact e, Out.str sim o (by show 1 ≤ sizeLine; decide)⟩ hs
  · cases hd
end
end Ev

set_option Elab.async false
set_option linter.all false
set_option maxRecDepth 100000
/-! sorted of a list or a tuple of data; repr; the other built-in functions by values. -/
namespace Ev
open PySem PySem.Spec PyProof.Rows L2 PySem.W
variable [HW]

section
variable {prog : Program} {w : World} {A : Around} {E : Value → Shared → Prop} {s : Shared}
omit [HW] in
/-- the heap behind the gathering of a sequence's items -/
def gath (h : Heap) (its : Array Value) : Heap := (h.push { cls := .type "list", data := .seq ([] : List Value).toArray }).update h.objs.size (Obj.mapSeq (· ++ its))
theorem gath_size (h : Heap) (its : Array Value) : (gath h its).objs.size = h.objs.size + 1 := by
  unfold gath
  rw [Heap.size_update, Heap.size_push]
theorem gath_old {h : Heap} {its : Array Value} {b : Addr} {u : Obj} (e : h.get? b = some u) : (gath h its).get? b = some u :=
  (Heap.get?_update_other _ _ (Nat.ne_of_gt (Heap.lt_size e))).trans (Heap.get?_push_of_some _ e)
theorem evCollect {Q : List Value → Shared → Prop} {a : Addr} {T : String} {o : Obj} {items : Array Value} {n : Nat} (hT : T = "list" ∨ T = "tuple") (ho : s.heap.get? a = some o) (hc : o.cls = .type T) (hd : o.data = .seq items n)
    (hQ : Q items.toList { s with heap := gath s.heap items }) (hsz : items.size ≤ sizeLine) : wpAny (model prog w) A (collect (.ref a)) Q E s := by
  have hS : (s.heap.push { cls := .type "list", data := .seq ([] : List Value).toArray }).get? s.heap.objs.size = some { cls := .type "list", data := .seq #[] 0 } := Heap.get?_push_size _ rfl
  have hS2 : (gath s.heap items).get? s.heap.objs.size = _ := Heap.get?_update_self (Obj.mapSeq (· ++ items)) hS rfl
  have e0 : ((#[] : Array Value) ++ items).toList = items.toList := by simp
  unfold collect
  refine wpAny_bind (wpAny_runValue (codeAny_builtin F.entry_proto_collect ?_))
  rw [Around.under_plainId F.plain_proto_collect _]
  refine wpAny_bind (m := newList []) (wpAny_newObj_type (wpAny_pure ⟨plainId_quiet F.plain_list_iadd _, codeAny_builtin F.entry_list_iadd ?_⟩))
  rw [Around.under_plainId F.plain_list_iadd _]
  have last : wpAny (model prog w) A (load s.heap.objs.size >>= fun o' => match o'.data with
      | Data.seq xs _ => pure xs.toList
      | _ => unsupported "internal:collect") Q E { s with heap := gath s.heap items } :=
    wpAny_bind (wpAny_load hS2 (wpAny_pure (by show Q ((#[] : Array Value) ++ items).toList _; rw [e0]; exact hQ)))
  refine wpAny_mono (wpAny_extend_seq (hsz := hsz) (A := A) (R := fun r s' => r = .ok (.ret (.ref s.heap.objs.size)) ∧ s' = { s with heap := gath s.heap items })
    (s := { s with heap := s.heap.push { cls := .type "list", data := .seq ([] : List Value).toArray } }) _ a _ 0 hT hS (Heap.get?_push_of_some _ ho) hc hd ⟨rfl, rfl⟩) (fun fin s' q => ?_) (fun _ _ q => absurd q.1 (by simp))
  cases fin with
  | done f =>
    obtain ⟨e, rfl⟩ := q
    cases e
    exact last
  | again c' => exact ⟨q.1, codeAny_mono q.2 fun r s'' hr => by obtain ⟨rfl, rfl⟩ := hr; exact last⟩
end
section
variable {prog : Program} {w : World} {A : Around} {E : Value → Shared → Prop} {s : Shared}
/-- sorted(v), v a list or a tuple whose items read as data -/
theorem evSorted {a : Addr} {T : String} {o : Obj} {n : Nat} {its : List Value} {β : Type} {bs : List β} {enc : β → PyData} {R : Value → β → Prop} {Q : Value → Shared → Prop} (hT : T = "list" ∨ T = "tuple")
    (ho : s.heap.get? a = some o) (hc : o.cls = .type T) (hd : o.data = .seq its.toArray n) (e : EachIs R its bs) (er : EachIs (fun v b => ∃ as, Reads s.heap v (enc b) as) its bs) (hal : AllAlike (bs.map enc)) (hk : Sortable (bs.map enc))
    (hL : its.length ≤ sizeLine) (hu : ∀ b, b ∈ bs → A.units + 3 + (enc b).depth < cLine)
    (h : ∀ out D h', out.length = its.length → EachIs R out (bs.mergeSort (dataLe false enc)) → (∀ b u, s.heap.get? b = some u → h'.get? b = some u) → s.heap.objs.size ≤ D → (∃ c, h'.get? D = some (seqObj "list" out.toArray c)) → Q (.ref D) { s with heap := h' }) :
    wpAny (model prog w) A (call (.builtin "sorted") [.ref a]) Q E s := by
  refine call_function_entry_kw kind_sorted plain_sorted entry_sorted (args_sorted1 _) ?_
  unfold Builtin.«sorted»
  refine wpAny_bind (m := checkCount "sorted" 1 1 _) (wpAny_pure ?_)
  refine wpAny_bind (evCollect hT ho hc hd ?_ (by rw [List.size_toArray]; exact hL))
  have k1 : ∀ b u, s.heap.get? b = some u → (gath s.heap its.toArray).get? b = some u := fun b u q => gath_old q
  have hsz : s.heap.objs.size ≤ (gath s.heap its.toArray).objs.size := by rw [gath_size]; exact Nat.le_succ _
  generalize gath s.heap its.toArray = h1 at k1 hsz
  rw [show its.toArray.toList = its by simp]
  refine wpAny_bind (wpAny_newList ?_ hL)
  have hD : (h1.push (seqObj "list" its.toArray 0)).get? h1.objs.size = some (seqObj "list" its.toArray 0) := Heap.get?_push_size _ rfl
  have k2 : ∀ b u, s.heap.get? b = some u → (h1.push (seqObj "list" its.toArray 0)).get? b = some u := fun b u q => Heap.get?_push_of_some _ (k1 b u q)
  refine wpAny_bind (wpAny_holding ?_)
  refine list_sort_data (s := { s with heap := h1.push (seqObj "list" its.toArray 0) }) (R := R) (enc := enc) (bs := bs) hD e ?_ hal hk (by rw [← e.length]; exact hL) (fun b hb => by have := hu b hb; show A.units + 1 + 1 + _ < _; omega) fun out hl eo => ?_
  · refine er.mono fun v b ⟨as, r⟩ => ⟨as, PyProof.Rows.Reads.keeps k2 r, fun hm => ?_⟩
    obtain ⟨u, q⟩ := PyProof.On.reads_mem_get r _ hm
    exact absurd (Nat.lt_of_lt_of_le (Heap.lt_size q) hsz) (Nat.lt_irrefl _)
  · refine wpAny_pure ⟨_, rfl, ?_⟩
    refine h out h1.objs.size _ (by rw [hl, e.length]) eo (fun b u q => ?_) hsz (sortedHeap_at hD)
    rw [sortedHeap_old (Nat.ne_of_lt (Nat.lt_of_lt_of_le (Heap.lt_size q) hsz)) (Heap.lt_size (k2 b u q))]
    exact k2 b u q
end
/-! ### the built-in functions by values -/
omit [HW] in
def RepsS (K : PySem.W.Frag) (H : Hp) (ω : Wd) : List V → List D → Prop
  | [], [] => True
  | v :: vs, d :: ds => RepS K H ω v d ∧ RepsS K H ω vs ds
  | _, _ => False
def rBi (K : PySem.W.Frag) (b : Bi) : List V → Hp → VK → Prop := fun xs H Q => ∃ ω st as d, Sim K H ω st ∧ RepsS K H ω xs as ∧ biD b as = some d ∧ Out K H ω st d Q
section
variable {K : PySem.W.Frag} {H : Hp} {ω : Wd}
theorem RepsS.one {vs : List V} {d : D} (h : RepsS K H ω vs [d]) : ∃ v, vs = [v] ∧ RepS K H ω v d := by
  cases vs with
  | nil => exact h.elim
  | cons v r =>
    cases r with
    | nil => exact ⟨v, rfl, by simpa [RepsS] using h⟩
    | cons w r => simp [RepsS] at h
theorem RepsS.two {vs : List V} {d e : D} (h : RepsS K H ω vs [d, e]) : ∃ v w, vs = [v, w] ∧ RepS K H ω v d ∧ RepS K H ω w e := by
  cases vs with
  | nil => exact h.elim
  | cons v r =>
    simp only [RepsS] at h
    obtain ⟨w, rfl, h2⟩ := RepsS.one h.2
    exact ⟨v, w, rfl, h.1, h2⟩
theorem Reps.each : ∀ {vs : List V} {ds : List D} {us : List Value}, Vals vs us → Reps K H ω vs ds → EachIs (fun u d => ∃ x, RelV x u ∧ Rep K H ω x d) us ds
  | _, [], _, .nil, _ => .nil
  | _, d :: ds, _, .cons r t, h => by
    simp only [Reps] at h
    exact .cons ⟨_, r, h.1⟩ (Reps.each t h.2)
  | _, _ :: _, _, .nil, h => h.elim
  | _, [], _, .cons _ _, h => h.elim
theorem Reps.ofEach : ∀ {ds : List D} {us : List Value}, EachIs (fun u d => ∃ x, RelV x u ∧ Rep K H ω x d) us ds → ∃ vs, Vals vs us ∧ Reps K H ω vs ds
  | _, _, .nil => ⟨[], .nil, trivial⟩
  | _, _, .cons ⟨x, r, h⟩ t => by
    obtain ⟨vs, h1, h2⟩ := Reps.ofEach t
    exact ⟨x :: vs, .cons r h1, by simp only [Reps]; exact ⟨h, h2⟩⟩
end
theorem sortD_eq {xs ys : List D} (h : sortD xs = some ys) : PyData.canLayAll0 (D.pys xs) = true ∧ AllAlike (xs.map D.py) ∧ Sortable (xs.map D.py) ∧ (∀ a ∈ xs, a.py.depth ≤ 60) ∧ ys = xs.mergeSort (dataLe false D.py) := by
  unfold sortD at h
  split at h
  · rename_i q
    simp only [Bool.and_eq_true, Bool.or_eq_true, List.all_eq_true, alikes, decide_eq_true_eq] at q
    obtain ⟨⟨⟨q0, q1⟩, q2⟩, q3⟩ := q
    refine ⟨q0, fun d hd d' hd' => ?_, ?_, q3, (Option.some.inj h).symm⟩
    · obtain ⟨a, ha, rfl⟩ := List.mem_map.mp hd
      obtain ⟨b, hb, rfl⟩ := List.mem_map.mp hd'
      exact q1 a ha b hb
    · rcases q2 with q2 | q2
      · refine .inl fun d hd => ?_
        obtain ⟨a, ha, rfl⟩ := List.mem_map.mp hd
        have z := q2 a ha
        unfold tupHead at z
        split at z
        · exact ⟨_, _, rfl⟩
        · cases z
      · refine .inr fun d hd => ?_
        obtain ⟨a, ha, rfl⟩ := List.mem_map.mp hd
        have z := q2 a ha
        cases a <;> simp_all [noTup, D.py]
  · cases h
section
variable {X : Cx} {pins : List (Addr × Obj)} {σ : L2.St} {H : Hp} {s : Shared} {ω : Wd} {st : St}
/-- sorted, from what is read -/
theorem sortRun (hu : X.A.units + 100 < cLine) {Q : VK} {a : Addr} {T : String} {o : Obj} {n : Nat} {its : List Value} {vs : List V} {xs ys : List D} (I : Inv X pins σ H s) (sim : Sim X.K H ω st) (hT : T = "list" ∨ T = "tuple")
    (ho : s.heap.get? a = some o) (hc : o.cls = .type T) (hd : o.data = .seq its.toArray n) (rv : Vals vs its) (r : Reps X.K H ω vs xs) (hl : xs.length ≤ sizeLine) (hs : sortD xs = some ys) (out : Out X.K H ω st (.lst ys) Q) :
    wpAny (model X.prog X.w) X.A (call (.builtin "sorted") [.ref a]) (EP X pins σ Q) X.xe s := by
  obtain ⟨hcl, h1, h2, h3, rfl⟩ := sortD_eq hs
  have e := Reps.each rv r
  have l1 := r.length
  have l2 := rv.length
  have er : ∀ {us : List Value} {ds : List D}, (PyData.canLayAll0 (D.pys ds) = true) → EachIs (fun u d => ∃ x, RelV x u ∧ Rep X.K H ω x d) us ds → EachIs (fun v b => ∃ as, Reads s.heap v (D.py b) as) us ds := by
    intro us ds c z
    induction z with
    | nil => exact .nil
    | @cons u d us ds z t ih =>
      simp only [D.pys, PyData.canLayAll0, Bool.and_eq_true] at c
      obtain ⟨x, rx, rd⟩ := z
      exact .cons (Dp.reads I _ x u (Rep.dp d c.1 rd) rx) (ih c.2)
  refine evSorted hT ho hc hd e (er hcl e) h1 h2 (by omega) (fun b hb => by have := h3 b hb; omega) fun outs Dn h' hlo eo k hD ⟨c, hDo⟩ => ?_
  obtain ⟨ws, w1, w2⟩ := Reps.ofEach eo
  have hf : H Dn = none := I.hok.fresh hD
  have l3 := w1.length
  have l4 := w2.length
  have hz : (xs.mergeSort (dataLe false D.py)).length ≤ sizeLine := by rw [List.length_mergeSort]; exact hl
  exact ⟨.ref Dn, upd H Dn (.lst ws), I.laid (t' := s.toks) k hD ⟨by rw [l4]; exact hz, outs, c, w1, hDo⟩, rfl, Out.lst sim out hf hz w2⟩
end
end Ev

set_option Elab.async false
set_option linter.all false
set_option maxRecDepth 100000
/-! a < b of nested data: what stands behind the first difference is not asked. -/
namespace Ev
open PySem PySem.SeqAt
open AutoSeq1 (wpAny_loadPart')
open MeetsSeq MeetsSeq2 MeetsSeq3 SeqRoads2
theorem tupLtF (l b : Addr) (xs ys : Array Value) (n m : Nat) (da db : Option Addr) (sa sb : Array (Option Value)) (e r : Nat → Bool) :
    Meets (Builtin.«tuple.__lt__» ⟨[.ref l, .ref b], []⟩)
      (fun A R s => s.heap.get? l = some { cls := .type "tuple", dict := da, data := .seq xs n, slots := sa } ∧ s.heap.get? b = some { cls := .type "tuple", dict := db, data := .seq ys m, slots := sb } ∧
        (∀ j (p : j < xs.size) (q : j < ys.size), (∀ i, i < j → e i = true) → EqAt A.in1 s xs[j] ys[j] (e j)) ∧ (∀ j (p : j < xs.size) (q : j < ys.size), (∀ i, i < j → e i = true) → e j = false → RcLt A.in1 s xs[j] ys[j] (r j)) ∧
        R (.ok (.ret (.bool (firstLt e r (decide (xs.size < ys.size)) (List.range (min xs.size ys.size)))))) s) :=
  .of_wp fun prog w A R s h => by
    obtain ⟨hp, g, d, tk, os⟩ := s
    obtain ⟨hl, hb, he, hr, h⟩ := h
    have sub := AutoSeq1.sub_tuple_tuple
    have zl : (xs.toList.zip ys.toList).length = min xs.size ys.size := by simp
    wp_walk using wpAny_loadPart' hl, wpAny_loadPart' hb, wpAny_forIn_list _ (fun rest acc s' => acc.1 = none ∧ s' = ⟨hp, g, d, tk, os⟩ ∧ ∃ i, rest = (xs.toList.zip ys.toList).drop i ∧ (∀ j, j < i → j < min xs.size ys.size → e j = true) ∧
      R (.ok (.ret (.bool (firstLt e r (decide (xs.size < ys.size)) ((List.range (min xs.size ys.size)).drop i))))) ⟨hp, g, d, tk, os⟩) _
    case turn =>
      rintro ⟨y, x⟩ rest acc s' ⟨hacc, rfl, i, hz, hpre, hR⟩
      have il : i < (xs.toList.zip ys.toList).length := by
        rcases Nat.lt_or_ge i (xs.toList.zip ys.toList).length with q | q
        · exact q
        · rw [List.drop_of_length_le q] at hz
          cases hz
      have im : i < min xs.size ys.size := zl ▸ il
      have i1 : i < xs.size := Nat.lt_of_lt_of_le im (Nat.min_le_left _ _)
      have i2 : i < ys.size := Nat.lt_of_lt_of_le im (Nat.min_le_right _ _)
      have hpre' : ∀ j, j < i → e j = true := fun j hj => hpre j hj (by omega)
      rw [List.drop_eq_getElem_cons il] at hz
      injection hz with hyx htl
      have ey : y = xs[i] := by simpa using congrArg Prod.fst hyx
      have ex : x = ys[i] := by simpa using congrArg Prod.snd hyx
      subst ey ex
      have dr : (List.range (min xs.size ys.size)).drop i = i :: (List.range (min xs.size ys.size)).drop (i + 1) := by simp [List.drop_eq_getElem_cons, im]
      rw [dr] at hR
      refine wpAny_bind (he i i1 i2 hpre' prog w _ _ ?_)
      cases hy : e i with
      | true =>
        rw [firstLt_yes hy] at hR
        wp_walk
        exact ⟨rfl, rfl, i + 1, htl, fun j hj _ => (Nat.lt_succ_iff_lt_or_eq.mp hj).elim (hpre' j) fun z => by rw [z]; exact hy, hR⟩
      | false =>
        rw [firstLt_no hy] at hR
        have less : ∀ {E : Value → Shared → Prop} {Q : Value → Shared → Prop}, Q (.bool (r i)) ⟨hp, g, d, tk, os⟩ → wpAny (model prog w) A.in1 (richCompare .Lt xs[i] ys[i]) Q E ⟨hp, g, d, tk, os⟩ := fun {E Q} z => hr i i1 i2 hpre' hy prog w E Q z
        wp_walk using less
        exact ⟨_, rfl, hR⟩
    case fin =>
      rintro ⟨c1, c2⟩ s' ⟨hacc, rfl, i, hz, _, hR⟩
      simp only at hacc
      subst hacc
      have ge : min xs.size ys.size ≤ i := by
        rcases Nat.lt_or_ge i (xs.toList.zip ys.toList).length with q | q
        · rw [List.drop_eq_getElem_cons q] at hz
          cases hz
        · exact zl ▸ q
      rw [List.drop_of_length_le (by simpa using ge)] at hR
      wp_walk
      exact ⟨_, rfl, by simpa [Builtin.Tuple.tupleCompareSizes, firstLt] using hR⟩
    case h =>
      exact ⟨rfl, rfl, 0, rfl, fun j hj => absurd hj (Nat.not_lt_zero j), by simpa using h⟩
section
variable {A : Around} {s : Shared}
theorem rcLtF {l b : Addr} {xs ys : Array Value} {e r : Nat → Bool} (hl : s.heap.IsTuple l xs) (hb : s.heap.IsTuple b ys) (hu : A.units < cLine) (he : ∀ j (p : j < xs.size) (q : j < ys.size), (∀ i, i < j → e i = true) → EqAt A.in1 s xs[j] ys[j] (e j))
    (hr : ∀ j (p : j < xs.size) (q : j < ys.size), (∀ i, i < j → e i = true) → e j = false → RcLt A.in1 s xs[j] ys[j] (r j)) : RcLt A s (.ref l) (.ref b) (firstLt e r (decide (xs.size < ys.size)) (List.range (min xs.size ys.size))) := fun prog w E Q h => by
  obtain ⟨⟨c1, d1, t1, s1⟩, ho, hc, n, hd⟩ := id hl
  obtain ⟨⟨c2, d2, t2, s2⟩, ho2, hc2, m, hd2⟩ := id hb
  simp only at hc hd hc2 hd2
  subst hc hd hc2 hd2
  exact richCompare_meets_room (op := .Lt) ⟨_, ho, rfl⟩ ⟨_, ho2, rfl⟩ F.slot_tuple_lt F.entry_tuple_lt (F.args_tuple_lt_2 _ _) (tupLtF l b xs ys n m d1 d2 s1 s2 e r)
    ⟨ho, ho2, he, hr, (fun x => nomatch x), h⟩ hu
end
theorem firstP : ∀ (xs ys : List PyData) {k : Bool}, ltPs xs ys = some k →
    firstLt (pairEq xs ys) (fun j => ltB (xs.getD j .none) (ys.getD j .none)) (decide (xs.length < ys.length)) (List.range (min xs.length ys.length)) = k
  | [], ys, k, h => by
    simp only [ltPs, Option.some.injEq] at h
    subst h
    cases ys <;> simp [firstLt]
  | x :: xs, [], k, h => by
    simp only [ltPs, Option.some.injEq] at h
    subst h
    simp [firstLt]
  | x :: xs, y :: ys, k, h => by
    simp only [ltPs] at h
    have em : min (x :: xs).length (y :: ys).length = min xs.length ys.length + 1 := by
      simp only [List.length_cons]; omega
    have ed : decide ((x :: xs).length < (y :: ys).length) = decide (xs.length < ys.length) := by
      simp only [List.length_cons]
      exact decide_eq_decide.mpr (by omega)
    rw [em, ed, List.range_succ_eq_map]
    cases hx : PyData.eqv x y with
    | true =>
      rw [if_pos hx] at h
      have ih := firstP xs ys h
      rw [firstLt_yes (show pairEq (x :: xs) (y :: ys) 0 = true from hx), PySem.W.firstLt_map, ← ih]
      rfl
    | false =>
      rw [if_neg (by rw [hx]; exact Bool.false_ne_true)] at h
      rw [firstLt_no (show pairEq (x :: xs) (y :: ys) 0 = false from hx)]
      show ltB x y = k
      unfold ltB
      rw [h]
      rfl
mutual
/-- a < b, for values that read as data -/
theorem rcLtP : ∀ (da db : PyData) {k : Bool} (A : Around) (s : Shared) (a b : Value) (as bs : List Addr), Reads s.heap a da as → Reads s.heap b db bs → da.canLay0 = true → db.canLay0 = true → A.units + min da.depth db.depth < cLine → ltP da db = some k → RcLt A s a b k
  | .int x, db, k, A, s, a, b, as, bs, ra, rb, _, _, _, h => by
    cases db <;> simp only [ltP, reduceCtorEq, Option.some.injEq] at h
    subst h
    cases ra
    cases rb
    exact fun prog w E Q q => P.lt_int q
  | .str x, db, k, A, s, a, b, as, bs, ra, rb, _, _, _, h => by
    cases db <;> simp only [ltP, reduceCtorEq, Option.some.injEq] at h
    subst h
    cases ra
    cases rb
    exact fun prog w E Q q => P.lt_str q
  | .tuple xs, db, k, A, s, a, b, as, bs, ra, rb, ca, cb, hu, h => by
    cases db <;> simp only [ltP, reduceCtorEq] at h
    rename_i ys
    simp only [PyData.canLay0] at ca cb
    cases ra with
    | @tuple l o vs n _ as1 h1 h2 h3 h4 =>
      cases rb with
      | @tuple l' o' ws n' _ bs1 k1 k2 k3 k4 =>
        have n1 : vs.size = xs.length := by simpa using ReadsAll.length _ _ _ h4
        have n2 : ws.size = ys.length := by simpa using ReadsAll.length _ _ _ k4
        rw [← firstP xs ys h, ← n1, ← n2]
        refine rcLtF ⟨_, h1, h2, _, h3⟩ ⟨_, k1, k2, _, k3⟩ (room_here hu) (fun j p q _ => ?_) fun j p q hp hj => ?_
        · have z := eqAt_readsAll xs ys A.in1 s vs.toList ws.toList _ _ h4 k4 ca cb (room_in hu) j (by simpa using p) (by simpa using q)
          simpa using z
        · have z := rcLtPs xs ys A.in1 s vs.toList ws.toList _ _ h4 k4 ca cb (room_in hu) h j (by simpa using p) (by simpa using q) hp hj
          simpa using z
  | .none, _, _, _, _, _, _, _, _, _, _, _, _, _, h => by simp [ltP] at h
  | .bool _, _, _, _, _, _, _, _, _, _, _, _, _, _, h => by simp [ltP] at h
  | .list _, _, _, _, _, _, _, _, _, _, _, _, _, _, h => by simp [ltP] at h
  | .dict _, _, _, _, _, _, _, _, _, _, _, _, _, _, h => by simp [ltP] at h
theorem rcLtPs : ∀ (xs ys : List PyData) {k : Bool} (A : Around) (s : Shared) (vs ws : List Value) (as bs : List Addr), ReadsAll s.heap vs xs as → ReadsAll s.heap ws ys bs → PyData.canLayAll0 xs = true → PyData.canLayAll0 ys = true →
    A.units + min (PyData.depthAll xs) (PyData.depthAll ys) < cLine → ltPs xs ys = some k → ∀ j (p : j < vs.length) (q : j < ws.length), (∀ i, i < j → pairEq xs ys i = true) → pairEq xs ys j = false → RcLt A s vs[j] ws[j] (ltB (xs.getD j .none) (ys.getD j .none))
  | [], _, _, _, _, _, _, _, _, ra, _, _, _, _, _, j, p, _, _, _ => by cases ra; exact absurd p (Nat.not_lt_zero _)
  | _ :: _, [], _, _, _, _, _, _, _, _, rb, _, _, _, _, j, _, q, _, _ => by cases rb; exact absurd q (Nat.not_lt_zero _)
  | x :: xs, y :: ys, k, A, s, _, _, _, _, ra, rb, ca, cb, hu, h, j, p, q, hp, hj => by
    simp only [PyData.canLayAll0, Bool.and_eq_true] at ca cb
    simp only [ltPs] at h
    cases ra with
    | cons r rs =>
      cases rb with
      | cons r' rs' =>
        cases j with
        | zero =>
          have hx : PyData.eqv x y = false := hj
          rw [if_neg (by rw [hx]; exact Bool.false_ne_true)] at h
          have z := rcLtP x y A s _ _ _ _ r r' ca.1 cb.1 (room_head hu) h
          have e : ltB x y = k := by unfold ltB; rw [h]; rfl
          show RcLt A s _ _ (ltB x y)
          rw [e]
          exact z
        | succ j =>
          have hx : PyData.eqv x y = true := hp 0 (Nat.succ_pos j)
          rw [if_pos hx] at h
          exact rcLtPs xs ys A s _ _ _ _ rs rs' ca.2 cb.2 (room_tail hu) h j (Nat.lt_of_succ_lt_succ p) (Nat.lt_of_succ_lt_succ q) (fun i hi => hp (i + 1) (Nat.succ_lt_succ hi)) hj
end
theorem canLayAt : ∀ {xs : List PyData} {x : PyData}, PyData.canLayAll0 xs = true → x ∈ xs → x.canLay0 = true
  | y :: xs, x, h, m => by
    simp only [PyData.canLayAll0, Bool.and_eq_true] at h
    rcases List.mem_cons.mp m with rfl | m
    · exact h.1
    · exact canLayAt h.2 m
section
variable {prog : Program} {w : World} {A : Around} {E : Value → Shared → Prop} {s : Shared}
theorem cmpInP {vs : Array Value} {xs : List PyData} {as : List Addr} (hr : ReadsAll s.heap vs.toList xs as) (c : PyData.canLayAll0 xs = true) (ha : ∀ x ∈ xs, ∀ y ∈ xs, (ltP x y).isSome = true) (hu : A.units + PyData.depthAll xs < cLine) :
    CmpIn prog w A .Lt s.heap (fun i v => vs[i]? = some v) (fun i j => ltB (xs.getD i .none) (xs.getD j .none)) := fun i j vi vj s' Q E hk hi hj hq => by
  obtain ⟨as1, r1, _, m1, d1⟩ := PySem.W.readsAll_atA hr i vi hi
  obtain ⟨as2, r2, _, m2, d2⟩ := PySem.W.readsAll_atA hr j vj hj
  obtain ⟨k, hk2⟩ := Option.isSome_iff_exists.mp (ha _ m1 _ m2)
  have e : ltB (xs.getD i .none) (xs.getD j .none) = k := by unfold ltB; rw [hk2]; rfl
  have hq : Q (.bool (ltB (xs.getD i .none) (xs.getD j .none))) s' := hq
  rw [e] at hq
  refine rcLtP _ _ A s' vi vj _ _ (PySem.W.reads_keeps hk r1) (PySem.W.reads_keeps hk r2) (canLayAt c m1) (canLayAt c m2) ?_ hk2 prog w E Q hq
  have := Nat.min_le_left (xs.getD i .none).depth (xs.getD j .none).depth
  omega
/-- min of a list of data -/
theorem minListP {l : Addr} {vs : Array Value} {x : PyData} {xs : List PyData} {as : List Addr} {Q : Value → Shared → Prop} (hh : A.handled = none) (hl : s.heap.IsList l vs) (hr : ReadsAll s.heap vs.toList (x :: xs) as) (c : PyData.canLayAll0 (x :: xs) = true)
    (ha : ∀ a ∈ x :: xs, ∀ b ∈ x :: xs, (ltP a b).isSome = true) (hu : A.units + 1 + PyData.depthAll (x :: xs) < cLine)
    (h : ∀ (i : Nat) v h' tk bs, vs[i]? = some v → Reads h' v (xs.foldl (fun a y => if ltB y a then y else a) x) bs → (∀ b o, s.heap.get? b = some o → h'.get? b = some o) → Q v { s with heap := h', toks := tk }) :
    wpAny (model prog w) A (call (.builtin "min") [.ref l]) Q E s := by
  have hn : vs.size = xs.length + 1 := by simpa using ReadsAll.length _ _ _ hr
  refine call_min_walkH (PySem.W.iter_listW (A := A.in1) hh hl fun s2 e W st hfp hw hk => ?_)
  refine ⟨_, _, _, _, _, _, _, s.heap, _, rfl, W, st, hfp, by omega, hw, hk, cmpInP (A := A.in1) hr c ha (by show A.units + 1 + _ < _; exact hu), fun v s' hP m => ?_⟩
  obtain ⟨h', tk, rfl, hk'⟩ := PySem.W.moved_old e rfl m
  obtain ⟨bs, r, _, _, _⟩ := PySem.W.readsAll_atA hr _ v hP
  have e1 : vs.size - 1 = xs.length := by omega
  have e2 := (PySem.W.argBest_fold ltB PyData.none x xs xs.length (Nat.le_refl _)).2
  rw [List.take_length] at e2
  rw [e1] at r
  exact h _ v h' tk bs hP (PySem.W.reads_keeps hk' (by rw [← e2]; exact r)) hk'
end
end Ev

set_option Elab.async false
set_option linter.all false
set_option maxRecDepth 100000
/-! min of a list of data. -/
namespace Ev
open PySem PySem.Spec PyProof.Rows L2
theorem toSinj {x y : List Nat} (h : toS x = toS y) : x = y := by
  have h2 := congrArg (fun s : Str => s.cps.toList) h
  simpa [toS] using h2
mutual
/-- what is laid tells its value -/
theorem pyInj : ∀ (a b : D), a.py.canLay0 = true → a.py = b.py → a = b
  | .non, b, _, h => by cases b <;> simp_all [D.py]
  | .bl x, b, _, h => by cases b <;> simp_all [D.py]
  | .int x, b, _, h => by cases b <;> simp_all [D.py]
  | .str x, b, _, h => by
    cases b <;> simp only [D.py, reduceCtorEq, PyData.str.injEq] at h
    rw [toSinj h]
  | .tup xs, b, c, h => by
    cases b <;> simp only [D.py, reduceCtorEq, PyData.tuple.injEq] at h
    rw [pysInj xs _ (by simpa [D.py, PyData.canLay0] using c) h]
  | .lst xs, b, c, h => by
    cases b <;> simp only [D.py, reduceCtorEq, PyData.list.injEq] at h
    rw [pysInj xs _ (by simpa [D.py, PyData.canLay0] using c) h]
  | .ref _, b, c, h => by simp [D.py, PyData.canLay0] at c
  | .scr _, b, c, h => by simp [D.py, PyData.canLay0] at c
theorem pysInj : ∀ (a b : List D), PyData.canLayAll0 (D.pys a) = true → D.pys a = D.pys b → a = b
  | [], b, _, h => by cases b <;> simp_all [D.pys]
  | x :: xs, b, c, h => by
    cases b with
    | nil => simp [D.pys] at h
    | cons y ys =>
      simp only [D.pys, List.cons.injEq] at h
      simp only [D.pys, PyData.canLayAll0, Bool.and_eq_true] at c
      rw [pyInj x y c.1 h.1, pysInj xs ys c.2 h.2]
end
theorem minD_map (r : List D) : ∀ (x : D), (r.foldl (fun m y => if ltB y.py m.py then y else m) x).py = (r.map D.py).foldl (fun a y => if ltB y a then y else a) x.py ∧ (r.foldl (fun m y => if ltB y.py m.py then y else m) x) ∈ x :: r := by
  induction r with
  | nil => intro x; exact ⟨rfl, List.mem_cons_self⟩
  | cons y r ih =>
    intro x
    obtain ⟨h1, h2⟩ := ih (if ltB y.py x.py then y else x)
    refine ⟨?_, ?_⟩
    · rw [List.foldl_cons, h1]
      rw [List.map_cons, List.foldl_cons]
      split <;> rfl
    · rw [List.foldl_cons]
      rcases List.mem_cons.mp h2 with h2 | h2
      · rw [h2]
        split <;> simp
      · exact List.mem_cons_of_mem _ (List.mem_cons_of_mem _ h2)
theorem depthAll_le {n : Nat} : ∀ {xs : List D}, (∀ a ∈ xs, a.py.depth ≤ n) → PyData.depthAll (D.pys xs) ≤ n
  | [], _ => Nat.zero_le _
  | x :: xs, h => by
    simp only [D.pys, PyData.depthAll]
    exact Nat.max_le.mpr ⟨h x List.mem_cons_self, depthAll_le fun a ha => h a (List.mem_cons_of_mem _ ha)⟩
theorem minD1_eq {xs : List D} {d : D} (h : minD1 xs = some d) : ∃ x r, xs = x :: r ∧ PyData.canLayAll0 (D.pys xs) = true ∧ (∀ a ∈ D.pys xs, ∀ b ∈ D.pys xs, (ltP a b).isSome = true) ∧ PyData.depthAll (D.pys xs) ≤ 60 ∧ d ∈ xs ∧ d.py = (D.pys r).foldl (fun a y => if ltB y a then y else a) x.py := by
  unfold minD1 at h
  split at h
  · cases h
  · rename_i x r
    split at h
    · rename_i q
      simp only [Bool.and_eq_true, List.all_eq_true, decide_eq_true_eq] at q
      obtain ⟨⟨q1, q2⟩, q3⟩ := q
      cases h
      obtain ⟨m1, m2⟩ := minD_map r x
      refine ⟨x, r, rfl, q1, fun a ha b hb => ?_, depthAll_le q3, m2, by rw [m1, D.pys_map]⟩
      rw [D.pys_map] at ha hb
      obtain ⟨a', ha', rfl⟩ := List.mem_map.mp ha
      obtain ⟨b', hb', rfl⟩ := List.mem_map.mp hb
      exact q2 a' ha' b' hb'
    · cases h
theorem canLay_mem : ∀ {xs : List D} {a : D}, PyData.canLayAll0 (D.pys xs) = true → a ∈ xs → a.py.canLay0 = true
  | x :: xs, a, h, m => by
    simp only [D.pys, PyData.canLayAll0, Bool.and_eq_true] at h
    rcases List.mem_cons.mp m with rfl | m
    · exact h.1
    · exact canLay_mem h.2 m
theorem valsR : ∀ {xs : List V} {us : List Value} {i : Nat} {u : Value}, Vals xs us → us[i]? = some u → ∃ x, xs[i]? = some x ∧ RelV x u
  | _, _, _, _, .nil, e => by simp at e
  | _, _, 0, _, .cons r _, e => by simp at e; subst e; exact ⟨_, rfl, r⟩
  | _, _, i + 1, x, .cons _ t, e => by
    obtain ⟨u, h1, h2⟩ := valsR (i := i) (u := x) t (by simpa using e)
    exact ⟨u, by simpa using h1, h2⟩
section
variable [HW] {X : Cx}
theorem callMin1 (hc : X.calm = true) (hu : X.A.units + 100 < cLine) : CallR X (.builtin "min") (rBi X.K .min1) := by
  rintro pins s σ H xs us Q I r ⟨ω, st, as, d, sim, ra, hd, o⟩
  obtain ⟨a, rfl, hd⟩ := one_eq hd
  obtain ⟨x, rfl, rx⟩ := ra.one
  obtain ⟨u, rfl, ru⟩ := vals1 r
  obtain ⟨xs, hi, hd⟩ := bind_eq hd
  obtain rfl := lstD_eq hi
  obtain ⟨p, vs, rfl, h1, h2, h3⟩ := rx.lst
  cases ru
  obtain ⟨its, rv, ⟨o', n, e1, e2, e4, e3⟩, _⟩ := I.list h1
  obtain ⟨x0, r0, rfl, c, al, dp, dm, dv⟩ := minD1_eq hd
  obtain ⟨bs, rr⟩ := Dp.readsAll I _ vs its (Reps.dp _ c h3) rv
  refine minListP (vs := its.toArray) (x := x0.py) (xs := D.pys r0) (as := bs) (I.ok.hd hc) ⟨o', e1, e2, n, e3⟩ (by simpa [D.pys] using rr) (by simpa only [D.pys] using c) (by simpa only [D.pys] using al) (by
    have : PyData.depthAll (x0.py :: D.pys r0) ≤ 60 := by simpa [D.pys] using dp
    omega) fun i v h' tk cs hv hr k => ?_
  have hv : its[i]? = some v := by simpa using hv
  obtain ⟨y, hy, ry⟩ := valsR rv hv
  obtain ⟨e, he, re⟩ := h3.getV hy
  have hcl := canLay_mem c (List.mem_of_getElem? he)
  obtain ⟨es, q⟩ := Dp.reads I _ y v (Rep.dp e hcl re) ry
  have hk := PyProof.Rows.Reads.keeps k q
  have eq1 := (PySem.Reads.unique hk _ _ hr).1
  rw [← dv] at eq1
  obtain rfl := pyInj e d hcl eq1
  exact ⟨y, H, I.kept (t' := tk) k, ry, o.now sim re⟩
end
end Ev

set_option Elab.async false
set_option linter.all false
set_option maxRecDepth 100000
/-! The built-in functions by values. -/
namespace Ev
open PySem PySem.Spec PyProof.Rows L2
variable [HW]

omit [HW] in
/-- the Python name and the callee of a built-in function -/
def Bi.py : Bi → Str × Value
  | .len => ("len", .builtin "len")
  | .all => ("all", .builtin "all")
  | .any => ("any", .builtin "any")
  | .sum => ("sum", .builtin "sum")
  | .tuple => ("tuple", .type "tuple")
  | .list => ("list", .type "list")
  | .sorted => ("sorted", .builtin "sorted")
  | .sortedD => ("sorted", .builtin "sorted")
  | .repr => ("repr", .builtin "repr")
  | .intf => ("int", .type "int")
  | .abs => ("abs", .builtin "abs")
  | .max2 => ("max", .builtin "max")
  | .min2 => ("min", .builtin "min")
  | .min1 => ("min", .builtin "min")
  | .divmod => ("divmod", .builtin "divmod")
  | .isin _ => ("isinstance", .builtin "isinstance")
theorem Bi.boot (b : Bi) : bootBuiltins b.py.1 = some b.py.2 := by
  cases b <;> (simp only [Bi.py]; decide +kernel)
omit [HW] in
/-- those that are served by their values alone -/
def Bi.plain : Bi → Bool
  | .isin _ => false
  | .sortedD => false
  | _ => true
theorem bools_eq : ∀ {xs : List D} {bs : List Bool}, bools xs = some bs → xs = bs.map .bl
  | [], bs, h => by simp [bools] at h; subst h; rfl
  | .bl b :: xs, bs, h => by
    simp only [bools] at h
    cases e : bools xs with
    | none => rw [e] at h; cases h
    | some cs => rw [e] at h; cases h; rw [bools_eq e]; rfl
  | .non :: _, _, h => by simp [bools] at h
  | .int _ :: _, _, h => by simp [bools] at h
  | .str _ :: _, _, h => by simp [bools] at h
  | .tup _ :: _, _, h => by simp [bools] at h
  | .lst _ :: _, _, h => by simp [bools] at h
  | .ref _ :: _, _, h => by simp [bools] at h
  | .scr _ :: _, _, h => by simp [bools] at h
theorem ints_eq : ∀ {xs : List D} {bs : List Int}, intsOf xs = some bs → xs = bs.map .int
  | [], bs, h => by simp [intsOf] at h; subst h; rfl
  | .int b :: xs, bs, h => by
    simp only [intsOf] at h
    cases e : intsOf xs with
    | none => rw [e] at h; cases h
    | some cs => rw [e] at h; cases h; rw [ints_eq e]; rfl
  | .non :: _, _, h => by simp [intsOf] at h
  | .bl _ :: _, _, h => by simp [intsOf] at h
  | .str _ :: _, _, h => by simp [intsOf] at h
  | .tup _ :: _, _, h => by simp [intsOf] at h
  | .lst _ :: _, _, h => by simp [intsOf] at h
  | .ref _ :: _, _, h => by simp [intsOf] at h
  | .scr _ :: _, _, h => by simp [intsOf] at h
theorem Reps.bls {K : PySem.W.Frag} {H : Hp} {ω : Wd} : ∀ {vs : List V} (bs : List Bool), Reps K H ω vs (bs.map .bl) → vs = bs.map .bl
  | [], [], _ => rfl
  | v :: vs, b :: bs, h => by
    simp only [List.map_cons, Reps, Rep] at h
    rw [h.1, Reps.bls bs h.2]; rfl
  | [], _ :: _, h => h.elim
  | _ :: _, [], h => h.elim
theorem Reps.nts {K : PySem.W.Frag} {H : Hp} {ω : Wd} : ∀ {vs : List V} (bs : List Int), Reps K H ω vs (bs.map .int) → vs = bs.map .int
  | [], [], _ => rfl
  | v :: vs, b :: bs, h => by
    simp only [List.map_cons, Reps, Rep] at h
    rw [h.1, Reps.nts bs h.2]; rfl
  | [], _ :: _, h => h.elim
  | _ :: _, [], h => h.elim
theorem reprD_eq {a d : D} (h : reprD a = some d) : SeqAt.shaped a.py = true ∧ a.py.showable = true ∧ a.py.hasDict = false ∧ a.py.shown.length ≤ sizeLine ∧ d = .str a.py.shown.cps.toList := by
  unfold reprD at h
  split at h
  · rename_i q
    simp only [Bool.and_eq_true, Bool.not_eq_true', decide_eq_true_eq] at q
    exact ⟨q.1.1.1, q.1.1.2, q.1.2, q.2, (Option.some.inj h).symm⟩
  · cases h
section
variable {X : Cx}
theorem callRepr (hg : X.A.guards = some []) (hu : X.A.units + 100 < cLine) : CallR X (.builtin "repr") (rBi X.K .repr) := by
  rintro pins s σ H xs us Q I r ⟨ω, st, as, d, sim, ra, hd, o⟩
  obtain ⟨a, rfl, hd⟩ := one_eq hd
  obtain ⟨x, rfl, rx⟩ := ra.one
  obtain ⟨u, rfl, ru⟩ := vals1 r
  obtain ⟨h1, h2, h3, h4, rfl⟩ := reprD_eq hd
  have hdp := SeqAt.depth_of_shaped h1
  obtain ⟨bs, rr⟩ := rx.reads I ru (SeqAt.canLay_of_shaped h1)
  have fin : ∀ h' tk t, (∀ b u, s.heap.get? b = some u → h'.get? b = some u) → EP X pins σ Q (.str a.py.shown t) { s with heap := h', toks := tk } := fun h' tk t k =>
    ⟨.str a.py.shown, H, I.kept (t' := tk) k, ⟨_, rfl⟩, by
      have z := Out.str sim o (by rw [Array.length_toList]; exact h4)
      rw [toS_of] at z
      exact z⟩
  generalize hw : a.py = p at rr h1 h2 h3 h4 hdp fin
  cases rr with
  | none => exact P.repr_of_none (fin s.heap _ _ fun _ _ e => e)
  | bool b => exact P.repr_of_bool (fin s.heap _ _ fun _ _ e => e)
  | int i t => exact P.repr_of_int (by simpa [PyData.showable] using h2) (fin s.heap _ _ fun _ _ e => e)
  | str y t => exact P.repr_of_str (fin s.heap _ _ fun _ _ e => e) h4
  | list q1 q2 q3 q4 =>
    exact repr_of_reads' (Reads.list q1 q2 q3 q4) h2 (fun z => by rw [h3] at z; cases z) hg (by omega) (fun _ _ e => e) (fun h' t tk k => fin h' _ t k) h4
  | tuple q1 q2 q3 q4 =>
    exact repr_of_reads' (Reads.tuple q1 q2 q3 q4) h2 (fun z => by rw [h3] at z; cases z) hg (by omega) (fun _ _ e => e) (fun h' t tk k => fin h' _ t k) h4
  | dict q1 q2 q3 q4 q5 => simp [PyData.hasDict] at h3
theorem callSorted (hu : X.A.units + 100 < cLine) : CallR X (.builtin "sorted") (rBi X.K .sorted) := by
  rintro pins s σ H xs us Q I r ⟨ω, st, as, d, sim, ra, hd, o⟩
  obtain ⟨a, rfl, hd⟩ := one_eq hd
  obtain ⟨x, rfl, rx⟩ := ra.one
  obtain ⟨u, rfl, ru⟩ := vals1 r
  obtain ⟨xs, hi, hd⟩ := bind_eq hd
  obtain ⟨ys, hs, rfl⟩ := map_eq hd
  rcases itemsD_eq hi with rfl | rfl
  · obtain ⟨p, vs, rfl, h1, h2, h3⟩ := rx.tup
    cases ru
    obtain ⟨its, rv, ⟨o', e1, e2, n, e3⟩, _⟩ := I.tuple h1.sq
    exact sortRun hu I sim (.inr rfl) e1 e2 e3 rv h3 h2 hs o
  · obtain ⟨p, vs, rfl, h1, h2, h3⟩ := rx.lst
    cases ru
    obtain ⟨its, rv, ⟨o', n, e1, e2, _, e3⟩, _⟩ := I.list h1
    exact sortRun hu I sim (.inl rfl) e1 e2 e3 rv h3 h2 hs o
theorem callBi (hc : X.calm = true) (hg : X.A.guards = some []) (hu : X.A.units + 100 < cLine) (b : Bi) (hp : b.plain = true) : CallR X b.py.2 (rBi X.K b) := by
  cases b with
  | isin ts => cases hp
  | sortedD => cases hp
  | repr => exact callRepr hg hu
  | sorted => exact callSorted hu
  | min1 => exact callMin1 hc hu
  | len =>
    rintro pins s σ H xs us Q I r ⟨ω, st, as, d, sim, ra, hd, o⟩
    obtain ⟨a, rfl, hd⟩ := one_eq hd
    obtain ⟨x, rfl, rx⟩ := ra.one
    rcases lenD_eq hd with ⟨xs, rfl, rfl⟩ | ⟨xs, rfl, rfl⟩ | ⟨z, rfl, rfl⟩
    · obtain ⟨p, vs, rfl, h1, h2, h3⟩ := rx.tup
      rw [← h3.length] at o
      exact call_len_seq pins s σ H _ us Q I r ⟨p, vs, rfl, .inr h1.sq, Out.int sim o⟩
    · obtain ⟨p, vs, rfl, h1, h2, h3⟩ := rx.lst
      rw [← h3.length] at o
      exact call_len_seq pins s σ H _ us Q I r ⟨p, vs, rfl, .inl h1, Out.int sim o⟩
    · obtain ⟨rfl, hz⟩ := rx.str
      rw [← toS_len] at o
      exact call_len_str pins s σ H _ us Q I r ⟨_, rfl, by rw [toS_len]; exact hz, Out.int sim o⟩
  | all =>
    rintro pins s σ H xs us Q I r ⟨ω, st, as, d, sim, ra, hd, o⟩
    obtain ⟨a, rfl, hd⟩ := one_eq hd
    obtain ⟨x, rfl, rx⟩ := ra.one
    obtain ⟨xs, hi, hd⟩ := bind_eq hd
    obtain ⟨bs, hb, rfl⟩ := map_eq hd
    obtain rfl := lstD_eq hi
    obtain ⟨p, vs, rfl, h1, h2, h3⟩ := rx.lst
    rw [bools_eq hb] at h3
    rw [Reps.bls bs h3] at h1
    exact cr_all hc pins s σ H _ us Q I r ⟨p, bs, rfl, h1, Out.bl sim o⟩
  | any =>
    rintro pins s σ H xs us Q I r ⟨ω, st, as, d, sim, ra, hd, o⟩
    obtain ⟨a, rfl, hd⟩ := one_eq hd
    obtain ⟨x, rfl, rx⟩ := ra.one
    obtain ⟨xs, hi, hd⟩ := bind_eq hd
    obtain ⟨bs, hb, rfl⟩ := map_eq hd
    obtain rfl := lstD_eq hi
    obtain ⟨p, vs, rfl, h1, h2, h3⟩ := rx.lst
    rw [bools_eq hb] at h3
    rw [Reps.bls bs h3] at h1
    exact cr_any hc pins s σ H _ us Q I r ⟨p, bs, rfl, h1, Out.bl sim o⟩
  | sum =>
    rintro pins s σ H xs us Q I r ⟨ω, st, as, d, sim, ra, hd, o⟩
    obtain ⟨a, rfl, hd⟩ := one_eq hd
    obtain ⟨x, rfl, rx⟩ := ra.one
    obtain ⟨xs, hi, hd⟩ := bind_eq hd
    obtain ⟨bs, hb, rfl⟩ := map_eq hd
    obtain rfl := lstD_eq hi
    obtain ⟨p, vs, rfl, h1, h2, h3⟩ := rx.lst
    rw [ints_eq hb] at h3
    rw [Reps.nts bs h3] at h1
    exact cr_sum hc pins s σ H _ us Q I r ⟨p, bs, rfl, h1, Out.int sim o⟩
  | tuple =>
    rintro pins s σ H xs us Q I r ⟨ω, st, as, d, sim, ra, hd, o⟩
    obtain ⟨a, rfl, hd⟩ := one_eq hd
    obtain ⟨x, rfl, rx⟩ := ra.one
    obtain ⟨xs, hi, rfl⟩ := map_eq hd
    rcases itemsD_eq hi with rfl | rfl
    · obtain ⟨p, vs, rfl, h1, h2, h3⟩ := rx.tup
      exact call_tupleT pins s σ H _ us Q I r ⟨p, vs, rfl, h1.sq, o.now sim (by simp only [Rep]; exact ⟨p, vs, rfl, h1, h2, h3⟩)⟩
    · obtain ⟨p, vs, rfl, h1, h2, h3⟩ := rx.lst
      exact call_tuple_of pins s σ H _ us Q I r ⟨p, vs, rfl, .inl ⟨h1, fun l hl => Out.tup sim o hl h2 h3⟩⟩
  | list =>
    rintro pins s σ H xs us Q I r ⟨ω, st, as, d, sim, ra, hd, o⟩
    obtain ⟨a, rfl, hd⟩ := one_eq hd
    obtain ⟨x, rfl, rx⟩ := ra.one
    obtain ⟨xs, hi, rfl⟩ := map_eq hd
    rcases itemsD_eq hi with rfl | rfl
    · obtain ⟨p, vs, rfl, h1, h2, h3⟩ := rx.tup
      exact call_list_of pins s σ H _ us Q I r ⟨p, vs, rfl, .inr h1.sq, fun l hl => Out.lst sim o hl h2 h3⟩
    · obtain ⟨p, vs, rfl, h1, h2, h3⟩ := rx.lst
      exact call_list_of pins s σ H _ us Q I r ⟨p, vs, rfl, .inl h1, fun l hl => Out.lst sim o hl h2 h3⟩
  | intf =>
    rintro pins s σ H xs us Q I r ⟨ω, st, as, d, sim, ra, hd, o⟩
    obtain ⟨a, rfl, hd⟩ := one_eq hd
    obtain ⟨x, rfl, rx⟩ := ra.one
    obtain ⟨i, rfl, hd⟩ := int1_eq hd
    cases hd
    obtain rfl := rx.int
    exact call_int1 pins s σ H _ us Q I r (.inl ⟨i, rfl, Out.int sim o⟩)
  | abs =>
    rintro pins s σ H xs us Q I r ⟨ω, st, as, d, sim, ra, hd, o⟩
    obtain ⟨a, rfl, hd⟩ := one_eq hd
    obtain ⟨x, rfl, rx⟩ := ra.one
    obtain ⟨i, rfl, hd⟩ := int1_eq hd
    cases hd
    obtain rfl := rx.int
    exact call_abs pins s σ H _ us Q I r ⟨i, rfl, Out.int sim o⟩
  | max2 =>
    rintro pins s σ H xs us Q I r ⟨ω, st, as, d, sim, ra, hd, o⟩
    obtain ⟨a, b, rfl, hd⟩ := two_eq hd
    obtain ⟨x, y, rfl, rx, ry⟩ := ra.two
    obtain ⟨i, j, rfl, rfl, hd⟩ := int2_eq hd
    cases hd
    obtain rfl := rx.int
    obtain rfl := ry.int
    exact call_max2 hc pins s σ H _ us Q I r ⟨i, j, rfl, Out.int sim o⟩
  | min2 =>
    rintro pins s σ H xs us Q I r ⟨ω, st, as, d, sim, ra, hd, o⟩
    obtain ⟨a, b, rfl, hd⟩ := two_eq hd
    obtain ⟨x, y, rfl, rx, ry⟩ := ra.two
    obtain ⟨i, j, rfl, rfl, hd⟩ := int2_eq hd
    cases hd
    obtain rfl := rx.int
    obtain rfl := ry.int
    exact call_min2 hc pins s σ H _ us Q I r ⟨i, j, rfl, Out.int sim o⟩
  | divmod =>
    rintro pins s σ H xs us Q I r ⟨ω, st, as, d, sim, ra, hd, o⟩
    obtain ⟨a, b, rfl, hd1⟩ := two_eq hd
    obtain ⟨x, y, rfl, rx, ry⟩ := ra.two
    obtain ⟨i, j, rfl, rfl, hd2⟩ := int2_eq hd1
    split at hd2
    · rename_i hz
      cases hd2
      obtain rfl := rx.int
      obtain rfl := ry.int
      exact call_divmod pins s σ H _ us Q I r ⟨i, j, rfl, hz, fun p hp => Out.tup sim o hp (by show 2 ≤ sizeLine; decide) (by simp only [Reps, Rep]; exact ⟨trivial, trivial, trivial⟩)⟩
    · cases hd2
end
end Ev

set_option Elab.async false
set_option linter.all false
set_option maxRecDepth 100000
/-! Frames, what a def of the program promises, the readings of the evaluator's trees. -/
namespace Ev
open PySem PySem.Spec PyProof.Rows L2
variable [HW]

omit [HW] in
/-- the program's names: of defs, their parameters, of constants, of exceptions -/
structure Nm where
  fn : Nat → Str
  ps : Nat → List Str
  gl : Nat → Str
  xc : Nat → Str

omit [HW] in
def RepF (K : PySem.W.Frag) (H : Hp) (ω : Wd) : List (Str × V) → List (Str × D) → Prop
  | [], [] => True
  | p :: ps, q :: qs => (p.1 = q.1 ∧ Rep K H ω p.2 q.2) ∧ RepF K H ω ps qs
  | _, _ => False
omit [HW] in
/-- an exception of the program -/
def XRep (K : PySem.W.Frag) (mg : Str → Option Value) (T : Nm) (H : Hp) (ω : Wd) (c : Value) (da : Option Addr) (x : Xc) : Prop :=
  ∃ C, mg (T.xc x.cls) = some (.ref C) ∧ c = .ref C ∧ (x.fs = [] ∨ ∃ d vs, da = some d ∧ H d = some (.xd vs) ∧ d ∉ ω.φ ∧ RepF K H ω vs x.fs)

/-- what is wanted of a def's end -/
def PostF (K : PySem.W.Frag) (mg : Str → Option Value) (T : Nm) (Q : VK) (E : XK) (H : Hp) (ω : Wd) : R D → Prop
  | .ok d st => Out K H ω st d Q
  | .ex x st => ∀ c da H' ω', Ext H ω H' ω' → Sim K H' ω' st → XRep K mg T H' ω' c da x → E c da H'
  | .no => False
/-- the def at a does what the evaluator says of f, at level k -/
def FnD (P : Program) (w : World) (K : PySem.W.Frag) (mg : Str → Option Value) (base : Heap) (T : Nm) (G : Pg) (k : Nat) (a : Addr) (fd : FuncData) (f : Nat) : Prop :=
  ∀ (A : Around) (outer : List PySem.Env) (s : Shared) (H : Hp) (args : Args) (us : List Value) (vs : List V) (ds : List D) (ω : Wd) (st : St) (Q : VK) (E : XK),
    Room k A → A.guards = some [] → Env0 P w K mg base A outer s H → BindsTo s fd args ((T.ps f).zip us) → us.length = (T.ps f).length → Vals vs us → Sim K H ω st → Reps K H ω vs ds → PostF K mg T Q E H ω (callN G k f ds st) →
    codeAny (model P w) A (.call (.ref a) args) (CR (L2.CX P w) outer P w H s Q E) s
omit [HW] in
/-- what the module's globals hold -/
def bnames : List Str := ["len", "all", "any", "sum", "tuple", "list", "sorted", "repr", "int", "abs", "max", "min", "divmod", "isinstance", "dict", "range", "enumerate", "zip", "str", "bool", "set"]
omit [HW] in
/-- a call by keywords alone: the def, the names, where each parameter's value stands -/
structure Kw where
  f : Nat
  ks : List Str
  perm : List Nat
  deriving DecidableEq
structure GOk (P : Program) (w : World) (K : PySem.W.Frag) (mg : Str → Option Value) (base : Heap) (T : Nm) (G : Pg) (kw : List Kw) (k : Nat) : Prop where
  fn : ∀ f d, G.defs f = some d → ∃ a fd, mg (T.fn f) = some (.ref a) ∧ PySem.W.keepIn K (.ref a) = true ∧ FnD P w K mg base T G k a fd f ∧ (T.ps f).length = d.ps ∧
    (∀ (s : Shared) (us : List Value), K.In s.heap → us.length = (T.ps f).length → BindsTo s fd ⟨us, []⟩ ((T.ps f).zip us)) ∧
    ∀ q ∈ kw, q.f = f → ∀ (s : Shared) (ws zs : List Value), K.In s.heap → ws.length = q.ks.length → q.perm.mapM (fun j => ws[j]?) = some zs → BindsTo s fd ⟨[], q.ks.zip ws⟩ ((T.ps f).zip zs)
  gl : ∀ g d, G.gl g = some d → ∃ v u, mg (T.gl g) = some u ∧ RelV v u ∧ ∀ H ω, Rep K H ω v d
  bt : ∀ x ∈ bnames, mg x = none
  hw : w = HW.w

/-! ### frames -/
omit [HW] in
def RSl (K : PySem.W.Frag) (H0 H : Hp) (ω : Wd) (σ : L2.St) (i : Nat) : Sl → Prop
  | .no => True
  | .va d => ∃ v, σ[i]? = some (some v) ∧ Rep K H ω v d
  | .ow xs => ∃ a vs, σ[i]? = some (some (.ref a)) ∧ H a = some (.lst vs) ∧ a ∉ ω.φ ∧ ¬ ω.F a ∧ H0 a = none ∧ xs.length ≤ sizeLine ∧ Reps K H ω vs xs
omit [HW] in
structure REnv (K : PySem.W.Frag) (H0 H : Hp) (ω : Wd) (σ : L2.St) (env : Env) : Prop where
  len : σ.length = env.length
  sl : ∀ (i : Nat) (s : Sl), env[i]? = some s → RSl K H0 H ω σ i s
  un : ∀ (i j : Nat) (a : Addr) (xs ys : List D), env[i]? = some (.ow xs) → env[j]? = some (.ow ys) → σ[i]? = some (some (.ref a)) → σ[j]? = some (some (.ref a)) → i = j
section
variable {K : PySem.W.Frag} {H0 H H' : Hp} {ω ω' : Wd} {σ : L2.St} {env : Env}
theorem RSl.ext (e : Ext H ω H' ω') {i : Nat} {s : Sl} (h : RSl K H0 H ω σ i s) : RSl K H0 H' ω' σ i s := by
  cases s with
  | no => trivial
  | va d =>
    obtain ⟨v, h1, h2⟩ := h
    exact ⟨v, h1, h2.ext e⟩
  | ow xs =>
    obtain ⟨a, vs, h1, h2, h3, h4, h5, h6, h7⟩ := h
    have hn : H a ≠ none := by rw [h2]; simp
    exact ⟨a, vs, h1, e.keep _ _ h2 h3, fun q => (e.new a q).elim h3 fun z => hn z, fun q => (e.newF a q).elim h4 fun z => hn z, h5, h6, Reps.ext e xs h7⟩
theorem REnv.ext (e : Ext H ω H' ω') (h : REnv K H0 H ω σ env) : REnv K H0 H' ω' σ env := ⟨h.len, fun i s q => (h.sl i s q).ext e, h.un⟩
theorem wipeE_len : ∀ (vs : List Nat), (wipeE env vs).length = env.length
  | [] => rfl
  | v :: vs => by simp [wipeE, wipeE_len vs]
theorem wipe_len (σ : L2.St) : ∀ (vs : List Nat), (wipe σ vs).length = σ.length
  | [] => rfl
  | v :: vs => by simp [wipe, wipe_len σ vs]
theorem wipe_get (env : Env) (σ : L2.St) : ∀ (vs : List Nat) (i : Nat), (i ∈ vs → ∀ s, (wipeE env vs)[i]? = some s → s = .no) ∧ (i ∉ vs → (wipeE env vs)[i]? = env[i]? ∧ (wipe σ vs)[i]? = σ[i]?)
  | [], i => ⟨fun h => by simp at h, fun _ => ⟨rfl, rfl⟩⟩
  | v :: vs, i => by
    have ih := wipe_get env σ vs i
    refine ⟨fun h s q => ?_, fun h => ?_⟩
    · simp only [wipeE] at q
      by_cases e : v = i
      · subst e
        by_cases hl : v < (wipeE env vs).length
        · rw [List.getElem?_set_self hl] at q
          exact (Option.some.inj q).symm
        · rw [List.getElem?_eq_none (by simpa using hl)] at q
          cases q
      · rw [List.getElem?_set_ne e] at q
        exact ih.1 (by rcases List.mem_cons.mp h with r | r; · exact absurd r.symm e
                       · exact r) s q
    · simp only [List.mem_cons, not_or] at h
      obtain ⟨h1, h2⟩ := ih.2 h.2
      simp only [wipeE, wipe]
      rw [List.getElem?_set_ne (Ne.symm h.1), List.getElem?_set_ne (Ne.symm h.1)]
      exact ⟨h1, h2⟩
theorem REnv.wipe (h : REnv K H0 H ω σ env) (vs : List Nat) : REnv K H0 H ω (L2.wipe σ vs) (wipeE env vs) := by
  refine ⟨by rw [wipe_len, wipeE_len]; exact h.len, fun i s q => ?_, fun i j a xs ys q1 q2 q3 q4 => ?_⟩
  · by_cases hi : i ∈ vs
    · rw [(wipe_get env σ vs i).1 hi s q]
      trivial
    · obtain ⟨e1, e2⟩ := (wipe_get env σ vs i).2 hi
      rw [e1] at q
      have z := h.sl i s q
      cases s with
      | no => trivial
      | va d => obtain ⟨v, h1, h2⟩ := z; exact ⟨v, by rw [e2]; exact h1, h2⟩
      | ow xs => obtain ⟨a, vs, h1, r⟩ := z; exact ⟨a, vs, by rw [e2]; exact h1, r⟩
  · have n1 : i ∉ vs := fun hi => by have z := (wipe_get env σ vs i).1 hi _ q1; cases z
    have n2 : j ∉ vs := fun hi => by have z := (wipe_get env σ vs j).1 hi _ q2; cases z
    obtain ⟨e1, e2⟩ := (wipe_get env σ vs i).2 n1
    obtain ⟨e3, e4⟩ := (wipe_get env σ vs j).2 n2
    rw [e1] at q1
    rw [e3] at q2
    rw [e2] at q3
    rw [e4] at q4
    exact h.un i j a xs ys q1 q2 q3 q4
/-- a value stored into a slot -/
theorem REnv.setV (h : REnv K H0 H ω σ env) {i : Nat} {v : V} {d : D} (hi : i < env.length) (r : Rep K H ω v d) : REnv K H0 H ω (σ.set i (some v)) (env.set i (.va d)) := by
  have hσ : i < σ.length := by rw [h.len]; exact hi
  refine ⟨by simpa using h.len, fun j s q => ?_, fun j k a xs ys q1 q2 q3 q4 => ?_⟩
  · by_cases e : i = j
    · subst e
      rw [List.getElem?_set_self hi] at q
      cases q
      exact ⟨v, by rw [List.getElem?_set_self hσ], r⟩
    · rw [List.getElem?_set_ne e] at q
      have z := h.sl j s q
      cases s with
      | no => trivial
      | va d => obtain ⟨v, h1, h2⟩ := z; exact ⟨v, by rw [List.getElem?_set_ne e]; exact h1, h2⟩
      | ow xs => obtain ⟨a, vs, h1, r⟩ := z; exact ⟨a, vs, by rw [List.getElem?_set_ne e]; exact h1, r⟩
  · have n1 : i ≠ j := fun e => by subst e; rw [List.getElem?_set_self hi] at q1; cases q1
    have n2 : i ≠ k := fun e => by subst e; rw [List.getElem?_set_self hi] at q2; cases q2
    rw [List.getElem?_set_ne n1] at q1 q3
    rw [List.getElem?_set_ne n2] at q2 q4
    exact h.un j k a xs ys q1 q2 q3 q4
end

/-! ### readings -/
omit [HW] in
def RepO (K : PySem.W.Frag) (H : Hp) (ω : Wd) (v : V) (d : D) : Prop := ∃ a vs ds, v = .ref a ∧ d = .lst ds ∧ H a = some (.lst vs) ∧ a ∉ ω.φ ∧ ds.length ≤ sizeLine ∧ Reps K H ω vs ds
omit [HW] in
def E.isO : E → Bool
  | .own _ => true
  | _ => false
omit [HW] in
def RepE (K : PySem.W.Frag) (H : Hp) (ω : Wd) (e : E) (v : V) (d : D) : Prop := if e.isO then RepO K H ω v d else Rep K H ω v d
section
variable {K : PySem.W.Frag} {H H' : Hp} {ω ω' : Wd}
theorem RepO.ext (e : Ext H ω H' ω') {v : V} {d : D} (h : RepO K H ω v d) : RepO K H' ω' v d := by
  obtain ⟨a, vs, ds, h1, h2, h3, h4, h5, h6⟩ := h
  exact ⟨a, vs, ds, h1, h2, e.keep _ _ h3 h4, fun q => (e.new a q).elim h4 fun z => by (rw [h3] at z; cases z), h5, Reps.ext e ds h6⟩
theorem RepE.ext (e : Ext H ω H' ω') {x : E} {v : V} {d : D} (h : RepE K H ω x v d) : RepE K H' ω' x v d := by
  unfold RepE at h ⊢
  split
  · rename_i q
    rw [if_pos q] at h
    exact h.ext e
  · rename_i q
    rw [if_neg q] at h
    exact h.ext e
theorem RepE.rep {x : E} {v : V} {d : D} (hx : x.isO = false) (h : RepE K H ω x v d) : Rep K H ω v d := by
  unfold RepE at h
  rw [if_neg (by rw [hx]; exact Bool.false_ne_true)] at h
  exact h
theorem RepE.of {x : E} {v : V} {d : D} (hx : x.isO = false) (h : Rep K H ω v d) : RepE K H ω x v d := by
  unfold RepE
  rw [if_neg (by rw [hx]; exact Bool.false_ne_true)]
  exact h
theorem RepE.t {x : E} {v : V} {d : D} {st : St} (s : Sim K H ω st) (h : RepE K H ω x v d) : RepT K H ω v (vw st d) := by
  unfold RepE at h
  split at h
  · obtain ⟨a, vs, ds, h1, rfl, h3, h4, h5, h6⟩ := h
    exact .inr ⟨a, vs, ds, h1, rfl, h3, h5, h6⟩
  · exact Rep.vw s h
theorem RepE.s {x : E} {v : V} {d : D} {st : St} (s : Sim K H ω st) (h : RepE K H ω x v d) : RepS K H ω v (vwS st d) := by
  unfold RepE at h
  split at h
  · obtain ⟨a, vs, ds, h1, rfl, h3, h4, h5, h6⟩ := h
    exact .inr ⟨a, vs, ds, h1, rfl, .inl (.inl h3), h5, h6⟩
  · exact Rep.vwS s h
end

omit [HW] in
/-- the frame of names that a piece of text runs in -/
structure Cn where
  N : List Str
  sc : Scope
  fn : Str → Bool
structure XOk (X : Cx) (T : Nm) (G : Pg) (kw : List Kw) (k : Nat) (c : Cn) : Prop where
  N : X.N = c.N
  sc : X.env.scope = c.sc
  fn : X.fn = c.fn
  calm : X.calm = true
  nd : c.N.Nodup
  room : Room k X.A
  gd : X.A.guards = some []
  g : GOk X.prog X.w X.K X.mg X.base T G kw k

section
variable (X : Cx) (T : Nm) (G : Pg) (k : Nat) (W : WX)
def PostE (σ : L2.St) (Q : VK) (H : Hp) (ω : Wd) (e : E) : R D → Prop
  | .ok d st => ∀ v H' ω', Ext H ω H' ω' → Sim X.K H' ω' st → RepE X.K H' ω' e v d → Q v H'
  | .ex x st => ∀ c da H' ω', Ext H ω H' ω' → Sim X.K H' ω' st → XRep X.K X.mg T H' ω' c da x → W c da σ H'
  | .no => False
omit [HW] in
def RepEs (K : PySem.W.Frag) (H : Hp) (ω : Wd) : Es → List V → List D → Prop
  | .nil, [], [] => True
  | .cons e es, v :: vs, d :: ds => RepE K H ω e v d ∧ RepEs K H ω es vs ds
  | _, _, _ => False
def PostEs (σ : L2.St) (Q : List V → Hp → Prop) (H : Hp) (ω : Wd) (es : Es) : R (List D) → Prop
  | .ok ds st => ∀ vs H' ω', Ext H ω H' ω' → Sim X.K H' ω' st → RepEs X.K H' ω' es vs ds → Q vs H'
  | .ex x st => ∀ c da H' ω', Ext H ω H' ω' → Sim X.K H' ω' st → XRep X.K X.mg T H' ω' c da x → W c da σ H'
  | .no => False
def tEv (e : E) : TE := fun σ H Q => ∃ ω st env H0, Sim X.K H ω st ∧ REnv X.K H0 H ω σ env ∧ PostE X T W σ Q H ω e (ev (callN G k) G.gl env st e)
def tEvs (es : Es) : TA := fun σ H Q => ∃ ω st env H0, Sim X.K H ω st ∧ REnv X.K H0 H ω σ env ∧ PostEs X T W σ Q H ω es (evs (callN G k) G.gl env st es)
end
section
variable {X : Cx} {T : Nm} {G : Pg} {k : Nat} {W : WX} {σ : L2.St} {Q : VK} {H H' : Hp} {ω ω' : Wd}
theorem PostE.mono (x : Ext H ω H' ω') {e : E} {r : R D} (h : PostE X T W σ Q H ω e r) : PostE X T W σ Q H' ω' e r := by
  cases r with
  | ok d st => exact fun v H2 ω2 e2 => h v H2 ω2 (x.trans e2)
  | ex y st => exact fun c da H2 ω2 e2 => h c da H2 ω2 (x.trans e2)
  | no => exact h
theorem PostEs.mono (x : Ext H ω H' ω') {es : Es} {Q : List V → Hp → Prop} {r : R (List D)} (h : PostEs X T W σ Q H ω es r) : PostEs X T W σ Q H' ω' es r := by
  cases r with
  | ok d st => exact fun v H2 ω2 e2 => h v H2 ω2 (x.trans e2)
  | ex y st => exact fun c da H2 ω2 e2 => h c da H2 ω2 (x.trans e2)
  | no => exact h
/-- an expression, then the rest -/
theorem step {e a : E} {r : R D} {f : D → St → R D} {Q1 : VK} (h : PostE X T W σ Q H ω e (r.bind f))
    (q : ∀ d st1 v H1 ω1, Ext H ω H1 ω1 → Sim X.K H1 ω1 st1 → RepE X.K H1 ω1 a v d → PostE X T W σ Q H1 ω1 e (f d st1) → Q1 v H1) : PostE X T W σ Q1 H ω a r := by
  cases r with
  | ok d st => exact fun v H1 ω1 e1 s1 r1 => q d st v H1 ω1 e1 s1 r1 (PostE.mono e1 h)
  | ex y st => exact h
  | no => exact h
theorem steps {e : E} {es : Es} {r : R (List D)} {f : List D → St → R D} {Q1 : List V → Hp → Prop} (h : PostE X T W σ Q H ω e (r.bind f))
    (q : ∀ ds st1 vs H1 ω1, Ext H ω H1 ω1 → Sim X.K H1 ω1 st1 → RepEs X.K H1 ω1 es vs ds → PostE X T W σ Q H1 ω1 e (f ds st1) → Q1 vs H1) : PostEs X T W σ Q1 H ω es r := by
  cases r with
  | ok d st => exact fun v H1 ω1 e1 s1 r1 => q d st v H1 ω1 e1 s1 r1 (PostE.mono e1 h)
  | ex y st => exact h
  | no => exact h
theorem stepE {a : E} {es : Es} {r : R D} {f : D → St → R (List D)} {Q : List V → Hp → Prop} {Q1 : VK} (h : PostEs X T W σ Q H ω es (r.bind f))
    (q : ∀ d st1 v H1 ω1, Ext H ω H1 ω1 → Sim X.K H1 ω1 st1 → RepE X.K H1 ω1 a v d → PostEs X T W σ Q H1 ω1 es (f d st1) → Q1 v H1) : PostE X T W σ Q1 H ω a r := by
  cases r with
  | ok d st => exact fun v H1 ω1 e1 s1 r1 => q d st v H1 ω1 e1 s1 r1 (PostEs.mono e1 h)
  | ex y st => exact h
  | no => exact h
theorem stepEs {es es' : Es} {r : R (List D)} {f : List D → St → R (List D)} {Q Q1 : List V → Hp → Prop} (h : PostEs X T W σ Q H ω es (r.bind f))
    (q : ∀ ds st1 vs H1 ω1, Ext H ω H1 ω1 → Sim X.K H1 ω1 st1 → RepEs X.K H1 ω1 es' vs ds → PostEs X T W σ Q H1 ω1 es (f ds st1) → Q1 vs H1) : PostEs X T W σ Q1 H ω es' r := by
  cases r with
  | ok d st => exact fun v H1 ω1 e1 s1 r1 => q d st v H1 ω1 e1 s1 r1 (PostEs.mono e1 h)
  | ex y st => exact h
  | no => exact h
/-- a result that is there at once -/
theorem PostE.out {e : E} {d : D} {st : St} (he : e.isO = false) (h : PostE X T W σ Q H ω e (.ok d st)) : Out X.K H ω st d Q := fun v H' ω' x s r => h v H' ω' x s (RepE.of he r)
end
theorem _root_.L2.PE.weak {X : Cx} {e : Expr} {t t' : TE} (h : PE X e t) (q : ∀ σ H Q, t' σ H Q → t σ H Q) : PE X e t' := ⟨fun pins s σ H Q I hw => h.run pins s σ H Q I (q σ H Q hw)⟩
theorem _root_.L2.PT.weak {X : Cx} {e : Expr} {t t' : TT} (h : PT X e t) (q : ∀ σ H Q, t' σ H Q → t σ H Q) : PT X e t' := ⟨fun pins s σ H Q I hw => h.run pins s σ H Q I (q σ H Q hw)⟩
theorem _root_.L2.PW.weak {X : Cx} {e : Expr} {t t' : TT} (h : PW X e t) (q : ∀ σ H Q, t' σ H Q → t σ H Q) : PW X e t' := ⟨fun whole pins s σ H Q I hw => h.run whole pins s σ H Q I (q σ H Q hw)⟩
theorem _root_.L2.PA.weak {X : Cx} {e : List Expr} {t t' : TA} (h : PA X e t) (q : ∀ σ H Q, t' σ H Q → t σ H Q) : PA X e t' := ⟨fun pos pins s σ H Q I hw => h.run pos pins s σ H Q I (q σ H Q hw)⟩
theorem _root_.L2.PS.weak {X : Cx} {e : Stmt} {t t' : TS} (h : PS X e t) (q : ∀ D σ H, t' D σ H → t D σ H) : PS X e t' := ⟨fun pins s σ H D I hw => h.run pins s σ H D I (q D σ H hw)⟩
theorem _root_.L2.PSs.weak {X : Cx} {e : List Stmt} {t t' : TS} (h : PSs X e t) (q : ∀ D σ H, t' D σ H → t D σ H) : PSs X e t' := ⟨fun pins s σ H D I hw => h.run pins s σ H D I (q D σ H hw)⟩
end Ev

set_option Elab.async false
set_option linter.all false
set_option maxRecDepth 100000
/-! Expressions: each form of the tree from its parts. -/
namespace Ev
open PySem PySem.Spec PyProof.Rows L2
variable [HW]

omit [HW] in
def Es.len : Es → Nat
  | .nil => 0
  | .cons _ es => es.len + 1
omit [HW] in
def Es.noO : Es → Bool
  | .nil => true
  | .cons e es => !e.isO && es.noO
section
variable {K : PySem.W.Frag} {H : Hp} {ω : Wd}
theorem RepEs.len : ∀ {es : Es} {vs : List V} {ds : List D}, RepEs K H ω es vs ds → vs.length = es.len ∧ ds.length = es.len
  | .nil, [], [], _ => ⟨rfl, rfl⟩
  | .cons e es, v :: vs, d :: ds, h => by
    obtain ⟨h1, h2⟩ := RepEs.len h.2
    exact ⟨by simp [Es.len, h1], by simp [Es.len, h2]⟩
  | .nil, _ :: _, _, h => h.elim
  | .nil, [], _ :: _, h => h.elim
  | .cons _ _, [], _, h => h.elim
  | .cons _ _, _ :: _, [], h => h.elim
theorem RepEs.reps : ∀ {es : Es} {vs : List V} {ds : List D}, es.noO = true → RepEs K H ω es vs ds → Reps K H ω vs ds
  | .nil, [], [], _, _ => trivial
  | .cons e es, v :: vs, d :: ds, n, h => by
    simp only [Es.noO, Bool.and_eq_true, Bool.not_eq_true'] at n
    simp only [Reps]
    exact ⟨h.1.rep n.1, RepEs.reps n.2 h.2⟩
  | .nil, _ :: _, _, _, h => h.elim
  | .nil, [], _ :: _, _, h => h.elim
  | .cons _ _, [], _, _, h => h.elim
  | .cons _ _, _ :: _, [], _, h => h.elim
theorem RepEs.s {st : St} (s : Sim K H ω st) : ∀ {es : Es} {vs : List V} {ds : List D}, RepEs K H ω es vs ds → RepsS K H ω vs (ds.map (vwS st))
  | .nil, [], [], _ => trivial
  | .cons e es, v :: vs, d :: ds, h => by
    simp only [List.map_cons, RepsS]
    exact ⟨h.1.s s, RepEs.s s h.2⟩
  | .nil, _ :: _, _, h => h.elim
  | .nil, [], _ :: _, h => h.elim
  | .cons _ _, [], _, h => h.elim
  | .cons _ _, _ :: _, [], h => h.elim
theorem RepEs.ext {H' : Hp} {ω' : Wd} (x : Ext H ω H' ω') : ∀ {es : Es} {vs : List V} {ds : List D}, RepEs K H ω es vs ds → RepEs K H' ω' es vs ds
  | .nil, [], [], _ => trivial
  | .cons e es, v :: vs, d :: ds, h => ⟨h.1.ext x, RepEs.ext x h.2⟩
  | .nil, _ :: _, _, h => h.elim
  | .nil, [], _ :: _, h => h.elim
  | .cons _ _, [], _, h => h.elim
  | .cons _ _, _ :: _, [], h => h.elim
omit [HW] in
/-- a new cell -/
def Wd.cell (ω : Wd) (p : Addr) : Wd := ⟨ω.φ ++ [p], ω.F⟩
theorem Ext.cell {st : St} (s : Sim K H ω st) {p : Addr} {o : HO} (h : H p = none) : Ext H ω (upd H p o) (ω.cell p) where
  pre := List.prefix_append _ _
  frz := fun _ h => h
  keep := fun a u e _ => by rw [upd_ne (ne_of_none e h)]; exact e
  new := fun a h' => (List.mem_append.mp h').elim .inl fun z => .inr (by rw [List.mem_singleton.mp z]; exact h)
  newF := fun _ h => .inl h
  cells := fun a _ n => (Ext.updN (o := o) s h).stay n
theorem Sim.cell_new {st : St} {c : C} (s : Sim K H ω st) {p : Addr} {o : HO} (h : H p = none) (hc : CellR K (upd H p o) (ω.cell p) p c) : Sim K (upd H p o) (ω.cell p) (st ++ [c]) where
  len := by show (ω.φ ++ [p]).length = _; simp [s.len]
  nd := by
    show (ω.φ ++ [p]).Nodup
    rw [List.nodup_append]
    refine ⟨s.nd, by simp, fun a ha b hb e => ?_⟩
    rw [List.mem_singleton] at hb
    subst hb; subst e
    exact s.fresh h ha
  nF := fun a ha hf => (List.mem_append.mp ha).elim (fun z => s.nF a z hf) fun z => by
    rw [List.mem_singleton.mp z] at hf
    exact s.hF p hf h
  hF := fun a ha => (Ext.updN (o := o) s h).stay (s.hF a ha)
  cell := fun n d e => by
    by_cases hn : n < st.length
    · rw [List.getElem?_append_left hn] at e
      obtain ⟨a, h1, h2⟩ := s.cell n d e
      exact ⟨a, (Ext.cell (o := o) s h).at h1, h2.ext (Ext.cell s h) fun u q => by rw [upd_ne (ne_of_none q h)]; exact q⟩
    · have e1 : n = st.length := by
        have := (List.getElem?_eq_some_iff.mp e).1
        simp at this
        omega
      subst e1
      rw [List.getElem?_append_right (Nat.le_refl _)] at e
      simp at e
      subst e
      exact ⟨p, by show (ω.φ ++ [p])[st.length]? = some p; rw [← s.len, List.getElem?_append_right (Nat.le_refl _)]; simp, hc⟩
end

section
variable {X : Cx} {T : Nm} {G : Pg} {k : Nat} {W : WX} {c : Cn} {kw : List Kw} {pos : Pos} {p q r : Expr} {a b e : E}
theorem peVar {i : Nat} {x : Str} (hN : X.N[i]? = some x) (hv : Vis X.env.scope x) (hd : (x == ("__debug__" : Str)) = false) (hcd : (x == ("__classdict__" : Str)) = false) : PE X (.Name x pos) (tEv X T G k W (.var i)) :=
  (pe_var hN hv hd hcd).weak fun σ H Q ⟨ω, st, env, H0, sim, re, h⟩ => by
    simp only [ev] at h
    split at h
    · rename_i d hd
      obtain ⟨v, h1, h2⟩ := re.sl i _ hd
      exact ⟨v, h1, h v H ω (Ext.refl H ω) sim (RepE.of rfl h2)⟩
    · exact h.elim
theorem peOwn {i : Nat} {x : Str} (hN : X.N[i]? = some x) (hv : Vis X.env.scope x) (hd : (x == ("__debug__" : Str)) = false) (hcd : (x == ("__classdict__" : Str)) = false) : PE X (.Name x pos) (tEv X T G k W (.own i)) :=
  (pe_var hN hv hd hcd).weak fun σ H Q ⟨ω, st, env, H0, sim, re, h⟩ => by
    simp only [ev] at h
    split at h
    · rename_i d hd
      obtain ⟨a, vs, h1, h2, h3, h4, h5, h6, h7⟩ := re.sl i _ hd
      exact ⟨_, h1, h _ H ω (Ext.refl H ω) sim (show RepO X.K H ω _ _ from ⟨a, vs, _, rfl, rfl, h2, h3, h6, h7⟩)⟩
    · exact h.elim
theorem peGlob {g : Nat} {x : Str} (ok : XOk X T G kw k c) (hx : T.gl g = x) (hg : Gl X x) (hs : (G.gl g).isSome = true) (hd : (x == ("__debug__" : Str)) = false) : PE X (.Name x pos) (tEv X T G k W (.glob g)) := by
  cases hq : G.gl g with
  | none => rw [hq] at hs; cases hs
  | some d =>
    obtain ⟨v, u, h1, h2, h3⟩ := ok.g.gl g d hq
    rw [hx] at h1
    exact (pe_glob hg h1 h2 hd).weak fun σ H Q ⟨ω, st, env, H0, sim, re, h⟩ => by
      simp only [ev, hq, R.of_some] at h
      exact h v H ω (Ext.refl H ω) sim (RepE.of rfl (h3 H ω))
omit [HW] in
/-- what a constant is -/
def cstOk : D → Const → Bool
  | .non, .none => true
  | .bl b, .bool b' => b == b'
  | .int i, .int j => i == j
  | .str x, .str y => (x == y.cps.toList) && decide (x.length ≤ sizeLine)
  | _, _ => false
theorem peCst {d : D} {x : Const} {kd} (h : cstOk d x = true) : PE X (.Constant x kd pos) (tEv X T G k W (.cst d)) := by
  unfold cstOk at h
  split at h
  · exact pe_non.weak fun σ H Q ⟨ω, st, env, H0, sim, re, h⟩ => h .non H ω (Ext.refl H ω) sim (RepE.of rfl (by simp only [Rep]))
  · rename_i b b'
    obtain rfl : b = b' := by simpa using h
    exact pe_bl.weak fun σ H Q ⟨ω, st, env, H0, sim, re, h⟩ => h (.bl b) H ω (Ext.refl H ω) sim (RepE.of rfl (by simp only [Rep]))
  · rename_i b b'
    obtain rfl : b = b' := by simpa using h
    exact pe_int.weak fun σ H Q ⟨ω, st, env, H0, sim, re, h⟩ => h (.int b) H ω (Ext.refl H ω) sim (RepE.of rfl (by simp only [Rep]))
  · rename_i x' y'
    simp only [Bool.and_eq_true, beq_iff_eq, decide_eq_true_eq] at h
    obtain ⟨rfl, hl⟩ := h
    refine pe_str.weak fun σ H Q ⟨ω, st, env, H0, sim, re, h⟩ => ?_
    exact h (.str y') H ω (Ext.refl H ω) sim (RepE.of rfl (by simp only [Rep]; exact ⟨by rw [toS_of], hl⟩))
  · cases h
theorem peNeg {i : Int} {kd p1} : PE X (.UnaryOp .USub (.Constant (.int i) kd p1) pos) (tEv X T G k W (.cst (.int (-i)))) :=
  (pe_un un_neg pe_int).weak fun σ H Q ⟨ω, st, env, H0, sim, re, h⟩ => ⟨i, rfl, h (.int (-i)) H ω (Ext.refl H ω) sim (RepE.of rfl (by simp only [Rep]))⟩
variable {es : Es} {ps : List Expr}
theorem peTup {x1} (h : PA X ps (tEvs X T G k W es)) (hn : es.noO = true) (hl : es.len ≤ 1000) : PE X (.Tuple ps x1 pos) (tEv X T G k W (.tup es)) :=
  (pe_tup h).weak fun σ H Q ⟨ω, st, env, H0, sim, re, h⟩ => by
    simp only [ev] at h
    refine ⟨ω, st, env, H0, sim, re, steps h fun ds st1 vs H1 ω1 e1 s1 r1 h => ?_⟩
    have hz : ds.length ≤ sizeLine := by rw [r1.len.2]; exact Nat.le_trans hl (by decide)
    exact ⟨by rw [r1.len.1, ← r1.len.2]; exact hz, fun p hp => Out.tup s1 (h.out rfl) hp hz (r1.reps hn)⟩
theorem peLst (h : PA X ps (tEvs X T G k W es)) (hn : es.noO = true) (hl : es.len ≤ 1000) : PE X (.List ps pos) (tEv X T G k W (.lst es)) :=
  (pe_lst h).weak fun σ H Q ⟨ω, st, env, H0, sim, re, h⟩ => by
    simp only [ev] at h
    refine ⟨ω, st, env, H0, sim, re, steps h fun ds st1 vs H1 ω1 e1 s1 r1 h => ?_⟩
    have hz : ds.length ≤ sizeLine := by rw [r1.len.2]; exact Nat.le_trans hl (by decide)
    exact ⟨by rw [r1.len.1, ← r1.len.2]; exact hz, fun p hp => Out.lst s1 (h.out rfl) hp hz (r1.reps hn)⟩
theorem peLstC (h : PA X ps (tEvs X T G k W es)) (hn : es.noO = true) (hl : es.len ≤ 1000) : PE X (.List ps pos) (tEv X T G k W (.lstC es)) :=
  (pe_lst h).weak fun σ H Q ⟨ω, st, env, H0, sim, re, h⟩ => by
    simp only [ev] at h
    refine ⟨ω, st, env, H0, sim, re, steps h fun ds st1 vs H1 ω1 e1 s1 r1 h => ?_⟩
    have hz : ds.length ≤ sizeLine := by rw [r1.len.2]; exact Nat.le_trans hl (by decide)
    refine ⟨by rw [r1.len.1, ← r1.len.2]; exact hz, fun p hp => ?_⟩
    have x := Ext.cell (o := .lst vs) s1 hp
    refine h (.ref p) _ _ x (s1.cell_new hp ⟨vs, upd_same, hz, Reps.ext x ds (r1.reps hn)⟩) (RepE.of rfl ?_)
    simp only [Rep]
    exact ⟨p, by show (ω1.φ ++ [p])[st1.length]? = some p; rw [← s1.len, List.getElem?_append_right (Nat.le_refl _)]; simp, rfl⟩
theorem peBin {op : Bo} (ha : PE X p (tEv X T G k W a)) (hb : PE X q (tEv X T G k W b)) : PE X (.BinOp p op.py q pos) (tEv X T G k W (.bin op a b)) :=
  (pe_op (opBin op) ha hb).weak fun σ H Q ⟨ω, st, env, H0, sim, re, h⟩ => by
    simp only [ev] at h
    refine ⟨ω, st, env, H0, sim, re, step h fun d st1 v H1 ω1 e1 s1 r1 h => ⟨ω1, st1, env, H0, s1, re.ext e1, step h fun d2 st2 v2 H2 ω2 e2 s2 r2 h => ?_⟩⟩
    cases hd : binD op (vw st2 d) (vw st2 d2) with
    | none => rw [hd] at h; exact h.elim
    | some z =>
      rw [hd] at h
      exact ⟨ω2, st2, _, _, z, s2, (r1.ext e2).t s2, r2.t s2, hd, h.out rfl⟩
theorem RepS.vw {K : PySem.W.Frag} {H : Hp} {ω : Wd} {v : V} {d : D} {st : St} (h : RepT K H ω v (vw st d)) : RepS K H ω v (vw st d) := h.s
theorem cmpStep {op : Co} {Q : VK} {H1 H2 : Hp} {ω1 ω2 : Wd} {st2 : St} {d d2 : D} {v v2 : V} (e2 : Ext H1 ω1 H2 ω2) (s2 : Sim X.K H2 ω2 st2) (r1 : RepE X.K H1 ω1 a v d) (r2 : RepE X.K H2 ω2 b v2 d2) {x : Bool}
    (hx : cmpD op (vw st2 d) (vw st2 d2) = some x) (h : Q (.bl x) H2) : rCmp X.K op v v2 H2 Q := ⟨ω2, st2, _, _, x, s2, ((r1.ext e2).t s2).s, (r2.t s2).s, hx, h⟩
theorem XOk.u65 (ok : XOk X T G kw k c) : X.A.units + 65 < cLine := by have := ok.room.un; omega
theorem XOk.u100 (ok : XOk X T G kw k c) : X.A.units + 100 < cLine := by have := ok.room.un; omega
theorem peCmp {op : Co} (ok : XOk X T G kw k c) (ha : PE X p (tEv X T G k W a)) (hb : PE X q (tEv X T G k W b)) (hm : behindInMarks op.py q = false) : PE X (.Compare p [op.py] [q] pos) (tEv X T G k W (.cmp op a b)) :=
  (pe_cmpR (opCmp ok.u65 op) ha hb hm).weak fun σ H Q ⟨ω, st, env, H0, sim, re, h⟩ => by
    simp only [ev] at h
    refine ⟨ω, st, env, H0, sim, re, step h fun d st1 v H1 ω1 e1 s1 r1 h => ⟨ω1, st1, env, H0, s1, re.ext e1, step h fun d2 st2 v2 H2 ω2 e2 s2 r2 h => ?_⟩⟩
    cases hd : cmpD op (vw st2 d) (vw st2 d2) with
    | none => rw [hd] at h; exact h.elim
    | some z =>
      rw [hd] at h
      exact cmpStep e2 s2 r1 r2 hd (Out.bl s2 (h.out rfl))

theorem chnKey {o1 o2 : Co} {e3 : E} {σ : L2.St} {H : Hp} {Q : VK} (h : tEv X T G k W (.chn o1 o2 a b e3) σ H Q) : tChain (rCmp X.K o1) (rCmp X.K o2) (tEv X T G k W a) (tEv X T G k W b) (tEv X T G k W e3) σ H Q := by
  obtain ⟨ω, st, env, H0, sim, re, h⟩ := h
  simp only [ev] at h
  refine ⟨ω, st, env, H0, sim, re, step h fun d st1 v H1 ω1 e1 s1 r1 h => ⟨ω1, st1, env, H0, s1, re.ext e1, step h fun d2 st2 v2 H2 ω2 e2 s2 r2 h => ?_⟩⟩
  cases hd : cmpD o1 (vw st2 d) (vw st2 d2) with
  | none => rw [hd] at h; exact h.elim
  | some z =>
    rw [hd] at h
    refine cmpStep e2 s2 r1 r2 hd ⟨z, rfl, ?_⟩
    cases z with
    | false => exact Out.bl s2 (h.out rfl)
    | true =>
      refine ⟨ω2, st2, env, H0, s2, (re.ext e1).ext e2, step h fun d3 st3 v3 H3 ω3 e3 s3 r3 h => ?_⟩
      cases hd : cmpD o2 (vw st3 d2) (vw st3 d3) with
      | none => rw [hd] at h; exact h.elim
      | some z =>
        rw [hd] at h
        exact cmpStep e3 s3 r2 r3 hd (Out.bl s3 (h.out rfl))
theorem peChn {o1 o2 : Co} {e3 : E} (ok : XOk X T G kw k c) (ha : PE X p (tEv X T G k W a)) (hb : PE X q (tEv X T G k W b)) (hc : PE X r (tEv X T G k W e3)) (hm : lastMarks [o1.py, o2.py] [q, r] = false) :
    PE X (.Compare p [o1.py, o2.py] [q, r] pos) (tEv X T G k W (.chn o1 o2 a b e3)) :=
  (pe_chain (opCmp ok.u65 o1) (opCmp ok.u65 o2) ha hb hc hm).weak fun σ H Q h => chnKey h
theorem isNon {K : PySem.W.Frag} {H : Hp} {ω : Wd} {v : V} {d : D} (h : Rep K H ω v d) : decide (v = .non) = decide (d = .non) := by
  cases d with
  | non => simp only [Rep] at h; subst h; rfl
  | bl b => simp only [Rep] at h; subst h; simp
  | int b => simp only [Rep] at h; subst h; simp
  | str b => simp only [Rep] at h; obtain ⟨rfl, _⟩ := h; simp
  | tup b => simp only [Rep] at h; obtain ⟨_, _, rfl, _⟩ := h; simp
  | lst b => simp only [Rep] at h; obtain ⟨_, _, rfl, _⟩ := h; simp
  | ref b => simp only [Rep] at h; obtain ⟨_, _, rfl⟩ := h; simp
  | scr b => simp only [Rep] at h; obtain ⟨_, rfl, _⟩ := h; simp
omit [HW] in
def notC : Bool → CmpOp
  | false => .Is
  | true => .IsNot
theorem pcIsN {neg : Bool} {kd p1} (ha : PE X p (tEv X T G k W a)) (hn : a.isO = false) : PE X (.Compare p [notC neg] [.Constant .none kd p1] pos) (tEv X T G k W (.isN neg a)) ∧ PT X (.Compare p [notC neg] [.Constant .none kd p1] pos) (tB (tEv X T G k W (.isN neg a))) := by
  cases neg with
  | false =>
    have key : ∀ σ H Q, tEv X T G k W (.isN false a) σ H Q → tIsN (tEv X T G k W a) σ H Q := fun σ H Q ⟨ω, st, env, H0, sim, re, h⟩ => by
      simp only [ev] at h
      refine ⟨ω, st, env, H0, sim, re, step h fun d st1 v H1 ω1 e1 s1 r1 h => ?_⟩
      rw [isNon (r1.rep hn)]
      have z := Out.bl s1 (h.out rfl)
      simpa using z
    exact ⟨(pe_cmp (pc_isN ha)).weak key, (pt_cmp (pc_isN ha)).weak fun σ H Q h => key σ H _ h⟩
  | true =>
    have key : ∀ σ H Q, tEv X T G k W (.isN true a) σ H Q → tNotN (tEv X T G k W a) σ H Q := fun σ H Q ⟨ω, st, env, H0, sim, re, h⟩ => by
      simp only [ev] at h
      refine ⟨ω, st, env, H0, sim, re, step h fun d st1 v H1 ω1 e1 s1 r1 h => ?_⟩
      rw [isNon (r1.rep hn)]
      have z := Out.bl s1 (h.out rfl)
      simpa using z
    exact ⟨(pe_cmp (pc_notN ha)).weak key, (pt_cmp (pc_notN ha)).weak fun σ H Q h => key σ H _ h⟩
omit [HW] in
def rIsB (K : PySem.W.Frag) (neg : Bool) : R2 := fun x y H Q => ∃ a b, x = .bl a ∧ y = .bl b ∧ Q (.bl (Bool.xor neg (decide (a = b)))) H
theorem opIsB (neg : Bool) : OpR X (compareOp (notC neg)) (rIsB X.K neg) := by
  cases neg with
  | false =>
    rintro pins s σ H x y v u Q I rx ry ⟨a, b, h1, h2, q⟩
    exact op_is_bl pins s σ H x y v u Q I rx ry ⟨a, b, h1, h2, by simpa using q⟩
  | true =>
    rintro pins s σ H x y v u Q I rx ry ⟨a, b, h1, h2, q⟩
    exact op_isnot_bl pins s σ H x y v u Q I rx ry ⟨a, b, h1, h2, by simpa using q⟩
theorem keyIsB {neg bb : Bool} (hn : a.isO = false) : ∀ σ H Q, tEv X T G k W (.isB neg bb a) σ H Q → tOp (rIsB X.K neg) (tEv X T G k W a) (tC (.bl bb)) σ H Q := fun σ H Q ⟨ω, st, env, H0, sim, re, h⟩ => by
  simp only [ev] at h
  refine ⟨ω, st, env, H0, sim, re, step h fun d st1 v H1 ω1 e1 s1 r1 h => ?_⟩
  have r1 := r1.rep hn
  cases d with
  | bl z =>
    simp only [Rep] at r1
    exact ⟨z, bb, r1, rfl, Out.bl s1 (h.out rfl)⟩
  | non => exact h.elim
  | int b => exact h.elim
  | str b => exact h.elim
  | tup b => exact h.elim
  | lst b => exact h.elim
  | ref b => exact h.elim
  | scr b => exact h.elim
theorem pcIsB {neg bb : Bool} {kd p1} (ha : PE X p (tEv X T G k W a)) (hn : a.isO = false) : PE X (.Compare p [notC neg] [.Constant (.bool bb) kd p1] pos) (tEv X T G k W (.isB neg bb a)) ∧ PT X (.Compare p [notC neg] [.Constant (.bool bb) kd p1] pos) (tTest (tEv X T G k W (.isB neg bb a))) := by
  have hm : ∀ b : Expr, behindInMarks (notC neg) b = false := fun b => by cases neg <;> exact nomark b
  exact ⟨(pe_cmpR (opIsB neg) ha pe_bl (hm _)).weak (keyIsB hn), (pt_cmpR (opIsB neg) ha pe_bl (hm _)).weak fun σ H Q h => keyIsB hn σ H _ h⟩

/-! ### tests -/
theorem Rep.isBl {K : PySem.W.Frag} {H : Hp} {ω : Wd} {v : V} {b : Bool} (h : Rep K H ω v (.bl b)) : v = .bl b := by simpa only [Rep] using h
/-- a test: the tree's value is a bool -/
def tT (X : Cx) (T : Nm) (G : Pg) (k : Nat) (W : WX) (e : E) : TT := fun σ H Q => tEv X T G k W e σ H fun x H1 => ∃ b, x = .bl b ∧ Q b H1
theorem keyAnd (hn : a.isO = false) (hm : b.isO = false) : ∀ σ H Q, tEv X T G k W (.and a b) σ H Q → tAndV (tEv X T G k W a) (tEv X T G k W b) σ H Q := fun σ H Q ⟨ω, st, env, H0, sim, re, h⟩ => by
  simp only [ev] at h
  refine ⟨ω, st, env, H0, sim, re, step h fun d st1 v H1 ω1 e1 s1 r1 h => ?_⟩
  have r1 := r1.rep hn
  cases d with
  | bl z =>
    refine ⟨z, r1.isBl, ?_⟩
    cases z with
    | true =>
      rw [if_pos rfl]
      refine ⟨ω1, st1, env, H0, s1, re.ext e1, step h fun d2 st2 v2 H2 ω2 e2 s2 r2 h => ?_⟩
      have r2 := r2.rep hm
      cases d2 with
      | bl z => rw [r2.isBl]; exact Out.bl s2 (h.out rfl)
      | _ => exact h.elim
    | false => rw [if_neg Bool.false_ne_true]; exact Out.bl s1 (h.out rfl)
  | _ => exact h.elim
theorem keyOr (hn : a.isO = false) (hm : b.isO = false) : ∀ σ H Q, tEv X T G k W (.or a b) σ H Q → tOrV (tEv X T G k W a) (tEv X T G k W b) σ H Q := fun σ H Q ⟨ω, st, env, H0, sim, re, h⟩ => by
  simp only [ev] at h
  refine ⟨ω, st, env, H0, sim, re, step h fun d st1 v H1 ω1 e1 s1 r1 h => ?_⟩
  have r1 := r1.rep hn
  cases d with
  | bl z =>
    refine ⟨z, r1.isBl, ?_⟩
    cases z with
    | true => rw [if_pos rfl]; exact Out.bl s1 (h.out rfl)
    | false =>
      rw [if_neg Bool.false_ne_true]
      refine ⟨ω1, st1, env, H0, s1, re.ext e1, step h fun d2 st2 v2 H2 ω2 e2 s2 r2 h => ?_⟩
      have r2 := r2.rep hm
      cases d2 with
      | bl z => rw [r2.isBl]; exact Out.bl s2 (h.out rfl)
      | _ => exact h.elim
  | _ => exact h.elim
theorem keyNot (hn : a.isO = false) : ∀ σ H Q, tEv X T G k W (.not a) σ H Q → tNotV (tEv X T G k W a) σ H Q := fun σ H Q ⟨ω, st, env, H0, sim, re, h⟩ => by
  simp only [ev] at h
  refine ⟨ω, st, env, H0, sim, re, step h fun d st1 v H1 ω1 e1 s1 r1 h => ?_⟩
  have r1 := r1.rep hn
  cases d with
  | bl z => exact ⟨z, r1.isBl, Out.bl s1 (h.out rfl)⟩
  | _ => exact h.elim
/-- the parts of a test as tests -/
theorem keyAndT (hn : a.isO = false) (hm : b.isO = false) : ∀ σ H Q, tT X T G k W (.and a b) σ H Q → tAnd (tT X T G k W a) (tT X T G k W b) σ H Q := fun σ H Q ⟨ω, st, env, H0, sim, re, h⟩ => by
  simp only [ev] at h
  refine ⟨ω, st, env, H0, sim, re, step h fun d st1 v H1 ω1 e1 s1 r1 h => ?_⟩
  have r1 := r1.rep hn
  cases d with
  | bl z =>
    refine ⟨z, r1.isBl, ?_⟩
    cases z with
    | true =>
      rw [if_pos rfl]
      refine ⟨ω1, st1, env, H0, s1, re.ext e1, step h fun d2 st2 v2 H2 ω2 e2 s2 r2 h => ?_⟩
      have r2 := r2.rep hm
      cases d2 with
      | bl z => rw [r2.isBl]; exact Out.bl s2 (h.out rfl)
      | _ => exact h.elim
    | false =>
      rw [if_neg Bool.false_ne_true]
      obtain ⟨_, e, z⟩ := Out.bl s1 (h.out rfl)
      cases e
      exact z
  | _ => exact h.elim
theorem keyOrT (hn : a.isO = false) (hm : b.isO = false) : ∀ σ H Q, tT X T G k W (.or a b) σ H Q → tOr (tT X T G k W a) (tT X T G k W b) σ H Q := fun σ H Q ⟨ω, st, env, H0, sim, re, h⟩ => by
  simp only [ev] at h
  refine ⟨ω, st, env, H0, sim, re, step h fun d st1 v H1 ω1 e1 s1 r1 h => ?_⟩
  have r1 := r1.rep hn
  cases d with
  | bl z =>
    refine ⟨z, r1.isBl, ?_⟩
    cases z with
    | true =>
      rw [if_pos rfl]
      obtain ⟨_, e, z⟩ := Out.bl s1 (h.out rfl)
      cases e
      exact z
    | false =>
      rw [if_neg Bool.false_ne_true]
      refine ⟨ω1, st1, env, H0, s1, re.ext e1, step h fun d2 st2 v2 H2 ω2 e2 s2 r2 h => ?_⟩
      have r2 := r2.rep hm
      cases d2 with
      | bl z => rw [r2.isBl]; exact Out.bl s2 (h.out rfl)
      | _ => exact h.elim
  | _ => exact h.elim
theorem keyNotT (hn : a.isO = false) : ∀ σ H Q, tT X T G k W (.not a) σ H Q → tNot (tT X T G k W a) σ H Q := fun σ H Q ⟨ω, st, env, H0, sim, re, h⟩ => by
  simp only [ev] at h
  refine ⟨ω, st, env, H0, sim, re, step h fun d st1 v H1 ω1 e1 s1 r1 h => ?_⟩
  have r1 := r1.rep hn
  cases d with
  | bl z =>
    refine ⟨z, r1.isBl, ?_⟩
    obtain ⟨_, e, z⟩ := Out.bl s1 (h.out rfl)
    cases e
    exact z
  | _ => exact h.elim
theorem keyIfe {e3 : E} (hn : e3.isO = false) (h1 : a.isO = false) (h2 : b.isO = false) : ∀ σ H Q, tEv X T G k W (.ife e3 a b) σ H Q → tIf (tT X T G k W e3) (tEv X T G k W a) (tEv X T G k W b) σ H Q := fun σ H Q ⟨ω, st, env, H0, sim, re, h⟩ => by
  simp only [ev] at h
  refine ⟨ω, st, env, H0, sim, re, step h fun d st1 v H1 ω1 e1 s1 r1 h => ?_⟩
  have r1 := r1.rep hn
  have same : ∀ {x : E} {r : R D}, x.isO = false → PostE X T W σ Q H1 ω1 (.ife e3 a b) r → PostE X T W σ Q H1 ω1 x r := fun {x r} hx q => by
    cases r with
    | ok d st => exact fun v H' ω' e s r => q v H' ω' e s (RepE.of rfl (r.rep hx))
    | ex y st => exact q
    | no => exact q
  cases d with
  | bl z =>
    refine ⟨z, r1.isBl, ?_⟩
    cases z with
    | true => rw [if_pos rfl]; exact ⟨ω1, st1, env, H0, s1, re.ext e1, same h1 h⟩
    | false => rw [if_neg Bool.false_ne_true]; exact ⟨ω1, st1, env, H0, s1, re.ext e1, same h2 h⟩
  | _ => exact h.elim
end
end Ev

set_option Elab.async false
set_option linter.all false
set_option maxRecDepth 100000
/-! Calls of defs, of built-in functions, isinstance, subscripts. -/
namespace Ev
open PySem PySem.Spec PyProof.Rows L2
variable [HW]

omit [HW] in
def nst : Expr → Bool
  | .Starred _ _ => false
  | _ => true
theorem star_cons {e : Expr} {es : List Expr} {env : PySem.Env} (h : nst e = true) : starEach (e :: es) env = (false, eval e env) :: starEach es env := by
  cases e <;> first | rfl | cases h
theorem back_any {pos : Pos} {env : PySem.Env} : ∀ {es : List Expr}, es.all nst = true → (backTo pos (starEach es env)).any (·.1) = false
  | [], _ => rfl
  | e :: es, h => by
    simp only [List.all_cons, Bool.and_eq_true] at h
    rw [star_cons h.1]
    exact back_any (es := es) h.2
section
variable {X : Cx} {T : Nm} {G : Pg} {k : Nat} {W : WX} {c : Cn} {kw : List Kw} {pos : Pos} {p q r : Expr} {a b e : E}
theorem callN_len {G : Pg} {k f : Nat} {ds : List D} {st : St} (h : callN G k f ds st ≠ .no) : ∃ d, G.defs f = some d ∧ ds.length = d.ps := by
  cases k with
  | zero => exact absurd rfl h
  | succ k =>
    simp only [callN] at h
    split at h
    · rename_i d hd
      split at h
      · rename_i hl
        exact ⟨d, hd, hl⟩
      · exact absurd rfl h
    · exact absurd rfl h
theorem PostE.notNo {σ : L2.St} {Q : VK} {H : Hp} {ω : Wd} {e : E} {x : R D} (h : PostE X T W σ Q H ω e x) : x ≠ .no := fun z => by subst z; exact h
/-- a def is run -/
theorem callStep {pins : List (Addr × Obj)} {s : Shared} {σ : L2.St} {H : Hp} {ω : Wd} {st : St} {Q : VK} {f : Nat} {g : Addr} {fd : FuncData} {us ws : List Value} {vs : List V} {ds : List D} {ks : List (Str × Value)}
    (ok : XOk X T G kw k c) (tk : Takes X W) (I : Inv X pins σ H s) (F : FnD X.prog X.w X.K X.mg X.base T G k g fd f) (hb : BindsTo s fd ⟨us, ks⟩ ((T.ps f).zip ws)) (hl : ws.length = (T.ps f).length) (r : Vals vs ws)
    (sim : Sim X.K H ω st) (rp : Reps X.K H ω vs ds) (he : e.isO = false) (h : PostE X T W σ Q H ω e (callN G k f ds st)) : wpAny (model X.prog X.w) X.A (call (.ref g) us ks) (EP X pins σ Q) X.xe s := by
  have post : PostF X.K X.mg T Q (fun c da H => W c da σ H) H ω (callN G k f ds st) := by
    cases hc : callN G k f ds st with
    | ok d st1 => rw [hc] at h; exact fun v H' ω' x s r => h v H' ω' x s (RepE.of he r)
    | ex y st1 => rw [hc] at h; exact h
    | no => rw [hc] at h; exact h
  refine wpAny_call (codeAny_mono (F X.A X.stack s H ⟨us, ks⟩ ws vs ds ω st Q _ ok.room ok.gd I.env0 hb hl r sim rp post) fun r s' hq => ?_)
  cases r with
  | error e => exact tk e s' (XE.of_call I (fun _ _ _ h => h) hq)
  | ok fl =>
    cases fl with
    | ret u => exact I.after hq
    | next => exact False.elim hq
    | brk => exact False.elim hq
    | cont => exact False.elim hq
theorem peCall {f : Nat} {x : Str} {p1 : Pos} {es : Es} {ps : List Expr} (ok : XOk X T G kw k c) (tk : Takes X W) (hs : (G.defs f).isSome = true) (hx : T.fn f = x) (hg : Gl X x) (hdb : (x == ("__debug__" : Str)) = false)
    (ha : PA X (p :: ps) (tEvs X T G k W es)) (hn : es.noO = true) (h1 : nst p = true) (h2 : ps.all nst = true) : PE X (.Call (.Name x p1) (p :: ps) [] pos) (tEv X T G k W (.call f es)) := by
  refine ⟨fun pins s σ H Q I ⟨ω, st, env, H0, sim, re, h⟩ => ?_⟩
  simp only [ev] at h
  have key := steps (es := es) (Q1 := fun vs H1 => ∃ ω1 st1 ds, Sim X.K H1 ω1 st1 ∧ Reps X.K H1 ω1 vs ds ∧ PostE X T W σ Q H1 ω1 (.call f es) (callN G k f ds st1)) h fun ds st1 vs H1 ω1 e1 s1 r1 h => ⟨ω1, st1, ds, s1, r1.reps hn, h⟩
  obtain ⟨d, hd⟩ := Option.isSome_iff_exists.mp hs
  obtain ⟨g, fd, hm, hk, F, hl, hb, _⟩ := ok.g.fn f d hd
  rw [hx] at hm
  refine wpAny_Call_Name_kw (ld_glob I hg hm ?_ hdb)
  refine PySem.W.callWith_K (h₀ := X.base) I.ok.mod.kin hk (thn (ha.run pos pins s σ H _ I ⟨ω, st, env, H0, sim, re, key⟩) fun us s1 ⟨vs, H1, I1, r, ω1, st1, ds, sim1, rp, h1⟩ => ⟨I1.kIn, ?_⟩) (star_cons h1) (back_any h2)
  obtain ⟨d', hd', hl'⟩ := callN_len h1.notNo
  rw [hd] at hd'
  cases hd'
  have hlu : us.length = (T.ps f).length := by rw [hl, ← hl', ← rp.length, r.length]
  exact callStep (e := .call f es) ok tk I1 F (hb s1 us I1.kIn hlu) hlu r sim1 rp rfl h1
theorem peCall0 {f : Nat} {x : Str} {p1 : Pos} (ok : XOk X T G kw k c) (tk : Takes X W) (hs : (G.defs f).isSome = true) (hx : T.fn f = x) (hg : Gl X x) (hdb : (x == ("__debug__" : Str)) = false) : PE X (.Call (.Name x p1) [] [] pos) (tEv X T G k W (.call f .nil)) := by
  refine ⟨fun pins s σ H Q I ⟨ω, st, env, H0, sim, re, h⟩ => ?_⟩
  simp only [ev, evs, R.bind_ok] at h
  obtain ⟨d, hd⟩ := Option.isSome_iff_exists.mp hs
  obtain ⟨g, fd, hm, hk, F, hl, hb, _⟩ := ok.g.fn f d hd
  rw [hx] at hm
  refine wpAny_Call_Name_kw (ld_glob I hg hm ?_ hdb)
  obtain ⟨d', hd', hl'⟩ := callN_len h.notNo
  rw [hd] at hd'
  cases hd'
  have hlu : ([] : List Value).length = (T.ps f).length := by rw [hl, ← hl']; rfl
  exact PySem.W.callWith_K0 I.kIn hk (callStep (e := .call f .nil) (us := []) ok tk I F (hb s [] I.kIn hlu) hlu .nil sim (by simp [Reps]) rfl h)
theorem mapM_get {α β : Type} {R : α → β → Prop} {xs : List α} {ys : List β} (hr : ∀ (i : Nat) (x : α), xs[i]? = some x → ∃ y, ys[i]? = some y ∧ R x y) : ∀ {pm : List Nat} {as : List α}, pm.mapM (fun j => xs[j]?) = some as → ∃ bs, pm.mapM (fun j => ys[j]?) = some bs ∧ Paired R as bs
  | [], as, h => by
    simp at h; subst h
    exact ⟨[], by simp, .nil⟩
  | j :: pm, as, h => by
    rw [List.mapM_cons] at h
    cases hx : xs[j]? with
    | none => rw [hx] at h; cases h
    | some x =>
      rw [hx] at h
      cases hm : pm.mapM (fun j => xs[j]?) with
      | none => rw [hm] at h; cases h
      | some as' =>
        rw [hm] at h
        cases h
        obtain ⟨y, h1, h2⟩ := hr j x hx
        obtain ⟨bs, h3, h4⟩ := mapM_get hr hm
        exact ⟨y :: bs, by rw [List.mapM_cons, h1, h3]; rfl, .cons h2 h4⟩
theorem reps_paired {K : PySem.W.Frag} {H : Hp} {ω : Wd} : ∀ {vs : List V} {ds : List D}, Paired (fun d v => Rep K H ω v d) ds vs → Reps K H ω vs ds
  | _, _, .nil => trivial
  | _, _, .cons h t => by simp only [Reps]; exact ⟨h, reps_paired t⟩
omit [HW] in
/-- keywords: their values from the left -/
def kwsOf (ks : List Str) (ps : List Expr) (ls : List Pos) : List Keyword := (ks.zip (ps.zip ls)).map fun q => ⟨some q.1, q.2.1, q.2.2⟩
theorem kw_all {env : PySem.Env} {pos : Pos} : ∀ {kws : List Keyword}, (kws.all fun q => q.arg.isSome) = true → (backToKw pos (keywordEach kws env)).all (·.1.isSome) = true
  | [], _ => rfl
  | ⟨nm, e, l⟩ :: kws, h => by
    simp only [List.all_cons, Bool.and_eq_true] at h
    show ((nm.isSome) && (backToKw pos (keywordEach kws env)).all (·.1.isSome)) = true
    rw [kw_all h.2, Bool.and_true]
    exact h.1
theorem kw_names {env : PySem.Env} {pos : Pos} : ∀ {kws : List Keyword}, (backToKw pos (keywordEach kws env)).filterMap (·.1) = kws.filterMap (·.arg)
  | [] => rfl
  | ⟨nm, e, l⟩ :: kws => by
    have ih := kw_names (env := env) (pos := pos) (kws := kws)
    cases nm with
    | none => exact ih
    | some x => exact congrArg (x :: ·) ih
theorem kw_plain {env : PySem.Env} {pos : Pos} {kws : List Keyword} (h : (kws.all fun q => q.arg.isSome) = true) : ((backTo pos (starEach [] env)).any (·.1) || (backToKw pos (keywordEach kws env)).any (·.1.isNone)) = false := by
  show (false || _) = false
  rw [Bool.false_or]
  have q := kw_all (env := env) (pos := pos) h
  rw [List.any_eq_false]
  intro x hx
  have := List.all_eq_true.mp q x hx
  cases hy : x.1 with
  | none => rw [hy] at this; cases this
  | some y => simp
/-- keywords' values as the tree's -/
theorem pkCons {ps : List Keyword} {nm : Option Str} {l : Pos} {es : Es} (hp : PE X p (tEv X T G k W e)) (hr : PK X ps (tEvs X T G k W es)) : PK X (⟨nm, p, l⟩ :: ps) (tEvs X T G k W (.cons e es)) :=
  ⟨fun pos pins s σ H Q I ⟨ω, st, env, H0, sim, re, h⟩ => (pk_cons hp hr).run pos pins s σ H Q I (by
    simp only [evs] at h
    refine ⟨ω, st, env, H0, sim, re, stepE h fun d st1 v H1 ω1 e1 s1 r1 h => ⟨ω1, st1, env, H0, s1, re.ext e1, stepEs h fun ds st2 vs H2 ω2 e2 s2 r2 h => ?_⟩⟩
    exact h _ H2 ω2 (Ext.refl H2 ω2) s2 ⟨r1.ext e2, r2⟩)⟩
theorem pkNil : PK X [] (tEvs X T G k W .nil) :=
  ⟨fun pos pins s σ H Q I ⟨ω, st, env, H0, sim, re, h⟩ => pk_nil.run pos pins s σ H Q I (by
    simp only [evs] at h
    exact h [] H ω (Ext.refl H ω) sim trivial)⟩
theorem paCons {ps : List Expr} {es : Es} (hp : PE X p (tEv X T G k W e)) (hr : PA X ps (tEvs X T G k W es)) (hs : nst p = true) : PA X (p :: ps) (tEvs X T G k W (.cons e es)) :=
  (pa_cons hp hr (star_cons hs)).weak fun σ H Q ⟨ω, st, env, H0, sim, re, h⟩ => by
    simp only [evs] at h
    refine ⟨ω, st, env, H0, sim, re, stepE h fun d st1 v H1 ω1 e1 s1 r1 h => ⟨ω1, st1, env, H0, s1, re.ext e1, stepEs h fun ds st2 vs H2 ω2 e2 s2 r2 h => ?_⟩⟩
    exact h _ H2 ω2 (Ext.refl H2 ω2) s2 ⟨r1.ext e2, r2⟩
theorem paNil : PA X [] (tEvs X T G k W .nil) :=
  pa_nil.weak fun σ H Q ⟨ω, st, env, H0, sim, re, h⟩ => by
    simp only [evs] at h
    exact h [] H ω (Ext.refl H ω) sim trivial
theorem peCallK {f : Nat} {x : Str} {p1 : Pos} {es : Es} {kws : List Keyword} {pm : List Nat} (ok : XOk X T G kw k c) (tk : Takes X W) (hs : (G.defs f).isSome = true) (hx : T.fn f = x) (hg : Gl X x) (hdb : (x == ("__debug__" : Str)) = false)
    (ha : PK X kws (tEvs X T G k W es)) (hn : es.noO = true) (hkw : (⟨f, kws.filterMap (·.arg), pm⟩ : Kw) ∈ kw) (hall : (kws.all fun q => q.arg.isSome) = true) (hel : es.len = kws.length) : PE X (.Call (.Name x p1) [] kws pos) (tEv X T G k W (.callK f es pm)) := by
  refine ⟨fun pins s σ H Q I ⟨ω, st, env, H0, sim, re, h⟩ => ?_⟩
  simp only [ev] at h
  have key := steps (es := es) (Q1 := fun vs H1 => ∃ ω1 st1 ds as, Sim X.K H1 ω1 st1 ∧ Reps X.K H1 ω1 vs ds ∧ ds.length = es.len ∧ pm.mapM (fun j => ds[j]?) = some as ∧ PostE X T W σ Q H1 ω1 (.callK f es pm) (callN G k f as st1)) h fun ds st1 vs H1 ω1 e1 s1 r1 h => by
    split at h
    · rename_i as has
      exact ⟨ω1, st1, ds, as, s1, r1.reps hn, r1.len.2, has, h⟩
    · exact h.elim
  obtain ⟨d, hd⟩ := Option.isSome_iff_exists.mp hs
  obtain ⟨g, fd, hm, hk, F, hl, _, hb⟩ := ok.g.fn f d hd
  rw [hx] at hm
  refine wpAny_Call_Name_kw (ld_glob I hg hm ?_ hdb)
  refine PySem.W.callWith_KW0 (h₀ := X.base) I.ok.mod.kin hk (kw_all hall) (thn (ha.run pos pins s σ H _ I ⟨ω, st, env, H0, sim, re, key⟩) fun us s1 ⟨vs, H1, I1, r, ω1, st1, ds, as, sim1, rp, hdl, has, h1⟩ => ⟨I1.kIn, ?_⟩) (kw_plain hall)
  rw [kw_names]
  obtain ⟨d', hd', hl'⟩ := callN_len h1.notNo
  rw [hd] at hd'
  cases hd'
  obtain ⟨bs, hbs, pb⟩ := mapM_get (R := fun d v => Rep X.K H1 ω1 v d) (fun i x hx => rp.get hx) has
  obtain ⟨zs, hzs, pz⟩ := mapM_get (R := RelV) (fun i x hx => r.get hx) hbs
  have rb := reps_paired pb
  have hlz : zs.length = (T.ps f).length := by rw [hl, ← hl', ← rb.length, pz.length]
  have hcnt : us.length = (kws.filterMap (·.arg)).length := by
    rw [← r.length, rp.length, hdl, hel]
    have : ∀ {l : List Keyword}, (l.all fun q => q.arg.isSome) = true → (l.filterMap (·.arg)).length = l.length := fun {l} => by
      induction l with
      | nil => intro _; rfl
      | cons a l ih =>
        intro hq
        simp only [List.all_cons, Bool.and_eq_true] at hq
        obtain ⟨y, hy⟩ := Option.isSome_iff_exists.mp hq.1
        rw [List.filterMap_cons, hy]
        simp [ih hq.2]
    exact (this hall).symm
  exact callStep (e := .callK f es pm) (us := []) ok tk I1 F (hb _ hkw rfl s1 us zs I1.kIn hcnt hzs) hlz pz sim1 rb rfl h1

/-! ### built-in functions -/
theorem Bi.kind (b : Bi) : (∃ id, b.py.2 = .builtin id) ∨ ∃ id, b.py.2 = .type id := by
  cases b <;> first | exact .inl ⟨_, rfl⟩ | exact .inr ⟨_, rfl⟩
theorem Bi.mem (b : Bi) : b.py.1 ∈ bnames := by cases b <;> (simp only [Bi.py, bnames]; decide +kernel)
theorem Bi.okN (b : Bi) : b.py.1 ≠ "__name__" ∧ (b.py.1 == ("__debug__" : Str)) = false := by cases b <;> (simp only [Bi.py]; decide +kernel)
theorem peBi {bi : Bi} {p1 : Pos} {es : Es} {ps : List Expr} (ok : XOk X T G kw k c) (hb : bi.plain = true) (hg : Gl X bi.py.1) (ha : PA X (p :: ps) (tEvs X T G k W es)) (h1 : nst p = true) (h2 : ps.all nst = true) :
    PE X (.Call (.Name bi.py.1 p1) (p :: ps) [] pos) (tEv X T G k W (.bi bi es)) := by
  have hm := ok.g.bt _ bi.mem
  have hc := callBi (X := X) ok.calm ok.gd ok.u100 bi hb
  have key : ∀ σ H Q, tEv X T G k W (.bi bi es) σ H Q → tCB (rBi X.K bi) (tEvs X T G k W es) σ H Q := fun σ H Q ⟨ω, st, env, H0, sim, re, h⟩ => by
    simp only [ev] at h
    refine ⟨ω, st, env, H0, sim, re, steps h fun ds st1 vs H1 ω1 e1 s1 r1 h => ?_⟩
    have hmap : biArg bi st1 = vwS st1 := by
      cases bi <;> first | rfl | cases hb
    rw [hmap] at h
    cases hd : biD bi (ds.map (vwS st1)) with
    | none => rw [hd] at h; exact h.elim
    | some z =>
      rw [hd] at h
      exact ⟨ω1, st1, _, z, s1, r1.s s1, hd, h.out rfl⟩
  rcases bi.kind with ⟨id, hid⟩ | ⟨id, hid⟩
  · rw [hid] at hc
    exact (pe_callB hc hg hm (by rw [bi.boot, hid]) ha bi.okN.1 bi.okN.2 (star_cons h1) (back_any h2)).weak key
  · rw [hid] at hc
    exact (pe_callTy hc hg hm (by rw [bi.boot, hid]) ha bi.okN.1 bi.okN.2 (star_cons h1) (back_any h2)).weak key

/-! ### isinstance -/
omit [HW] in
def Ty.py : Ty → String
  | .tint => "int"
  | .tstr => "str"
  | .tbool => "bool"
  | .ttup => "tuple"
  | .tlst => "list"
  | .tdct => "dict"
omit [HW] in
def Ty.name (t : Ty) : Str := t.py
theorem Ty.boot (t : Ty) : bootBuiltins t.name = some (.type t.py) := by cases t <;> (simp only [Ty.name, Ty.py]; decide +kernel)
theorem Ty.mem (t : Ty) : t.name ∈ bnames := by cases t <;> (simp only [Ty.name, Ty.py, bnames]; decide +kernel)
theorem Ty.okN (t : Ty) : t.name ≠ "__name__" ∧ (t.name == ("__debug__" : Str)) = false := by cases t <;> (simp only [Ty.name, Ty.py]; decide +kernel)
omit [HW] in
def tyName : D → String
  | .non => "NoneType"
  | .bl _ => "bool"
  | .int _ => "int"
  | .str _ => "str"
  | .tup _ => "tuple"
  | .lst _ => "list"
  | .ref _ => "dict"
  | .scr _ => "list"
theorem tyX {K : PySem.W.Frag} {H : Hp} {ω : Wd} {v : V} {d : D} (h : RepS K H ω v d) (hn : noRef d = true) : TyX K H v (.type (tyName d)) := by
  cases d with
  | non => have z := h.rep (fun _ q => nomatch q); simp only [Rep] at z; subst z; exact .base .non
  | bl b => have z := h.bl; subst z; exact .base (.bl b)
  | int i => have z := h.int; subst z; exact .base (.int i)
  | str x => obtain ⟨rfl, _⟩ := h.str; exact .base (.str _)
  | tup ds =>
    obtain ⟨a, vs, rfl, h1, _, _⟩ := h.tup
    rcases h1 with ⟨h1 | ⟨o, h1⟩, _⟩ | ⟨o, its, n, h1, h2, _⟩
    · exact .base (.tup h1)
    · exact .fTuple h1
    · exact .kTuple h1 h2
  | lst ds =>
    obtain ⟨a, vs, rfl, h1, _, _⟩ := h.lst
    rcases h1 with (h1 | ⟨o, h1⟩) | ⟨o, its, n, h1, h2, _⟩
    · exact .base (.lst h1)
    · exact .base (.frz h1)
    · exact .kList h1 h2
  | ref n => cases hn
  | scr n => cases hn
theorem kitD {d : D} (t : Ty) (hn : noRef d = true) : kitB (tyName d) t.py = some (tyIs t d) := by
  cases d <;> first | (cases hn; done) | (cases t <;> (simp only [tyName, Ty.py, tyIs]; decide +kernel))
omit [HW] in
def isTy (sc : Scope) (t : Ty) : Expr → Bool
  | .Name x _ => x == t.name && decide (sc.names.lookup x = some .globalImplicit)
  | _ => false
omit [HW] in
def isTys (sc : Scope) : List Ty → List Expr → Bool
  | [], [] => true
  | t :: ts, p :: ps => isTy sc t p && isTys sc ts ps
  | _, _ => false
theorem peTy {t : Ty} {sc : Scope} (ok : XOk X T G kw k c) (hsc : X.env.scope = sc) (h : isTy sc t p = true) : PE X p (tC (.ty t.py)) ∧ nst p = true := by
  cases p with
  | Name x ps =>
    simp only [isTy, Bool.and_eq_true, beq_iff_eq, decide_eq_true_eq] at h
    obtain ⟨rfl, h2⟩ := h
    exact ⟨pe_bltn (by show X.env.scope.names.lookup _ = _; rw [hsc]; exact h2) (ok.g.bt _ t.mem) t.boot rfl t.okN.1 t.okN.2, rfl⟩
  | _ => cases h
theorem paTys {sc : Scope} (ok : XOk X T G kw k c) (hsc : X.env.scope = sc) : ∀ {ts : List Ty} {ps : List Expr}, isTys sc ts ps = true → PA X ps (fun _ H Q => Q (ts.map fun t => .ty t.py) H)
  | [], [], _ => pa_nil
  | t :: ts, p :: ps, h => by
    simp only [isTys, Bool.and_eq_true] at h
    obtain ⟨h1, h2⟩ := peTy ok hsc h.1
    exact pa_cons h1 (paTys ok hsc h.2) (star_cons h2)
  | [], _ :: _, h => by cases h
  | _ :: _, [], h => by cases h
theorem keyIsi {ts : List Ty} {σ : L2.St} {H : Hp} {Q : VK} {Z : V → Hp → Prop} (hn : a.isO = false) (h : tEv X T G k W (.bi (.isin ts) (.cons a .nil)) σ H Q)
    (hr : ∀ v H1 d ω1 st1, Sim X.K H1 ω1 st1 → RepS X.K H1 ω1 v d → noRef d = true → Out X.K H1 ω1 st1 (.bl (ts.any (tyIs · d))) Q → Z v H1) : tEv X T G k W a σ H Z := by
  obtain ⟨ω, st, env, H0, sim, re, h⟩ := h
  have e : (evs (callN G k) G.gl env st (.cons a .nil)) = (ev (callN G k) G.gl env st a).bind fun d st1 => .ok [d] st1 := by simp only [evs, R.bind_ok]
  simp only [ev] at h
  rw [e] at h
  have e2 : ∀ (r : R D) (f : List D → St → R D), (r.bind fun d st1 => .ok [d] st1).bind f = r.bind fun d st1 => f [d] st1 := fun r f => by cases r <;> rfl
  rw [e2] at h
  refine ⟨ω, st, env, H0, sim, re, step h fun d st1 v H1 ω1 e1 s1 r1 h => ?_⟩
  have rs := r1.s s1
  simp only [List.map_cons, List.map_nil, biD, one, biArg] at h
  by_cases hz : noRef (vwS st1 d) = true
  · rw [if_pos hz] at h
    exact hr v H1 _ ω1 st1 s1 rs hz (h.out rfl)
  · rw [if_neg hz] at h
    exact h.elim
theorem isiName : (Bi.isin []).py.1 = "isinstance" := rfl
theorem peIsi1 {t : Ty} {sc : Scope} {p1 : Pos} (ok : XOk X T G kw k c) (hsc : X.env.scope = sc) (hg : Gl X "isinstance") (hp : PE X p (tEv X T G k W a)) (hn : a.isO = false) (h1 : nst p = true) (hq : isTy sc t q = true) :
    PE X (.Call (.Name "isinstance" p1) [p, q] [] pos) (tEv X T G k W (.bi (.isin [t]) (.cons a .nil))) := by
  obtain ⟨hq1, hq2⟩ := peTy ok hsc hq
  have hm := ok.g.bt "isinstance" (Bi.isin []).mem
  refine (pe_callB call_isi hg hm (Bi.isin []).boot (pa_cons hp (pa_cons hq1 pa_nil (star_cons hq2)) (star_cons h1)) (Bi.isin []).okN.1 (Bi.isin []).okN.2 (star_cons h1) (back_any (by simp [hq2]))).weak fun σ H Q h => ?_
  refine keyIsi hn h fun v H1 d ω1 st1 s1 rs hz o => ?_
  refine ⟨v, .ty t.py, _, _, _, rfl, .ty _, tyX rs hz, kit_ty (kitD t hz), ?_⟩
  have z := Out.bl s1 o
  simpa using z
theorem kitTys {K : PySem.W.Frag} {d : D} (hn : noRef d = true) : ∀ ts : List Ty, PySem.W.kitAny K (.type (tyName d)) (ts.map fun t => .type t.py) = some (ts.any (tyIs · d))
  | [] => kitAny_nil
  | t :: ts => by
    rw [List.map_cons, List.any_cons]
    refine kitAny_cons (kit_ty (kitD t hn)) (fun e => ?_) (fun e => ?_)
    · rw [e, Bool.false_or]; exact kitTys hn ts
    · rw [e]; rfl
theorem clsAll : ∀ ts : List Ty, Paired ClsV (ts.map fun t => V.ty t.py) (ts.map fun t => Value.type t.py)
  | [] => .nil
  | t :: ts => .cons (.ty _) (clsAll ts)
theorem TyX.keep {K : PySem.W.Frag} {H H' : Hp} {v : V} {t : Value} (hne : ∀ b o, H b = some o → H' b = some o) (e : TyX K H v t) : TyX K H' v t := by
  cases e with
  | base e =>
    cases e with
    | non => exact .base .non
    | bl => exact .base (.bl _)
    | int => exact .base (.int _)
    | str => exact .base (.str _)
    | flt => exact .base (.flt _)
    | lst e => exact .base (.lst (hne _ _ e))
    | frz e => exact .base (.frz (hne _ _ e))
    | tup e => exact .base (.tup (hne _ _ e))
    | dK e => exact .base (.dK (hne _ _ e))
    | dT e => exact .base (.dT (hne _ _ e))
    | ins e c a b d f => exact .base (.ins (hne _ _ e) c a b d f)
  | byt => exact .byt _
  | set e => exact .set (hne _ _ e)
  | kList e c => exact .kList e c
  | kTuple e c => exact .kTuple e c
  | kDict e c => exact .kDict e c
  | fTuple e => exact .fTuple (hne _ _ e)
  | fDict e => exact .fDict (hne _ _ e)
theorem peIsiT {ts : List Ty} {sc : Scope} {p1 p2 : Pos} {qs : List Expr} {kt : Nat} (ok : XOk X T G kw k c) (hsc : X.env.scope = sc) (hg : Gl X "isinstance") (hp : PE X p (tEv X T G k W a)) (hn : a.isO = false) (h1 : nst p = true) (hq : isTys sc ts qs = true) (hl : ts.length ≤ 1000) :
    PE X (.Call (.Name "isinstance" p1) [p, .Tuple qs kt p2] [] pos) (tEv X T G k W (.bi (.isin ts) (.cons a .nil))) := by
  have hm := ok.g.bt "isinstance" (Bi.isin []).mem
  refine (pe_callB call_isiT hg hm (Bi.isin []).boot (pa_cons hp (pa_cons (pe_tup (paTys ok hsc hq)) pa_nil) (star_cons h1)) (Bi.isin []).okN.1 (Bi.isin []).okN.2 (star_cons h1) rfl).weak fun σ H Q h => ?_
  refine keyIsi hn h fun v H1 d ω1 st1 s1 rs hz o => ?_
  refine ⟨by rw [List.length_map]; exact Nat.le_trans hl (by decide), fun tp htp => ?_⟩
  have x := Ext.updN (o := .tup (ts.map fun t => V.ty t.py)) s1 htp
  refine ⟨v, tp, _, .type (tyName d), _, _, rfl, upd_same, clsAll ts, ?_, kitTys hz ts, ?_⟩
  · exact TyX.keep (upd_keep htp) (tyX rs hz)
  · exact o _ _ _ x (s1.updN htp) (by simp only [Rep])

/-! ### subscripts -/
omit [HW] in
def plainIx : Expr → Bool
  | .Slice _ _ _ _ => false
  | _ => true
theorem plainIx_ok (h : plainIx q = true) : PlainIx q := by
  cases q <;> first | (intro o i; rfl) | cases h
theorem peIdx (ha : PE X p (tEv X T G k W a)) (hb : PE X q (tEv X T G k W b)) (hm : b.isO = false) (hs : plainIx q = true) : PE X (.Subscript p q pos) (tEv X T G k W (.idx a b)) :=
  (pe_ix ixD ha hb (plainIx_ok hs)).weak fun σ H Q ⟨ω, st, env, H0, sim, re, h⟩ => by
    simp only [ev] at h
    refine ⟨ω, st, env, H0, sim, re, step h fun d st1 v H1 ω1 e1 s1 r1 h => ⟨ω1, st1, env, H0, s1, re.ext e1, step h fun d2 st2 v2 H2 ω2 e2 s2 r2 h => ?_⟩⟩
    cases hd : idxD (vwS st2 d) d2 with
    | none => rw [hd] at h; exact h.elim
    | some z =>
      rw [hd] at h
      exact ⟨ω2, st2, _, _, z, s2, (r1.ext e2).s s2, r2.rep hm, hd, h.out rfl⟩
end
end Ev

set_option Elab.async false
set_option linter.all false
set_option maxRecDepth 100000
/-! Slices. -/
namespace HT
open PySem PySem.Spec PyProof.Rows PySem.W
section
variable {prog : Program} {w : World} {A : Around} {E : Value → Shared → Prop} {s : Shared}
theorem evAdjustBack (n : Nat) : Builtin.Slice.sliceAdjust none none (-1) (n : Int) = ((n : Int) - 1, -1) := by
  unfold Builtin.Slice.sliceAdjust
  simp
theorem evPlacesBack (n : Nat) : Builtin.Slice.slicePlaces ((n : Int) - 1) (-1) (-1) = n := by
  unfold Builtin.Slice.slicePlaces
  have h1 : ¬ ((-1 : Int) > 0) := by omega
  simp only [h1, if_false, show (- -1 : Int) = 1 by decide, Int.ediv_one]
  split <;> omega
theorem evFilterMap {α β : Type} {f g : α → Option β} : ∀ {l : List α}, (∀ m ∈ l, f m = g m) → l.filterMap f = l.filterMap g
  | [], _ => rfl
  | a :: l, h => by
    have ih := evFilterMap (l := l) fun m hm => h m (List.mem_cons_of_mem _ hm)
    rw [List.filterMap_cons, List.filterMap_cons, h a List.mem_cons_self, ih]
theorem evPickBack (xs : Array Value) : ((List.range xs.size).filterMap fun (m : Nat) => xs[((xs.size : Int) - 1 + (m : Int) * (-1)).toNat]?).toArray = xs.toList.reverse.toArray := by
  have e : (List.range xs.size).filterMap (fun (m : Nat) => xs[((xs.size : Int) - 1 + (m : Int) * (-1)).toNat]?) = ((List.range xs.size).map fun k => xs.size - 1 - k).filterMap (xs[·]?) := by
    rw [List.filterMap_map]
    refine evFilterMap fun m hm => ?_
    have : ((xs.size : Int) - 1 + (m : Int) * (-1)).toNat = xs.size - 1 - m := by omega
    show xs[((xs.size : Int) - 1 + (m : Int) * (-1)).toNat]? = xs[xs.size - 1 - m]?
    rw [this]
  rw [e, krv_range, List.filterMap_reverse, krv_all]
theorem evTupleBack {t sl : Addr} {items : Array Value} {tk : Tok} {Q : Value → Shared → Prop} (ht : IsTup s.heap t items) (hs : s.heap.IsSliceOf sl .none .none (.int (-1) tk))
    (h : Q (.ref s.heap.objs.size) { s with heap := s.heap.push { cls := .type "tuple", data := .seq items.toList.reverse.toArray } })
    (hsz : items.size ≤ sizeLine) : wpAny (model prog w) A (getItem (.ref t) (.ref sl)) Q E s := by
  have htake : sizeOk (.seq items.toList.reverse.toArray) := by
    show items.toList.reverse.toArray.size ≤ sizeLine
    simpa using hsz
  obtain ⟨os, hos, hcs, hds⟩ := id hs
  have hTs : s.TypeIs (.ref sl) "slice" := ⟨os, hos, hcs⟩
  unfold getItem
  try with_reducible refine wpAny_holding ?_
  first | refine wpAny_bind (wpAny_pure ?_) | skip
  refine wpAny_bind (wpAny_sequenceKey ht.typeIs (by decide) ?_)
  refine wpAny_bind (wpAny_callSpecial?_slot (name := Str.ofString "__getitem__") ht.typeIs PyProof.Rows.slot_tuple_getitem
    (wpAny_call_entry PyProof.Rows.slot_tuple_getitem ht.typeIs entry_tuple_getitem ?_ (args_tuple_getitem _ _)))
  show wpAny _ _ (Builtin.Tuple.tupleItemsOf (.ref t) >>= _) _ _ s
  refine wpAny_bind (tupleItemsOf_ ht ?_)
  refine wpAny_bind (wpAny_typeOf hTs ?_)
  rw [if_pos (by decide)]
  refine wpAny_bind ?_
  unfold Builtin.Slice.sliceApplied Builtin.Slice.sliceFields
  refine wpAny_bind (wpAny_bind (wpAny_field hos hds (x := .none) rfl (wpAny_bind (wpAny_field hos hds (x := .none) rfl (wpAny_bind (wpAny_field hos hds (x := .int (-1) tk) rfl (wpAny_pure ?_)))))))
  refine wpAny_bind (slicePart_int ?_)
  show wpAny _ _ (if ((-1 : Int) == 0) = true then _ else _) _ _ s
  rw [if_neg (by decide)]
  refine wpAny_bind (slicePart_none (wpAny_bind (slicePart_none (wpAny_bind (wpAny_pure ?_)))))
  show wpAny _ _ (match Builtin.Slice.sliceAdjust none none (-1) (items.size : Int) with | (lo, hi) => pure (lo, (-1 : Int), Builtin.Slice.slicePlaces lo hi (-1))) _ _ s
  rw [evAdjustBack]
  show wpAny _ _ (pure (((items.size : Int) - 1), (-1 : Int), Builtin.Slice.slicePlaces ((items.size : Int) - 1) (-1) (-1))) _ _ s
  rw [evPlacesBack]
  refine wpAny_pure ?_
  have hno : ¬ (((items.size : Int) - 1 == 0 && (-1 : Int) == 1 && items.size == items.size) = true) := by simp
  show wpAny _ _ (if ((items.size : Int) - 1 == 0 && (-1 : Int) == 1 && items.size == items.size) = true then _ else _) _ _ s
  rw [if_neg hno, evPickBack]
  first
    | exact wpAny_bind (m := Builtin.Tuple.tupleExact _) (wpAny_newObj_type (wpAny_pure ⟨_, rfl, wpAny_pure h⟩) htake)
    | exact wpAny_bind (m := Builtin.Tuple.tupleExact _) (wpAny_newObj_type (wpAny_bind (wpAny_pure (wpAny_pure ⟨_, rfl, wpAny_pure h⟩))) htake)
    | exact wpAny_bind (wpAny_bind (m := Builtin.Tuple.tupleExact _) (wpAny_newObj_type (wpAny_pure (wpAny_pure ⟨_, rfl, wpAny_pure h⟩)) htake))
    | exact wpAny_bind (wpAny_bind (m := Builtin.Tuple.tupleExact _) (wpAny_newObj_type (wpAny_pure ⟨_, rfl, wpAny_pure h⟩) htake))
end
end HT
namespace Ev
open PySem PySem.Spec PyProof.Rows L2
variable [HW]
section
variable {X : Cx} {T : Nm} {G : Pg} {k : Nat} {W : WX} {c : Cn} {kw : List Kw} {pos p2 : Pos} {p q r : Expr} {a b e : E}
/-! ### a[lo:hi] -/
omit [HW] in
def slcO (a : D) (lo hi : Option Int) : Option D := match a with
  | .tup xs => some (.tup (cutL xs lo hi))
  | .lst xs => some (.lst (cutL xs lo hi))
  | .str x => some (.str (cutL x lo hi))
  | _ => none
def rSlc (K : PySem.W.Frag) : V → Option Int → Option Int → Hp → VK → Prop := fun x lo hi H Q => ∃ ω st a d, Sim K H ω st ∧ RepS K H ω x a ∧ slcO a lo hi = some d ∧ Out K H ω st d Q
theorem cutL_len {α : Type} (xs : List α) (lo hi : Option Int) : (cutL xs lo hi).length ≤ xs.length := by
  unfold cutL
  rw [List.length_take, List.length_drop]
  omega
theorem Reps.cut {K : PySem.W.Frag} {H : Hp} {ω : Wd} {vs : List V} {ds : List D} (h : Reps K H ω vs ds) (lo hi : Option Int) : Reps K H ω (cutV vs lo hi) (cutL ds lo hi) := by
  unfold cutV cutL
  rw [h.length]
  exact (h.drop _).take _
theorem cut_whole {α : Type} (xs : List α) (lo hi : Option Int) (h : HT.sIx xs.length 0 lo = 0 ∧ HT.sIx xs.length xs.length hi = xs.length) : cutL xs lo hi = xs := by
  unfold cutL
  rw [h.1, h.2]
  simp
theorem slD : SlR X (rSlc X.K) := by
  rintro pins s σ H x v vl vu lo hi sl Q I rx hs pl pu ⟨ω, st, a, d, sim, ra, hd, o⟩
  unfold slcO at hd
  split at hd
  · cases hd
    obtain ⟨p, vs, rfl, h1, h2, h3⟩ := ra.tup
    refine sl_tupA pins s σ H _ v vl vu lo hi sl Q I rx hs pl pu ⟨p, vs, rfl, h1.sq, fun hw => ?_, fun _ q hq => Out.tup sim o hq (Nat.le_trans (cutL_len _ _ _) h2) (h3.cut lo hi)⟩
    rw [h3.length] at hw
    rw [cut_whole _ _ _ hw] at o
    exact o.now sim (by simp only [Rep]; exact ⟨p, vs, rfl, h1, h2, h3⟩)
  · cases hd
    obtain ⟨p, vs, rfl, h1, h2, h3⟩ := ra.lst
    exact sl_list pins s σ H _ v vl vu lo hi sl Q I rx hs pl pu ⟨p, vs, rfl, h1, fun q hq => Out.lst sim o hq (Nat.le_trans (cutL_len _ _ _) h2) (h3.cut lo hi)⟩
  · cases hd
    rename_i z
    obtain ⟨rfl, hz⟩ := ra.str
    refine sl_str pins s σ H _ v vl vu lo hi sl Q I rx hs pl pu ⟨_, rfl, by rw [toS_len]; exact hz, ?_⟩
    have e : cutS (toS z) lo hi = toS (cutL z lo hi) := by
      have hl : (toS z).length = z.length := toS_len z
      unfold cutS cutL
      rw [hl, toS_list]
      rfl
    rw [e]
    exact Out.str sim o (Nat.le_trans (cutL_len _ _ _) hz)
  · cases hd
omit [HW] in
/-- a part: left out, or an expression -/
def tPart2 (t : TE) : TO := fun σ H Q => t σ H fun x H1 => ∃ o, (x = .non ∧ o = none ∨ ∃ i, x = .int i ∧ o = some i) ∧ Q o H1
theorem po_some2 {te : TE} {e' : Expr} (h : PE X e' te) : PO X (some e') (tPart2 te) := by
  refine ⟨fun pins s σ H Q I hw => ?_⟩
  rw [evalPart_some]
  refine thn (h.run pins s σ H _ I hw) fun u s1 ⟨x, H1, I1, r1, o, hx, q1⟩ => ?_
  rcases hx with ⟨rfl, rfl⟩ | ⟨i, rfl, rfl⟩
  · cases r1
    exact ⟨none, H1, I1, .none, q1⟩
  · obtain ⟨t, rfl⟩ := r1
    exact ⟨some i, H1, I1, .int i t, q1⟩
theorem po_none2 : PO X none (tPart2 (tEv X T G k W (.cst .non))) := by
  refine ⟨fun pins s σ H Q I hw => po_none.run pins s σ H Q I ?_⟩
  obtain ⟨ω, st, env, H0, sim, re, h⟩ := hw
  obtain ⟨o, hx, q⟩ := h .non H ω (Ext.refl H ω) sim (RepE.of rfl (by simp only [Rep]))
  rcases hx with ⟨_, rfl⟩ | ⟨i, hx, _⟩
  · exact q
  · cases hx
theorem peSlc {lo hi : Option Expr} {l h : E} (ha : PE X p (tEv X T G k W a)) (hl : PO X lo (tPart2 (tEv X T G k W l))) (hh : PO X hi (tPart2 (tEv X T G k W h))) (nl : l.isO = false) (nh : h.isO = false) : PE X (.Subscript p (.Slice lo hi none p2) pos) (tEv X T G k W (.slc a l h)) :=
  (pe_slice slD ha hl hh).weak fun σ H Q ⟨ω, st, env, H0, sim, re, hz⟩ => by
    simp only [ev] at hz
    refine ⟨ω, st, env, H0, sim, re, step hz fun d st1 v H1 ω1 e1 s1 r1 hz => ⟨ω1, st1, env, H0, s1, re.ext e1, step hz fun d2 st2 v2 H2 ω2 e2 s2 r2 hz => ?_⟩⟩
    have part : ∀ {d : D} {v : V} {H : Hp} {ω : Wd}, Rep X.K H ω v d → ∀ o, bndD d = some o → (v = .non ∧ o = none ∨ ∃ i, v = .int i ∧ o = some i) := fun {d v H ω} r o e => by
      cases d with
      | non => simp only [Rep] at r; cases e; exact .inl ⟨r, rfl⟩
      | int i => simp only [Rep] at r; cases e; exact .inr ⟨i, r, rfl⟩
      | _ => cases e
    cases hb2 : bndD d2 with
    | none => rw [hb2] at hz; exact hz.elim
    | some o2 =>
      rw [hb2] at hz
      refine ⟨o2, part (r2.rep nl) o2 hb2, ⟨ω2, st2, env, H0, s2, (re.ext e1).ext e2, step hz fun d3 st3 v3 H3 ω3 e3 s3 r3 hz => ?_⟩⟩
      cases hb3 : bndD d3 with
      | none => simp only [slcD, hb2, hb3] at hz; exact hz.elim
      | some o3 =>
        refine ⟨o3, part (r3.rep nh) o3 hb3, ?_⟩
        have e : slcD (vwS st3 d) d2 d3 = slcO (vwS st3 d) o2 o3 := by
          unfold slcD slcO
          (rw [hb2, hb3]) <;> (cases vwS st3 d <;> rfl)
        rw [e] at hz
        cases hd : slcO (vwS st3 d) o2 o3 with
        | none => rw [hd] at hz; exact hz.elim
        | some z =>
          rw [hd] at hz
          exact ⟨ω3, st3, _, z, s3, ((r1.ext e2).ext e3).s s3, hd, hz.out rfl⟩
/-! ### a[::-1] -/
omit [HW] in
def rRev (K : PySem.W.Frag) (te : TE) : TE := fun σ H Q => te σ H fun x H1 => ∃ a xs, x = .ref a ∧ ((SqL K H1 a xs ∧ ∀ p, H1 p = none → Q (.ref p) (upd H1 p (.lst xs.reverse))) ∨ (SqT K H1 a xs ∧ ∀ p, H1 p = none → Q (.ref p) (upd H1 p (.tup xs.reverse))))
theorem pe_rev2 {t : TE} {kk : Nat} {p1 p2 p3 pos : Pos} (he : PE X p t) : PE X (.Subscript p (.Slice none none (some (.UnaryOp .USub (.Constant (.int 1) kk p1) p2)) p3) pos) (rRev X.K t) := by
  refine ⟨fun pins s σ H Q I h => ?_⟩
  refine Subscript_ (thn (he.run pins s σ H _ I h) fun v s1 ⟨x, H1, I1, r1, a, xs, ex, hx⟩ => ?_)
  subst ex
  cases r1
  have hst : PO X (some (.UnaryOp .USub (.Constant (.int 1) kk p1) p2)) (tPart (tUn (rU fun i => .int (-i)) (tC (.int 1)))) := po_some (pe_un un_neg pe_int)
  refine wpAny_Slice (thn (po_none.run pins s1 σ H1 (fun o H2 => o = none ∧ H2 = H1) I1 ⟨rfl, rfl⟩) fun vl s2 ⟨l, H2, I2, pl, el, e2⟩ => ?_)
  obtain rfl := el
  obtain rfl := e2
  refine thn (po_none.run pins s2 σ H2 (fun o H3 => o = none ∧ H3 = H2) I2 ⟨rfl, rfl⟩) fun vu s3 ⟨u, H3, I3, pu, eu, e3⟩ => ?_
  obtain rfl := eu
  obtain rfl := e3
  refine thn (hst.run pins s3 σ H3 (fun o H4 => o = some (-1) ∧ H4 = H3) I3 ⟨1, rfl, -1, rfl, rfl, rfl⟩) fun vs s4 ⟨o, H4, I4, ps, eo, e4⟩ => ?_
  obtain rfl := eo
  obtain rfl := e4
  have I5 : Inv X pins σ H4 { s4 with heap := s4.heap.push { cls := .type "slice", data := .fields #[vl, vu, vs] } } := I4.kept (t' := s4.toks) fun b ob q => Heap.get?_push_of_some _ q
  rcases hx with ⟨hx, q⟩ | ⟨hx, q⟩
  · obtain ⟨its, r, ht, hz⟩ := I5.list hx
    have hlen := r.length
    show wpAny (model X.prog X.w) X.A (subscriptTail p _ (.ref a) (.ref s4.heap.objs.size)) (EP X pins σ Q) X.xe _
    refine tail_any (ops := [.ref a, .ref s4.heap.objs.size]) ht.isList.typeIs (PySem.slot_list_getitem.lookup) ?_ (by with_unfolding_all rfl)
    refine wpAny_getItem_list_slice ht.isList (Heap.IsSliceOf.new _ vl vu vs) pl pu ps (by decide) ?_ (by rw [List.size_toArray]; omega)
    rw [PySem.W.krv_pick]
    exact ⟨.ref _, _, I5.laid (t' := s4.toks) (o := .lst xs.reverse) (fun b ob q => Heap.get?_push_of_some _ q) (Nat.le_refl _) ⟨by rw [List.length_reverse]; exact hz, _, 0, r.reverse, Heap.get?_push_size _ rfl⟩, rfl, q _ (I5.hok.fresh (Nat.le_refl _))⟩
  · obtain ⟨its, r, ht, hz⟩ := I5.tuple hx
    have hlen := r.length
    cases pl
    cases pu
    cases ps
    rename_i tk
    show wpAny (model X.prog X.w) X.A (subscriptTail p _ (.ref a) (.ref s4.heap.objs.size)) (EP X pins σ Q) X.xe _
    refine tail_any (ops := [.ref a, .ref s4.heap.objs.size]) ht.typeIs (PyProof.Rows.slot_tuple_getitem.lookup) ?_ (by with_unfolding_all rfl)
    refine HT.evTupleBack ht (Heap.IsSliceOf.new _ _ _ _) ?_ (by rw [List.size_toArray]; omega)
    exact ⟨.ref _, _, I5.laid (t' := s4.toks) (o := .tup xs.reverse) (fun b ob q => Heap.get?_push_of_some _ q) (Nat.le_refl _) ⟨by rw [List.length_reverse]; exact hz, _, r.reverse, IsTup.new _ _⟩, rfl, q _ (I5.hok.fresh (Nat.le_refl _))⟩
theorem peRev {kk : Nat} {p1 p2 p3 pos : Pos} (ha : PE X p (tEv X T G k W a)) : PE X (.Subscript p (.Slice none none (some (.UnaryOp .USub (.Constant (.int 1) kk p1) p2)) p3) pos) (tEv X T G k W (.rev a)) :=
  (pe_rev2 ha).weak fun σ H Q ⟨ω, st, env, H0, sim, re, h⟩ => by
    simp only [ev] at h
    refine ⟨ω, st, env, H0, sim, re, step h fun d st1 v H1 ω1 e1 s1 r1 h => ?_⟩
    have rs := r1.s s1
    cases hd : vwS st1 d with
    | tup xs =>
      rw [hd] at h rs
      obtain ⟨p, vs, rfl, h1, h2, h3⟩ := rs.tup
      exact ⟨p, vs, rfl, .inr ⟨h1.sq, fun q hq => Out.tup s1 (h.out rfl) hq (by rw [List.length_reverse]; exact h2) h3.reverse⟩⟩
    | lst xs =>
      rw [hd] at h rs
      obtain ⟨p, vs, rfl, h1, h2, h3⟩ := rs.lst
      exact ⟨p, vs, rfl, .inl ⟨h1, fun q hq => Out.lst s1 (h.out rfl) hq (by rw [List.length_reverse]; exact h2) h3.reverse⟩⟩
    | _ => rw [hd] at h; exact h.elim
end
end Ev

set_option Elab.async false
set_option linter.all false
set_option maxRecDepth 100000
/-! Dicts whose keys are ints and texts. -/
namespace Ev
open PySem PySem.Spec PyProof.Rows L2
variable [HW]
section
variable {X : Cx} {T : Nm} {G : Pg} {k : Nat} {W : WX} {c : Cn} {kw : List Kw} {pos p1 p2 : Pos} {p q r : Expr} {a b e : E}
theorem RepK.put {K : PySem.W.Frag} {H : Hp} {ω : Wd} {v : V} {d : D} (r : Rep K H ω v d) (x : Key) : ∀ {ps : List (Key × V)} {qs : List (Key × D)}, RepK K H ω ps qs → RepK K H ω (putK ps x v) (putD qs x d) := by
  have any : ∀ {ps : List (Key × V)} {qs : List (Key × D)}, RepK K H ω ps qs → (ps.any fun kv => decide (kv.1 = x)) = (qs.any fun kv => decide (kv.1 = x)) := by
    intro ps qs
    induction ps generalizing qs with
    | nil =>
      intro h
      cases qs with
      | nil => rfl
      | cons q qs => exact h.elim
    | cons p ps ih =>
      intro h
      cases qs with
      | nil => exact h.elim
      | cons q qs =>
        simp only [RepK] at h
        rw [List.any_cons, List.any_cons, ih h.2, h.1.1]
  have mp : ∀ {ps : List (Key × V)} {qs : List (Key × D)}, RepK K H ω ps qs → RepK K H ω (ps.map (fun kv => if kv.1 = x then (kv.1, v) else kv)) (qs.map (fun kv => if kv.1 = x then (kv.1, d) else kv)) := by
    intro ps qs
    induction ps generalizing qs with
    | nil =>
      intro h
      cases qs with
      | nil => trivial
      | cons q qs => exact h.elim
    | cons p ps ih =>
      intro h
      cases qs with
      | nil => exact h.elim
      | cons q qs =>
        simp only [RepK, List.map_cons] at h ⊢
        refine ⟨?_, ih h.2⟩
        by_cases e : q.1 = x
        · rw [if_pos e, if_pos (h.1.1.trans e)]
          exact ⟨h.1.1, r⟩
        · rw [if_neg e, if_neg (by rw [h.1.1]; exact e)]
          exact h.1
  have ap : ∀ {ps : List (Key × V)} {qs : List (Key × D)}, RepK K H ω ps qs → RepK K H ω (ps ++ [(x, v)]) (qs ++ [(x, d)]) := by
    intro ps qs
    induction ps generalizing qs with
    | nil =>
      intro h
      cases qs with
      | nil => simp only [List.nil_append, RepK]; exact ⟨⟨trivial, r⟩, trivial⟩
      | cons q qs => exact h.elim
    | cons p ps ih =>
      intro h
      cases qs with
      | nil => exact h.elim
      | cons q qs =>
        simp only [RepK, List.cons_append] at h ⊢
        exact ⟨h.1, ih h.2⟩
  intro ps qs h
  unfold putK putD
  rw [any h]
  split
  · exact mp h
  · exact ap h
theorem RepK.merge {K : PySem.W.Frag} {H : Hp} {ω : Wd} : ∀ {more : List (Key × V)} {moreD : List (Key × D)} {ps : List (Key × V)} {qs : List (Key × D)}, RepK K H ω more moreD → RepK K H ω ps qs → RepK K H ω (mergeK ps more) (mergeD qs moreD)
  | [], [], _, _, _, h => h
  | p :: more, q :: moreD, ps, qs, h, h2 => by
    simp only [RepK] at h
    have z := RepK.put h.1.2 q.1 h2
    unfold mergeK mergeD
    rw [List.foldl_cons, List.foldl_cons]
    rw [h.1.1]
    exact RepK.merge h.2 z
  | [], _ :: _, _, _, h, _ => h.elim
  | _ :: _, [], _, _, h, _ => h.elim
theorem RepK.len {K : PySem.W.Frag} {H : Hp} {ω : Wd} : ∀ {ps : List (Key × V)} {qs : List (Key × D)}, RepK K H ω ps qs → ps.length = qs.length ∧ ps.map (·.1) = qs.map (·.1)
  | [], [], _ => ⟨rfl, rfl⟩
  | p :: ps, q :: qs, h => by
    simp only [RepK] at h
    obtain ⟨h1, h2⟩ := RepK.len h.2
    exact ⟨by simp [h1], by simp [h2, h.1.1]⟩
  | [], _ :: _, h => h.elim
  | _ :: _, [], h => h.elim
/-- a list of pairs -/
theorem pairs_rep {K : PySem.W.Frag} {H : Hp} {ω : Wd} : ∀ {ds : List D} {kvs : List (Key × D)} {vs : List V}, pairsD ds = some kvs → Reps K H ω vs ds → ∃ (ps : List Addr) (vks : List (Key × V)), vs = ps.map V.ref ∧ Paired (fun p kv => SqT K H p [kV kv.1, kv.2]) ps vks ∧ RepK K H ω vks kvs
  | [], kvs, vs, h, r => by
    simp [pairsD] at h
    subst h
    cases vs with
    | nil => exact ⟨[], [], rfl, .nil, trivial⟩
    | cons v vs => exact r.elim
  | d :: ds, kvs, vs, h, r => by
    cases vs with
    | nil => exact r.elim
    | cons v vs =>
      simp only [Reps] at r
      unfold pairsD at h
      split at h
      · rename_i heq; cases heq
      · rename_i kk v' ps heq
        cases heq
        split at h
        · rename_i k' rest hk hr
          cases h
          obtain ⟨ps', vks, h1, h2, h3⟩ := pairs_rep hr r.2
          have r1 := r.1
          simp only [Rep] at r1
          obtain ⟨a, us, rfl, ht, hl, hu⟩ := r1
          match us, hu with
          | [x, y], hu =>
            simp only [Reps] at hu
            obtain ⟨hx, hy, _⟩ := hu
            have ex : x = kV k' := by
              cases kk with
              | int i => simp only [dKey, Option.some.injEq] at hk; subst hk; simp only [Rep] at hx; rw [hx]; rfl
              | str z => simp only [dKey, Option.some.injEq] at hk; subst hk; simp only [Rep] at hx; rw [hx.1]; rfl
              | _ => cases hk
            subst ex
            exact ⟨a :: ps', (k', y) :: vks, by rw [h1]; rfl, .cons ht.sq h2, by simp only [RepK]; exact ⟨⟨trivial, hy⟩, h3⟩⟩
          | [], hu => exact hu.elim
          | [x], hu => simp only [Reps] at hu; exact hu.2.elim
          | x :: y :: z :: us, hu => simp only [Reps] at hu; exact hu.2.2.elim
        · cases h
      · cases h
theorem peDct (ok : XOk X T G kw k c) (hg : Gl X "dict") (hp : PE X p (tEv X T G k W e)) (hn : e.isO = false) (h1 : nst p = true) : PE X (.Call (.Name "dict" p1) [p] [] pos) (tEv X T G k W (.dctC e)) := by
  refine (pe_callTy (call_dictP ok.calm) hg (ok.g.bt "dict" (by decide +kernel)) (show bootBuiltins "dict" = some (.type "dict") from Ty.boot .tdct) (pa_cons hp pa_nil (star_cons h1)) (Ty.okN .tdct).1 (Ty.okN .tdct).2 (star_cons h1) rfl).weak fun σ H Q ⟨ω, st, env, H0, sim, re, h⟩ => ?_
  simp only [ev] at h
  refine ⟨ω, st, env, H0, sim, re, step h fun d st1 v H1 ω1 e1 s1 r1 h => ?_⟩
  have r1 := r1.rep hn
  cases d with
  | lst ds =>
    simp only [Rep] at r1
    obtain ⟨p, vs, rfl, h1, h2, h3⟩ := r1
    cases hd : pairsD ds with
    | none => simp only [hd] at h; exact h.elim
    | some kvs =>
      simp only [hd] at h
      obtain ⟨ps, vks, rfl, hpp, hk⟩ := pairs_rep hd h3
      refine ⟨p, ps, vks, rfl, h1.sq, hpp, fun q hq => ?_⟩
      have x := Ext.cell (o := .dK (mergeK [] vks)) s1 hq
      refine h (.ref q) _ _ x (s1.cell_new hq ⟨_, upd_same, (RepK.merge hk (show RepK X.K H1 ω1 [] [] from trivial)).ext x⟩) (RepE.of rfl ?_)
      simp only [Rep]
      exact ⟨q, by show (ω1.φ ++ [q])[st1.length]? = some q; rw [← s1.len, List.getElem?_append_right (Nat.le_refl _)]; simp, rfl⟩
  | _ => exact h.elim

/-! ### sorted(dict) -/
theorem sortInts {ys ks : List Int} (h : ys.Perm ks) (hs : ys.Pairwise (· ≤ ·)) : ys = ks.mergeSort fun i j => decide (i ≤ j) := by
  have h2 := List.pairwise_mergeSort (le := fun i j : Int => decide (i ≤ j)) (fun a b c h1 h2 => by simp at *; omega) (fun a b => by simp; omega) ks
  refine List.Perm.eq_of_pairwise (le := fun a b : Int => a ≤ b) (fun a b _ _ h1 h2 => by omega) hs (h2.imp fun h => by simpa using h) (h.trans (List.mergeSort_perm ks _).symm)
theorem leS_iff {x y : List Nat} : leS x y = true ↔ x ≤ y := by
  unfold leS
  simp [List.not_lt]
theorem rising_pair : ∀ {ys : List Str} {y : Str}, risingS y ys = true → (∀ z ∈ ys, y.cps.toList ≤ z.cps.toList) ∧ ys.Pairwise (fun a b => a.cps.toList ≤ b.cps.toList)
  | [], y, _ => ⟨by simp, .nil⟩
  | x :: r, y, h => by
    simp only [risingS, Bool.and_eq_true, Bool.not_eq_true'] at h
    obtain ⟨h1, h2⟩ := h
    rw [ltCps_eq] at h1
    have h1 : y.cps.toList ≤ x.cps.toList := List.not_lt.mp (by simpa using h1)
    obtain ⟨h3, h4⟩ := rising_pair h2
    refine ⟨fun z hz => ?_, .cons h3 h4⟩
    rcases List.mem_cons.mp hz with rfl | hz
    · exact h1
    · exact List.le_trans h1 (h3 z hz)
theorem sortStrs {ys ks : List Str} {zs : List (List Nat)} (hz : ks = zs.map toS) (h : ys.Perm ks) (hs : sortedS ys = true) : ys = (zs.mergeSort leS).map toS := by
  subst hz
  have hp : ys.Pairwise (fun a b => a.cps.toList ≤ b.cps.toList) := by
    cases ys with
    | nil => exact .nil
    | cons y ys =>
      obtain ⟨h1, h2⟩ := rising_pair (show risingS y ys = true from hs)
      exact .cons h1 h2
  have h2 := List.pairwise_mergeSort (le := leS) (fun a b c h1 h2 => by rw [leS_iff] at *; exact List.le_trans h1 h2) (fun a b => by rw [Bool.or_eq_true, leS_iff, leS_iff]; exact List.le_total a b) zs
  refine List.Perm.eq_of_pairwise (le := fun a b : Str => a.cps.toList ≤ b.cps.toList) (fun a b _ _ h1 h2 => ?_) hp ?_ (h.trans ((List.mergeSort_perm zs leS).symm.map toS))
  · have := List.le_antisymm h1 h2
    rw [← toS_of a, ← toS_of b, this]
  · rw [List.pairwise_map]
    exact h2.imp fun h => by rw [leS_iff] at h; simpa [toS] using h
theorem strs_eq : ∀ {xs : List D} {bs : List (List Nat)}, strsOf xs = some bs → xs = bs.map .str
  | [], bs, h => by simp [strsOf] at h; subst h; rfl
  | .str b :: xs, bs, h => by
    simp only [strsOf] at h
    cases e : strsOf xs with
    | none => rw [e] at h; cases h
    | some cs => rw [e] at h; cases h; rw [strs_eq e]; rfl
  | .non :: _, _, h => by simp [strsOf] at h
  | .bl _ :: _, _, h => by simp [strsOf] at h
  | .int _ :: _, _, h => by simp [strsOf] at h
  | .tup _ :: _, _, h => by simp [strsOf] at h
  | .lst _ :: _, _, h => by simp [strsOf] at h
  | .ref _ :: _, _, h => by simp [strsOf] at h
  | .scr _ :: _, _, h => by simp [strsOf] at h
theorem keyD_ints : ∀ {kvs : List (Key × V)} {ns : List Int} {qs : List (Key × D)}, kvs.map (·.1) = qs.map (·.1) → (qs.map fun p => keyD p.1) = ns.map D.int → kvs.map (·.1) = ns.map Sum.inl
  | kvs, ns, qs, h, h2 => by
    rw [h]
    clear h
    induction qs generalizing ns with
    | nil => cases ns with
      | nil => rfl
      | cons n ns => cases h2
    | cons q qs ih =>
      cases ns with
      | nil => cases h2
      | cons n ns =>
        simp only [List.map_cons, List.cons.injEq] at h2 ⊢
        refine ⟨?_, ih _ h2.2⟩
        have z := h2.1
        cases hq : q.1 with
        | inl i => rw [hq] at z; simp only [keyD, D.int.injEq] at z; rw [z]
        | inr i => rw [hq] at z; cases z
theorem keyD_strs : ∀ {kvs : List (Key × V)} {ns : List (List Nat)} {qs : List (Key × D)}, kvs.map (·.1) = qs.map (·.1) → (qs.map fun p => keyD p.1) = ns.map D.str → kvs.map (·.1) = (ns.map toS).map Sum.inr
  | kvs, ns, qs, h, h2 => by
    rw [h]
    clear h
    induction qs generalizing ns with
    | nil => cases ns with
      | nil => rfl
      | cons n ns => cases h2
    | cons q qs ih =>
      cases ns with
      | nil => cases h2
      | cons n ns =>
        simp only [List.map_cons, List.cons.injEq] at h2 ⊢
        refine ⟨?_, ih _ h2.2⟩
        have z := h2.1
        cases hq : q.1 with
        | inr i => rw [hq] at z; simp only [keyD, D.str.injEq] at z; rw [← z, toS_of]
        | inl i => rw [hq] at z; cases z
theorem peSrtD (ok : XOk X T G kw k c) (hg : Gl X "sorted") (hp : PE X p (tEv X T G k W e)) (hn : e.isO = false) (h1 : nst p = true) : PE X (.Call (.Name "sorted" p1) [p] [] pos) (tEv X T G k W (.bi .sortedD (.cons e .nil))) := by
  have hc : CallR X (.builtin "sorted") (fun xs H Q => (∃ (a : Addr) (kvs : List (Key × V)) (ks : List Int), xs = [.ref a] ∧ Rd H a (.dK kvs) ∧ kvs.map (·.1) = ks.map Sum.inl ∧ ks.length < 64 ∧
      ∀ (ys : List Int) (p : Addr), ys.Perm ks → ys.Pairwise (· ≤ ·) → H p = none → Q (.ref p) (upd H p (.lst (ys.map V.int)))) ∨ (∃ (a : Addr) (kvs : List (Key × V)) (ks : List Str), xs = [.ref a] ∧ Rd H a (.dK kvs) ∧ kvs.map (·.1) = ks.map Sum.inr ∧ ks.length < 64 ∧
      ∀ ys p, ys.Perm ks → sortedS ys = true → H p = none → Q (.ref p) (upd H p (.lst (ys.map V.str))))) := by
    intro pins s σ H xs us Q I r q
    rcases q with q | q
    · exact call_sortedDI ok.calm pins s σ H xs us Q I r q
    · exact call_sortedD ok.calm pins s σ H xs us Q I r q
  refine (pe_callB hc hg (ok.g.bt "sorted" (by decide +kernel)) (show bootBuiltins "sorted" = some (.builtin "sorted") from Bi.boot .sorted) (pa_cons hp pa_nil (star_cons h1)) (Bi.okN .sorted).1 (Bi.okN .sorted).2 (star_cons h1) rfl).weak fun σ H Q ⟨ω, st, env, H0, sim, re, h⟩ => ?_
  have e1 : (evs (callN G k) G.gl env st (.cons e .nil)) = (ev (callN G k) G.gl env st e).bind fun d st1 => .ok [d] st1 := by simp only [evs, R.bind_ok]
  simp only [ev] at h
  rw [e1] at h
  have e2 : ∀ (r : R D) (f : List D → St → R D), (r.bind fun d st1 => .ok [d] st1).bind f = r.bind fun d st1 => f [d] st1 := fun r f => by cases r <;> rfl
  rw [e2] at h
  refine ⟨ω, st, env, H0, sim, re, step h fun d st1 v H1 ω1 e1 s1 r1 h => ?_⟩
  have r1 := r1.rep hn
  simp only [List.map_cons, List.map_nil, biD, one, biArg] at h
  cases d with
  | ref n =>
    simp only [Rep] at r1
    obtain ⟨a, ha, rfl⟩ := r1
    obtain ⟨cc, hcc⟩ := s1.has ha
    obtain ⟨a', ha', hcell⟩ := s1.cell n cc hcc
    rw [ha] at ha'
    cases ha'
    simp only [vwK, hcc] at h
    cases cc with
    | lst xs => exact h.elim
    | dcn xs => exact h.elim
    | dct qs =>
      obtain ⟨ps, hps, hk⟩ := hcell
      simp only [lstD, Option.bind_some, sortK] at h
      split at h
      · rename_i h64
        split at h
        · rename_i ns hns
          have hi := keyD_ints hk.len.2 (ints_eq hns)
          refine .inl ⟨a, ps, ns, rfl, .inl hps, hi, ?_, fun ys p hpm hss hp => ?_⟩
          · have := congrArg List.length (ints_eq hns)
            simp at this h64
            omega
          · rw [sortInts hpm hss]
            refine Out.lst s1 (h.out rfl) hp ?_ ?_
            · have := congrArg List.length (ints_eq hns)
              simp at this h64 ⊢
              exact Nat.le_trans (show ns.length ≤ 64 by omega) (by decide)
            · have : ∀ l : List Int, Reps X.K H1 ω1 (l.map V.int) (l.map D.int) := fun l => by
                induction l with
                | nil => trivial
                | cons n l ih => simp only [List.map_cons, Reps, Rep]; exact ⟨trivial, ih⟩
              exact this _
        · cases hz : strsOf (qs.map fun p => keyD p.1) with
          | none => rw [hz] at h; exact h.elim
          | some zs =>
            rw [hz] at h
            simp only [Option.bind_some] at h
            have hi := keyD_strs hk.len.2 (strs_eq hz)
            have hll : zs.length < 64 := by
              have := congrArg List.length (strs_eq hz)
              simp at this h64
              omega
            by_cases hs : (zs.all fun z => decide (z.length ≤ sizeLine)) = true
            · rw [if_pos hs] at h
              refine .inr ⟨a, ps, zs.map toS, rfl, .inl hps, hi, by simpa using hll, fun ys p hpm hss hp => ?_⟩
              rw [sortStrs rfl hpm hss]
              have : ∀ l : List (List Nat), (∀ z ∈ l, z.length ≤ sizeLine) → Reps X.K H1 ω1 ((l.map toS).map V.str) (l.map D.str) := fun l => by
                induction l with
                | nil => intro _; trivial
                | cons n l ih =>
                  intro hq
                  simp only [List.map_cons, Reps, Rep]
                  exact ⟨⟨trivial, hq n List.mem_cons_self⟩, ih fun z hz => hq z (List.mem_cons_of_mem _ hz)⟩
              refine Out.lst s1 (h.out rfl) hp ?_ (this _ fun z hz => ?_)
              · simp only [List.length_map, List.length_mergeSort]
                exact Nat.le_trans (show zs.length ≤ 64 by omega) (by decide)
              · have hm := (List.mergeSort_perm zs leS).mem_iff.mp hz
                have := List.all_eq_true.mp hs z hm
                simpa using this
            · rw [if_neg hs] at h
              exact h.elim
      · exact h.elim
  | non => exact h.elim
  | bl _ => exact h.elim
  | int _ => exact h.elim
  | str _ => exact h.elim
  | tup _ => exact h.elim
  | lst xs => exact h.elim
  | scr _ => exact h.elim
/-! ### list(range(e)) -/
theorem rgV_rep {K : PySem.W.Frag} {H : Hp} {ω : Wd} (j : Int) : Reps K H ω (rgV 0 j) (rangeL 0 j.toNat) := by
  have : ∀ l : List Nat, Reps K H ω (l.map fun (i : Nat) => V.int (0 + (i : Nat))) (l.map fun (i : Nat) => D.int (0 + i)) := fun l => by
    induction l with
    | nil => trivial
    | cons n l ih => simp only [List.map_cons, Reps, Rep]; exact ⟨trivial, ih⟩
  have e : (j - 0).toNat = j.toNat := by simp
  unfold rgV rangeL
  rw [e]
  exact this _
theorem peLrg {p2 p3 : Pos} (ok : XOk X T G kw k c) (hg : Gl X "list") (hg2 : Gl X "range") (hp : PE X p (tEv X T G k W e)) (hn : e.isO = false) (h1 : nst p = true) : PE X (.Call (.Name "list" p1) [.Call (.Name "range" p2) [p] [] p3] [] pos) (tEv X T G k W (.lrg e)) := by
  have hr := prg_1 (X := X) (p := p2) (pos := p3) hg2 (ok.g.bt "range" (by decide +kernel)) hp (star_cons h1)
  refine (pe_listRg ok.calm hg (ok.g.bt "list" (by decide +kernel)) hr rfl).weak fun σ H Q ⟨ω, st, env, H0, sim, re, h⟩ => ?_
  simp only [ev] at h
  refine ⟨ω, st, env, H0, sim, re, step h fun d st1 v H1 ω1 e1 s1 r1 h => ?_⟩
  have r1 := r1.rep hn
  cases d with
  | int j =>
    simp only at h
    split at h
    · rename_i hj
      simp only [okRange, Bool.and_eq_true, decide_eq_true_eq] at hj
      obtain ⟨⟨q1, q2⟩, q3⟩ := hj
      simp only [Rep] at r1
      subst r1
      have e : (rangeL 0 j.toNat).length = j.toNat := by simp [rangeL]
      exact ⟨j, rfl, ⟨by decide, by decide, q1, q2, by simpa using q3⟩, fun q hq => Out.lst s1 (h.out rfl) hq (by rw [e, sizeLine_eq]; omega) (rgV_rep j)⟩
    · exact h.elim
  | _ => exact h.elim
end
end Ev

set_option Elab.async false
set_option linter.all false
set_option maxRecDepth 100000
/-! Dicts whose keys are nested tuples: their objects. -/
namespace Ev
open PySem PySem.Spec PyProof.Rows L2
variable [HW]

section
variable {P : Program} {w : World} {A : Around} {E : Value → Shared → Prop} {s : Shared}
abbrev NIs (P : Program) (w : World) (h : Heap) (k : NestedKey) (a : Addr) : Prop := (nestedKind P w).is h k a
theorem nEnt_eq (hw : w = HW.w) : (nEnt : NestedKey × Addr × Value → DictEntry) = entryOfKey (nestedKind P w) := by subst hw; rfl
theorem NObj.of {o : Obj} {xs : List (NestedKey × Addr × Value)} {h : Heap} {d : Addr} (hw : w = HW.w) (n : NObj o xs) (ho : h.get? d = some o) (his : ∀ x ∈ xs, NIs P w h x.1 x.2.1) : h.DictOfH (nestedKind P w) d xs := by
  obtain ⟨n1, ⟨es, n2, n3⟩, n4⟩ := n
  exact ⟨o, es, _, ho, n1, n2, by rw [n3, nEnt_eq hw], his, n4⟩
/-- d[k] = v: the epoch is told -/
theorem nkSet {d a : Addr} {xs : List (NestedKey × Addr × Value)} {k : NestedKey} {v : Value} {o : Obj} {Q : Unit → Shared → Prop} (hw : w = HW.w) (hu : A.units + 8 < cLine) (hkey : NIs P w s.heap k a) (ho : s.heap.get? d = some o) (n : NObj o xs)
    (his : ∀ x ∈ xs, NIs P w s.heap x.1 x.2.1) (hsz : xs.length ≤ sizeLine)
    (hQ : ∀ h' o' tk, h'.get? d = some o' → NObj o' (storedH xs k a v) → Heap.SameBut d s.heap h' → Q () { s with heap := h', toks := tk }) : wpAny (model P w) A (dictSet d (.ref a) v) Q E s := by
  obtain ⟨n1, ⟨es, n2, n3⟩, n4⟩ := n
  have n3' : es.toList = xs.map (entryOfKey (nestedKind P w)) := by rw [n3, nEnt_eq hw]
  have hz : es.size = xs.length := size_of_entries n3'
  unfold dictSet
  try with_reducible refine wpAny_holding ?_
  refine wpAny_bind ((nestedKind P w).pyHash hu hkey ?_)
  unfold dictSetHashed
  try with_reducible refine wpAny_holding ?_
  refine wpAny_bind (wpAny_dictFind_heap (s := { s with toks := s.toks + (nestedKind P w).draws k }) hu hkey ho n2 n3' his n4 (fun no => ?_) fun j p hj => ?_)
  · have hnot : k ∉ xs.map (·.1) := not_mem_keys_of_get no
    have e1 := storedH_new (atKey_none_of_get no) a v
    refine wpAny_bind (wpAny_rule (wpAny_updateDictKeys (hz := by omega) (s := { s with toks := s.toks + (nestedKind P w).draws k }) ho n2 (hQ _ _ _ (Heap.get?_update_self _ ho (Obj.isFreed_of_dict (Obj.data_mapDictKeys n2 _)))
      ⟨n1.mapDictKeys _, ⟨_, by rw [Obj.data_mapDictKeys n2, e1, List.length_append]; rfl, ?_⟩, ?_⟩ (Heap.SameBut.update ..))))
    · rw [e1, nEnt_eq (P := P) hw]
      simp [n3', entryOfKey]
    · rw [e1, List.map_append, List.nodup_append]
      exact ⟨n4, by simp, fun x hx y hy e => by
        simp only [List.map_cons, List.map_nil, List.mem_singleton] at hy
        rw [← hy, ← e] at hnot
        exact hnot hx⟩
  · have e1 := storedH_old (atKey_of_get n4 hj) a v
    refine wpAny_bind (wpAny_rule (wpAny_bind (wpAny_updateDict (s := { s with toks := s.toks + (nestedKind P w).draws k }) ho n2 (wpAny_point (hQ _ _ _ (Heap.get?_update_self _ ho (Obj.isFreed_of_dict (Obj.data_mapDict n2 _)))
      ⟨n1.mapDict _, ⟨_, by rw [Obj.data_mapDict n2, e1, List.length_map], ?_⟩, ?_⟩ (Heap.SameBut.update ..))))))
    · rw [e1, nEnt_eq (P := P) hw]
      have z := modify_map_putAt (entryOfKey (nestedKind P w)) (fun e : DictEntry => { e with val := v }) k v (fun _ _ => rfl) n4 hj
      rw [← n3'] at z
      obtain ⟨l⟩ := es
      simpa using z
    · rw [e1, keys_map_putAt]
      exact n4
theorem nkSetItem {d a : Addr} {xs : List (NestedKey × Addr × Value)} {k : NestedKey} {v : Value} {o : Obj} {Q : Unit → Shared → Prop} (hw : w = HW.w) (hu : A.units + 9 < cLine) (hkey : NIs P w s.heap k a) (ho : s.heap.get? d = some o) (n : NObj o xs)
    (his : ∀ x ∈ xs, NIs P w s.heap x.1 x.2.1) (hsz : xs.length ≤ sizeLine)
    (hQ : ∀ h' o' tk, h'.get? d = some o' → NObj o' (storedH xs k a v) → Heap.SameBut d s.heap h' → Q () { s with heap := h', toks := tk }) : wpAny (model P w) A (setItem (.ref d) (.ref a) v) Q E s := by
  have hT : s.TypeIs (.ref d) "dict" := ⟨o, ho, n.1.1⟩
  unfold setItem
  try with_reducible refine wpAny_holding ?_
  refine wpAny_bind (wpAny_sequenceKey hT (by decide) ?_)
  refine wpAny_bind (wpAny_callSpecial?_slot (name := Str.ofString "__setitem__") hT slot_dict_setitem (wpAny_call_entry slot_dict_setitem hT entry_dict_setitem ?_ (args_dict_setitem _ _ _)))
  show wpAny _ _ (Builtin.Dict.notOrdered "__setitem__" ⟨[.ref d, .ref a, v], []⟩ >>= _) _ _ s
  refine wpAny_bind (wpAny_notOrdered_dict hT ?_)
  show wpAny _ _ (dictSet d (.ref a) v >>= _) _ _ s
  exact wpAny_bind (nkSet hw (show A.in1.units + 8 < cLine by show A.units + 1 + 8 < cLine; omega) hkey ho n his hsz fun h' o' tk h1 h2 h3 => wpAny_pure ⟨.none, rfl, wpAny_pure (hQ h' o' tk h1 h2 h3)⟩)
end

/-! ### what stands for what -/
section
variable {X : Cx} {pins : List (Addr × Obj)} {σ : L2.St} {H : Hp} {s : Shared} {ω : Wd} {st : St}
mutual
/-- a represented value is the key that it tells -/
theorem nkIs (I : Inv X pins σ H s) : ∀ (d : D) {v : V} {u : Value} {k : NestedKey}, Rep X.K H ω v d → RelV v u → nkey d = some k → NestedIs s.heap k u
  | .non, v, u, k, r, q, e => by
    simp only [Rep] at r
    subst r
    cases q
    cases e
    exact .none
  | .bl b, v, u, k, r, q, e => by
    simp only [Rep] at r
    subst r
    cases q
    cases e
    exact .bool rfl
  | .int i, v, u, k, r, q, e => by
    simp only [Rep] at r
    subst r
    obtain ⟨t, rfl⟩ := q
    cases e
    exact .int i t
  | .str x, v, u, k, r, q, e => by
    simp only [Rep] at r
    obtain ⟨rfl, _⟩ := r
    obtain ⟨t, rfl⟩ := q
    cases e
    exact .text _ t
  | .tup xs, v, u, k, r, q, e => by
    simp only [Rep] at r
    obtain ⟨a, vs, rfl, h1, _, h2⟩ := r
    cases q
    obtain ⟨its, rv, ⟨o, ho, hc, n, hd⟩, _⟩ := I.tuple h1.sq
    simp only [nkey] at e
    obtain ⟨ks, hk, rfl⟩ := map_eq e
    exact .tup ho hc hd (by simpa using nksIs I xs h2 rv hk)
  | .lst _, v, u, k, r, q, e => by simp [nkey] at e
  | .ref _, v, u, k, r, q, e => by simp [nkey] at e
  | .scr _, v, u, k, r, q, e => by simp [nkey] at e
theorem nksIs (I : Inv X pins σ H s) : ∀ (ds : List D) {vs : List V} {us : List Value} {ks : List NestedKey}, Reps X.K H ω vs ds → Vals vs us → nkeys ds = some ks → NestedAll s.heap ks us
  | [], vs, us, ks, r, q, e => by
    cases vs with
    | nil => cases q; cases e; exact .nil
    | cons v vs => exact r.elim
  | d :: ds, vs, us, ks, r, q, e => by
    cases vs with
    | nil => exact r.elim
    | cons v vs =>
      simp only [Reps] at r
      cases q with
      | cons q1 q2 =>
        simp only [nkeys] at e
        split at e
        · rename_i k ks' h1 h2
          cases e
          exact .cons (nkIs I d r.1 q1 h1) (nksIs I ds r.2 q2 h2)
        · cases e
end
theorem tkey_eq {d : D} {k : NestedKey} (h : tkey d = some k) : nkey d = some k ∧ k.depth ≤ 8 ∧ ∃ xs, d = .tup xs := by
  unfold tkey at h
  split at h
  · rename_i xs
    obtain ⟨k', h1, h2⟩ := bind_eq h
    split at h2
    · rename_i q
      cases h2
      exact ⟨h1, q, xs, rfl⟩
    · cases h2
  · cases h
theorem tkIs (I : Inv X pins σ H s) {d : D} {v : V} {u : Value} {k : NestedKey} (r : Rep X.K H ω v d) (q : RelV v u) (e : tkey d = some k) : ∃ a, v = .ref a ∧ u = .ref a ∧ NIs X.prog X.w s.heap k a := by
  obtain ⟨h1, h2, xs, rfl⟩ := tkey_eq e
  have z := nkIs I _ r q h1
  simp only [Rep] at r
  obtain ⟨a, vs, rfl, _⟩ := r
  cases q
  exact ⟨a, rfl, rfl, z, h2⟩
theorem RepN.is (I : Inv X pins σ H s) : ∀ {xs : List (NestedKey × Addr × Value)} {kvs : List (D × D)}, RepN X.K H ω xs kvs → ∀ x ∈ xs, NIs X.prog X.w s.heap x.1 x.2.1
  | [], [], _, x, hx => by cases hx
  | p :: ps, q :: qs, h, x, hx => by
    simp only [RepN] at h
    rcases List.mem_cons.mp hx with rfl | hx
    · obtain ⟨a, e1, _, z⟩ := tkIs I h.1.1.2 (u := .ref x.2.1) rfl h.1.1.1
      cases e1
      exact z
    · exact RepN.is I h.2 x hx
  | [], _ :: _, h, _, _ => h.elim
  | _ :: _, [], h, _, _ => h.elim
theorem RepN.at {K : PySem.W.Frag} : ∀ {xs : List (NestedKey × Addr × Value)} {kvs : List (D × D)}, RepN K H ω xs kvs → ∀ k, hasN kvs k = (atKey xs k).isSome ∧ ∀ d, getN kvs k = some d → ∃ p v, atKey xs k = some p ∧ RelV v p.2 ∧ Rep K H ω v d
  | [], [], _, k => ⟨rfl, fun d h => by cases h⟩
  | p :: ps, q :: qs, h, k => by
    simp only [RepN] at h
    obtain ⟨⟨⟨h1, h2⟩, v, h3, h4⟩, h5⟩ := h
    obtain ⟨i1, i2⟩ := RepN.at h5 k
    have hk := (tkey_eq h1).1
    by_cases e : p.1 = k
    · subst e
      have a1 : atKey (p :: ps) p.1 = some p.2 := by unfold atKey; rw [List.find?_cons_of_pos (by simp)]; rfl
      refine ⟨?_, fun d hd => ?_⟩
      · rw [a1]; unfold hasN; rw [List.any_cons, hk]; simp
      · unfold getN at hd
        rw [List.find?_cons_of_pos (by simp [hk])] at hd
        cases hd
        exact ⟨p.2, v, a1, h3, h4⟩
    · have a1 : atKey (p :: ps) k = atKey ps k := by unfold atKey; rw [List.find?_cons_of_neg (by simp [e])]
      have n1 : ¬ (nkey q.1 = some k) := by rw [hk]; intro z; exact e (Option.some.inj z)
      refine ⟨?_, fun d hd => ?_⟩
      · rw [a1, ← i1]; unfold hasN; rw [List.any_cons]; simp [n1]
      · unfold getN at hd
        rw [List.find?_cons_of_neg (by simp [n1])] at hd
        rw [a1]
        exact i2 d hd
  | [], _ :: _, h, _ => h.elim
  | _ :: _, [], h, _ => h.elim
theorem RepN.put {K : PySem.W.Frag} {k : NestedKey} {a : Addr} {kd d : D} {v : V} {u : Value} (hk : tkey kd = some k) (rk : Rep K H ω (.ref a) kd) (rv : RelV v u) (r : Rep K H ω v d) {xs : List (NestedKey × Addr × Value)} {kvs : List (D × D)} (h : RepN K H ω xs kvs) :
    RepN K H ω (storedH xs k a u) (putN kvs k kd d) := by
  have hi := (h.at k).1
  have mp : ∀ {xs : List (NestedKey × Addr × Value)} {kvs : List (D × D)}, RepN K H ω xs kvs → RepN K H ω (xs.map (putAt k u)) (kvs.map fun p => if nkey p.1 = some k then (p.1, d) else p) := by
    intro xs
    induction xs with
    | nil => intro kvs h; cases kvs with
      | nil => trivial
      | cons q qs => exact h.elim
    | cons p ps ih =>
      intro kvs h
      cases kvs with
      | nil => exact h.elim
      | cons q qs =>
        simp only [RepN, List.map_cons] at h ⊢
        refine ⟨?_, ih h.2⟩
        obtain ⟨⟨⟨h1, h2⟩, v', h3, h4⟩, h5⟩ := h
        have hq := (tkey_eq h1).1
        unfold putAt
        by_cases e : p.1 = k
        · rw [if_pos e, if_pos (by rw [hq, e])]
          exact ⟨⟨h1, h2⟩, v, rv, r⟩
        · rw [if_neg e, if_neg (by rw [hq]; intro z; exact e (Option.some.inj z))]
          exact ⟨⟨h1, h2⟩, v', h3, h4⟩
  have ap : ∀ {xs : List (NestedKey × Addr × Value)} {kvs : List (D × D)}, RepN K H ω xs kvs → RepN K H ω (xs ++ [(k, a, u)]) (kvs ++ [(kd, d)]) := by
    intro xs
    induction xs with
    | nil => intro kvs h; cases kvs with
      | nil => simp only [List.nil_append, RepN]; exact ⟨⟨⟨hk, rk⟩, v, rv, r⟩, trivial⟩
      | cons q qs => exact h.elim
    | cons p ps ih =>
      intro kvs h
      cases kvs with
      | nil => exact h.elim
      | cons q qs =>
        simp only [RepN, List.cons_append] at h ⊢
        exact ⟨h.1, ih h.2⟩
  unfold storedH putN
  rw [hi]
  split
  · exact mp h
  · exact ap h
theorem putN_len (kvs : List (D × D)) (k : NestedKey) (kd d : D) : (putN kvs k kd d).length ≤ kvs.length + 1 := by
  unfold putN
  split
  · rw [List.length_map]; omega
  · simp
/-- the dict of a cell -/
theorem Sim.dn (sim : Sim X.K H ω st) (I : Inv X pins σ H s) (hw : X.w = HW.w) {v : V} {d : D} {p : Nat × List (D × D)} (r : Rep X.K H ω v d) (h : dnAt st d = some p) : ∃ a o xs, v = .ref a ∧ ω.φ[p.1]? = some a ∧ st[p.1]? = some (.dcn p.2) ∧ H a = some (.ext fun h => h.get? a = some o) ∧
    (a == sysModules) = false ∧ p.2.length ≤ sizeLine ∧ NObj o xs ∧ RepN X.K H ω xs p.2 ∧ s.heap.get? a = some o ∧ s.heap.DictOfH (nestedKind X.prog X.w) a xs := by
  unfold dnAt at h
  split at h
  · rename_i n
    split at h
    · rename_i kvs hc
      cases h
      simp only [Rep] at r
      obtain ⟨a, ha, rfl⟩ := r
      obtain ⟨a', ha', o, xs, h1, h2, h3, h4, h5⟩ := sim.cell n _ hc
      rw [ha] at ha'
      cases ha'
      have ho : s.heap.get? a = some o := (I.hok a _ h1).1
      exact ⟨a, o, xs, rfl, ha, hc, h1, h2, h3, h4, h5, ho, h4.of hw ho (h5.is I)⟩
    · cases h
  · cases h
end
section
variable {K : PySem.W.Frag} {H : Hp} {ω : Wd} {st : St}
/-- a cell is rewritten -/
theorem Sim.setCell (s : Sim K H ω st) {n : Nat} {a : Addr} {c : C} {o : HO} (ha : ω.φ[n]? = some a) (hc : CellR K (upd H a o) ω a c) : Ext H ω (upd H a o) ω ∧ Sim K (upd H a o) ω (st.set n c) := by
  have ham : a ∈ ω.φ := List.mem_of_getElem? ha
  have x : Ext H ω (upd H a o) ω := ⟨List.prefix_refl _, fun _ h => h, fun b u e q => by rw [upd_ne (fun z => q (by rw [z]; exact ham))]; exact e, fun _ h => .inl h, fun _ h => .inl h, fun b _ q => by
    by_cases e : b = a
    · subst e; rw [upd_same]; simp
    · rw [upd_ne e]; exact q⟩
  obtain ⟨c0, hc0⟩ := s.has ha
  have hn : n < st.length := (List.getElem?_eq_some_iff.mp hc0).1
  refine ⟨x, by rw [List.length_set]; exact s.len, s.nd, s.nF, fun b hb => x.stay (s.hF b hb), fun m d e => ?_⟩
  by_cases hm : n = m
  · subst hm
    rw [List.getElem?_set_self hn] at e
    cases e
    exact ⟨a, ha, hc⟩
  · rw [List.getElem?_set_ne hm] at e
    obtain ⟨b, h1, h2⟩ := s.cell m d e
    have hb : b ≠ a := fun z => by
      subst z
      obtain ⟨g1, g2⟩ := List.getElem?_eq_some_iff.mp ha
      obtain ⟨g3, g4⟩ := List.getElem?_eq_some_iff.mp h1
      exact hm ((List.getElem_inj s.nd).mp (g2.trans g4.symm))
    exact ⟨b, h1, h2.ext x fun u q => by rw [upd_ne hb]; exact q⟩
end
end Ev

set_option Elab.async false
set_option linter.all false
set_option maxRecDepth 100000
/-! Dicts whose keys are nested tuples: expressions, walks, stores. -/
namespace Ev
open PySem PySem.Spec PyProof.Rows L2
variable [HW]

/-! ### d[k], k in d -/
def rIxN (K : PySem.W.Frag) : R2 := fun x y H Q => ∃ ω st d e p k z, Sim K H ω st ∧ Rep K H ω x d ∧ Rep K H ω y e ∧ dnAt st d = some p ∧ tkey e = some k ∧ getN p.2 k = some z ∧ Out K H ω st z Q
def rInN (K : PySem.W.Frag) (neg : Bool) : R2 := fun y x H Q => ∃ ω st d e p k, Sim K H ω st ∧ Rep K H ω x d ∧ Rep K H ω y e ∧ dnAt st d = some p ∧ tkey e = some k ∧ Q (.bl (Bool.xor neg (hasN p.2 k))) H
def rPutN (K : PySem.W.Frag) : TSet := fun x y v H Q => ∃ ω st d e f p k, Sim K H ω st ∧ Rep K H ω x d ∧ Rep K H ω y e ∧ Rep K H ω v f ∧ dnAt st d = some p ∧ tkey e = some k ∧ p.2.length < sizeLine ∧
  ∀ H', Ext H ω H' ω → Sim K H' ω (st.set p.1 (.dcn (putN p.2 k e f))) → Q H'
section
variable {X : Cx}
theorem ixN (hw : X.w = HW.w) (hu : X.A.units + 100 < cLine) : IxR X (rIxN X.K) := by
  rintro value slice pins s σ H x y v u Q I rx ry ⟨ω, st, d, e, p, k, z, sim, rd, re, hp, hk, hz, out⟩ hs
  obtain ⟨a, o, xs, rfl, _, _, _, _, _, _, h5, _, dd⟩ := sim.dn I hw rd hp
  obtain ⟨b, rfl, rfl, nk⟩ := tkIs I re ry hk
  obtain rfl : v = Value.ref a := rx
  obtain ⟨q, w, ha, rw', rr⟩ := (h5.at k).2 z hz
  exact tail_any dd.typeIs slot_dict_getitem.lookup (wpAny_getItem_heap (show X.A.units + 1 + 8 < cLine by omega) nk dd ha ⟨w, H, I.tok _, rw', out.now sim rr⟩) hs
theorem inN (hw : X.w = HW.w) (hu : X.A.units + 100 < cLine) : OpR X (compareOp .In) (rInN X.K false) := by
  rintro pins s σ H y x u v Q I ry rx ⟨ω, st, d, e, p, k, sim, rd, re, hp, hk, q⟩
  obtain ⟨a, o, xs, rfl, _, _, _, hsm, _, _, h5, _, dd⟩ := sim.dn I hw rd hp
  obtain ⟨b, rfl, rfl, nk⟩ := tkIs I re ry hk
  obtain rfl : v = Value.ref a := rx
  refine wpAny_in_heap (show X.A.units + 1 + 8 < cLine by omega) nk hsm dd ⟨.bl (hasN p.2 k), H, I.tok _, ?_, by simpa using q⟩
  rw [(h5.at k).1] <;> rfl
theorem notInN (hw : X.w = HW.w) (hu : X.A.units + 100 < cLine) : OpR X (compareOp .NotIn) (rInN X.K true) := by
  rintro pins s σ H y x u v Q I ry rx ⟨ω, st, d, e, p, k, sim, rd, re, hp, hk, q⟩
  obtain ⟨a, o, xs, rfl, _, _, _, hsm, _, _, h5, _, dd⟩ := sim.dn I hw rd hp
  obtain ⟨b, rfl, rfl, nk⟩ := tkIs I re ry hk
  obtain rfl : v = Value.ref a := rx
  refine wpAny_notIn_heap (show X.A.units + 1 + 8 < cLine by omega) nk hsm dd ⟨.bl (!hasN p.2 k), H, I.tok _, ?_, by simpa using q⟩
  rw [(h5.at k).1] <;> rfl
/-- a dict's object -/
theorem okN {P : Program} {w : World} {H : Hp} {h : Heap} {a : Addr} {o : Obj} (ho : h.get? a = some o) : ObjOk P w H h a (.ext fun h => h.get? a = some o) :=
  ⟨ho, ⟨o, ho⟩, fun h1 h2 e k => k o e⟩
theorem setN (hw : X.w = HW.w) (hu : X.A.units + 100 < cLine) : PSet X (rPutN X.K) := by
  rintro pins s σ H x y v ov iv uv Q I rx ry rv ⟨ω, st, d, e, f, p, k, sim, rd, re, rf, hp, hk, hz, q⟩
  obtain ⟨a, o, xs, rfl, ha, hc, hH, hsm, hl, hn, h5, ho, dd⟩ := sim.dn I hw rd hp
  obtain ⟨b, rfl, rfl, nk⟩ := tkIs I re ry hk
  obtain rfl : ov = Value.ref a := rx
  refine nkSetItem hw (by omega) nk ho hn (h5.is I) (by rw [h5.length]; exact hl) fun h' o' tk ho' hn' sb => ?_
  have I' : Inv X pins σ (upd H a (.ext fun h => h.get? a = some o')) { s with heap := h', toks := tk } := d_write I (by rw [hH]; exact True.intro) sb ⟨o', ho'⟩ (okN ho')
  have x : Ext H ω (upd H a (.ext fun h => h.get? a = some o')) ω := ⟨List.prefix_refl _, fun _ h => h, fun c u e q => by rw [upd_ne (fun z => q (by rw [z]; exact List.mem_of_getElem? ha))]; exact e, fun _ h => .inl h, fun _ h => .inl h, fun c _ q => by
    by_cases e : c = a
    · subst e; rw [upd_same]; simp
    · rw [upd_ne e]; exact q⟩
  refine ⟨_, I', q _ x (Sim.setCell sim ha ?_).2⟩
  exact ⟨o', _, upd_same, hsm, by have := putN_len p.2 k e f; omega, hn', (RepN.put hk re rv rf h5).ext x⟩
end
end Ev

set_option Elab.async false
set_option linter.all false
set_option maxRecDepth 100000
/-! Dicts whose keys are nested tuples: walks and displays. -/
namespace Ev
open PySem PySem.Spec PyProof.Rows L2
variable [HW]

/-! ### walks -/
def NHas (H : Hp) (d : Addr) (o : Obj) (xs : List (NestedKey × Addr × Value)) : Prop := H d = some (.ext fun h => h.get? d = some o) ∧ NObj o xs ∧ ∀ x ∈ xs, ∃ v, RelV v x.2.2
def NLen (H : Hp) (d : Addr) (n : Nat) : Prop := ∃ o xs, NHas H d o xs ∧ xs.length = n
/-- the keys -/
def ItN (d : Addr) (n : Nat) : L2.It :=
  ⟨fun i H => NLen H d n ∧ i < n, fun i H x H' => H' = H ∧ ∀ o xs, NHas H d o xs → ∃ p, xs[i]? = some p ∧ x = .ref p.2.1, fun i H => NLen H d n ∧ n ≤ i⟩
/-- the pairs -/
def ItNi (d : Addr) (n : Nat) : L2.It :=
  ⟨fun i H => NLen H d n ∧ i < n, fun i H x H' => ∃ T c v, x = .ref T ∧ H T = none ∧ H' = upd H T (.tup [c, v]) ∧ ∀ o xs, NHas H d o xs → ∃ p, xs[i]? = some p ∧ c = .ref p.2.1 ∧ RelV v p.2.2, fun i H => NLen H d n ∧ n ≤ i⟩
theorem nobj_inj {o : Obj} {xs ys : List (NestedKey × Addr × Value)} (a : NObj o xs) (b : NObj o ys) (i : Nat) : (xs[i]?).map (fun x => (x.2.1, x.2.2)) = (ys[i]?).map (fun x => (x.2.1, x.2.2)) := by
  obtain ⟨_, ⟨es, e1, e2⟩, _⟩ := a
  obtain ⟨_, ⟨fs, f1, f2⟩, _⟩ := b
  rw [e1] at f1
  injection f1 with f1 _
  subst f1
  rw [e2] at f2
  have z := congrArg (fun l => (l[i]?).map fun e : DictEntry => (e.key, e.val)) f2
  simp only [List.getElem?_map, Option.map_map] at z
  cases hx : xs[i]? with
  | none => rw [hx] at z; cases hy : ys[i]? with
    | none => rfl
    | some y => rw [hy] at z; cases z
  | some x => rw [hx] at z; cases hy : ys[i]? with
    | none => rw [hy] at z; cases z
    | some y =>
      rw [hy] at z
      simp only [Option.map_some, Function.comp, nEnt, Option.some.injEq, Prod.mk.injEq, Value.ref.injEq] at z ⊢
      exact z
section
variable {P : Program} {w : World} {K : PySem.W.Frag} {tg : Expr} {d : Addr} {n : Nat}
/-- what the iterator needs of the dict -/
theorem NLen.raw {X : Cx} {pins : List (Addr × Obj)} {σ : L2.St} {H : Hp} {s : Shared} (I : Inv X pins σ H s) (h : NLen H d n) : ∃ o es xs, NHas H d o xs ∧ xs.length = n ∧ s.heap.get? d = some o ∧ o.ExactDict ∧ o.data = .dict es n ∧ es.size = n ∧ es.toList = xs.map nEnt ∧
    ∀ o' ys, NHas H d o' ys → o' = o := by
  obtain ⟨o, xs, hh, rfl⟩ := h
  obtain ⟨h1, h2, h3⟩ := id hh
  obtain ⟨n1, ⟨es, n2, n3⟩, n4⟩ := id h2
  have ho : s.heap.get? d = some o := (I.hok d _ h1).1
  refine ⟨o, es, xs, hh, rfl, ho, n1, n2, ?_, n3, fun o' ys q => ?_⟩
  · have := congrArg List.length n3
    simpa using this
  · have ho' : s.heap.get? d = some o' := (I.hok d _ q.1).1
    rw [ho] at ho'
    exact (Option.some.inj ho').symm
theorem turnN (it : Addr) : Turn P w K tg (ItN d n) [it] it (fun i h => h.IsKeyIter it d i n n) where
  mem := List.mem_singleton.mpr rfl
  obj := fun i h st b hb => by
    obtain rfl : b = it := by simpa using hb
    obtain ⟨q, e, c, dd⟩ := st
    exact ⟨q, e, fun v z => by rw [dd] at z; cases z⟩
  keep := fun i h h' st k => st.at fun q e => k it (by simp) q e
  item := by
    intro X hP hw hK hc i pins s σ H E I hf st hg
    subst hP hw hK
    obtain ⟨g0, g1, g2, g3, g4, g5⟩ := hf it (by simp)
    obtain ⟨o, es, xs, hh, hl, ho, hx, hdt, hsz, he, hu⟩ := hg.1.raw I
    have hi : i < xs.length := by rw [hl]; exact hg.2
    have hen : es[i]? = some (nEnt xs[i]) := by
      have z : es.toList[i]? = some (nEnt xs[i]) := by rw [he, List.getElem?_map, List.getElem?_eq_getElem hi]; rfl
      simpa using z
    refine next_key_item st ho hdt hsz hen fun h' st' sb => ?_
    have I1 : Inv X pins σ H { s with heap := h' } := I.turned (t' := s.toks) (fun b ob hb q => (sb.2 b hb).trans q) g0 g1 g3 g4 g5
    obtain ⟨oi, q1, q2, q3⟩ := id st'
    refine ⟨(nEnt xs[i]).key, rfl, go_of (s := { s with heap := h' }) q1 q2 q3 (by decide) ⟨.ref xs[i].2.1, H, I1, rfl, ⟨rfl, fun o' ys hy => ?_⟩, st', fun b hb => (hf b hb).1⟩⟩
    obtain rfl := hu o' ys hy
    have z := nobj_inj hy.2.1 hh.2.1 i
    rw [List.getElem?_eq_getElem hi] at z
    cases e : ys[i]? with
    | none => rw [e] at z; cases z
    | some y =>
      rw [e] at z
      simp only [Option.map_some, Option.some.injEq, Prod.mk.injEq] at z
      exact ⟨y, rfl, by rw [z.1]⟩
  done := by
    intro X hP hw hK hc i pins s σ H E I hf st hg
    subst hP hw hK
    obtain ⟨g0, g1, g2, g3, g4, g5⟩ := hf it (by simp)
    obtain ⟨o, es, xs, hh, hl, ho, hx, hdt, hsz, he, hu⟩ := hg.1.raw I
    exact next_key_end (I.ok.hd hc) st ho hdt hsz hg.2 fun h' eb => ⟨rfl, I.turned (t' := s.toks) (fun b ob hb q => eb b ob hb q) g0 g1 g3 g4 g5⟩
  self := fun A i s Q E st h => by
    refine wpAny_pyIter_slot st.typeIs F.slot_dict_keyiterator_iter (wpAny_call_entry F.slot_dict_keyiterator_iter st.typeIs F.entry_dict_keyiterator_iter ?_ (F.args_dict_keyiterator_iter_1 _))
    show wpAny _ _ (ret (Value.ref it)) _ _ s
    exact wpAny_pure ⟨_, rfl, "dict_keyiterator", _, st.typeIs, F.slot_dict_keyiterator_next.lookup, h⟩
theorem turnNi {elts : List Expr} {kk : Nat} {tpos : Pos} (it : Addr) : Turn P w K (.Tuple elts kk tpos) (ItNi d n) [it] it (fun i h => ∃ ok ov, IsItemIter h it d i n n ok ov) where
  mem := List.mem_singleton.mpr rfl
  obj := fun i h st b hb => by
    obtain rfl : b = it := by simpa using hb
    obtain ⟨_, _, e⟩ := st
    exact ⟨_, e, fun v z => nomatch z⟩
  keep := fun i h h' st k => let ⟨c, v, e⟩ := st; ⟨c, v, k it (by simp) _ e⟩
  item := by
    intro X hP hw hK hc i pins s σ H E I hf st hg
    subst hP hw hK
    obtain ⟨o, es, xs, hh, hl, ho, hx, hdt, hsz, he, hu⟩ := hg.1.raw I
    have hi : i < xs.length := by rw [hl]; exact hg.2
    obtain ⟨c0, v0, hit⟩ := st
    have hlt : it < s.heap.objs.size := Heap.lt_size hit
    have hie : i < es.size := by rw [hsz]; exact hg.2
    have hen : es[i] = nEnt xs[i] := by
      have z : es.toList[i]? = some (nEnt xs[i]) := by rw [he, List.getElem?_map, List.getElem?_eq_getElem hi]; rfl
      simpa [hie] using z
    obtain ⟨v, rv⟩ := hh.2.2 _ (List.getElem_mem hi)
    have raw : s.heap.DictRaw d es n := ⟨o, ho, hx, hdt⟩
    rw [← hsz] at hit
    refine wpAny_pyNext_items_item_raw (ep := es.size) hit (by rw [hsz]; exact raw) hie fun h' hout hT hz hk => ?_
    refine ⟨_, rfl, wpAny_letOwnedTupleGo_items (s := { s with heap := h' }) hout fun h'' hin sb => ?_⟩
    have hT2 : h''.get? s.heap.objs.size = some { cls := .type "tuple", data := .seq #[es[i].key, es[i].val] } := (sb.2 _ (Nat.ne_of_gt hlt)).trans hT
    have new : ObjOk X.prog X.w (upd H s.heap.objs.size (.tup [.ref xs[i].2.1, v])) h'' s.heap.objs.size (.tup [.ref xs[i].2.1, v]) :=
      ⟨by show 2 ≤ sizeLine; decide, [es[i].key, es[i].val], .cons (by rw [hen]; rfl) (.cons (by rw [hen]; exact rv) .nil), ⟨_, hT2, rfl, _, rfl⟩⟩
    have I1 : Inv X pins σ (upd H s.heap.objs.size (.tup [.ref xs[i].2.1, v])) { s with heap := h'' } :=
      I.turnedNew (t' := s.toks) (ch := [it]) (fun b ob hb q => (sb.2 b (by simpa using hb)).trans (hk b ob (by simpa using hb) q)) hf (Nat.le_refl _) new
    refine ⟨.ref s.heap.objs.size, _, I1, rfl, ⟨_, _, _, rfl, I.hok.fresh (Nat.le_refl _), rfl, fun o' ys hy => ?_⟩, ⟨es[i].key, es[i].val, ?_⟩, fun b hb => ?_⟩
    · obtain rfl := hu o' ys hy
      have z := nobj_inj hy.2.1 hh.2.1 i
      rw [List.getElem?_eq_getElem hi] at z
      cases e : ys[i]? with
      | none => rw [e] at z; cases z
      | some y =>
        rw [e] at z
        simp only [Option.map_some, Option.some.injEq, Prod.mk.injEq] at z
        exact ⟨y, rfl, by rw [z.1], by rw [z.2]; exact rv⟩
    · rw [hsz] at hin
      exact hin
    · obtain rfl : b = it := by simpa using hb
      rw [upd_ne (Nat.ne_of_lt hlt)]
      exact (hf b (by simp)).1
  done := by
    intro X hP hw hK hc i pins s σ H E I hf st hg
    subst hP hw hK
    obtain ⟨g0, g1, g2, g3, g4, g5⟩ := hf it (by simp)
    obtain ⟨o, es, xs, hh, hl, ho, hx, hdt, hsz, he, hu⟩ := hg.1.raw I
    obtain ⟨c0, v0, hit⟩ := st
    have raw : s.heap.DictRaw d es n := ⟨o, ho, hx, hdt⟩
    rw [← hsz] at hit
    exact wpAny_pyNext_items_end_raw (ep := es.size) (I.ok.hd hc) hit (by rw [hsz]; exact raw) (by rw [hsz]; exact hg.2) fun h' eb => ⟨rfl, I.turned (t' := s.toks) (fun b ob hb q => eb b ob hb q) g0 g1 g3 g4 g5⟩
  self := fun A i s Q E st h => let ⟨_, _, e⟩ := st; PySem.W.kcp_self e h
end
section
variable {X : Cx} {tg e : Expr} {td : TE} {apos cpos : Pos}
def iNk (td : TE) : TI := fun σ H R => td σ H fun x H1 => ∃ d n, x = .ref d ∧ (d == sysModules) = false ∧ NLen H1 d n ∧ R (ItN d n) H1
def iNi (td : TE) : TI := fun σ H R => td σ H fun x H1 => ∃ d n, x = .ref d ∧ (d == sysModules) = false ∧ NLen H1 d n ∧ R (ItNi d n) H1
theorem pi_nk (he : PE X e td) : PI X tg e (iNk td) := by
  refine ⟨fun pins s σ H R I h => ?_⟩
  refine thn (he.run pins s σ H _ I h) fun u s1 ⟨x, H1, I1, rx, d, n, ex, hs, hn, q⟩ => ?_
  subst ex
  obtain rfl : u = Value.ref d := rx
  obtain ⟨o, es, xs, hh, hl, ho, hx, hdt, hsz, _, _⟩ := hn.raw I1
  refine iter_keys hs ho hx hdt (pi_one (tk := s1.toks) I1 _ (turnN _) ⟨_, Heap.get?_push_size _ rfl, rfl, ?_⟩ q)
  rw [hsz] <;> rfl
theorem pi_ni {elts : List Expr} {kk : Nat} {tpos : Pos} (he : PE X e td) (hbase : attributeBase e "items" X.env (eval e X.env) = eval e X.env) (hline : (apos.endLine == cpos.line) = true) :
    PI X (.Tuple elts kk tpos) (.Call (.Attribute e "items" apos) [] [] cpos) (iNi td) := by
  refine ⟨fun pins s σ H R I h => ?_⟩
  refine wpAny_Call_method (T := "dict") (id := "dict.items") hbase rfl hline F.plainAttrs_dict F.slot_dict_items F.type_dict_items (thn (he.run pins s σ H _ I h) fun u s1 ⟨x, H1, I1, rx, d, n, ex, hs, hn, q⟩ => ?_)
  subst ex
  obtain rfl : u = Value.ref d := rx
  obtain ⟨o, es, xs, hh, hl, ho, hx, hdt, hsz, _, _⟩ := hn.raw I1
  have raw : s1.heap.DictRaw d es n := ⟨o, ho, hx, hdt⟩
  refine ⟨raw.typeIs, fun b q => by cases q; exact ⟨o, ho, hx.2.1⟩, ?_⟩
  have I2 : Inv X pins σ H1 { s1 with heap := s1.heap.push { cls := .type "dict_items", data := .fields #[.ref d] } } := I1.kept (t' := s1.toks) fun b ob q => Heap.get?_push_of_some _ q
  have fin : wpAny (model X.prog X.w) X.A (pyIter (.ref s1.heap.objs.size)) (PIE X pins σ (.Tuple elts kk tpos) R) X.xe { s1 with heap := s1.heap.push { cls := .type "dict_items", data := .fields #[.ref d] } } := by
    refine wpAny_pyIter_items_raw (d := d) ⟨_, Heap.get?_push_size _ rfl, rfl, rfl⟩ (raw.at fun o e => Heap.get?_push_of_some _ e) (pi_one (tk := s1.toks) I2 _ (turnNi _) ⟨.none, .none, ?_⟩ q)
    rw [hsz]
    exact Heap.get?_push_size _ rfl
  show wpAny _ _ (callWith cpos (.builtin "dict.items") [.ref d] [] []) _ X.xe s1
  exact method_meetsIn F.slot_dict_items F.entry_dict_items rfl (PySem.evalArgs_none ⟨rfl, raw.typeIs, F.args_dict_items_1 _, _, meets_dict_items_raw d hs, ⟨_, _, raw⟩, fin⟩)
end

/-! ### {k: v} -/
section
variable {P : Program} {w : World} {A : Around} {E : Value → Shared → Prop} {s : Shared}
theorem nkDisp {env : PySem.Env} {ke ve : Expr} {pos : Pos} {Q : Value → Shared → Prop} (hw : w = HW.w) (hu : A.units + 9 < cLine)
    (h : wpAny (model P w) A (evalPairs (pairTrees [some ke] [ve] env pos)) (fun vs s1 => ∃ a v k o, vs = [(.ref a, v)] ∧ NIs P w s1.heap k a ∧ s1.heap.get? s.heap.objs.size = some o ∧ NObj o [] ∧
      ∀ h' o' tk, h'.get? s.heap.objs.size = some o' → NObj o' [(k, a, v)] → Heap.SameBut s.heap.objs.size s1.heap h' → Q (.ref s.heap.objs.size) { s1 with heap := h', toks := tk }) E
      { s with heap := s.heap.push { cls := .type "dict", data := .dict #[] } }) :
    wpAny (model P w) A (eval (.Dict [some ke] [ve] pos) env) Q E s := by
  have hz := zip_pairTrees [some ke] [ve] env pos rfl rfl
  rw [arm_eval_Dict, hz, dictDisplay_pairs (pairTrees [some ke] [ve] env pos) (by simp [pairTrees]) (by simp [pairTrees])]
  refine wpAny_bind (wpAny_standAt (wpAny_bind ?_))
  unfold subDict
  refine wpAny_bind (wpAny_alloc ?_)
  refine wpAny_bind (wpAny_holding ?_)
  rw [if_pos (by simp [pairTrees])]
  refine wpAny_bind (wpAny_mono h (fun vs s1 q => ?_) fun _ _ e => e)
  obtain ⟨a, v, k, o, rfl, nk, ho, hn, fin⟩ := q
  refine wpAny_holding (wpAny_bind ?_)
  rw [List.forIn_cons]
  refine wpAny_bind (wpAny_bind (nkSet hw (show A.units + 8 < cLine by omega) nk ho hn (fun _ z => nomatch z) (Nat.zero_le _) fun h' o' tk q1 q2 q3 => wpAny_pure ?_))
  show wpAny _ _ (forIn [] PUnit.unit _) _ _ _
  rw [List.forIn_nil]
  exact wpAny_pure (wpAny_pure (wpAny_pure (wpAny_pure (fin h' o' tk q1 q2 q3))))
end
end Ev

set_option Elab.async false
set_option linter.all false
set_option maxRecDepth 100000
/-! What is walked; comprehensions. -/
namespace Ev
open PySem PySem.Spec PyProof.Rows L2
variable [HW]

omit [HW] in
def RelX (o : Bool) (H : Hp) (ω : Wd) (H' : Hp) (ω' : Wd) : Prop := if o = true then Ext H ω H' ω' else WExt H ω H' ω'
section
variable {o : Bool} {H H1 H2 H' : Hp} {ω ω1 ω2 ω' : Wd}
theorem RelX.w (h : RelX o H ω H' ω') : WExt H ω H' ω' := by
  unfold RelX at h
  split at h
  · exact h.w
  · exact h
theorem RelX.of (e : Ext H ω H' ω') : RelX o H ω H' ω' := by
  unfold RelX
  split
  · exact e
  · exact e.w
theorem RelX.trans (a : RelX o H ω H1 ω1) (b : RelX o H1 ω1 H2 ω2) : RelX o H ω H2 ω2 := by
  unfold RelX at *
  split
  · rename_i q
    rw [if_pos q] at a b
    exact a.trans b
  · rename_i q
    rw [if_neg q] at a b
    exact a.trans b
theorem RelX.less {p : Bool} (h : RelX o H ω H' ω') (q : p = true → o = true) : RelX p H ω H' ω' := by
  cases p with
  | false => exact h.w
  | true =>
    have q := q rfl
    subst q
    exact h
end
omit [HW] in
/-- the sequence at a holds these -/
def SeqIn (K : PySem.W.Frag) (H : Hp) (ω : Wd) (t : Bool) (a : Addr) (ds : List D) : Prop := ∃ vs, (if t = true then SqT K H a vs else SqL K H a vs) ∧ Reps K H ω vs ds
theorem gds_app {env : Env} {st : St} {gs hs : List Gd} (h : gdsOk env st (gs ++ hs) = true) : gdsOk env st gs = true ∧ gdsOk env st hs = true := by
  unfold gdsOk at *
  rw [List.all_append, Bool.and_eq_true] at h
  exact h
theorem seqKeep {K : PySem.W.Frag} {H1 : Hp} {ω1 : Wd} {st1 : St} {e : E} {v : V} {d : D} {xs : List D} {gs : List Gd} (s1 : Sim K H1 ω1 st1) (r : RepE K H1 ω1 e v d) (h : seqOf st1 d = some (xs, gs)) :
    ∃ a, v = .ref a ∧ SeqIn K H1 ω1 (isTup d) a xs ∧ ∀ H ω st env, RelX e.isO H1 ω1 H ω → Sim K H ω st → gdsOk env st gs = true → SeqIn K H ω (isTup d) a xs := by
  cases d with
  | tup ds =>
    cases h
    have ho : e.isO = false := by
      cases he : e.isO with
      | false => rfl
      | true =>
        unfold RepE at r
        rw [if_pos he] at r
        obtain ⟨_, _, _, _, z, _⟩ := r
        cases z
    have r := r.rep ho
    simp only [Rep] at r
    obtain ⟨a, vs, rfl, h1, h2, h3⟩ := r
    have mk : ∀ {H ω}, TupAt K H ω a vs → Reps K H ω vs xs → SeqIn K H ω true a xs := fun x y => ⟨vs, x.sq, y⟩
    exact ⟨a, rfl, mk h1 h3, fun H ω st env x _ _ => mk (h1.wext x.w) (Reps.wext x.w _ h3)⟩
  | lst ds =>
    cases h
    cases he : e.isO with
    | true =>
      unfold RepE at r
      rw [if_pos he] at r
      obtain ⟨a, vs, ds', rfl, z, h3, h4, h5, h6⟩ := r
      cases z
      exact ⟨a, rfl, ⟨vs, .inl (.inl h3), h6⟩, fun H ω st env x _ _ => ⟨vs, .inl (.inl ((show Ext H1 ω1 H ω from x).keep _ _ h3 h4)), Reps.wext x.w _ h6⟩⟩
    | false =>
      have r := r.rep he
      simp only [Rep] at r
      obtain ⟨a, vs, rfl, h1, h2, h3⟩ := r
      have mk : ∀ {H ω}, LstAt H ω a vs → Reps K H ω vs xs → SeqIn K H ω false a xs := fun x y => ⟨vs, x.sq, y⟩
      exact ⟨a, rfl, mk h1 h3, fun H ω st env x _ _ => mk (h1.wext x.w) (Reps.wext x.w _ h3)⟩
  | scr ns =>
    cases h
    have ho : e.isO = false := by
      cases he : e.isO with
      | false => rfl
      | true =>
        unfold RepE at r
        rw [if_pos he] at r
        obtain ⟨_, _, _, _, z, _⟩ := r
        cases z
    have r := r.rep ho
    simp only [Rep] at r
    obtain ⟨a, rfl, h1, h2⟩ := r
    have mk : ∀ {H ω}, ScrAt K H ω a (ns.map .int) → SeqIn K H ω false a (ns.map .int) := fun x => ⟨_, x.sq, Reps.ints ns⟩
    exact ⟨a, rfl, mk h1, fun H ω st env x _ _ => mk (h1.wext x.w)⟩
  | ref n =>
    have ho : e.isO = false := by
      cases he : e.isO with
      | false => rfl
      | true =>
        unfold RepE at r
        rw [if_pos he] at r
        obtain ⟨_, _, _, _, z, _⟩ := r
        cases z
    have r := r.rep ho
    simp only [Rep] at r
    obtain ⟨a, h1, rfl⟩ := r
    simp only [seqOf] at h
    have look : ∀ {H ω st}, Sim K H ω st → ω.φ[n]? = some a → st[n]? = some (.lst xs) → SeqIn K H ω false a xs := fun s ha hs => by
      obtain ⟨a', ha', vs, hv, _, hr⟩ := s.cell n _ hs
      rw [ha] at ha'
      cases ha'
      exact ⟨vs, .inl (.inl hv), hr⟩
    cases hc : st1[n]? with
    | none => rw [hc] at h; cases h
    | some cc =>
      cases cc with
      | dct kvs => rw [hc] at h; cases h
      | dcn kvs => rw [hc] at h; cases h
      | lst ys =>
        rw [hc] at h
        cases h
        refine ⟨a, rfl, look s1 h1 hc, fun H ω st env x s g => look s (x.w.at h1) ?_⟩
        simpa [gdsOk, Gd.ok] using g
  | _ => cases h

/-- J walks ds -/
def WalksR (K : PySem.W.Frag) (o : Bool) (J : L2.It) (ds : List D) (gs : List Gd) (H0 : Hp) (ω0 : Wd) : Prop :=
  ∀ (H : Hp) (ω : Wd) (st : St) (env : Env), RelX o H0 ω0 H ω → Sim K H ω st → gdsOk env st gs = true →
    (∀ i, i < ds.length → J.go i H) ∧ J.stop ds.length H ∧ ∀ i d, ds[i]? = some d → ∀ x H', J.yld i H x H' → ∃ ω', Ext H ω H' ω' ∧ Sim K H' ω' st ∧ Rep K H' ω' x d
section
variable {K : PySem.W.Frag} {o : Bool} {ds es : List D} {gs hs : List Gd} {H0 : Hp} {ω0 : Wd} {a b : Addr}
theorem walksL (h : ∀ H ω st env, RelX o H0 ω0 H ω → Sim K H ω st → gdsOk env st gs = true → SeqIn K H ω false a ds) : WalksR K o (Itl K a) ds gs H0 ω0 := fun H ω st env x s g => by
  obtain ⟨vs, hq, hr⟩ := h H ω st env x s g
  simp only [Bool.false_eq_true, if_false] at hq
  refine ⟨fun i hi => ?_, ⟨vs, hq, Nat.le_of_eq hr.length⟩, fun i d hd y H' yl => ?_⟩
  · obtain ⟨v, h1, _⟩ := hr.get (List.getElem?_eq_getElem hi)
    exact ⟨vs, v, hq, h1⟩
  · obtain ⟨v, h1, h2⟩ := hr.get hd
    obtain ⟨rfl, hy⟩ := yl
    have := hy vs hq
    rw [h1] at this
    cases this
    exact ⟨ω, Ext.refl _ _, s, h2⟩
theorem walksT (h : ∀ H ω st env, RelX o H0 ω0 H ω → Sim K H ω st → gdsOk env st gs = true → SeqIn K H ω true a ds) : WalksR K o (Itt K a) ds gs H0 ω0 := fun H ω st env x s g => by
  obtain ⟨vs, hq, hr⟩ := h H ω st env x s g
  simp only [if_true] at hq
  refine ⟨fun i hi => ?_, ⟨vs, hq, Nat.le_of_eq hr.length⟩, fun i d hd y H' yl => ?_⟩
  · obtain ⟨v, h1, _⟩ := hr.get (List.getElem?_eq_getElem hi)
    exact ⟨vs, v, hq, h1⟩
  · obtain ⟨v, h1, h2⟩ := hr.get hd
    obtain ⟨rfl, hy⟩ := yl
    have := hy vs hq
    rw [h1] at this
    cases this
    exact ⟨ω, Ext.refl _ _, s, h2⟩
theorem newPair {H : Hp} {ω : Wd} {st : St} {p : Addr} {u v : V} {d e : D} (s : Sim K H ω st) (hp : H p = none) (r1 : Rep K H ω u d) (r2 : Rep K H ω v e) : ∃ ω', Ext H ω (upd H p (.tup [u, v])) ω' ∧ Sim K (upd H p (.tup [u, v])) ω' st ∧ Rep K (upd H p (.tup [u, v])) ω' (.ref p) (.tup [d, e]) :=
  ⟨ω, Ext.updN s hp, s.updN hp, Rep.newTup s hp (by show 2 ≤ sizeLine; decide) (by simp only [Reps]; exact ⟨r1, r2, trivial⟩)⟩
theorem walksE (t : Bool) (h : ∀ H ω st env, RelX o H0 ω0 H ω → Sim K H ω st → gdsOk env st gs = true → SeqIn K H ω t a ds) : WalksR K o (if t = true then IteT K a else Ite K a) (ds.mapIdx fun i u => .tup [.int i, u]) gs H0 ω0 := fun H ω st env x s g => by
  obtain ⟨vs, hq, hr⟩ := h H ω st env x s g
  have item : ∀ (i : Nat) (d : D), (ds.mapIdx fun i u => D.tup [.int i, u])[i]? = some d → ∃ u v, d = .tup [.int i, u] ∧ vs[i]? = some v ∧ Rep K H ω v u := fun i d hd => by
    rw [List.getElem?_mapIdx] at hd
    cases hu : ds[i]? with
    | none => rw [hu] at hd; cases hd
    | some u =>
      rw [hu] at hd
      cases hd
      obtain ⟨v, h1, h2⟩ := hr.get hu
      exact ⟨u, v, rfl, h1, h2⟩
  have some_at : ∀ i, i < (ds.mapIdx fun i u => D.tup [.int i, u]).length → ∃ v, vs[i]? = some v := fun i hi => by
    rw [List.length_mapIdx] at hi
    obtain ⟨v, h1, _⟩ := hr.get (List.getElem?_eq_getElem hi)
    exact ⟨v, h1⟩
  cases t with
  | true =>
    simp only [if_true] at hq ⊢
    refine ⟨fun i hi => let ⟨v, hv⟩ := some_at i hi; ⟨vs, v, hq, hv⟩, ⟨vs, hq, by rw [List.length_mapIdx]; exact hr.length⟩, fun i d hd y H' yl => ?_⟩
    obtain ⟨u, v, rfl, hv, hu⟩ := item i d hd
    obtain ⟨p, w, rfl, hp, rfl, hw⟩ := yl
    have := hw vs hq
    rw [hv] at this
    cases this
    exact newPair s hp (by simp only [Rep]) hu
  | false =>
    simp only [Bool.false_eq_true, if_false] at hq ⊢
    refine ⟨fun i hi => let ⟨v, hv⟩ := some_at i hi; ⟨vs, v, hq, hv⟩, ⟨vs, hq, by rw [List.length_mapIdx]; exact Nat.le_of_eq hr.length⟩, fun i d hd y H' yl => ?_⟩
    obtain ⟨u, v, rfl, hv, hu⟩ := item i d hd
    obtain ⟨p, w, rfl, hp, rfl, hw⟩ := yl
    have := hw vs hq
    rw [hv] at this
    cases this
    exact newPair s hp (by simp only [Rep]) hu
theorem walksZ (t : Bool) (h : ∀ H ω st env, RelX o H0 ω0 H ω → Sim K H ω st → gdsOk env st gs = true → SeqIn K H ω t a ds ∧ SeqIn K H ω t b es) : WalksR K o (if t = true then RZ.ItzT K a b else L2.Itz K a b) (List.zipWith (fun u v => .tup [u, v]) ds es) gs H0 ω0 := fun H ω st env x s g => by
  obtain ⟨⟨vs, hq, hr⟩, ⟨ws, hq2, hr2⟩⟩ := h H ω st env x s g
  have item : ∀ (i : Nat) (d : D), (List.zipWith (fun u v => D.tup [u, v]) ds es)[i]? = some d → ∃ u u2 v v2, d = .tup [u, u2] ∧ vs[i]? = some v ∧ ws[i]? = some v2 ∧ Rep K H ω v u ∧ Rep K H ω v2 u2 := fun i d hd => by
    rw [List.getElem?_zipWith] at hd
    cases hu : ds[i]? with
    | none => rw [hu] at hd; cases hd
    | some u =>
      cases hu2 : es[i]? with
      | none => rw [hu, hu2] at hd; cases hd
      | some u2 =>
        rw [hu, hu2] at hd
        cases hd
        obtain ⟨v, h1, h2⟩ := hr.get hu
        obtain ⟨v2, h3, h4⟩ := hr2.get hu2
        exact ⟨u, u2, v, v2, rfl, h1, h3, h2, h4⟩
  have some_at : ∀ i, i < (List.zipWith (fun u v => D.tup [u, v]) ds es).length → ∃ v w, vs[i]? = some v ∧ ws[i]? = some w := fun i hi => by
    rw [List.length_zipWith] at hi
    obtain ⟨v, h1, _⟩ := hr.get (List.getElem?_eq_getElem (by omega : i < ds.length))
    obtain ⟨w, h2, _⟩ := hr2.get (List.getElem?_eq_getElem (by omega : i < es.length))
    exact ⟨v, w, h1, h2⟩
  have e1 := hr.length
  have e2 := hr2.length
  cases t with
  | true =>
    simp only [if_true] at hq hq2 ⊢
    refine ⟨fun i hi => let ⟨v, w, hv, hw⟩ := some_at i hi; ⟨vs, ws, v, w, hq, hq2, hv, hw⟩, ⟨vs, ws, hq, hq2, by rw [List.length_zipWith]; omega⟩, fun i d hd y H' yl => ?_⟩
    obtain ⟨u, u2, v, v2, rfl, hv, hv2, hu, hu2⟩ := item i d hd
    obtain ⟨p, w, w2, rfl, hp, rfl, hw, hw2⟩ := yl
    have z1 := hw vs hq
    have z2 := hw2 ws hq2
    rw [hv] at z1
    rw [hv2] at z2
    cases z1
    cases z2
    exact newPair s hp hu hu2
  | false =>
    simp only [Bool.false_eq_true, if_false] at hq hq2 ⊢
    refine ⟨fun i hi => let ⟨v, w, hv, hw⟩ := some_at i hi; ⟨vs, ws, v, w, hq, hq2, hv, hw⟩, ⟨vs, ws, hq, hq2, by rw [List.length_zipWith]; omega⟩, fun i d hd y H' yl => ?_⟩
    obtain ⟨u, u2, v, v2, rfl, hv, hv2, hu, hu2⟩ := item i d hd
    obtain ⟨p, w, w2, rfl, hp, rfl, hw, hw2⟩ := yl
    have z1 := hw vs hq
    have z2 := hw2 ws hq2
    rw [hv] at z1
    rw [hv2] at z2
    cases z1
    cases z2
    exact newPair s hp hu hu2
theorem walksR {lo : Int} {n : Nat} : WalksR K o (Itr lo n) (rangeL lo n) gs H0 ω0 := fun H ω st env x s g => by
  have hl : (rangeL lo n).length = n := by simp [rangeL]
  rw [hl]
  refine ⟨fun i hi => hi, Nat.le_refl _, fun i d hd y H' yl => ?_⟩
  obtain ⟨rfl, rfl⟩ := yl
  refine ⟨ω, Ext.refl _ _, s, ?_⟩
  simp only [rangeL, List.getElem?_map] at hd
  cases hr : (List.range n)[i]? with
  | none => rw [hr] at hd; cases hd
  | some j =>
    rw [hr] at hd
    cases hd
    obtain ⟨h1, h2⟩ := List.getElem?_eq_some_iff.mp hr
    rw [List.getElem_range] at h2
    subst h2
    simp only [Rep]
theorem walksS {z : List Nat} : WalksR K o (Its (toS z)) (z.map fun c => .str [c]) gs H0 ω0 := fun H ω st env x s g => by
  have hl : (toS z).cps.size = z.length := by simp [toS]
  refine ⟨fun i hi => ?_, ?_, fun i d hd y H' yl => ?_⟩
  · rw [List.length_map] at hi
    show i < (toS z).cps.size
    rw [hl]; exact hi
  · show (toS z).cps.size ≤ _
    rw [hl, List.length_map]
    exact Nat.le_refl _
  · obtain ⟨rfl, cc, hc, rfl⟩ := yl
    refine ⟨ω, Ext.refl _ _, s, ?_⟩
    rw [List.getElem?_map] at hd
    cases hz : z[i]? with
    | none => rw [hz] at hd; cases hd
    | some q =>
      rw [hz] at hd
      cases hd
      have : (toS z).cps[i]? = some q := by simpa [toS] using hz
      rw [this] at hc
      cases hc
      simp only [Rep]
      exact ⟨rfl, by show 1 ≤ sizeLine; decide⟩
end
end Ev

set_option Elab.async false
set_option linter.all false
set_option maxRecDepth 100000
/-! Iterators as the tree's; comprehensions. -/
namespace Ev
open PySem PySem.Spec PyProof.Rows L2
variable [HW]

omit [HW] in
def It.isO : Ev.It → Bool
  | .va e => e.isO
  | .rg1 e => false
  | .rg2 _ _ => false
  | .zp a b => a.isO || b.isO
  | .en a => a.isO
  | .st a => false
  | .dk _ => false
  | .dit _ => false
  | .zpm a b => a.isO || b.isO
section
variable (X : Cx) (T : Nm) (G : Pg) (k : Nat) (W : WX)
def PostIt (o : Bool) (σ : L2.St) (Z : L2.It → Hp → Prop) (H : Hp) (ω : Wd) : R (List D × List Gd) → Prop
  | .ok p st => ∀ J H' ω', Ext H ω H' ω' → Sim X.K H' ω' st → WalksR X.K o J p.1 p.2 H' ω' → Z J H'
  | .ex x st => ∀ c da H' ω', Ext H ω H' ω' → Sim X.K H' ω' st → XRep X.K X.mg T H' ω' c da x → W c da σ H'
  | .no => False
def tIt (it : Ev.It) : TI := fun σ H Z => ∃ ω st env H0, Sim X.K H ω st ∧ REnv X.K H0 H ω σ env ∧ PostIt X T W it.isO σ Z H ω (evIt (callN G k) G.gl env st it)
end
section
variable {X : Cx} {T : Nm} {G : Pg} {k : Nat} {W : WX} {c : Cn} {kw : List Kw} {pos p1 p2 : Pos} {p q r tg : Expr} {a b e : E} {σ : L2.St} {H H' : Hp} {ω ω' : Wd} {o : Bool} {Z : L2.It → Hp → Prop}
theorem PostIt.mono (x : Ext H ω H' ω') {r : R (List D × List Gd)} (h : PostIt X T W o σ Z H ω r) : PostIt X T W o σ Z H' ω' r := by
  cases r with
  | ok d st => exact fun v H2 ω2 e2 => h v H2 ω2 (x.trans e2)
  | ex y st => exact fun c da H2 ω2 e2 => h c da H2 ω2 (x.trans e2)
  | no => exact h
theorem stepI {r : R D} {f : D → St → R (List D × List Gd)} {Q1 : VK} (h : PostIt X T W o σ Z H ω (r.bind f))
    (q : ∀ d st1 v H1 ω1, Ext H ω H1 ω1 → Sim X.K H1 ω1 st1 → RepE X.K H1 ω1 a v d → PostIt X T W o σ Z H1 ω1 (f d st1) → Q1 v H1) : PostE X T W σ Q1 H ω a r := by
  cases r with
  | ok d st => exact fun v H1 ω1 e1 s1 r1 => q d st v H1 ω1 e1 s1 r1 (PostIt.mono e1 h)
  | ex y st => exact h
  | no => exact h
theorem _root_.L2.PI.weak {X : Cx} {e i : Expr} {t t' : TI} (h : PI X e i t) (q : ∀ σ H Q, t' σ H Q → t σ H Q) : PI X e i t' := ⟨fun pins s σ H Q I hw => h.run pins s σ H Q I (q σ H Q hw)⟩
theorem seqSq {K : PySem.W.Frag} {H : Hp} {ω : Wd} {t : Bool} {a : Addr} {ds : List D} (h : SeqIn K H ω t a ds) : ∃ vs, if t = true then SqT K H a vs else SqL K H a vs := let ⟨vs, h, _⟩ := h; ⟨vs, h⟩
theorem piVa (hp : PE X p (tEv X T G k W e)) : PI X tg p (tIt X T G k W (.va e)) :=
  (pi_seq hp).weak fun σ H R ⟨ω, st, env, H0, sim, re, h⟩ => by
    simp only [evIt] at h
    refine ⟨ω, st, env, H0, sim, re, stepI h fun d st1 v H1 ω1 e1 s1 r1 h => ?_⟩
    cases hs : seqOf st1 d with
    | none => rw [hs] at h; exact h.elim
    | some pq =>
      obtain ⟨xs, gs⟩ := pq
      rw [hs] at h
      obtain ⟨a, rfl, hq, hk⟩ := seqKeep s1 r1 hs
      have hk' : ∀ H ω st env, RelX e.isO H1 ω1 H ω → Sim X.K H ω st → gdsOk env st (gs ++ guardOf e d) = true → SeqIn X.K H ω (isTup d) a xs := fun H ω st env x s g => hk H ω st env x s (gds_app g).1
      cases ht : isTup d with
      | true =>
        rw [ht] at hq hk'
        obtain ⟨vs, hv, _⟩ := hq
        exact ⟨a, vs, rfl, .inr ⟨by simpa using hv, h _ H1 ω1 (Ext.refl _ _) s1 (walksT hk')⟩⟩
      | false =>
        rw [ht] at hq hk'
        obtain ⟨vs, hv, _⟩ := hq
        exact ⟨a, vs, rfl, .inl ⟨by simpa using hv, h _ H1 ω1 (Ext.refl _ _) s1 (walksL hk')⟩⟩
theorem okRange_iff {i : Int} (h : okRange i = true) : -(2 ^ 62) ≤ i ∧ i < 2 ^ 62 := by
  unfold okRange at h
  simpa using h
theorem piRg1 (ok : XOk X T G kw k c) (hg : Gl X "range") (hp : PE X p (tEv X T G k W e)) (hn : e.isO = false) (h1 : nst p = true) : PI X tg (.Call (.Name "range" p1) [p] [] pos) (tIt X T G k W (.rg1 e)) :=
  (pi_range1 hg (ok.g.bt "range" (by decide +kernel)) (pa_cons hp pa_nil (star_cons h1)) (star_cons h1)).weak fun σ H R ⟨ω, st, env, H0, sim, re, h⟩ => by
    simp only [evIt] at h
    refine ⟨ω, st, env, H0, sim, re, stepI h fun d st1 v H1 ω1 e1 s1 r1 h => ?_⟩
    have r1 := r1.rep hn
    cases d with
    | int j =>
      simp only at h
      split at h
      · rename_i hj
        obtain ⟨q1, q2⟩ := okRange_iff hj
        simp only [Rep] at r1
        subst r1
        exact ⟨j, rfl, q1, q2, h _ H1 ω1 (Ext.refl _ _) s1 walksR⟩
      · exact h.elim
    | _ => exact h.elim
theorem piRg2 (ok : XOk X T G kw k c) (hg : Gl X "range") (hp : PE X p (tEv X T G k W a)) (hq : PE X q (tEv X T G k W b)) (hn : a.isO = false) (hm : b.isO = false) (h1 : nst p = true) (h2 : nst q = true) : PI X tg (.Call (.Name "range" p1) [p, q] [] pos) (tIt X T G k W (.rg2 a b)) :=
  (pi_range2 hg (ok.g.bt "range" (by decide +kernel)) (pa_cons hp (pa_cons hq pa_nil (star_cons h2)) (star_cons h1)) ((star_cons h1).trans (by rw [star_cons h2]; rfl)) ((star_cons h2).trans rfl)).weak fun σ H R ⟨ω, st, env, H0, sim, re, h⟩ => by
    simp only [evIt] at h
    refine ⟨ω, st, env, H0, sim, re, stepI h fun d st1 v H1 ω1 e1 s1 r1 h => ⟨ω1, st1, env, H0, s1, re.ext e1, stepI h fun d2 st2 v2 H2 ω2 e2 s2 r2 h => ?_⟩⟩
    have r1 := r1.rep hn
    have r2 := r2.rep hm
    cases d with
    | int i =>
      cases d2 with
      | int j =>
        simp only at h
        split at h
        · rename_i hj
          rw [Bool.and_eq_true] at hj
          obtain ⟨q1, q2⟩ := okRange_iff hj.1
          obtain ⟨q3, q4⟩ := okRange_iff hj.2
          simp only [Rep] at r1 r2
          subst r1
          subst r2
          exact ⟨i, j, rfl, ⟨q1, q2, q3, q4⟩, h _ H2 ω2 (Ext.refl _ _) s2 walksR⟩
        · exact h.elim
      | _ => exact h.elim
    | _ => exact h.elim
theorem piEn {elts : List Expr} {kk : Nat} {tpos : Pos} (ok : XOk X T G kw k c) (hg : Gl X "enumerate") (hp : PE X p (tEv X T G k W e)) (h1 : nst p = true) : PI X (.Tuple elts kk tpos) (.Call (.Name "enumerate" p1) [p] [] pos) (tIt X T G k W (.en e)) :=
  (pi_enm hg (ok.g.bt "enumerate" (by decide +kernel)) (pa_cons hp pa_nil (star_cons h1)) (star_cons h1)).weak fun σ H R ⟨ω, st, env, H0, sim, re, h⟩ => by
    simp only [evIt] at h
    refine ⟨ω, st, env, H0, sim, re, stepI h fun d st1 v H1 ω1 e1 s1 r1 h => ?_⟩
    cases hs : seqOf st1 d with
    | none => rw [hs] at h; exact h.elim
    | some pq =>
      obtain ⟨xs, gs⟩ := pq
      simp only [hs] at h
      obtain ⟨a, rfl, hq, hk⟩ := seqKeep s1 r1 hs
      have hk' : ∀ H ω st env, RelX e.isO H1 ω1 H ω → Sim X.K H ω st → gdsOk env st (gs ++ guardOf e d) = true → SeqIn X.K H ω (isTup d) a xs := fun H ω st env x s g => hk H ω st env x s (gds_app g).1
      have w := walksE (isTup d) hk'
      cases ht : isTup d with
      | true =>
        rw [ht] at hq w
        obtain ⟨vs, hv, _⟩ := hq
        exact ⟨a, vs, rfl, .inr ⟨by simpa using hv, h _ H1 ω1 (Ext.refl _ _) s1 w⟩⟩
      | false =>
        rw [ht] at hq w
        obtain ⟨vs, hv, _⟩ := hq
        exact ⟨a, vs, rfl, .inl ⟨by simpa using hv, h _ H1 ω1 (Ext.refl _ _) s1 w⟩⟩
theorem piZp {elts : List Expr} {kk : Nat} {tpos : Pos} (ok : XOk X T G kw k c) (hg : Gl X "zip") (hp : PE X p (tEv X T G k W a)) (hq : PE X q (tEv X T G k W b)) (h1 : nst p = true) (h2 : nst q = true) : PI X (.Tuple elts kk tpos) (.Call (.Name "zip" p1) [p, q] [] pos) (tIt X T G k W (.zp a b)) :=
  (RZ.pi_zipA hg (ok.g.bt "zip" (by decide +kernel)) (pa_cons hp (pa_cons hq pa_nil (star_cons h2)) (star_cons h1)) (star_cons h1) (back_any (by simp [h2]))).weak fun σ H R ⟨ω, st, env, H0, sim, re, h⟩ => by
    simp only [evIt] at h
    refine ⟨ω, st, env, H0, sim, re, stepI h fun d st1 v H1 ω1 e1 s1 r1 h => ⟨ω1, st1, env, H0, s1, re.ext e1, stepI h fun d2 st2 v2 H2 ω2 e2 s2 r2 h => ?_⟩⟩
    have r1 := r1.ext e2
    by_cases hb : (isTup d != isTup d2) = true
    · rw [if_pos hb] at h; exact h.elim
    · rw [if_neg hb] at h
      have hb : isTup d = isTup d2 := by simpa using hb
      cases hs : seqOf st2 d with
      | none => rw [hs] at h; exact h.elim
      | some pq =>
        cases hs2 : seqOf st2 d2 with
        | none => rw [hs, hs2] at h; exact h.elim
        | some pq2 =>
          obtain ⟨xs, gs⟩ := pq
          obtain ⟨ys, gs2⟩ := pq2
          simp only [hs, hs2] at h
          obtain ⟨x, rfl, hq, hk⟩ := seqKeep s2 r1 hs
          obtain ⟨y, rfl, hq2, hk2⟩ := seqKeep s2 r2 hs2
          rw [← hb] at hq2 hk2
          have w := walksZ (K := X.K) (o := (It.zp a b).isO) (gs := gs ++ guardOf a d ++ (gs2 ++ guardOf b d2)) (H0 := H2) (ω0 := ω2) (isTup d) (a := x) (b := y) (ds := xs) (es := ys) fun H ω st env z s g =>
            ⟨hk H ω st env (z.less fun q => by simp [It.isO, q]) s (gds_app (gds_app g).1).1, hk2 H ω st env (z.less fun q => by simp [It.isO, q]) s (gds_app (gds_app g).2).1⟩
          cases ht : isTup d with
          | true =>
            rw [ht] at hq hq2 w
            obtain ⟨vs, hv, _⟩ := hq
            obtain ⟨vs2, hv2, _⟩ := hq2
            exact ⟨x, y, vs, vs2, rfl, .inr ⟨by simpa using hv, by simpa using hv2, h _ H2 ω2 (Ext.refl _ _) s2 w⟩⟩
          | false =>
            rw [ht] at hq hq2 w
            obtain ⟨vs, hv, _⟩ := hq
            obtain ⟨vs2, hv2, _⟩ := hq2
            exact ⟨x, y, vs, vs2, rfl, .inl ⟨by simpa using hv, by simpa using hv2, h _ H2 ω2 (Ext.refl _ _) s2 w⟩⟩
theorem piSt (hp : PE X p (tEv X T G k W e)) (hn : e.isO = false) : PI X tg p (tIt X T G k W (.st e)) :=
  (pi_str hp).weak fun σ H R ⟨ω, st, env, H0, sim, re, h⟩ => by
    simp only [evIt] at h
    refine ⟨ω, st, env, H0, sim, re, stepI h fun d st1 v H1 ω1 e1 s1 r1 h => ?_⟩
    have r1 := r1.rep hn
    cases d with
    | str z =>
      simp only [Rep] at r1
      obtain ⟨rfl, _⟩ := r1
      exact ⟨_, rfl, h _ H1 ω1 (Ext.refl _ _) s1 walksS⟩
    | _ => exact h.elim
end

/-! ### targets -/
omit [HW] in
mutual
def Tg.slots : Tg → List Nat
  | .nm i => [i]
  | .tp ts => Tg.slotss ts
def Tg.slotss : List Tg → List Nat
  | [] => []
  | t :: ts => t.slots ++ Tg.slotss ts
end
omit [HW] in
def tG (K : PySem.W.Frag) (tg : Tg) : TG := fun v σ H Q => ∃ ω d env env' H0, Rep K H ω v d ∧ REnv K H0 H ω σ env ∧ asgTg tg d env = some env' ∧
  ∀ σ', REnv K H0 H ω σ' env' → (∀ vs, (∀ i ∈ tg.slots, i ∈ vs) → L2.wipe σ' vs = L2.wipe σ vs) → Q σ' H
omit [HW] in
def tGs (K : PySem.W.Frag) (ts : List Tg) : TGs := fun vs σ H Q => ∃ ω ds env env' H0, Reps K H ω vs ds ∧ REnv K H0 H ω σ env ∧ asgTgs ts ds env = some env' ∧
  ∀ σ', REnv K H0 H ω σ' env' → (∀ vs, (∀ i ∈ Tg.slotss ts, i ∈ vs) → L2.wipe σ' vs = L2.wipe σ vs) → Q σ' H
theorem wipe_set {σ : L2.St} {i : Nat} {x : Option V} : ∀ {vs : List Nat}, i ∈ vs → L2.wipe (σ.set i x) vs = L2.wipe σ vs
  | v :: vs, h => by
    by_cases hi : i ∈ vs
    · show (L2.wipe (σ.set i x) vs).set v none = (L2.wipe σ vs).set v none
      rw [wipe_set hi]
    · have e : i = v := (List.mem_cons.mp h).resolve_right hi
      subst e
      show (L2.wipe (σ.set i x) vs).set i none = (L2.wipe σ vs).set i none
      have : ∀ {ws : List Nat}, i ∉ ws → L2.wipe (σ.set i x) ws = (L2.wipe σ ws).set i x := by
        intro ws
        induction ws with
        | nil => intro _; rfl
        | cons w ws ih =>
          intro hn
          simp only [List.mem_cons, not_or] at hn
          show (L2.wipe (σ.set i x) ws).set w none = ((L2.wipe σ ws).set w none).set i x
          rw [ih hn.2, List.set_comm _ _ hn.1]
      rw [this hi, List.set_set]
section
variable (sc : Scope) (fn : Str → Bool) (N : List Str)
omit [HW] in
/-- a name that may be stored -/
def locB (x : Str) : Bool := (match sc.names.lookup x with | some .local => true | some .cell => true | _ => false) && (fn x || decide (sc.names.lookup x = some .local))
omit [HW] in
mutual
def chkTg : Tg → Expr → Bool
  | .nm i, .Name x _ => decide (N[i]? = some x) && locB sc fn x
  | .tp ts, .Tuple ps _ _ => chkTgs ts ps
  | _, _ => false
def chkTgs : List Tg → List Expr → Bool
  | [], [] => true
  | t :: ts, p :: ps => chkTg t p && chkTgs ts ps
  | _, _ => false
end
end
theorem locB_ok {sc : Scope} {fn : Str → Bool} {x : Str} (h : locB sc fn x = true) : Loc sc x ∧ (fn x = true ∨ sc.names.lookup x = some .local) := by
  unfold locB at h
  rw [Bool.and_eq_true, Bool.or_eq_true, decide_eq_true_eq] at h
  refine ⟨?_, h.2⟩
  have h1 := h.1
  split at h1 <;> first | (rename_i q; exact .inl q) | (rename_i q; exact .inr q) | cases h1
mutual
theorem asgTg_len : ∀ (t : Tg) {d : D} {env env' : Env}, asgTg t d env = some env' → env'.length = env.length
  | .nm i, d, env, env', h => by
    simp only [asgTg] at h
    split at h
    · cases h; simp
    · cases h
  | .tp ts, d, env, env', h => by
    simp only [asgTg] at h
    split at h
    · exact asgTgs_len1 ts h
    · cases h
theorem asgTgs_len1 : ∀ (ts : List Tg) {ds : List D} {env env' : Env}, asgTgs ts ds env = some env' → env'.length = env.length
  | [], ds, env, env', h => by
    cases ds with
    | nil => simp only [asgTgs] at h; cases h; rfl
    | cons d ds => simp [asgTgs] at h
  | t :: ts, ds, env, env', h => by
    cases ds with
    | nil => simp [asgTgs] at h
    | cons d ds =>
      simp only [asgTgs] at h
      split at h
      · rename_i e1 he
        rw [asgTgs_len1 ts h, asgTg_len t he]
      · cases h
end
theorem asgTgs_len : ∀ (ts : List Tg) {ds : List D} {env env' : Env}, asgTgs ts ds env = some env' → ds.length = ts.length
  | [], ds, env, env', h => by
    cases ds with
    | nil => rfl
    | cons d ds => simp [asgTgs] at h
  | t :: ts, ds, env, env', h => by
    cases ds with
    | nil => simp [asgTgs] at h
    | cons d ds =>
      simp only [asgTgs] at h
      split at h
      · simp [asgTgs_len ts h]
      · cases h
omit [HW] in
def tgOk : Expr → Bool
  | .Name _ _ => true
  | .Tuple _ _ _ => true
  | .Subscript _ _ _ => true
  | _ => false
theorem asg_cons {e : Expr} {es : List Expr} {env : PySem.Env} (h : tgOk e = true) : assignEach (e :: es) env = (false, assign e env) :: assignEach es env := by
  cases e <;> first | rfl | cases h
theorem asg_all {env : PySem.Env} : ∀ {es : List Expr}, es.all tgOk = true → (assignEach es env).length = es.length ∧ (assignEach es env).findIdx? (·.1) = none
  | [], _ => ⟨rfl, rfl⟩
  | e :: es, h => by
    simp only [List.all_cons, Bool.and_eq_true] at h
    rw [asg_cons h.1]
    obtain ⟨h1, h2⟩ := asg_all (env := env) h.2
    refine ⟨by simp [h1], ?_⟩
    rw [List.findIdx?_cons]
    simp [h2]
section
variable {X : Cx} {T : Nm} {G : Pg} {k : Nat} {c : Cn} {kw : List Kw}
mutual
theorem pgTg (ok : XOk X T G kw k c) : ∀ (t : Tg) {p : Expr}, chkTg c.sc c.fn c.N t p = true → PG X p (tG X.K t) ∧ tgOk p = true
  | .nm i, p, h => by
    cases p with
    | Name x pos =>
      simp only [chkTg, Bool.and_eq_true, decide_eq_true_eq] at h
      obtain ⟨h1, h2⟩ := h
      obtain ⟨h2, h3⟩ := locB_ok h2
      have g := pg_name (X := X) (i := i) (x := x) (pos := pos) (by rw [ok.N]; exact ok.nd) (by rw [ok.N]; exact h1) (by rw [ok.sc]; exact h2) (by rw [ok.fn, ok.sc]; exact h3)
      refine ⟨⟨fun pins s σ H v u Q I rv q => g.run pins s σ H v u Q I rv ?_⟩, rfl⟩
      obtain ⟨ω, d, env, env', H0, r, re, ha, hq⟩ := q
      simp only [asgTg] at ha
      split at ha
      · rename_i hi
        cases ha
        exact hq _ (re.setV hi r) fun vs hv => wipe_set (hv i (by simp [Tg.slots]))
      · cases ha
    | _ => simp [chkTg] at h
  | .tp ts, p, h => by
    cases p with
    | Tuple ps kk pos =>
      simp only [chkTg] at h
      obtain ⟨g, hl, hall⟩ := pgTgs ok ts h
      obtain ⟨h1, h2⟩ := asg_all (env := X.env) hall
      have g := pg_tup (X := X) (k := kk) (pos := pos) (n := ts.length) ok.calm g (h1.trans hl) h2
      refine ⟨⟨fun pins s σ H v u Q I rv q => g.run pins s σ H v u Q I rv ?_⟩, rfl⟩
      obtain ⟨ω, d, env, env', H0, r, re, ha, hq⟩ := q
      simp only [asgTg] at ha
      split at ha
      · rename_i ds
        simp only [Rep] at r
        obtain ⟨a, vs, rfl, ht, hz, hr⟩ := r
        exact ⟨a, vs, rfl, ht.sq, by rw [hr.length, asgTgs_len ts ha], ω, ds, env, env', H0, hr, re, ha, fun σ' re' hw => hq σ' re' fun vs hv => hw vs fun i hi => hv i (by simpa [Tg.slots] using hi)⟩
      · cases ha
    | _ => simp [chkTg] at h
theorem pgTgs (ok : XOk X T G kw k c) : ∀ (ts : List Tg) {ps : List Expr}, chkTgs c.sc c.fn c.N ts ps = true → PGs X ps (tGs X.K ts) ∧ ps.length = ts.length ∧ ps.all tgOk = true
  | [], ps, h => by
    cases ps with
    | nil =>
      refine ⟨⟨fun pins s σ H vs us Q I rv q => pgs_nil.run pins s σ H vs us Q I rv ?_⟩, rfl, rfl⟩
      obtain ⟨ω, ds, env, env', H0, r, re, ha, hq⟩ := q
      cases ds with
      | nil =>
        simp only [asgTgs] at ha
        cases ha
        cases vs with
        | nil => exact ⟨rfl, hq σ re fun _ _ => rfl⟩
        | cons v vs => exact r.elim
      | cons d ds => simp [asgTgs] at ha
    | cons p ps => simp [chkTgs] at h
  | t :: ts, ps, h => by
    cases ps with
    | nil => simp [chkTgs] at h
    | cons p ps =>
      simp only [chkTgs, Bool.and_eq_true] at h
      obtain ⟨g1, ho⟩ := pgTg ok t h.1
      obtain ⟨g2, hl, hall⟩ := pgTgs ok ts h.2
      have g := pgs_cons g1 g2 (by rw [asg_cons ho]; rfl)
      refine ⟨⟨fun pins s σ H vs us Q I rv q => g.run pins s σ H vs us Q I rv ?_⟩, by simp [hl], by simp [ho]; simpa using hall⟩
      obtain ⟨ω, ds, env, env', H0, r, re, ha, hq⟩ := q
      cases ds with
      | nil => simp [asgTgs] at ha
      | cons d ds =>
        cases vs with
        | nil => exact r.elim
        | cons v vs =>
          simp only [Reps] at r
          simp only [asgTgs] at ha
          split at ha
          · rename_i e1 he
            exact ⟨v, vs, rfl, ω, d, env, e1, H0, r.1, re, he, fun σ' re' hw => ⟨ω, ds, e1, env', H0, r.2, re', ha, fun σ2 re2 hw2 => hq σ2 re2 fun ws hws => (hw2 ws fun i hi => hws i (by simp [Tg.slotss, hi])).trans (hw ws fun i hi => hws i (by simp [Tg.slotss, hi]))⟩⟩
          · cases ha
end
end
end Ev

set_option Elab.async false
set_option linter.all false
set_option maxRecDepth 100000
/-! List comprehensions. -/
namespace Ev
open PySem PySem.Spec PyProof.Rows L2
variable [HW]

omit [HW] in
/-- nothing is wanted of an exception: none may come -/
def noW : WX := fun _ _ _ _ => False
theorem sub_some {α : Type} {xs : List α} {i : Nat} {ys : List α} {x : α} (h : xs.drop i = x :: ys) : xs[i]? = some x ∧ xs.drop (i + 1) = ys ∧ i < xs.length := by
  have h1 : xs[i]? = some x := by
    have := congrArg (·[0]?) h
    simpa using this
  refine ⟨h1, ?_, (List.getElem?_eq_some_iff.mp h1).1⟩
  rw [← List.drop_drop, h]
  rfl
section
variable {K : PySem.W.Frag} {H H' : Hp} {ω ω' : Wd} {st : St}
/-- a list that is neither frozen nor a cell is rewritten -/
theorem WExt.own {a : Addr} {xs ys : List V} (h : H a = some (.lst xs)) (hf : ¬ ω.F a) : WExt H ω (upd H a (.lst ys)) ω where
  pre := List.prefix_refl _
  frz := fun _ h => h
  keep := fun b o e _ q => by
    by_cases hb : b = a
    · subst hb
      rw [h] at e
      cases e
      exact q.elim (fun z => absurd z hf) fun z => nomatch z
    · rw [upd_ne hb]; exact e
  new := fun _ h => .inl h
  stay := fun b e => by
    by_cases hb : b = a
    · subst hb; rw [upd_same]; simp
    · rw [upd_ne hb]; exact e
theorem Sim.own (s : Sim K H ω st) {a : Addr} {xs ys : List V} (h : H a = some (.lst xs)) (hn : a ∉ ω.φ) (hf : ¬ ω.F a) : Sim K (upd H a (.lst ys)) ω st :=
  ⟨s.len, s.nd, s.nF, fun b hb => (WExt.own (ys := ys) h hf).stay b (s.hF b hb), fun n c e => by
    obtain ⟨b, h1, h2⟩ := s.cell n c e
    have hb : b ≠ a := fun z => hn (by rw [← z]; exact List.mem_of_getElem? h1)
    refine ⟨b, h1, ?_⟩
    cases c with
    | lst zs =>
      obtain ⟨vs, q1, q2, q3⟩ := h2
      exact ⟨vs, by rw [upd_ne hb]; exact q1, q2, Reps.wext (WExt.own h hf) zs q3⟩
    | dct kvs =>
      obtain ⟨vs, q1, q2⟩ := h2
      refine ⟨vs, by rw [upd_ne hb]; exact q1, ?_⟩
      have : ∀ {ps : List (Key × V)} {qs : List (Key × D)}, RepK K H ω ps qs → RepK K (upd H a (.lst ys)) ω ps qs := by
        intro ps
        induction ps with
        | nil =>
          intro qs q
          cases qs with
          | nil => trivial
          | cons _ _ => exact q.elim
        | cons p ps ih =>
          intro qs q
          cases qs with
          | nil => exact q.elim
          | cons r qs =>
            simp only [RepK] at q ⊢
            exact ⟨⟨q.1.1, Rep.wext (WExt.own h hf) _ q.1.2⟩, ih q.2⟩
      exact this q2
    | dcn kvs =>
      obtain ⟨o, ws, q1, q2, q3, q4, q5⟩ := h2
      exact ⟨o, ws, by rw [upd_ne hb]; exact q1, q2, q3, q4, q5.rext (WExt.own h hf).r⟩⟩
/-- a list is frozen: from now on nobody changes it -/
theorem RExt.freeze (ω : Wd) (H : Hp) (a : Addr) : RExt H ω H (ω.frz a) := ⟨List.prefix_refl _, fun _ h => .inl h, fun _ _ h _ _ => h, fun _ h => .inl h⟩
theorem RepK.rext (e : RExt H ω H' ω') : ∀ {ps : List (Key × V)} {qs : List (Key × D)}, RepK K H ω ps qs → RepK K H' ω' ps qs
  | [], [], h => h
  | p :: ps, q :: qs, h => by
    simp only [RepK] at h ⊢
    exact ⟨⟨h.1.1, Rep.rext e _ h.1.2⟩, RepK.rext e h.2⟩
  | [], _ :: _, h => h.elim
  | _ :: _, [], h => h.elim
theorem Sim.freeze (s : Sim K H ω st) {a : Addr} (h : H a ≠ none) (hn : a ∉ ω.φ) : Sim K H (ω.frz a) st :=
  ⟨s.len, s.nd, fun b hb hq => hq.elim (s.nF b hb) fun z => hn (by rw [← z]; exact hb), fun b hb => hb.elim (s.hF b) fun z => by rw [z]; exact h, fun n c e => by
    obtain ⟨b, h1, h2⟩ := s.cell n c e
    refine ⟨b, h1, ?_⟩
    cases c with
    | lst zs =>
      obtain ⟨vs, q1, q2, q3⟩ := h2
      exact ⟨vs, q1, q2, Reps.rext (RExt.freeze ω H a) zs q3⟩
    | dct kvs =>
      obtain ⟨vs, q1, q2⟩ := h2
      exact ⟨vs, q1, q2.rext (RExt.freeze ω H a)⟩
    | dcn kvs =>
      obtain ⟨o, ws, q1, q2, q3, q4, q5⟩ := h2
      exact ⟨o, ws, q1, q2, q3, q4, q5.rext (RExt.freeze ω H a)⟩⟩
theorem Ext.freeze {H0 : Hp} {ω0 : Wd} (x : Ext H0 ω0 H ω) {a : Addr} (h : H0 a = none) : Ext H0 ω0 H (ω.frz a) :=
  ⟨x.pre, fun b hb => .inl (x.frz b hb), x.keep, x.new, fun b hb => hb.elim (x.newF b) fun z => .inr (by rw [z]; exact h), x.cells⟩
/-- a list that is younger than the start is rewritten -/
theorem Ext.young {H0 : Hp} {ω0 : Wd} (x : Ext H0 ω0 H ω) {a : Addr} {o : HO} (h : H0 a = none) : Ext H0 ω0 (upd H a o) ω where
  pre := x.pre
  frz := x.frz
  keep := fun b u e n => by rw [upd_ne (ne_of_none e h)]; exact x.keep b u e n
  new := x.new
  newF := x.newF
  cells := fun b hb n => by
    by_cases e : b = a
    · subst e; exact absurd h n
    · rw [upd_ne e]; exact x.cells b hb n
end
section
variable {X : Cx} {T : Nm} {G : Pg} {k : Nat} {W : WX} {c : Cn} {kw : List Kw} {pos p1 p2 : Pos} {p q r ptg piter : Expr} {a b e elt cond : E} {it : Ev.It} {tg : Tg} {own : List Nat} {σ : L2.St} {H : Hp}
theorem noX_ok {α : Type} {r : R α} {a : α} {st : St} (h : r.noX = .ok a st) : r = .ok a st := by
  cases r with
  | ok a st => exact h
  | ex x st => cases h
  | no => cases h
theorem bind_ok' {α β : Type} {r : R α} {f : α → St → R β} {b : β} {st : St} (h : r.bind f = .ok b st) : ∃ a st1, r = .ok a st1 ∧ f a st1 = .ok b st := by
  cases r with
  | ok a st1 => exact ⟨a, st1, rfl, h⟩
  | ex x st => cases h
  | no => cases h
/-- what is wanted of the new list -/
def LcQ (X : Cx) (Q : VK) (H1 : Hp) (ω1 : Wd) (ys : List D) (st : St) : Prop :=
  ∀ D H' ω' vs, H1 D = none → Ext H1 ω1 H' ω' → Sim X.K H' ω' st → H' D = some (.lst vs) → D ∉ ω'.φ → ¬ ω'.F D → ys.length ≤ sizeLine → Reps X.K H' ω' vs ys → Q (.ref D) H'
/-- the turns -/
theorem lcTurns {env : Env} {H0 H1 : Hp} {ω1 : Wd} {Q : VK} {J : L2.It} {ds : List D} {gs : List Gd} {st1 stF : St} {ys : List D} {o : Bool} (re : REnv X.K H0 H1 ω1 σ env) (s1 : Sim X.K H1 ω1 st1) (hw : WalksR X.K o J ds gs H1 ω1) (hz : ds.length ≤ sizeLine)
    (hsl : ∀ i ∈ tg.slots, i ∈ own) (hc : cond.isO = false) (he : elt.isO = false)
    (hl : lcLoop (fun x st2 => match asgTg tg x (wipeE env own) with
      | some env1 => (ev (callN G k) G.gl env1 st2 cond).bind fun c st3 => cnd c ((ev (callN G k) G.gl env1 st3 elt).bind fun y st4 => .ok (some y) st4) (.ok none st3)
      | none => .no) gs env ds st1 = .ok ys stF)
    (hQ : LcQ X Q H1 ω1 ys stF) : ∀ A, H1 A = none → ∃ W : Nat → Nat → Hp → Prop, (∃ m, W 0 m (upd H1 A (.lst []))) ∧ ∀ i m H, W i m H →
      (J.stop i H ∧ Q (.ref A) H) ∨ (J.go i H ∧ ∃ Nx : Hp → Prop, (∀ H', Nx H' → ∃ m', m' < m ∧ W (i + 1) m' H') ∧ ∀ x H', J.yld i H x H' → tG X.K tg x (L2.wipe σ own) H' fun σ2 H2 => L2.wipe σ2 own = L2.wipe σ own ∧ tT X T G k noW cond σ2 H2 fun b H3 =>
        if b = true then tEv X T G k noW elt σ2 H3 fun y H4 => ∃ acc, H4 A = some (.lst acc) ∧ acc.length < sizeLine ∧ Nx (upd H4 A (.lst (acc ++ [y]))) else Nx H3) := by
  intro A hA
  generalize hF : (fun x st2 => match asgTg tg x (wipeE env own) with
      | some env1 => (ev (callN G k) G.gl env1 st2 cond).bind fun c st3 => cnd c ((ev (callN G k) G.gl env1 st3 elt).bind fun y st4 => .ok (some y) st4) (.ok none st3)
      | none => .no : D → St → R (Option D)) = F at hl
  refine ⟨fun i m H => m = ds.length - i ∧ i ≤ ds.length ∧ ∃ ω st acc accD rest, Ext H1 ω1 H ω ∧ Sim X.K H ω st ∧ H A = some (.lst acc) ∧ A ∉ ω.φ ∧ ¬ ω.F A ∧ Reps X.K H ω acc accD ∧ accD.length ≤ i ∧ lcLoop F gs env (ds.drop i) st = .ok rest stF ∧ accD ++ rest = ys,
    ⟨ds.length, rfl, Nat.zero_le _, ω1, st1, [], [], ys, (Ext.updN s1 hA), s1.updN hA, upd_same, s1.fresh hA, fun z => s1.hF A z hA, trivial, Nat.le_refl _, hl, rfl⟩, ?_⟩
  rintro i m H ⟨rfl, hi, ω, st, acc, accD, rest, x1, sim, hacc, hn, hnf, hr, hal, hloop, hys⟩
  cases hd : ds.drop i with
  | nil =>
    have hi' : i = ds.length := by
      have := congrArg List.length hd
      simp at this
      omega
    subst hi'
    rw [hd] at hloop
    unfold lcLoop at hloop
    split at hloop
    · rename_i hg
      cases hloop
      obtain ⟨_, h2, _⟩ := hw H ω _ env (.of x1) sim hg
      refine .inl ⟨h2, ?_⟩
      rw [List.append_nil] at hys
      subst hys
      exact hQ A H ω acc hA x1 sim hacc hn hnf (Nat.le_trans hal hz) hr
    · cases hloop
  | cons x xs =>
    obtain ⟨hx, hxs, hlt⟩ := sub_some hd
    rw [hd] at hloop
    unfold lcLoop at hloop
    split at hloop
    · rename_i hg
      obtain ⟨h1, _, h3⟩ := hw H ω _ env (.of x1) sim hg
      obtain ⟨ov, st2, hF1, hloop⟩ := bind_ok' hloop
      obtain ⟨ys2, st3, hF2, hloop⟩ := bind_ok' hloop
      cases hloop
      refine .inr ⟨h1 i hlt, fun H' => ∃ ω' acc' accD', Ext H1 ω1 H' ω' ∧ Sim X.K H' ω' st2 ∧ H' A = some (.lst acc') ∧ A ∉ ω'.φ ∧ ¬ ω'.F A ∧ Reps X.K H' ω' acc' accD' ∧ accD'.length ≤ i + 1 ∧ accD' ++ ys2 = ys,
        fun H' ⟨ω', acc', accD', q1, q2, q3, q4, q5, q6, q7, q8⟩ => ⟨ds.length - (i + 1), by omega, rfl, hlt, ω', st2, acc', accD', ys2, q1, q2, q3, q4, q5, q6, q7, by rw [hxs]; exact hF2, q8⟩, fun y H' yl => ?_⟩
      obtain ⟨ω2, e2, s2, r2⟩ := h3 i x hx y H' yl
      rw [← hF] at hF1
      simp only at hF1
      cases ha : asgTg tg x (wipeE env own) with
      | none => rw [ha] at hF1; cases hF1
      | some env1 =>
        rw [ha] at hF1
        simp only at hF1
        have x2 := x1.trans e2
        refine ⟨ω2, x, wipeE env own, env1, H0, r2, (re.ext x2).wipe own, ha, fun σ2 re2 hw2 => ⟨(hw2 own hsl).trans ?_, ?_⟩⟩
        · have : ∀ {vs : List Nat} {σ : L2.St}, L2.wipe (L2.wipe σ vs) vs = L2.wipe σ vs := by
            intro vs σ
            apply List.ext_getElem?
            intro j
            have z1 := wipe_get [] (L2.wipe σ vs) vs j
            by_cases hj : j ∈ vs
            · have len : (L2.wipe (L2.wipe σ vs) vs).length = (L2.wipe σ vs).length := wipe_len _ _
              have no : ∀ {τ : L2.St} {ws : List Nat}, j ∈ ws → ∀ o, (L2.wipe τ ws)[j]? = some o → o = none := by
                intro τ ws
                induction ws with
                | nil => intro h; simp at h
                | cons w ws ih =>
                  intro hj o ho
                  unfold L2.wipe at ho
                  by_cases hw : w = j
                  · subst hw
                    by_cases hl : w < (L2.wipe τ ws).length
                    · rw [List.getElem?_set_self hl] at ho
                      exact (Option.some.inj ho).symm
                    · rw [List.getElem?_eq_none (by simpa using hl)] at ho
                      cases ho
                  · rw [List.getElem?_set_ne hw] at ho
                    exact ih ((List.mem_cons.mp hj).resolve_left fun z => hw z.symm) o ho
              by_cases hlt : j < (L2.wipe σ vs).length
              · have h1 : j < (L2.wipe (L2.wipe σ vs) vs).length := by rw [len]; exact hlt
                rw [List.getElem?_eq_getElem hlt, List.getElem?_eq_getElem h1]
                have a1 := no hj _ (List.getElem?_eq_getElem hlt)
                have a2 := no hj _ (List.getElem?_eq_getElem h1)
                rw [a1, a2]
              · rw [List.getElem?_eq_none (l := L2.wipe (L2.wipe σ vs) vs) (Nat.le_of_not_lt fun z => hlt (Nat.lt_of_lt_of_eq z len)), List.getElem?_eq_none (l := L2.wipe σ vs) (Nat.le_of_not_lt hlt)]
            · exact (z1.2 hj).2
          exact this
        · -- the test
          obtain ⟨cv, st4, hc1, hF1⟩ := bind_ok' hF1
          have hb : ∃ b, cv = .bl b := by
            cases cv with
            | bl b => exact ⟨b, rfl⟩
            | _ => cases hF1
          obtain ⟨b, rfl⟩ := hb
          have accAt : ∀ {H3 ω3}, Ext H ω H3 ω3 → H3 A = some (.lst acc) ∧ A ∉ ω3.φ ∧ ¬ ω3.F A := fun x => ⟨x.keep _ _ hacc hn, fun z => (x.new A z).elim hn fun w => (by rw [hacc] at w; cases w), fun z => (x.newF A z).elim hnf fun w => (by rw [hacc] at w; cases w)⟩
          refine ⟨ω2, st, env1, H0, s2, re2, ?_⟩
          rw [hc1]
          intro v H3 ω3 e3 s3 r3
          have r3 := (r3.rep hc).isBl
          subst r3
          refine ⟨b, rfl, ?_⟩
          have x3 := x2.trans e3
          show ite _ _ _
          cases b with
          | false =>
            rw [if_neg Bool.false_ne_true]
            cases hF1
            obtain ⟨q1, q2, q3⟩ := accAt (e2.trans e3)
            refine ⟨ω3, acc, accD, x3, s3, q1, q2, q3, Reps.ext (e2.trans e3) _ hr, Nat.le_succ_of_le hal, hys⟩
          | true =>
            rw [if_pos rfl]
            replace hF1 : (ev (callN G k) G.gl env1 st4 elt).bind (fun y st4 => R.ok (some y) st4) = R.ok ov st2 := hF1
            obtain ⟨yv, st5, he1, hF1⟩ := bind_ok' hF1
            cases hF1
            refine ⟨ω3, st4, env1, H0, s3, re2.ext e3, ?_⟩
            rw [he1]
            intro w H4 ω4 e4 s4 r4
            have r4 := r4.rep he
            obtain ⟨q1, q2, q3⟩ := accAt ((e2.trans e3).trans e4)
            have hlen : acc.length = accD.length := hr.length
            refine ⟨acc, q1, by omega, ω4, acc ++ [w], accD ++ [yv], (x3.trans e4).young hA, s4.own q1 q2 q3, upd_same, q2, q3, ?_, by simp; omega, by rw [List.append_assoc]; exact hys⟩
            have z := (Reps.ext ((e2.trans e3).trans e4) _ hr).append (show Reps X.K H4 ω4 [w] [yv] by simp only [Reps]; exact ⟨r4, trivial⟩)
            exact Reps.wext (WExt.own q1 q3) _ z
    · cases hloop
omit [HW] in
/-- the context of a block -/
def Cn.blk (c : Cn) (scope : Scope) : Cn := ⟨c.N, relS scope c.sc, fun x => scope.names.lookup x == some .cell⟩
theorem XOk.blk (ok : XOk X T G kw k c) (s : Shared) (H : Hp) (scope : Scope) (C : Addr) (cl : List (Str × Addr)) (fp : List Addr) : XOk (X.blk s H scope (compEnvC scope cl C X.env) fp) T G kw k (c.blk scope) :=
  ⟨ok.N, by show relS scope X.env.scope = relS scope c.sc; rw [ok.sc], rfl, ok.calm, ok.nd, ok.room, ok.gd, ok.g⟩
theorem takes_no {Y : Cx} : Takes Y noW := fun u s' ⟨a, B, sI, pins, σ, H, cls, d, e, I, nb, up, sky, na, os, ag, w⟩ => w.elim
def lcIfs (Y : Cx) (ifs : List Expr) (cond : E) (T : Nm) (G : Pg) (k : Nat) : Prop := (ifs = [] ∧ cond = .cst (.bl true)) ∨ ∃ c, ifs = [c] ∧ PT Y c (tT Y T G k noW cond)
theorem lcIfs_pts {Y : Cx} {ifs : List Expr} (h : lcIfs Y ifs cond T G k) : PTs Y ifs (tT Y T G k noW cond) := by
  rcases h with ⟨rfl, rfl⟩ | ⟨c, rfl, h⟩
  · refine ⟨fun pins s σ H Q I hw => pts_nil.run pins s σ H Q I ?_⟩
    obtain ⟨ω, st, env, H0, sim, re, h⟩ := hw
    obtain ⟨b, e, q⟩ := h (.bl true) H ω (Ext.refl _ _) sim (RepE.of rfl (by simp only [Rep]))
    cases e
    exact q
  · exact pts_one h
section
variable {pelt : Expr} {ifs : List Expr} {scope : Scope} {own' : List (Str × Nat)}
/-- a comprehension's wish, by its loop -/
theorem lcKey {σ : L2.St} {H : Hp} {Q : VK} {e0 : E} {ω : Wd} {st : St} {env : Env} {H0 : Hp} (fin : ∀ H1 ω1 ys st, Ext H ω H1 ω1 → PostE X T W σ Q H1 ω1 e0 (.ok (.lst ys) st) → LcQ X Q H1 ω1 ys st)
    (sim : Sim X.K H ω st) (re : REnv X.K H0 H ω σ env) (hsl : ∀ i ∈ tg.slots, i ∈ own) (hc : cond.isO = false) (he : elt.isO = false)
    (h : PostE X T W σ Q H ω e0 (ev (callN G k) G.gl env st (.lc elt tg it cond own))) :
    tLc (tIt X T G k W it) (tG X.K tg) (tT X T G k noW cond) (tEv X T G k noW elt) own σ H Q := by
  simp only [ev] at h
  refine ⟨ω, st, env, H0, sim, re, ?_⟩
  cases hi : evIt (callN G k) G.gl env st it with
  | no => rw [hi] at h; exact h.elim
  | ex x st1 => rw [hi] at h; exact h
  | ok pq st1 =>
    obtain ⟨ds, gs⟩ := pq
    rw [hi] at h
    simp only [R.bind_ok] at h
    intro J H1 ω1 e1 s1 hw A hA
    split at h
    · rename_i hz
      revert h
      generalize hl : lcLoop _ gs env ds st1 = r
      intro h
      cases r with
      | no => exact h.elim
      | ex x st2 => exact h.elim
      | ok ys st2 => exact lcTurns (re.ext e1) s1 hw hz hsl hc he hl (fin H1 ω1 ys st2 e1 (PostE.mono e1 h)) A hA
    · exact h.elim
theorem lcFin {σ : L2.St} {H : Hp} {Q : VK} {e0 : E} {ω : Wd} (h0 : e0.isO = false) : ∀ H1 ω1 ys st, Ext H ω H1 ω1 → PostE X T W σ Q H1 ω1 e0 (.ok (.lst ys) st) → LcQ X Q H1 ω1 ys st := fun H1 ω1 ys st e1 h D H' ω' vs hD x s hv hn hf hl hr => by
  refine h (.ref D) H' (ω'.frz D) (x.freeze hD) (s.freeze (by rw [hv]; simp) hn) (RepE.of h0 ?_)
  simp only [Rep]
  exact ⟨D, vs, rfl, ⟨hv, hn, .inr rfl⟩, hl, Reps.rext (RExt.freeze ω' H' D) _ hr⟩
theorem peLc (ok : XOk X T G kw k c) (hi : PI X ptg piter (tIt X T G k W it)) (hb : blkC c.N c.sc scope own' = true) (hg : chkTg (relS scope c.sc) (fun x => scope.names.lookup x == some .cell) c.N tg ptg = true)
    (ht : ∀ (s : Shared) (H : Hp) (C : Addr) (cl : List (Str × Addr)) (fp : List Addr), lcIfs (X.blk s H scope (compEnvC scope cl C X.env) fp) ifs cond T G k)
    (hel : ∀ (s : Shared) (H : Hp) (C : Addr) (cl : List (Str × Addr)) (fp : List Addr), PE (X.blk s H scope (compEnvC scope cl C X.env) fp) pelt (tEv X T G k noW elt))
    (hs : ∀ x, foldedSetIterable piter X.env x = pure x) (hsl : ∀ i ∈ tg.slots, i ∈ own'.map (·.2)) (hc : cond.isO = false) (he : elt.isO = false) :
    PE X (.ListComp pelt [⟨ptg, piter, ifs, 0⟩] scope pos) (tEv X T G k W (.lc elt tg it cond (own'.map (·.2)))) :=
  (pe_lc ok.calm (by rw [ok.N]; exact ok.nd) hi (blkOk_by (by rw [ok.N, ok.sc]; exact hb)) (fun s H C cl fp => (pgTg (ok.blk s H scope C cl fp) tg hg).1) (fun s H C cl fp => lcIfs_pts (ht s H C cl fp)) hel hs).weak
    fun σ H Q ⟨ω, st, env, H0, sim, re, h⟩ => lcKey (lcFin rfl) sim re hsl hc he h
end
end
end Ev

set_option Elab.async false
set_option linter.all false
set_option maxRecDepth 100000
/-! Dicts whose keys are nested tuples: the tree's forms. -/
namespace Ev
open PySem PySem.Spec PyProof.Rows L2
variable [HW]
section
variable {K : PySem.W.Frag} {H : Hp} {ω : Wd} {st : St}
theorem RepN.get : ∀ {xs : List (NestedKey × Addr × Value)} {kvs : List (D × D)} {i : Nat} {q : D × D}, RepN K H ω xs kvs → kvs[i]? = some q → ∃ p, xs[i]? = some p ∧ Rep K H ω (.ref p.2.1) q.1 ∧ ∃ v, RelV v p.2.2 ∧ Rep K H ω v q.2
  | [], [], _, _, _, e => by simp at e
  | p :: ps, q :: qs, 0, _, h, e => by
    simp only [RepN] at h
    simp at e; subst e
    exact ⟨p, rfl, h.1.1.2, h.1.2⟩
  | p :: ps, q :: qs, i + 1, _, h, e => by
    simp only [RepN] at h
    obtain ⟨p', h1, h2⟩ := RepN.get (i := i) h.2 (by simpa using e)
    exact ⟨p', by simpa using h1, h2⟩
  | [], _ :: _, _, _, h, _ => h.elim
  | _ :: _, [], _, _, h, _ => h.elim
theorem RepN.vals : ∀ {xs : List (NestedKey × Addr × Value)} {kvs : List (D × D)}, RepN K H ω xs kvs → ∀ x ∈ xs, ∃ v, RelV v x.2.2
  | [], [], _, _, hx => by cases hx
  | p :: ps, q :: qs, h, x, hx => by
    simp only [RepN] at h
    rcases List.mem_cons.mp hx with rfl | hx
    · obtain ⟨v, h1, _⟩ := h.1.2
      exact ⟨v, h1⟩
    · exact RepN.vals h.2 x hx
  | [], _ :: _, h, _, _ => h.elim
  | _ :: _, [], h, _, _ => h.elim
theorem Sim.nh (sim : Sim K H ω st) {n : Nat} {kvs : List (D × D)} {a : Addr} (ha : ω.φ[n]? = some a) (hc : st[n]? = some (.dcn kvs)) : ∃ o xs, NHas H a o xs ∧ RepN K H ω xs kvs ∧ (a == sysModules) = false := by
  obtain ⟨a', ha', o, xs, h1, h2, h3, h4, h5⟩ := sim.cell n _ hc
  rw [ha] at ha'
  cases ha'
  exact ⟨o, xs, ⟨h1, h4, h5.vals⟩, h5, h2⟩
theorem dnAt_eq {d : D} {p : Nat × List (D × D)} (h : dnAt st d = some p) : d = .ref p.1 ∧ st[p.1]? = some (.dcn p.2) := by
  unfold dnAt at h
  split at h
  · split at h
    · rename_i n _ kvs hc
      cases h
      exact ⟨rfl, hc⟩
    · cases h
  · cases h
theorem walksN {o : Bool} {n : Nat} {kvs : List (D × D)} {a : Addr} {H0 : Hp} {ω0 : Wd} (ha : ω0.φ[n]? = some a) : WalksR K o (ItN a kvs.length) (kvs.map (·.1)) [.dcl n kvs] H0 ω0 := fun H ω st env x s g => by
  have hc : st[n]? = some (.dcn kvs) := by simpa [gdsOk, Gd.ok] using g
  obtain ⟨ob, xs, hh, hr, _⟩ := s.nh (x.w.at ha) hc
  have nl : NLen H a kvs.length := ⟨ob, xs, hh, hr.length⟩
  refine ⟨fun i hi => ⟨nl, by simpa using hi⟩, ⟨nl, by simp⟩, fun i d hd y H' yl => ?_⟩
  obtain ⟨rfl, hy⟩ := yl
  obtain ⟨p, hp, rfl⟩ := hy ob xs hh
  rw [List.getElem?_map] at hd
  cases hq : kvs[i]? with
  | none => rw [hq] at hd; cases hd
  | some q =>
    rw [hq] at hd
    cases hd
    obtain ⟨p', hp', r1, _⟩ := hr.get hq
    rw [hp] at hp'
    cases hp'
    exact ⟨ω, Ext.refl _ _, s, r1⟩
theorem walksNi {o : Bool} {n : Nat} {kvs : List (D × D)} {a : Addr} {H0 : Hp} {ω0 : Wd} (ha : ω0.φ[n]? = some a) : WalksR K o (ItNi a kvs.length) (kvs.map fun q => .tup [q.1, q.2]) [.dcl n kvs] H0 ω0 := fun H ω st env x s g => by
  have hc : st[n]? = some (.dcn kvs) := by simpa [gdsOk, Gd.ok] using g
  obtain ⟨ob, xs, hh, hr, _⟩ := s.nh (x.w.at ha) hc
  have nl : NLen H a kvs.length := ⟨ob, xs, hh, hr.length⟩
  refine ⟨fun i hi => ⟨nl, by simpa using hi⟩, ⟨nl, by simp⟩, fun i d hd y H' yl => ?_⟩
  obtain ⟨t, c, v, rfl, ht, rfl, hy⟩ := yl
  obtain ⟨p, hp, rfl, rv⟩ := hy ob xs hh
  rw [List.getElem?_map] at hd
  cases hq : kvs[i]? with
  | none => rw [hq] at hd; cases hd
  | some q =>
    rw [hq] at hd
    cases hd
    obtain ⟨p', hp', r1, w, rw', r2⟩ := hr.get hq
    rw [hp] at hp'
    cases hp'
    obtain rfl := RelV.inj rv rw'
    exact newPair s ht r1 r2
end
section
variable {K : PySem.W.Frag} {o : Bool} {ds es : List D} {gs : List Gd} {H0 : Hp} {ω0 : Wd} {a b : Addr}
theorem walksM (h : ∀ H ω st env, RelX o H0 ω0 H ω → Sim K H ω st → gdsOk env st gs = true → SeqIn K H ω false a ds ∧ SeqIn K H ω true b es) : WalksR K o (ItzM K a b) (List.zipWith (fun u v => .tup [u, v]) ds es) gs H0 ω0 := fun H ω st env x s g => by
  obtain ⟨⟨vs, hq, hr⟩, ⟨ws, hq2, hr2⟩⟩ := h H ω st env x s g
  simp only [Bool.false_eq_true, if_false, if_true] at hq hq2
  have e1 := hr.length
  have e2 := hr2.length
  refine ⟨fun i hi => ?_, ⟨vs, ws, hq, hq2, by rw [List.length_zipWith]; omega⟩, fun i d hd y H' yl => ?_⟩
  · rw [List.length_zipWith] at hi
    obtain ⟨v, h1, _⟩ := hr.get (List.getElem?_eq_getElem (by omega : i < ds.length))
    obtain ⟨w, h2, _⟩ := hr2.get (List.getElem?_eq_getElem (by omega : i < es.length))
    exact ⟨vs, ws, v, w, hq, hq2, h1, h2⟩
  · obtain ⟨p, w, w2, rfl, hp, rfl, hw, hw2⟩ := yl
    rw [List.getElem?_zipWith] at hd
    cases hu : ds[i]? with
    | none => rw [hu] at hd; cases hd
    | some u =>
      cases hu2 : es[i]? with
      | none => rw [hu, hu2] at hd; cases hd
      | some u2 =>
        rw [hu, hu2] at hd
        cases hd
        obtain ⟨v, h1, h2⟩ := hr.get hu
        obtain ⟨v2, h3, h4⟩ := hr2.get hu2
        have z1 := hw vs hq
        have z2 := hw2 ws hq2
        rw [h1] at z1
        rw [h3] at z2
        cases z1
        cases z2
        exact newPair s hp h2 h4
end
section
variable {X : Cx} {T : Nm} {G : Pg} {k : Nat} {W : WX} {c : Cn} {kw : List Kw} {pos p1 p2 : Pos} {p q tg : Expr} {a b : E}
theorem peDgt (ok : XOk X T G kw k c) (ha : PE X p (tEv X T G k W a)) (hb : PE X q (tEv X T G k W b)) (hn : a.isO = false) (hm : b.isO = false) (hs : plainIx q = true) : PE X (.Subscript p q pos) (tEv X T G k W (.dgt a b)) :=
  (pe_ix (ixN ok.g.hw ok.u100) ha hb (plainIx_ok hs)).weak fun σ H Q ⟨ω, st, env, H0, sim, re, h⟩ => by
    simp only [ev] at h
    refine ⟨ω, st, env, H0, sim, re, step h fun d st1 v H1 ω1 e1 s1 r1 h => ⟨ω1, st1, env, H0, s1, re.ext e1, step h fun d2 st2 v2 H2 ω2 e2 s2 r2 h => ?_⟩⟩
    have r1 := (r1.rep hn).ext e2
    have r2 := r2.rep hm
    cases hd : dnAt st2 d with
    | none => rw [hd] at h; exact h.elim
    | some z =>
      cases hk : tkey d2 with
      | none => rw [hd, hk] at h; exact h.elim
      | some kk =>
        simp only [hd, hk] at h
        cases hg : getN z.2 kk with
        | none => rw [hg] at h; exact h.elim
        | some y =>
          rw [hg] at h
          exact ⟨ω2, st2, d, d2, z, kk, y, s2, r1, r2, hd, hk, hg, h.out rfl⟩
theorem pcDin (neg : Bool) (ok : XOk X T G kw k c) (ha : PE X p (tEv X T G k W a)) (hb : PE X q (tEv X T G k W b)) (hn : a.isO = false) (hm : b.isO = false) (hs : behindInMarks (if neg = true then .NotIn else .In) q = false) :
    PE X (.Compare p [if neg = true then .NotIn else .In] [q] pos) (tEv X T G k W (.din neg a b)) ∧ PT X (.Compare p [if neg = true then .NotIn else .In] [q] pos) (tT X T G k W (.din neg a b)) := by
  have key : ∀ {σ : L2.St} {H : Hp} {Q : VK}, tEv X T G k W (.din neg a b) σ H Q → tOp (rInN X.K neg) (tEv X T G k W a) (tEv X T G k W b) σ H Q := fun {σ H Q} ⟨ω, st, env, H0, sim, re, h⟩ => by
    simp only [ev] at h
    refine ⟨ω, st, env, H0, sim, re, step h fun d st1 v H1 ω1 e1 s1 r1 h => ⟨ω1, st1, env, H0, s1, re.ext e1, step h fun d2 st2 v2 H2 ω2 e2 s2 r2 h => ?_⟩⟩
    have r1 := (r1.rep hn).ext e2
    have r2 := r2.rep hm
    cases hd : dnAt st2 d2 with
    | none => rw [hd] at h; exact h.elim
    | some z =>
      cases hk : tkey d with
      | none => rw [hd, hk] at h; exact h.elim
      | some kk =>
        simp only [hd, hk] at h
        exact ⟨ω2, st2, d2, d, z, kk, s2, r2, r1, hd, hk, Out.bl s2 (h.out rfl)⟩
  cases neg with
  | true => exact ⟨(pe_cmpR (notInN ok.g.hw ok.u100) ha hb hs).weak fun σ H Q h => key h, (pt_cmpR (notInN ok.g.hw ok.u100) ha hb hs).weak fun σ H Q h => key h⟩
  | false => exact ⟨(pe_cmpR (inN ok.g.hw ok.u100) ha hb hs).weak fun σ H Q h => key h, (pt_cmpR (inN ok.g.hw ok.u100) ha hb hs).weak fun σ H Q h => key h⟩
theorem piDk (hp : PE X p (tEv X T G k W a)) (hn : a.isO = false) : PI X tg p (tIt X T G k W (.dk a)) :=
  (pi_nk hp).weak fun σ H R ⟨ω, st, env, H0, sim, re, h⟩ => by
    simp only [evIt] at h
    refine ⟨ω, st, env, H0, sim, re, stepI h fun d st1 v H1 ω1 e1 s1 r1 h => ?_⟩
    have r1 := r1.rep hn
    cases hd : dnAt st1 d with
    | none => rw [hd] at h; exact h.elim
    | some z =>
      rw [hd] at h
      obtain ⟨rfl, hc⟩ := dnAt_eq hd
      simp only [Rep] at r1
      obtain ⟨ad, ha, rfl⟩ := r1
      obtain ⟨o, xs, hh, hr, hs⟩ := s1.nh ha hc
      exact ⟨ad, z.2.length, rfl, hs, ⟨o, xs, hh, hr.length⟩, h _ H1 ω1 (Ext.refl _ _) s1 (walksN ha)⟩
theorem piDit {elts : List Expr} {kk : Nat} {tpos : Pos} (hp : PE X p (tEv X T G k W a)) (hn : a.isO = false) (hbase : attributeBase p "items" X.env (eval p X.env) = eval p X.env) (hline : (p1.endLine == p2.line) = true) :
    PI X (.Tuple elts kk tpos) (.Call (.Attribute p "items" p1) [] [] p2) (tIt X T G k W (.dit a)) :=
  (pi_ni hp hbase hline).weak fun σ H R ⟨ω, st, env, H0, sim, re, h⟩ => by
    simp only [evIt] at h
    refine ⟨ω, st, env, H0, sim, re, stepI h fun d st1 v H1 ω1 e1 s1 r1 h => ?_⟩
    have r1 := r1.rep hn
    cases hd : dnAt st1 d with
    | none => rw [hd] at h; exact h.elim
    | some z =>
      rw [hd] at h
      obtain ⟨rfl, hc⟩ := dnAt_eq hd
      simp only [Rep] at r1
      obtain ⟨ad, ha, rfl⟩ := r1
      obtain ⟨o, xs, hh, hr, hs⟩ := s1.nh ha hc
      exact ⟨ad, z.2.length, rfl, hs, ⟨o, xs, hh, hr.length⟩, h _ H1 ω1 (Ext.refl _ _) s1 (walksNi ha)⟩
theorem piZpm {elts : List Expr} {kk : Nat} {tpos : Pos} (ok : XOk X T G kw k c) (hg : Gl X "zip") (hp : PE X p (tEv X T G k W a)) (hq : PE X q (tEv X T G k W b)) (h1 : nst p = true) (h2 : nst q = true) :
    PI X (.Tuple elts kk tpos) (.Call (.Name "zip" p1) [p, q] [] pos) (tIt X T G k W (.zpm a b)) :=
  (pi_zipM hg (ok.g.bt "zip" (by decide +kernel)) (pa_cons hp (pa_cons hq pa_nil (star_cons h2)) (star_cons h1)) (star_cons h1) (back_any (by simp [h2]))).weak fun σ H R ⟨ω, st, env, H0, sim, re, h⟩ => by
    simp only [evIt] at h
    refine ⟨ω, st, env, H0, sim, re, stepI h fun d st1 v H1 ω1 e1 s1 r1 h => ⟨ω1, st1, env, H0, s1, re.ext e1, stepI h fun d2 st2 v2 H2 ω2 e2 s2 r2 h => ?_⟩⟩
    have r1 := r1.ext e2
    by_cases hb : (isTup d || !isTup d2) = true
    · rw [if_pos hb] at h; exact h.elim
    · rw [if_neg hb] at h
      simp only [Bool.or_eq_true, Bool.not_eq_true', not_or, Bool.not_eq_true, Bool.not_eq_false] at hb
      obtain ⟨b1, b2⟩ := hb
      cases hs : seqOf st2 d with
      | none => rw [hs] at h; exact h.elim
      | some pq =>
        cases hs2 : seqOf st2 d2 with
        | none => rw [hs, hs2] at h; exact h.elim
        | some pq2 =>
          obtain ⟨xs, gs⟩ := pq
          obtain ⟨ys, gs2⟩ := pq2
          simp only [hs, hs2] at h
          obtain ⟨x, rfl, hq, hk⟩ := seqKeep s2 r1 hs
          obtain ⟨y, rfl, hq2, hk2⟩ := seqKeep s2 r2 hs2
          rw [b1] at hq hk
          rw [b2] at hq2 hk2
          have w := walksM (K := X.K) (o := (It.zpm a b).isO) (gs := gs ++ guardOf a d ++ (gs2 ++ guardOf b d2)) (H0 := H2) (ω0 := ω2) (a := x) (b := y) (ds := xs) (es := ys) fun H ω st env z s g =>
            ⟨hk H ω st env (z.less fun q => by simp [It.isO, q]) s (gds_app (gds_app g).1).1, hk2 H ω st env (z.less fun q => by simp [It.isO, q]) s (gds_app (gds_app g).2).1⟩
          obtain ⟨vs, hv, _⟩ := hq
          obtain ⟨vs2, hv2, _⟩ := hq2
          exact ⟨x, y, vs, vs2, rfl, by simpa using hv, by simpa using hv2, h _ H2 ω2 (Ext.refl _ _) s2 w⟩
/-! ### {k: v} -/
theorem WExt.obj {H : Hp} {ω : Wd} {A : Addr} {φ : Heap → Prop} {o : HO} (h : H A = some (.ext φ)) (hF : ¬ ω.F A) : WExt H ω (upd H A o) ω where
  pre := List.prefix_refl _
  frz := fun _ h => h
  keep := fun b u e _ q => by
    by_cases hb : b = A
    · subst hb
      rw [h] at e
      cases e
      exact q.elim (fun z => absurd z hF) fun z => nomatch z
    · rw [upd_ne hb]; exact e
  new := fun _ h => .inl h
  stay := fun b e => by
    by_cases hb : b = A
    · subst hb; rw [upd_same]; simp
    · rw [upd_ne hb]; exact e
/-- a new object that stands already becomes a cell -/
theorem Sim.late {K : PySem.W.Frag} {H : Hp} {ω : Wd} {st : St} (s : Sim K H ω st) {A : Addr} {φ ψ : Heap → Prop} {c : C} (h : H A = some (.ext φ)) (hn : A ∉ ω.φ) (hF : ¬ ω.F A)
    (hc : CellR K (upd H A (.ext ψ)) (ω.cell A) A c) : Sim K (upd H A (.ext ψ)) (ω.cell A) (st ++ [c]) := by
  have r : RExt H ω (upd H A (.ext ψ)) (ω.cell A) := ⟨List.prefix_append _ _, fun _ h => h, fun b u e nb q => by
    by_cases hb : b = A
    · subst hb
      rw [h] at e
      cases e
      exact q.elim (fun z => absurd z hF) fun z => nomatch z
    · rw [upd_ne hb]; exact e, fun a ha => (List.mem_append.mp ha).imp id fun z o q => by
      obtain rfl := List.mem_singleton.mp z
      rw [h] at q
      cases q
      exact ⟨rfl, hF⟩⟩
  refine ⟨by show (ω.φ ++ [A]).length = _; simp [s.len], ?_, fun a ha hf => (List.mem_append.mp ha).elim (fun z => s.nF a z hf) fun z => hF (by rw [List.mem_singleton.mp z] at hf; exact hf), fun a ha => (WExt.obj (o := .ext ψ) h hF).stay a (s.hF a ha), fun n d e => ?_⟩
  · show (ω.φ ++ [A]).Nodup
    rw [List.nodup_append]
    exact ⟨s.nd, by simp, fun a ha b hb e => hn (by rw [List.mem_singleton] at hb; rw [← hb, ← e]; exact ha)⟩
  · by_cases hl : n < st.length
    · rw [List.getElem?_append_left hl] at e
      obtain ⟨b, h1, h2⟩ := s.cell n d e
      have hb : b ≠ A := fun z => hn (by rw [← z]; exact List.mem_of_getElem? h1)
      refine ⟨b, r.at h1, ?_⟩
      cases d with
      | lst xs =>
        obtain ⟨vs, q1, q2, q3⟩ := h2
        exact ⟨vs, by rw [upd_ne hb]; exact q1, q2, Reps.rext r _ q3⟩
      | dct kvs =>
        obtain ⟨vs, q1, q2⟩ := h2
        exact ⟨vs, by rw [upd_ne hb]; exact q1, q2.rext r⟩
      | dcn kvs =>
        obtain ⟨o, ws, q1, q2, q3, q4, q5⟩ := h2
        exact ⟨o, ws, by rw [upd_ne hb]; exact q1, q2, q3, q4, q5.rext r⟩
    · have e1 : n = st.length := by
        have := (List.getElem?_eq_some_iff.mp e).1
        simp at this
        omega
      subst e1
      rw [List.getElem?_append_right (Nat.le_refl _)] at e
      simp at e
      subst e
      exact ⟨A, by show (ω.φ ++ [A])[st.length]? = some A; rw [← s.len, List.getElem?_append_right (Nat.le_refl _)]; simp, hc⟩
theorem step0 {σ : L2.St} {Q Q1 : VK} {H H' : Hp} {ω ω' : Wd} {e a : E} {r : R D} {f : D → St → R D} (x0 : Ext H ω H' ω') (h : PostE X T W σ Q H ω e (r.bind f))
    (q : ∀ d st1 v H1 ω1, Ext H' ω' H1 ω1 → Sim X.K H1 ω1 st1 → RepE X.K H1 ω1 a v d → PostE X T W σ Q H ω e (f d st1) → Q1 v H1) : PostE X T W σ Q1 H' ω' a r := by
  cases r with
  | ok d st => exact fun v H1 ω1 e1 s1 r1 => q d st v H1 ω1 e1 s1 r1 h
  | ex y st => exact fun c da H2 ω2 e2 => h c da H2 ω2 (x0.trans e2)
  | no => exact h
theorem peDnN (ok : XOk X T G kw k c) (ha : PE X p (tEv X T G k W a)) (hb : PE X q (tEv X T G k W b)) (hn : a.isO = false) (hm : b.isO = false) : PE X (.Dict [some p] [q] pos) (tEv X T G k W (.dnN a b)) := by
  refine ⟨fun pins s σ H Q I ⟨ω, st, env, H0, sim, re, h⟩ => ?_⟩
  simp only [ev] at h
  have hA : H s.heap.objs.size = none := I.hok.fresh (Nat.le_refl _)
  generalize hO : ({ cls := .type "dict", data := .dict #[] } : Obj) = o0
  have free : Heap.get? (s.heap.push o0) s.heap.objs.size = some o0 := Heap.get?_push_size _ (by rw [← hO]; rfl)
  have I1 := I.laid (a := s.heap.objs.size) (o := .ext fun h => h.get? s.heap.objs.size = some o0) (h' := s.heap.push o0) (t' := s.toks) (fun _ _ q => Heap.get?_push_of_some _ q) (Nat.le_refl _) (okN free)
  have hsys : (s.heap.objs.size == sysModules) = false := beq_eq_false_iff_ne.mpr (Ne.symm (Nat.ne_of_lt I.big))
  have n0 : NObj o0 [] := by subst hO; exact ⟨⟨rfl, rfl, rfl⟩, ⟨#[], rfl, rfl⟩, List.nodup_nil⟩
  have x0 : Ext H ω (upd H s.heap.objs.size (.ext fun h => h.get? s.heap.objs.size = some o0)) ω := Ext.updN sim hA
  refine nkDisp ok.g.hw (by have := ok.u100; omega) ?_
  rw [hO]
  refine thn ((pps_cons ha hb pps_nil).run pins _ σ _ (fun ps H2 => ∃ x y ω2 st2 d d2 kk, ps = [(x, y)] ∧ Ext H ω H2 ω2 ∧ Sim X.K H2 ω2 st2 ∧ Rep X.K H2 ω2 x d ∧ Rep X.K H2 ω2 y d2 ∧ tkey d = some kk ∧
      H2 s.heap.objs.size = some (.ext fun h => h.get? s.heap.objs.size = some o0) ∧ s.heap.objs.size ∉ ω2.φ ∧ ¬ ω2.F s.heap.objs.size ∧ PostE X T W σ Q H ω (.dnN a b) (.ok (.ref st2.length) (st2 ++ [.dcn [(d, d2)]]))) I1 ?_) ?_
  · refine ⟨ω, st, env, H0, sim.updN hA, re.ext x0, step0 x0 h fun d st1 v H1 ω1 e1 s1 r1 h => ⟨ω1, st1, env, H0, s1, (re.ext x0).ext e1, step0 (x0.trans e1) h fun d2 st2 v2 H2 ω2 e2 s2 r2 h => ?_⟩⟩
    have r1 := (r1.rep hn).ext e2
    have r2 := r2.rep hm
    cases hk : tkey d with
    | none => rw [hk] at h; exact h.elim
    | some kk =>
      rw [hk] at h
      have nA : s.heap.objs.size ∉ ω.φ := sim.fresh hA
      have x12 := e1.trans e2
      refine ⟨v, v2, ω2, st2, d, d2, kk, rfl, x0.trans x12, s2, r1, r2, hk, x12.keep _ _ upd_same nA, fun z => (x12.new _ z).elim nA fun w => ?_, fun z => (x12.newF _ z).elim (fun w => sim.hF _ w hA) fun w => ?_, h⟩
      · rw [upd_same] at w; cases w
      · rw [upd_same] at w; cases w
  · rintro vs s2 ⟨ps, H2, I2, rel, x, y, ω2, st2, d, d2, kk, rfl, x2, sim2, rx, ry, hk, hH, nA, nF, h⟩
    cases rel with
    | @cons p1 u ps1 us r0 rt =>
      cases rt
      obtain ⟨u1, u2⟩ := u
      obtain ⟨b1, rfl, rfl, nk⟩ := tkIs I2 rx r0.1 hk
      have ho2 : s2.heap.get? s.heap.objs.size = some o0 := (I2.hok _ _ hH).1
      refine ⟨b1, u2, kk, o0, rfl, nk, ho2, n0, fun h' o' tk ho' hn' sb => ?_⟩
      have I3 : Inv X pins σ (upd H2 s.heap.objs.size (.ext fun h => h.get? s.heap.objs.size = some o')) { s2 with heap := h', toks := tk } := d_write I2 (by rw [hH]; exact True.intro) sb ⟨o', ho'⟩ (okN ho')
      have xr : RExt H2 ω2 (upd H2 s.heap.objs.size (.ext fun h => h.get? s.heap.objs.size = some o')) (ω2.cell s.heap.objs.size) := ⟨List.prefix_append _ _, fun _ h => h, fun b u e nb q => by
        by_cases hb : b = s.heap.objs.size
        · subst hb
          rw [hH] at e
          cases e
          exact q.elim (fun z => absurd z nF) fun z => nomatch z
        · rw [upd_ne hb]; exact e, fun a ha => (List.mem_append.mp ha).imp id fun z o q => by
          obtain rfl := List.mem_singleton.mp z
          rw [hH] at q
          cases q
          exact ⟨rfl, nF⟩⟩
      have s3 := sim2.late (ψ := fun h => h.get? s.heap.objs.size = some o') (c := .dcn [(d, d2)]) hH nA nF ⟨o', [(kk, b1, u2)], upd_same, hsys, by show 1 ≤ sizeLine; decide, hn', by
        simp only [RepN]
        exact ⟨⟨⟨hk, Rep.rext xr _ rx⟩, y, r0.2, Rep.rext xr _ ry⟩, trivial⟩⟩
      refine ⟨.ref s.heap.objs.size, _, I3, rfl, h _ _ (ω2.cell s.heap.objs.size) ⟨x2.pre.trans (List.prefix_append _ _), x2.frz, fun b u e n => ?_, fun b hb => (List.mem_append.mp hb).elim (x2.new b) fun z => .inr (by rw [List.mem_singleton.mp z]; exact hA), x2.newF, fun b hb n => ?_⟩ s3 (RepE.of rfl ?_)⟩
      · rw [upd_ne (ne_of_none e hA)]
        exact x2.keep b u e n
      · by_cases e : b = s.heap.objs.size
        · rw [e] at n; exact absurd hA n
        · rw [upd_ne e]; exact x2.cells b hb n
      · simp only [Rep]
        exact ⟨s.heap.objs.size, by show (ω2.φ ++ [s.heap.objs.size])[st2.length]? = _; rw [← sim2.len, List.getElem?_append_right (Nat.le_refl _)]; simp, rfl⟩
end
end Ev

set_option Elab.async false
set_option linter.all false
set_option maxRecDepth 100000
/-! A tree is that of a text: checked by computing. -/
namespace Ev
open PySem PySem.Spec PyProof.Rows L2

def notIf : Expr → Bool
  | .IfExp _ _ _ _ => false
  | _ => true
def notCall : Expr → Bool
  | .Call _ _ _ _ => false
  | _ => true
theorem attr_of {p : Expr} {m : Str} {env : PySem.Env} (h : notCall p = true) : attributeBase p m env (eval p env) = eval p env := by
  cases p <;> first | rfl | cases h
def notSet : Expr → Bool
  | .Set _ _ _ => false
  | _ => true
theorem behind_of {op : CmpOp} {p : Expr} (h : notSet p = true) : behindInMarks op p = false := by
  cases p <;> first | rfl | cases h
theorem last_of {o1 o2 : CmpOp} {p q : Expr} (h : notSet q = true) : lastMarks [o1, o2] [p, q] = false := behind_of h
theorem folded_of {p : Expr} {env : PySem.Env} (h : notSet p = true) : ∀ x, foldedSetIterable p env x = pure x := by
  cases p <;> first | (intro x; rfl) | cases h
def visB (sc : Scope) (x : Str) : Bool := match sc.names.lookup x with
  | some .local => true
  | some .cell => true
  | some .free => true
  | _ => false
def glB (sc : Scope) (x : Str) : Bool := decide (sc.names.lookup x = some .globalImplicit)
def okNm (x : Str) : Bool := !(x == ("__debug__" : Str)) && !(x == ("__classdict__" : Str))
theorem visB_ok {sc : Scope} {x : Str} (h : visB sc x = true) : Vis sc x := by
  unfold visB at h
  split at h
  · rename_i q; exact .inl q
  · rename_i q; exact .inr (.inl q)
  · rename_i q; exact .inr (.inr q)
  · cases h
theorem okNm_ok {x : Str} (h : okNm x = true) : (x == ("__debug__" : Str)) = false ∧ (x == ("__classdict__" : Str)) = false := by
  unfold okNm at h
  simpa using h
def isYes : E → Bool
  | .cst (.bl true) => true
  | _ => false
def isNonC : E → Bool
  | .cst .non => true
  | _ => false
section
variable (T : Nm) (G : Pg) (kw : List Kw)
mutual
def chkE (c : Cn) : E → Expr → Bool
  | .var i, p => match p with
    | .Name x _ => decide (c.N[i]? = some x) && visB c.sc x && okNm x
    | _ => false
  | .own i, p => match p with
    | .Name x _ => decide (c.N[i]? = some x) && visB c.sc x && okNm x
    | _ => false
  | .glob g, p => match p with
    | .Name x _ => T.gl g == x && glB c.sc x && (G.gl g).isSome && okNm x
    | _ => false
  | .cst d, p => match p with
    | .Constant k _ _ => cstOk d k
    | .UnaryOp .USub (.Constant (.int i) _ _) _ => decide (d = .int (-i))
    | _ => false
  | .tup es, p => match p with
    | .Tuple ps _ _ => chkEs c es ps && es.noO && decide (es.len ≤ 1000)
    | _ => false
  | .lst es, p => match p with
    | .List ps _ => chkEs c es ps && es.noO && decide (es.len ≤ 1000)
    | _ => false
  | .lstC es, p => match p with
    | .List ps _ => chkEs c es ps && es.noO && decide (es.len ≤ 1000)
    | _ => false
  | .dctC e, p => match p with
    | .Call (.Name x _) [q] [] _ => x == ("dict" : Str) && glB c.sc "dict" && chkE c e q && !e.isO && nst q
    | _ => false
  | .bin op a b, p => match p with
    | .BinOp l o r _ => decide (o = op.py) && chkE c a l && chkE c b r
    | _ => false
  | .cmp op a b, p => match p with
    | .Compare l [o] [r] _ => decide (o = op.py) && chkE c a l && chkE c b r && notSet r
    | _ => false
  | .chn o1 o2 a b d, p => match p with
    | .Compare l [q1, q2] [m, r] _ => decide (q1 = o1.py) && decide (q2 = o2.py) && chkE c a l && chkE c b m && chkE c d r && notSet r
    | _ => false
  | .isN neg a, p => match p with
    | .Compare l [o] [.Constant .none _ _] _ => decide (o = notC neg) && chkE c a l && !a.isO
    | _ => false
  | .isB neg b a, p => match p with
    | .Compare l [o] [.Constant (.bool b') _ _] _ => decide (o = notC neg) && decide (b = b') && chkE c a l && !a.isO
    | _ => false
  | .and a b, p => match p with
    | .BoolOp .And (q :: qs) _ => chkE c a q && notIf q && !a.isO && !b.isO && (match qs with
      | [] => false
      | [r] => chkE c b r && notIf r
      | r :: r2 :: rs => chkAnd c b (r :: r2 :: rs))
    | _ => false
  | .or a b, p => match p with
    | .BoolOp .Or (q :: qs) _ => chkE c a q && notIf q && !a.isO && !b.isO && (match qs with
      | [] => false
      | [r] => chkE c b r && notIf r
      | r :: r2 :: rs => chkOr c b (r :: r2 :: rs))
    | _ => false
  | .not a, p => match p with
    | .UnaryOp .Not q _ => chkE c a q && notIf q && !a.isO
    | _ => false
  | .ife t a b, p => match p with
    | .IfExp q l r _ => chkE c t q && notIf q && chkE c a l && chkE c b r && !t.isO && !a.isO && !b.isO
    | _ => false
  | .call f es, p => match p with
    | .Call (.Name x _) ps [] _ => (G.defs f).isSome && T.fn f == x && glB c.sc x && okNm x && chkEs c es ps && es.noO
    | _ => false
  | .callK f es pm, p => match p with
    | .Call (.Name x _) [] kws _ => (G.defs f).isSome && T.fn f == x && glB c.sc x && okNm x && chkKs c es kws && es.noO && decide ((⟨f, kws.filterMap (·.arg), pm⟩ : Kw) ∈ kw) && (kws.all fun q => q.arg.isSome) && decide (es.len = kws.length)
    | _ => false
  | .bi b es, p => match p with
    | .Call (.Name x _) (q :: qs) [] _ => match b with
      | .isin ts => x == ("isinstance" : Str) && glB c.sc "isinstance" && chkEs c es [q] && es.noO && (match ts, qs with
        | [t], [.Name y z] => isTy c.sc t (.Name y z)
        | ts, [.Tuple rs _ _] => isTys c.sc ts rs && decide (ts.length ≤ 1000)
        | _, _ => false)
      | .sortedD => x == ("sorted" : Str) && glB c.sc "sorted" && chkEs c es [q] && es.noO && qs.isEmpty
      | b => b.plain && x == b.py.1 && glB c.sc x && chkEs c es (q :: qs)
    | _ => false
  | .idx a i, p => match p with
    | .Subscript l r _ => chkE c a l && chkE c i r && !i.isO && plainIx r
    | _ => false
  | .dnN a b, p => match p with
    | .Dict [some q] [r] _ => chkE c a q && chkE c b r && !a.isO && !b.isO
    | _ => false
  | .dgt a i, p => match p with
    | .Subscript l r _ => chkE c a l && chkE c i r && !a.isO && !i.isO && plainIx r
    | _ => false
  | .din neg i a, p => match p with
    | .Compare l [o] [r] _ => decide (o = if neg = true then .NotIn else .In) && chkE c i l && chkE c a r && !i.isO && !a.isO && notSet r
    | _ => false
  | .slc a lo hi, p => match p with
    | .Subscript l (.Slice u v none _) _ => chkE c a l && (match u with | none => isNonC lo | some q => chkE c lo q) && (match v with | none => isNonC hi | some q => chkE c hi q) && !lo.isO && !hi.isO
    | _ => false
  | .rev a, p => match p with
    | .Subscript l (.Slice none none (some (.UnaryOp .USub (.Constant (.int 1) _ _) _)) _) _ => chkE c a l
    | _ => false
  | .lc elt tg it cond own, p => match p with
    | .ListComp pe [⟨ptg, pit, ifs, 0⟩] scope _ => blkC c.N c.sc scope (own.map fun i => (c.N.getD i "", i)) && chkIt c it ptg pit && notSet pit && chkTg (c.blk scope).sc (c.blk scope).fn c.N tg ptg && (tg.slots.all fun i => decide (i ∈ own)) &&
        !cond.isO && !elt.isO && chkE (c.blk scope) elt pe && (match ifs with | [] => isYes cond | [q] => chkE (c.blk scope) cond q && notIf q | _ => false)
    | _ => false
  | .lrg e, p => match p with
    | .Call (.Name x _) [.Call (.Name y _) [q] [] _] [] _ => x == ("list" : Str) && y == ("range" : Str) && glB c.sc "list" && glB c.sc "range" && chkE c e q && !e.isO && nst q
    | _ => false
  | .nev, _ => true
def chkAnd (c : Cn) : E → List Expr → Bool
  | .and a b, ps => match ps with
    | q :: qs => chkE c a q && notIf q && !a.isO && !b.isO && (match qs with
      | [] => false
      | [r] => chkE c b r && notIf r
      | r :: r2 :: rs => chkAnd c b (r :: r2 :: rs))
    | [] => false
  | _, _ => false
def chkOr (c : Cn) : E → List Expr → Bool
  | .or a b, ps => match ps with
    | q :: qs => chkE c a q && notIf q && !a.isO && !b.isO && (match qs with
      | [] => false
      | [r] => chkE c b r && notIf r
      | r :: r2 :: rs => chkOr c b (r :: r2 :: rs))
    | [] => false
  | _, _ => false
def chkEs (c : Cn) : Es → List Expr → Bool
  | .nil, ps => ps.isEmpty
  | .cons e es, ps => match ps with
    | q :: qs => chkE c e q && nst q && chkEs c es qs
    | [] => false
def chkKs (c : Cn) : Es → List Keyword → Bool
  | .nil, ps => ps.isEmpty
  | .cons e es, ps => match ps with
    | ⟨_, q, _⟩ :: qs => chkE c e q && chkKs c es qs
    | [] => false
def chkIt (c : Cn) : Ev.It → Expr → Expr → Bool
  | .va e, _, p => chkE c e p
  | .rg1 e, _, p => match p with
    | .Call (.Name x _) [q] [] _ => x == ("range" : Str) && glB c.sc "range" && chkE c e q && !e.isO && nst q
    | _ => false
  | .rg2 a b, _, p => match p with
    | .Call (.Name x _) [q, r] [] _ => x == ("range" : Str) && glB c.sc "range" && chkE c a q && chkE c b r && !a.isO && !b.isO && nst q && nst r
    | _ => false
  | .zp a b, t, p => match t, p with
    | .Tuple _ _ _, .Call (.Name x _) [q, r] [] _ => x == ("zip" : Str) && glB c.sc "zip" && chkE c a q && chkE c b r && nst q && nst r
    | _, _ => false
  | .en a, t, p => match t, p with
    | .Tuple _ _ _, .Call (.Name x _) [q] [] _ => x == ("enumerate" : Str) && glB c.sc "enumerate" && chkE c a q && nst q
    | _, _ => false
  | .st a, _, p => chkE c a p && !a.isO
  | .zpm a b, t, p => match t, p with
    | .Tuple _ _ _, .Call (.Name x _) [q, r] [] _ => x == ("zip" : Str) && glB c.sc "zip" && chkE c a q && chkE c b r && nst q && nst r
    | _, _ => false
  | .dk a, _, p => chkE c a p && !a.isO
  | .dit a, t, p => match t, p with
    | .Tuple _ _ _, .Call (.Attribute q m p1) [] [] p2 => m == ("items" : Str) && chkE c a q && !a.isO && notCall q && (p1.endLine == p2.line)
    | _, _ => false
end
end
end Ev

set_option Elab.async false
set_option linter.all false
set_option maxRecDepth 100000
/-! What is checked is sound. -/
namespace Ev
open PySem PySem.Spec PyProof.Rows L2
variable [HW]

/-- a text's expression does what the tree says, as a value and as a test -/
def Snd (X : Cx) (T : Nm) (G : Pg) (k : Nat) (W : WX) (e : E) (p : Expr) : Prop := PE X p (tEv X T G k W e) ∧ (notIf p = true → PT X p (tT X T G k W e))
theorem glB_ok {X : Cx} {sc : Scope} {x : Str} (hs : X.env.scope = sc) (h : glB sc x = true) : Gl X x := by
  show X.env.scope.names.lookup x = _
  rw [hs]
  exact of_decide_eq_true h
theorem isYes_ok {e : E} (h : isYes e = true) : e = .cst (.bl true) := by
  unfold isYes at h
  split at h
  · rfl
  · cases h
theorem isNonC_ok {e : E} (h : isNonC e = true) : e = .cst .non := by
  unfold isNonC at h
  split at h
  · rfl
  · cases h
section
variable {X : Cx} {T : Nm} {G : Pg} {kw : List Kw} {k : Nat} {c : Cn} {W : WX} {a b d : E} {p q r : Expr} {pos : Pos} {ps : List Expr}
theorem cmpSnd {op : Co} (ok : XOk X T G kw k c) (ha : PE X p (tEv X T G k W a)) (hb : PE X q (tEv X T G k W b)) (hm : behindInMarks op.py q = false) : Snd X T G k W (.cmp op a b) (.Compare p [op.py] [q] pos) :=
  ⟨peCmp ok ha hb hm, fun _ => (pt_cmpR (opCmp ok.u65 op) ha hb hm).weak fun σ H Q ⟨ω, st, env, H0, sim, re, h⟩ => by
    simp only [ev] at h
    refine ⟨ω, st, env, H0, sim, re, step h fun d st1 v H1 ω1 e1 s1 r1 h => ⟨ω1, st1, env, H0, s1, re.ext e1, step h fun d2 st2 v2 H2 ω2 e2 s2 r2 h => ?_⟩⟩
    cases hd : cmpD op (vw st2 d) (vw st2 d2) with
    | none => rw [hd] at h; exact h.elim
    | some z =>
      rw [hd] at h
      exact cmpStep e2 s2 r1 r2 hd (Out.bl s2 (h.out rfl))⟩
theorem chnSnd {o1 o2 : Co} (ok : XOk X T G kw k c) (ha : PE X p (tEv X T G k W a)) (hb : PE X q (tEv X T G k W b)) (hc : PE X r (tEv X T G k W d)) (hm : lastMarks [o1.py, o2.py] [q, r] = false) : Snd X T G k W (.chn o1 o2 a b d) (.Compare p [o1.py, o2.py] [q, r] pos) :=
  ⟨peChn ok ha hb hc hm, fun _ => (pt_chain (opCmp ok.u65 o1) (opCmp ok.u65 o2) ha hb hc hm).weak fun σ H Q h => chnKey h⟩
theorem andPw (z : Snd X T G k W a p) (h2 : notIf p = true) (h3 : a.isO = false) (h4 : b.isO = false) (y : PE X (.BoolOp .And (q :: ps) pos) (tEv X T G k W b) ∧ PW X (.BoolOp .And (q :: ps) pos) (tT X T G k W b)) :
    PE X (.BoolOp .And (p :: q :: ps) pos) (tEv X T G k W (.and a b)) ∧ PW X (.BoolOp .And (p :: q :: ps) pos) (tT X T G k W (.and a b)) :=
  ⟨(pe_and z.1 y.1).weak (keyAnd h3 h4), (pw_and (z.2 h2) y.2).weak (keyAndT h3 h4)⟩
theorem orPw (z : Snd X T G k W a p) (h2 : notIf p = true) (h3 : a.isO = false) (h4 : b.isO = false) (y : PE X (.BoolOp .Or (q :: ps) pos) (tEv X T G k W b) ∧ PW X (.BoolOp .Or (q :: ps) pos) (tT X T G k W b)) :
    PE X (.BoolOp .Or (p :: q :: ps) pos) (tEv X T G k W (.or a b)) ∧ PW X (.BoolOp .Or (p :: q :: ps) pos) (tT X T G k W (.or a b)) :=
  ⟨(pe_or z.1 y.1).weak (keyOr h3 h4), (pw_or (z.2 h2) y.2).weak (keyOrT h3 h4)⟩
theorem andSnd (z : Snd X T G k W a p) (h2 : notIf p = true) (h3 : a.isO = false) (h4 : b.isO = false) (y : PE X (.BoolOp .And (q :: ps) pos) (tEv X T G k W b) ∧ PW X (.BoolOp .And (q :: ps) pos) (tT X T G k W b)) :
    Snd X T G k W (.and a b) (.BoolOp .And (p :: q :: ps) pos) := ⟨(andPw z h2 h3 h4 y).1, fun _ => (andPw z h2 h3 h4 y).2.pt⟩
theorem orSnd (z : Snd X T G k W a p) (h2 : notIf p = true) (h3 : a.isO = false) (h4 : b.isO = false) (y : PE X (.BoolOp .Or (q :: ps) pos) (tEv X T G k W b) ∧ PW X (.BoolOp .Or (q :: ps) pos) (tT X T G k W b)) :
    Snd X T G k W (.or a b) (.BoolOp .Or (p :: q :: ps) pos) := ⟨(orPw z h2 h3 h4 y).1, fun _ => (orPw z h2 h3 h4 y).2.pt⟩
end
section
variable {T : Nm} {G : Pg} {kw : List Kw} {k : Nat}
theorem own_map (N : List Str) (own : List Nat) : (own.map fun i => (N.getD i "", i)).map (·.2) = own := by
  rw [List.map_map]
  exact List.map_id' own
theorem Snd.val {X : Cx} {W : WX} {e : E} {p : Expr} (h : PE X p (tEv X T G k W e)) (he : ∀ whole, isTrue p X.env whole = (do let v ← whole; standAt p.pos; holding [v] (truthy v))) : Snd X T G k W e p := ⟨h, fun _ => pt_val h he⟩
mutual
theorem sndE : ∀ (e : E) {c : Cn} {X : Cx} {W : WX} {p : Expr}, XOk X T G kw k c → Takes X W → chkE T G kw c e p = true → Snd X T G k W e p
  | .var i, c, X, W, p, ok, tk, h => by
    simp only [chkE] at h
    split at h
    · simp only [Bool.and_eq_true, decide_eq_true_eq] at h
      obtain ⟨h3, h4⟩ := okNm_ok h.2
      exact .val (peVar (by rw [ok.N]; exact h.1.1) (by rw [ok.sc]; exact visB_ok h.1.2) h3 h4) (by intro _; rfl)
    · cases h
  | .own i, c, X, W, p, ok, tk, h => by
    simp only [chkE] at h
    split at h
    · simp only [Bool.and_eq_true, decide_eq_true_eq] at h
      obtain ⟨h3, h4⟩ := okNm_ok h.2
      exact .val (peOwn (by rw [ok.N]; exact h.1.1) (by rw [ok.sc]; exact visB_ok h.1.2) h3 h4) (by intro _; rfl)
    · cases h
  | .glob g, c, X, W, p, ok, tk, h => by
    simp only [chkE] at h
    split at h
    · simp only [Bool.and_eq_true, beq_iff_eq] at h
      obtain ⟨h3, h4⟩ := okNm_ok h.2
      exact .val (peGlob ok h.1.1.1 (glB_ok ok.sc h.1.1.2) h.1.2 h3) (by intro _; rfl)
    · cases h
  | .cst d, c, X, W, p, ok, tk, h => by
    simp only [chkE] at h
    split at h
    · exact .val (peCst h) (by intro _; rfl)
    · obtain rfl := of_decide_eq_true h
      exact .val peNeg (by intro _; rfl)
    · cases h
  | .tup es, c, X, W, p, ok, tk, h => by
    simp only [chkE] at h
    split at h
    · simp only [Bool.and_eq_true, decide_eq_true_eq] at h
      exact .val (peTup (sndEs es ok tk h.1.1).1 h.1.2 h.2) (by intro _; rfl)
    · cases h
  | .lst es, c, X, W, p, ok, tk, h => by
    simp only [chkE] at h
    split at h
    · simp only [Bool.and_eq_true, decide_eq_true_eq] at h
      exact .val (peLst (sndEs es ok tk h.1.1).1 h.1.2 h.2) (by intro _; rfl)
    · cases h
  | .lstC es, c, X, W, p, ok, tk, h => by
    simp only [chkE] at h
    split at h
    · simp only [Bool.and_eq_true, decide_eq_true_eq] at h
      exact .val (peLstC (sndEs es ok tk h.1.1).1 h.1.2 h.2) (by intro _; rfl)
    · cases h
  | .dctC e, c, X, W, p, ok, tk, h => by
    simp only [chkE] at h
    split at h
    · simp only [Bool.and_eq_true, beq_iff_eq, Bool.not_eq_true'] at h
      obtain ⟨⟨⟨⟨rfl, h2⟩, h3⟩, h4⟩, h5⟩ := h
      exact .val (peDct ok (glB_ok ok.sc h2) (sndE e ok tk h3).1 h4 h5) (by intro _; rfl)
    · cases h
  | .bin op a b, c, X, W, p, ok, tk, h => by
    simp only [chkE] at h
    split at h
    · simp only [Bool.and_eq_true, decide_eq_true_eq] at h
      obtain ⟨⟨rfl, h2⟩, h3⟩ := h
      exact .val (peBin (sndE a ok tk h2).1 (sndE b ok tk h3).1) (by intro _; rfl)
    · cases h
  | .cmp op a b, c, X, W, p, ok, tk, h => by
    simp only [chkE] at h
    split at h
    · simp only [Bool.and_eq_true, decide_eq_true_eq] at h
      obtain ⟨⟨⟨rfl, h2⟩, h3⟩, h4⟩ := h
      exact cmpSnd ok (sndE a ok tk h2).1 (sndE b ok tk h3).1 (behind_of h4)
    · cases h
  | .chn o1 o2 a b d, c, X, W, p, ok, tk, h => by
    simp only [chkE] at h
    split at h
    · simp only [Bool.and_eq_true, decide_eq_true_eq] at h
      obtain ⟨⟨⟨⟨⟨rfl, rfl⟩, h2⟩, h3⟩, h4⟩, h5⟩ := h
      exact chnSnd ok (sndE a ok tk h2).1 (sndE b ok tk h3).1 (sndE d ok tk h4).1 (last_of h5)
    · cases h
  | .isN neg a, c, X, W, p, ok, tk, h => by
    simp only [chkE] at h
    split at h
    · simp only [Bool.and_eq_true, decide_eq_true_eq, Bool.not_eq_true'] at h
      obtain ⟨⟨rfl, h2⟩, h3⟩ := h
      obtain ⟨q1, q2⟩ := pcIsN (neg := neg) (sndE a ok tk h2).1 h3
      exact ⟨q1, fun _ => q2⟩
    · cases h
  | .isB neg b a, c, X, W, p, ok, tk, h => by
    simp only [chkE] at h
    split at h
    · simp only [Bool.and_eq_true, decide_eq_true_eq, Bool.not_eq_true'] at h
      obtain ⟨⟨⟨rfl, rfl⟩, h2⟩, h3⟩ := h
      obtain ⟨q1, q2⟩ := pcIsB (neg := neg) (sndE a ok tk h2).1 h3
      exact ⟨q1, fun _ => q2⟩
    · cases h
  | .and a b, c, X, W, p, ok, tk, h => by
    simp only [chkE] at h
    split at h
    · simp only [Bool.and_eq_true, Bool.not_eq_true'] at h
      obtain ⟨⟨⟨⟨h1, h2⟩, h3⟩, h4⟩, h5⟩ := h
      have z := sndE a ok tk h1
      split at h5
      · cases h5
      · rw [Bool.and_eq_true] at h5
        have y := sndE b ok tk h5.1
        exact andSnd z h2 h3 h4 ⟨pe_one y.1, pw_and1 (y.2 h5.2)⟩
      · exact andSnd z h2 h3 h4 (sndAnd b ok tk h5)
    · cases h
  | .or a b, c, X, W, p, ok, tk, h => by
    simp only [chkE] at h
    split at h
    · simp only [Bool.and_eq_true, Bool.not_eq_true'] at h
      obtain ⟨⟨⟨⟨h1, h2⟩, h3⟩, h4⟩, h5⟩ := h
      have z := sndE a ok tk h1
      split at h5
      · cases h5
      · rw [Bool.and_eq_true] at h5
        have y := sndE b ok tk h5.1
        exact orSnd z h2 h3 h4 ⟨pe_one y.1, pw_or1 (y.2 h5.2)⟩
      · exact orSnd z h2 h3 h4 (sndOr b ok tk h5)
    · cases h
  | .not a, c, X, W, p, ok, tk, h => by
    simp only [chkE] at h
    split at h
    · simp only [Bool.and_eq_true, Bool.not_eq_true'] at h
      obtain ⟨⟨h1, h2⟩, h3⟩ := h
      have z := sndE a ok tk h1
      exact ⟨(pe_not z.1).weak (keyNot h3), fun _ => (pt_not (z.2 h2)).weak (keyNotT h3)⟩
    · cases h
  | .ife t a b, c, X, W, p, ok, tk, h => by
    simp only [chkE] at h
    split at h
    · simp only [Bool.and_eq_true, Bool.not_eq_true'] at h
      obtain ⟨⟨⟨⟨⟨⟨h1, h2⟩, h3⟩, h4⟩, h5⟩, h6⟩, h7⟩ := h
      exact ⟨(pe_ifExp ((sndE t ok tk h1).2 h2) (sndE a ok tk h3).1 (sndE b ok tk h4).1).weak (keyIfe h5 h6 h7), fun z => by cases z⟩
    · cases h
  | .call f es, c, X, W, p, ok, tk, h => by
    simp only [chkE] at h
    split at h
    · rename_i x p1 ps p2
      simp only [Bool.and_eq_true, beq_iff_eq] at h
      obtain ⟨⟨⟨⟨⟨h1, h2⟩, h3⟩, h4⟩, h5⟩, h6⟩ := h
      have z := sndEs es ok tk h5
      cases ps with
      | nil =>
        cases es with
        | nil => exact .val (peCall0 ok tk h1 h2 (glB_ok ok.sc h3) (okNm_ok h4).1) (by intro _; rfl)
        | cons e es => simp [chkEs] at h5
      | cons q qs =>
        have hz := z.2
        rw [List.all_cons, Bool.and_eq_true] at hz
        exact .val (peCall ok tk h1 h2 (glB_ok ok.sc h3) (okNm_ok h4).1 z.1 h6 hz.1 hz.2) (by intro _; rfl)
    · cases h
  | .callK f es pm, c, X, W, p, ok, tk, h => by
    simp only [chkE] at h
    split at h
    · rename_i x p1 kws p2
      simp only [Bool.and_eq_true, beq_iff_eq, decide_eq_true_eq] at h
      obtain ⟨⟨⟨⟨⟨⟨⟨⟨h1, h2⟩, h3⟩, h4⟩, h5⟩, h6⟩, h7⟩, h8⟩, h9⟩ := h
      exact .val (peCallK ok tk h1 h2 (glB_ok ok.sc h3) (okNm_ok h4).1 (sndKs es ok tk h5) h6 h7 h8 h9) (by intro _; rfl)
    · cases h
  | .bi b .nil, c, X, W, p, ok, tk, h => by
    simp only [chkE] at h
    split at h
    · rename_i x p1 q qs p2
      split at h
      · simp [chkEs] at h
      · simp [chkEs] at h
      · simp [chkEs] at h
    · cases h
  | .bi b (.cons a es), c, X, W, p, ok, tk, h => by
    simp only [chkE] at h
    split at h
    · rename_i x p1 q qs p2
      split at h
      · rename_i ts
        simp only [Bool.and_eq_true, beq_iff_eq, chkEs, Es.noO, Bool.not_eq_true'] at h
        obtain ⟨⟨⟨⟨rfl, h2⟩, ⟨h3, h5⟩, h7⟩, h4, h8⟩, h6⟩ := h
        have z := sndE a ok tk h3
        cases es with
        | cons e es => simp [chkEs] at h7
        | nil =>
          split at h6
          · exact .val (peIsi1 ok ok.sc (glB_ok ok.sc h2) z.1 h4 h5 h6) (by intro _; rfl)
          · rw [Bool.and_eq_true, decide_eq_true_eq] at h6
            exact .val (peIsiT ok ok.sc (glB_ok ok.sc h2) z.1 h4 h5 h6.1 h6.2) (by intro _; rfl)
          · cases h6
      · simp only [Bool.and_eq_true, beq_iff_eq, chkEs, Es.noO, Bool.not_eq_true', List.isEmpty_iff] at h
        obtain ⟨⟨⟨⟨rfl, h2⟩, ⟨h3, h5⟩, h7⟩, h4, h8⟩, rfl⟩ := h
        cases es with
        | cons e es => simp [chkEs] at h7
        | nil => exact .val (peSrtD ok (glB_ok ok.sc h2) (sndE a ok tk h3).1 h4 h5) (by intro _; rfl)
      · simp only [Bool.and_eq_true, beq_iff_eq] at h
        obtain ⟨⟨⟨h1, rfl⟩, h3⟩, h4⟩ := h
        have z := sndEs (.cons a es) ok tk h4
        have hz := z.2
        rw [List.all_cons, Bool.and_eq_true] at hz
        exact .val (peBi ok h1 (glB_ok ok.sc h3) z.1 hz.1 hz.2) (by intro _; rfl)
    · cases h
  | .idx a i, c, X, W, p, ok, tk, h => by
    simp only [chkE] at h
    split at h
    · simp only [Bool.and_eq_true, Bool.not_eq_true'] at h
      obtain ⟨⟨⟨h1, h2⟩, h3⟩, h4⟩ := h
      exact .val (peIdx (sndE a ok tk h1).1 (sndE i ok tk h2).1 h3 h4) (by intro _; rfl)
    · cases h
  | .dnN a b, c, X, W, p, ok, tk, h => by
    simp only [chkE] at h
    split at h
    · simp only [Bool.and_eq_true, Bool.not_eq_true'] at h
      obtain ⟨⟨⟨h1, h2⟩, h3⟩, h4⟩ := h
      exact .val (peDnN ok (sndE a ok tk h1).1 (sndE b ok tk h2).1 h3 h4) (by intro _; rfl)
    · cases h
  | .dgt a i, c, X, W, p, ok, tk, h => by
    simp only [chkE] at h
    split at h
    · simp only [Bool.and_eq_true, Bool.not_eq_true'] at h
      obtain ⟨⟨⟨⟨h1, h2⟩, h3⟩, h4⟩, h5⟩ := h
      exact .val (peDgt ok (sndE a ok tk h1).1 (sndE i ok tk h2).1 h3 h4 h5) (by intro _; rfl)
    · cases h
  | .din neg i a, c, X, W, p, ok, tk, h => by
    simp only [chkE] at h
    split at h
    · simp only [Bool.and_eq_true, decide_eq_true_eq, Bool.not_eq_true'] at h
      obtain ⟨⟨⟨⟨⟨rfl, h1⟩, h2⟩, h3⟩, h4⟩, h5⟩ := h
      obtain ⟨q1, q2⟩ := pcDin neg ok (sndE i ok tk h1).1 (sndE a ok tk h2).1 h3 h4 (behind_of h5)
      exact ⟨q1, fun _ => q2⟩
    · cases h
  | .slc a lo hi, c, X, W, p, ok, tk, h => by
    simp only [chkE] at h
    split at h
    · rename_i l u v p1 p2
      simp only [Bool.and_eq_true, Bool.not_eq_true'] at h
      obtain ⟨⟨⟨⟨h1, h2⟩, h3⟩, h4⟩, h5⟩ := h
      have z := (sndE a ok tk h1).1
      have zl : PO X u (tPart2 (tEv X T G k W lo)) := by
        cases u with
        | none =>
          obtain rfl := isNonC_ok h2
          exact po_none2
        | some q => exact po_some2 (sndE lo ok tk h2).1
      have zh : PO X v (tPart2 (tEv X T G k W hi)) := by
        cases v with
        | none =>
          obtain rfl := isNonC_ok h3
          exact po_none2
        | some q => exact po_some2 (sndE hi ok tk h3).1
      exact .val (peSlc z zl zh h4 h5) (by intro _; rfl)
    · cases h
  | .rev a, c, X, W, p, ok, tk, h => by
    simp only [chkE] at h
    split at h
    · exact .val (peRev (sndE a ok tk h).1) (by intro _; rfl)
    · cases h
  | .lc elt tg it cond own, c, X, W, p, ok, tk, h => by
    simp only [chkE] at h
    split at h
    · rename_i pe ptg pit ifs scope pos
      simp only [Bool.and_eq_true, Bool.not_eq_true', List.all_eq_true, decide_eq_true_eq] at h
      obtain ⟨⟨⟨⟨⟨⟨⟨⟨h1, h2⟩, h3⟩, h4⟩, h5⟩, h6⟩, h7⟩, h8⟩, h9⟩ := h
      have z := peLc (pos := pos) (ifs := ifs) (own' := own.map fun i => (c.N.getD i "", i)) ok (sndIt it ok tk h2) h1 h4 (fun s H C cl fp => ?_) (fun s H C cl fp => (sndE elt (ok.blk s H scope C cl fp) takes_no h8).1) (folded_of h3) (by rw [own_map]; exact h5) h6 h7
      · rw [own_map] at z
        exact .val z (by intro _; rfl)
      · split at h9
        · exact .inl ⟨rfl, isYes_ok h9⟩
        · rename_i q
          rw [Bool.and_eq_true] at h9
          exact .inr ⟨q, rfl, (sndE cond (ok.blk s H scope C cl fp) takes_no h9.1).2 h9.2⟩
        · cases h9
    · cases h
  | .lrg e, c, X, W, p, ok, tk, h => by
    simp only [chkE] at h
    split at h
    · simp only [Bool.and_eq_true, beq_iff_eq, Bool.not_eq_true'] at h
      obtain ⟨⟨⟨⟨⟨⟨rfl, rfl⟩, h2⟩, h3⟩, h4⟩, h5⟩, h6⟩ := h
      exact .val (peLrg ok (glB_ok ok.sc h2) (glB_ok ok.sc h3) (sndE e ok tk h4).1 h5 h6) (by intro _; rfl)
    · cases h
  | .nev, c, X, W, p, ok, tk, h => ⟨⟨fun pins s σ H Q I ⟨ω, st, env, H0, sim, re, h⟩ => by simp only [ev] at h; exact h.elim⟩, fun _ => ⟨fun pins s σ H Q I ⟨ω, st, env, H0, sim, re, h⟩ => by simp only [ev] at h; exact h.elim⟩⟩
theorem sndAnd : ∀ (e : E) {c : Cn} {X : Cx} {W : WX} {ps : List Expr} {pos : Pos}, XOk X T G kw k c → Takes X W → chkAnd T G kw c e ps = true → PE X (.BoolOp .And ps pos) (tEv X T G k W e) ∧ PW X (.BoolOp .And ps pos) (tT X T G k W e)
  | .and a b, c, X, W, ps, pos, ok, tk, h => by
    simp only [chkAnd] at h
    split at h
    · simp only [Bool.and_eq_true, Bool.not_eq_true'] at h
      obtain ⟨⟨⟨⟨h1, h2⟩, h3⟩, h4⟩, h5⟩ := h
      have z := sndE a ok tk h1
      split at h5
      · cases h5
      · rw [Bool.and_eq_true] at h5
        have y := sndE b ok tk h5.1
        exact andPw z h2 h3 h4 ⟨pe_one y.1, pw_and1 (y.2 h5.2)⟩
      · exact andPw z h2 h3 h4 (sndAnd b ok tk h5)
    · cases h
  | .var _, c, X, W, ps, pos, ok, tk, h => by simp [chkAnd] at h
  | .own _, c, X, W, ps, pos, ok, tk, h => by simp [chkAnd] at h
  | .glob _, c, X, W, ps, pos, ok, tk, h => by simp [chkAnd] at h
  | .cst _, c, X, W, ps, pos, ok, tk, h => by simp [chkAnd] at h
  | .tup _, c, X, W, ps, pos, ok, tk, h => by simp [chkAnd] at h
  | .lst _, c, X, W, ps, pos, ok, tk, h => by simp [chkAnd] at h
  | .lstC _, c, X, W, ps, pos, ok, tk, h => by simp [chkAnd] at h
  | .dctC _, c, X, W, ps, pos, ok, tk, h => by simp [chkAnd] at h
  | .bin _ _ _, c, X, W, ps, pos, ok, tk, h => by simp [chkAnd] at h
  | .cmp _ _ _, c, X, W, ps, pos, ok, tk, h => by simp [chkAnd] at h
  | .chn _ _ _ _ _, c, X, W, ps, pos, ok, tk, h => by simp [chkAnd] at h
  | .isN _ _, c, X, W, ps, pos, ok, tk, h => by simp [chkAnd] at h
  | .isB _ _ _, c, X, W, ps, pos, ok, tk, h => by simp [chkAnd] at h
  | .or _ _, c, X, W, ps, pos, ok, tk, h => by simp [chkAnd] at h
  | .not _, c, X, W, ps, pos, ok, tk, h => by simp [chkAnd] at h
  | .ife _ _ _, c, X, W, ps, pos, ok, tk, h => by simp [chkAnd] at h
  | .call _ _, c, X, W, ps, pos, ok, tk, h => by simp [chkAnd] at h
  | .callK _ _ _, c, X, W, ps, pos, ok, tk, h => by simp [chkAnd] at h
  | .bi _ _, c, X, W, ps, pos, ok, tk, h => by simp [chkAnd] at h
  | .idx _ _, c, X, W, ps, pos, ok, tk, h => by simp [chkAnd] at h
  | .slc _ _ _, c, X, W, ps, pos, ok, tk, h => by simp [chkAnd] at h
  | .rev _, c, X, W, ps, pos, ok, tk, h => by simp [chkAnd] at h
  | .lc _ _ _ _ _, c, X, W, ps, pos, ok, tk, h => by simp [chkAnd] at h
  | .dnN _ _, c, X, W, ps, pos, ok, tk, h => by simp [chkAnd] at h
  | .dgt _ _, c, X, W, ps, pos, ok, tk, h => by simp [chkAnd] at h
  | .din _ _ _, c, X, W, ps, pos, ok, tk, h => by simp [chkAnd] at h
  | .lrg _, c, X, W, ps, pos, ok, tk, h => by simp [chkAnd] at h
  | .nev, c, X, W, ps, pos, ok, tk, h => by simp [chkAnd] at h
theorem sndOr : ∀ (e : E) {c : Cn} {X : Cx} {W : WX} {ps : List Expr} {pos : Pos}, XOk X T G kw k c → Takes X W → chkOr T G kw c e ps = true → PE X (.BoolOp .Or ps pos) (tEv X T G k W e) ∧ PW X (.BoolOp .Or ps pos) (tT X T G k W e)
  | .or a b, c, X, W, ps, pos, ok, tk, h => by
    simp only [chkOr] at h
    split at h
    · simp only [Bool.and_eq_true, Bool.not_eq_true'] at h
      obtain ⟨⟨⟨⟨h1, h2⟩, h3⟩, h4⟩, h5⟩ := h
      have z := sndE a ok tk h1
      split at h5
      · cases h5
      · rw [Bool.and_eq_true] at h5
        have y := sndE b ok tk h5.1
        exact orPw z h2 h3 h4 ⟨pe_one y.1, pw_or1 (y.2 h5.2)⟩
      · exact orPw z h2 h3 h4 (sndOr b ok tk h5)
    · cases h
  | .var _, c, X, W, ps, pos, ok, tk, h => by simp [chkOr] at h
  | .own _, c, X, W, ps, pos, ok, tk, h => by simp [chkOr] at h
  | .glob _, c, X, W, ps, pos, ok, tk, h => by simp [chkOr] at h
  | .cst _, c, X, W, ps, pos, ok, tk, h => by simp [chkOr] at h
  | .tup _, c, X, W, ps, pos, ok, tk, h => by simp [chkOr] at h
  | .lst _, c, X, W, ps, pos, ok, tk, h => by simp [chkOr] at h
  | .lstC _, c, X, W, ps, pos, ok, tk, h => by simp [chkOr] at h
  | .dctC _, c, X, W, ps, pos, ok, tk, h => by simp [chkOr] at h
  | .bin _ _ _, c, X, W, ps, pos, ok, tk, h => by simp [chkOr] at h
  | .cmp _ _ _, c, X, W, ps, pos, ok, tk, h => by simp [chkOr] at h
  | .chn _ _ _ _ _, c, X, W, ps, pos, ok, tk, h => by simp [chkOr] at h
  | .isN _ _, c, X, W, ps, pos, ok, tk, h => by simp [chkOr] at h
  | .isB _ _ _, c, X, W, ps, pos, ok, tk, h => by simp [chkOr] at h
  | .and _ _, c, X, W, ps, pos, ok, tk, h => by simp [chkOr] at h
  | .not _, c, X, W, ps, pos, ok, tk, h => by simp [chkOr] at h
  | .ife _ _ _, c, X, W, ps, pos, ok, tk, h => by simp [chkOr] at h
  | .call _ _, c, X, W, ps, pos, ok, tk, h => by simp [chkOr] at h
  | .callK _ _ _, c, X, W, ps, pos, ok, tk, h => by simp [chkOr] at h
  | .bi _ _, c, X, W, ps, pos, ok, tk, h => by simp [chkOr] at h
  | .idx _ _, c, X, W, ps, pos, ok, tk, h => by simp [chkOr] at h
  | .slc _ _ _, c, X, W, ps, pos, ok, tk, h => by simp [chkOr] at h
  | .rev _, c, X, W, ps, pos, ok, tk, h => by simp [chkOr] at h
  | .lc _ _ _ _ _, c, X, W, ps, pos, ok, tk, h => by simp [chkOr] at h
  | .dnN _ _, c, X, W, ps, pos, ok, tk, h => by simp [chkOr] at h
  | .dgt _ _, c, X, W, ps, pos, ok, tk, h => by simp [chkOr] at h
  | .din _ _ _, c, X, W, ps, pos, ok, tk, h => by simp [chkOr] at h
  | .lrg _, c, X, W, ps, pos, ok, tk, h => by simp [chkOr] at h
  | .nev, c, X, W, ps, pos, ok, tk, h => by simp [chkOr] at h
theorem sndEs : ∀ (es : Es) {c : Cn} {X : Cx} {W : WX} {ps : List Expr}, XOk X T G kw k c → Takes X W → chkEs T G kw c es ps = true → PA X ps (tEvs X T G k W es) ∧ ps.all nst = true
  | .nil, c, X, W, ps, ok, tk, h => by
    simp only [chkEs, List.isEmpty_iff] at h
    subst h
    exact ⟨paNil, rfl⟩
  | .cons e es, c, X, W, ps, ok, tk, h => by
    simp only [chkEs] at h
    split at h
    · simp only [Bool.and_eq_true] at h
      obtain ⟨⟨h1, h2⟩, h3⟩ := h
      have z := sndEs es ok tk h3
      exact ⟨paCons (sndE e ok tk h1).1 z.1 h2, by rw [List.all_cons, h2, z.2]; rfl⟩
    · cases h
theorem sndKs : ∀ (es : Es) {c : Cn} {X : Cx} {W : WX} {ps : List Keyword}, XOk X T G kw k c → Takes X W → chkKs T G kw c es ps = true → PK X ps (tEvs X T G k W es)
  | .nil, c, X, W, ps, ok, tk, h => by
    simp only [chkKs, List.isEmpty_iff] at h
    subst h
    exact pkNil
  | .cons e es, c, X, W, ps, ok, tk, h => by
    simp only [chkKs] at h
    split at h
    · simp only [Bool.and_eq_true] at h
      exact pkCons (sndE e ok tk h.1).1 (sndKs es ok tk h.2)
    · cases h
theorem sndIt : ∀ (it : Ev.It) {c : Cn} {X : Cx} {W : WX} {t p : Expr}, XOk X T G kw k c → Takes X W → chkIt T G kw c it t p = true → PI X t p (tIt X T G k W it)
  | .va e, c, X, W, t, p, ok, tk, h => by
    simp only [chkIt] at h
    exact piVa (sndE e ok tk h).1
  | .rg1 e, c, X, W, t, p, ok, tk, h => by
    simp only [chkIt] at h
    split at h
    · simp only [Bool.and_eq_true, beq_iff_eq, Bool.not_eq_true'] at h
      obtain ⟨⟨⟨⟨rfl, h2⟩, h3⟩, h4⟩, h5⟩ := h
      exact piRg1 ok (glB_ok ok.sc h2) (sndE e ok tk h3).1 h4 h5
    · cases h
  | .rg2 a b, c, X, W, t, p, ok, tk, h => by
    simp only [chkIt] at h
    split at h
    · simp only [Bool.and_eq_true, beq_iff_eq, Bool.not_eq_true'] at h
      obtain ⟨⟨⟨⟨⟨⟨⟨rfl, h2⟩, h3⟩, h4⟩, h5⟩, h6⟩, h7⟩, h8⟩ := h
      exact piRg2 ok (glB_ok ok.sc h2) (sndE a ok tk h3).1 (sndE b ok tk h4).1 h5 h6 h7 h8
    · cases h
  | .zp a b, c, X, W, t, p, ok, tk, h => by
    simp only [chkIt] at h
    split at h
    · simp only [Bool.and_eq_true, beq_iff_eq] at h
      obtain ⟨⟨⟨⟨⟨rfl, h2⟩, h3⟩, h4⟩, h5⟩, h6⟩ := h
      exact piZp ok (glB_ok ok.sc h2) (sndE a ok tk h3).1 (sndE b ok tk h4).1 h5 h6
    · cases h
  | .en a, c, X, W, t, p, ok, tk, h => by
    simp only [chkIt] at h
    split at h
    · simp only [Bool.and_eq_true, beq_iff_eq] at h
      obtain ⟨⟨⟨rfl, h2⟩, h3⟩, h4⟩ := h
      exact piEn ok (glB_ok ok.sc h2) (sndE a ok tk h3).1 h4
    · cases h
  | .st a, c, X, W, t, p, ok, tk, h => by
    simp only [chkIt] at h
    simp only [Bool.and_eq_true, Bool.not_eq_true'] at h
    exact piSt (sndE a ok tk h.1).1 h.2
  | .zpm a b, c, X, W, t, p, ok, tk, h => by
    simp only [chkIt] at h
    split at h
    · simp only [Bool.and_eq_true, beq_iff_eq] at h
      obtain ⟨⟨⟨⟨⟨rfl, h2⟩, h3⟩, h4⟩, h5⟩, h6⟩ := h
      exact piZpm ok (glB_ok ok.sc h2) (sndE a ok tk h3).1 (sndE b ok tk h4).1 h5 h6
    · cases h
  | .dk a, c, X, W, t, p, ok, tk, h => by
    simp only [chkIt] at h
    simp only [Bool.and_eq_true, Bool.not_eq_true'] at h
    exact piDk (sndE a ok tk h.1).1 h.2
  | .dit a, c, X, W, t, p, ok, tk, h => by
    simp only [chkIt] at h
    split at h
    · simp only [Bool.and_eq_true, beq_iff_eq, Bool.not_eq_true'] at h
      obtain ⟨⟨⟨⟨rfl, h2⟩, h3⟩, h4⟩, h5⟩ := h
      exact piDit (sndE a ok tk h2).1 h3 (attr_of h4) (by simpa using h5)
    · cases h
end
end
end Ev

set_option Elab.async false
set_option linter.all false
set_option maxRecDepth 100000
/-! Statements. -/
namespace Ev
open PySem PySem.Spec PyProof.Rows L2
variable [HW]
theorem setV_eq {env env' : Env} {i : Nat} {s : Sl} (h : setV env i s = some env') : i < env.length ∧ env' = env.set i s := by
  unfold setV at h
  split at h
  · rename_i q
    cases h
    exact ⟨q, rfl⟩
  · cases h
/-! ### values that are stored: represented, or a new own list -/
def PostV (o : Bool) (X : Cx) (T : Nm) (W : WX) (σ : L2.St) (Q : VK) (H : Hp) (ω : Wd) : R D → Prop
  | .ok d st => if o = true then ∃ xs, d = .lst xs ∧ ∀ A H' ω' vs, H A = none → Ext H ω H' ω' → Sim X.K H' ω' st → H' A = some (.lst vs) → A ∉ ω'.φ → ¬ ω'.F A → xs.length ≤ sizeLine → Reps X.K H' ω' vs xs → Q (.ref A) H'
    else ∀ v H' ω', Ext H ω H' ω' → Sim X.K H' ω' st → Rep X.K H' ω' v d → Q v H'
  | .ex x st => ∀ c da H' ω', Ext H ω H' ω' → Sim X.K H' ω' st → XRep X.K X.mg T H' ω' c da x → W c da σ H'
  | .no => False
def tVal (o : Bool) (X : Cx) (T : Nm) (G : Pg) (k : Nat) (W : WX) (e : E) : TE := fun σ H Q => ∃ ω st env H0, Sim X.K H ω st ∧ REnv X.K H0 H ω σ env ∧ PostV o X T W σ Q H ω (ev (callN G k) G.gl env st e)

section
variable {K : PySem.W.Frag} {H0 H H' : Hp} {ω0 ω ω' : Wd} {σ : L2.St} {env : Env} {st : St}
theorem Ext.wtrans {H1 : Hp} {ω1 : Wd} (a : Ext H0 ω0 H ω) (b : Ext H ω H1 ω1) : Ext H0 ω0 H1 ω1 := a.trans b
/-- a name holds an own list that is new -/
theorem REnv.newOwn (x0 : Ext H0 ω0 H ω) (re : REnv K H0 H ω σ env) (x : Ext H ω H' ω') {i : Nat} {a : Addr} {vs : List V} {xs : List D} (hi : i < env.length) (hn : H a = none) (hv : H' a = some (.lst vs)) (hf : a ∉ ω'.φ) (hF : ¬ ω'.F a)
    (hl : xs.length ≤ sizeLine) (hr : Reps K H' ω' vs xs) : REnv K H0 H' ω' (σ.set i (some (.ref a))) (env.set i (.ow xs)) := by
  have re' := re.ext x
  have hσ : i < σ.length := by rw [re.len]; exact hi
  have h0 : H0 a = none := by
    cases q : H0 a with
    | none => rfl
    | some o => exact absurd hn (x0.stay (by rw [q]; simp))
  have other : ∀ (j : Nat) (ys : List D), env[j]? = some (.ow ys) → σ[j]? = some (some (.ref a)) → False := fun j ys e1 e2 => by
    obtain ⟨b, ws, h1, h2, _⟩ := re.sl j _ e1
    rw [e2] at h1
    cases h1
    rw [hn] at h2
    cases h2
  refine ⟨by simpa using re.len, fun j s q => ?_, fun j k b ys zs q1 q2 q3 q4 => ?_⟩
  · by_cases e : i = j
    · subst e
      rw [List.getElem?_set_self hi] at q
      cases q
      exact ⟨a, vs, by rw [List.getElem?_set_self hσ], hv, hf, hF, h0, hl, hr⟩
    · rw [List.getElem?_set_ne e] at q
      have z := re'.sl j s q
      cases s with
      | no => trivial
      | va d => obtain ⟨v, h1, h2⟩ := z; exact ⟨v, by rw [List.getElem?_set_ne e]; exact h1, h2⟩
      | ow ys => obtain ⟨b, ws, h1, r⟩ := z; exact ⟨b, ws, by rw [List.getElem?_set_ne e]; exact h1, r⟩
  · by_cases e1 : i = j
    · by_cases e2 : i = k
      · exact e1.symm.trans e2
      · subst e1
        rw [List.getElem?_set_self hσ] at q3
        cases q3
        rw [List.getElem?_set_ne e2] at q2 q4
        exact (other k zs q2 q4).elim
    · by_cases e2 : i = k
      · subst e2
        rw [List.getElem?_set_self hσ] at q4
        cases q4
        rw [List.getElem?_set_ne e1] at q1 q3
        exact (other j ys q1 q3).elim
      · rw [List.getElem?_set_ne e1] at q1 q3
        rw [List.getElem?_set_ne e2] at q2 q4
        exact re.un j k b ys zs q1 q2 q3 q4
/-- an own list is rewritten -/
theorem REnv.mutOwn (re : REnv K H0 H ω σ env) {i : Nat} {a : Addr} {us vs : List V} {ys xs : List D} (he : env[i]? = some (.ow ys)) (hs : σ[i]? = some (some (.ref a))) (hv : H a = some (.lst us)) (hF : ¬ ω.F a)
    (hl : xs.length ≤ sizeLine) (hr : Reps K H ω vs xs) : REnv K H0 (upd H a (.lst vs)) ω σ (env.set i (.ow xs)) := by
  have hi : i < env.length := (List.getElem?_eq_some_iff.mp he).1
  have x := WExt.own (ys := vs) hv hF
  refine ⟨by simpa using re.len, fun j s q => ?_, fun j k b zs ws q1 q2 q3 q4 => ?_⟩
  · by_cases e : i = j
    · subst e
      rw [List.getElem?_set_self hi] at q
      cases q
      obtain ⟨b, ws, h1, h2, h3, h4, h5, _, _⟩ := re.sl i _ he
      rw [hs] at h1
      cases h1
      exact ⟨a, vs, hs, upd_same, h3, h4, h5, hl, Reps.wext x _ hr⟩
    · rw [List.getElem?_set_ne e] at q
      have z := re.sl j s q
      cases s with
      | no => trivial
      | va d => obtain ⟨v, h1, h2⟩ := z; exact ⟨v, h1, Rep.wext x _ h2⟩
      | ow zs =>
        obtain ⟨b, ws, h1, h2, h3, h4, h5, h6, h7⟩ := z
        have hb : b ≠ a := fun w => by
          subst w
          exact e (re.un i j b ys zs he q hs h1)
        exact ⟨b, ws, h1, by rw [upd_ne hb]; exact h2, h3, h4, h5, h6, Reps.wext x _ h7⟩
  · have tr : ∀ {j : Nat} {zs : List D}, (env.set i (.ow xs))[j]? = some (.ow zs) → ∃ zs', env[j]? = some (.ow zs') := fun {j zs} q => by
      by_cases e : i = j
      · subst e; exact ⟨ys, he⟩
      · rw [List.getElem?_set_ne e] at q; exact ⟨zs, q⟩
    obtain ⟨z1, q1⟩ := tr q1
    obtain ⟨z2, q2⟩ := tr q2
    exact re.un j k b _ _ q1 q2 q3 q4
end

section
variable (X : Cx) (T : Nm) (G : Pg) (k : Nat) (W : WX)
/-- what is wanted behind a statement, by the tree's end -/
def PostO (D : Ends) (H0 : Hp) (ω0 : Wd) (H : Hp) (ω : Wd) : O → Prop
  | .nx env st => ∀ σ' H' ω', WExt H ω H' ω' → Ext H0 ω0 H' ω' → Sim X.K H' ω' st → REnv X.K H0 H' ω' σ' env → D.nx σ' H'
  | .bk env st => ∀ σ' H' ω', WExt H ω H' ω' → Ext H0 ω0 H' ω' → Sim X.K H' ω' st → REnv X.K H0 H' ω' σ' env → D.bk σ' H'
  | .ct env st => ∀ σ' H' ω', WExt H ω H' ω' → Ext H0 ω0 H' ω' → Sim X.K H' ω' st → REnv X.K H0 H' ω' σ' env → D.ct σ' H'
  | .rt d st => ∀ v H' ω', Ext H0 ω0 H' ω' → Sim X.K H' ω' st → Rep X.K H' ω' v d → D.rt v H'
  | .ex x env st => ∀ c da σ' H' ω', Ext H0 ω0 H' ω' → Sim X.K H' ω' st → XRep X.K X.mg T H' ω' c da x → W c da σ' H'
  | .no => False
def tS (s : S) : TS := fun D σ H => ∃ ω st env H0 ω0, Sim X.K H ω st ∧ REnv X.K H0 H ω σ env ∧ Ext H0 ω0 H ω ∧ PostO X T W D H0 ω0 H ω (exec (callN G k) G.gl env st s)
def tSs (ss : Ss) : TS := fun D σ H => ∃ ω st env H0 ω0, Sim X.K H ω st ∧ REnv X.K H0 H ω σ env ∧ Ext H0 ω0 H ω ∧ PostO X T W D H0 ω0 H ω (execs (callN G k) G.gl env st ss)
end
section
variable {X : Cx} {T : Nm} {G : Pg} {k : Nat} {W : WX} {c : Cn} {kw : List Kw} {pos p1 p2 : Pos} {p q r : Expr} {a b e : E} {σ : L2.St} {H0 H H' : Hp} {ω0 ω ω' : Wd} {D : Ends} {env : Env} {st : St}
theorem PostO.mono (x : WExt H ω H' ω') {r : O} (h : PostO X T W D H0 ω0 H ω r) : PostO X T W D H0 ω0 H' ω' r := by
  cases r with
  | nx env st => exact fun σ' H2 ω2 e2 => h σ' H2 ω2 (x.trans e2)
  | bk env st => exact fun σ' H2 ω2 e2 => h σ' H2 ω2 (x.trans e2)
  | ct env st => exact fun σ' H2 ω2 e2 => h σ' H2 ω2 (x.trans e2)
  | rt d st => exact h
  | ex y env st => exact h
  | no => exact h
theorem stepO {r : R Ev.D} {f : Ev.D → St → O} {Q1 : VK} (x0 : Ext H0 ω0 H ω) (h : PostO X T W D H0 ω0 H ω (r.o env f))
    (q : ∀ d st1 v H1 ω1, Ext H ω H1 ω1 → Sim X.K H1 ω1 st1 → RepE X.K H1 ω1 a v d → Ext H0 ω0 H1 ω1 → PostO X T W D H0 ω0 H1 ω1 (f d st1) → Q1 v H1) : PostE X T W σ Q1 H ω a r := by
  cases r with
  | ok d st => exact fun v H1 ω1 e1 s1 r1 => q d st v H1 ω1 e1 s1 r1 (x0.trans e1) (PostO.mono e1.w h)
  | ex y st => exact fun c da H' ω' e s x => h c da σ H' ω' (x0.trans e) s x
  | no => exact h
/-- what a def's text may lean on -/
structure SOk (X : Cx) (T : Nm) (G : Pg) (kw : List Kw) (k : Nat) (c : Cn) (W : WX) : Prop where
  ok : XOk X T G kw k c
  tk : Takes X W
  po : PassesOwn (model X.prog X.w) X.A X.env X.xe
  kind : X.env.scope.kind = .function

/-! ### simple statements -/
theorem psRet (hp : PE X p (tEv X T G k W e)) (hn : e.isO = false) : PS X (.Return (some p) pos) (tS X T G k W (.ret e)) :=
  (ps_ret hp).weak fun D σ H ⟨ω, st, env, H0, ω0, sim, re, x0, h⟩ => by
    simp only [exec] at h
    exact ⟨ω, st, env, H0, sim, re, stepO x0 h fun d st1 v H1 ω1 e1 s1 r1 x1 h => h v H1 ω1 x1 s1 (r1.rep hn)⟩
theorem psRetN : PS X (.Return none pos) (tS X T G k W (.ret (.cst .non))) :=
  ps_retN.weak fun D σ H ⟨ω, st, env, H0, ω0, sim, re, x0, h⟩ => by
    simp only [exec, ev, R.o_ok] at h
    exact h .non H ω x0 sim (by simp only [Rep])
theorem psRetO {i : Nat} {x : Str} (ok : XOk X T G kw k c) (hN : c.N[i]? = some x) (hv : visB c.sc x = true) (hd : okNm x = true) : PS X (.Return (some (.Name x p1)) pos) (tS X T G k W (.retO i)) := by
  obtain ⟨h3, h4⟩ := okNm_ok hd
  refine (ps_ret (pe_var (i := i) (by rw [ok.N]; exact hN) (by rw [ok.sc]; exact visB_ok hv) h3 h4)).weak fun D σ H ⟨ω, st, env, H0, ω0, sim, re, x0, h⟩ => ?_
  simp only [exec] at h
  split at h
  · rename_i xs he
    obtain ⟨a, vs, h1, h2, h3, h4, h5, h6, h7⟩ := re.sl i _ he
    refine ⟨_, h1, h (.ref a) H (ω.frz a) (x0.freeze h5) (sim.freeze (by rw [h2]; simp) h3) ?_⟩
    simp only [Rep]
    exact ⟨a, vs, rfl, ⟨h2, h3, .inr rfl⟩, h6, Reps.rext (RExt.freeze ω H a) _ h7⟩
  · exact h.elim
theorem psExp (hp : PE X p (tEv X T G k W e)) (hs : swapsWith p none pos.line X.env = pure false) : PS X (.Expr p pos) (tS X T G k W (.exp e)) :=
  (ps_expr hp hs).weak fun D σ H ⟨ω, st, env, H0, ω0, sim, re, x0, h⟩ => by
    simp only [exec] at h
    exact ⟨ω, st, env, H0, sim, re, stepO x0 h fun d st1 v H1 ω1 e1 s1 r1 x1 h => h σ H1 ω1 (WExt.refl _ _) x1 s1 (re.ext e1)⟩
theorem psPss : PS X (.Pass pos) (tS X T G k W .pss) :=
  ps_pass.weak fun D σ H ⟨ω, st, env, H0, ω0, sim, re, x0, h⟩ => by
    simp only [exec] at h
    exact h σ H ω (WExt.refl _ _) x0 sim re
theorem psBrk : PS X (.Break pos) (tS X T G k W .brk) :=
  ps_break.weak fun D σ H ⟨ω, st, env, H0, ω0, sim, re, x0, h⟩ => by
    simp only [exec] at h
    exact h σ H ω (WExt.refl _ _) x0 sim re
theorem psCnt : PS X (.Continue pos) (tS X T G k W .cnt) :=
  ps_continue.weak fun D σ H ⟨ω, st, env, H0, ω0, sim, re, x0, h⟩ => by
    simp only [exec] at h
    exact h σ H ω (WExt.refl _ _) x0 sim re
theorem psNev {s : Stmt} : PS X s (tS X T G k W .nev) :=
  ps_never.weak fun D σ H ⟨ω, st, env, H0, ω0, sim, re, x0, h⟩ => by
    simp only [exec] at h
    exact h
theorem psIte {as bs : List Stmt} {sa sb : Ss} (hc : PT X p (tT X T G k W e)) (hn : e.isO = false) (ha : PSs X as (tSs X T G k W sa)) (hb : PSs X bs (tSs X T G k W sb)) : PS X (.If p as bs pos) (tS X T G k W (.ite e sa sb)) :=
  (ps_if hc ha hb).weak fun D σ H ⟨ω, st, env, H0, ω0, sim, re, x0, h⟩ => by
    simp only [exec] at h
    refine ⟨ω, st, env, H0, sim, re, stepO x0 h fun d st1 v H1 ω1 e1 s1 r1 x1 h => ?_⟩
    have r1 := r1.rep hn
    cases d with
    | bl z =>
      refine ⟨z, r1.isBl, ?_⟩
      cases z with
      | true => rw [if_pos rfl]; exact ⟨ω1, st1, env, H0, ω0, s1, re.ext e1, x1, h⟩
      | false => rw [if_neg Bool.false_ne_true]; exact ⟨ω1, st1, env, H0, ω0, s1, re.ext e1, x1, h⟩
    | _ => exact h.elim
theorem pssNil : PSs X [] (tSs X T G k W .nil) :=
  pss_nil.weak fun D σ H ⟨ω, st, env, H0, ω0, sim, re, x0, h⟩ => by
    simp only [execs] at h
    exact h σ H ω (WExt.refl _ _) x0 sim re
theorem pssCons {s : Stmt} {ss : List Stmt} {t : S} {ts : Ss} (h1 : PS X s (tS X T G k W t)) (h2 : PSs X ss (tSs X T G k W ts)) : PSs X (s :: ss) (tSs X T G k W (.cons t ts)) :=
  (pss_cons h1 h2).weak fun D σ H ⟨ω, st, env, H0, ω0, sim, re, x0, h⟩ => by
    simp only [execs] at h
    refine ⟨ω, st, env, H0, ω0, sim, re, x0, ?_⟩
    cases hx : exec (callN G k) G.gl env st t with
    | nx env' st' =>
      rw [hx] at h
      exact fun σ' H' ω' w x s r => ⟨ω', st', env', H0, ω0, s, r, x, PostO.mono w h⟩
    | bk env' st' => rw [hx] at h; exact h
    | ct env' st' => rw [hx] at h; exact h
    | rt d st' => rw [hx] at h; exact h
    | ex y env' st' => rw [hx] at h; exact h
    | no => rw [hx] at h; exact h
theorem psWhl {bs : List Stmt} {sb : Ss} (sk : SOk X T G kw k c W) (hc : PT X p (tT X T G k W e)) (hn : e.isO = false) (hb : PSs X bs (tSs X T G k W sb)) : PS X (.While p bs [] pos) (tS X T G k W (.whl e sb)) :=
  (ps_while sk.po hc hb).weak fun D σ H ⟨ω, st, env, H0, ω0, sim, re, x0, h⟩ => by
    simp only [exec] at h
    refine ⟨fun m σ H => ∃ ω st env, Sim X.K H ω st ∧ REnv X.K H0 H ω σ env ∧ Ext H0 ω0 H ω ∧ PostO X T W D H0 ω0 H ω (whlLoop (fun env st => ev (callN G k) G.gl env st e) (fun env st => execs (callN G k) G.gl env st sb) m env st), ⟨fuel, ω, st, env, sim, re, x0, h⟩, ?_⟩
    rintro m σ H ⟨ω, st, env, sim, re, x0, h⟩
    cases m with
    | zero => exact h.elim
    | succ m =>
      simp only [whlLoop] at h
      refine ⟨ω, st, env, H0, sim, re, stepO x0 h fun d st1 v H1 ω1 e1 s1 r1 x1 h => ?_⟩
      have r1 := r1.rep hn
      cases d with
      | bl z =>
        refine ⟨z, r1.isBl, ?_⟩
        cases z with
        | false => rw [if_neg Bool.false_ne_true]; exact h σ H1 ω1 (WExt.refl _ _) x1 s1 (re.ext e1)
        | true =>
          rw [if_pos rfl]
          refine ⟨_, fun σ' H' hw => ⟨m, Nat.lt_succ_self m, hw⟩, ω1, st1, env, H0, ω0, s1, re.ext e1, x1, ?_⟩
          simp only at h
          cases hx : execs (callN G k) G.gl env st1 sb with
          | nx env' st' => rw [hx] at h; exact fun σ' H' ω' w x s r => ⟨ω', st', env', s, r, x, PostO.mono w h⟩
          | ct env' st' => rw [hx] at h; exact fun σ' H' ω' w x s r => ⟨ω', st', env', s, r, x, PostO.mono w h⟩
          | bk env' st' => rw [hx] at h; exact h
          | rt d st' => rw [hx] at h; exact h
          | ex y env' st' => rw [hx] at h; exact h
          | no => rw [hx] at h; exact h
      | _ => exact h.elim
theorem psFor {it : Ev.It} {tg : Tg} {ptg piter : Expr} {bs : List Stmt} {sb : Ss} (sk : SOk X T G kw k c W) (hi : PI X ptg piter (tIt X T G k W it)) (ho : it.isO = false) (hg : chkTg c.sc c.fn c.N tg ptg = true) (hb : PSs X bs (tSs X T G k W sb))
    (hs : ∀ x, foldedSetIterable piter X.env x = pure x) : PS X (.For ptg piter bs [] pos) (tS X T G k W (.for tg it sb)) :=
  (ps_for sk.po sk.ok.calm hi (pgTg sk.ok tg hg).1 hb hs).weak fun D σ H ⟨ω, st, env, H0, ω0, sim, re, x0, h⟩ => by
    simp only [exec] at h
    refine ⟨ω, st, env, H0, sim, re, ?_⟩
    cases hit : evIt (callN G k) G.gl env st it with
    | no => rw [hit] at h; exact h
    | ex y st1 => rw [hit] at h; exact fun cc da H' ω' e s x => h cc da σ H' ω' (x0.trans e) s x
    | ok pq st1 =>
      obtain ⟨ds, gs⟩ := pq
      rw [hit] at h
      simp only [R.o_ok] at h
      rw [ho]
      intro J H1 ω1 e1 s1 hw
      have h := PostO.mono e1.w h
      revert h
      generalize hF : (fun x env st => match asgTg tg x env with
        | some env1 => execs (callN G k) G.gl env1 st sb
        | none => .no : Ev.D → Env → St → O) = F
      intro h
      refine ⟨fun i m σ H => m = ds.length - i ∧ i ≤ ds.length ∧ ∃ ω st env, WExt H1 ω1 H ω ∧ Ext H0 ω0 H ω ∧ Sim X.K H ω st ∧ REnv X.K H0 H ω σ env ∧ PostO X T W D H0 ω0 H ω (forLoop F gs (ds.drop i) env st),
        ⟨ds.length, rfl, Nat.zero_le _, ω1, st1, env, WExt.refl _ _, x0.trans e1, s1, re.ext e1, h⟩, ?_⟩
      rintro i m σ H ⟨rfl, hi, ω, st, env, w1, x0, sim, re, h⟩
      cases hd : ds.drop i with
      | nil =>
        have hi' : i = ds.length := by
          have := congrArg List.length hd
          simp at this
          omega
        subst hi'
        rw [hd] at h
        unfold forLoop at h
        split at h
        · rename_i hg
          obtain ⟨_, h2, _⟩ := hw H ω st env w1 sim hg
          exact .inl ⟨h2, h σ H ω (WExt.refl _ _) x0 sim re⟩
        · exact h.elim
      | cons x xs =>
        obtain ⟨hx, hxs, hlt⟩ := sub_some hd
        rw [hd] at h
        unfold forLoop at h
        split at h
        · rename_i hg
          obtain ⟨h1, _, h3⟩ := hw H ω st env w1 sim hg
          refine .inr ⟨h1 i hlt, fun σ' H' => ∃ ω' st' env', WExt H1 ω1 H' ω' ∧ Ext H0 ω0 H' ω' ∧ Sim X.K H' ω' st' ∧ REnv X.K H0 H' ω' σ' env' ∧ PostO X T W D H0 ω0 H' ω' (forLoop F gs xs env' st'),
            fun σ' H' ⟨ω', st', env', q1, q2, q3, q4, q5⟩ => ⟨ds.length - (i + 1), by omega, rfl, hlt, ω', st', env', q1, q2, q3, q4, by rw [hxs]; exact q5⟩, fun y H' yl => ?_⟩
          obtain ⟨ω2, e2, s2, r2⟩ := h3 i x hx y H' yl
          have h := PostO.mono e2.w h
          rw [← hF] at h
          simp only at h
          cases ha : asgTg tg x env with
          | none => rw [ha] at h; exact h.elim
          | some env1 =>
            rw [ha] at h
            simp only at h
            refine ⟨ω2, x, env, env1, H0, r2, re.ext e2, ha, fun σ2 re2 _ => ⟨ω2, st, env1, H0, ω0, s2, re2, x0.trans e2, ?_⟩⟩
            rw [hF] at h
            cases hx : execs (callN G k) G.gl env1 st sb with
            | nx env' st' => rw [hx] at h; exact fun σ' H'' ω' w xx s r => ⟨ω', st', env', (w1.trans e2.w).trans w, xx, s, r, PostO.mono w h⟩
            | ct env' st' => rw [hx] at h; exact fun σ' H'' ω' w xx s r => ⟨ω', st', env', (w1.trans e2.w).trans w, xx, s, r, PostO.mono w h⟩
            | bk env' st' => rw [hx] at h; exact h
            | rt d st' => rw [hx] at h; exact h
            | ex y env' st' => rw [hx] at h; exact h
            | no => rw [hx] at h; exact h
        · exact h.elim
/-- a list goes from one name to another -/
theorem psMov {i j : Nat} {x y : Str} {px py : Pos} (sk : SOk X T G kw k c W) (hN : c.N[i]? = some x) (hl : Loc X.env.scope x) (hf : X.fn x = true ∨ X.env.scope.names.lookup x = some .local) (hM : c.N[j]? = some y) (hv : visB c.sc y = true) (hd : okNm y = true) :
    PS X (.Assign [.Name x px] (.Name y py) pos) (tS X T G k W (.mov i j)) := by
  obtain ⟨h3, h4⟩ := okNm_ok hd
  refine (ps_set (i := i) (by rw [sk.ok.N]; exact sk.ok.nd) (by rw [sk.ok.N]; exact hN) hl (pe_var (i := j) (by rw [sk.ok.N]; exact hM) (by rw [sk.ok.sc]; exact visB_ok hv) h3 h4) (by rfl) hf).weak fun D σ H ⟨ω, st, env, H0, ω0, sim, re, x0, h⟩ => ?_
  simp only [exec] at h
  split at h
  · rename_i xs he
    split at h
    · exact h.elim
    · rename_i hij
      split at h
      · rename_i env1 hs
        obtain ⟨hi, rfl⟩ := setV_eq hs
        rw [List.length_set] at hi
        obtain ⟨a, vs, h1, h2, h3, h4, h5, h6, h7⟩ := re.sl j _ he
        have hσ : i < σ.length := by rw [re.len]; exact hi
        have fz := RExt.freeze ω H a
        refine ⟨_, h1, h _ H (ω.frz a) ⟨List.prefix_refl _, fun _ h => .inl h, fun _ _ h _ _ => h, fun _ h => .inl h, fun _ h => h⟩ (x0.freeze h5) (sim.freeze (by rw [h2]; simp) h3) ⟨by simpa using re.len, fun m s q => ?_, fun m n b ys zs q1 q2 q3 q4 => ?_⟩⟩
        · by_cases e : i = m
          · subst e
            rw [List.getElem?_set_self (by simpa using hi)] at q
            cases q
            refine ⟨.ref a, by rw [List.getElem?_set_self hσ], ?_⟩
            simp only [Rep]
            exact ⟨a, vs, rfl, ⟨h2, h3, .inr rfl⟩, h6, Reps.rext fz _ h7⟩
          · rw [List.getElem?_set_ne e] at q
            by_cases e2 : j = m
            · subst e2
              rw [List.getElem?_set_self (List.getElem?_eq_some_iff.mp he).1] at q
              cases q
              trivial
            · rw [List.getElem?_set_ne e2] at q
              have z := re.sl m s q
              cases s with
              | no => trivial
              | va d => obtain ⟨v, g1, g2⟩ := z; exact ⟨v, by rw [List.getElem?_set_ne e]; exact g1, Rep.rext fz _ g2⟩
              | ow ys =>
                obtain ⟨b, ws, g1, g2, g3, g4, g5, g6, g7⟩ := z
                refine ⟨b, ws, by rw [List.getElem?_set_ne e]; exact g1, g2, g3, fun w => w.elim g4 fun w => ?_, g5, g6, Reps.rext fz _ g7⟩
                subst w
                exact e2 (re.un j m b xs ys he q h1 g1)
        · have tr : ∀ {m : Nat} {zs : List Ev.D} {b : Addr}, ((env.set j Sl.no).set i (.va (.lst xs)))[m]? = some (.ow zs) → (σ.set i (some (.ref a)))[m]? = some (some (.ref b)) → env[m]? = some (.ow zs) ∧ σ[m]? = some (some (.ref b)) := fun {m zs b} q r => by
            by_cases e : i = m
            · subst e
              rw [List.getElem?_set_self (by simpa using hi)] at q
              cases q
            · rw [List.getElem?_set_ne e] at q r
              by_cases e2 : j = m
              · subst e2
                rw [List.getElem?_set_self (List.getElem?_eq_some_iff.mp he).1] at q
                cases q
              · rw [List.getElem?_set_ne e2] at q
                exact ⟨q, r⟩
          obtain ⟨a1, a2⟩ := tr q1 q3
          obtain ⟨b1, b2⟩ := tr q2 q4
          exact re.un m n b _ _ a1 b1 a2 b2
      · exact h.elim
  · exact h.elim
end
end Ev

set_option Elab.async false
set_option linter.all false
set_option maxRecDepth 100000
/-! Assignments. -/
namespace Ev
open PySem PySem.Spec PyProof.Rows L2
variable [HW]

section
variable {X : Cx} {T : Nm} {G : Pg} {k : Nat} {W : WX} {c : Cn} {kw : List Kw} {pos p1 p2 : Pos} {p q r : Expr} {a b e : E} {σ : L2.St} {H0 H H' : Hp} {ω0 ω ω' : Wd} {env : Env} {st : St}
/-! ### [.. for ..] as a value that is stored -/
def PostL (X : Cx) (T : Nm) (W : WX) (σ : L2.St) (Q : VK) (H : Hp) (ω : Wd) : R D → Prop
  | .ok (.lst ys) st => ∀ H1 ω1, Ext H ω H1 ω1 → LcQ X Q H1 ω1 ys st
  | .ok _ _ => False
  | .ex x st => ∀ c da H' ω', Ext H ω H' ω' → Sim X.K H' ω' st → XRep X.K X.mg T H' ω' c da x → W c da σ H'
  | .no => False
theorem lcKey2 {it : Ev.It} {tg : Tg} {own : List Nat} {elt cond : E} {Q : VK} (sim : Sim X.K H ω st) (re : REnv X.K H0 H ω σ env) (hsl : ∀ i ∈ tg.slots, i ∈ own) (hc : cond.isO = false) (he : elt.isO = false)
    (h : PostL X T W σ Q H ω (ev (callN G k) G.gl env st (.lc elt tg it cond own))) :
    tLc (tIt X T G k W it) (tG X.K tg) (tT X T G k noW cond) (tEv X T G k noW elt) own σ H Q := by
  simp only [ev] at h
  refine ⟨ω, st, env, H0, sim, re, ?_⟩
  cases hi : evIt (callN G k) G.gl env st it with
  | no => rw [hi] at h; exact h.elim
  | ex x st1 => rw [hi] at h; exact h
  | ok pq st1 =>
    obtain ⟨ds, gs⟩ := pq
    rw [hi] at h
    simp only [R.bind_ok] at h
    intro J H1 ω1 e1 s1 hw A hA
    split at h
    · rename_i hz
      revert h
      generalize hl : lcLoop _ gs env ds st1 = r
      intro h
      cases r with
      | no => exact h.elim
      | ex x st2 => exact h.elim
      | ok ys st2 => exact lcTurns (re.ext e1) s1 hw hz hsl hc he hl (h H1 ω1 e1) A hA
    · exact h.elim
/-- a comprehension's parts -/
structure LcP (X : Cx) (T : Nm) (G : Pg) (k : Nat) (W : WX) (elt : E) (tg : Tg) (it : Ev.It) (cond : E) (own : List Nat) (pe ptg pit : Expr) (ifs : List Expr) (scope : Scope) : Prop where
  own' : ∃ own' : List (Str × Nat), own'.map (·.2) = own ∧ BlkOk X.N X.env.scope scope own'
  hi : PI X ptg pit (tIt X T G k W it)
  hg : ∀ (s : Shared) (H : Hp) (C : Addr) (cl : List (Str × Addr)) (fp : List Addr), PG (X.blk s H scope (compEnvC scope cl C X.env) fp) ptg (tG X.K tg)
  ht : ∀ (s : Shared) (H : Hp) (C : Addr) (cl : List (Str × Addr)) (fp : List Addr), PTs (X.blk s H scope (compEnvC scope cl C X.env) fp) ifs (tT X T G k noW cond)
  hel : ∀ (s : Shared) (H : Hp) (C : Addr) (cl : List (Str × Addr)) (fp : List Addr), PE (X.blk s H scope (compEnvC scope cl C X.env) fp) pe (tEv X T G k noW elt)
  hs : ∀ x, foldedSetIterable pit X.env x = pure x
  hsl : ∀ i ∈ tg.slots, i ∈ own
  hc : cond.isO = false
  he : elt.isO = false
theorem lcParts {elt : E} {tg : Tg} {it : Ev.It} {cond : E} {own : List Nat} {pe : Expr} {gs : List Comprehension} {scope : Scope} (ok : XOk X T G kw k c) (tk : Takes X W) (h : chkE T G kw c (.lc elt tg it cond own) (.ListComp pe gs scope pos) = true) :
    ∃ ptg pit ifs, gs = [⟨ptg, pit, ifs, 0⟩] ∧ LcP X T G k W elt tg it cond own pe ptg pit ifs scope := by
  simp only [chkE] at h
  split at h
  · rename_i pe ptg pit ifs scope pos heq
    cases heq
    simp only [Bool.and_eq_true, Bool.not_eq_true', List.all_eq_true, decide_eq_true_eq] at h
    obtain ⟨⟨⟨⟨⟨⟨⟨⟨h1, h2⟩, h3⟩, h4⟩, h5⟩, h6⟩, h7⟩, h8⟩, h9⟩ := h
    refine ⟨ptg, pit, ifs, rfl, ⟨_, own_map c.N own, blkOk_by (by rw [ok.N, ok.sc]; exact h1)⟩, sndIt it ok tk h2, fun s H C cl fp => (pgTg (ok.blk s H scope C cl fp) tg h4).1, fun s H C cl fp => lcIfs_pts ?_, fun s H C cl fp => (sndE elt (ok.blk s H scope C cl fp) takes_no h8).1, folded_of h3, h5, h6, h7⟩
    split at h9
    · exact .inl ⟨rfl, isYes_ok h9⟩
    · rename_i q
      rw [Bool.and_eq_true] at h9
      exact .inr ⟨q, rfl, (sndE cond (ok.blk s H scope C cl fp) takes_no h9.1).2 h9.2⟩
    · cases h9
  · cases h
omit [HW] in
/-- is name = [..] one of those stores that the machine does at once? -/
def swB (sc : Scope) (y : Str) (py : Pos) : Expr → Bool
  | .ListComp _ _ scope pos => decide (sc.names.lookup y = some .local) && (py.line == pos.line) && !(scope.names.any fun (n, k) => n == y && (k == .local || k == .cell))
  | _ => false
omit [HW] in
def notC2 : Expr → Bool
  | .SetComp _ _ _ _ => false
  | .DictComp _ _ _ _ _ => false
  | _ => true
theorem swEq {env : PySem.Env} {y : Str} {py : Pos} {l : Nat} (hk : env.scope.kind = .function) (h : notC2 p = true) : swapsWith p (some (.Name y py)) l env = pure (swB env.scope y py p) := by
  have hb : env.blockKind = .function := by unfold Env.blockKind; rw [hk]; rfl
  cases p <;> first
    | (cases h; done)
    | (unfold swapsWith swB
       simp only [hb, Env.kindOf]
       have e : (env.scope.names.lookup y == some NameKind.local) = decide (env.scope.names.lookup y = some NameKind.local) := by
         by_cases q : env.scope.names.lookup y = some NameKind.local
         · rw [q]; rfl
         · rw [decide_eq_false q]; exact beq_eq_false_iff_ne.mpr q
       rw [e]
       rfl)
    | rfl
/-- name = a comprehension -/
theorem psLc {i : Nat} {y : Str} {py spos : Pos} {elt : E} {tg : Tg} {it : Ev.It} {cond : E} {own : List Nat} {pe ptg pit : Expr} {ifs : List Expr} {scope : Scope} (sk : SOk X T G kw k c W) (hN : c.N[i]? = some y) (hl : locB c.sc c.fn y = true)
    (h : LcP X T G k W elt tg it cond own pe ptg pit ifs scope) : PS X (.Assign [.Name y py] (.ListComp pe [⟨ptg, pit, ifs, 0⟩] scope pos) spos) (tAsg (tLc (tIt X T G k W it) (tG X.K tg) (tT X T G k noW cond) (tEv X T G k noW elt) own) (gName i)) := by
  obtain ⟨own', rfl, hb⟩ := h.own'
  obtain ⟨h2, h3⟩ := locB_ok hl
  have hNd : X.N.Nodup := by rw [sk.ok.N]; exact sk.ok.nd
  have hy : X.N[i]? = some y := by rw [sk.ok.N]; exact hN
  have hsw := swEq (py := py) (l := spos.line) (y := y) (p := .ListComp pe [⟨ptg, pit, ifs, 0⟩] scope pos) sk.kind rfl
  cases hq : swB X.env.scope y py (.ListComp pe [⟨ptg, pit, ifs, 0⟩] scope pos) with
  | true =>
    rw [hq] at hsw
    have hloc : X.env.scope.names.lookup y = some .local := by
      unfold swB at hq
      simp only [Bool.and_eq_true, decide_eq_true_eq] at hq
      exact hq.1.1
    exact ps_setLc sk.ok.calm hNd hy hloc hsw h.hi hb h.hg h.ht h.hel h.hs
  | false =>
    rw [hq] at hsw
    exact ps_set hNd hy (by rw [sk.ok.sc]; exact h2) (pe_lc sk.ok.calm hNd h.hi hb h.hg h.ht h.hel h.hs) hsw (by rw [sk.ok.fn, sk.ok.sc]; exact h3)
end
end Ev

set_option Elab.async false
set_option linter.all false
set_option maxRecDepth 100000
/-! Assignments to names; own lists. -/
namespace Ev
open PySem PySem.Spec PyProof.Rows L2
variable [HW]

section
variable {X : Cx} {T : Nm} {G : Pg} {k : Nat} {W : WX} {c : Cn} {kw : List Kw} {pos p1 p2 apos : Pos} {p q r : Expr} {a b e : E} {σ : L2.St} {H0 H H' : Hp} {ω0 ω ω' : Wd} {env : Env} {st : St}
theorem evLc_lst {elt : E} {tg : Tg} {it : Ev.It} {cond : E} {own : List Nat} {cf : Cf} {gl : Nat → Option D} {env : Env} {st st' : St} {d : D} (h : ev cf gl env st (.lc elt tg it cond own) = .ok d st') : ∃ ys, d = .lst ys := by
  simp only [ev] at h
  obtain ⟨pq, st1, _, h⟩ := bind_ok' h
  split at h
  · obtain ⟨ys, st2, _, h⟩ := bind_ok' h
    cases h
    exact ⟨ys, rfl⟩
  · cases h
theorem none_back (x : Ext H ω H' ω') {a : Addr} (h : H' a = none) : H a = none := by
  cases q : H a with
  | none => rfl
  | some o => exact absurd h (x.stay (by rw [q]; simp))
theorem PostV.toE {Q : VK} {x : R D} (he : e.isO = false) (h : PostV false X T W σ Q H ω x) : PostE X T W σ Q H ω e x := by
  cases x with
  | ok d st => exact fun v H' ω' x s r => h v H' ω' x s (r.rep he)
  | ex y st => exact h
  | no => exact h
theorem peVal (hp : PE X p (tEv X T G k W e)) (he : e.isO = false) : PE X p (tVal false X T G k W e) :=
  hp.weak fun σ H Q ⟨ω, st, env, H0, sim, re, h⟩ => ⟨ω, st, env, H0, sim, re, h.toE he⟩
theorem peValL {es : Es} {ps : List Expr} (h : PA X ps (tEvs X T G k W es)) (hn : es.noO = true) (hl : es.len ≤ 1000) : PE X (.List ps pos) (tVal true X T G k W (.lst es)) :=
  (pe_lst h).weak fun σ H Q ⟨ω, st, env, H0, sim, re, h⟩ => by
    simp only [ev] at h
    refine ⟨ω, st, env, H0, sim, re, ?_⟩
    cases hx : evs (callN G k) G.gl env st es with
    | no => rw [hx] at h; exact h
    | ex y st1 => rw [hx] at h; exact h
    | ok ds st1 =>
      rw [hx] at h
      obtain ⟨xs, hd, h⟩ := h
      cases hd
      intro vs H1 ω1 e1 s1 r1
      have hz : ds.length ≤ sizeLine := by rw [r1.len.2]; exact Nat.le_trans hl (by decide)
      exact ⟨by rw [r1.len.1, ← r1.len.2]; exact hz, fun A hA => h A _ ω1 vs (none_back e1 hA) (e1.trans (Ext.updN s1 hA)) (s1.updN hA) upd_same (s1.fresh hA) (fun z => s1.hF A z hA) hz (Reps.ext (Ext.updN s1 hA) _ (r1.reps hn))⟩
theorem peValC {elt : E} {tg : Tg} {it : Ev.It} {cond : E} {own : List Nat} {pe ptg pit : Expr} {ifs : List Expr} {scope : Scope} (ok : XOk X T G kw k c) (h : LcP X T G k W elt tg it cond own pe ptg pit ifs scope) :
    PE X (.ListComp pe [⟨ptg, pit, ifs, 0⟩] scope pos) (tVal true X T G k W (.lc elt tg it cond own)) := by
  obtain ⟨own', rfl, hb⟩ := h.own'
  refine (pe_lc ok.calm (by rw [ok.N]; exact ok.nd) h.hi hb h.hg h.ht h.hel h.hs).weak fun σ H Q ⟨ω, st, env, H0, sim, re, hv⟩ => lcKey2 sim re h.hsl h.hc h.he ?_
  cases hx : ev (callN G k) G.gl env st (.lc elt tg it cond (own'.map (·.2))) with
  | no => rw [hx] at hv; exact hv
  | ex y st1 => rw [hx] at hv; exact hv
  | ok d st1 =>
    rw [hx] at hv
    obtain ⟨xs, rfl, hv⟩ := hv
    exact fun H1 ω1 e1 A H' ω' vs hA x s h1 h2 h3 h4 h5 => hv A H' ω' vs (none_back e1 hA) (e1.trans x) s h1 h2 h3 h4 h5
/-- a value is stored at a slot -/
theorem REnv.store {o : Bool} {D' : D} {u : Sl} {i : Nat} {v : V} {H1 : Hp} {ω1 : Wd} (x0 : Ext H0 ω0 H ω) (re : REnv X.K H0 H ω σ env) (x : Ext H ω H1 ω1) (hi : i < env.length) (hs : slot o D' = some u)
    (hv : if o = true then ∃ A vs xs, v = .ref A ∧ D' = .lst xs ∧ H A = none ∧ H1 A = some (.lst vs) ∧ A ∉ ω1.φ ∧ ¬ ω1.F A ∧ xs.length ≤ sizeLine ∧ Reps X.K H1 ω1 vs xs else Rep X.K H1 ω1 v D') : REnv X.K H0 H1 ω1 (σ.set i (some v)) (env.set i u) := by
  cases o with
  | true =>
    simp only [if_true] at hv
    obtain ⟨A, vs, xs, rfl, rfl, h1, h2, h3, h4, h5, h6⟩ := hv
    simp only [slot, if_true] at hs
    cases hs
    exact REnv.newOwn x0 re x hi h1 h2 h3 h4 h5 h6
  | false =>
    simp only [Bool.false_eq_true, if_false] at hv
    simp only [slot, Bool.false_eq_true, if_false] at hs
    cases hs
    exact (re.ext x).setV hi hv
theorem slot_true {d : D} {u : Sl} (h : slot true d = some u) : ∃ xs, d = .lst xs ∧ u = .ow xs := by
  cases d with
  | lst xs => simp only [slot, if_true] at h; cases h; exact ⟨xs, rfl, rfl⟩
  | _ => simp [slot] at h
/-- name = value, the value a stored one -/
theorem psStore {o : Bool} {i : Nat} {x : Str} {t : S} (sk : SOk X T G kw k c W) (hN : c.N[i]? = some x) (hl : locB c.sc c.fn x = true) (hp : PE X p (tVal o X T G k W e)) (hsw : swapsWith p (some (.Name x p1)) pos.line X.env = pure false)
    (ht : ∀ env st, exec (callN G k) G.gl env st t = (ev (callN G k) G.gl env st e).o env fun d st1 => match slot o d with
      | some u => match setV env i u with
        | some env1 => .nx env1 st1
        | none => .no
      | none => .no) : PS X (.Assign [.Name x p1] p pos) (tS X T G k W t) := by
  obtain ⟨h2, h3⟩ := locB_ok hl
  refine (ps_set (i := i) (by rw [sk.ok.N]; exact sk.ok.nd) (by rw [sk.ok.N]; exact hN) (by rw [sk.ok.sc]; exact h2) hp hsw (by rw [sk.ok.fn, sk.ok.sc]; exact h3)).weak fun D σ H ⟨ω, st, env, H0, ω0, sim, re, x0, h⟩ => ?_
  rw [ht] at h
  refine ⟨ω, st, env, H0, sim, re, ?_⟩
  cases hx : ev (callN G k) G.gl env st e with
  | no => rw [hx] at h; exact h
  | ex y st1 => rw [hx] at h; exact fun cc da H' ω' e s x => h cc da σ H' ω' (x0.trans e) s x
  | ok d st1 =>
    rw [hx] at h
    simp only [R.o_ok] at h
    cases hs : slot o d with
    | none => rw [hs] at h; exact h.elim
    | some u =>
      rw [hs] at h
      simp only at h
      cases hv : setV env i u with
      | none => rw [hv] at h; exact h.elim
      | some env1 =>
        rw [hv] at h
        obtain ⟨hi, rfl⟩ := setV_eq hv
        cases o with
        | true =>
          obtain ⟨xs, rfl, rfl⟩ := slot_true hs
          exact ⟨xs, rfl, fun A H' ω' vs hA x s h1 h2 h3 h4 h5 => h _ H' ω' x.w (x0.trans x) s (REnv.newOwn x0 re x hi hA h1 h2 h3 h4 h5)⟩
        | false =>
          simp only [slot, Bool.false_eq_true, if_false] at hs
          cases hs
          exact fun v H' ω' x s r => h _ H' ω' x.w (x0.trans x) s ((re.ext x).setV hi r)
/-- .. of a comprehension -/
theorem psStoreC {o : Bool} {i : Nat} {x : Str} {t : S} {elt : E} {tg : Tg} {it : Ev.It} {cond : E} {own : List Nat} {pe ptg pit : Expr} {ifs : List Expr} {scope : Scope} {py : Pos} (sk : SOk X T G kw k c W) (hN : c.N[i]? = some x) (hl : locB c.sc c.fn x = true)
    (hp : LcP X T G k W elt tg it cond own pe ptg pit ifs scope)
    (ht : ∀ env st, exec (callN G k) G.gl env st t = (ev (callN G k) G.gl env st (.lc elt tg it cond own)).o env fun d st1 => match slot o d with
      | some u => match setV env i u with
        | some env1 => .nx env1 st1
        | none => .no
      | none => .no) : PS X (.Assign [.Name x py] (.ListComp pe [⟨ptg, pit, ifs, 0⟩] scope p1) pos) (tS X T G k W t) := by
  refine (psLc sk hN hl hp).weak fun D σ H ⟨ω, st, env, H0, ω0, sim, re, x0, h⟩ => ?_
  rw [ht] at h
  refine lcKey2 sim re hp.hsl hp.hc hp.he ?_
  cases hx : ev (callN G k) G.gl env st (.lc elt tg it cond own) with
  | no => rw [hx] at h; exact h
  | ex y st1 => rw [hx] at h; exact fun cc da H' ω' e s x => h cc da σ H' ω' (x0.trans e) s x
  | ok d st1 =>
    obtain ⟨ys, rfl⟩ := evLc_lst hx
    rw [hx] at h
    simp only [R.o_ok] at h
    cases hs : slot o (.lst ys) with
    | none => rw [hs] at h; exact h.elim
    | some u =>
      rw [hs] at h
      simp only at h
      cases hv : setV env i u with
      | none => rw [hv] at h; exact h.elim
      | some env1 =>
        rw [hv] at h
        obtain ⟨hi, rfl⟩ := setV_eq hv
        intro H1 ω1 e1 A H' ω' vs hA x s h1 h2 h3 h4 h5
        have hA0 := none_back e1 hA
        cases o with
        | true =>
          obtain ⟨xs, e, rfl⟩ := slot_true hs
          cases e
          exact h _ H' ω' (e1.trans x).w (x0.trans (e1.trans x)) s (REnv.newOwn x0 re (e1.trans x) hi hA0 h1 h2 h3 h4 h5)
        | false =>
          simp only [slot, Bool.false_eq_true, if_false] at hs
          cases hs
          have xf : Ext H ω H' (ω'.frz A) := (e1.trans x).freeze hA0
          refine h _ H' (ω'.frz A) xf.w (x0.trans xf) (s.freeze (by rw [h1]; simp) h2) ((re.ext xf).setV hi ?_)
          simp only [Rep]
          exact ⟨A, vs, rfl, ⟨h1, h2, .inr rfl⟩, h4, Reps.rext (RExt.freeze ω' H' A) _ h5⟩
/-! ### x, y = a, b -/
theorem psPar {oi oj : Bool} {i j : Nat} {x y : Str} {px py pt pt2 : Pos} {kt k2 : Nat} (sk : SOk X T G kw k c W) (hi : c.N[i]? = some x) (hj : c.N[j]? = some y) (hij : i ≠ j) (hx : c.sc.names.lookup x = some .local) (hy : c.sc.names.lookup y = some .local)
    (hp : PE X p (tVal oi X T G k W a)) (hq : PE X q (tVal oj X T G k W b)) (h1 : nst p = true) (h2 : nst q = true)
    (hw : swappedStores [.Tuple [.Name x px, .Name y py] kt pt] (.Tuple [p, q] k2 pt2) X.env = pure (some [x, y])) :
    PS X (.Assign [.Tuple [.Name x px, .Name y py] kt pt] (.Tuple [p, q] k2 pt2) pos) (tS X T G k W (.par i oi j oj a b)) := by
  refine (ps_par sk.ok.calm (by rw [sk.ok.N]; exact sk.ok.nd) (by rw [sk.ok.N]; exact hi) (by rw [sk.ok.N]; exact hj) hij (by rw [sk.ok.sc]; exact hx) (by rw [sk.ok.sc]; exact hy) (pa_cons hp (pa_cons hq pa_nil (star_cons h2)) (star_cons h1)) hw).weak
    fun D σ H ⟨ω, st, env, H0, ω0, sim, re, x0, h⟩ => ?_
  simp only [exec] at h
  refine ⟨ω, st, env, H0, sim, re, ?_⟩
  -- what the second value leads to
  have second : ∀ (u : Sl) (d : Ev.D) (st1 : St) (v : V) (H1 : Hp) (ω1 : Wd), slot oi d = some u → Ext H ω H1 ω1 → Sim X.K H1 ω1 st1 →
      (if oi = true then ∃ A vs xs, v = .ref A ∧ d = .lst xs ∧ H A = none ∧ H1 A = some (.lst vs) ∧ A ∉ ω1.φ ∧ ¬ ω1.F A ∧ xs.length ≤ sizeLine ∧ Reps X.K H1 ω1 vs xs else Rep X.K H1 ω1 v d) →
      PostO X T W D H0 ω0 H1 ω1 ((ev (callN G k) G.gl env st1 b).o env fun y st2 => match slot oj y with
        | some v => match setV env i u with
          | some env1 => match setV env1 j v with
            | some env2 => if i = j then .no else .nx env2 st2
            | none => .no
          | none => .no
        | none => .no) →
      tCons (tVal oj X T G k W b) tNil σ H1 fun vs H2 => ∃ v2 w, (v :: vs) = [v2, w] ∧ D.nx ((σ.set i (some v2)).set j (some w)) H2 := by
    intro u d st1 v H1 ω1 hs1 e1 s1 hv h
    refine ⟨ω1, st1, env, H0, s1, re.ext e1, ?_⟩
    cases hx : ev (callN G k) G.gl env st1 b with
    | no => rw [hx] at h; exact h
    | ex y st2 => rw [hx] at h; exact fun cc da H' ω' e s x => h cc da σ H' ω' ((x0.trans e1).trans e) s x
    | ok d2 st2 =>
      rw [hx] at h
      simp only [R.o_ok] at h
      cases hs2 : slot oj d2 with
      | none => rw [hs2] at h; exact h.elim
      | some u2 =>
        rw [hs2] at h
        simp only at h
        cases hv1 : setV env i u with
        | none => rw [hv1] at h; exact h.elim
        | some env1 =>
          rw [hv1] at h
          simp only at h
          obtain ⟨hi1, rfl⟩ := setV_eq hv1
          cases hv2 : setV (env.set i u) j u2 with
          | none => rw [hv2] at h; exact h.elim
          | some env2 =>
            rw [hv2] at h
            simp only [if_neg hij] at h
            obtain ⟨hj1, rfl⟩ := setV_eq hv2
            have re1 := REnv.store (X := X) x0 re e1 hi1 hs1 hv
            cases oj with
            | true =>
              obtain ⟨xs, rfl, rfl⟩ := slot_true hs2
              exact ⟨xs, rfl, fun A H' ω' vs hA x s q1 q2 q3 q4 q5 => ⟨v, .ref A, rfl, h _ H' ω' x.w ((x0.trans e1).trans x) s (REnv.newOwn (x0.trans e1) re1 x hj1 hA q1 q2 q3 q4 q5)⟩⟩
            | false =>
              simp only [slot, Bool.false_eq_true, if_false] at hs2
              cases hs2
              exact fun w H' ω' x s r => ⟨v, w, rfl, h _ H' ω' x.w ((x0.trans e1).trans x) s ((re1.ext x).setV hj1 r)⟩
  cases hx : ev (callN G k) G.gl env st a with
  | no => rw [hx] at h; exact h
  | ex y st1 => rw [hx] at h; exact fun cc da H' ω' e s x => h cc da σ H' ω' (x0.trans e) s x
  | ok d st1 =>
    rw [hx] at h
    simp only [R.o_ok] at h
    cases hs1 : slot oi d with
    | none => rw [hs1] at h; exact h.elim
    | some u =>
      rw [hs1] at h
      simp only at h
      cases oi with
      | true =>
        obtain ⟨xs, rfl, _⟩ := slot_true hs1
        exact ⟨xs, rfl, fun A H' ω' vs hA x s q1 q2 q3 q4 q5 => second u _ st1 _ H' ω' hs1 x s (by simp only [if_true]; exact ⟨A, vs, xs, rfl, rfl, hA, q1, q2, q3, q4, q5⟩) (PostO.mono x.w h)⟩
      | false => exact fun v H' ω' x s r => second u d st1 v H' ω' hs1 x s (by simp only [Bool.false_eq_true, if_false]; exact r) (PostO.mono x.w h)
end
end Ev

set_option Elab.async false
set_option linter.all false
set_option maxRecDepth 100000
/-! Own lists, targets with subscripts, dicts that are updated. -/
namespace Ev
open PySem PySem.Spec PyProof.Rows L2
variable [HW]

section
variable {X : Cx} {T : Nm} {G : Pg} {k : Nat} {W : WX} {c : Cn} {kw : List Kw} {pos p1 p2 apos cpos : Pos} {p q r : Expr} {a b e : E} {σ : L2.St} {H0 H H' : Hp} {ω0 ω ω' : Wd} {env : Env} {st : St}
theorem few_of {cpos : Pos} {env : PySem.Env} (h : nst q = true) : ((backTo cpos (starEach [q] env)).all (fun x => !x.1) && (backToKw cpos (keywordEach [] env)).all (fun x => x.1.isSome)
      && decide ([q].length + ([] : List Keyword).length + (if ([] : List Keyword).isEmpty then 0 else 1) < 30)) = true := by
  rw [star_cons h]
  rfl
/-- an own list, read -/
theorem ownAt {i : Nat} {xs : List D} (re : REnv X.K H0 H ω σ env) (he : env[i]? = some (.ow xs)) : ∃ a vs, σ[i]? = some (some (.ref a)) ∧ H a = some (.lst vs) ∧ a ∉ ω.φ ∧ ¬ ω.F a ∧ H0 a = none ∧ xs.length ≤ sizeLine ∧ Reps X.K H ω vs xs := re.sl i _ he
/-- x.append(e) -/
theorem psApp {i : Nat} {x : Str} (sk : SOk X T G kw k c W) (hN : c.N[i]? = some x) (hv : visB c.sc x = true) (hd : okNm x = true) (hq : PE X q (tEv X T G k W e)) (hn : e.isO = false) (h1 : nst q = true) (hl : (apos.endLine == cpos.line) = true) :
    PS X (.Expr (.Call (.Attribute (.Name x p1) "append" apos) [q] [] cpos) pos) (tS X T G k W (.appO i e)) := by
  obtain ⟨h3, h4⟩ := okNm_ok hd
  refine (ps_expr (pe_bm PySem.F.plainAttrs_list PySem.F.slot_list_append PySem.F.type_list_append mt_append (pe_var (i := i) (by rw [sk.ok.N]; exact hN) (by rw [sk.ok.sc]; exact visB_ok hv) h3 h4) (pa_cons hq pa_nil (star_cons h1)) rfl (few_of h1) hl (star_cons h1) rfl)).weak
    fun D σ H ⟨ω, st, env, H0, ω0, sim, re, x0, h⟩ => ?_
  simp only [exec] at h
  split at h
  · rename_i xs he
    obtain ⟨A, vs, hs, hA, hφ, hF, h0, hz, hr⟩ := ownAt re he
    refine ⟨.ref A, hs, .inl ⟨rfl, vs, .inl (.inl hA)⟩, ω, st, env, H0, sim, re, stepO x0 h fun d st1 v H1 ω1 e1 s1 r1 x1 h => ?_⟩
    have r1 := r1.rep hn
    have re1 := re.ext e1
    obtain ⟨A', vs', hs', hA', hφ', hF', _, _, hr'⟩ := ownAt re1 he
    rw [hs] at hs'
    cases hs'
    split at h
    · rename_i hlt
      have hl : vs'.length = xs.length := hr'.length
      refine ⟨A, vs', v, rfl, rfl, hA', by omega, ?_⟩
      refine h σ (upd H1 A (.lst (vs' ++ [v]))) ω1 (WExt.own hA' hF') (x1.young h0) (s1.own hA' hφ' hF') (re1.mutOwn he hs hA' hF' (by simp; omega) (hr'.append ?_))
      simp only [Reps]
      exact ⟨r1, trivial⟩
    · exact h.elim
  · exact h.elim
/-- x.extend(e) -/
theorem psExt {i : Nat} {x : Str} (sk : SOk X T G kw k c W) (hN : c.N[i]? = some x) (hv : visB c.sc x = true) (hd : okNm x = true) (hq : PE X q (tEv X T G k W e)) (h1 : nst q = true) (hl : (apos.endLine == cpos.line) = true) :
    PS X (.Expr (.Call (.Attribute (.Name x p1) "extend" apos) [q] [] cpos) pos) (tS X T G k W (.extO i e)) := by
  obtain ⟨h3, h4⟩ := okNm_ok hd
  refine (ps_expr (pe_bm PySem.F.plainAttrs_list PySem.F.slot_list_extend PySem.F.type_list_extend mt_extend (pe_var (i := i) (by rw [sk.ok.N]; exact hN) (by rw [sk.ok.sc]; exact visB_ok hv) h3 h4) (pa_cons hq pa_nil (star_cons h1)) rfl (few_of h1) hl (star_cons h1) rfl)).weak
    fun D σ H ⟨ω, st, env, H0, ω0, sim, re, x0, h⟩ => ?_
  simp only [exec] at h
  split at h
  · rename_i xs he
    obtain ⟨A, vs, hs, hA, hφ, hF, h0, hz, hr⟩ := ownAt re he
    refine ⟨.ref A, hs, .inl ⟨rfl, vs, .inl (.inl hA)⟩, ω, st, env, H0, sim, re, stepO x0 h fun d st1 v H1 ω1 e1 s1 r1 x1 h => ?_⟩
    have rt := r1.t s1
    have re1 := re.ext e1
    obtain ⟨A', vs', hs', hA', hφ', hF', _, _, hr'⟩ := ownAt re1 he
    rw [hs] at hs'
    cases hs'
    split at h
    · rename_i ys heq
      rw [heq] at rt
      obtain ⟨B, ws, rfl, hB, hyl, hyr⟩ := rt.lst
      split at h
      · rename_i hlt
        have hl : vs'.length = xs.length := hr'.length
        have hl2 : ws.length = ys.length := hyr.length
        refine ⟨A, B, vs', ws, rfl, rfl, hA', hB, by omega, ?_⟩
        exact h σ (upd H1 A (.lst (vs' ++ ws))) ω1 (WExt.own hA' hF') (x1.young h0) (s1.own hA' hφ' hF') (re1.mutOwn he hs hA' hF' (by simp; omega) (hr'.append hyr))
      · exact h.elim
    · exact h.elim
  · exact h.elim
theorem sub_asg {o : Expr} {env : PySem.Env} (h : plainIx q = true) : ∀ v, assign (.Subscript o q p2) env v = (do
      let ov ← holding [v] (eval o env)
      let iv ← holding [v, ov] (eval q env)
      standAt p2
      holding [v, ov, iv] (setItem ov iv v)
      release [v, ov, iv] []) := by
  cases q <;> first | (intro v; rfl) | cases h
/-- x[a] = e -/
theorem psSetO {i : Nat} {x : Str} (sk : SOk X T G kw k c W) (hN : c.N[i]? = some x) (hv : visB c.sc x = true) (hd : okNm x = true) (hp : PE X p (tEv X T G k W e)) (hn : e.isO = false) (hq : PE X q (tEv X T G k W a)) (hm : a.isO = false) (hix : plainIx q = true)
    (hsw : swapsWithSole [.Subscript (.Name x p1) q p2] p pos.line X.env = pure false) : PS X (.Assign [.Subscript (.Name x p1) q p2] p pos) (tS X T G k W (.setO i a e)) := by
  obtain ⟨h3, h4⟩ := okNm_ok hd
  refine (ps_asg hp (pg_sub (pe_var (i := i) (by rw [sk.ok.N]; exact hN) (by rw [sk.ok.sc]; exact visB_ok hv) h3 h4) hq set_list (sub_asg hix)) hsw (by unfold swappedStores; rfl)).weak fun D σ H ⟨ω, st, env, H0, ω0, sim, re, x0, h⟩ => ?_
  simp only [exec] at h
  refine ⟨ω, st, env, H0, sim, re, stepO x0 h fun d st1 v H1 ω1 e1 s1 r1 x1 h => ?_⟩
  have r1 := r1.rep hn
  split at h
  · rename_i xs he
    have re1 := re.ext e1
    obtain ⟨A, vs, hs, hA, hφ, hF, h0, hz, hr⟩ := ownAt re1 he
    refine ⟨.ref A, hs, ω1, st1, env, H0, s1, re1, stepO x1 h fun d2 st2 v2 H2 ω2 e2 s2 r2 x2 h => ?_⟩
    have r2 := r2.rep hm
    have re2 := re1.ext e2
    obtain ⟨A', vs', hs', hA', hφ', hF', _, _, hr'⟩ := ownAt re2 he
    rw [hs] at hs'
    cases hs'
    cases d2 with
    | int kk =>
      simp only [Rep] at r2
      subst r2
      simp only at h
      split at h
      · rename_i j hj
        refine ⟨A, vs', kk, j, rfl, rfl, hA', by rw [hr'.length]; exact hj, ?_⟩
        exact h σ _ ω2 (WExt.own hA' hF') (x2.young h0) (s2.own hA' hφ' hF') (re2.mutOwn he hs hA' hF' (by simpa using hz) (hr'.set j (Rep.ext e2 _ r1)))
      · exact h.elim
    | _ => exact h.elim
  · exact h.elim
theorem psAug {i : Nat} {x : Str} {op : Bo} (hop : op = .add ∨ op = .sub) (sk : SOk X T G kw k c W) (hN : c.N[i]? = some x) (hl : locB c.sc c.fn x = true) (hp : PE X p (tEv X T G k W e)) (hn : e.isO = false) : PS X (.AugAssign (.Name x p1) op.py p pos) (tS X T G k W (.aug i op e)) := by
  obtain ⟨h2, h3⟩ := locB_ok hl
  have base : ∀ {f : Int → Int → Int} (ho : PIp X op.py (ipI f)) (hf : ∀ env st, exec (callN G k) G.gl env st (.aug i op e) = match env[i]? with
      | some (.va x) => (ev (callN G k) G.gl env st e).o env fun y st1 => match x, y with
        | .int a, .int b => .nx (env.set i (.va (.int (f a b)))) st1
        | _, _ => .no
      | _ => .no), PS X (.AugAssign (.Name x p1) op.py p pos) (tS X T G k W (.aug i op e)) := fun {f} ho hf => by
    refine (ps_aug (i := i) (by rw [sk.ok.N]; exact sk.ok.nd) (by rw [sk.ok.N]; exact hN) (by rw [sk.ok.sc]; exact h2) hp ho (by rw [sk.ok.fn, sk.ok.sc]; exact h3)).weak fun D σ H ⟨ω, st, env, H0, ω0, sim, re, x0, h⟩ => ?_
    rw [hf] at h
    split at h
    · rename_i d he
      obtain ⟨v, hv, r0⟩ := re.sl i _ he
      refine ⟨v, hv, ω, st, env, H0, sim, re, stepO x0 h fun d2 st1 v2 H1 ω1 e1 s1 r1 x1 h => ?_⟩
      have r1 := r1.rep hn
      cases d with
      | int m =>
        cases d2 with
        | int n =>
          simp only [Rep] at r0 r1
          subst r0
          subst r1
          exact ⟨m, n, rfl, rfl, h _ H1 ω1 (WExt.refl _ _) x1 s1 ((re.ext e1).setV (List.getElem?_eq_some_iff.mp he).1 (by simp only [Rep]))⟩
        | _ => exact h.elim
      | _ => exact h.elim
    · exact h.elim
  cases op with
  | add =>
    refine base ip_add fun env st => ?_
    simp only [exec]
    cases env[i]? with
    | none => rfl
    | some s =>
      cases s with
      | va d => cases ev (callN G k) G.gl env st e <;> (first | rfl | (rename_i y st1; cases d <;> cases y <;> rfl))
      | no => rfl
      | ow xs => rfl
  | sub =>
    refine base ip_sub fun env st => ?_
    simp only [exec]
    cases env[i]? with
    | none => rfl
    | some s =>
      cases s with
      | va d => cases ev (callN G k) G.gl env st e <;> (first | rfl | (rename_i y st1; cases d <;> cases y <;> rfl))
      | no => rfl
      | ow xs => rfl
  | _ => rcases hop with h | h <;> cases h
/-! ### d.update(..) -/
omit [HW] in
def rUpd : V → List V → Hp → VK → Prop := fun x vs H Q => ∃ (a b : Addr) (kvs more : List (Key × V)), x = .ref a ∧ vs = [.ref b] ∧ a ≠ b ∧ H a = some (.dK kvs) ∧ H b = some (.dK more) ∧ kvs.length + more.length ≤ sizeLine ∧ Q .non (upd H a (.dK (mergeK kvs more)))
theorem mt_upd : MtR X "dict.update" rUpd := by
  rintro pins s σ H x vs v us Q I rx rv ⟨A, B, kvs, more, rfl, rfl, hne, hA, hB, hz, q⟩
  cases rx
  obtain ⟨u, rfl, ru⟩ := rv.one
  cases ru
  obtain ⟨z, hd, ws, rel, dd⟩ := dk_of I.hok hA
  obtain ⟨z2, hd2, ws2, rel2, dd2⟩ := dk_of I.hok hB
  refine call_meetsIn PySem.F.slot_dict_update dd.typeIs PySem.F.entry_dict_update (PySem.F.args_dict_update_2 _ _) (meets_dict_update (mixKind X.prog X.w) A B hne hd2) ⟨ws, ws2, dd, dd2, by rw [← rel.length, ← rel2.length]; exact hz, fun h' dd' _ hs => ?_⟩
  have he : ∃ q, h'.get? A = some q := let ⟨q, _, _, hq, _⟩ := dd'; ⟨q, hq⟩
  exact ⟨.non, _, d_write (t' := s.toks) I (by rw [hA]; exact True.intro) hs he (dk_new (Nat.le_trans (length_mergeK more kvs) hz) hd (KV.merge rel2 rel) dd'), rfl, q⟩
theorem psUpd (sk : SOk X T G kw k c W) (hp : PE X p (tEv X T G k W a)) (hn : a.isO = false) (hq : PE X q (tEv X T G k W b)) (hm : b.isO = false) (h1 : nst q = true) (hl : (apos.endLine == cpos.line) = true) (hb : attributeBase p "update" X.env (eval p X.env) = eval p X.env) :
    PS X (.Expr (.Call (.Attribute p "update" apos) [q] [] cpos) pos) (tS X T G k W (.updC a b)) := by
  refine (ps_expr (pe_bm PySem.F.plainAttrs_dict PySem.F.slot_dict_update PySem.F.type_dict_update mt_upd hp (pa_cons hq pa_nil (star_cons h1)) hb (few_of h1) hl (star_cons h1) rfl)).weak fun D σ H ⟨ω, st, env, H0, ω0, sim, re, x0, h⟩ => ?_
  simp only [exec] at h
  refine ⟨ω, st, env, H0, sim, re, stepO x0 h fun d st1 v H1 ω1 e1 s1 r1 x1 h => ?_⟩
  have r1 := r1.rep hn
  cases d with
  | ref n =>
    simp only [Rep] at r1
    obtain ⟨A, hA, rfl⟩ := r1
    simp only at h
    split at h
    · rename_i qs hc1
      obtain ⟨A', hA', ps, hps, hk⟩ := s1.cell n _ hc1
      rw [hA] at hA'
      cases hA'
      refine ⟨.inr (.inr (.inl ⟨rfl, .inl ⟨ps, hps⟩⟩)), ω1, st1, env, H0, s1, re.ext e1, stepO x1 h fun d2 st2 v2 H2 ω2 e2 s2 r2 x2 h => ?_⟩
      have r2 := r2.rep hm
      cases d2 with
      | ref m =>
        simp only [Rep] at r2
        obtain ⟨B, hB, rfl⟩ := r2
        simp only at h
        split at h
        · rename_i kvs more hc hc2
          split at h
          · rename_i hnm
            have hA2 := e2.at hA
            obtain ⟨A2, hA3, ps2, hps2, hk2⟩ := s2.cell n _ hc
            rw [hA2] at hA3
            cases hA3
            obtain ⟨B2, hB3, qs2, hqs2, hk3⟩ := s2.cell m _ hc2
            rw [hB] at hB3
            cases hB3
            have hAB : A ≠ B := fun z => by
              subst z
              obtain ⟨g1, g2⟩ := List.getElem?_eq_some_iff.mp hA2
              obtain ⟨g3, g4⟩ := List.getElem?_eq_some_iff.mp hB
              exact hnm.1 ((List.getElem_inj s2.nd).mp (g2.trans g4.symm))
            have l1 := hk2.len.1
            have l2 := hk3.len.1
            have z : RepK X.K H2 ω2 (mergeK ps2 qs2) (mergeD kvs more) := RepK.merge hk3 hk2
            have cell : CellR X.K (upd H2 A (.dK (mergeK ps2 qs2))) ω2 A (.dct (mergeD kvs more)) := ⟨_, upd_same, z.ext ⟨List.prefix_refl _, fun _ h => h, fun b u e q => by rw [upd_ne (fun z => q (by rw [z]; exact List.mem_of_getElem? hA2))]; exact e, fun _ h => .inl h, fun _ h => .inl h, fun b _ q => by
              by_cases e : b = A
              · subst e; rw [upd_same]; simp
              · rw [upd_ne e]; exact q⟩⟩
            obtain ⟨xx, ss⟩ := s2.setCell hA2 cell
            refine ⟨A, B, ps2, qs2, rfl, rfl, hAB, hps2, hqs2, by omega, ?_⟩
            exact h σ _ ω2 xx.w (x2.trans xx) ss (((re.ext e1).ext e2).ext xx)
          · exact h.elim
        · exact h.elim
      | _ => exact h.elim
    · exact h.elim
  | _ => exact h.elim
end
end Ev

set_option Elab.async false
set_option linter.all false
set_option maxRecDepth 100000
/-! Targets of all forms; statements checked by computing. -/
namespace Ev
open PySem PySem.Spec PyProof.Rows L2
variable [HW]

def tTt (X : Cx) (T : Nm) (G : Pg) (k : Nat) (W : WX) (t : Tt) : TG := fun v σ H Q => ∃ ω d st env H0 ω0, Sim X.K H ω st ∧ REnv X.K H0 H ω σ env ∧ Ext H0 ω0 H ω ∧ Rep X.K H ω v d ∧
  PostO X T W ⟨Q, fun _ _ => False, fun _ _ => False, fun _ _ => False⟩ H0 ω0 H ω (asgT (callN G k) G.gl env st t d)
def tTts (X : Cx) (T : Nm) (G : Pg) (k : Nat) (W : WX) (ts : List Tt) : TGs := fun vs σ H Q => ∃ ω ds st env H0 ω0, Sim X.K H ω st ∧ REnv X.K H0 H ω σ env ∧ Ext H0 ω0 H ω ∧ Reps X.K H ω vs ds ∧
  PostO X T W ⟨Q, fun _ _ => False, fun _ _ => False, fun _ _ => False⟩ H0 ω0 H ω (asgTs (callN G k) G.gl env st ts ds)
section
variable (T : Nm) (G : Pg) (kw : List Kw) (c : Cn)
omit [HW] in
mutual
def chkTt : Tt → Expr → Bool
  | .nm i, p => match p with
    | .Name x _ => decide (c.N[i]? = some x) && locB c.sc c.fn x
    | _ => false
  | .sub a i, p => match p with
    | .Subscript o q _ => chkE T G kw c a o && chkE T G kw c i q && !a.isO && !i.isO && plainIx q
    | _ => false
  | .dsub a i, p => match p with
    | .Subscript o q _ => chkE T G kw c a o && chkE T G kw c i q && !a.isO && !i.isO && plainIx q
    | _ => false
  | .tp ts, p => match p with
    | .Tuple ps _ _ => chkTts ts ps
    | _ => false
def chkTts : List Tt → List Expr → Bool
  | [], ps => ps.isEmpty
  | t :: ts, ps => match ps with
    | p :: ps => chkTt t p && chkTts ts ps
    | [] => false
end
end
section
variable {X : Cx} {T : Nm} {G : Pg} {k : Nat} {W : WX} {c : Cn} {kw : List Kw}
omit [HW] in
/-- an end that a store may have -/
def O.plain : O → Bool
  | .nx _ _ => true
  | .ex _ _ _ => true
  | .no => true
  | _ => false
mutual
theorem asgT_plain {cf : Cf} {gl : Nat → Option D} : ∀ (t : Tt) (d : D) (env : Env) (st : St), (asgT cf gl env st t d).plain = true
  | .nm i, d, env, st => by
    simp only [asgT]
    split <;> rfl
  | .sub a i, d, env, st => by
    simp only [asgT]
    cases ev cf gl env st a with
    | no => rfl
    | ex x s => rfl
    | ok x s =>
      simp only [R.o_ok]
      cases ev cf gl env s i with
      | no => rfl
      | ex x s => rfl
      | ok y s =>
        simp only [R.o_ok]
        split
        · split
          · split <;> rfl
          · rfl
        · rfl
  | .dsub a i, d, env, st => by
    simp only [asgT]
    cases ev cf gl env st a with
    | no => rfl
    | ex x s => rfl
    | ok x s =>
      simp only [R.o_ok]
      cases ev cf gl env s i with
      | no => rfl
      | ex x s => rfl
      | ok y s =>
        simp only [R.o_ok]
        split
        · split <;> rfl
        · rfl
  | .tp ts, d, env, st => by
    simp only [asgT]
    split
    · split
      · exact asgTs_plain ts _ env st
      · rfl
    · rfl
theorem asgTs_plain {cf : Cf} {gl : Nat → Option D} : ∀ (ts : List Tt) (ds : List D) (env : Env) (st : St), (asgTs cf gl env st ts ds).plain = true
  | [], ds, env, st => by cases ds <;> (simp only [asgTs]; rfl)
  | t :: ts, ds, env, st => by
    cases ds with
    | nil => simp only [asgTs]; rfl
    | cons d ds =>
      simp only [asgTs]
      split
      · exact asgTs_plain ts _ _ _
      · rfl
      · rfl
end
mutual
theorem pgTt (ok : XOk X T G kw k c) (tk : Takes X W) : ∀ (t : Tt) {p : Expr}, chkTt T G kw c t p = true → PG X p (tTt X T G k W t) ∧ tgOk p = true
  | .nm i, p, h => by
    simp only [chkTt] at h
    split at h
    · rename_i x pos
      simp only [Bool.and_eq_true, decide_eq_true_eq] at h
      obtain ⟨h1, h2⟩ := h
      obtain ⟨h2, h3⟩ := locB_ok h2
      have g := pg_name (X := X) (i := i) (x := x) (pos := pos) (by rw [ok.N]; exact ok.nd) (by rw [ok.N]; exact h1) (by rw [ok.sc]; exact h2) (by rw [ok.fn, ok.sc]; exact h3)
      refine ⟨⟨fun pins s σ H v u Q I rv q => g.run pins s σ H v u Q I rv ?_⟩, rfl⟩
      obtain ⟨ω, d, st, env, H0, ω0, sim, re, x0, r, h⟩ := q
      simp only [asgT] at h
      split at h
      · rename_i env' hv
        obtain ⟨hi, rfl⟩ := setV_eq hv
        exact h _ H ω (WExt.refl _ _) x0 sim (re.setV hi r)
      · exact h.elim
    · cases h
  | .sub a i, p, h => by
    simp only [chkTt] at h
    split at h
    · rename_i o q pos
      simp only [Bool.and_eq_true, Bool.not_eq_true'] at h
      obtain ⟨⟨⟨⟨h1, h2⟩, h3⟩, h4⟩, h5⟩ := h
      have g := pg_sub (pos := pos) (sndE a ok tk h1).1 (sndE i ok tk h2).1 (set_list (X := X)) (sub_asg h5)
      refine ⟨⟨fun pins s σ H v u Q I rv q => g.run pins s σ H v u Q I rv ?_⟩, rfl⟩
      obtain ⟨ω, d, st, env, H0, ω0, sim, re, x0, r, h⟩ := q
      simp only [asgT] at h
      refine ⟨ω, st, env, H0, sim, re, stepO x0 h fun d1 st1 v1 H1 ω1 e1 s1 r1 x1 h => ⟨ω1, st1, env, H0, s1, re.ext e1, stepO x1 h fun d2 st2 v2 H2 ω2 e2 s2 r2 x2 h => ?_⟩⟩
      have r1 := r1.rep h3
      have r2 := r2.rep h4
      split at h
      · simp only [Rep] at r1 r2
        obtain ⟨A, hA, rfl⟩ := r1
        subst r2
        split at h
        · rename_i xs hc
          split at h
          · rename_i j hj
            have hA2 := e2.at hA
            obtain ⟨A2, hA3, vs, hvs, hl, hr⟩ := s2.cell _ _ hc
            rw [hA2] at hA3
            cases hA3
            refine ⟨A, vs, _, j, rfl, rfl, hvs, by rw [hr.length]; exact hj, ?_⟩
            have r3 := Rep.ext (e1.trans e2) _ r
            have xx : Ext H2 ω2 (upd H2 A (.lst (vs.set j v))) ω2 := ⟨List.prefix_refl _, fun _ h => h, fun b u e q => by rw [upd_ne (fun z => q (by rw [z]; exact List.mem_of_getElem? hA2))]; exact e, fun _ h => .inl h, fun _ h => .inl h, fun b _ q => by
              by_cases e : b = A
              · subst e; rw [upd_same]; simp
              · rw [upd_ne e]; exact q⟩
            obtain ⟨_, ss⟩ := s2.setCell (c := .lst (xs.set j d)) (o := .lst (vs.set j v)) hA2 ⟨_, upd_same, by simpa using hl, Reps.ext xx _ (hr.set j r3)⟩
            exact h σ _ ω2 xx.w (x2.trans xx) ss (((re.ext e1).ext e2).ext xx)
          · exact h.elim
        · exact h.elim
      · exact h.elim
    · cases h
  | .dsub a i, p, h => by
    simp only [chkTt] at h
    split at h
    · rename_i o q pos
      simp only [Bool.and_eq_true, Bool.not_eq_true'] at h
      obtain ⟨⟨⟨⟨h1, h2⟩, h3⟩, h4⟩, h5⟩ := h
      have g := pg_sub (pos := pos) (sndE a ok tk h1).1 (sndE i ok tk h2).1 (setN (X := X) ok.g.hw ok.u100) (sub_asg h5)
      refine ⟨⟨fun pins s σ H v u Q I rv q => g.run pins s σ H v u Q I rv ?_⟩, rfl⟩
      obtain ⟨ω, d, st, env, H0, ω0, sim, re, x0, r, h⟩ := q
      simp only [asgT] at h
      refine ⟨ω, st, env, H0, sim, re, stepO x0 h fun d1 st1 v1 H1 ω1 e1 s1 r1 x1 h => ⟨ω1, st1, env, H0, s1, re.ext e1, stepO x1 h fun d2 st2 v2 H2 ω2 e2 s2 r2 x2 h => ?_⟩⟩
      have r1 := (r1.rep h3).ext e2
      have r2 := r2.rep h4
      have r3 := Rep.ext (e1.trans e2) _ r
      cases hd : dnAt st2 d1 with
      | none => rw [hd] at h; exact h.elim
      | some z =>
        cases hk : tkey d2 with
        | none => rw [hd, hk] at h; exact h.elim
        | some kk =>
          simp only [hd, hk] at h
          split at h
          · rename_i hz
            exact ⟨ω2, st2, d1, d2, d, z, kk, s2, r1, r2, r3, hd, hk, hz, fun H' xx ss => h σ H' ω2 xx.w (x2.trans xx) ss (((re.ext e1).ext e2).ext xx)⟩
          · exact h.elim
    · cases h
  | .tp ts, p, h => by
    simp only [chkTt] at h
    split at h
    · rename_i ps kk pos
      obtain ⟨g, hl, hall⟩ := pgTts ok tk ts h
      obtain ⟨h1, h2⟩ := asg_all (env := X.env) hall
      have g := pg_tup (X := X) (k := kk) (pos := pos) (n := ts.length) ok.calm g (h1.trans hl) h2
      refine ⟨⟨fun pins s σ H v u Q I rv q => ?_⟩, rfl⟩
      obtain ⟨ω, d, st, env, H0, ω0, sim, re, x0, r, h⟩ := q
      simp only [asgT] at h
      split at h
      · rename_i ds
        refine g.run pins s σ H v u Q I rv ?_
        simp only [Rep] at r
        obtain ⟨A, vs, rfl, ht, hz, hr⟩ := r
        split at h
        · rename_i hlen
          exact ⟨A, vs, rfl, ht.sq, by rw [hr.length, hlen], ω, ds, st, env, H0, ω0, sim, re, x0, hr, h⟩
        · exact h.elim
      · exact h.elim
    · cases h
theorem pgTts (ok : XOk X T G kw k c) (tk : Takes X W) : ∀ (ts : List Tt) {ps : List Expr}, chkTts T G kw c ts ps = true → PGs X ps (tTts X T G k W ts) ∧ ps.length = ts.length ∧ ps.all tgOk = true
  | [], ps, h => by
    simp only [chkTts, List.isEmpty_iff] at h
    subst h
    refine ⟨⟨fun pins s σ H vs us Q I rv q => pgs_nil.run pins s σ H vs us Q I rv ?_⟩, rfl, rfl⟩
    obtain ⟨ω, ds, st, env, H0, ω0, sim, re, x0, r, h⟩ := q
    cases ds with
    | nil =>
      simp only [asgTs] at h
      cases vs with
      | nil => exact ⟨rfl, h σ H ω (WExt.refl _ _) x0 sim re⟩
      | cons v vs => exact r.elim
    | cons d ds => simp only [asgTs] at h; exact h.elim
  | t :: ts, ps, h => by
    simp only [chkTts] at h
    split at h
    · rename_i p ps
      simp only [Bool.and_eq_true] at h
      obtain ⟨g1, ho⟩ := pgTt ok tk t h.1
      obtain ⟨g2, hl, hall⟩ := pgTts ok tk ts h.2
      have g := pgs_cons g1 g2 (by rw [asg_cons ho]; rfl)
      refine ⟨⟨fun pins s σ H vs us Q I rv q => g.run pins s σ H vs us Q I rv ?_⟩, by simp [hl], by simp [ho]; simpa using hall⟩
      obtain ⟨ω, ds, st, env, H0, ω0, sim, re, x0, r, h⟩ := q
      cases ds with
      | nil => simp only [asgTs] at h; exact h.elim
      | cons d ds =>
        cases vs with
        | nil => exact r.elim
        | cons v vs =>
          simp only [Reps] at r
          simp only [asgTs] at h
          refine ⟨v, vs, rfl, ω, d, st, env, H0, ω0, sim, re, x0, r.1, ?_⟩
          have hno := asgT_plain (cf := callN G k) (gl := G.gl) t d env st
          cases hx : asgT (callN G k) G.gl env st t d with
          | nx env' st' => rw [hx] at h; exact fun σ' H' ω' w x s re' => ⟨ω', ds, st', env', H0, ω0, s, re', x, Reps.wext w _ r.2, PostO.mono w h⟩
          | ex y env' st' => rw [hx] at h; exact h
          | rt d' st' => rw [hx] at hno; cases hno
          | bk d' st' => rw [hx] at hno; cases hno
          | ct d' st' => rw [hx] at hno; cases hno
          | no => rw [hx] at h; exact h
    · cases h
end
end
end Ev

set_option Elab.async false
set_option linter.all false
set_option maxRecDepth 100000
/-! Statements checked by computing. -/
namespace Ev
open PySem PySem.Spec PyProof.Rows L2

def isLcE : E → Bool
  | .lc _ _ _ _ _ => true
  | _ => false
def isLstE : E → Bool
  | .lst _ => true
  | _ => false
def notLc : Expr → Bool
  | .ListComp _ _ _ _ => false
  | .SetComp _ _ _ _ => false
  | .DictComp _ _ _ _ _ => false
  | _ => true
def notTup : Expr → Bool
  | .Tuple _ _ _ => false
  | _ => true
def isNm : Expr → Bool
  | .Name _ _ => true
  | _ => false
def isSub : Expr → Bool
  | .Subscript _ _ _ => true
  | _ => false
theorem notLc_sw {p : Expr} {o : Option Expr} {l : Nat} {env : PySem.Env} (h : notLc p = true) : swapsWith p o l env = pure false := by
  cases p <;> first | (cases h; done) | rfl
theorem sole_sw {p t : Expr} {l : Nat} {env : PySem.Env} (h : notLc p = true) : swapsWithSole [t] p l env = pure false := notLc_sw h
theorem swapped_no {p t : Expr} {env : PySem.Env} (h : (notTup p || isSub t) = true) : swappedStores [t] p env = pure none := by
  cases t <;> first
    | (unfold swappedStores; rfl)
    | (cases p <;> first | (unfold swappedStores; rfl) | (cases h; done))
def parB (p q : Expr) : Bool := !([p, q].all (foldedForSure 8)) && !([p, q].all (constantsAlone 8))
theorem par_sw {x y : Str} {px py pt pt2 : Pos} {kt k2 : Nat} {p q : Expr} {env : PySem.Env} (hk : env.scope.kind = .function) (hx : env.scope.names.lookup x = some .local) (hy : env.scope.names.lookup y = some .local) (hxy : x ≠ y) (hl : (py.line == px.line) = true)
    (h1 : nst p = true) (h2 : nst q = true) (h3 : parB p q = true) : swappedStores [.Tuple [.Name x px, .Name y py] kt pt] (.Tuple [p, q] k2 pt2) env = pure (some [x, y]) := by
  have hb : env.blockKind = .function := by unfold Env.blockKind; rw [hk]; rfl
  unfold parB at h3
  rw [Bool.and_eq_true, Bool.not_eq_true', Bool.not_eq_true'] at h3
  have star : ∀ z : Expr, nst z = true → (match z with | .Starred .. => true | _ => false) = false := fun z hz => by cases z <;> first | rfl | cases hz
  have hp := star p h1
  have hq := star q h2
  have kx : env.kindOf x = some .local := hx
  have ky : env.kindOf y = some .local := hy
  have hxy' : (y == x) = false := beq_eq_false_iff_ne.mpr (Ne.symm hxy)
  unfold swappedStores
  simp only [hb, hp, hq, kx, ky, List.any_cons, List.any_nil, Bool.or_false, h3.1, h3.2, Expr.pos, List.length_cons, List.length_nil, List.head?_cons, Option.map_some, Option.getD_some, List.filterMap_cons, List.filterMap_nil, hl, beq_self_eq_true, Bool.and_self, if_true, Bool.true_or]
  have e : ([x, y].eraseDups).length = 2 := by
    rw [List.eraseDups_cons]
    simp [hxy', List.eraseDups_cons]
  simp [e]
  rintro (w | w)
  · cases (show false = true from hp.symm.trans w)
  · cases (show false = true from hq.symm.trans w)
/-- two names of which one is no plain local -/
def cellPair (sc : Scope) : Expr → Expr → Bool
  | .Tuple [.Name x _, .Name y _] _ _, .Tuple [p, q] _ _ => nst p && nst q && (decide (sc.names.lookup x ≠ some .local) || decide (sc.names.lookup y ≠ some .local))
  | _, _ => false
theorem pair_sw {t p : Expr} {env : PySem.Env} (hk : env.scope.kind = .function) (h : cellPair env.scope t p = true) : swappedStores [t] p env = pure none := by
  unfold cellPair at h
  split at h
  · rename_i x px y py kt pt p q k2 pt2
    simp only [Bool.and_eq_true, Bool.or_eq_true, decide_eq_true_eq] at h
    have hb : env.blockKind = .function := by unfold Env.blockKind; rw [hk]; rfl
    have star : ∀ z : Expr, nst z = true → (match z with | .Starred .. => true | _ => false) = false := fun z hz => by cases z <;> first | rfl | cases hz
    have hp := star p h.1.1
    have hq := star q h.1.2
    unfold swappedStores
    simp only [hb, List.any_cons, List.any_nil, Bool.or_false, List.length_cons, List.length_nil, List.head?_cons, Option.map_some, Option.getD_some, List.filterMap_cons, List.filterMap_nil, Expr.pos]
    have key : ∀ z : Str, env.scope.names.lookup z ≠ some .local → (env.kindOf z == some NameKind.local) = false := fun z hz => beq_eq_false_iff_ne.mpr hz
    rcases h.2 with z | z
    · have kx := key x z
      rcases Bool.eq_false_or_eq_true (env.kindOf y == some NameKind.local) with hc | hc <;> rcases Bool.eq_false_or_eq_true (py.line == px.line) with hl | hl <;>
        simp only [kx, hc, hl, Bool.false_and, Bool.and_false, Bool.and_true, Bool.false_eq_true, if_false, if_true, List.length_cons, List.length_nil] <;> (split <;> first | rfl | (split <;> first | rfl | (split <;> first | rfl | simp_all)))
    · have ky := key y z
      rcases Bool.eq_false_or_eq_true (env.kindOf x == some NameKind.local) with hc | hc <;> rcases Bool.eq_false_or_eq_true (px.line == px.line) with hl | hl <;>
        simp only [ky, hc, hl, Bool.false_and, Bool.and_false, Bool.and_true, Bool.false_eq_true, if_false, if_true, List.length_cons, List.length_nil] <;> (split <;> first | rfl | (split <;> first | rfl | (split <;> first | rfl | simp_all)))
  · cases h
section
variable (T : Nm) (G : Pg) (kw : List Kw)
/-- a value that is stored -/
def chkV (c : Cn) (o : Bool) (e : E) (p : Expr) : Bool := chkE T G kw c e p && !e.isO && (if o then isLstE e || isLcE e else true)
mutual
def chkS (c : Cn) : S → Stmt → Bool
  | .asg t e, s => match s with
    | .Assign [tg] p _ => match t, tg with
      | .nm i, .Name x _ => decide (c.N[i]? = some x) && locB c.sc c.fn x && chkV T G kw c false e p && (isLcE e || notLc p)
      | .nm _, _ => false
      | t, tg => chkTt T G kw c t tg && chkV T G kw c false e p && notLc p && (notTup p || isSub tg || cellPair c.sc tg p)
    | _ => false
  | .par i oi j oj a b, s => match s with
    | .Assign [.Tuple [.Name x px, .Name y py] _ _] (.Tuple [p, q] _ _) _ => decide (c.N[i]? = some x) && decide (c.N[j]? = some y) && !(decide (i = j)) && decide (c.sc.names.lookup x = some .local) && decide (c.sc.names.lookup y = some .local) && (py.line == px.line) &&
        decide (x ≠ y) && nst p && nst q && parB p q && chkV T G kw c oi a p && chkV T G kw c oj b q
    | _ => false
  | .newO i e, s => match s with
    | .Assign [.Name x _] p _ => decide (c.N[i]? = some x) && locB c.sc c.fn x && chkV T G kw c true e p && (isLcE e || notLc p)
    | _ => false
  | .mov i j, s => match s with
    | .Assign [.Name x _] (.Name y _) _ => decide (c.N[i]? = some x) && locB c.sc c.fn x && decide (c.N[j]? = some y) && visB c.sc y && okNm y
    | _ => false
  | .appO i e, s => match s with
    | .Expr (.Call (.Attribute (.Name x _) m apos) [q] [] cpos) _ => m == ("append" : Str) && decide (c.N[i]? = some x) && visB c.sc x && okNm x && chkE T G kw c e q && !e.isO && nst q && (apos.endLine == cpos.line)
    | _ => false
  | .extO i e, s => match s with
    | .Expr (.Call (.Attribute (.Name x _) m apos) [q] [] cpos) _ => m == ("extend" : Str) && decide (c.N[i]? = some x) && visB c.sc x && okNm x && chkE T G kw c e q && nst q && (apos.endLine == cpos.line)
    | _ => false
  | .setO i a e, s => match s with
    | .Assign [.Subscript (.Name x _) q _] p _ => decide (c.N[i]? = some x) && visB c.sc x && okNm x && chkE T G kw c e p && !e.isO && chkE T G kw c a q && !a.isO && plainIx q && notLc p
    | _ => false
  | .aug i op e, s => match s with
    | .AugAssign (.Name x _) o p _ => decide (c.N[i]? = some x) && locB c.sc c.fn x && decide (o = op.py) && (decide (op = .add) || decide (op = .sub)) && chkE T G kw c e p && !e.isO
    | _ => false
  | .exp e, s => match s with
    | .Expr p _ => chkE T G kw c e p && notLc p
    | _ => false
  | .updC a b, s => match s with
    | .Expr (.Call (.Attribute p m apos) [q] [] cpos) _ => m == ("update" : Str) && chkE T G kw c a p && !a.isO && chkE T G kw c b q && !b.isO && nst q && (apos.endLine == cpos.line) && notCall p
    | _ => false
  | .ret e, s => match s with
    | .Return (some p) _ => chkE T G kw c e p && !e.isO
    | .Return none _ => isNonC e
    | _ => false
  | .retO i, s => match s with
    | .Return (some (.Name x _)) _ => decide (c.N[i]? = some x) && visB c.sc x && okNm x
    | _ => false
  | .ite e a b, s => match s with
    | .If p as bs _ => chkE T G kw c e p && notIf p && !e.isO && chkSs c a as && chkSs c b bs
    | _ => false
  | .whl e b, s => match s with
    | .While p bs [] _ => chkE T G kw c e p && notIf p && !e.isO && chkSs c b bs
    | _ => false
  | .for tg it b, s => match s with
    | .For ptg pit bs [] _ => chkIt T G kw c it ptg pit && !it.isO && chkTg c.sc c.fn c.N tg ptg && notSet pit && chkSs c b bs
    | _ => false
  | .brk, s => match s with
    | .Break _ => true
    | _ => false
  | .cnt, s => match s with
    | .Continue _ => true
    | _ => false
  | .pss, s => match s with
    | .Pass _ => true
    | .Expr (.Constant (.str _) _ _) _ => true
    | _ => false
  | .nev, _ => true
def chkSs (c : Cn) : Ss → List Stmt → Bool
  | .nil, ss => ss.isEmpty
  | .cons t ts, ss => match ss with
    | s :: ss => chkS c t s && chkSs c ts ss
    | [] => false
end
end
section
variable [HW] {X : Cx} {T : Nm} {G : Pg} {kw : List Kw} {k : Nat} {c : Cn} {W : WX}
theorem chkV_pe {o : Bool} {e : E} {p : Expr} (ok : XOk X T G kw k c) (tk : Takes X W) (h : chkV T G kw c o e p = true) : PE X p (tVal o X T G k W e) := by
  unfold chkV at h
  simp only [Bool.and_eq_true, Bool.not_eq_true'] at h
  obtain ⟨⟨h1, h2⟩, h3⟩ := h
  cases o with
  | false => exact peVal (sndE e ok tk h1).1 h2
  | true =>
    simp only [if_true, Bool.or_eq_true] at h3
    cases e with
    | lst es =>
      simp only [chkE] at h1
      split at h1
      · simp only [Bool.and_eq_true, decide_eq_true_eq] at h1
        exact peValL (sndEs es ok tk h1.1.1).1 h1.1.2 h1.2
      · cases h1
    | lc elt tg it cond own =>
      cases p with
      | ListComp pe gs scope pos =>
        obtain ⟨ptg, pit, ifs, rfl, z⟩ := lcParts ok tk h1
        exact peValC ok z
      | _ => simp [chkE] at h1
    | _ => rcases h3 with h3 | h3 <;> cases h3
theorem psName {o : Bool} {i : Nat} {x : Str} {py pos : Pos} {p : Expr} {e : E} {t : S} (sk : SOk X T G kw k c W) (hN : c.N[i]? = some x) (hl : locB c.sc c.fn x = true) (hv : chkV T G kw c o e p = true) (hlc : (isLcE e || notLc p) = true)
    (ht : ∀ env st, exec (callN G k) G.gl env st t = (ev (callN G k) G.gl env st e).o env fun d st1 => match slot o d with
      | some u => match setV env i u with
        | some env1 => .nx env1 st1
        | none => .no
      | none => .no) : PS X (.Assign [.Name x py] p pos) (tS X T G k W t) := by
  have hp := chkV_pe sk.ok sk.tk hv
  cases hq : notLc p with
  | true => exact psStore sk hN hl hp (notLc_sw hq) ht
  | false =>
    rw [hq, Bool.or_false] at hlc
    cases e with
    | lc elt tg it cond own =>
      unfold chkV at hv
      simp only [Bool.and_eq_true] at hv
      cases p with
      | ListComp pe gs scope pos =>
        obtain ⟨ptg, pit, ifs, rfl, z⟩ := lcParts sk.ok sk.tk hv.1.1
        exact psStoreC sk hN hl z ht
      | _ => have := hv.1.1; simp [chkE] at this
    | _ => cases hlc
theorem sw_of {t p : Expr} (sk : SOk X T G kw k c W) (h : (notTup p || isSub t || cellPair c.sc t p) = true) : swappedStores [t] p X.env = pure none := by
  rw [Bool.or_eq_true] at h
  rcases h with h | h
  · exact swapped_no h
  · exact pair_sw sk.kind (by rw [sk.ok.sc]; exact h)
mutual
theorem sndS (sk : SOk X T G kw k c W) : ∀ (t : S) {s : Stmt}, chkS T G kw c t s = true → PS X s (tS X T G k W t)
  | .asg t e, s, h => by
    simp only [chkS] at h
    split at h
    · rename_i tg p pos
      split at h
      · simp only [Bool.and_eq_true, decide_eq_true_eq] at h
        obtain ⟨⟨⟨h1, h2⟩, h3⟩, h4⟩ := h
        refine psName sk h1 h2 h3 h4 fun env st => ?_
        (simp only [exec, slot, Bool.false_eq_true, if_false, asgT]) <;> rfl
      · cases h
      · simp only [Bool.and_eq_true] at h
        obtain ⟨⟨⟨h1, h2⟩, h3⟩, h4⟩ := h
        obtain ⟨g, ho⟩ := pgTt sk.ok sk.tk t h1
        refine (ps_asg (chkV_pe sk.ok sk.tk h2) g (sole_sw h3) (sw_of sk h4) (by rw [asg_cons ho]; rfl)).weak fun D σ H ⟨ω, st, env, H0, ω0, sim, re, x0, h⟩ => ?_
        simp only [exec] at h
        refine ⟨ω, st, env, H0, sim, re, ?_⟩
        cases hx : ev (callN G k) G.gl env st e with
        | no => rw [hx] at h; exact h
        | ex y st1 => rw [hx] at h; exact fun cc da H' ω' e s x => h cc da σ H' ω' (x0.trans e) s x
        | ok d st1 =>
          rw [hx] at h
          simp only [R.o_ok] at h
          intro v H' ω' x s r
          refine ⟨ω', d, st1, env, H0, ω0, s, re.ext x, x0.trans x, r, ?_⟩
          have hpl := asgT_plain (cf := callN G k) (gl := G.gl) t d env st1
          have h := PostO.mono x.w h
          cases hz : asgT (callN G k) G.gl env st1 t d with
          | nx env' st' => rw [hz] at h; exact h
          | ex y env' st' => rw [hz] at h; exact h
          | no => rw [hz] at h; exact h
          | rt d' st' => rw [hz] at hpl; cases hpl
          | bk d' st' => rw [hz] at hpl; cases hpl
          | ct d' st' => rw [hz] at hpl; cases hpl
    · cases h
  | .par i oi j oj a b, s, h => by
    simp only [chkS] at h
    split at h
    · simp only [Bool.and_eq_true, decide_eq_true_eq, Bool.not_eq_true', decide_eq_false_iff_not] at h
      obtain ⟨⟨⟨⟨⟨⟨⟨⟨⟨⟨⟨h1, h2⟩, h3⟩, h4⟩, h5⟩, h6⟩, h7⟩, h8⟩, h9⟩, h10⟩, h11⟩, h12⟩ := h
      exact psPar sk h1 h2 h3 h4 h5 (chkV_pe sk.ok sk.tk h11) (chkV_pe sk.ok sk.tk h12) h8 h9 (par_sw sk.kind (by rw [sk.ok.sc]; exact h4) (by rw [sk.ok.sc]; exact h5) h7 h6 h8 h9 h10)
    · cases h
  | .newO i e, s, h => by
    simp only [chkS] at h
    split at h
    · simp only [Bool.and_eq_true, decide_eq_true_eq] at h
      obtain ⟨⟨⟨h1, h2⟩, h3⟩, h4⟩ := h
      exact psName sk h1 h2 h3 h4 fun env st => by (simp only [exec]) <;> rfl
    · cases h
  | .mov i j, s, h => by
    simp only [chkS] at h
    split at h
    · simp only [Bool.and_eq_true, decide_eq_true_eq] at h
      obtain ⟨⟨⟨⟨h1, h2⟩, h3⟩, h4⟩, h5⟩ := h
      obtain ⟨h2, h6⟩ := locB_ok h2
      exact psMov sk h1 (by rw [sk.ok.sc]; exact h2) (by rw [sk.ok.fn, sk.ok.sc]; exact h6) h3 h4 h5
    · cases h
  | .appO i e, s, h => by
    simp only [chkS] at h
    split at h
    · simp only [Bool.and_eq_true, decide_eq_true_eq, Bool.not_eq_true', beq_iff_eq] at h
      obtain ⟨⟨⟨⟨⟨⟨⟨rfl, h2⟩, h3⟩, h4⟩, h5⟩, h6⟩, h7⟩, h8⟩ := h
      exact psApp sk h2 h3 h4 (sndE e sk.ok sk.tk h5).1 h6 h7 (by simpa using h8)
    · cases h
  | .extO i e, s, h => by
    simp only [chkS] at h
    split at h
    · simp only [Bool.and_eq_true, decide_eq_true_eq, Bool.not_eq_true', beq_iff_eq] at h
      obtain ⟨⟨⟨⟨⟨⟨rfl, h2⟩, h3⟩, h4⟩, h5⟩, h7⟩, h8⟩ := h
      exact psExt sk h2 h3 h4 (sndE e sk.ok sk.tk h5).1 h7 (by simpa using h8)
    · cases h
  | .setO i a e, s, h => by
    simp only [chkS] at h
    split at h
    · simp only [Bool.and_eq_true, decide_eq_true_eq, Bool.not_eq_true'] at h
      obtain ⟨⟨⟨⟨⟨⟨⟨⟨h1, h2⟩, h3⟩, h4⟩, h5⟩, h6⟩, h7⟩, h8⟩, h9⟩ := h
      exact psSetO sk h1 h2 h3 (sndE e sk.ok sk.tk h4).1 h5 (sndE a sk.ok sk.tk h6).1 h7 h8 (sole_sw h9)
    · cases h
  | .aug i op e, s, h => by
    simp only [chkS] at h
    split at h
    · simp only [Bool.and_eq_true, decide_eq_true_eq, Bool.not_eq_true', Bool.or_eq_true] at h
      obtain ⟨⟨⟨⟨⟨h1, h2⟩, rfl⟩, h4⟩, h5⟩, h6⟩ := h
      exact psAug h4 sk h1 h2 (sndE e sk.ok sk.tk h5).1 h6
    · cases h
  | .exp e, s, h => by
    simp only [chkS] at h
    split at h
    · simp only [Bool.and_eq_true] at h
      exact psExp (sndE e sk.ok sk.tk h.1).1 (notLc_sw h.2)
    · cases h
  | .updC a b, s, h => by
    simp only [chkS] at h
    split at h
    · simp only [Bool.and_eq_true, Bool.not_eq_true', beq_iff_eq] at h
      obtain ⟨⟨⟨⟨⟨⟨⟨rfl, h2⟩, h3⟩, h4⟩, h5⟩, h6⟩, h7⟩, h8⟩ := h
      exact psUpd sk (sndE a sk.ok sk.tk h2).1 h3 (sndE b sk.ok sk.tk h4).1 h5 h6 (by simpa using h7) (attr_of h8)
    · cases h
  | .ret e, s, h => by
    simp only [chkS] at h
    split at h
    · simp only [Bool.and_eq_true, Bool.not_eq_true'] at h
      exact psRet (sndE e sk.ok sk.tk h.1).1 h.2
    · obtain rfl := isNonC_ok h
      exact psRetN
    · cases h
  | .retO i, s, h => by
    simp only [chkS] at h
    split at h
    · simp only [Bool.and_eq_true, decide_eq_true_eq] at h
      exact psRetO sk.ok h.1.1 h.1.2 h.2
    · cases h
  | .ite e a b, s, h => by
    simp only [chkS] at h
    split at h
    · simp only [Bool.and_eq_true, Bool.not_eq_true'] at h
      obtain ⟨⟨⟨⟨h1, h2⟩, h3⟩, h4⟩, h5⟩ := h
      exact psIte ((sndE e sk.ok sk.tk h1).2 h2) h3 (sndSs sk a h4) (sndSs sk b h5)
    · cases h
  | .whl e b, s, h => by
    simp only [chkS] at h
    split at h
    · simp only [Bool.and_eq_true, Bool.not_eq_true'] at h
      obtain ⟨⟨⟨h1, h2⟩, h3⟩, h4⟩ := h
      exact psWhl sk ((sndE e sk.ok sk.tk h1).2 h2) h3 (sndSs sk b h4)
    · cases h
  | .for tg it b, s, h => by
    simp only [chkS] at h
    split at h
    · simp only [Bool.and_eq_true, Bool.not_eq_true'] at h
      obtain ⟨⟨⟨⟨h1, h2⟩, h3⟩, h4⟩, h5⟩ := h
      exact psFor sk (sndIt it sk.ok sk.tk h1) h2 h3 (sndSs sk b h5) (folded_of h4)
    · cases h
  | .brk, s, h => by
    simp only [chkS] at h
    split at h
    · exact psBrk
    · cases h
  | .cnt, s, h => by
    simp only [chkS] at h
    split at h
    · exact psCnt
    · cases h
  | .pss, s, h => by
    simp only [chkS] at h
    split at h
    · exact psPss
    · exact ps_doc.weak fun D σ H ⟨ω, st, env, H0, ω0, sim, re, x0, h⟩ => by
        simp only [exec] at h
        exact h σ H ω (WExt.refl _ _) x0 sim re
    · cases h
  | .nev, s, h => psNev
theorem sndSs (sk : SOk X T G kw k c W) : ∀ (ts : Ss) {ss : List Stmt}, chkSs T G kw c ts ss = true → PSs X ss (tSs X T G k W ts)
  | .nil, ss, h => by
    simp only [chkSs, List.isEmpty_iff] at h
    subst h
    exact pssNil
  | .cons t ts, ss, h => by
    simp only [chkSs] at h
    split at h
    · simp only [Bool.and_eq_true] at h
      exact pssCons (sndS sk t h.1) (sndSs sk ts h.2)
    · cases h
end
end
end Ev

set_option Elab.async false
set_option linter.all false
set_option maxRecDepth 100000
/-! A def does what its tree says, at each level. -/
namespace Ev
open PySem PySem.Spec PyProof.Rows L2
variable [HW]

section
variable {P : Program} {w : World} {K : PySem.W.Frag} {mg : Str → Option Value} {base : Heap} {T : Nm} {G : Pg} {kw : List Kw} {k : Nat}
theorem start_rep {H : Hp} {ω : Wd} {N : List Str} {vs : List V} {ds : List D} (r : Reps K H ω vs ds) (hn : ds.length ≤ N.length) : REnv K H H ω (L2.start N vs) (ds.map Sl.va ++ List.replicate (N.length - ds.length) Sl.no) := by
  have hl := r.length
  refine ⟨by unfold L2.start; simp; omega, fun i s q => ?_, fun i j a xs ys q1 _ _ _ => ?_⟩
  · by_cases hi : i < ds.length
    · rw [List.getElem?_append_left (by simpa using hi), List.getElem?_map] at q
      obtain ⟨v, h1, h2⟩ := r.get (List.getElem?_eq_getElem hi)
      rw [List.getElem?_eq_getElem hi] at q
      cases q
      refine ⟨v, ?_, h2⟩
      unfold L2.start
      rw [List.getElem?_append_left (by simp; omega), List.getElem?_map, h1]
      rfl
    · rw [List.getElem?_append_right (by simp; omega), List.getElem?_replicate] at q
      split at q
      · cases q; trivial
      · cases q
  · exfalso
    by_cases hi : i < ds.length
    · rw [List.getElem?_append_left (by simpa using hi), List.getElem?_map, List.getElem?_eq_getElem hi] at q1
      cases q1
    · rw [List.getElem?_append_right (by simp; omega), List.getElem?_replicate] at q1
      split at q1 <;> cases q1
/-- one level up -/
theorem fnd_step (hG : GOk P w K mg base T G kw k) {f : Nat} {d : Def} (hd : G.defs f = some d) {x qual : Str} {params : Arguments} {body : List Stmt} {scope : Scope} {dvs : List V} {kws : List (Str × V)} {a : Addr} {fd : FuncData} {N : List Str}
    (F : FunD K x qual params body scope dvs kws a fd) (S : FnScope N (T.ps f) scope) (hps : (T.ps f).length = d.ps) (hN : N.length = d.n) (hchk : chkSs T G kw ⟨N, scope, fun _ => true⟩ d.body body = true) : FnD P w K mg base T G (k + 1) a fd f := by
  obtain ⟨oc, od, dV, kV, doc, pm, an, cdv, ct, osl, hfd, hlk, hcode, _, _⟩ := F.ex
  subst hfd
  intro A outer s H args us vs ds ω st Q E room gd e0 bind hus rv sim rep post
  have inK : K.In s.heap := e0.mod.kin.keeps fun b o q => (e0.bs b o q).1
  have noLim : s.heap.NoLimit := e0.mod.nolimit.keeps fun b o q => (e0.bs b o q).1
  have kinds : ∀ y ∈ (T.ps f).zip us, scope.names.lookup y.1 = some .local ∨ (scope.names.lookup y.1 = some .cell ∧ ((cellsFrom (s.heap.objs.size + 1) scope.names []).lookup y.1).isSome = true) := by
    rintro ⟨n, v⟩ hy
    rcases S.par n (List.of_mem_zip hy).1 with q | q
    · exact .inl q
    · exact .inr ⟨q, PySem.W.cellsFrom_some _ _ _ (.inl q)⟩
  refine codeAny_call_function room.depth (inK _ _ hlk) rfl S.co S.gen rfl (PySem.W.codeRec_of inK hcode) (bind _ _ _ _ ?_)
  refine wpAny_newFunctionEnv_cells S.kind kinds fun env' henv s1 hin => ?_
  subst henv
  refine ⟨noLim.keeps hin.toInCall.keep, codeAny_func ?_⟩
  have hvl : vs.length = (T.ps f).length := by rw [rv.length, hus]
  have I := inv_start (CX := L2.CX P w) (E := E) (cd := cdv) (qual := qual) (f := a) S room.hd e0 hvl rv hin
  have room' : Room k (A.deeper (envOfC qual scope s.heap.objs.size a cdv)) := room.deeper _
  generalize hX : cxOf (L2.CX P w) P w K mg base N qual scope a cdv A outer s H E = X at I
  have tk : Takes X (fun cls da _ H' => E cls da H') := by
    subst hX
    exact takes_of (E := E) rfl rfl rfl rfl
  have sk : SOk X T G kw k ⟨N, scope, fun _ => true⟩ (fun cls da _ H' => E cls da H') := by
    refine ⟨?_, tk, ?_, ?_⟩
    · subst hX
      exact ⟨rfl, rfl, rfl, rfl, S.nd, room', by show (A.deeper (envOfC qual scope s.heap.objs.size a cdv)).guards = some []; first | exact gd | simpa [Around.deeper, Around.under, Code.guards, Code.isGuard, pushGuards] using gd, hG⟩
    · subst hX
      exact passes_of rfl
    · subst hX
      exact S.kind
  have hdl : ds.length = d.ps := by rw [← rep.length, hvl, hps]
  have hpl : d.ps ≤ N.length := by
    have := congrArg List.length S.pre
    rw [List.length_take] at this
    omega
  have run := (sndSs sk d.body hchk).run [] s1 (L2.start N vs) H { nx := fun _ H' => Q .non H', rt := Q } I (by
    have hk : X.K = K := by subst hX; rfl
    have hm : X.mg = mg := by subst hX; rfl
    refine ⟨ω, st, ds.map Sl.va ++ List.replicate (N.length - ds.length) Sl.no, H, ω, by rw [hk]; exact sim, by rw [hk]; exact start_rep rep (by omega), Ext.refl _ _, ?_⟩
    have post' := post
    simp only [callN, hd, if_pos hdl] at post'
    rw [hN, hdl]
    cases hr : execs (callN G k) G.gl (ds.map Sl.va ++ List.replicate (d.n - d.ps) Sl.no) st d.body with
    | nx env' st' => rw [hr] at post'; exact fun σ' H' ω' _ x s _ => post' .non H' ω' x (by rw [← hk]; exact s) (by simp only [Rep])
    | rt d' st' => rw [hr] at post'; exact fun v H' ω' x s r => post' v H' ω' x (by rw [← hk]; exact s) (by rw [← hk]; exact r)
    | ex y env' st' => rw [hr] at post'; exact fun c da σ' H' ω' x s r => post' c da H' ω' x (by rw [← hk]; exact s) (by rw [← hk, ← hm]; exact r)
    | bk env' st' => rw [hr] at post'; exact False.elim post'
    | ct env' st' => rw [hr] at post'; exact False.elim post'
    | no => rw [hr] at post'; exact post')
  subst hX
  refine wpAny_mono run (fun fl s' hs => ?_) fun _ _ he => he
  have back : ∀ {σ' : L2.St} {H' : Hp} {v : V} {u : Value}, L2.Inv (cxOf (L2.CX P w) P w K mg base N qual scope a cdv A outer s H E) [] σ' H' s' → RelV v u → Q v H' → CE outer P w H s Q u s' := fun {σ' H' v u} J r q => ⟨v, H', J.os, J.bare, J.base, J.hok, r, q⟩
  match fl, hs with
  | .ret u, ⟨v, σ', H', J, r, q⟩ => exact back J r q
  | .next, ⟨σ', H', J, q⟩ => exact back (v := .non) (u := .none) J rfl q
  | .brk, ⟨_, _, _, q⟩ => exact q.elim
  | .cont, ⟨_, _, _, q⟩ => exact q.elim
omit [HW] in
/-- what the head tells of a def -/
structure DefOk (K : PySem.W.Frag) (mg : Str → Option Value) (T : Nm) (G : Pg) (kw : List Kw) (f : Nat) (d : Def) : Prop where
  it : ∃ (a : Addr) (fd : FuncData) (x qual : Str) (params : Arguments) (body : List Stmt) (scope : Scope) (dvs : List V) (kws : List (Str × V)) (N : List Str), mg (T.fn f) = some (.ref a) ∧ FunD K x qual params body scope dvs kws a fd ∧ FnScope N (T.ps f) scope ∧ (T.ps f).length = d.ps ∧ N.length = d.n ∧
    chkSs T G kw ⟨N, scope, fun _ => true⟩ d.body body = true ∧
    (∀ (s : Shared) (us : List Value), K.In s.heap → us.length = (T.ps f).length → BindsTo s fd ⟨us, []⟩ ((T.ps f).zip us)) ∧
    ∀ q ∈ kw, q.f = f → ∀ (s : Shared) (ws zs : List Value), K.In s.heap → ws.length = q.ks.length → q.perm.mapM (fun j => ws[j]?) = some zs → BindsTo s fd ⟨[], q.ks.zip ws⟩ ((T.ps f).zip zs)
/-- all levels -/
theorem gok (hw : w = HW.w) (hd : ∀ f d, G.defs f = some d → DefOk K mg T G kw f d) (hg : ∀ g d, G.gl g = some d → ∃ v u, mg (T.gl g) = some u ∧ RelV v u ∧ ∀ H ω, Rep K H ω v d) (hb : ∀ x ∈ bnames, mg x = none) : ∀ k, GOk P w K mg base T G kw k
  | 0 => ⟨fun f d q => by
      obtain ⟨a, fd, x, qual, params, body, scope, dvs, kws, N, h1, F, S, h2, h3, h4, h5, h6⟩ := (hd f d q).it
      exact ⟨a, fd, h1, F.kp, fun A outer s H args us vs ds ω st Q E _ _ _ _ _ _ _ _ post => post.elim, h2, h5, h6⟩, hg, hb, hw⟩
  | k + 1 => ⟨fun f d q => by
      obtain ⟨a, fd, x, qual, params, body, scope, dvs, kws, N, h1, F, S, h2, h3, h4, h5, h6⟩ := (hd f d q).it
      exact ⟨a, fd, h1, F.kp, fnd_step (gok hw hd hg hb k) q F S h2 h3 h4, h2, h5, h6⟩, hg, hb, hw⟩
end
end Ev

set_option Elab.async false
set_option linter.all false
set_option maxRecDepth 100000
/-! A law, from the evaluator's answer at each script. -/
namespace Ev
open PySem PySem.Spec PyProof.Rows L2
variable [HW]

section
variable {P : Program} {w : World} {K : PySem.W.Frag} {mg mb : Str → Option Value} {T : Nm} {G : Pg} {kw : List Kw} {k fl : Nat}
omit [HW] in
/-- the head's facts -/
structure Facts (K : PySem.W.Frag) (mg : Str → Option Value) (T : Nm) (G : Pg) (kw : List Kw) : Prop where
  defs : ∀ f d, G.defs f = some d → DefOk K mg T G kw f d
  gl : ∀ g d, G.gl g = some d → ∃ v u, mg (T.gl g) = some u ∧ RelV v u ∧ ∀ H ω, Rep K H ω v d
  bt : ∀ x ∈ bnames, mg x = none
/-- from an abstract heap in which at most the script is tracked -/
theorem evCore (hw : w = HW.w) (fc : Facts K mg T G kw) {s : Shared} {a fa : Addr} {vs : List Value} {ns : List Int} {H : Hp} (inK : K.In s.heap) (hns : s.heap.Ns mainGlobals mg) (hb : s.heap.Ns builtinsNs mb) (hbb : ∀ x : Str, x ≠ "__name__" → mb x = bootBuiltins x)
    (hlim : s.heap.NoLimit) (hg : s.gens = #[]) (ha : s.heap.get? a = some { cls := .type "list", data := .seq vs.toArray }) (hl : ns.length ≤ sizeLine) (hr : Room k callerA) (hfa : mg (T.fn fl) = some (.ref fa)) {xp : Str} (hps : T.ps fl = [xp])
    (hlaw : ∃ st, callN G k fl [.scr ns] [] = .ok (.bl true) st) (hO : Only H) (hS : ScrAt K H ⟨[], fun _ => False⟩ a (ns.map V.int)) (hok : HOk P w H s.heap) (hA : ∀ b, H b ≠ none → b = a) (hK : H a ≠ none → K.lookup a = none) :
    codeAny (model P w) callerA (.call (.ref fa) ⟨[.ref a], []⟩) (fun r s' => r = .ok (.ret (.bool true)) ∧ OldK s.heap s'.heap ∧ s'.os = s.os ∧ AllBare s'.gens) s := by
  have isA : ∀ {b : Addr} {u : HO}, H b = some u → b = a := fun {b u} e => hA b (by rw [e]; simp)
  have noDict : ∀ {b : Addr} {o : Obj} {es : Array DictEntry} {ep : Nat}, s.heap.get? b = some o → o.data = .dict es ep → H b = none := fun {b o es ep} e dd => by
    cases q : H b with
    | none => rfl
    | some u =>
      rw [isA q, ha] at e
      cases e
      cases dd
  have nsB : ∀ {b : Addr} {m : Str → Option Value}, s.heap.Ns b m → (hidT s.heap H).Ns b m := fun {b m} ⟨o, es, ep, e, dd, r⟩ => ⟨o, es, ep, hidT_get e (noDict e dd), dd, r⟩
  have inB : K.In (hidT s.heap H) := fun b o e => by
    refine hidT_get (inK b o e) ?_
    cases q : H b with
    | none => rfl
    | some u =>
      have hba := isA q
      subst hba
      rw [hK (by rw [q]; simp)] at e
      cases e
  have e0 : Env0 P w K mg (hidT s.heap H) callerA [] s H := by
    refine ⟨rfl, ⟨inB, nsB hns, ⟨mb, nsB hb, hbb⟩, ?_⟩, fun b o e => of_hidT e, Nat.le_of_eq (hidT_size _ _), trivial, fun b hb => ?_, hok, .of_eq hg⟩
    · obtain ⟨mc, h1, h2⟩ := hlim
      exact ⟨mc, nsB h1, h2⟩
    · simp [frs] at hb
  obtain ⟨st, hst⟩ := hlaw
  obtain ⟨d, hd, _⟩ := callN_len (G := G) (k := k) (f := fl) (ds := [.scr ns]) (st := []) (by rw [hst]; exact fun z => nomatch z)
  have go := gok (P := P) (w := w) (base := hidT s.heap H) hw fc.defs fc.gl fc.bt k
  obtain ⟨g, fd, hm, _, F, _, hbind, _⟩ := go.fn fl d hd
  rw [hfa] at hm
  cases hm
  have sim : Sim K H ⟨[], fun _ => False⟩ [] := ⟨rfl, List.nodup_nil, fun _ h => by simp at h, fun _ h => h.elim, fun n c h => by simp at h⟩
  have rep : Reps K H ⟨[], fun _ => False⟩ [.ref a] [.scr ns] := by
    simp only [Reps, Rep]
    exact ⟨⟨a, rfl, hS, hl⟩, trivial⟩
  refine codeAny_mono (F callerA [] s H ⟨[.ref a], []⟩ [.ref a] [.ref a] [.scr ns] ⟨[], fun _ => False⟩ [] (fun v _ => v = .bl true) (fun _ _ _ => False) hr rfl e0 (hbind s [.ref a] inK (by rw [hps]; rfl)) (by rw [hps]; rfl) (.cons rfl .nil) sim rep ?_) fun r s' h => ?_
  · rw [hst]
    exact fun v H' ω' _ _ r => by simpa only [Rep] using r
  · cases r with
    | error e =>
      obtain ⟨_, _, _, _, _, _, _, _, _, _, _, _, z⟩ := h
      exact z.elim
    | ok fw =>
      cases fw with
      | next => exact False.elim h
      | brk => exact False.elim h
      | cont => exact False.elim h
      | ret u =>
        obtain ⟨v, H', os, bare, un, hok', r', q⟩ := h
        have q : v = .bl true := q
        subst q
        cases r'
        refine ⟨rfl, OldK.of_keep fun b o e => ?_, os, bare⟩
        rcases hO b with z | ⟨ob, xs, z⟩
        · exact un.keep b o e z (by simp [frs]) (by simp)
        · obtain ⟨e1, _⟩ := hok b _ z
          obtain ⟨e2, _⟩ := hok' b _ (un.frzs b ob _ z)
          rw [e] at e1
          cases e1
          exact e2
theorem evCall (hw : w = HW.w) (fc : Facts K mg T G kw) {s : Shared} {a fa : Addr} {vs : List Value} {ns : List Int} (inK : K.In s.heap) (hns : s.heap.Ns mainGlobals mg) (hb : s.heap.Ns builtinsNs mb) (hbb : ∀ x : Str, x ≠ "__name__" → mb x = bootBuiltins x)
    (hlim : s.heap.NoLimit) (hg : s.gens = #[]) (ha : s.heap.get? a = some { cls := .type "list", data := .seq vs.toArray }) (hi : IntsAre vs ns) (hl : ns.length ≤ sizeLine) (hr : Room k callerA) (hfa : mg (T.fn fl) = some (.ref fa)) {xp : Str} (hps : T.ps fl = [xp])
    (hlaw : ∃ st, callN G k fl [.scr ns] [] = .ok (.bl true) st) :
    codeAny (model P w) callerA (.call (.ref fa) ⟨[.ref a], []⟩) (fun r s' => r = .ok (.ret (.bool true)) ∧ OldK s.heap s'.heap ∧ s'.os = s.os ∧ AllBare s'.gens) s := by
  have rv := vals_ints hi
  have len := hi.length
  by_cases hk : (K.lookup a).isSome = true
  · obtain ⟨o, hk⟩ := Option.isSome_iff_exists.mp hk
    have e := inK a o hk
    rw [ha] at e
    cases e
    exact evCore (H := fun _ => none) hw fc inK hns hb hbb hlim hg ha hl hr hfa hps hlaw (fun _ => .inl rfl) (.inr ⟨_, vs.toArray, _, hk, rfl, rfl, rfl, by rw [List.size_toArray, len]; exact hl, by simpa using rv⟩) (fun b u z => by cases z) (fun b z => absurd rfl z) fun z => absurd rfl z
  · have hk : K.lookup a = none := by
      cases z : K.lookup a with
      | none => rfl
      | some o => rw [z] at hk; exact absurd rfl hk
    obtain ⟨H, hH⟩ : ∃ H : Hp, H = fun b => if b = a then some (.frz { cls := .type "list", data := .seq vs.toArray } (.lst (ns.map V.int))) else none := ⟨_, rfl⟩
    have h1 : H a = some (.frz { cls := .type "list", data := .seq vs.toArray } (.lst (ns.map V.int))) := by rw [hH]; exact if_pos rfl
    have h2 : ∀ b, b ≠ a → H b = none := fun b hb => by rw [hH]; exact if_neg hb
    refine evCore (H := H) hw fc inK hns hb hbb hlim hg ha hl hr hfa hps hlaw (fun b => ?_) (.inl ⟨⟨_, h1⟩, by simp⟩) (fun b u z => ?_) (fun b z => ?_) fun _ => hk
    · by_cases e : b = a
      · rw [e]; exact .inr ⟨_, _, h1⟩
      · exact .inl (h2 b e)
    · by_cases e : b = a
      · subst e
        rw [h1] at z
        cases z
        exact ⟨ha, by simpa using hl, vs, _, rv, ha⟩
      · rw [h2 b e] at z
        cases z
    · by_cases e : b = a
      · exact e
      · exact absurd (h2 b e) z
end
omit [HW] in
/-- the walk of a law -/
theorem evWalk {l : PySem.W.OpenLaw} {n k fl : Nat} {q : Program} {loose : List Str} {XP : (Str → Option Value) → Heap → Prop} {YP : World → Heap → Prop} {d : DefRec} {T : Nm} {G : Pg} {kw : List Kw} {xp : Str}
    (hn : l.most = some n) (hn2 : n ≤ sizeLine) (hdf : d.params.defaults = []) (hr : Room k callerA) (hps : T.ps fl = [xp]) (hfn : d.name = T.fn fl)
    (F : ∀ (w : World) (mg : Str → Option Value) (h : Heap), YP w h → h.Ns mainGlobals mg → ∃ K : PySem.W.Frag, K.In h ∧ Facts K mg T G kw)
    (hlaw : ∀ ns : List Int, ns.length ≤ n → (∀ i ∈ ns, Builtin.Int.intBits i ≤ 1048576) → ∃ st, callN G k fl [.scr ns] [] = .ok (.bl true) st) :
    PySem.W.WalkO q loose XP YP l.row.toRowW d [] (fun f vs => PySem.call f vs) := by
  refine Att.attach_callB hn hdf fun w s₀ s₁ mg mb fa o pm cd doc a vs ns Gr Y _ _ _ hmg hobj hints hlen hbits hgens => ?_
  obtain ⟨K, inK, fc⟩ := F w mg _ Y Gr.T.g
  letI : HW := ⟨w⟩
  exact evCall rfl fc inK Gr.T.g Gr.T.b Gr.T.builtins Gr.T.nolimit hgens hobj hints (Nat.le_trans hlen hn2) hr (by rw [← hfn]; exact hmg) hps (hlaw ns hlen hbits)
end Ev

set_option Elab.async false
set_option linter.all false
set_option maxRecDepth 100000
/-! Values without references: how they are shown, compared. -/
namespace Ev
open PySem

mutual
def okD : D → Bool
  | .non => true
  | .bl _ => true
  | .int i => decide (i.natAbs < 10 ^ 19)
  | .str x => x.all fun c => decide (c < 0x110000)
  | .tup xs => okDs xs
  | .lst xs => okDs xs
  | .ref _ => false
  | .scr _ => false
def okDs : List D → Bool
  | [] => true
  | x :: xs => okD x && okDs xs
end
mutual
def ln : D → Nat
  | .str x => 10 * x.length + 2
  | .tup xs => lns xs + 3
  | .lst xs => lns xs + 3
  | .int _ => 20
  | _ => 5
def lns : List D → Nat
  | [] => 0
  | x :: xs => ln x + 2 + lns xs
end
mutual
def dp : D → Nat
  | .tup xs => dps xs + 1
  | .lst xs => dps xs + 1
  | _ => 0
def dps : List D → Nat
  | [] => 0
  | x :: xs => max (dp x) (dps xs)
end
theorem okDs_iff : ∀ {xs : List D}, okDs xs = true ↔ ∀ x ∈ xs, okD x = true
  | [] => by simp [okDs]
  | x :: xs => by simp [okDs, okDs_iff (xs := xs)]
theorem okDs_append {xs ys : List D} : okDs (xs ++ ys) = (okDs xs && okDs ys) := by
  induction xs with
  | nil => simp [okDs]
  | cons x xs ih => simp [okDs, ih, Bool.and_assoc]
theorem lns_append (xs ys : List D) : lns (xs ++ ys) = lns xs + lns ys := by
  induction xs with
  | nil => simp [lns]
  | cons x xs ih => simp only [List.cons_append, lns, ih]; omega
theorem ln_mem {x : D} {xs : List D} (h : x ∈ xs) : ln x + 2 ≤ lns xs := by
  induction xs with
  | nil => cases h
  | cons y ys ih =>
    simp only [lns]
    rcases List.mem_cons.mp h with rfl | h
    · omega
    · have := ih h; omega
theorem dps_append (xs ys : List D) : dps (xs ++ ys) = max (dps xs) (dps ys) := by
  induction xs with
  | nil => simp [dps]
  | cons x xs ih => simp only [List.cons_append, dps, ih]; omega
theorem dp_mem {x : D} {xs : List D} (h : x ∈ xs) : dp x ≤ dps xs := by
  induction xs with
  | nil => cases h
  | cons y ys ih =>
    simp only [dps]
    rcases List.mem_cons.mp h with rfl | h
    · omega
    · have := ih h; omega
theorem dps_le {xs : List D} {n : Nat} (h : ∀ x ∈ xs, dp x ≤ n) : dps xs ≤ n := by
  induction xs with
  | nil => simp [dps]
  | cons x xs ih =>
    simp only [dps]
    have := ih fun y hy => h y (List.mem_cons_of_mem _ hy)
    have := h x (List.mem_cons_self ..)
    omega
theorem lns_len : ∀ (xs : List D), 2 * xs.length ≤ lns xs
  | [] => by simp [lns]
  | x :: xs => by have := lns_len xs; simp only [lns, List.length_cons]; omega

def strS (s : Str) : Prop := PyData.strOk s = true
theorem strS_append {a b : Str} (h1 : strS a) (h2 : strS b) : strS (a ++ b) := by
  unfold strS PyData.strOk at *
  show (a.cps ++ b.cps).all _ = true
  rw [Array.all_append, h1, h2]; rfl
theorem strS_join {sep : Str} (h : strS sep) : ∀ {ts : List Str}, (∀ t ∈ ts, strS t) → strS (Str.join sep ts)
  | [], _ => (by unfold strS; decide +kernel : strS Str.empty)
  | [x], q => q x (List.mem_cons_self ..)
  | x :: y :: r, q => strS_append (strS_append (q x (List.mem_cons_self ..)) h) (strS_join h fun t ht => q t (List.mem_cons_of_mem _ ht))
theorem strS_textFrom : ∀ (ts : List Str) (k : Nat) (acc : Str), strS acc → (∀ t ∈ ts, strS t) → strS (textFrom k acc ts)
  | [], _, _, h, _ => h
  | t :: ts, k, acc, h, q => by
    unfold textFrom
    refine strS_textFrom ts (k + 1) _ (strS_append (strS_append h ?_) (q t (List.mem_cons_self ..))) fun u hu => q u (List.mem_cons_of_mem _ hu)
    by_cases hk : k > 0
    · rw [if_pos hk]; unfold strS; decide +kernel
    · rw [if_neg hk]; unfold strS; decide +kernel
theorem strS_list {ts : List Str} (q : ∀ t ∈ ts, strS t) : strS (listText ts) :=
  strS_append (strS_textFrom ts 0 _ (by unfold strS; decide +kernel) q) (by unfold strS; decide +kernel)
theorem strS_tuple {ts : List Str} (q : ∀ t ∈ ts, strS t) : strS (tupleText ts) := by
  unfold tupleText
  refine strS_append (strS_append (by unfold strS; decide +kernel) (strS_join (by unfold strS; decide +kernel) q)) ?_
  split <;> (unfold strS; decide +kernel)
theorem listText_le (ts : List Str) : (listText ts).length ≤ piled ts + 2 := by
  cases ts with
  | nil => decide +kernel
  | cons t r =>
    have h := textFrom_length_pos r 1 (("[" : Str) ++ (if (0 : Nat) > 0 then ", " else "" : String) ++ t) (Nat.succ_pos 0)
    have e : ((("[" : Str) ++ (if (0 : Nat) > 0 then ", " else "" : String) ++ t)).length = 1 + t.length := by
      rw [strLen_append, strLen_append]; rfl
    have hX : (listText (t :: r)).length = (textFrom 0 "[" (t :: r)).length + 1 := by
      show (textFrom 0 "[" (t :: r) ++ "]").length = _
      rw [strLen_append]; rfl
    have hY : (textFrom 0 "[" (t :: r)).length = (textFrom 1 (("[" : Str) ++ (if (0 : Nat) > 0 then ", " else "" : String) ++ t) r).length := rfl
    rw [hX, hY, h, e, piled_cons]; omega
theorem tupleText_le (ts : List Str) : (tupleText ts).length ≤ piled ts + 3 := by
  unfold tupleText
  rw [strLen_append, strLen_append]
  have e1 : ((("(" : String) : Str)).length = 1 := rfl
  have e3 : (((if ts.length == 1 then ",)" else ")" : String) : Str)).length ≤ 2 := by split <;> decide
  by_cases h : ts = []
  · subst h
    have : (Str.join ", " []).length = 0 := rfl
    omega
  · have := join_length_add ts h
    omega
theorem chars_ok (l : List Char) : ∀ z ∈ l.map Char.toNat, z < 0x110000 := by
  intro z hz
  obtain ⟨c, _, rfl⟩ := List.mem_map.mp hz
  have := c.valid
  unfold UInt32.isValidChar Nat.isValidChar at this
  show c.val.toNat < _
  omega
theorem reprChar_ok (q c : Nat) (hc : c < 0x110000) : ∀ z ∈ PySem.Builtin.Str.reprChar q c, z < 0x110000 := by
  intro z hz
  unfold PySem.Builtin.Str.reprChar at hz
  dsimp only at hz
  have hx : ∀ w, z ∈ (List.replicate (w - ((Nat.toDigits 16 c).map Char.toNat).length) 48 ++ (Nat.toDigits 16 c).map Char.toNat) → z < 0x110000 := by
    intro w h
    rcases List.mem_append.mp h with h | h
    · have := List.eq_of_mem_replicate h; omega
    · exact chars_ok _ z h
  repeat' split at hz
  all_goals simp only [List.mem_append, List.mem_cons, List.not_mem_nil, or_false] at hz hx
  all_goals first | omega | (rcases hz with hz | hz <;> first | omega | exact hx _ hz)
theorem reprQ (x : Str) : PySem.reprQuote x = 34 ∨ PySem.reprQuote x = 39 := by
  unfold PySem.reprQuote
  split
  · exact .inl rfl
  · exact .inr rfl
theorem strS_text {x : Str} (h : strS x) : strS (PySem.reprText x) := by
  have hq : PySem.reprQuote x < 0x110000 := by rcases reprQ x with e | e <;> omega
  have key : ∀ (l : List Nat) (acc : Array Nat), (∀ c ∈ l, c < 0x110000) → (∀ z ∈ acc.toList, z < 0x110000) → ∀ z ∈ (l.foldl (fun out c => out ++ (PySem.Builtin.Str.reprChar (PySem.reprQuote x) c).toArray) acc).toList, z < 0x110000 := by
    intro l
    induction l with
    | nil => intro acc _ h; exact h
    | cons c l ih =>
      intro acc h1 h2
      refine ih _ (fun d hd => h1 d (List.mem_cons_of_mem _ hd)) fun z hz => ?_
      simp only [Array.toList_append, List.mem_append] at hz
      rcases hz with hz | hz
      · exact h2 z hz
      · exact reprChar_ok _ c (h1 c (List.mem_cons_self ..)) z hz
  unfold strS PyData.strOk at *
  unfold PySem.reprText
  rw [Array.all_eq_true'] at *
  intro z hz
  simp only [Array.mem_push] at hz
  simp only [decide_eq_true_eq] at *
  rcases hz with hz | rfl
  · rw [← Array.foldl_toList] at hz
    exact key x.cps.toList #[PySem.reprQuote x] (fun c hc => h c (by simpa using hc)) (by simp [hq]) z (Array.mem_def.mp hz)
  · exact hq
theorem strS_of (s : String) : strS (Str.ofString s) := by
  unfold strS PyData.strOk
  rw [Str.ofString_eq_toList, Array.all_eq_true']
  intro z hz
  simp only [decide_eq_true_eq]
  exact chars_ok s.toList z (by simpa using hz)
theorem ofS_len (a b : String) : (Str.ofString (a ++ b)).length = (Str.ofString a).length + (Str.ofString b).length := by
  simp [Str.ofString_eq_toList, Str.length]
theorem int_len (i : Int) {k : Nat} (hk : 0 < k) (h : i.natAbs < 10 ^ k) : (Str.ofString (toString i)).length ≤ k + 1 := by
  cases i with
  | ofNat n =>
    have := PyProof.Rows.toString_length_le (v := Int.ofNat n) (by simp) hk (by simpa using (by exact_mod_cast h : ((n : Nat) : Int) < 10 ^ k))
    omega
  | negSucc n =>
    show (Str.ofString ("-" ++ toString (n + 1))).length ≤ _
    rw [ofS_len]
    have := PyProof.Rows.toString_length_le (v := ((n + 1 : Nat) : Int)) (by omega) hk (by exact_mod_cast h)
    have e : (Str.ofString "-").length = 1 := by decide +kernel
    have e2 : toString ((n + 1 : Nat) : Int) = toString (n + 1) := rfl
    rw [e2] at this
    omega

theorem piled_lns (xs : List D) (h : ∀ x ∈ xs, x.py.shown.length ≤ ln x) : piled (PyData.shownAll (D.pys xs)) ≤ lns xs := by
  induction xs with
  | nil => simp [D.pys, PyData.shownAll, piled, lns]
  | cons x xs ih =>
    simp only [D.pys, PyData.shownAll, piled_cons, lns]
    have := ih fun y hy => h y (List.mem_cons_of_mem _ hy)
    have := h x (List.mem_cons_self ..)
    omega
structure OkP (v : D) : Prop where
  lay : v.py.canLay0 = true
  dep : v.py.depth = dp v
  sh : v.py.showable = true
  len : v.py.shown.length ≤ ln v
  str : strS v.py.shown
structure OkPs (xs : List D) : Prop where
  lay : PyData.canLayAll0 (D.pys xs) = true
  dep : PyData.depthAll (D.pys xs) = dps xs
  sh : PyData.showableAll (D.pys xs) = true
  len : piled (PyData.shownAll (D.pys xs)) ≤ lns xs
  str : ∀ t ∈ PyData.shownAll (D.pys xs), strS t
mutual
theorem okP : ∀ (v : D), okD v = true → OkP v
  | .non, _ => ⟨rfl, rfl, rfl, by decide +kernel, by unfold strS; decide +kernel⟩
  | .bl b, _ => by cases b <;> exact ⟨rfl, rfl, rfl, by decide +kernel, by unfold strS; decide +kernel⟩
  | .int i, h => by
    simp only [okD, decide_eq_true_eq] at h
    refine ⟨rfl, rfl, ?_, ?_, ?_⟩
    · simp only [D.py, PyData.showable, decide_eq_true_eq]
      have h2 : i.natAbs < 2 ^ 64 := Nat.lt_of_lt_of_le h (by decide)
      by_cases hz : i.natAbs = 0
      · rw [hz]; decide
      · have := (Nat.log2_lt hz (k := 64)).mpr h2
        omega
    · simp only [D.py, PyData.shown, ln]
      exact int_len i (by decide) h
    · simp only [D.py, PyData.shown]
      exact strS_of _
  | .str x, h => by
    simp only [okD, List.all_eq_true, decide_eq_true_eq] at h
    have hs : strS (toS x) := by
      unfold strS PyData.strOk toS
      rw [Array.all_eq_true']
      intro z hz
      simpa using h z (by simpa using hz)
    refine ⟨by simp only [D.py, PyData.canLay0]; exact hs, rfl, rfl, ?_, ?_⟩
    · simp only [D.py, PyData.shown, ln]
      have := PySem.StrLaws.reprText_len (toS x) fun c hc => by
        have := h c (by simpa [toS] using hc)
        omega
      have e : (toS x).length = x.length := by simp [toS, Str.length]
      omega
    · simp only [D.py, PyData.shown]
      exact strS_text hs
  | .tup xs, h => by
    have q := okPs xs (by simpa only [okD] using h)
    refine ⟨by simpa only [D.py, PyData.canLay0] using q.lay, by simp only [D.py, PyData.depth, dp, q.dep], by simpa only [D.py, PyData.showable] using q.sh, ?_, ?_⟩
    · simp only [D.py, PyData.shown, ln]
      have := tupleText_le (PyData.shownAll (D.pys xs))
      have := q.len
      omega
    · simp only [D.py, PyData.shown]
      exact strS_tuple q.str
  | .lst xs, h => by
    have q := okPs xs (by simpa only [okD] using h)
    refine ⟨by simpa only [D.py, PyData.canLay0] using q.lay, by simp only [D.py, PyData.depth, dp, q.dep], by simpa only [D.py, PyData.showable] using q.sh, ?_, ?_⟩
    · simp only [D.py, PyData.shown, ln]
      have := listText_le (PyData.shownAll (D.pys xs))
      have := q.len
      omega
    · simp only [D.py, PyData.shown]
      exact strS_list q.str
  | .ref _, h => by simp [okD] at h
  | .scr _, h => by simp [okD] at h
theorem okPs : ∀ (xs : List D), okDs xs = true → OkPs xs
  | [], _ => ⟨rfl, rfl, rfl, by simp [D.pys, PyData.shownAll, piled, lns], by simp [D.pys, PyData.shownAll]⟩
  | x :: xs, h => by
    simp only [okDs, Bool.and_eq_true] at h
    have p := okP x h.1
    have q := okPs xs h.2
    refine ⟨by simp only [D.pys, PyData.canLayAll0, p.lay, q.lay, Bool.and_self], by simp only [D.pys, PyData.depthAll, p.dep, q.dep, dps], by simp only [D.pys, PyData.showableAll, p.sh, q.sh, Bool.and_self], ?_, ?_⟩
    · simp only [D.pys, PyData.shownAll, piled_cons, lns]
      have := p.len
      have := q.len
      omega
    · intro t ht
      simp only [D.pys, PyData.shownAll, List.mem_cons] at ht
      rcases ht with rfl | ht
      · exact p.str
      · exact q.str t ht
end
/-- how a value is shown -/
def shw (v : D) : List Nat := v.py.shown.cps.toList
theorem okShaped {v : D} (h : okD v = true) (hd : dp v ≤ 64) : SeqAt.shaped v.py = true := by
  unfold SeqAt.shaped
  have p := okP v h
  rw [p.lay, p.dep]
  simpa using hd
theorem reprD_ok {v : D} (h : okD v = true) (hl : ln v ≤ sizeLine) (hd : dp v ≤ 64) : reprD v = some (.str (shw v)) := by
  have p := okP v h
  unfold reprD
  rw [okShaped h hd, p.sh, PyData.hasDict_of_canLay _ p.lay]
  have : v.py.shown.length ≤ sizeLine := Nat.le_trans p.len hl
  simp [this, shw]
theorem lay_str {x : List Nat} (h : ∀ c ∈ x, c < 0x110000) : (D.str x).py.canLay0 = true := by
  simp only [D.py, PyData.canLay0, toS, PyData.strOk]
  rw [Array.all_eq_true']
  intro z hz
  simpa using h z (by simpa using hz)
theorem lay_shw {v : D} (h : okD v = true) : (D.str (shw v)).py.canLay0 = true := by
  refine lay_str fun c hc => ?_
  have p := (okP v h).str
  unfold strS PyData.strOk at p
  rw [Array.all_eq_true'] at p
  simpa using p c (by simpa [shw] using hc)
theorem eqD_strs {x y : List Nat} (h1 : (D.str x).py.canLay0 = true) (h2 : (D.str y).py.canLay0 = true) : eqD (.str x) (.str y) = some (decide (x = y)) := by
  unfold eqD
  rw [h1, h2, if_pos (by simp [D.py, PySem.PyData.depth])]
  simp only [D.py, PySem.PyData.eqv]
  congr 1
  rw [Bool.eq_iff_iff]
  simp
  exact ⟨fun h => toSinj h, fun h => by rw [h]⟩
theorem eqD_ok {a b : D} (h1 : okD a = true) (h2 : okD b = true) (hd : min (dp a) (dp b) ≤ 64) : eqD a b = some (PyData.eqv a.py b.py) := by
  unfold eqD
  rw [(okP a h1).lay, (okP b h2).lay, (okP a h1).dep, (okP b h2).dep]
  simp [hd]
end Ev

set_option Elab.async false
set_option linter.all false
set_option maxRecDepth 100000
/-! Loops and comprehensions of the evaluator, step by step. -/
namespace Ev
open PySem
/-! ### the engine: one step by one rewriting; what is not reached yet stays as it is: it stands as a tree, not under a binder -/
def rdV (o : Option Sl) (st : St) : R D := match o with
  | some (.va d) => .ok d st
  | _ => .no
def rdO (o : Option Sl) (st : St) : R D := match o with
  | some (.ow xs) => .ok (.lst xs) st
  | _ => .no
@[simp] theorem rdV_va (d : D) (st : St) : rdV (some (.va d)) st = .ok d st := Eq.trans rfl rfl
@[simp] theorem rdO_ow (xs : List D) (st : St) : rdO (some (.ow xs)) st = .ok (.lst xs) st := Eq.trans rfl rfl
@[simp] theorem vw_tup (st : St) (xs : List D) : vw st (.tup xs) = .tup xs := Eq.trans rfl rfl
@[simp] theorem vw_lst (st : St) (xs : List D) : vw st (.lst xs) = .lst xs := Eq.trans rfl rfl
@[simp] theorem vw_str (st : St) (x : List Nat) : vw st (.str x) = .str x := Eq.trans rfl rfl
@[simp] theorem vw_int (st : St) (i : Int) : vw st (.int i) = .int i := Eq.trans rfl rfl
@[simp] theorem vw_bl (st : St) (b : Bool) : vw st (.bl b) = .bl b := Eq.trans rfl rfl
@[simp] theorem vw_non (st : St) : vw st .non = .non := Eq.trans rfl rfl
theorem vw_ref {st : St} {n : Nat} {xs : List D} (h : st[n]? = some (.lst xs)) : vw st (.ref n) = .lst xs := by simp [vw, h]
@[simp] theorem vwS_tup (st : St) (xs : List D) : vwS st (.tup xs) = .tup xs := Eq.trans rfl rfl
@[simp] theorem vwS_lst (st : St) (xs : List D) : vwS st (.lst xs) = .lst xs := Eq.trans rfl rfl
@[simp] theorem vwS_str (st : St) (x : List Nat) : vwS st (.str x) = .str x := Eq.trans rfl rfl
@[simp] theorem vwS_int (st : St) (i : Int) : vwS st (.int i) = .int i := Eq.trans rfl rfl
@[simp] theorem vwS_bl (st : St) (b : Bool) : vwS st (.bl b) = .bl b := Eq.trans rfl rfl
@[simp] theorem vwS_non (st : St) : vwS st .non = .non := Eq.trans rfl rfl
@[simp] theorem vwS_scr (st : St) (ns : List Int) : vwS st (.scr ns) = .lst (ns.map .int) := Eq.trans rfl rfl
theorem vwS_ref {st : St} {n : Nat} {xs : List D} (h : st[n]? = some (.lst xs)) : vwS st (.ref n) = .lst xs := by simp [vwS, vw, h]
theorem vw_ok {st : St} {v : D} (h : okD v = true) : vw st v = v := by cases v <;> first | rfl | simp [okD] at h
theorem vwS_ok {st : St} {v : D} (h : okD v = true) : vwS st v = v := by cases v <;> first | rfl | simp [okD] at h
@[simp] theorem idxD_tup (xs : List D) (i : Int) : idxD (.tup xs) (.int i) = L2.atI xs i := Eq.trans rfl rfl
@[simp] theorem idxD_lst (xs : List D) (i : Int) : idxD (.lst xs) (.int i) = L2.atI xs i := Eq.trans rfl rfl
@[simp] theorem atI0 {α : Type} (x : α) (xs : List α) : L2.atI (x :: xs) 0 = some x := by simp [L2.atI, L2.ixN]
@[simp] theorem atI1 {α : Type} (x y : α) (xs : List α) : L2.atI (x :: y :: xs) 1 = some y := by
  have : (1 : Int) < ((x :: y :: xs).length : Int) := by simp; omega
  simp only [L2.atI, L2.ixN]
  rw [if_pos (by omega), if_pos this]
  rfl
@[simp] theorem atI2 {α : Type} (x y z : α) (xs : List α) : L2.atI (x :: y :: z :: xs) 2 = some z := by
  have : (2 : Int) < ((x :: y :: z :: xs).length : Int) := by simp; omega
  simp only [L2.atI, L2.ixN]
  rw [if_pos (by omega), if_pos this]
  rfl
theorem atI_nat {α : Type} (xs : List α) (i : Nat) : L2.atI xs (i : Int) = xs[i]? := by
  unfold L2.atI L2.ixN
  rw [if_pos (by omega)]
  by_cases h : (i : Int) < (xs.length : Int)
  · rw [if_pos h]; simp
  · rw [if_neg h]
    have : xs.length ≤ i := by omega
    simp [this]
@[simp] theorem cmpD_eq (a b : D) : cmpD .eq a b = eqD a b := Eq.trans rfl rfl
@[simp] theorem cmpD_ne (a b : D) : cmpD .ne a b = (eqD a b).map (!·) := Eq.trans rfl rfl
@[simp] theorem cmpD_isin (a b : D) : cmpD .isin a b = isinD a b := Eq.trans rfl rfl
@[simp] theorem cmpD_nin (a b : D) : cmpD .nin a b = (isinD a b).map (!·) := Eq.trans rfl rfl
@[simp] theorem cmpD_lt_i (i j : Int) : cmpD .lt (.int i) (.int j) = some (decide (i < j)) := Eq.trans rfl rfl
@[simp] theorem cmpD_gt_i (i j : Int) : cmpD .gt (.int i) (.int j) = some (decide (j < i)) := Eq.trans rfl rfl
@[simp] theorem cmpD_le_i (i j : Int) : cmpD .le (.int i) (.int j) = some (decide (i ≤ j)) := Eq.trans rfl rfl
@[simp] theorem cmpD_ge_i (i j : Int) : cmpD .ge (.int i) (.int j) = some (decide (j ≤ i)) := Eq.trans rfl rfl
@[simp] theorem cmpD_lt_s (i j : List Nat) : cmpD .lt (.str i) (.str j) = some (decide (i < j)) := Eq.trans rfl rfl
@[simp] theorem cmpD_gt_s (i j : List Nat) : cmpD .gt (.str i) (.str j) = some (decide (j < i)) := Eq.trans rfl rfl
@[simp] theorem cmpD_le_s (i j : List Nat) : cmpD .le (.str i) (.str j) = some (!decide (j < i)) := Eq.trans rfl rfl
@[simp] theorem cmpD_ge_s (i j : List Nat) : cmpD .ge (.str i) (.str j) = some (!decide (i < j)) := Eq.trans rfl rfl
@[simp] theorem eqD_ii (i j : Int) : eqD (.int i) (.int j) = some (decide (i = j)) := by
  simp [eqD, D.py, PySem.PyData.canLay0, PySem.PyData.depth, PySem.PyData.eqv]
  rw [Bool.eq_iff_iff]; simp
@[simp] theorem binD_add (i j : Int) : binD .add (.int i) (.int j) = some (.int (i + j)) := Eq.trans rfl rfl
@[simp] theorem binD_sub (i j : Int) : binD .sub (.int i) (.int j) = some (.int (i - j)) := Eq.trans rfl rfl
theorem binD_mul {i : Int} (j : Int) (h : small i = true) : binD .mul (.int i) (.int j) = some (.int (i * j)) := by simp [binD, h]
theorem binD_mod (i : Int) {j : Int} (h : j ≠ 0) : binD .mod (.int i) (.int j) = some (.int (i.fmod j)) := by simp [binD, h]
theorem binD_tup {xs ys : List D} (h : xs.length + ys.length ≤ sizeLine) : binD .add (.tup xs) (.tup ys) = some (.tup (xs ++ ys)) := by simp [binD, catL, h]
theorem binD_lst {xs ys : List D} (h : xs.length + ys.length ≤ sizeLine) : binD .add (.lst xs) (.lst ys) = some (.lst (xs ++ ys)) := by simp [binD, catL, h]
@[simp] theorem isin_tup (ts : List Ty) (xs : List D) : biD (.isin ts) [.tup xs] = some (.bl (ts.any (tyIs · (.tup xs)))) := Eq.trans rfl rfl
@[simp] theorem isin_lst (ts : List Ty) (xs : List D) : biD (.isin ts) [.lst xs] = some (.bl (ts.any (tyIs · (.lst xs)))) := Eq.trans rfl rfl
@[simp] theorem isin_str (ts : List Ty) (xs : List Nat) : biD (.isin ts) [.str xs] = some (.bl (ts.any (tyIs · (.str xs)))) := Eq.trans rfl rfl
@[simp] theorem isin_int (ts : List Ty) (i : Int) : biD (.isin ts) [.int i] = some (.bl (ts.any (tyIs · (.int i)))) := Eq.trans rfl rfl
@[simp] theorem isin_bl (ts : List Ty) (b : Bool) : biD (.isin ts) [.bl b] = some (.bl (ts.any (tyIs · (.bl b)))) := Eq.trans rfl rfl
@[simp] theorem isin_non (ts : List Ty) : biD (.isin ts) [.non] = some (.bl (ts.any (tyIs · .non))) := Eq.trans rfl rfl
theorem isin_ok (ts : List Ty) {v : D} (h : noRef v = true) : biD (.isin ts) [v] = some (.bl (ts.any (tyIs · v))) := by simp [biD, one, h]
@[simp] theorem len_tup (xs : List D) : biD .len [.tup xs] = some (.int xs.length) := Eq.trans rfl rfl
@[simp] theorem len_lst (xs : List D) : biD .len [.lst xs] = some (.int xs.length) := Eq.trans rfl rfl
@[simp] theorem len_str (xs : List Nat) : biD .len [.str xs] = some (.int xs.length) := Eq.trans rfl rfl
@[simp] theorem tuple_lst (xs : List D) : biD .tuple [.lst xs] = some (.tup xs) := Eq.trans rfl rfl
@[simp] theorem tuple_tup (xs : List D) : biD .tuple [.tup xs] = some (.tup xs) := Eq.trans rfl rfl
@[simp] theorem list_lst (xs : List D) : biD .list [.lst xs] = some (.lst xs) := Eq.trans rfl rfl
@[simp] theorem list_tup (xs : List D) : biD .list [.tup xs] = some (.lst xs) := Eq.trans rfl rfl
@[simp] theorem biArg_sd (st : St) (d : D) : biArg .sortedD st d = vwK st d := Eq.trans rfl rfl
@[simp] theorem biArg_len (st : St) (d : D) : biArg .len st d = vwS st d := Eq.trans rfl rfl
@[simp] theorem biArg_all (st : St) (d : D) : biArg .all st d = vwS st d := Eq.trans rfl rfl
@[simp] theorem biArg_any (st : St) (d : D) : biArg .any st d = vwS st d := Eq.trans rfl rfl
@[simp] theorem biArg_sum (st : St) (d : D) : biArg .sum st d = vwS st d := Eq.trans rfl rfl
@[simp] theorem biArg_tuple (st : St) (d : D) : biArg .tuple st d = vwS st d := Eq.trans rfl rfl
@[simp] theorem biArg_list (st : St) (d : D) : biArg .list st d = vwS st d := Eq.trans rfl rfl
@[simp] theorem biArg_sorted (st : St) (d : D) : biArg .sorted st d = vwS st d := Eq.trans rfl rfl
@[simp] theorem biArg_repr (st : St) (d : D) : biArg .repr st d = vwS st d := Eq.trans rfl rfl
@[simp] theorem biArg_intf (st : St) (d : D) : biArg .intf st d = vwS st d := Eq.trans rfl rfl
@[simp] theorem biArg_abs (st : St) (d : D) : biArg .abs st d = vwS st d := Eq.trans rfl rfl
@[simp] theorem biArg_max2 (st : St) (d : D) : biArg .max2 st d = vwS st d := Eq.trans rfl rfl
@[simp] theorem biArg_min2 (st : St) (d : D) : biArg .min2 st d = vwS st d := Eq.trans rfl rfl
@[simp] theorem biArg_divmod (st : St) (d : D) : biArg .divmod st d = vwS st d := Eq.trans rfl rfl
@[simp] theorem biArg_isin (ts : List Ty) (st : St) (d : D) : biArg (.isin ts) st d = vwS st d := Eq.trans rfl rfl
@[simp] theorem biD_repr (d : D) : biD .repr [d] = reprD d := Eq.trans rfl rfl
@[simp] theorem retOf_nx (env : Env) (st : St) : retOf (.nx env st) = .ok .non st := Eq.trans rfl rfl
@[simp] theorem retOf_rt (d : D) (st : St) : retOf (.rt d st) = .ok d st := Eq.trans rfl rfl
@[simp] theorem retOf_ex (x : Xc) (env : Env) (st : St) : retOf (.ex x env st) = .ex x st := Eq.trans rfl rfl
def nxO (o : Option Env) (st : St) : O := match o with
  | some env => .nx env st
  | none => .no
@[simp] theorem nxO_some (env : Env) (st : St) : nxO (some env) st = .nx env st := Eq.trans rfl rfl
section
variable (cf : Cf) (gl : Nat → Option D) (env : Env) (st st1 st2 st3 : St)
def lcK3 (y : R D) : R (Option D) := y.bind fun y st4 => .ok (some y) st4
@[simp] theorem lcK3_ok (y : D) : lcK3 (.ok y st) = .ok (some y) st := Eq.trans rfl rfl
def lcK2 (elt : E) (c : D) : R (Option D) := cnd c (lcK3 (ev cf gl env st elt)) (.ok none st)
@[simp] theorem lcK2_t (elt : E) : lcK2 cf gl env st elt (.bl true) = lcK3 (ev cf gl env st elt) := Eq.trans rfl rfl
@[simp] theorem lcK2_f (elt : E) : lcK2 cf gl env st elt (.bl false) = .ok none st := Eq.trans rfl rfl
theorem lcK2_bl (elt : E) (c : Bool) : lcK2 cf gl env st elt (.bl c) = if c then lcK3 (ev cf gl env st elt) else .ok none st := by cases c <;> rfl
def lcK1 (elt : E) (r : R D) : R (Option D) := r.bind fun c st3 => lcK2 cf gl env st3 elt c
@[simp] theorem lcK1_ok (elt : E) (c : D) : lcK1 cf gl env elt (.ok c st) = lcK2 cf gl env st elt c := Eq.trans rfl rfl
def lcK0 (elt cond : E) (o : Option Env) : R (Option D) := match o with
  | some env1 => lcK1 cf gl env1 elt (ev cf gl env1 st cond)
  | none => .no
@[simp] theorem lcK0_some (elt cond : E) : lcK0 cf gl st elt cond (some env) = lcK1 cf gl env elt (ev cf gl env st cond) := Eq.trans rfl rfl
def lcF (elt : E) (tg : Tg) (cond : E) (own : List Nat) (x : D) (st2 : St) : R (Option D) := lcK0 cf gl st2 elt cond (asgTg tg x (wipeE env own))
def forK (b : Ss) (o : Option Env) : O := match o with
  | some env1 => execs cf gl env1 st b
  | none => .no
@[simp] theorem forK_some (b : Ss) : forK cf gl st b (some env) = execs cf gl env st b := Eq.trans rfl rfl
def forF (tg : Tg) (b : Ss) (x : D) (env : Env) (st : St) : O := forK cf gl st b (asgTg tg x env)
def whlC (c : E) (env : Env) (st : St) : R D := ev cf gl env st c
def whlB (b : Ss) (env : Env) (st : St) : O := execs cf gl env st b
@[simp] theorem ev_var (i : Nat) : ev cf gl env st (.var i) = rdV env[i]? st := by rw [ev]; rfl
@[simp] theorem ev_own (i : Nat) : ev cf gl env st (.own i) = rdO env[i]? st := by rw [ev]; rfl
@[simp] theorem ev_glob (i : Nat) : ev cf gl env st (.glob i) = R.of (gl i) st := by rw [ev]
@[simp] theorem ev_cst (d : D) : ev cf gl env st (.cst d) = .ok d st := by rw [ev]
def tupK  (r : R (List D)) : R D := r.bind fun x st1 => .ok (.tup x) st1
@[simp] theorem tupK_ok  (x : (List D)) : tupK (.ok x st1) = .ok (.tup x) st1 := Eq.trans rfl rfl
@[simp] theorem tupK_ex  (q : Xc) : tupK (.ex q st1) = .ex q st1 := Eq.trans rfl rfl
@[simp] theorem ev_tup (es : Es) : ev cf gl env st (.tup es) = tupK (evs cf gl env st es) := by rw [ev]; rfl
def lstK  (r : R (List D)) : R D := r.bind fun x st1 => .ok (.lst x) st1
@[simp] theorem lstK_ok  (x : (List D)) : lstK (.ok x st1) = .ok (.lst x) st1 := Eq.trans rfl rfl
@[simp] theorem lstK_ex  (q : Xc) : lstK (.ex q st1) = .ex q st1 := Eq.trans rfl rfl
@[simp] theorem ev_lst (es : Es) : ev cf gl env st (.lst es) = lstK (evs cf gl env st es) := by rw [ev]; rfl
def lstCK  (r : R (List D)) : R D := r.bind fun x st1 => .ok (.ref st1.length) (st1 ++ [.lst x])
@[simp] theorem lstCK_ok  (x : (List D)) : lstCK (.ok x st1) = .ok (.ref st1.length) (st1 ++ [.lst x]) := Eq.trans rfl rfl
@[simp] theorem lstCK_ex  (q : Xc) : lstCK (.ex q st1) = .ex q st1 := Eq.trans rfl rfl
@[simp] theorem ev_lstC (es : Es) : ev cf gl env st (.lstC es) = lstCK (evs cf gl env st es) := by rw [ev]; rfl
def mkDct (d : D) (st1 : St) : R D := match d with
  | .lst ps => match pairsD ps with
    | some kvs => .ok (.ref st1.length) (st1 ++ [.dct (mergeD [] kvs)])
    | none => .no
  | _ => .no
def dctK  (r : R D) : R D := r.bind fun x st1 => mkDct x st1
@[simp] theorem dctK_ok  (x : D) : dctK (.ok x st1) = mkDct x st1 := Eq.trans rfl rfl
@[simp] theorem dctK_ex  (q : Xc) : dctK (.ex q st1) = .ex q st1 := Eq.trans rfl rfl
@[simp] theorem ev_dctC (e : E) : ev cf gl env st (.dctC e) = dctK (ev cf gl env st e) := by rw [ev]; rfl
def binK2 (op : Bo) (u : D) (r : R D) : R D := r.bind fun x st1 => R.of (binD op (vw st1 u) (vw st1 x)) st1
@[simp] theorem binK2_ok (op : Bo) (u : D) (x : D) : binK2 op u (.ok x st1) = R.of (binD op (vw st1 u) (vw st1 x)) st1 := Eq.trans rfl rfl
@[simp] theorem binK2_ex (op : Bo) (u : D) (q : Xc) : binK2 op u (.ex q st1) = .ex q st1 := Eq.trans rfl rfl
def binK (op : Bo) (b : E) (r : R D) : R D := r.bind fun x st1 => binK2 op x (ev cf gl env st1 b)
@[simp] theorem binK_ok (op : Bo) (b : E) (x : D) : binK cf gl env op b (.ok x st1) = binK2 op x (ev cf gl env st1 b) := Eq.trans rfl rfl
@[simp] theorem binK_ex (op : Bo) (b : E) (q : Xc) : binK cf gl env op b (.ex q st1) = .ex q st1 := Eq.trans rfl rfl
@[simp] theorem ev_bin (op : Bo) (a b : E) : ev cf gl env st (.bin op a b) = binK cf gl env op b (ev cf gl env st a) := by rw [ev]; rfl
def cmpK2 (op : Co) (u : D) (r : R D) : R D := r.bind fun x st1 => R.of ((cmpD op (vw st1 u) (vw st1 x)).map .bl) st1
@[simp] theorem cmpK2_ok (op : Co) (u : D) (x : D) : cmpK2 op u (.ok x st1) = R.of ((cmpD op (vw st1 u) (vw st1 x)).map .bl) st1 := Eq.trans rfl rfl
@[simp] theorem cmpK2_ex (op : Co) (u : D) (q : Xc) : cmpK2 op u (.ex q st1) = .ex q st1 := Eq.trans rfl rfl
def cmpK (op : Co) (b : E) (r : R D) : R D := r.bind fun x st1 => cmpK2 op x (ev cf gl env st1 b)
@[simp] theorem cmpK_ok (op : Co) (b : E) (x : D) : cmpK cf gl env op b (.ok x st1) = cmpK2 op x (ev cf gl env st1 b) := Eq.trans rfl rfl
@[simp] theorem cmpK_ex (op : Co) (b : E) (q : Xc) : cmpK cf gl env op b (.ex q st1) = .ex q st1 := Eq.trans rfl rfl
@[simp] theorem ev_cmp (op : Co) (a b : E) : ev cf gl env st (.cmp op a b) = cmpK cf gl env op b (ev cf gl env st a) := by rw [ev]; rfl
def chnK3 (o2 : Co) (u : D) (r : R D) : R D := r.bind fun x st1 => R.of ((cmpD o2 (vw st1 u) (vw st1 x)).map .bl) st1
@[simp] theorem chnK3_ok (o2 : Co) (u : D) (x : D) : chnK3 o2 u (.ok x st1) = R.of ((cmpD o2 (vw st1 u) (vw st1 x)).map .bl) st1 := Eq.trans rfl rfl
@[simp] theorem chnK3_ex (o2 : Co) (u : D) (q : Xc) : chnK3 o2 u (.ex q st1) = .ex q st1 := Eq.trans rfl rfl
def chnB (o2 : Co) (c : E) (y : D) (o : Option Bool) : R D := match o with
  | some true => chnK3 o2 y (ev cf gl env st c)
  | some false => .ok (.bl false) st
  | none => .no
@[simp] theorem chnB_t (o2 : Co) (c : E) (y : D) : chnB cf gl env st o2 c y (some true) = chnK3 o2 y (ev cf gl env st c) := Eq.trans rfl rfl
@[simp] theorem chnB_f (o2 : Co) (c : E) (y : D) : chnB cf gl env st o2 c y (some false) = .ok (.bl false) st := Eq.trans rfl rfl
@[simp low] theorem chnB_b (o2 : Co) (c : E) (y : D) (t : Bool) : chnB cf gl env st o2 c y (some t) = if t then chnK3 o2 y (ev cf gl env st c) else .ok (.bl false) st := by cases t <;> rfl
def chnK2 (o1 o2 : Co) (c : E) (u : D) (r : R D) : R D := r.bind fun x st1 => chnB cf gl env st1 o2 c x (cmpD o1 (vw st1 u) (vw st1 x))
@[simp] theorem chnK2_ok (o1 o2 : Co) (c : E) (u : D) (x : D) : chnK2 cf gl env o1 o2 c u (.ok x st1) = chnB cf gl env st1 o2 c x (cmpD o1 (vw st1 u) (vw st1 x)) := Eq.trans rfl rfl
@[simp] theorem chnK2_ex (o1 o2 : Co) (c : E) (u : D) (q : Xc) : chnK2 cf gl env o1 o2 c u (.ex q st1) = .ex q st1 := Eq.trans rfl rfl
def chnK (o1 o2 : Co) (b c : E) (r : R D) : R D := r.bind fun x st1 => chnK2 cf gl env o1 o2 c x (ev cf gl env st1 b)
@[simp] theorem chnK_ok (o1 o2 : Co) (b c : E) (x : D) : chnK cf gl env o1 o2 b c (.ok x st1) = chnK2 cf gl env o1 o2 c x (ev cf gl env st1 b) := Eq.trans rfl rfl
@[simp] theorem chnK_ex (o1 o2 : Co) (b c : E) (q : Xc) : chnK cf gl env o1 o2 b c (.ex q st1) = .ex q st1 := Eq.trans rfl rfl
@[simp] theorem ev_chn (o1 o2 : Co) (a b c : E) : ev cf gl env st (.chn o1 o2 a b c) = chnK cf gl env o1 o2 b c (ev cf gl env st a) := by rw [ev]; rfl
def isNK (neg : Bool) (r : R D) : R D := r.bind fun x st1 => .ok (.bl (Bool.xor neg (decide (x = .non)))) st1
@[simp] theorem isNK_ok (neg : Bool) (x : D) : isNK neg (.ok x st1) = .ok (.bl (Bool.xor neg (decide (x = .non)))) st1 := Eq.trans rfl rfl
@[simp] theorem isNK_ex (neg : Bool) (q : Xc) : isNK neg (.ex q st1) = .ex q st1 := Eq.trans rfl rfl
@[simp] theorem ev_isN (neg : Bool) (a : E) : ev cf gl env st (.isN neg a) = isNK neg (ev cf gl env st a) := by rw [ev]; rfl
def isBD (neg b : Bool) (x : D) (st : St) : R D := match x with
  | .bl c => .ok (.bl (Bool.xor neg (decide (c = b)))) st
  | _ => .no
@[simp] theorem isBD_bl (neg b c : Bool) : isBD neg b (.bl c) st = .ok (.bl (Bool.xor neg (decide (c = b)))) st := Eq.trans rfl rfl
def isBK (neg b : Bool) (r : R D) : R D := r.bind fun x st1 => isBD neg b x st1
@[simp] theorem isBK_ok (neg b : Bool) (x : D) : isBK neg b (.ok x st1) = isBD neg b x st1 := Eq.trans rfl rfl
@[simp] theorem isBK_ex (neg b : Bool) (q : Xc) : isBK neg b (.ex q st1) = .ex q st1 := Eq.trans rfl rfl
@[simp] theorem ev_isB (neg b : Bool) (a : E) : ev cf gl env st (.isB neg b a) = isBK neg b (ev cf gl env st a) := by rw [ev]; rfl
def blK  (r : R D) : R D := r.bind fun x st1 => blR x st1
@[simp] theorem blK_ok  (x : D) : blK (.ok x st1) = blR x st1 := Eq.trans rfl rfl
@[simp] theorem blK_ex  (q : Xc) : blK (.ex q st1) = .ex q st1 := Eq.trans rfl rfl
def andC (b : E) (x : D) : R D := cnd x (blK (ev cf gl env st b)) (.ok (.bl false) st)
@[simp] theorem andC_t (b : E) : andC cf gl env st b (.bl true) = blK (ev cf gl env st b) := Eq.trans rfl rfl
@[simp] theorem andC_f (b : E) : andC cf gl env st b (.bl false) = .ok (.bl false) st := Eq.trans rfl rfl
@[simp low] theorem andC_b (b : E) (c : Bool) : andC cf gl env st b (.bl c) = if c then blK (ev cf gl env st b) else .ok (.bl false) st := by cases c <;> rfl
def orC (b : E) (x : D) : R D := cnd x (.ok (.bl true) st) (blK (ev cf gl env st b))
@[simp] theorem orC_t (b : E) : orC cf gl env st b (.bl true) = .ok (.bl true) st := Eq.trans rfl rfl
@[simp] theorem orC_f (b : E) : orC cf gl env st b (.bl false) = blK (ev cf gl env st b) := Eq.trans rfl rfl
@[simp low] theorem orC_b (b : E) (c : Bool) : orC cf gl env st b (.bl c) = if c then .ok (.bl true) st else blK (ev cf gl env st b) := by cases c <;> rfl
def ifeC (a b : E) (x : D) : R D := cnd x (ev cf gl env st a) (ev cf gl env st b)
@[simp] theorem ifeC_t (a b : E) : ifeC cf gl env st a b (.bl true) = ev cf gl env st a := Eq.trans rfl rfl
@[simp] theorem ifeC_f (a b : E) : ifeC cf gl env st a b (.bl false) = ev cf gl env st b := Eq.trans rfl rfl
@[simp low] theorem ifeC_b (a b : E) (c : Bool) : ifeC cf gl env st a b (.bl c) = if c then ev cf gl env st a else ev cf gl env st b := by cases c <;> rfl
def notD (x : D) (st : St) : R D := match x with
  | .bl c => .ok (.bl (!c)) st
  | _ => .no
@[simp] theorem notD_bl (c : Bool) (st : St) : notD (.bl c) st = .ok (.bl (!c)) st := Eq.trans rfl rfl
def andK (b : E) (r : R D) : R D := r.bind fun x st1 => andC cf gl env st1 b x
@[simp] theorem andK_ok (b : E) (x : D) : andK cf gl env b (.ok x st1) = andC cf gl env st1 b x := Eq.trans rfl rfl
@[simp] theorem andK_ex (b : E) (q : Xc) : andK cf gl env b (.ex q st1) = .ex q st1 := Eq.trans rfl rfl
@[simp] theorem ev_and (a b : E) : ev cf gl env st (.and a b) = andK cf gl env b (ev cf gl env st a) := by rw [ev]; rfl
def orK (b : E) (r : R D) : R D := r.bind fun x st1 => orC cf gl env st1 b x
@[simp] theorem orK_ok (b : E) (x : D) : orK cf gl env b (.ok x st1) = orC cf gl env st1 b x := Eq.trans rfl rfl
@[simp] theorem orK_ex (b : E) (q : Xc) : orK cf gl env b (.ex q st1) = .ex q st1 := Eq.trans rfl rfl
@[simp] theorem ev_or (a b : E) : ev cf gl env st (.or a b) = orK cf gl env b (ev cf gl env st a) := by rw [ev]; rfl
def notK  (r : R D) : R D := r.bind fun x st1 => notD x st1
@[simp] theorem notK_ok  (x : D) : notK (.ok x st1) = notD x st1 := Eq.trans rfl rfl
@[simp] theorem notK_ex  (q : Xc) : notK (.ex q st1) = .ex q st1 := Eq.trans rfl rfl
@[simp] theorem ev_not (a : E) : ev cf gl env st (.not a) = notK (ev cf gl env st a) := by rw [ev]; rfl
def ifeK (a b : E) (r : R D) : R D := r.bind fun x st1 => ifeC cf gl env st1 a b x
@[simp] theorem ifeK_ok (a b : E) (x : D) : ifeK cf gl env a b (.ok x st1) = ifeC cf gl env st1 a b x := Eq.trans rfl rfl
@[simp] theorem ifeK_ex (a b : E) (q : Xc) : ifeK cf gl env a b (.ex q st1) = .ex q st1 := Eq.trans rfl rfl
@[simp] theorem ev_ife (c a b : E) : ev cf gl env st (.ife c a b) = ifeK cf gl env a b (ev cf gl env st c) := by rw [ev]; rfl
def callK (f : Nat) (r : R (List D)) : R D := r.bind fun x st1 => cf f x st1
@[simp] theorem callK_ok (f : Nat) (x : (List D)) : callK cf f (.ok x st1) = cf f x st1 := Eq.trans rfl rfl
@[simp] theorem callK_ex (f : Nat) (q : Xc) : callK cf f (.ex q st1) = .ex q st1 := Eq.trans rfl rfl
@[simp] theorem ev_call (f : Nat) (es : Es) : ev cf gl env st (.call f es) = callK cf f (evs cf gl env st es) := by rw [ev]; rfl
def permR (f : Nat) (perm : List Nat) (ds : List D) : R D := match perm.mapM (fun j => ds[j]?) with
  | some as => cf f as st
  | none => .no
theorem permR_some {f : Nat} {perm : List Nat} {ds as : List D} (h : perm.mapM (fun j => ds[j]?) = some as) : permR cf st f perm ds = cf f as st := by unfold permR; rw [h]
@[simp] theorem permR_0 (f : Nat) (a : D) : permR cf st f [0] [a] = cf f [a] st := Eq.trans rfl rfl
@[simp] theorem permR_10 (f : Nat) (a b : D) : permR cf st f [1, 0] [a, b] = cf f [b, a] st := Eq.trans rfl rfl
@[simp] theorem permR_01 (f : Nat) (a b : D) : permR cf st f [0, 1] [a, b] = cf f [a, b] st := Eq.trans rfl rfl
@[simp] theorem permR_210 (f : Nat) (a b c : D) : permR cf st f [2, 1, 0] [a, b, c] = cf f [c, b, a] st := Eq.trans rfl rfl
def kwK (f : Nat) (perm : List Nat) (r : R (List D)) : R D := r.bind fun x st1 => permR cf st1 f perm x
@[simp] theorem kwK_ok (f : Nat) (perm : List Nat) (x : (List D)) : kwK cf f perm (.ok x st1) = permR cf st1 f perm x := Eq.trans rfl rfl
@[simp] theorem kwK_ex (f : Nat) (perm : List Nat) (q : Xc) : kwK cf f perm (.ex q st1) = .ex q st1 := Eq.trans rfl rfl
@[simp] theorem ev_callK (f : Nat) (es : Es) (perm : List Nat) : ev cf gl env st (.callK f es perm) = kwK cf f perm (evs cf gl env st es) := by rw [ev]; rfl
def biK (b : Bi) (r : R (List D)) : R D := r.bind fun x st1 => R.of (biD b (x.map (biArg b st1))) st1
@[simp] theorem biK_ok (b : Bi) (x : (List D)) : biK b (.ok x st1) = R.of (biD b (x.map (biArg b st1))) st1 := Eq.trans rfl rfl
@[simp] theorem biK_ex (b : Bi) (q : Xc) : biK b (.ex q st1) = .ex q st1 := Eq.trans rfl rfl
@[simp] theorem ev_bi (b : Bi) (es : Es) : ev cf gl env st (.bi b es) = biK b (evs cf gl env st es) := by rw [ev]; rfl
def idxK2 (u : D) (r : R D) : R D := r.bind fun x st1 => R.of (idxD (vwS st1 u) x) st1
@[simp] theorem idxK2_ok (u : D) (x : D) : idxK2 u (.ok x st1) = R.of (idxD (vwS st1 u) x) st1 := Eq.trans rfl rfl
@[simp] theorem idxK2_ex (u : D) (q : Xc) : idxK2 u (.ex q st1) = .ex q st1 := Eq.trans rfl rfl
def idxK (i : E) (r : R D) : R D := r.bind fun x st1 => idxK2 x (ev cf gl env st1 i)
@[simp] theorem idxK_ok (i : E) (x : D) : idxK cf gl env i (.ok x st1) = idxK2 x (ev cf gl env st1 i) := Eq.trans rfl rfl
@[simp] theorem idxK_ex (i : E) (q : Xc) : idxK cf gl env i (.ex q st1) = .ex q st1 := Eq.trans rfl rfl
@[simp] theorem ev_idx (a i : E) : ev cf gl env st (.idx a i) = idxK cf gl env i (ev cf gl env st a) := by rw [ev]; rfl
def slcK3 (u l : D) (r : R D) : R D := r.bind fun x st1 => R.of (slcD (vwS st1 u) l x) st1
@[simp] theorem slcK3_ok (u l : D) (x : D) : slcK3 u l (.ok x st1) = R.of (slcD (vwS st1 u) l x) st1 := Eq.trans rfl rfl
@[simp] theorem slcK3_ex (u l : D) (q : Xc) : slcK3 u l (.ex q st1) = .ex q st1 := Eq.trans rfl rfl
def slcB (hi : E) (u l : D) : R D := match bndD l with
  | some _ => slcK3 u l (ev cf gl env st hi)
  | none => .no
@[simp] theorem slcB_int (hi : E) (u : D) (i : Int) : slcB cf gl env st hi u (.int i) = slcK3 u (.int i) (ev cf gl env st hi) := Eq.trans rfl rfl
@[simp] theorem slcB_non (hi : E) (u : D) : slcB cf gl env st hi u .non = slcK3 u .non (ev cf gl env st hi) := Eq.trans rfl rfl
def slcK2 (hi : E) (u : D) (r : R D) : R D := r.bind fun x st1 => slcB cf gl env st1 hi u x
@[simp] theorem slcK2_ok (hi : E) (u : D) (x : D) : slcK2 cf gl env hi u (.ok x st1) = slcB cf gl env st1 hi u x := Eq.trans rfl rfl
@[simp] theorem slcK2_ex (hi : E) (u : D) (q : Xc) : slcK2 cf gl env hi u (.ex q st1) = .ex q st1 := Eq.trans rfl rfl
def slcK (lo hi : E) (r : R D) : R D := r.bind fun x st1 => slcK2 cf gl env hi x (ev cf gl env st1 lo)
@[simp] theorem slcK_ok (lo hi : E) (x : D) : slcK cf gl env lo hi (.ok x st1) = slcK2 cf gl env hi x (ev cf gl env st1 lo) := Eq.trans rfl rfl
@[simp] theorem slcK_ex (lo hi : E) (q : Xc) : slcK cf gl env lo hi (.ex q st1) = .ex q st1 := Eq.trans rfl rfl
@[simp] theorem ev_slc (a lo hi : E) : ev cf gl env st (.slc a lo hi) = slcK cf gl env lo hi (ev cf gl env st a) := by rw [ev]; rfl
def revK  (r : R D) : R D := r.bind fun x st1 => R.of (revD (vwS st1 x)) st1
@[simp] theorem revK_ok  (x : D) : revK (.ok x st1) = R.of (revD (vwS st1 x)) st1 := Eq.trans rfl rfl
@[simp] theorem revK_ex  (q : Xc) : revK (.ex q st1) = .ex q st1 := Eq.trans rfl rfl
@[simp] theorem ev_rev (a : E) : ev cf gl env st (.rev a) = revK (ev cf gl env st a) := by rw [ev]; rfl
def lcE  (r : R (List D)) : R D := r.bind fun x st1 => .ok (.lst x) st1
@[simp] theorem lcE_ok  (x : (List D)) : lcE (.ok x st1) = .ok (.lst x) st1 := Eq.trans rfl rfl
@[simp] theorem lcE_ex  (q : Xc) : lcE (.ex q st1) = .ex q st1 := Eq.trans rfl rfl
def lcL (elt : E) (tg : Tg) (cond : E) (own : List Nat) (p : List D × List Gd) : R D := if p.1.length ≤ sizeLine then lcE (lcLoop (lcF cf gl env elt tg cond own) p.2 env p.1 st).noX else .no
theorem lcL_ok {cf : Cf} {gl : Nat → Option D} {env : Env} {st st1 : St} {elt : E} {tg : Tg} {cond : E} {own : List Nat} {xs ys : List D} {gs : List Gd} (hl : xs.length ≤ sizeLine) (h : lcLoop (lcF cf gl env elt tg cond own) gs env xs st = .ok ys st1) : lcL cf gl env st elt tg cond own (xs, gs) = .ok (.lst ys) st1 := by
  unfold lcL
  rw [if_pos hl, h]; rfl
def lcK (elt : E) (tg : Tg) (cond : E) (own : List Nat) (r : R (List D × List Gd)) : R D := r.bind fun x st1 => lcL cf gl env st1 elt tg cond own x
@[simp] theorem lcK_ok (elt : E) (tg : Tg) (cond : E) (own : List Nat) (x : (List D × List Gd)) : lcK cf gl env elt tg cond own (.ok x st1) = lcL cf gl env st1 elt tg cond own x := Eq.trans rfl rfl
@[simp] theorem lcK_ex (elt : E) (tg : Tg) (cond : E) (own : List Nat) (q : Xc) : lcK cf gl env elt tg cond own (.ex q st1) = .ex q st1 := Eq.trans rfl rfl
@[simp] theorem ev_lc (elt : E) (tg : Tg) (it : It) (cond : E) (own : List Nat) : ev cf gl env st (.lc elt tg it cond own) = lcK cf gl env elt tg cond own (evIt cf gl env st it) := by rw [ev]; rfl
def lrgR (d : D) (st : St) : R D := match d with
  | .int j => if okRange j && decide (j.toNat ≤ 16777216) then .ok (.lst (rangeL 0 j.toNat)) st else .no
  | _ => .no
theorem lrgR_int {j : Int} (st : St) (h : okRange j = true) (h2 : j.toNat ≤ 16777216) : lrgR (.int j) st = .ok (.lst (rangeL 0 j.toNat)) st := by simp [lrgR, h, h2]
def lrgK  (r : R D) : R D := r.bind fun x st1 => lrgR x st1
@[simp] theorem lrgK_ok  (x : D) : lrgK (.ok x st1) = lrgR x st1 := Eq.trans rfl rfl
@[simp] theorem lrgK_ex  (q : Xc) : lrgK (.ex q st1) = .ex q st1 := Eq.trans rfl rfl
@[simp] theorem ev_lrg (e : E) : ev cf gl env st (.lrg e) = lrgK (ev cf gl env st e) := by rw [ev]; rfl
@[simp] theorem ev_nev : ev cf gl env st .nev = .no := by rw [ev]
def consK2 (d : D) (r : R (List D)) : R (List D) := r.bind fun x st1 => .ok (d :: x) st1
@[simp] theorem consK2_ok (d : D) (x : (List D)) : consK2 d (.ok x st1) = .ok (d :: x) st1 := Eq.trans rfl rfl
@[simp] theorem consK2_ex (d : D) (q : Xc) : consK2 d (.ex q st1) = .ex q st1 := Eq.trans rfl rfl
def consK (es : Es) (r : R D) : R (List D) := r.bind fun x st1 => consK2 x (evs cf gl env st1 es)
@[simp] theorem consK_ok (es : Es) (x : D) : consK cf gl env es (.ok x st1) = consK2 x (evs cf gl env st1 es) := Eq.trans rfl rfl
@[simp] theorem consK_ex (es : Es) (q : Xc) : consK cf gl env es (.ex q st1) = .ex q st1 := Eq.trans rfl rfl
@[simp] theorem evs_nil : evs cf gl env st .nil = .ok [] st := by rw [evs]
@[simp] theorem evs_cons (e : E) (es : Es) : evs cf gl env st (.cons e es) = consK cf gl env es (ev cf gl env st e) := by rw [evs]; rfl
def vaK (e : E) (r : R D) : R (List D × List Gd) := r.bind fun x st1 => R.of ((seqOf st1 x).map fun p => (p.1, p.2 ++ guardOf e x)) st1
@[simp] theorem vaK_ok (e : E) (x : D) : vaK e (.ok x st1) = R.of ((seqOf st1 x).map fun p => (p.1, p.2 ++ guardOf e x)) st1 := Eq.trans rfl rfl
@[simp] theorem vaK_ex (e : E) (q : Xc) : vaK e (.ex q st1) = .ex q st1 := Eq.trans rfl rfl
@[simp] theorem evIt_va (e : E) : evIt cf gl env st (.va e) = vaK e (ev cf gl env st e) := by rw [evIt]; rfl
def rg1R (d : D) (st : St) : R (List D × List Gd) := match d with
  | .int j => if okRange j then .ok (rangeL 0 j.toNat, []) st else .no
  | _ => .no
theorem rg1R_int {j : Int} (st : St) (h : okRange j = true) : rg1R (.int j) st = .ok (rangeL 0 j.toNat, []) st := by simp [rg1R, h]
def rg1K  (r : R D) : R (List D × List Gd) := r.bind fun x st1 => rg1R x st1
@[simp] theorem rg1K_ok  (x : D) : rg1K (.ok x st1) = rg1R x st1 := Eq.trans rfl rfl
@[simp] theorem rg1K_ex  (q : Xc) : rg1K (.ex q st1) = .ex q st1 := Eq.trans rfl rfl
@[simp] theorem evIt_rg1 (e : E) : evIt cf gl env st (.rg1 e) = rg1K (ev cf gl env st e) := by rw [evIt]; rfl
def rg2R (x y : D) (st : St) : R (List D × List Gd) := match x, y with
  | .int i, .int j => if okRange i && okRange j then .ok (rangeL i (j - i).toNat, []) st else .no
  | _, _ => .no
theorem rg2R_int {i j : Int} (st : St) (h : okRange i = true) (h2 : okRange j = true) : rg2R (.int i) (.int j) st = .ok (rangeL i (j - i).toNat, []) st := by simp [rg2R, h, h2]
def rg2K2 (u : D) (r : R D) : R (List D × List Gd) := r.bind fun x st1 => rg2R u x st1
@[simp] theorem rg2K2_ok (u : D) (x : D) : rg2K2 u (.ok x st1) = rg2R u x st1 := Eq.trans rfl rfl
@[simp] theorem rg2K2_ex (u : D) (q : Xc) : rg2K2 u (.ex q st1) = .ex q st1 := Eq.trans rfl rfl
def rg2K (b : E) (r : R D) : R (List D × List Gd) := r.bind fun x st1 => rg2K2 x (ev cf gl env st1 b)
@[simp] theorem rg2K_ok (b : E) (x : D) : rg2K cf gl env b (.ok x st1) = rg2K2 x (ev cf gl env st1 b) := Eq.trans rfl rfl
@[simp] theorem rg2K_ex (b : E) (q : Xc) : rg2K cf gl env b (.ex q st1) = .ex q st1 := Eq.trans rfl rfl
@[simp] theorem evIt_rg2 (a b : E) : evIt cf gl env st (.rg2 a b) = rg2K cf gl env b (ev cf gl env st a) := by rw [evIt]; rfl
def zpR (a b : E) (x y : D) (st2 : St) : R (List D × List Gd) := if isTup x != isTup y then .no else match seqOf st2 x, seqOf st2 y with
    | some p, some q => .ok (List.zipWith (fun u v => .tup [u, v]) p.1 q.1, p.2 ++ guardOf a x ++ (q.2 ++ guardOf b y)) st2
    | _, _ => .no
def zpK2 (a b : E) (u : D) (r : R D) : R (List D × List Gd) := r.bind fun x st1 => zpR a b u x st1
@[simp] theorem zpK2_ok (a b : E) (u : D) (x : D) : zpK2 a b u (.ok x st1) = zpR a b u x st1 := Eq.trans rfl rfl
@[simp] theorem zpK2_ex (a b : E) (u : D) (q : Xc) : zpK2 a b u (.ex q st1) = .ex q st1 := Eq.trans rfl rfl
def zpK (a b : E) (r : R D) : R (List D × List Gd) := r.bind fun x st1 => zpK2 a b x (ev cf gl env st1 b)
@[simp] theorem zpK_ok (a b : E) (x : D) : zpK cf gl env a b (.ok x st1) = zpK2 a b x (ev cf gl env st1 b) := Eq.trans rfl rfl
@[simp] theorem zpK_ex (a b : E) (q : Xc) : zpK cf gl env a b (.ex q st1) = .ex q st1 := Eq.trans rfl rfl
@[simp] theorem evIt_zp (a b : E) : evIt cf gl env st (.zp a b) = zpK cf gl env a b (ev cf gl env st a) := by rw [evIt]; rfl
def enR (a : E) (x : D) (st1 : St) : R (List D × List Gd) := match seqOf st1 x with
    | some p => .ok (p.1.mapIdx (fun i u => .tup [.int i, u]), p.2 ++ guardOf a x) st1
    | none => .no
def enK (a : E) (r : R D) : R (List D × List Gd) := r.bind fun x st1 => enR a x st1
@[simp] theorem enK_ok (a : E) (x : D) : enK a (.ok x st1) = enR a x st1 := Eq.trans rfl rfl
@[simp] theorem enK_ex (a : E) (q : Xc) : enK a (.ex q st1) = .ex q st1 := Eq.trans rfl rfl
@[simp] theorem evIt_en (a : E) : evIt cf gl env st (.en a) = enK a (ev cf gl env st a) := by rw [evIt]; rfl
def stR (x : D) (st1 : St) : R (List D × List Gd) := match x with
    | .str z => .ok (z.map fun c => .str [c], []) st1
    | _ => .no
@[simp] theorem stR_str (z : List Nat) : stR (.str z) st1 = .ok (z.map fun c => .str [c], []) st1 := Eq.trans rfl rfl
def stK  (r : R D) : R (List D × List Gd) := r.bind fun x st1 => stR x st1
@[simp] theorem stK_ok  (x : D) : stK (.ok x st1) = stR x st1 := Eq.trans rfl rfl
@[simp] theorem stK_ex  (q : Xc) : stK (.ex q st1) = .ex q st1 := Eq.trans rfl rfl
@[simp] theorem evIt_st (a : E) : evIt cf gl env st (.st a) = stK (ev cf gl env st a) := by rw [evIt]; rfl
@[simp] theorem seqOf_tup (xs : List D) : seqOf st (.tup xs) = some (xs, []) := Eq.trans rfl rfl
@[simp] theorem seqOf_lst (xs : List D) : seqOf st (.lst xs) = some (xs, []) := Eq.trans rfl rfl
@[simp] theorem zpR_tup (a b : E) (xs ys : List D) (ha : guardOf a (.tup xs) = []) (hb : guardOf b (.tup ys) = []) : zpR a b (.tup xs) (.tup ys) st = .ok (List.zipWith (fun u v => .tup [u, v]) xs ys, []) st := by simp [zpR, isTup, ha, hb]
@[simp] theorem zpR_lst (a b : E) (xs ys : List D) (ha : guardOf a (.lst xs) = []) (hb : guardOf b (.lst ys) = []) : zpR a b (.lst xs) (.lst ys) st = .ok (List.zipWith (fun u v => .tup [u, v]) xs ys, []) st := by simp [zpR, isTup, ha, hb]
@[simp] theorem enR_tup (a : E) (xs : List D) : enR a (.tup xs) st = .ok (xs.mapIdx (fun i u => .tup [.int i, u]), guardOf a (.tup xs)) st := by simp [enR]
@[simp] theorem enR_lst (a : E) (xs : List D) : enR a (.lst xs) st = .ok (xs.mapIdx (fun i u => .tup [.int i, u]), guardOf a (.lst xs)) st := by simp [enR]
@[simp] theorem guardOf_tup (e : E) (xs : List D) : guardOf e (.tup xs) = [] := by cases e <;> rfl
@[simp] theorem guardOf_var (i : Nat) (d : D) : guardOf (.var i) d = [] := Eq.trans rfl rfl
@[simp] theorem guardOf_lc (a : E) (t : Tg) (i : It) (c : E) (o : List Nat) (d : D) : guardOf (.lc a t i c o) d = [] := Eq.trans rfl rfl
@[simp] theorem guardOf_bin (o : Bo) (a b : E) (d : D) : guardOf (.bin o a b) d = [] := Eq.trans rfl rfl
@[simp] theorem guardOf_idx (a b : E) (d : D) : guardOf (.idx a b) d = [] := Eq.trans rfl rfl
@[simp] theorem guardOf_slc (a b c : E) (d : D) : guardOf (.slc a b c) d = [] := Eq.trans rfl rfl
@[simp] theorem guardOf_bi (a : Bi) (b : Es) (d : D) : guardOf (.bi a b) d = [] := Eq.trans rfl rfl
@[simp] theorem guardOf_lst (b : Es) (d : D) : guardOf (.lst b) d = [] := Eq.trans rfl rfl
@[simp] theorem guardOf_call (f : Nat) (b : Es) (d : D) : guardOf (.call f b) d = [] := Eq.trans rfl rfl
@[simp] theorem guardOf_rev (b : E) (d : D) : guardOf (.rev b) d = [] := Eq.trans rfl rfl
/-! statements -/
def asgK (t : Tt) (r : R D) : O := r.o env fun x st1 => asgT cf gl env st1 t x
@[simp] theorem asgK_ok (t : Tt) (x : D) : asgK cf gl env t (.ok x st1) = asgT cf gl env st1 t x := Eq.trans rfl rfl
@[simp] theorem asgK_ex (t : Tt) (q : Xc) : asgK cf gl env t (.ex q st1) = .ex q env st1 := Eq.trans rfl rfl
@[simp] theorem exec_asg (t : Tt) (e : E) : exec cf gl env st (.asg t e) = asgK cf gl env t (ev cf gl env st e) := by rw [exec]; rfl
@[simp] theorem asgT_nm (i : Nat) (d : D) : asgT cf gl env st (.nm i) d = nxO (setV env i (.va d)) st := by rw [asgT]; rfl
def tpO (ts : List Tt) (d : D) : O := match d with
    | .tup ds => if ds.length = ts.length then asgTs cf gl env st ts ds else .no
    | _ => .no
@[simp] theorem tpO_tup (ts : List Tt) (ds : List D) : tpO cf gl env st ts (.tup ds) = if ds.length = ts.length then asgTs cf gl env st ts ds else .no := Eq.trans rfl rfl
@[simp] theorem asgT_tp (ts : List Tt) (d : D) : asgT cf gl env st (.tp ts) d = tpO cf gl env st ts d := by cases d <;> simp [asgT, tpO]
def asgsK (ts : List Tt) (ds : List D) (r : O) : O := match r with
    | .nx env' st' => asgTs cf gl env' st' ts ds
    | .ex x env' st' => .ex x env' st'
    | _ => .no
@[simp] theorem asgsK_nx (ts : List Tt) (ds : List D) : asgsK cf gl ts ds (.nx env st) = asgTs cf gl env st ts ds := Eq.trans rfl rfl
@[simp] theorem asgTs_nil : asgTs cf gl env st [] [] = .nx env st := by rw [asgTs]
@[simp] theorem asgTs_cons (t : Tt) (ts : List Tt) (d : D) (ds : List D) : asgTs cf gl env st (t :: ts) (d :: ds) = asgsK cf gl ts ds (asgT cf gl env st t d) := by rw [asgTs]; rfl
def subR (d x y : D) (st2 : St) : O := match x, y with
    | .ref n, .int k => match st2[n]? with
      | some (.lst xs) => match L2.ixN xs.length k with
        | some j => .nx env (st2.set n (.lst (xs.set j d)))
        | none => .no
      | _ => .no
    | _, _ => .no
def subK2 (d u : D) (r : R D) : O := r.o env fun x st1 => subR env d u x st1
@[simp] theorem subK2_ok (d u : D) (x : D) : subK2 env d u (.ok x st1) = subR env d u x st1 := Eq.trans rfl rfl
@[simp] theorem subK2_ex (d u : D) (q : Xc) : subK2 env d u (.ex q st1) = .ex q env st1 := Eq.trans rfl rfl
def subK (i : E) (d : D) (r : R D) : O := r.o env fun x st1 => subK2 env d x (ev cf gl env st1 i)
@[simp] theorem subK_ok (i : E) (d : D) (x : D) : subK cf gl env i d (.ok x st1) = subK2 env d x (ev cf gl env st1 i) := Eq.trans rfl rfl
@[simp] theorem subK_ex (i : E) (d : D) (q : Xc) : subK cf gl env i d (.ex q st1) = .ex q env st1 := Eq.trans rfl rfl
@[simp] theorem asgT_sub (a i : E) (d : D) : asgT cf gl env st (.sub a i) d = subK cf gl env i d (ev cf gl env st a) := by rw [asgT]; rfl
def parO (i j : Nat) (u v : Sl) (st : St) : O := match setV env i u with
        | some env1 => match setV env1 j v with
          | some env2 => if i = j then .no else .nx env2 st
          | none => .no
        | none => .no
def parS (i j : Nat) (u : Sl) (s : Option Sl) : O := match s with
  | some v => parO env i j u v st
  | none => .no
@[simp] theorem parS_some (i j : Nat) (u v : Sl) : parS env st i j u (some v) = parO env i j u v st := Eq.trans rfl rfl
@[simp] theorem slot_t (xs : List D) : slot true (.lst xs) = some (.ow xs) := Eq.trans rfl rfl
@[simp] theorem slot_f (d : D) : slot false d = some (.va d) := Eq.trans rfl rfl
def parK2 (i j : Nat) (oj : Bool) (u : Sl) (r : R D) : O := r.o env fun x st1 => parS env st1 i j u (slot oj x)
@[simp] theorem parK2_ok (i j : Nat) (oj : Bool) (u : Sl) (x : D) : parK2 env i j oj u (.ok x st1) = parS env st1 i j u (slot oj x) := Eq.trans rfl rfl
@[simp] theorem parK2_ex (i j : Nat) (oj : Bool) (u : Sl) (q : Xc) : parK2 env i j oj u (.ex q st1) = .ex q env st1 := Eq.trans rfl rfl
def parBe (i j : Nat) (oj : Bool) (b : E) (s : Option Sl) : O := match s with
  | some u => parK2 env i j oj u (ev cf gl env st b)
  | none => .no
@[simp] theorem parBe_some (i j : Nat) (oj : Bool) (b : E) (u : Sl) : parBe cf gl env st i j oj b (some u) = parK2 env i j oj u (ev cf gl env st b) := Eq.trans rfl rfl
def parK (i : Nat) (oi : Bool) (j : Nat) (oj : Bool) (b : E) (r : R D) : O := r.o env fun x st1 => parBe cf gl env st1 i j oj b (slot oi x)
@[simp] theorem parK_ok (i : Nat) (oi : Bool) (j : Nat) (oj : Bool) (b : E) (x : D) : parK cf gl env i oi j oj b (.ok x st1) = parBe cf gl env st1 i j oj b (slot oi x) := Eq.trans rfl rfl
@[simp] theorem parK_ex (i : Nat) (oi : Bool) (j : Nat) (oj : Bool) (b : E) (q : Xc) : parK cf gl env i oi j oj b (.ex q st1) = .ex q env st1 := Eq.trans rfl rfl
@[simp] theorem exec_par (i : Nat) (oi : Bool) (j : Nat) (oj : Bool) (a b : E) : exec cf gl env st (.par i oi j oj a b) = parK cf gl env i oi j oj b (ev cf gl env st a) := by
  rw [exec]
  unfold parK
  congr 1
def newS (i : Nat) (s : Option Sl) : O := match s with
  | some u => nxO (setV env i u) st
  | none => .no
@[simp] theorem newS_some (i : Nat) (u : Sl) : newS env st i (some u) = nxO (setV env i u) st := Eq.trans rfl rfl
def newK (i : Nat) (r : R D) : O := r.o env fun x st1 => newS env st1 i (slot true x)
@[simp] theorem newK_ok (i : Nat) (x : D) : newK env i (.ok x st1) = newS env st1 i (slot true x) := Eq.trans rfl rfl
@[simp] theorem newK_ex (i : Nat) (q : Xc) : newK env i (.ex q st1) = .ex q env st1 := Eq.trans rfl rfl
@[simp] theorem exec_newO (i : Nat) (e : E) : exec cf gl env st (.newO i e) = newK env i (ev cf gl env st e) := by
  rw [exec]
  unfold newK
  congr 1
def appK (i : Nat) (xs : List D) (r : R D) : O := r.o env fun x st1 => if xs.length < sizeLine then .nx (env.set i (.ow (xs ++ [x]))) st1 else .no
@[simp] theorem appK_ok (i : Nat) (xs : List D) (x : D) : appK env i xs (.ok x st1) = if xs.length < sizeLine then .nx (env.set i (.ow (xs ++ [x]))) st1 else .no := Eq.trans rfl rfl
@[simp] theorem appK_ex (i : Nat) (xs : List D) (q : Xc) : appK env i xs (.ex q st1) = .ex q env st1 := Eq.trans rfl rfl
def appB (i : Nat) (e : E) (o : Option Sl) : O := match o with
  | some (.ow xs) => appK env i xs (ev cf gl env st e)
  | _ => .no
@[simp] theorem appB_ow (i : Nat) (e : E) (xs : List D) : appB cf gl env st i e (some (.ow xs)) = appK env i xs (ev cf gl env st e) := Eq.trans rfl rfl
@[simp] theorem exec_appO (i : Nat) (e : E) : exec cf gl env st (.appO i e) = appB cf gl env st i e env[i]? := by rw [exec]; rfl
def extR (i : Nat) (xs : List D) (d : D) : O := match d with
      | .lst ys => if xs.length + ys.length ≤ sizeLine then .nx (env.set i (.ow (xs ++ ys))) st else .no
      | _ => .no
@[simp] theorem extR_lst (i : Nat) (xs ys : List D) : extR env st i xs (.lst ys) = if xs.length + ys.length ≤ sizeLine then .nx (env.set i (.ow (xs ++ ys))) st else .no := Eq.trans rfl rfl
def extK (i : Nat) (xs : List D) (r : R D) : O := r.o env fun x st1 => extR env st1 i xs (vw st1 x)
@[simp] theorem extK_ok (i : Nat) (xs : List D) (x : D) : extK env i xs (.ok x st1) = extR env st1 i xs (vw st1 x) := Eq.trans rfl rfl
@[simp] theorem extK_ex (i : Nat) (xs : List D) (q : Xc) : extK env i xs (.ex q st1) = .ex q env st1 := Eq.trans rfl rfl
def extB (i : Nat) (e : E) (o : Option Sl) : O := match o with
  | some (.ow xs) => extK env i xs (ev cf gl env st e)
  | _ => .no
@[simp] theorem extB_ow (i : Nat) (e : E) (xs : List D) : extB cf gl env st i e (some (.ow xs)) = extK env i xs (ev cf gl env st e) := Eq.trans rfl rfl
@[simp] theorem exec_extO (i : Nat) (e : E) : exec cf gl env st (.extO i e) = extB cf gl env st i e env[i]? := by rw [exec]; rfl
def setR (i : Nat) (xs : List D) (d k : D) (st2 : St) : O := match k with
      | .int k => match L2.ixN xs.length k with
        | some j => .nx (env.set i (.ow (xs.set j d))) st2
        | none => .no
      | _ => .no
theorem setR_int {i : Nat} {xs : List D} {d : D} {k : Int} {j : Nat} {st2 : St} (h : L2.ixN xs.length k = some j) : setR env i xs d (.int k) st2 = .nx (env.set i (.ow (xs.set j d))) st2 := by simp [setR, h]
def setK2 (i : Nat) (xs : List D) (d : D) (r : R D) : O := r.o env fun x st1 => setR env i xs d x st1
@[simp] theorem setK2_ok (i : Nat) (xs : List D) (d : D) (x : D) : setK2 env i xs d (.ok x st1) = setR env i xs d x st1 := Eq.trans rfl rfl
@[simp] theorem setK2_ex (i : Nat) (xs : List D) (d : D) (q : Xc) : setK2 env i xs d (.ex q st1) = .ex q env st1 := Eq.trans rfl rfl
def setB (i : Nat) (a : E) (d : D) (o : Option Sl) : O := match o with
  | some (.ow xs) => setK2 env i xs d (ev cf gl env st a)
  | _ => .no
@[simp] theorem setB_ow (i : Nat) (a : E) (d : D) (xs : List D) : setB cf gl env st i a d (some (.ow xs)) = setK2 env i xs d (ev cf gl env st a) := Eq.trans rfl rfl
def setK (i : Nat) (a : E) (r : R D) : O := r.o env fun x st1 => setB cf gl env st1 i a x env[i]?
@[simp] theorem setK_ok (i : Nat) (a : E) (x : D) : setK cf gl env i a (.ok x st1) = setB cf gl env st1 i a x env[i]? := Eq.trans rfl rfl
@[simp] theorem setK_ex (i : Nat) (a : E) (q : Xc) : setK cf gl env i a (.ex q st1) = .ex q env st1 := Eq.trans rfl rfl
@[simp] theorem exec_setO (i : Nat) (a e : E) : exec cf gl env st (.setO i a e) = setK cf gl env i a (ev cf gl env st e) := by rw [exec]; rfl
def augR (i : Nat) (op : Bo) (x y : D) : O := match op, x, y with
      | .add, .int a, .int b => .nx (env.set i (.va (.int (a + b)))) st
      | .sub, .int a, .int b => .nx (env.set i (.va (.int (a - b)))) st
      | _, _, _ => .no
@[simp] theorem augR_add (i : Nat) (a b : Int) : augR env st i .add (.int a) (.int b) = .nx (env.set i (.va (.int (a + b)))) st := Eq.trans rfl rfl
@[simp] theorem augR_sub (i : Nat) (a b : Int) : augR env st i .sub (.int a) (.int b) = .nx (env.set i (.va (.int (a - b)))) st := Eq.trans rfl rfl
def augK (i : Nat) (op : Bo) (u : D) (r : R D) : O := r.o env fun x st1 => augR env st1 i op u x
@[simp] theorem augK_ok (i : Nat) (op : Bo) (u : D) (x : D) : augK env i op u (.ok x st1) = augR env st1 i op u x := Eq.trans rfl rfl
@[simp] theorem augK_ex (i : Nat) (op : Bo) (u : D) (q : Xc) : augK env i op u (.ex q st1) = .ex q env st1 := Eq.trans rfl rfl
def augB (i : Nat) (op : Bo) (e : E) (o : Option Sl) : O := match o with
  | some (.va x) => augK env i op x (ev cf gl env st e)
  | _ => .no
@[simp] theorem augB_va (i : Nat) (op : Bo) (e : E) (x : D) : augB cf gl env st i op e (some (.va x)) = augK env i op x (ev cf gl env st e) := Eq.trans rfl rfl
@[simp] theorem exec_aug (i : Nat) (op : Bo) (e : E) : exec cf gl env st (.aug i op e) = augB cf gl env st i op e env[i]? := by rw [exec]; rfl
def expK  (r : R D) : O := r.o env fun x st1 => .nx env st1
@[simp] theorem expK_ok  (x : D) : expK env (.ok x st1) = .nx env st1 := Eq.trans rfl rfl
@[simp] theorem expK_ex  (q : Xc) : expK env (.ex q st1) = .ex q env st1 := Eq.trans rfl rfl
@[simp] theorem exec_exp (e : E) : exec cf gl env st (.exp e) = expK env (ev cf gl env st e) := by rw [exec]; rfl
def retK  (r : R D) : O := r.o env fun x st1 => .rt x st1
@[simp] theorem retK_ok  (x : D) : retK env (.ok x st1) = .rt x st1 := Eq.trans rfl rfl
@[simp] theorem retK_ex  (q : Xc) : retK env (.ex q st1) = .ex q env st1 := Eq.trans rfl rfl
@[simp] theorem exec_ret (e : E) : exec cf gl env st (.ret e) = retK env (ev cf gl env st e) := by rw [exec]; rfl
def retB (o : Option Sl) : O := match o with
  | some (.ow xs) => .rt (.lst xs) st
  | _ => .no
@[simp] theorem retB_ow (xs : List D) : retB st (some (.ow xs)) = .rt (.lst xs) st := Eq.trans rfl rfl
@[simp] theorem exec_retO (i : Nat) : exec cf gl env st (.retO i) = retB st env[i]? := by rw [exec]; rfl
def iteC (a b : Ss) (d : D) : O := cndO .no d (execs cf gl env st a) (execs cf gl env st b)
@[simp] theorem iteC_t (a b : Ss) : iteC cf gl env st a b (.bl true) = execs cf gl env st a := Eq.trans rfl rfl
@[simp] theorem iteC_f (a b : Ss) : iteC cf gl env st a b (.bl false) = execs cf gl env st b := Eq.trans rfl rfl
@[simp low] theorem iteC_b (a b : Ss) (c : Bool) : iteC cf gl env st a b (.bl c) = if c then execs cf gl env st a else execs cf gl env st b := by cases c <;> rfl
def iteK (a b : Ss) (r : R D) : O := r.o env fun x st1 => iteC cf gl env st1 a b x
@[simp] theorem iteK_ok (a b : Ss) (x : D) : iteK cf gl env a b (.ok x st1) = iteC cf gl env st1 a b x := Eq.trans rfl rfl
@[simp] theorem iteK_ex (a b : Ss) (q : Xc) : iteK cf gl env a b (.ex q st1) = .ex q env st1 := Eq.trans rfl rfl
@[simp] theorem exec_ite (c : E) (a b : Ss) : exec cf gl env st (.ite c a b) = iteK cf gl env a b (ev cf gl env st c) := by rw [exec]; rfl
@[simp] theorem exec_whl (c : E) (b : Ss) : exec cf gl env st (.whl c b) = whlLoop (whlC cf gl c) (whlB cf gl b) fuel env st := by rw [exec]; rfl
def forKK (tg : Tg) (b : Ss) (r : R (List D × List Gd)) : O := r.o env fun x st1 => forLoop (forF cf gl tg b) x.2 x.1 env st1
@[simp] theorem forKK_ok (tg : Tg) (b : Ss) (x : (List D × List Gd)) : forKK cf gl env tg b (.ok x st1) = forLoop (forF cf gl tg b) x.2 x.1 env st1 := Eq.trans rfl rfl
@[simp] theorem forKK_ex (tg : Tg) (b : Ss) (q : Xc) : forKK cf gl env tg b (.ex q st1) = .ex q env st1 := Eq.trans rfl rfl
@[simp] theorem exec_for (tg : Tg) (it : It) (b : Ss) : exec cf gl env st (.for tg it b) = forKK cf gl env tg b (evIt cf gl env st it) := by rw [exec]; rfl
@[simp] theorem exec_brk : exec cf gl env st .brk = .bk env st := by rw [exec]
@[simp] theorem exec_cnt : exec cf gl env st .cnt = .ct env st := by rw [exec]
@[simp] theorem exec_pss : exec cf gl env st .pss = .nx env st := by rw [exec]
@[simp] theorem exec_nev : exec cf gl env st .nev = .no := by rw [exec]
def sqK (ss : Ss) (r : O) : O := match r with
  | .nx env st => execs cf gl env st ss
  | r => r
@[simp] theorem sqK_nx (ss : Ss) : sqK cf gl ss (.nx env st) = execs cf gl env st ss := Eq.trans rfl rfl
@[simp] theorem sqK_rt (ss : Ss) (d : D) : sqK cf gl ss (.rt d st) = .rt d st := Eq.trans rfl rfl
@[simp] theorem sqK_bk (ss : Ss) : sqK cf gl ss (.bk env st) = .bk env st := Eq.trans rfl rfl
@[simp] theorem sqK_ct (ss : Ss) : sqK cf gl ss (.ct env st) = .ct env st := Eq.trans rfl rfl
@[simp] theorem sqK_ex (ss : Ss) (x : Xc) : sqK cf gl ss (.ex x env st) = .ex x env st := Eq.trans rfl rfl
@[simp] theorem execs_nil : execs cf gl env st .nil = .nx env st := by rw [execs]
@[simp] theorem execs_cons (s : S) (ss : Ss) : execs cf gl env st (.cons s ss) = sqK cf gl ss (exec cf gl env st s) := by rw [execs]; rfl
@[simp] theorem setV_lit (i : Nat) (s : Sl) : setV env i s = if i < env.length then some (env.set i s) else none := Eq.trans rfl rfl
end
@[simp] theorem gdsOk_nil (env : Env) (st : St) : gdsOk env st [] = true := Eq.trans rfl rfl
theorem whl_t {c : Env → St → R D} {f : Env → St → O} {n : Nat} {env env' : Env} {st st1 st' : St} (h1 : c env st = .ok (.bl true) st1) (h2 : f env st1 = .nx env' st') : whlLoop c f (n + 1) env st = whlLoop c f n env' st' := by
  rw [whlLoop, h1]
  simp [h2]
theorem whl_r {c : Env → St → R D} {f : Env → St → O} {n : Nat} {env : Env} {st st1 st' : St} {d : D} (h1 : c env st = .ok (.bl true) st1) (h2 : f env st1 = .rt d st') : whlLoop c f (n + 1) env st = .rt d st' := by
  rw [whlLoop, h1]
  simp [h2]
theorem whl_f {c : Env → St → R D} {f : Env → St → O} {n : Nat} {env : Env} {st st1 : St} (h1 : c env st = .ok (.bl false) st1) : whlLoop c f (n + 1) env st = .nx env st1 := by
  rw [whlLoop, h1]
  simp
theorem for_nil {f : D → Env → St → O} {gs : List Gd} {env : Env} {st : St} (hg : gdsOk env st gs = true) : forLoop f gs [] env st = .nx env st := by
  rw [forLoop, if_pos hg]
theorem for_nx {f : D → Env → St → O} {gs : List Gd} {x : D} {xs : List D} {env env' : Env} {st st' : St} (hg : gdsOk env st gs = true) (h : f x env st = .nx env' st') : forLoop f gs (x :: xs) env st = forLoop f gs xs env' st' := by
  rw [forLoop, if_pos hg, h]
theorem for_ct {f : D → Env → St → O} {gs : List Gd} {x : D} {xs : List D} {env env' : Env} {st st' : St} (hg : gdsOk env st gs = true) (h : f x env st = .ct env' st') : forLoop f gs (x :: xs) env st = forLoop f gs xs env' st' := by
  rw [forLoop, if_pos hg, h]
theorem for_rt {f : D → Env → St → O} {gs : List Gd} {x : D} {xs : List D} {env : Env} {st st' : St} {d : D} (hg : gdsOk env st gs = true) (h : f x env st = .rt d st') : forLoop f gs (x :: xs) env st = .rt d st' := by
  rw [forLoop, if_pos hg, h]
theorem lc_nil {f : D → St → R (Option D)} {gs : List Gd} {env : Env} {st : St} (hg : gdsOk env st gs = true) : lcLoop f gs env [] st = .ok [] st := by
  rw [lcLoop, if_pos hg]
theorem lc_some {f : D → St → R (Option D)} {gs : List Gd} {env : Env} {x : D} {xs ys : List D} {y : D} {st st1 st2 : St} (hg : gdsOk env st gs = true) (h : f x st = .ok (some y) st1) (h2 : lcLoop f gs env xs st1 = .ok ys st2) : lcLoop f gs env (x :: xs) st = .ok (y :: ys) st2 := by
  rw [lcLoop, if_pos hg, h, R.bind_ok, h2, R.bind_ok]
theorem lc_none {f : D → St → R (Option D)} {gs : List Gd} {env : Env} {x : D} {xs ys : List D} {st st1 st2 : St} (hg : gdsOk env st gs = true) (h : f x st = .ok none st1) (h2 : lcLoop f gs env xs st1 = .ok ys st2) : lcLoop f gs env (x :: xs) st = .ok ys st2 := by
  rw [lcLoop, if_pos hg, h, R.bind_ok, h2, R.bind_ok]
theorem lc_pure {f : D → St → R (Option D)} {gs : List Gd} {env : Env} (g : D → Option D) {xs : List D} {st : St} (hg : gdsOk env st gs = true) (h : ∀ x ∈ xs, f x st = .ok (g x) st) : lcLoop f gs env xs st = .ok (xs.filterMap g) st := by
  induction xs with
  | nil => exact lc_nil hg
  | cons x xs ih =>
    have h1 := h x (List.mem_cons_self ..)
    have h2 := ih fun y hy => h y (List.mem_cons_of_mem _ hy)
    cases e : g x with
    | none => rw [List.filterMap_cons_none e]; exact lc_none hg (h1.trans (by rw [e])) h2
    | some y => rw [List.filterMap_cons_some e]; exact lc_some hg (h1.trans (by rw [e])) h2
theorem lc_map {f : D → St → R (Option D)} {gs : List Gd} {env : Env} (g : D → D) {xs : List D} {st : St} (hg : gdsOk env st gs = true) (h : ∀ x ∈ xs, f x st = .ok (some (g x)) st) : lcLoop f gs env xs st = .ok (xs.map g) st := by
  rw [lc_pure (fun x => some (g x)) hg h]
  congr 1
  exact List.filterMap_eq_map ▸ rfl
theorem bools_map (p : D → Bool) : ∀ xs : List D, bools (xs.map fun x => .bl (p x)) = some (xs.map p)
  | [] => rfl
  | x :: xs => by simp [bools, bools_map p xs]
theorem all_map (p : D → Bool) (xs : List D) : biD .all [.lst (xs.map fun x => .bl (p x))] = some (.bl (xs.all p)) := by
  simp [biD, one, lstD, bools_map, Function.comp_def]
theorem bools_mapN {α : Type} (p : α → Bool) : ∀ xs : List α, bools (xs.map fun x => .bl (p x)) = some (xs.map p)
  | [] => rfl
  | x :: xs => by simp [bools, bools_mapN p xs]
theorem all_mapN {α : Type} (p : α → Bool) (xs : List α) : biD .all [.lst (xs.map fun x => .bl (p x))] = some (.bl (xs.all p)) := by
  simp [biD, one, lstD, bools_mapN, Function.comp_def]
/-- a loop that tells a bool as soon as something is not so -/
theorem for_chk {f : D → Env → St → O} {gs : List Gd} (I : Env → Prop) (p : D → Bool) (d : D) : ∀ {xs : List D} {env : Env} {st : St}, (∀ env, I env → gdsOk env st gs = true) →
    (∀ x ∈ xs, ∀ env, I env → if p x then ∃ env', I env' ∧ f x env st = .nx env' st else f x env st = .rt d st) → I env →
    if xs.all p then ∃ env', I env' ∧ forLoop f gs xs env st = .nx env' st else forLoop f gs xs env st = .rt d st
  | [], env, st, hg, h, i => by simpa using ⟨env, i, for_nil (hg env i)⟩
  | x :: xs, env, st, hg, h, i => by
    have h1 := h x (List.mem_cons_self ..) env i
    by_cases hp : p x = true
    · rw [if_pos hp] at h1
      obtain ⟨env', i', e⟩ := h1
      have ih := for_chk I p d hg (fun y hy => h y (List.mem_cons_of_mem _ hy)) i'
      rw [List.all_cons, hp, Bool.true_and, for_nx (hg env i) e]
      exact ih
    · rw [if_neg hp] at h1
      have hpf : p x = false := by simpa using hp
      rw [List.all_cons, hpf, Bool.false_and, for_rt (hg env i) h1]
      simp
end Ev

set_option Elab.async false
set_option linter.all false
set_option maxRecDepth 100000
/-! The engine for the newer forms: dicts of nested keys, min, zip of a list and a tuple, moved lists. -/
namespace Ev
open PySem
section
variable (cf : Cf) (gl : Nat → Option D) (env : Env) (st st1 st2 st3 : St)
def dnR (x y : D) (st2 : St) : R D := match tkey x with
  | some _ => .ok (.ref st2.length) (st2 ++ [.dcn [(x, y)]])
  | none => .no
theorem dnR_ok {x : D} {k : NestedKey} (y : D) (st2 : St) (h : tkey x = some k) : dnR x y st2 = .ok (.ref st2.length) (st2 ++ [.dcn [(x, y)]]) := by unfold dnR; rw [h]
def dnK2 (u : D) (r : R D) : R D := r.bind fun x st1 => dnR u x st1
@[simp] theorem dnK2_ok (u x : D) : dnK2 u (.ok x st1) = dnR u x st1 := Eq.trans rfl rfl
def dnK (v : E) (r : R D) : R D := r.bind fun x st1 => dnK2 x (ev cf gl env st1 v)
@[simp] theorem dnK_ok (v : E) (x : D) : dnK cf gl env v (.ok x st1) = dnK2 x (ev cf gl env st1 v) := Eq.trans rfl rfl
@[simp] theorem ev_dnN (k v : E) : ev cf gl env st (.dnN k v) = dnK cf gl env v (ev cf gl env st k) := by rw [ev]; rfl
def dgR (x y : D) (st2 : St) : R D := match dnAt st2 x, tkey y with
  | some p, some k => R.of (getN p.2 k) st2
  | _, _ => .no
theorem dgR_ok {x y v : D} {st2 : St} {p : Nat × List (D × D)} {k : NestedKey} (h1 : dnAt st2 x = some p) (h2 : tkey y = some k) (h3 : getN p.2 k = some v) : dgR x y st2 = .ok v st2 := by unfold dgR; rw [h1, h2]; simp [h3]
def dgK2 (u : D) (r : R D) : R D := r.bind fun x st1 => dgR u x st1
@[simp] theorem dgK2_ok (u x : D) : dgK2 u (.ok x st1) = dgR u x st1 := Eq.trans rfl rfl
def dgK (i : E) (r : R D) : R D := r.bind fun x st1 => dgK2 x (ev cf gl env st1 i)
@[simp] theorem dgK_ok (i : E) (x : D) : dgK cf gl env i (.ok x st1) = dgK2 x (ev cf gl env st1 i) := Eq.trans rfl rfl
@[simp] theorem ev_dgt (d i : E) : ev cf gl env st (.dgt d i) = dgK cf gl env i (ev cf gl env st d) := by rw [ev]; rfl
def diR (neg : Bool) (y x : D) (st2 : St) : R D := match dnAt st2 x, tkey y with
  | some p, some k => .ok (.bl (Bool.xor neg (hasN p.2 k))) st2
  | _, _ => .no
theorem diR_ok {x y : D} {st2 : St} {p : Nat × List (D × D)} {k : NestedKey} (neg : Bool) (h1 : dnAt st2 x = some p) (h2 : tkey y = some k) : diR neg y x st2 = .ok (.bl (Bool.xor neg (hasN p.2 k))) st2 := by unfold diR; rw [h1, h2]
def diK2 (neg : Bool) (u : D) (r : R D) : R D := r.bind fun x st1 => diR neg u x st1
@[simp] theorem diK2_ok (neg : Bool) (u x : D) : diK2 neg u (.ok x st1) = diR neg u x st1 := Eq.trans rfl rfl
def diK (neg : Bool) (d : E) (r : R D) : R D := r.bind fun x st1 => diK2 neg x (ev cf gl env st1 d)
@[simp] theorem diK_ok (neg : Bool) (d : E) (x : D) : diK cf gl env neg d (.ok x st1) = diK2 neg x (ev cf gl env st1 d) := Eq.trans rfl rfl
@[simp] theorem ev_din (neg : Bool) (i d : E) : ev cf gl env st (.din neg i d) = diK cf gl env neg d (ev cf gl env st i) := by rw [ev]; rfl
def dkR (x : D) (st1 : St) : R (List D × List Gd) := match dnAt st1 x with
  | some p => .ok (p.2.map (·.1), [.dcl p.1 p.2]) st1
  | none => .no
theorem dkR_ok {x : D} {st1 : St} {p : Nat × List (D × D)} (h : dnAt st1 x = some p) : dkR x st1 = .ok (p.2.map (·.1), [.dcl p.1 p.2]) st1 := by unfold dkR; rw [h]
def dkK (r : R D) : R (List D × List Gd) := r.bind fun x st1 => dkR x st1
@[simp] theorem dkK_ok (x : D) : dkK (.ok x st1) = dkR x st1 := Eq.trans rfl rfl
@[simp] theorem evIt_dk (a : E) : evIt cf gl env st (.dk a) = dkK (ev cf gl env st a) := by rw [evIt]; rfl
def ditR (x : D) (st1 : St) : R (List D × List Gd) := match dnAt st1 x with
  | some p => .ok (p.2.map (fun q => .tup [q.1, q.2]), [.dcl p.1 p.2]) st1
  | none => .no
theorem ditR_ok {x : D} {st1 : St} {p : Nat × List (D × D)} (h : dnAt st1 x = some p) : ditR x st1 = .ok (p.2.map (fun q => .tup [q.1, q.2]), [.dcl p.1 p.2]) st1 := by unfold ditR; rw [h]
def ditK (r : R D) : R (List D × List Gd) := r.bind fun x st1 => ditR x st1
@[simp] theorem ditK_ok (x : D) : ditK (.ok x st1) = ditR x st1 := Eq.trans rfl rfl
@[simp] theorem evIt_dit (a : E) : evIt cf gl env st (.dit a) = ditK (ev cf gl env st a) := by rw [evIt]; rfl
def zmR (a b : E) (x y : D) (st2 : St) : R (List D × List Gd) := if isTup x || !isTup y then .no else match seqOf st2 x, seqOf st2 y with
  | some p, some q => .ok (List.zipWith (fun u v => .tup [u, v]) p.1 q.1, p.2 ++ guardOf a x ++ (q.2 ++ guardOf b y)) st2
  | _, _ => .no
theorem zmR_ok (a b : E) (xs ys : List D) (ha : guardOf a (.lst xs) = []) : zmR a b (.lst xs) (.tup ys) st = .ok (List.zipWith (fun u v => .tup [u, v]) xs ys, []) st := by
  have hb : guardOf b (.tup ys) = [] := by cases b <;> rfl
  simp [zmR, isTup, seqOf, ha, hb]
def zmK2 (a b : E) (u : D) (r : R D) : R (List D × List Gd) := r.bind fun x st1 => zmR a b u x st1
@[simp] theorem zmK2_ok (a b : E) (u x : D) : zmK2 a b u (.ok x st1) = zmR a b u x st1 := Eq.trans rfl rfl
def zmK (a b : E) (r : R D) : R (List D × List Gd) := r.bind fun x st1 => zmK2 a b x (ev cf gl env st1 b)
@[simp] theorem zmK_ok (a b : E) (x : D) : zmK cf gl env a b (.ok x st1) = zmK2 a b x (ev cf gl env st1 b) := Eq.trans rfl rfl
@[simp] theorem evIt_zpm (a b : E) : evIt cf gl env st (.zpm a b) = zmK cf gl env a b (ev cf gl env st a) := by rw [evIt]; rfl
def movB (i j : Nat) (o : Option Sl) : O := match o with
  | some (.ow xs) => if i = j then .no else nxO (setV (env.set j .no) i (.va (.lst xs))) st
  | _ => .no
@[simp] theorem movB_ow (i j : Nat) (xs : List D) : movB env st i j (some (.ow xs)) = if i = j then .no else nxO (setV (env.set j .no) i (.va (.lst xs))) st := Eq.trans rfl rfl
@[simp] theorem exec_mov (i j : Nat) : exec cf gl env st (.mov i j) = movB env st i j env[j]? := by
  rw [exec]; unfold movB nxO; rfl
def dsR (x y d : D) (st2 : St) : O := match dnAt st2 x, tkey y with
  | some p, some k => if p.2.length < sizeLine then .nx env (st2.set p.1 (.dcn (putN p.2 k y d))) else .no
  | _, _ => .no
theorem dsR_ok {x y : D} {st2 : St} {p : Nat × List (D × D)} {k : NestedKey} (d : D) (h1 : dnAt st2 x = some p) (h2 : tkey y = some k) (h3 : p.2.length < sizeLine) : dsR env x y d st2 = .nx env (st2.set p.1 (.dcn (putN p.2 k y d))) := by unfold dsR; rw [h1, h2]; simp [h3]
def dsK2 (x d : D) (r : R D) : O := r.o env fun y st2 => dsR env x y d st2
@[simp] theorem dsK2_ok (x y d : D) : dsK2 env x d (.ok y st1) = dsR env x y d st1 := Eq.trans rfl rfl
def dsK (i : E) (d : D) (r : R D) : O := r.o env fun x st1 => dsK2 env x d (ev cf gl env st1 i)
@[simp] theorem dsK_ok (i : E) (x d : D) : dsK cf gl env i d (.ok x st1) = dsK2 env x d (ev cf gl env st1 i) := Eq.trans rfl rfl
@[simp] theorem asgT_dsub (a i : E) (d : D) : asgT cf gl env st (.dsub a i) d = dsK cf gl env i d (ev cf gl env st a) := by rw [asgT]; rfl
@[simp] theorem biArg_min1 (d : D) : biArg .min1 st d = vwS st d := Eq.trans rfl rfl
@[simp] theorem biD_min1 (xs : List D) : biD .min1 [.lst xs] = minD1 xs := Eq.trans rfl rfl
@[simp] theorem biArg_sum' (d : D) : biArg .sum st d = vwS st d := Eq.trans rfl rfl
end
end Ev

set_option Elab.async false
set_option linter.all false
set_option maxRecDepth 100000
/-! How plain values are shown tells them apart. -/
namespace Ev
open PySem
/-- a plain sign: shown as it is -/
def plC (c : Nat) : Bool := decide (32 ≤ c) && decide (c < 127) && decide (c ≠ 39) && decide (c ≠ 92)
mutual
def plD : D → Bool
  | .non => true
  | .bl _ => true
  | .int _ => true
  | .str x => x.all plC
  | .tup xs => plDs xs
  | .lst xs => plDs xs
  | .ref _ => false
  | .scr _ => false
def plDs : List D → Bool
  | [] => true
  | x :: xs => plD x && plDs xs
end
theorem plDs_iff : ∀ {xs : List D}, plDs xs = true ↔ ∀ x ∈ xs, plD x = true
  | [] => by simp [plDs]
  | x :: xs => by simp [plDs, plDs_iff (xs := xs)]
theorem printable : ∀ c, c < 127 → 32 ≤ c → Unicode.isPrintable c = true := by decide +kernel
theorem plC_char {c : Nat} (h : plC c = true) : Builtin.Str.reprChar 39 c = [c] := by
  simp only [plC, Bool.and_eq_true, decide_eq_true_iff] at h
  obtain ⟨⟨⟨h1, h2⟩, h3⟩, h4⟩ := h
  unfold Builtin.Str.reprChar
  have e1 : (c == 39 || c == 92) = false := by simp [h3, h4]
  have e2 : (c == 10) = false := by simp; omega
  have e3 : (c == 13) = false := by simp; omega
  have e4 : (c == 9) = false := by simp; omega
  simp only [e1, e2, e3, e4, printable c h2 h1, Bool.false_eq_true, if_false, if_true]
theorem plC_fold : ∀ (l : List Nat) (acc : Array Nat), (∀ c ∈ l, plC c = true) → (l.foldl (fun out c => out ++ (Builtin.Str.reprChar 39 c).toArray) acc).toList = acc.toList ++ l
  | [], acc, _ => by simp
  | c :: l, acc, h => by
    rw [List.foldl_cons, plC_char (h c (List.mem_cons_self ..)), plC_fold l _ fun d hd => h d (List.mem_cons_of_mem _ hd)]
    simp
theorem plC_text {x : List Nat} (h : x.all plC = true) : (reprText (toS x)).cps.toList = 39 :: (x ++ [39]) := by
  have h : ∀ c ∈ x, plC c = true := List.all_eq_true.mp h
  have hq : reprQuote (toS x) = 39 := by
    unfold reprQuote
    have : (toS x).cps.contains 39 = false := by
      rw [← Array.contains_toList]
      simp only [toS]
      rw [List.contains_eq_mem]
      simp only [decide_eq_false_iff_not]
      intro hc
      have := h 39 hc
      simp [plC] at this
    rw [this]; rfl
  unfold reprText
  rw [hq]
  simp only [Array.toList_push]
  rw [← Array.foldl_toList, plC_fold _ _ (by simpa [toS] using h)]
  simp [toS]
def intT (i : Int) : List Nat := (toString i).toList.map Char.toNat
mutual
/-- how a value is shown, as signs -/
def sw : D → List Nat
  | .non => [78, 111, 110, 101]
  | .bl b => if b = true then [84, 114, 117, 101] else [70, 97, 108, 115, 101]
  | .int i => intT i
  | .str x => 39 :: (x ++ [39])
  | .tup xs => match xs with
    | [] => [40, 41]
    | x :: r => 40 :: (sw x ++ (sws r ++ (if r.isEmpty = true then [44, 41] else [41])))
  | .lst xs => match xs with
    | [] => [91, 93]
    | x :: r => 91 :: (sw x ++ (sws r ++ [93]))
  | .ref _ => []
  | .scr _ => []
/-- those behind the first -/
def sws : List D → List Nat
  | [] => []
  | x :: r => 44 :: 32 :: (sw x ++ sws r)
end
theorem ap_cps (a b : Str) : (a ++ b).cps.toList = a.cps.toList ++ b.cps.toList := by
  show (a.cps ++ b.cps).toList = _
  simp
theorem of_cps (s : String) : (Str.ofString s).cps.toList = s.toList.map Char.toNat := by
  rw [Str.ofString_eq_toList]
theorem join_cps : ∀ (x : Str) (ts : List Str), (Str.join ", " (x :: ts)).cps.toList = x.cps.toList ++ (ts.map fun t => 44 :: 32 :: t.cps.toList).flatten
  | x, [] => by simp [Str.join]
  | x, y :: r => by
    have e : Str.join ", " (x :: y :: r) = x ++ ", " ++ Str.join ", " (y :: r) := rfl
    rw [e, ap_cps, ap_cps, join_cps y r]
    have : ((", " : Str)).cps.toList = [44, 32] := by decide +kernel
    rw [this]
    simp
mutual
theorem shw_sw : ∀ v : D, plD v = true → shw v = sw v
  | .non, _ => by decide +kernel
  | .bl b, _ => by cases b <;> decide +kernel
  | .int i, _ => by
    simp only [shw, D.py, PyData.shown, sw, intT]
    exact of_cps _
  | .str x, h => by
    simp only [shw, D.py, PyData.shown, sw]
    exact plC_text (by simpa [plD] using h)
  | .tup xs, h => by
    simp only [plD] at h
    cases xs with
    | nil => decide +kernel
    | cons x r =>
      simp only [plDs, Bool.and_eq_true] at h
      have i1 := shw_sw x h.1
      have i2 := shws_sws r h.2
      simp only [shw, D.py, D.pys, PyData.shown_tuple, PyData.shownAll_cons, ap_cps, join_cps, sw] at i1 ⊢
      rw [i1, i2]
      have e1 : ((("(" : String) : Str)).cps.toList = [40] := by decide +kernel
      rw [e1]
      cases r with
      | nil =>
        have e2 : ((((",)" : String)) : Str)).cps.toList = [44, 41] := by decide +kernel
        simp [D.pys, sws, e2]
      | cons y r =>
        have e2 : (((((")" : String))) : Str)).cps.toList = [41] := by decide +kernel
        simp [D.pys, e2]
  | .lst xs, h => by
    simp only [plD] at h
    cases xs with
    | nil => decide +kernel
    | cons x r =>
      simp only [plDs, Bool.and_eq_true] at h
      have i1 := shw_sw x h.1
      have i2 := shws_sws r h.2
      simp only [shw, D.py, D.pys, PyData.shown_list, PyData.shownAll_cons, ap_cps, join_cps, sw] at i1 ⊢
      rw [i1, i2]
      have e1 : ((("[" : String) : Str)).cps.toList = [91] := by decide +kernel
      have e2 : ((("]" : String) : Str)).cps.toList = [93] := by decide +kernel
      rw [e1, e2]
      simp
  | .ref _, h => by simp [plD] at h
  | .scr _, h => by simp [plD] at h
theorem shws_sws : ∀ xs : List D, plDs xs = true → ((PyData.shownAll (D.pys xs)).map fun t => 44 :: 32 :: t.cps.toList).flatten = sws xs
  | [], _ => rfl
  | x :: r, h => by
    simp only [plDs, Bool.and_eq_true] at h
    have i1 := shw_sw x h.1
    have i2 := shws_sws r h.2
    simp only [shw] at i1
    simp only [D.pys, PyData.shownAll_cons, List.map_cons, List.flatten_cons, i1, i2, sws]
    simp
end
/-- what stands behind a shown value -/
def stop (s : List Nat) : Prop := s = [] ∨ ∃ c t, s = c :: t ∧ (c = 44 ∨ c = 41 ∨ c = 93)
def dg (c : Nat) : Prop := c = 45 ∨ (48 ≤ c ∧ c ≤ 57)
theorem intT_dg (i : Int) : ∀ c ∈ intT i, dg c := by
  intro c hc
  obtain ⟨ch, h, rfl⟩ := List.mem_map.mp hc
  rcases PyProof.Rows.int_sign i ch h with h | h
  · exact .inr (PyProof.Rows.digit_range h)
  · subst h; exact .inl rfl
theorem map_inj {α β : Type} {f : α → β} (h : ∀ a b, f a = f b → a = b) : ∀ {xs ys : List α}, xs.map f = ys.map f → xs = ys
  | [], [], _ => rfl
  | [], _ :: _, e => by cases e
  | _ :: _, [], e => by cases e
  | x :: xs, y :: ys, e => by
    simp only [List.map_cons, List.cons.injEq] at e
    rw [h x y e.1, map_inj h e.2]
theorem intT_inj {i j : Int} (h : intT i = intT j) : i = j := by
  have h1 : (toString i).toList = (toString j).toList := map_inj (fun a b e => Char.toNat_inj.mp e) h
  have h2 : toString i = toString j := String.toList_inj.mp h1
  exact Int.repr_injective h2
theorem dg_stop {c : Nat} (h : dg c) : ¬ (c = 44 ∨ c = 41 ∨ c = 93) := by
  unfold dg at h
  omega
/-- digits end where they end -/
theorem dg_cut : ∀ {a b s t : List Nat}, (∀ c ∈ a, dg c) → (∀ c ∈ b, dg c) → stop s → stop t → a ++ s = b ++ t → a = b ∧ s = t
  | [], [], s, t, _, _, _, _, h => ⟨rfl, h⟩
  | [], c :: b, s, t, _, hb, hs, _, h => by
    rcases hs with rfl | ⟨d, u, rfl, hd⟩
    · cases h
    · simp only [List.nil_append, List.cons_append, List.cons.injEq] at h
      exact absurd (h.1 ▸ hd) (dg_stop (hb c (List.mem_cons_self ..)))
  | c :: a, [], s, t, ha, _, _, ht, h => by
    rcases ht with rfl | ⟨d, u, rfl, hd⟩
    · cases h
    · simp only [List.nil_append, List.cons_append, List.cons.injEq] at h
      exact absurd (h.1 ▸ hd) (dg_stop (ha c (List.mem_cons_self ..)))
  | c :: a, d :: b, s, t, ha, hb, hs, ht, h => by
    simp only [List.cons_append, List.cons.injEq] at h
    obtain ⟨h1, h2⟩ := dg_cut (fun x hx => ha x (List.mem_cons_of_mem _ hx)) (fun x hx => hb x (List.mem_cons_of_mem _ hx)) hs ht h.2
    exact ⟨by rw [h.1, h1], h2⟩
theorem qu_cut : ∀ {a b s t : List Nat}, 39 ∉ a → 39 ∉ b → a ++ 39 :: s = b ++ 39 :: t → a = b ∧ s = t
  | [], [], s, t, _, _, h => ⟨rfl, by simpa using h⟩
  | [], c :: b, s, t, _, hb, h => by
    simp only [List.nil_append, List.cons_append, List.cons.injEq] at h
    exact absurd (List.mem_cons.mpr (.inl h.1)) hb
  | c :: a, [], s, t, ha, _, h => by
    simp only [List.nil_append, List.cons_append, List.cons.injEq] at h
    exact absurd (List.mem_cons.mpr (.inl h.1.symm)) ha
  | c :: a, d :: b, s, t, ha, hb, h => by
    simp only [List.cons_append, List.cons.injEq] at h
    obtain ⟨h1, h2⟩ := qu_cut (fun q => ha (List.mem_cons_of_mem _ q)) (fun q => hb (List.mem_cons_of_mem _ q)) h.2
    exact ⟨by rw [h.1, h1], h2⟩
theorem pl_quo {x : List Nat} (h : x.all plC = true) : 39 ∉ x := fun hc => by
  have := List.all_eq_true.mp h 39 hc
  simp [plC] at this
/-- a value's first sign -/
inductive Hd : D → Nat → Prop where
  | non : Hd .non 78
  | blt : Hd (.bl true) 84
  | blf : Hd (.bl false) 70
  | int (i : Int) (c : Nat) (h : dg c) : Hd (.int i) c
  | str (x : List Nat) : Hd (.str x) 39
  | tup (xs : List D) : Hd (.tup xs) 40
  | lst (xs : List D) : Hd (.lst xs) 91
theorem intT_ne (i : Int) : intT i ≠ [] := by
  intro h
  have h1 : (toString i).toList = [] := List.map_eq_nil_iff.mp h
  have := intT_inj (i := i) (j := i) rfl
  have e : toString i = "" := String.toList_inj.mp (h1.trans rfl)
  have : intT i = intT i := rfl
  cases i with
  | ofNat n =>
    have : (Nat.repr n) = "" := e
    have := congrArg String.length this
    revert this
    rw [Nat.repr]
    intro this
    have l := Nat.length_toDigits_pos (b := 10) (n := n)
    simp at this
  | negSucc n =>
    have : ("-" ++ Nat.repr (n + 1)) = "" := e
    have := congrArg String.length this
    simp at this
theorem sw_hd : ∀ v : D, plD v = true → ∃ c t, sw v = c :: t ∧ Hd v c
  | .non, _ => ⟨_, _, rfl, .non⟩
  | .bl true, _ => ⟨_, _, rfl, .blt⟩
  | .bl false, _ => ⟨_, _, rfl, .blf⟩
  | .int i, _ => by
    cases h : intT i with
    | nil => exact absurd h (intT_ne i)
    | cons c t => exact ⟨c, t, h, .int i c (intT_dg i c (by rw [h]; exact List.mem_cons_self ..))⟩
  | .str x, _ => ⟨_, _, rfl, .str x⟩
  | .tup [], _ => ⟨_, _, rfl, .tup _⟩
  | .tup (_ :: _), _ => ⟨_, _, rfl, .tup _⟩
  | .lst [], _ => ⟨_, _, rfl, .lst _⟩
  | .lst (_ :: _), _ => ⟨_, _, rfl, .lst _⟩
  | .ref _, h => by simp [plD] at h
  | .scr _, h => by simp [plD] at h
theorem Hd.stop {v : D} {c : Nat} (h : Hd v c) : ¬ (c = 44 ∨ c = 41 ∨ c = 93) := by
  cases h <;> first | omega | (rename_i h; exact dg_stop h)
mutual
/-- where a shown value ends, and which it is -/
theorem sw_cut : ∀ (v w : D) (s t : List Nat), plD v = true → plD w = true → Ev.stop s → Ev.stop t → sw v ++ s = sw w ++ t → v = w ∧ s = t
  | .non, w, s, t, hv, hw, hs, ht, h => by
    obtain ⟨c, u, e, q⟩ := sw_hd w hw
    have hc : 78 = c := by rw [e] at h; simp only [sw, List.cons_append, List.cons.injEq] at h; exact h.1
    subst hc
    cases q with
    | non => simp only [sw, List.cons_append, List.nil_append, List.cons.injEq, true_and] at h; exact ⟨rfl, h⟩
    | int i _ q => simp [dg] at q
  | .bl true, w, s, t, hv, hw, hs, ht, h => by
    obtain ⟨c, u, e, q⟩ := sw_hd w hw
    have hc : 84 = c := by rw [e] at h; simp only [sw, if_true, List.cons_append, List.cons.injEq] at h; exact h.1
    subst hc
    cases q with
    | blt => simp only [sw, if_true, List.cons_append, List.nil_append, List.cons.injEq, true_and] at h; exact ⟨rfl, h⟩
    | int i _ q => simp [dg] at q
  | .bl false, w, s, t, hv, hw, hs, ht, h => by
    obtain ⟨c, u, e, q⟩ := sw_hd w hw
    have hc : 70 = c := by rw [e] at h; simp only [sw, Bool.false_eq_true, if_false, List.cons_append, List.cons.injEq] at h; exact h.1
    subst hc
    cases q with
    | blf => simp only [sw, Bool.false_eq_true, if_false, List.cons_append, List.nil_append, List.cons.injEq, true_and] at h; exact ⟨rfl, h⟩
    | int i _ q => simp [dg] at q
  | .int i, w, s, t, hv, hw, hs, ht, h => by
    obtain ⟨c, u, e, q⟩ := sw_hd w hw
    have hc : dg c := by
      cases hi : intT i with
      | nil => exact absurd hi (intT_ne i)
      | cons d r =>
        rw [e] at h
        simp only [sw, hi, List.cons_append, List.cons.injEq] at h
        rw [← h.1]
        exact intT_dg i d (by rw [hi]; exact List.mem_cons_self ..)
    cases q with
    | int j _ q =>
      simp only [sw] at h
      obtain ⟨h1, h2⟩ := dg_cut (intT_dg i) (intT_dg j) hs ht h
      exact ⟨by rw [intT_inj h1], h2⟩
    | _ => simp [dg] at hc
  | .str x, w, s, t, hv, hw, hs, ht, h => by
    obtain ⟨c, u, e, q⟩ := sw_hd w hw
    have hc : 39 = c := by rw [e] at h; simp only [sw, List.cons_append, List.cons.injEq] at h; exact h.1
    subst hc
    cases q with
    | str y =>
      simp only [sw, List.cons_append, List.append_assoc, List.nil_append, List.cons.injEq, true_and] at h
      obtain ⟨h1, h2⟩ := qu_cut (pl_quo (by simpa [plD] using hv)) (pl_quo (by simpa [plD] using hw)) h
      exact ⟨by rw [h1], h2⟩
    | int i _ q => simp [dg] at q
  | .tup xs, w, s, t, hv, hw, hs, ht, h => by
    obtain ⟨c, u, e, q⟩ := sw_hd w hw
    have hc : 40 = c := by
      rw [e] at h
      cases xs <;> simp only [sw, List.cons_append, List.cons.injEq] at h <;> exact h.1
    subst hc
    cases q with
    | int i _ q => simp [dg] at q
    | tup ys =>
      clear e
      simp only [plD] at hv hw
      match xs, ys, hv, hw, h with
      | [], [], _, _, h =>
        simp only [sw, List.cons_append, List.nil_append, List.cons.injEq, true_and] at h
        exact ⟨rfl, h⟩
      | [], y :: ys, _, hw, h =>
        simp only [plDs, Bool.and_eq_true] at hw
        obtain ⟨d, r, e, q⟩ := sw_hd y hw.1
        simp only [sw, e, List.cons_append, List.cons.injEq, true_and] at h
        exact absurd (.inr (.inl h.1.symm)) q.stop
      | x :: xs, [], hv, _, h =>
        simp only [plDs, Bool.and_eq_true] at hv
        obtain ⟨d, r, e, q⟩ := sw_hd x hv.1
        simp only [sw, e, List.cons_append, List.cons.injEq, true_and] at h
        exact absurd (.inr (.inl h.1)) q.stop
      | x :: xs, y :: ys, hv, hw, h =>
        simp only [plDs, Bool.and_eq_true] at hv hw
        simp only [sw, List.cons_append, List.append_assoc, List.cons.injEq, true_and] at h
        have st1 : ∀ (zs : List D) (r : List Nat), Ev.stop (sws zs ++ ((if zs.isEmpty = true then [44, 41] else [41]) ++ r)) := fun zs r => by
          cases zs with
          | nil => exact .inr ⟨44, _, rfl, .inl rfl⟩
          | cons z zs => exact .inr ⟨44, _, by (simp only [sws, List.cons_append]; rfl), .inl rfl⟩
        obtain ⟨h1, h2⟩ := sw_cut x y _ _ hv.1 hw.1 (st1 xs s) (st1 ys t) h
        subst h1
        cases xs with
        | nil =>
          cases ys with
          | nil => simp [sws] at h2; exact ⟨rfl, h2⟩
          | cons z zs => simp [sws] at h2
        | cons a xs =>
          cases ys with
          | nil => simp [sws] at h2
          | cons z zs =>
            simp only [List.isEmpty_cons, Bool.false_eq_true, if_false, List.cons_append, List.nil_append] at h2
            obtain ⟨g1, g2⟩ := sws_cut (a :: xs) (z :: zs) 41 s t hv.2 hw.2 (.inl rfl) h2
            exact ⟨by rw [g1], g2⟩
  | .lst xs, w, s, t, hv, hw, hs, ht, h => by
    obtain ⟨c, u, e, q⟩ := sw_hd w hw
    have hc : 91 = c := by
      rw [e] at h
      cases xs <;> simp only [sw, List.cons_append, List.cons.injEq] at h <;> exact h.1
    subst hc
    cases q with
    | int i _ q => simp [dg] at q
    | lst ys =>
      clear e
      simp only [plD] at hv hw
      match xs, ys, hv, hw, h with
      | [], [], _, _, h =>
        simp only [sw, List.cons_append, List.nil_append, List.cons.injEq, true_and] at h
        exact ⟨rfl, h⟩
      | [], y :: ys, _, hw, h =>
        simp only [plDs, Bool.and_eq_true] at hw
        obtain ⟨d, r, e, q⟩ := sw_hd y hw.1
        simp only [sw, e, List.cons_append, List.cons.injEq, true_and] at h
        exact absurd (.inr (.inr h.1.symm)) q.stop
      | x :: xs, [], hv, _, h =>
        simp only [plDs, Bool.and_eq_true] at hv
        obtain ⟨d, r, e, q⟩ := sw_hd x hv.1
        simp only [sw, e, List.cons_append, List.cons.injEq, true_and] at h
        exact absurd (.inr (.inr h.1)) q.stop
      | x :: xs, y :: ys, hv, hw, h =>
        simp only [plDs, Bool.and_eq_true] at hv hw
        simp only [sw, List.cons_append, List.append_assoc, List.nil_append, List.cons.injEq, true_and] at h
        have st1 : ∀ (zs : List D) (r : List Nat), Ev.stop (sws zs ++ 93 :: r) := fun zs r => by
          cases zs with
          | nil => exact .inr ⟨93, _, rfl, .inr (.inr rfl)⟩
          | cons z zs => exact .inr ⟨44, _, by (simp only [sws, List.cons_append]; rfl), .inl rfl⟩
        obtain ⟨h1, h2⟩ := sw_cut x y _ _ hv.1 hw.1 (st1 xs s) (st1 ys t) h
        obtain ⟨g1, g2⟩ := sws_cut xs ys 93 s t hv.2 hw.2 (.inr rfl) h2
        exact ⟨by rw [h1, g1], g2⟩
  | .ref _, _, _, _, hv, _, _, _, _ => by simp [plD] at hv
  | .scr _, _, _, _, hv, _, _, _, _ => by simp [plD] at hv
theorem sws_cut : ∀ (xs ys : List D) (c : Nat) (s t : List Nat), plDs xs = true → plDs ys = true → (c = 41 ∨ c = 93) → sws xs ++ c :: s = sws ys ++ c :: t → xs = ys ∧ s = t
  | [], [], c, s, t, _, _, _, h => by simp [sws] at h; exact ⟨rfl, h⟩
  | [], y :: ys, c, s, t, _, _, hc, h => by simp [sws] at h; omega
  | x :: xs, [], c, s, t, _, _, hc, h => by simp [sws] at h; omega
  | x :: xs, y :: ys, c, s, t, hv, hw, hc, h => by
    simp only [plDs, Bool.and_eq_true] at hv hw
    simp only [sws, List.cons_append, List.append_assoc, List.cons.injEq, true_and] at h
    have st1 : ∀ (zs : List D) (r : List Nat), Ev.stop (sws zs ++ c :: r) := fun zs r => by
      cases zs with
      | nil => exact .inr ⟨c, _, rfl, .inr hc⟩
      | cons z zs => exact .inr ⟨44, _, by (simp only [sws, List.cons_append]; rfl), .inl rfl⟩
    obtain ⟨h1, h2⟩ := sw_cut x y _ _ hv.1 hw.1 (st1 xs s) (st1 ys t) h
    obtain ⟨g1, g2⟩ := sws_cut xs ys c s t hv.2 hw.2 hc h2
    exact ⟨by rw [h1, g1], g2⟩
end
/-- plain values that are shown alike are the same -/
theorem shw_inj {v w : D} (hv : plD v = true) (hw : plD w = true) (h : shw v = shw w) : v = w := by
  rw [shw_sw v hv, shw_sw w hw] at h
  exact (sw_cut v w [] [] hv hw (.inl rfl) (.inl rfl) (by simpa using h)).1
end Ev

set_option Elab.async false
set_option linter.all false
set_option maxRecDepth 100000
/-! The trees of the law. Written by gen.py. -/
namespace K73
open PySem Ev
def fnL : List Str := (["is_integer", "is_count", "want_at_most", "is_name", "is_built", "is_kind_of", "is_leaf", "width_of", "paths_of", "at_path_of", "put_at_path", "pair_of", "from_of", "want_kind", "is_path_of", "is_pair", "is_from", "forth_kind", "back_kind", "led_kind", "contrary", "told_of", "moved_of", "undone_of", "is_move_of", "moves_of", "moves", "kinds_by", "is_row_of", "row_undone_of", "near_moves_of", "rows_within", "meeting_row", "shortest_row", "want_within", "want_narrow", "want_both", "near_paper", "is_near_paper", "_law_pot", "_law_draw", "_law_pick", "_law_kind", "_law_small", "_law_width", "_law_names", "_law_shape", "_law_turned", "_law_deep", "_law_is_fit", "_law_forth", "_law_back", "_law_paths", "_law_at", "_law_put", "_law_moved", "_law_near", "_law_ball", "_law_distance", "_law_bent", "_law_is_row", "_law_is_paper", "law"] : List String).map Str.ofString
def psL : List (List Str) := ([["value"], ["value"], ["what", "limit", "number"], ["value"], ["value", "deep"], ["value"], ["kind"], ["kind"], ["kind"], ["kind", "path"], ["kind", "path", "other"], ["one", "other"], ["source", "target"], ["value"], ["kind", "value"], ["kind"], ["kind"], ["word", "kind"], ["word", "kind", "told"], ["word", "direction", "kind", "told"], ["direction"], ["move"], ["kind", "move"], ["kind", "move"], ["kind", "value"], ["kind"], ["kind"], ["kind", "row"], ["kind", "value"], ["kind", "row"], ["kind"], ["kind", "radius"], ["kind", "other", "near", "far"], ["kind", "other", "most"], ["value", "most"], ["kind"], ["kind", "other", "most"], ["kind", "other_kind", "most"], ["kind", "other_kind", "most", "value"], ["script", "k"], ["pot", "many"], ["pot", "some"], ["pot", "names", "deep"], ["pot", "names", "deep", "most"], ["kind"], ["kind"], ["kind"], ["pot", "kind"], ["kind"], ["kind"], ["word", "kind"], ["word", "kind"], ["kind"], ["kind", "path"], ["kind", "path", "late"], ["kind", "move"], ["kind"], ["kind", "radius"], ["kind", "other", "most"], ["pot", "value"], ["kind", "row", "other"], ["kind", "other", "due", "value"], ["script"]] : List (List String)).map (·.map Str.ofString)
def glL : List (Str × D) := [("LETTERS", .str [97, 98, 99, 100, 101, 102, 103, 104, 105, 106, 107, 108, 109, 110, 111, 112, 113, 114, 115, 116, 117, 118, 119, 120, 121, 122]), ("MOST_LETTERS", .int 8), ("FROM", .str [102, 114, 111, 109]), ("PAIR", .str [112, 97, 105, 114]), ("NOTHING", .str [110, 111, 116, 104, 105, 110, 103]), ("ATOM", .str [97, 116, 111, 109]), ("MOST_WIDTH_kinds", .int 12), ("MOST_DEPTH", .int 6), ("EMPTY", .tup [.str [110, 111, 116, 104, 105, 110, 103]]), ("SOLE", .str [115, 111, 108, 101]), ("SPLIT", .str [115, 112, 108, 105, 116]), ("CURRY", .str [99, 117, 114, 114, 121]), ("DROP", .str [100, 114, 111, 112]), ("REGROUP", .str [114, 101, 103, 114, 111, 117, 112]), ("SWAP", .str [115, 119, 97, 112]), ("FORTH", .str [102, 111, 114, 116, 104]), ("BACK", .str [98, 97, 99, 107]), ("VOID", .str [118, 111, 105, 100]), ("DIRECTIONS", .tup [.str [98, 97, 99, 107], .str [102, 111, 114, 116, 104]]), ("WORDS", .tup [.str [99, 117, 114, 114, 121], .str [100, 114, 111, 112], .str [114, 101, 103, 114, 111, 117, 112], .str [115, 111, 108, 101], .str [115, 112, 108, 105, 116], .str [115, 119, 97, 112], .str [118, 111, 105, 100]]), ("MOST_ROW", .int 60), ("MOST_WIDTH_nearness", .int 4), ("MOST_FAR", .int 4), ("FAR", .str [102, 97, 114]), ("NEAR", .str [110, 101, 97, 114])]
def nm : Nm := ⟨fun f => fnL.getD f "", fun f => psL.getD f [], fun i => (glL.map (·.1)).getD i "", fun _ => ""⟩
def b_is_integer : Ss := .cons (.ret (.and (.bi (.isin [.tint]) (.cons (.var 0) .nil)) (.not (.bi (.isin [.tbool]) (.cons (.var 0) .nil)))))
 (.nil)
def b_is_count : Ss := .cons (.ret (.and (.call 0 (.cons (.var 0) (.nil))) (.cmp .ge (.var 0) (.cst (.int 0)))))
 (.nil)
def b_want_at_most : Ss := .cons (.ite (.cmp .gt (.var 2) (.var 1)) (.cons (.nev)
 (.nil)) (.nil))
 (.nil)
def p0_is_name : E := .cmp .isin (.var 1) (.glob 0)
def b_is_name : Ss := .cons (.ret (.and (.bi (.isin [.tstr]) (.cons (.var 0) .nil)) (.and (.chn .le .le (.cst (.int 1)) (.bi .len (.cons (.var 0) (.nil))) (.glob 1)) (.bi .all (.cons (.lc (p0_is_name) (.nm 1) (.st (.var 0)) (.cst (.bl true)) [1]) (.nil))))))
 (.nil)
def b_is_built : Ss := .cons (.ite (.or (.cmp .eq (.var 1) (.cst (.int 0))) (.or (.not (.bi (.isin [.ttup]) (.cons (.var 0) .nil))) (.or (.cmp .eq (.var 0) (.tup (.nil))) (.not (.bi (.isin [.tstr]) (.cons (.idx (.var 0) (.cst (.int 0))) .nil)))))) (.cons (.ret (.cst (.bl false)))
 (.nil)) (.nil))
 (.cons (.ite (.cmp .eq (.idx (.var 0) (.cst (.int 0))) (.glob 5)) (.cons (.ret (.and (.cmp .eq (.bi .len (.cons (.var 0) (.nil))) (.cst (.int 2))) (.call 3 (.cons (.idx (.var 0) (.cst (.int 1))) (.nil)))))
 (.nil)) (.nil))
 (.cons (.ite (.cmp .eq (.idx (.var 0) (.cst (.int 0))) (.glob 4)) (.cons (.ret (.cmp .eq (.bi .len (.cons (.var 0) (.nil))) (.cst (.int 1))))
 (.nil)) (.nil))
 (.cons (.ite (.or (.cmp .nin (.idx (.var 0) (.cst (.int 0))) (.tup (.cons (.glob 3) (.cons (.glob 2) (.nil))))) (.cmp .ne (.bi .len (.cons (.var 0) (.nil))) (.cst (.int 3)))) (.cons (.ret (.cst (.bl false)))
 (.nil)) (.nil))
 (.cons (.ret (.and (.call 4 (.cons (.idx (.var 0) (.cst (.int 1))) (.cons (.bin .sub (.var 1) (.cst (.int 1))) (.nil)))) (.call 4 (.cons (.idx (.var 0) (.cst (.int 2))) (.cons (.bin .sub (.var 1) (.cst (.int 1))) (.nil))))))
 (.nil)))))
def b_is_kind_of : Ss := .cons (.ret (.and (.call 4 (.cons (.var 0) (.cons (.glob 7) (.nil)))) (.cmp .le (.call 7 (.cons (.var 0) (.nil))) (.glob 6))))
 (.nil)
def b_is_leaf : Ss := .cons (.ret (.cmp .isin (.idx (.var 0) (.cst (.int 0))) (.tup (.cons (.glob 5) (.cons (.glob 4) (.nil))))))
 (.nil)
def b_width_of : Ss := .cons (.ret (.ife (.call 6 (.cons (.var 0) (.nil))) (.cst (.int 1)) (.bin .add (.call 7 (.cons (.idx (.var 0) (.cst (.int 1))) (.nil))) (.call 7 (.cons (.idx (.var 0) (.cst (.int 2))) (.nil))))))
 (.nil)
def p0_paths_of : E := .bin .add (.tup (.cons (.var 2) (.nil))) (.var 3)
def p1_paths_of : Ss := .cons (.extO 1 (.lc (p0_paths_of) (.nm 3) (.va (.call 8 (.cons (.idx (.var 0) (.bin .add (.var 2) (.cst (.int 1)))) (.nil)))) (.cst (.bl true)) [3]))
 (.nil)
def b_paths_of : Ss := .cons (.newO 1 (.lst (.cons (.tup (.nil)) (.nil))))
 (.cons (.ite (.not (.call 6 (.cons (.var 0) (.nil)))) (.cons (.for (.nm 2) (.va (.tup (.cons (.cst (.int 0)) (.cons (.cst (.int 1)) (.nil))))) (p1_paths_of))
 (.nil)) (.nil))
 (.cons (.retO 1)
 (.nil)))
def p0_at_path_of : Ss := .cons (.asg (.nm 0) (.idx (.var 0) (.bin .add (.var 2) (.cst (.int 1)))))
 (.nil)
def b_at_path_of : Ss := .cons (.for (.nm 2) (.va (.var 1)) (p0_at_path_of))
 (.cons (.ret (.var 0))
 (.nil))
def b_put_at_path : Ss := .cons (.ite (.cmp .eq (.var 1) (.tup (.nil))) (.cons (.ret (.var 2))
 (.nil)) (.nil))
 (.cons (.ite (.cmp .eq (.idx (.var 1) (.cst (.int 0))) (.cst (.int 0))) (.cons (.ret (.tup (.cons (.idx (.var 0) (.cst (.int 0))) (.cons (.call 10 (.cons (.idx (.var 0) (.cst (.int 1))) (.cons (.slc (.var 1) (.cst (.int 1)) (.cst .non)) (.cons (.var 2) (.nil))))) (.cons (.idx (.var 0) (.cst (.int 2))) (.nil))))))
 (.nil)) (.nil))
 (.cons (.ret (.tup (.cons (.idx (.var 0) (.cst (.int 0))) (.cons (.idx (.var 0) (.cst (.int 1))) (.cons (.call 10 (.cons (.idx (.var 0) (.cst (.int 2))) (.cons (.slc (.var 1) (.cst (.int 1)) (.cst .non)) (.cons (.var 2) (.nil))))) (.nil))))))
 (.nil)))
def b_pair_of : Ss := .cons (.ret (.tup (.cons (.glob 3) (.cons (.var 0) (.cons (.var 1) (.nil))))))
 (.nil)
def b_from_of : Ss := .cons (.ret (.tup (.cons (.glob 2) (.cons (.var 0) (.cons (.var 1) (.nil))))))
 (.nil)
def b_want_kind : Ss := .cons (.ite (.not (.call 5 (.cons (.var 0) (.nil)))) (.cons (.nev)
 (.nil)) (.nil))
 (.cons (.ret (.var 0))
 (.nil))
def p0_is_path_of : Ss := .cons (.ite (.or (.not (.bi (.isin [.tint]) (.cons (.var 2) .nil))) (.or (.bi (.isin [.tbool]) (.cons (.var 2) .nil)) (.or (.cmp .nin (.var 2) (.tup (.cons (.cst (.int 0)) (.cons (.cst (.int 1)) (.nil))))) (.call 6 (.cons (.var 0) (.nil)))))) (.cons (.ret (.cst (.bl false)))
 (.nil)) (.nil))
 (.cons (.asg (.nm 0) (.idx (.var 0) (.bin .add (.var 2) (.cst (.int 1)))))
 (.nil))
def b_is_path_of : Ss := .cons (.ite (.not (.bi (.isin [.ttup]) (.cons (.var 1) .nil))) (.cons (.ret (.cst (.bl false)))
 (.nil)) (.nil))
 (.cons (.for (.nm 2) (.va (.var 1)) (p0_is_path_of))
 (.cons (.ret (.cst (.bl true)))
 (.nil)))
def b_is_pair : Ss := .cons (.ret (.cmp .eq (.idx (.var 0) (.cst (.int 0))) (.glob 3)))
 (.nil)
def b_is_from : Ss := .cons (.ret (.cmp .eq (.idx (.var 0) (.cst (.int 0))) (.glob 2)))
 (.nil)
def b_forth_kind : Ss := .cons (.ite (.cmp .eq (.var 0) (.glob 14)) (.cons (.ret (.ife (.call 15 (.cons (.var 1) (.nil))) (.call 11 (.cons (.idx (.var 1) (.cst (.int 2))) (.cons (.idx (.var 1) (.cst (.int 1))) (.nil)))) (.cst (.non))))
 (.nil)) (.nil))
 (.cons (.ite (.cmp .eq (.var 0) (.glob 13)) (.cons (.ite (.or (.not (.call 15 (.cons (.var 1) (.nil)))) (.not (.call 15 (.cons (.idx (.var 1) (.cst (.int 2))) (.nil))))) (.cons (.ret (.cst (.non)))
 (.nil)) (.nil))
 (.cons (.ret (.call 11 (.cons (.call 11 (.cons (.idx (.var 1) (.cst (.int 1))) (.cons (.idx (.idx (.var 1) (.cst (.int 2))) (.cst (.int 1))) (.nil)))) (.cons (.idx (.idx (.var 1) (.cst (.int 2))) (.cst (.int 2))) (.nil)))))
 (.nil))) (.nil))
 (.cons (.ite (.cmp .eq (.var 0) (.glob 12)) (.cons (.ret (.ife (.and (.call 15 (.cons (.var 1) (.nil))) (.cmp .eq (.idx (.var 1) (.cst (.int 1))) (.glob 8))) (.idx (.var 1) (.cst (.int 2))) (.cst (.non))))
 (.nil)) (.nil))
 (.cons (.ite (.cmp .eq (.var 0) (.glob 11)) (.cons (.ite (.or (.not (.call 16 (.cons (.var 1) (.nil)))) (.not (.call 15 (.cons (.idx (.var 1) (.cst (.int 1))) (.nil))))) (.cons (.ret (.cst (.non)))
 (.nil)) (.nil))
 (.cons (.ret (.call 12 (.cons (.idx (.idx (.var 1) (.cst (.int 1))) (.cst (.int 1))) (.cons (.call 12 (.cons (.idx (.idx (.var 1) (.cst (.int 1))) (.cst (.int 2))) (.cons (.idx (.var 1) (.cst (.int 2))) (.nil)))) (.nil)))))
 (.nil))) (.nil))
 (.cons (.ite (.cmp .eq (.var 0) (.glob 10)) (.cons (.ite (.or (.not (.call 16 (.cons (.var 1) (.nil)))) (.not (.call 15 (.cons (.idx (.var 1) (.cst (.int 2))) (.nil))))) (.cons (.ret (.cst (.non)))
 (.nil)) (.nil))
 (.cons (.ret (.call 11 (.cons (.call 12 (.cons (.idx (.var 1) (.cst (.int 1))) (.cons (.idx (.idx (.var 1) (.cst (.int 2))) (.cst (.int 1))) (.nil)))) (.cons (.call 12 (.cons (.idx (.var 1) (.cst (.int 1))) (.cons (.idx (.idx (.var 1) (.cst (.int 2))) (.cst (.int 2))) (.nil)))) (.nil)))))
 (.nil))) (.nil))
 (.cons (.ite (.cmp .eq (.var 0) (.glob 9)) (.cons (.ret (.ife (.and (.call 16 (.cons (.var 1) (.nil))) (.cmp .eq (.idx (.var 1) (.cst (.int 1))) (.glob 8))) (.idx (.var 1) (.cst (.int 2))) (.cst (.non))))
 (.nil)) (.nil))
 (.cons (.ret (.ife (.and (.call 16 (.cons (.var 1) (.nil))) (.cmp .eq (.idx (.var 1) (.cst (.int 2))) (.glob 8))) (.glob 8) (.cst (.non))))
 (.nil)))))))
def b_back_kind : Ss := .cons (.ite (.cmp .eq (.var 0) (.glob 14)) (.cons (.ret (.call 17 (.cons (.glob 14) (.cons (.var 1) (.nil)))))
 (.nil)) (.nil))
 (.cons (.ite (.cmp .eq (.var 0) (.glob 13)) (.cons (.ite (.or (.not (.call 15 (.cons (.var 1) (.nil)))) (.not (.call 15 (.cons (.idx (.var 1) (.cst (.int 1))) (.nil))))) (.cons (.ret (.cst (.non)))
 (.nil)) (.nil))
 (.cons (.ret (.call 11 (.cons (.idx (.idx (.var 1) (.cst (.int 1))) (.cst (.int 1))) (.cons (.call 11 (.cons (.idx (.idx (.var 1) (.cst (.int 1))) (.cst (.int 2))) (.cons (.idx (.var 1) (.cst (.int 2))) (.nil)))) (.nil)))))
 (.nil))) (.nil))
 (.cons (.ite (.cmp .eq (.var 0) (.glob 12)) (.cons (.ret (.call 11 (.cons (.glob 8) (.cons (.var 1) (.nil)))))
 (.nil)) (.nil))
 (.cons (.ite (.cmp .eq (.var 0) (.glob 11)) (.cons (.ite (.or (.not (.call 16 (.cons (.var 1) (.nil)))) (.not (.call 16 (.cons (.idx (.var 1) (.cst (.int 2))) (.nil))))) (.cons (.ret (.cst (.non)))
 (.nil)) (.nil))
 (.cons (.ret (.call 12 (.cons (.call 11 (.cons (.idx (.var 1) (.cst (.int 1))) (.cons (.idx (.idx (.var 1) (.cst (.int 2))) (.cst (.int 1))) (.nil)))) (.cons (.idx (.idx (.var 1) (.cst (.int 2))) (.cst (.int 2))) (.nil)))))
 (.nil))) (.nil))
 (.cons (.ite (.cmp .eq (.var 0) (.glob 10)) (.cons (.ite (.or (.not (.call 15 (.cons (.var 1) (.nil)))) (.or (.not (.call 16 (.cons (.idx (.var 1) (.cst (.int 1))) (.nil)))) (.or (.not (.call 16 (.cons (.idx (.var 1) (.cst (.int 2))) (.nil)))) (.cmp .ne (.idx (.idx (.var 1) (.cst (.int 1))) (.cst (.int 1))) (.idx (.idx (.var 1) (.cst (.int 2))) (.cst (.int 1))))))) (.cons (.ret (.cst (.non)))
 (.nil)) (.nil))
 (.cons (.ret (.call 12 (.cons (.idx (.idx (.var 1) (.cst (.int 1))) (.cst (.int 1))) (.cons (.call 11 (.cons (.idx (.idx (.var 1) (.cst (.int 1))) (.cst (.int 2))) (.cons (.idx (.idx (.var 1) (.cst (.int 2))) (.cst (.int 2))) (.nil)))) (.nil)))))
 (.nil))) (.nil))
 (.cons (.ite (.cmp .eq (.var 0) (.glob 9)) (.cons (.ret (.call 12 (.cons (.glob 8) (.cons (.var 1) (.nil)))))
 (.nil)) (.nil))
 (.cons (.ret (.ife (.cmp .eq (.var 1) (.glob 8)) (.call 12 (.cons (.var 2) (.cons (.glob 8) (.nil)))) (.cst (.non))))
 (.nil)))))))
def b_led_kind : Ss := .cons (.ret (.ife (.cmp .eq (.var 1) (.glob 15)) (.call 17 (.cons (.var 0) (.cons (.var 2) (.nil)))) (.call 18 (.cons (.var 0) (.cons (.var 2) (.cons (.var 3) (.nil)))))))
 (.nil)
def b_contrary : Ss := .cons (.ret (.ife (.cmp .eq (.var 0) (.glob 15)) (.glob 16) (.glob 15)))
 (.nil)
def b_told_of : Ss := .cons (.ret (.ife (.cmp .eq (.bi .len (.cons (.var 0) (.nil))) (.cst (.int 4))) (.idx (.var 0) (.cst (.int 3))) (.cst (.non))))
 (.nil)
def b_moved_of : Ss := .cons (.asg (.nm 2) (.call 19 (.cons (.idx (.var 1) (.cst (.int 0))) (.cons (.idx (.var 1) (.cst (.int 1))) (.cons (.call 9 (.cons (.var 0) (.cons (.idx (.var 1) (.cst (.int 2))) (.nil)))) (.cons (.call 21 (.cons (.var 1) (.nil))) (.nil)))))))
 (.cons (.ret (.ife (.isN false (.var 2)) (.cst (.non)) (.call 10 (.cons (.var 0) (.cons (.idx (.var 1) (.cst (.int 2))) (.cons (.var 2) (.nil)))))))
 (.nil))
def b_undone_of : Ss := .cons (.asg (.nm 2) (.call 9 (.cons (.var 0) (.cons (.idx (.var 1) (.cst (.int 2))) (.nil)))))
 (.cons (.ite (.cmp .eq (.slc (.var 1) (.cst .non) (.cst (.int 2))) (.tup (.cons (.glob 17) (.cons (.glob 15) (.nil))))) (.cons (.ret (.tup (.cons (.glob 17) (.cons (.glob 16) (.cons (.idx (.var 1) (.cst (.int 2))) (.cons (.idx (.var 2) (.cst (.int 1))) (.nil)))))))
 (.nil)) (.nil))
 (.cons (.ret (.tup (.cons (.idx (.var 1) (.cst (.int 0))) (.cons (.call 20 (.cons (.idx (.var 1) (.cst (.int 1))) (.nil))) (.cons (.idx (.var 1) (.cst (.int 2))) (.nil))))))
 (.nil)))
def p0_is_move_of : E := .bi (.isin [.tstr]) (.cons (.var 3) .nil)
def b_is_move_of : Ss := .cons (.ite (.or (.not (.bi (.isin [.ttup]) (.cons (.var 1) .nil))) (.or (.cmp .nin (.bi .len (.cons (.var 1) (.nil))) (.tup (.cons (.cst (.int 3)) (.cons (.cst (.int 4)) (.nil))))) (.not (.bi .all (.cons (.lc (p0_is_move_of) (.nm 3) (.va (.slc (.var 1) (.cst .non) (.cst (.int 2)))) (.cst (.bl true)) [3]) (.nil)))))) (.cons (.ret (.cst (.bl false)))
 (.nil)) (.nil))
 (.cons (.ite (.or (.cmp .nin (.idx (.var 1) (.cst (.int 0))) (.glob 19)) (.or (.cmp .nin (.idx (.var 1) (.cst (.int 1))) (.glob 18)) (.not (.call 14 (.cons (.var 0) (.cons (.idx (.var 1) (.cst (.int 2))) (.nil))))))) (.cons (.ret (.cst (.bl false)))
 (.nil)) (.nil))
 (.cons (.ite (.or (.cmp .ne (.cmp .eq (.bi .len (.cons (.var 1) (.nil))) (.cst (.int 4))) (.cmp .eq (.slc (.var 1) (.cst .non) (.cst (.int 2))) (.tup (.cons (.glob 17) (.cons (.glob 16) (.nil)))))) (.and (.cmp .eq (.bi .len (.cons (.var 1) (.nil))) (.cst (.int 4))) (.not (.call 5 (.cons (.idx (.var 1) (.cst (.int 3))) (.nil)))))) (.cons (.ret (.cst (.bl false)))
 (.nil)) (.nil))
 (.cons (.asg (.nm 2) (.call 22 (.cons (.var 0) (.cons (.var 1) (.nil)))))
 (.cons (.ret (.and (.isN true (.var 2)) (.call 5 (.cons (.var 2) (.nil)))))
 (.nil)))))
def p0_moves_of : E := .call 24 (.cons (.var 0) (.cons (.var 4) (.nil)))
def p1_moves_of : E := .tup (.cons (.var 2) (.cons (.var 3) (.cons (.var 5) (.nil))))
def p2_moves_of : Ss := .cons (.ite (.cmp .ne (.tup (.cons (.var 2) (.cons (.var 3) (.nil)))) (.tup (.cons (.glob 17) (.cons (.glob 16) (.nil))))) (.cons (.extO 1 (.lc (p1_moves_of) (.nm 5) (.va (.call 8 (.cons (.var 0) (.nil)))) (.cst (.bl true)) [5]))
 (.nil)) (.nil))
 (.nil)
def p3_moves_of : Ss := .cons (.for (.nm 3) (.va (.glob 18)) (p2_moves_of))
 (.nil)
def b_moves_of : Ss := .cons (.newO 1 (.lst (.nil)))
 (.cons (.for (.nm 2) (.va (.glob 19)) (p3_moves_of))
 (.cons (.ret (.bi .sorted (.cons (.lc (.var 4) (.nm 4) (.va (.own 1)) (p0_moves_of) [4]) (.nil))))
 (.nil)))
def b_moves : Ss := .cons (.ret (.call 25 (.cons (.call 13 (.cons (.var 0) (.nil))) (.nil))))
 (.nil)
def p0_kinds_by : Ss := .cons (.appO 2 (.call 22 (.cons (.idx (.own 2) (.cst (.int (-1)))) (.cons (.var 3) (.nil)))))
 (.nil)
def b_kinds_by : Ss := .cons (.newO 2 (.lst (.cons (.var 0) (.nil))))
 (.cons (.for (.nm 3) (.va (.var 1)) (p0_kinds_by))
 (.cons (.retO 2)
 (.nil)))
def p0_is_row_of : Ss := .cons (.ite (.not (.call 24 (.cons (.var 0) (.cons (.var 2) (.nil))))) (.cons (.ret (.cst (.bl false)))
 (.nil)) (.nil))
 (.cons (.asg (.nm 0) (.call 22 (.cons (.var 0) (.cons (.var 2) (.nil)))))
 (.nil))
def b_is_row_of : Ss := .cons (.ite (.or (.not (.bi (.isin [.ttup]) (.cons (.var 1) .nil))) (.cmp .gt (.bi .len (.cons (.var 1) (.nil))) (.glob 20))) (.cons (.ret (.cst (.bl false)))
 (.nil)) (.nil))
 (.cons (.for (.nm 2) (.va (.var 1)) (p0_is_row_of))
 (.cons (.ret (.cst (.bl true)))
 (.nil)))
def p0_row_undone_of : E := .call 23 (.cons (.var 3) (.cons (.var 4) (.nil)))
def b_row_undone_of : Ss := .cons (.asg (.nm 2) (.call 27 (.cons (.var 0) (.cons (.var 1) (.nil)))))
 (.cons (.ret (.bi .tuple (.cons (.rev (.lc (p0_row_undone_of) (.tp [.nm 3, .nm 4]) (.zpm (.var 2) (.var 1)) (.cst (.bl true)) [3, 4])) (.nil))))
 (.nil))
def p0_near_moves_of : E := .cmp .ne (.idx (.var 1) (.cst (.int 0))) (.glob 17)
def b_near_moves_of : Ss := .cons (.ret (.lc (.var 1) (.nm 1) (.va (.call 25 (.cons (.var 0) (.nil)))) (p0_near_moves_of) [1]))
 (.nil)
def p0_rows_within : Ss := .cons (.asg (.nm 8) (.call 22 (.cons (.var 6) (.cons (.var 7) (.nil)))))
 (.cons (.ite (.din true (.var 8) (.var 3)) (.cons (.asg (.dsub (.var 3) (.var 8)) (.bin .add (.dgt (.var 3) (.var 6)) (.tup (.cons (.var 7) (.nil)))))
 (.cons (.appO 5 (.var 8))
 (.nil))) (.nil))
 (.nil))
def p1_rows_within : Ss := .cons (.for (.nm 7) (.va (.call 30 (.cons (.var 6) (.nil)))) (p0_rows_within))
 (.nil)
def p2_rows_within : Ss := .cons (.newO 5 (.lst (.nil)))
 (.cons (.for (.nm 6) (.va (.var 4)) (p1_rows_within))
 (.cons (.mov 4 5)
 (.nil)))
def b_rows_within : Ss := .cons (.par 3 false 4 false (.dnN (.var 0) (.tup (.nil))) (.lst (.cons (.var 0) (.nil))))
 (.cons (.for (.nm 2) (.rg1 (.var 1)) (p2_rows_within))
 (.cons (.ret (.var 3))
 (.nil)))
def p0_meeting_row : E := .tup (.cons (.bin .add (.bi .len (.cons (.var 7) (.nil))) (.bi .len (.cons (.dgt (.var 3) (.var 6)) (.nil)))) (.cons (.var 6) (.nil)))
def p1_meeting_row : E := .din false (.var 6) (.var 3)
def b_meeting_row : Ss := .cons (.asg (.nm 4) (.lc (p0_meeting_row) (.tp [.nm 6, .nm 7]) (.dit (.var 2)) (p1_meeting_row) [6, 7]))
 (.cons (.ite (.cmp .eq (.var 4) (.lst (.nil))) (.cons (.ret (.cst (.non)))
 (.nil)) (.nil))
 (.cons (.asg (.nm 5) (.idx (.bi .min1 (.cons (.var 4) (.nil))) (.cst (.int 1))))
 (.cons (.ret (.bin .add (.dgt (.var 2) (.var 5)) (.call 29 (.cons (.var 1) (.cons (.dgt (.var 3) (.var 5)) (.nil))))))
 (.nil))))
def b_shortest_row : Ss := .cons (.asg (.nm 3) (.call 31 (.cons (.var 0) (.cons (.bin .sub (.var 2) (.bin .fdv (.var 2) (.cst (.int 2)))) (.nil)))))
 (.cons (.ret (.call 32 (.cons (.var 0) (.cons (.var 1) (.cons (.var 3) (.cons (.call 31 (.cons (.var 1) (.cons (.bin .fdv (.var 2) (.cst (.int 2))) (.nil)))) (.nil)))))))
 (.nil))
def b_want_within : Ss := .cons (.ite (.or (.not (.call 1 (.cons (.var 0) (.nil)))) (.cmp .gt (.var 0) (.var 1))) (.cons (.nev)
 (.nil)) (.nil))
 (.nil)
def b_want_narrow : Ss := .cons (.exp (.call 2 (.cons (.cst (.str [119, 105, 100, 116, 104])) (.cons (.glob 21) (.cons (.call 7 (.cons (.var 0) (.nil))) (.nil))))))
 (.nil)
def b_want_both : Ss := .cons (.exp (.call 13 (.cons (.var 0) (.nil))))
 (.cons (.exp (.call 13 (.cons (.var 1) (.nil))))
 (.cons (.exp (.call 34 (.cons (.var 2) (.cons (.glob 22) (.nil)))))
 (.cons (.exp (.call 35 (.cons (.var 0) (.nil))))
 (.cons (.exp (.call 35 (.cons (.var 1) (.nil))))
 (.nil)))))
def b_near_paper : Ss := .cons (.exp (.call 36 (.cons (.var 0) (.cons (.var 1) (.cons (.var 2) (.nil))))))
 (.cons (.asg (.nm 3) (.call 33 (.cons (.var 0) (.cons (.var 1) (.cons (.var 2) (.nil))))))
 (.cons (.ret (.ife (.isN false (.var 3)) (.tup (.cons (.glob 23) (.nil))) (.tup (.cons (.glob 24) (.cons (.var 3) (.nil))))))
 (.nil)))
def p0_is_near_paper : E := .cmp .ne (.idx (.var 5) (.cst (.int 0))) (.glob 17)
def b_is_near_paper : Ss := .cons (.exp (.call 36 (.cons (.var 0) (.cons (.var 1) (.cons (.var 2) (.nil))))))
 (.cons (.ite (.or (.not (.bi (.isin [.ttup]) (.cons (.var 3) .nil))) (.or (.cmp .nin (.bi .len (.cons (.var 3) (.nil))) (.tup (.cons (.cst (.int 1)) (.cons (.cst (.int 2)) (.nil))))) (.not (.bi (.isin [.tstr]) (.cons (.idx (.var 3) (.cst (.int 0))) .nil))))) (.cons (.ret (.cst (.bl false)))
 (.nil)) (.nil))
 (.cons (.asg (.nm 4) (.call 33 (.cons (.var 0) (.cons (.var 1) (.cons (.var 2) (.nil))))))
 (.cons (.ite (.cmp .eq (.bi .len (.cons (.var 3) (.nil))) (.cst (.int 1))) (.cons (.ret (.and (.cmp .eq (.idx (.var 3) (.cst (.int 0))) (.glob 23)) (.isN false (.var 4))))
 (.nil)) (.nil))
 (.cons (.ite (.or (.cmp .ne (.idx (.var 3) (.cst (.int 0))) (.glob 24)) (.or (.isN false (.var 4)) (.or (.not (.call 28 (.cons (.var 0) (.cons (.idx (.var 3) (.cst (.int 1))) (.nil))))) (.cmp .ne (.bi .len (.cons (.idx (.var 3) (.cst (.int 1))) (.nil))) (.bi .len (.cons (.var 4) (.nil))))))) (.cons (.ret (.cst (.bl false)))
 (.nil)) (.nil))
 (.cons (.ite (.not (.bi .all (.cons (.lc (p0_is_near_paper) (.nm 5) (.va (.idx (.var 3) (.cst (.int 1)))) (.cst (.bl true)) [5]) (.nil)))) (.cons (.ret (.cst (.bl false)))
 (.nil)) (.nil))
 (.cons (.ret (.cmp .eq (.idx (.call 27 (.cons (.var 0) (.cons (.idx (.var 3) (.cst (.int 1))) (.nil)))) (.cst (.int (-1)))) (.var 1)))
 (.nil)))))))
def b__law_pot : Ss := .cons (.asg (.nm 2) (.ife (.cmp .lt (.var 1) (.bi .len (.cons (.var 0) (.nil)))) (.bi .abs (.cons (.idx (.var 0) (.var 1)) (.nil))) (.bin .add (.bin .mul (.cst (.int 2309)) (.var 1)) (.cst (.int 1873)))))
 (.cons (.ret (.lstC (.cons (.bi .max2 (.cons (.cst (.int 0)) (.cons (.bin .sub (.var 2) (.bin .pow (.cst (.int 10)) (.cst (.int 18)))) (.nil)))) (.cons (.bin .mod (.bi .intf (.cons (.bin .add (.bin .add (.bin .mul (.bin .mod (.bi .intf (.cons (.var 2) (.nil))) (.cst (.int 2147483587))) (.cst (.int 48271))) (.bin .mul (.cst (.int 60167)) (.var 1))) (.cst (.int 59))) (.nil))) (.cst (.int 2147483629))) (.nil)))))
 (.nil))
def b__law_draw : Ss := .cons (.ite (.cmp .gt (.idx (.var 0) (.cst (.int 0))) (.cst (.int 0))) (.cons (.asg (.tp [.sub (.var 0) (.cst (.int 0)), .nm 2]) (.bi .divmod (.cons (.idx (.var 0) (.cst (.int 0))) (.cons (.var 1) (.nil)))))
 (.cons (.ret (.var 2))
 (.nil))) (.nil))
 (.cons (.asg (.sub (.var 0) (.cst (.int 1))) (.bin .mod (.bi .intf (.cons (.bin .add (.bin .mul (.idx (.var 0) (.cst (.int 1))) (.cst (.int 69621))) (.cst (.int 2857))) (.nil))) (.cst (.int 2147483629))))
 (.cons (.ret (.bin .mod (.bi .intf (.cons (.bin .fdv (.bin .mod (.bi .intf (.cons (.bin .mul (.idx (.var 0) (.cst (.int 1))) (.idx (.var 0) (.cst (.int 1)))) (.nil))) (.cst (.int 2147483587))) (.cst (.int 31))) (.nil))) (.var 1)))
 (.nil)))
def b__law_pick : Ss := .cons (.ret (.idx (.var 1) (.call 40 (.cons (.var 0) (.cons (.bi .len (.cons (.var 1) (.nil))) (.nil))))))
 (.nil)
def b__law_kind : Ss := .cons (.asg (.nm 3) (.call 40 (.cons (.var 0) (.cons (.cst (.int 5)) (.nil)))))
 (.cons (.ite (.or (.cmp .eq (.var 2) (.cst (.int 0))) (.cmp .lt (.var 3) (.cst (.int 2)))) (.cons (.ret (.ife (.cmp .eq (.call 40 (.cons (.var 0) (.cons (.cst (.int 6)) (.nil)))) (.cst (.int 0))) (.tup (.cons (.cst (.str [110, 111, 116, 104, 105, 110, 103])) (.nil))) (.tup (.cons (.cst (.str [97, 116, 111, 109])) (.cons (.call 41 (.cons (.var 0) (.cons (.var 1) (.nil)))) (.nil))))))
 (.nil)) (.nil))
 (.cons (.ret (.tup (.cons (.ife (.cmp .lt (.var 3) (.cst (.int 4))) (.cst (.str [112, 97, 105, 114])) (.cst (.str [102, 114, 111, 109]))) (.cons (.call 42 (.cons (.var 0) (.cons (.var 1) (.cons (.bin .sub (.var 2) (.cst (.int 1))) (.nil))))) (.cons (.call 42 (.cons (.var 0) (.cons (.var 1) (.cons (.bin .sub (.var 2) (.cst (.int 1))) (.nil))))) (.nil))))))
 (.nil)))
def p0__law_small : Ss := .cons (.ite (.cmp .gt (.call 44 (.cons (.var 4) (.nil))) (.var 3)) (.cons (.asg (.nm 4) (.idx (.var 4) (.cst (.int 1))))
 (.nil)) (.nil))
 (.nil)
def b__law_small : Ss := .cons (.asg (.nm 4) (.call 42 (.cons (.var 0) (.cons (.var 1) (.cons (.var 2) (.nil))))))
 (.cons (.for (.nm 5) (.rg1 (.cst (.int 20))) (p0__law_small))
 (.cons (.ret (.var 4))
 (.nil)))
def b__law_width : Ss := .cons (.ret (.ife (.cmp .isin (.idx (.var 0) (.cst (.int 0))) (.tup (.cons (.cst (.str [97, 116, 111, 109])) (.cons (.cst (.str [110, 111, 116, 104, 105, 110, 103])) (.nil))))) (.cst (.int 1)) (.bin .add (.call 44 (.cons (.idx (.var 0) (.cst (.int 1))) (.nil))) (.call 44 (.cons (.idx (.var 0) (.cst (.int 2))) (.nil))))))
 (.nil)
def b__law_names : Ss := .cons (.ite (.cmp .eq (.idx (.var 0) (.cst (.int 0))) (.cst (.str [110, 111, 116, 104, 105, 110, 103]))) (.cons (.ret (.lst (.nil)))
 (.nil)) (.nil))
 (.cons (.ite (.cmp .eq (.idx (.var 0) (.cst (.int 0))) (.cst (.str [97, 116, 111, 109]))) (.cons (.ret (.lst (.cons (.idx (.var 0) (.cst (.int 1))) (.nil))))
 (.nil)) (.nil))
 (.cons (.ret (.bi .sorted (.cons (.nev) (.nil))))
 (.nil)))
def p0__law_shape : E := .tup (.cons (.bi .tuple (.cons (.bi .sorted (.cons (.bin .add (.var 1) (.var 3)) (.nil))) (.nil))) (.cons (.var 4) (.nil)))
def b__law_shape : Ss := .cons (.ite (.cmp .eq (.idx (.var 0) (.cst (.int 0))) (.cst (.str [110, 111, 116, 104, 105, 110, 103]))) (.cons (.ret (.tup (.nil)))
 (.nil)) (.nil))
 (.cons (.ite (.cmp .eq (.idx (.var 0) (.cst (.int 0))) (.cst (.str [97, 116, 111, 109]))) (.cons (.ret (.tup (.cons (.tup (.cons (.tup (.nil)) (.cons (.idx (.var 0) (.cst (.int 1))) (.nil)))) (.nil))))
 (.nil)) (.nil))
 (.cons (.asg (.tp [.nm 1, .nm 2]) (.tup (.cons (.call 46 (.cons (.idx (.var 0) (.cst (.int 1))) (.nil))) (.cons (.call 46 (.cons (.idx (.var 0) (.cst (.int 2))) (.nil))) (.nil)))))
 (.cons (.ite (.cmp .eq (.idx (.var 0) (.cst (.int 0))) (.cst (.str [112, 97, 105, 114]))) (.cons (.ret (.bi .tuple (.cons (.bi .sorted (.cons (.bin .add (.var 1) (.var 2)) (.nil))) (.nil))))
 (.nil)) (.nil))
 (.cons (.ret (.bi .tuple (.cons (.bi .sorted (.cons (.lc (p0__law_shape) (.tp [.nm 3, .nm 4]) (.va (.var 2)) (.cst (.bl true)) [3, 4]) (.nil))) (.nil))))
 (.nil)))))
def b__law_turned : Ss := .cons (.ite (.cmp .isin (.idx (.var 1) (.cst (.int 0))) (.tup (.cons (.cst (.str [97, 116, 111, 109])) (.cons (.cst (.str [110, 111, 116, 104, 105, 110, 103])) (.nil))))) (.cons (.ret (.ife (.cmp .eq (.call 40 (.cons (.var 0) (.cons (.cst (.int 8)) (.nil)))) (.cst (.int 0))) (.tup (.cons (.cst (.str [112, 97, 105, 114])) (.cons (.tup (.cons (.cst (.str [110, 111, 116, 104, 105, 110, 103])) (.nil))) (.cons (.var 1) (.nil))))) (.var 1)))
 (.nil)) (.nil))
 (.cons (.par 2 false 3 false (.call 47 (.cons (.var 0) (.cons (.idx (.var 1) (.cst (.int 1))) (.nil)))) (.call 47 (.cons (.var 0) (.cons (.idx (.var 1) (.cst (.int 2))) (.nil)))))
 (.cons (.ite (.cmp .eq (.idx (.var 1) (.cst (.int 0))) (.cst (.str [112, 97, 105, 114]))) (.cons (.ret (.ife (.cmp .eq (.call 40 (.cons (.var 0) (.cons (.cst (.int 2)) (.nil)))) (.cst (.int 0))) (.tup (.cons (.cst (.str [112, 97, 105, 114])) (.cons (.var 3) (.cons (.var 2) (.nil))))) (.tup (.cons (.cst (.str [112, 97, 105, 114])) (.cons (.var 2) (.cons (.var 3) (.nil)))))))
 (.nil)) (.nil))
 (.cons (.ite (.and (.cmp .eq (.idx (.var 2) (.cst (.int 0))) (.cst (.str [112, 97, 105, 114]))) (.cmp .eq (.call 40 (.cons (.var 0) (.cons (.cst (.int 2)) (.nil)))) (.cst (.int 0)))) (.cons (.ret (.tup (.cons (.cst (.str [102, 114, 111, 109])) (.cons (.idx (.var 2) (.cst (.int 2))) (.cons (.tup (.cons (.cst (.str [102, 114, 111, 109])) (.cons (.idx (.var 2) (.cst (.int 1))) (.cons (.var 3) (.nil))))) (.nil))))))
 (.nil)) (.nil))
 (.cons (.ret (.ife (.cmp .eq (.call 40 (.cons (.var 0) (.cons (.cst (.int 8)) (.nil)))) (.cst (.int 0))) (.tup (.cons (.cst (.str [102, 114, 111, 109])) (.cons (.tup (.cons (.cst (.str [112, 97, 105, 114])) (.cons (.var 2) (.cons (.tup (.cons (.cst (.str [110, 111, 116, 104, 105, 110, 103])) (.nil))) (.nil))))) (.cons (.var 3) (.nil))))) (.tup (.cons (.cst (.str [102, 114, 111, 109])) (.cons (.var 2) (.cons (.var 3) (.nil)))))))
 (.nil)))))
def b__law_deep : Ss := .cons (.ret (.ife (.cmp .isin (.idx (.var 0) (.cst (.int 0))) (.tup (.cons (.cst (.str [97, 116, 111, 109])) (.cons (.cst (.str [110, 111, 116, 104, 105, 110, 103])) (.nil))))) (.cst (.int 1)) (.bin .add (.cst (.int 1)) (.bi .max2 (.cons (.call 48 (.cons (.idx (.var 0) (.cst (.int 1))) (.nil))) (.cons (.call 48 (.cons (.idx (.var 0) (.cst (.int 2))) (.nil))) (.nil)))))))
 (.nil)
def b__law_is_fit : Ss := .cons (.ret (.and (.cmp .le (.call 44 (.cons (.var 0) (.nil))) (.cst (.int 12))) (.cmp .le (.call 48 (.cons (.var 0) (.nil))) (.cst (.int 6)))))
 (.nil)
def b__law_forth : Ss := .cons (.par 2 false 3 false (.cmp .eq (.idx (.var 1) (.cst (.int 0))) (.cst (.str [112, 97, 105, 114]))) (.cmp .eq (.idx (.var 1) (.cst (.int 0))) (.cst (.str [102, 114, 111, 109]))))
 (.cons (.ite (.cmp .eq (.var 0) (.cst (.str [115, 119, 97, 112]))) (.cons (.ret (.ife (.var 2) (.tup (.cons (.cst (.str [112, 97, 105, 114])) (.cons (.idx (.var 1) (.cst (.int 2))) (.cons (.idx (.var 1) (.cst (.int 1))) (.nil))))) (.cst (.non))))
 (.nil)) (.nil))
 (.cons (.ite (.cmp .eq (.var 0) (.cst (.str [114, 101, 103, 114, 111, 117, 112]))) (.cons (.ret (.ife (.and (.var 2) (.cmp .eq (.idx (.idx (.var 1) (.cst (.int 2))) (.cst (.int 0))) (.cst (.str [112, 97, 105, 114])))) (.tup (.cons (.cst (.str [112, 97, 105, 114])) (.cons (.tup (.cons (.cst (.str [112, 97, 105, 114])) (.cons (.idx (.var 1) (.cst (.int 1))) (.cons (.idx (.idx (.var 1) (.cst (.int 2))) (.cst (.int 1))) (.nil))))) (.cons (.idx (.idx (.var 1) (.cst (.int 2))) (.cst (.int 2))) (.nil))))) (.cst (.non))))
 (.nil)) (.nil))
 (.cons (.ite (.cmp .eq (.var 0) (.cst (.str [100, 114, 111, 112]))) (.cons (.ret (.ife (.and (.var 2) (.cmp .eq (.idx (.var 1) (.cst (.int 1))) (.tup (.cons (.cst (.str [110, 111, 116, 104, 105, 110, 103])) (.nil))))) (.idx (.var 1) (.cst (.int 2))) (.cst (.non))))
 (.nil)) (.nil))
 (.cons (.ite (.cmp .eq (.var 0) (.cst (.str [99, 117, 114, 114, 121]))) (.cons (.ret (.ife (.and (.var 3) (.cmp .eq (.idx (.idx (.var 1) (.cst (.int 1))) (.cst (.int 0))) (.cst (.str [112, 97, 105, 114])))) (.tup (.cons (.cst (.str [102, 114, 111, 109])) (.cons (.idx (.idx (.var 1) (.cst (.int 1))) (.cst (.int 1))) (.cons (.tup (.cons (.cst (.str [102, 114, 111, 109])) (.cons (.idx (.idx (.var 1) (.cst (.int 1))) (.cst (.int 2))) (.cons (.idx (.var 1) (.cst (.int 2))) (.nil))))) (.nil))))) (.cst (.non))))
 (.nil)) (.nil))
 (.cons (.ite (.cmp .eq (.var 0) (.cst (.str [115, 112, 108, 105, 116]))) (.cons (.ret (.ife (.and (.var 3) (.cmp .eq (.idx (.idx (.var 1) (.cst (.int 2))) (.cst (.int 0))) (.cst (.str [112, 97, 105, 114])))) (.tup (.cons (.cst (.str [112, 97, 105, 114])) (.cons (.tup (.cons (.cst (.str [102, 114, 111, 109])) (.cons (.idx (.var 1) (.cst (.int 1))) (.cons (.idx (.idx (.var 1) (.cst (.int 2))) (.cst (.int 1))) (.nil))))) (.cons (.tup (.cons (.cst (.str [102, 114, 111, 109])) (.cons (.idx (.var 1) (.cst (.int 1))) (.cons (.idx (.idx (.var 1) (.cst (.int 2))) (.cst (.int 2))) (.nil))))) (.nil))))) (.cst (.non))))
 (.nil)) (.nil))
 (.cons (.ret (.ife (.and (.var 3) (.cmp .eq (.idx (.var 1) (.cst (.int 1))) (.tup (.cons (.cst (.str [110, 111, 116, 104, 105, 110, 103])) (.nil))))) (.idx (.var 1) (.cst (.int 2))) (.cst (.non))))
 (.nil)))))))
def b__law_back : Ss := .cons (.ite (.cmp .eq (.var 0) (.cst (.str [115, 119, 97, 112]))) (.cons (.ret (.ife (.cmp .eq (.idx (.var 1) (.cst (.int 0))) (.cst (.str [112, 97, 105, 114]))) (.tup (.cons (.cst (.str [112, 97, 105, 114])) (.cons (.idx (.var 1) (.cst (.int 2))) (.cons (.idx (.var 1) (.cst (.int 1))) (.nil))))) (.cst (.non))))
 (.nil)) (.nil))
 (.cons (.ite (.cmp .eq (.var 0) (.cst (.str [114, 101, 103, 114, 111, 117, 112]))) (.cons (.ret (.ife (.and (.cmp .eq (.idx (.var 1) (.cst (.int 0))) (.cst (.str [112, 97, 105, 114]))) (.cmp .eq (.idx (.idx (.var 1) (.cst (.int 1))) (.cst (.int 0))) (.cst (.str [112, 97, 105, 114])))) (.tup (.cons (.cst (.str [112, 97, 105, 114])) (.cons (.idx (.idx (.var 1) (.cst (.int 1))) (.cst (.int 1))) (.cons (.tup (.cons (.cst (.str [112, 97, 105, 114])) (.cons (.idx (.idx (.var 1) (.cst (.int 1))) (.cst (.int 2))) (.cons (.idx (.var 1) (.cst (.int 2))) (.nil))))) (.nil))))) (.cst (.non))))
 (.nil)) (.nil))
 (.cons (.ite (.cmp .eq (.var 0) (.cst (.str [100, 114, 111, 112]))) (.cons (.ret (.tup (.cons (.cst (.str [112, 97, 105, 114])) (.cons (.tup (.cons (.cst (.str [110, 111, 116, 104, 105, 110, 103])) (.nil))) (.cons (.var 1) (.nil))))))
 (.nil)) (.nil))
 (.cons (.ite (.cmp .eq (.var 0) (.cst (.str [99, 117, 114, 114, 121]))) (.cons (.ret (.ife (.and (.cmp .eq (.idx (.var 1) (.cst (.int 0))) (.cst (.str [102, 114, 111, 109]))) (.cmp .eq (.idx (.idx (.var 1) (.cst (.int 2))) (.cst (.int 0))) (.cst (.str [102, 114, 111, 109])))) (.tup (.cons (.cst (.str [102, 114, 111, 109])) (.cons (.tup (.cons (.cst (.str [112, 97, 105, 114])) (.cons (.idx (.var 1) (.cst (.int 1))) (.cons (.idx (.idx (.var 1) (.cst (.int 2))) (.cst (.int 1))) (.nil))))) (.cons (.idx (.idx (.var 1) (.cst (.int 2))) (.cst (.int 2))) (.nil))))) (.cst (.non))))
 (.nil)) (.nil))
 (.cons (.ite (.cmp .eq (.var 0) (.cst (.str [115, 112, 108, 105, 116]))) (.cons (.ite (.or (.cmp .ne (.idx (.var 1) (.cst (.int 0))) (.cst (.str [112, 97, 105, 114]))) (.or (.cmp .ne (.idx (.idx (.var 1) (.cst (.int 1))) (.cst (.int 0))) (.cst (.str [102, 114, 111, 109]))) (.or (.cmp .ne (.idx (.idx (.var 1) (.cst (.int 2))) (.cst (.int 0))) (.cst (.str [102, 114, 111, 109]))) (.cmp .ne (.idx (.idx (.var 1) (.cst (.int 1))) (.cst (.int 1))) (.idx (.idx (.var 1) (.cst (.int 2))) (.cst (.int 1))))))) (.cons (.ret (.cst (.non)))
 (.nil)) (.nil))
 (.cons (.ret (.tup (.cons (.cst (.str [102, 114, 111, 109])) (.cons (.idx (.idx (.var 1) (.cst (.int 1))) (.cst (.int 1))) (.cons (.tup (.cons (.cst (.str [112, 97, 105, 114])) (.cons (.idx (.idx (.var 1) (.cst (.int 1))) (.cst (.int 2))) (.cons (.idx (.idx (.var 1) (.cst (.int 2))) (.cst (.int 2))) (.nil))))) (.nil))))))
 (.nil))) (.nil))
 (.cons (.ret (.tup (.cons (.cst (.str [102, 114, 111, 109])) (.cons (.tup (.cons (.cst (.str [110, 111, 116, 104, 105, 110, 103])) (.nil))) (.cons (.var 1) (.nil))))))
 (.nil))))))
def p0__law_paths : E := .bin .add (.tup (.cons (.cst (.int 0)) (.nil))) (.var 1)
def p1__law_paths : E := .bin .add (.tup (.cons (.cst (.int 1)) (.nil))) (.var 1)
def b__law_paths : Ss := .cons (.ite (.cmp .isin (.idx (.var 0) (.cst (.int 0))) (.tup (.cons (.cst (.str [97, 116, 111, 109])) (.cons (.cst (.str [110, 111, 116, 104, 105, 110, 103])) (.nil))))) (.cons (.ret (.lst (.cons (.tup (.nil)) (.nil))))
 (.nil)) (.nil))
 (.cons (.ret (.bin .add (.bin .add (.lst (.cons (.tup (.nil)) (.nil))) (.lc (p0__law_paths) (.nm 1) (.va (.call 52 (.cons (.idx (.var 0) (.cst (.int 1))) (.nil)))) (.cst (.bl true)) [1])) (.lc (p1__law_paths) (.nm 1) (.va (.call 52 (.cons (.idx (.var 0) (.cst (.int 2))) (.nil)))) (.cst (.bl true)) [1])))
 (.nil))
def p0__law_at : Ss := .cons (.asg (.nm 0) (.idx (.var 0) (.bin .add (.cst (.int 1)) (.var 2))))
 (.nil)
def b__law_at : Ss := .cons (.for (.nm 2) (.va (.var 1)) (p0__law_at))
 (.cons (.ret (.var 0))
 (.nil))
def b__law_put : Ss := .cons (.ite (.cmp .eq (.var 1) (.tup (.nil))) (.cons (.ret (.var 2))
 (.nil)) (.nil))
 (.cons (.asg (.nm 3) (.call 54 (.cons (.idx (.var 0) (.bin .add (.cst (.int 1)) (.idx (.var 1) (.cst (.int 0))))) (.cons (.slc (.var 1) (.cst (.int 1)) (.cst .non)) (.cons (.var 2) (.nil))))))
 (.cons (.ret (.bin .add (.bin .add (.slc (.var 0) (.cst .non) (.bin .add (.cst (.int 1)) (.idx (.var 1) (.cst (.int 0))))) (.tup (.cons (.var 3) (.nil)))) (.slc (.var 0) (.bin .add (.cst (.int 2)) (.idx (.var 1) (.cst (.int 0)))) (.cst .non))))
 (.nil)))
def b__law_moved : Ss := .cons (.asg (.nm 2) (.call 53 (.cons (.var 0) (.cons (.idx (.var 1) (.cst (.int 2))) (.nil)))))
 (.cons (.asg (.nm 3) (.ife (.cmp .eq (.idx (.var 1) (.cst (.int 1))) (.cst (.str [102, 111, 114, 116, 104]))) (.call 50 (.cons (.idx (.var 1) (.cst (.int 0))) (.cons (.var 2) (.nil)))) (.call 51 (.cons (.idx (.var 1) (.cst (.int 0))) (.cons (.var 2) (.nil))))))
 (.cons (.asg (.nm 4) (.ife (.isN false (.var 3)) (.cst (.non)) (.call 54 (.cons (.var 0) (.cons (.idx (.var 1) (.cst (.int 2))) (.cons (.var 3) (.nil)))))))
 (.cons (.ret (.ife (.and (.isN true (.var 4)) (.call 49 (.cons (.var 4) (.nil)))) (.var 4) (.cst (.non))))
 (.nil))))
def p0__law_near : E := .tup (.cons (.var 3) (.cons (.var 4) (.cons (.var 2) (.nil))))
def p1__law_near : E := .isN true (.call 55 (.cons (.var 0) (.cons (.tup (.cons (.var 3) (.cons (.var 4) (.cons (.var 2) (.nil))))) (.nil))))
def p2__law_near : Ss := .cons (.extO 1 (.lc (p0__law_near) (.nm 4) (.va (.lst (.cons (.cst (.str [98, 97, 99, 107])) (.cons (.cst (.str [102, 111, 114, 116, 104])) (.nil))))) (p1__law_near) [4]))
 (.nil)
def p3__law_near : Ss := .cons (.for (.nm 3) (.va (.lst (.cons (.cst (.str [99, 117, 114, 114, 121])) (.cons (.cst (.str [100, 114, 111, 112])) (.cons (.cst (.str [114, 101, 103, 114, 111, 117, 112])) (.cons (.cst (.str [115, 111, 108, 101])) (.cons (.cst (.str [115, 112, 108, 105, 116])) (.cons (.cst (.str [115, 119, 97, 112])) (.nil))))))))) (p2__law_near))
 (.nil)
def b__law_near : Ss := .cons (.newO 1 (.lst (.nil)))
 (.cons (.for (.nm 2) (.va (.call 52 (.cons (.var 0) (.nil)))) (p3__law_near))
 (.cons (.ret (.bi .sorted (.cons (.own 1) (.nil))))
 (.nil)))
def p0__law_ball : Ss := .cons (.asg (.nm 8) (.call 55 (.cons (.var 6) (.cons (.var 7) (.nil)))))
 (.cons (.ite (.din true (.var 8) (.var 3)) (.cons (.asg (.dsub (.var 3) (.var 8)) (.bin .add (.var 2) (.cst (.int 1))))
 (.cons (.appO 5 (.var 8))
 (.nil))) (.nil))
 (.nil))
def p1__law_ball : Ss := .cons (.for (.nm 7) (.va (.call 56 (.cons (.var 6) (.nil)))) (p0__law_ball))
 (.nil)
def p2__law_ball : Ss := .cons (.newO 5 (.lst (.nil)))
 (.cons (.for (.nm 6) (.va (.var 4)) (p1__law_ball))
 (.cons (.mov 4 5)
 (.nil)))
def b__law_ball : Ss := .cons (.par 3 false 4 false (.dnN (.var 0) (.cst (.int 0))) (.lst (.cons (.var 0) (.nil))))
 (.cons (.for (.nm 2) (.rg1 (.var 1)) (p2__law_ball))
 (.cons (.ret (.var 3))
 (.nil)))
def p0__law_distance : E := .bin .add (.dgt (.var 4) (.var 6)) (.dgt (.var 5) (.var 6))
def p1__law_distance : E := .din false (.var 6) (.var 5)
def b__law_distance : Ss := .cons (.asg (.tp [.nm 4, .nm 5]) (.tup (.cons (.call 57 (.cons (.var 0) (.cons (.bin .sub (.var 2) (.bin .fdv (.var 2) (.cst (.int 2)))) (.nil)))) (.cons (.call 57 (.cons (.var 1) (.cons (.bin .fdv (.var 2) (.cst (.int 2))) (.nil)))) (.nil)))))
 (.cons (.asg (.nm 3) (.lc (p0__law_distance) (.nm 6) (.dk (.var 4)) (p1__law_distance) [6]))
 (.cons (.ret (.ife (.cmp .ne (.var 3) (.lst (.nil))) (.bi .min1 (.cons (.var 3) (.nil))) (.cst (.non))))
 (.nil)))
def b__law_bent : Ss := .cons (.ite (.and (.bi (.isin [.ttup]) (.cons (.var 1) .nil)) (.and (.cmp .gt (.bi .len (.cons (.var 1) (.nil))) (.cst (.int 0))) (.cmp .gt (.call 40 (.cons (.var 0) (.cons (.cst (.int 6)) (.nil)))) (.cst (.int 0))))) (.cons (.par 2 false 3 false (.call 40 (.cons (.var 0) (.cons (.bi .len (.cons (.var 1) (.nil))) (.nil)))) (.call 40 (.cons (.var 0) (.cons (.cst (.int 8)) (.nil)))))
 (.cons (.ite (.cmp .eq (.var 3) (.cst (.int 0))) (.cons (.ret (.bin .add (.slc (.var 1) (.cst .non) (.var 2)) (.slc (.var 1) (.bin .add (.var 2) (.cst (.int 1))) (.cst .non))))
 (.nil)) (.nil))
 (.cons (.ite (.cmp .eq (.var 3) (.cst (.int 1))) (.cons (.ret (.bin .add (.slc (.var 1) (.cst .non) (.bin .add (.var 2) (.cst (.int 1)))) (.slc (.var 1) (.var 2) (.cst .non))))
 (.nil)) (.nil))
 (.cons (.ret (.bin .add (.bin .add (.slc (.var 1) (.cst .non) (.var 2)) (.tup (.cons (.call 59 (.cons (.var 0) (.cons (.idx (.var 1) (.var 2)) (.nil)))) (.nil)))) (.slc (.var 1) (.bin .add (.var 2) (.cst (.int 1))) (.cst .non))))
 (.nil))))) (.nil))
 (.cons (.ite (.bi (.isin [.tint]) (.cons (.var 1) .nil)) (.cons (.ret (.call 41 (.cons (.var 0) (.cons (.lst (.cons (.bin .add (.var 1) (.cst (.int 1))) (.cons (.bin .sub (.var 1) (.cst (.int 1))) (.cons (.cst (.bl true)) (.cons (.cst (.non)) (.cons (.cst (.str [48])) (.cons (.cst (.int 0)) (.nil)))))))) (.nil)))))
 (.nil)) (.nil))
 (.cons (.ret (.call 41 (.cons (.var 0) (.cons (.lst (.cons (.cst (.non)) (.cons (.tup (.nil)) (.cons (.cst (.int 0)) (.cons (.cst (.str [97, 116, 111, 109])) (.cons (.cst (.str [112, 97, 105, 114])) (.cons (.cst (.str [116, 97, 107, 101])) (.cons (.cst (.str [103, 105, 118, 101, 110])) (.cons (.ife (.bi (.isin [.ttup]) (.cons (.var 1) .nil)) (.bi .list (.cons (.var 1) (.nil))) (.cst (.str [120]))) (.nil)))))))))) (.nil)))))
 (.nil)))
def p0__law_is_row : E := .bi .repr (.cons (.var 4) (.nil))
def p1__law_is_row : Ss := .cons (.ite (.cmp .nin (.bi .repr (.cons (.var 3) (.nil))) (.lc (p0__law_is_row) (.nm 4) (.va (.call 56 (.cons (.var 0) (.nil)))) (.cst (.bl true)) [4])) (.cons (.ret (.cst (.bl false)))
 (.nil)) (.nil))
 (.cons (.asg (.nm 0) (.call 55 (.cons (.var 0) (.cons (.var 3) (.nil)))))
 (.nil))
def b__law_is_row : Ss := .cons (.ite (.or (.not (.bi (.isin [.ttup]) (.cons (.var 1) .nil))) (.cmp .gt (.bi .len (.cons (.var 1) (.nil))) (.cst (.int 60)))) (.cons (.ret (.cst (.bl false)))
 (.nil)) (.nil))
 (.cons (.for (.nm 3) (.va (.var 1)) (p1__law_is_row))
 (.cons (.ret (.cmp .eq (.var 0) (.var 2)))
 (.nil)))
def b__law_is_paper : Ss := .cons (.ite (.or (.not (.bi (.isin [.ttup]) (.cons (.var 3) .nil))) (.or (.cmp .nin (.bi .len (.cons (.var 3) (.nil))) (.tup (.cons (.cst (.int 1)) (.cons (.cst (.int 2)) (.nil))))) (.not (.bi (.isin [.tstr]) (.cons (.idx (.var 3) (.cst (.int 0))) .nil))))) (.cons (.ret (.cst (.bl false)))
 (.nil)) (.nil))
 (.cons (.ite (.cmp .eq (.bi .len (.cons (.var 3) (.nil))) (.cst (.int 1))) (.cons (.ret (.and (.cmp .eq (.idx (.var 3) (.cst (.int 0))) (.cst (.str [102, 97, 114]))) (.isN false (.var 2))))
 (.nil)) (.nil))
 (.cons (.ret (.and (.cmp .eq (.idx (.var 3) (.cst (.int 0))) (.cst (.str [110, 101, 97, 114]))) (.and (.isN true (.var 2)) (.and (.call 60 (.cons (.var 0) (.cons (.idx (.var 3) (.cst (.int 1))) (.cons (.var 1) (.nil))))) (.cmp .eq (.bi .len (.cons (.idx (.var 3) (.cst (.int 1))) (.nil))) (.var 2))))))
 (.nil)))
def p0_law : E := .call 59 (.cons (.var 1) (.cons (.call 41 (.cons (.var 1) (.cons (.var 9) (.nil)))) (.nil)))
def p1_law : Ss := .cons (.par 13 false 14 false (.call 61 (.cons (.var 2) (.cons (.var 6) (.cons (.var 8) (.cons (.var 11) (.nil)))))) (.bi .repr (.cons (.var 11) (.nil))))
 (.cons (.asg (.nm 12) (.lst (.cons (.call 38 (.cons (.var 2) (.cons (.var 6) (.cons (.var 7) (.cons (.var 11) (.nil)))))) (.cons (.callK 38 (.cons (.var 11) (.cons (.var 7) (.cons (.var 6) (.cons (.var 2) (.nil))))) [3, 2, 1, 0]) (.nil)))))
 (.cons (.ite (.or (.cmp .ne (.bi .repr (.cons (.var 12) (.nil))) (.bi .repr (.cons (.lst (.cons (.var 13) (.cons (.var 13) (.nil)))) (.nil)))) (.cmp .ne (.bi .repr (.cons (.var 11) (.nil))) (.var 14))) (.cons (.ret (.cst (.bl false)))
 (.nil)) (.nil))
 (.nil)))
def b_law : Ss := .cons (.asg (.nm 1) (.call 39 (.cons (.var 0) (.cons (.cst (.int 0)) (.nil)))))
 (.cons (.asg (.nm 2) (.call 43 (.cons (.var 1) (.cons (.lst (.cons (.cst (.str [112])) (.cons (.cst (.str [113, 113])) (.nil)))) (.cons (.cst (.int 3)) (.cons (.cst (.int 3)) (.nil)))))))
 (.cons (.asg (.nm 3) (.call 41 (.cons (.var 1) (.cons (.call 56 (.cons (.var 2) (.nil))) (.nil)))))
 (.cons (.asg (.nm 4) (.call 55 (.cons (.var 2) (.cons (.var 3) (.nil)))))
 (.cons (.asg (.nm 5) (.call 41 (.cons (.var 1) (.cons (.call 56 (.cons (.var 4) (.nil))) (.nil)))))
 (.cons (.asg (.nm 6) (.call 41 (.cons (.var 1) (.cons (.lst (.cons (.var 4) (.cons (.call 55 (.cons (.var 4) (.cons (.var 5) (.nil)))) (.cons (.call 43 (.cons (.var 1) (.cons (.lst (.cons (.cst (.str [112])) (.nil))) (.cons (.cst (.int 2)) (.cons (.cst (.int 2)) (.nil)))))) (.nil))))) (.nil)))))
 (.cons (.asg (.nm 6) (.ife (.cmp .le (.call 44 (.cons (.var 6) (.nil))) (.cst (.int 4))) (.var 6) (.var 2)))
 (.cons (.asg (.nm 7) (.call 40 (.cons (.var 1) (.cons (.cst (.int 3)) (.nil)))))
 (.cons (.asg (.nm 8) (.call 58 (.cons (.var 2) (.cons (.var 6) (.cons (.var 7) (.nil))))))
 (.cons (.asg (.nm 9) (.lst (.cons (.call 37 (.cons (.var 2) (.cons (.var 6) (.cons (.var 7) (.nil))))) (.cons (.tup (.cons (.cst (.str [110, 101, 97, 114])) (.cons (.tup (.cons (.var 3) (.nil))) (.nil)))) (.cons (.tup (.cons (.cst (.str [110, 101, 97, 114])) (.cons (.tup (.cons (.var 3) (.cons (.var 5) (.nil)))) (.nil)))) (.cons (.tup (.cons (.cst (.str [110, 101, 97, 114])) (.cons (.tup (.nil)) (.nil)))) (.cons (.tup (.cons (.cst (.str [102, 97, 114])) (.nil))) (.nil))))))))
 (.cons (.asg (.nm 10) (.bin .add (.var 9) (.lst (.cons (.cst (.non)) (.cons (.cst (.int 0)) (.cons (.tup (.nil)) (.cons (.cst (.str [102, 97, 114])) (.cons (.lst (.cons (.cst (.str [102, 97, 114])) (.nil))) (.cons (.tup (.cons (.cst (.str [110, 101, 97, 114])) (.nil))) (.cons (.tup (.cons (.cst (.str [110, 101, 97, 114])) (.cons (.cst (.non)) (.nil)))) (.cons (.tup (.cons (.cst (.str [110, 101, 97, 114])) (.cons (.lst (.cons (.var 3) (.nil))) (.nil)))) (.cons (.tup (.cons (.cst (.str [102, 97, 114])) (.cons (.tup (.nil)) (.nil)))) (.cons (.tup (.cons (.cst (.str [110, 101, 97, 114])) (.cons (.bin .mul (.tup (.cons (.var 3) (.nil))) (.cst (.int 3))) (.nil)))) (.cons (.tup (.cons (.cst (.str [110, 101, 97, 114])) (.cons (.bi .tuple (.cons (.slc (.call 26 (.cons (.var 2) (.nil))) (.cst .non) (.cst (.int 2))) (.nil))) (.nil)))) (.nil)))))))))))))))
 (.cons (.for (.nm 11) (.va (.bin .add (.var 10) (.lc (p0_law) (.nm 15) (.rg1 (.cst (.int 8))) (.cst (.bl true)) [15]))) (p1_law))
 (.cons (.ret (.cst (.bl true)))
 (.nil)))))))))))))
def dfL : List Def := [⟨1, 1, b_is_integer⟩, ⟨1, 1, b_is_count⟩, ⟨3, 3, b_want_at_most⟩, ⟨1, 2, b_is_name⟩, ⟨2, 2, b_is_built⟩, ⟨1, 1, b_is_kind_of⟩, ⟨1, 1, b_is_leaf⟩, ⟨1, 1, b_width_of⟩, ⟨1, 4, b_paths_of⟩, ⟨2, 3, b_at_path_of⟩, ⟨3, 3, b_put_at_path⟩, ⟨2, 2, b_pair_of⟩, ⟨2, 2, b_from_of⟩, ⟨1, 1, b_want_kind⟩, ⟨2, 3, b_is_path_of⟩, ⟨1, 1, b_is_pair⟩, ⟨1, 1, b_is_from⟩, ⟨2, 2, b_forth_kind⟩, ⟨3, 3, b_back_kind⟩, ⟨4, 4, b_led_kind⟩, ⟨1, 1, b_contrary⟩, ⟨1, 1, b_told_of⟩, ⟨2, 3, b_moved_of⟩, ⟨2, 3, b_undone_of⟩, ⟨2, 4, b_is_move_of⟩, ⟨1, 6, b_moves_of⟩, ⟨1, 1, b_moves⟩, ⟨2, 4, b_kinds_by⟩, ⟨2, 3, b_is_row_of⟩, ⟨2, 5, b_row_undone_of⟩, ⟨1, 2, b_near_moves_of⟩, ⟨2, 9, b_rows_within⟩, ⟨4, 8, b_meeting_row⟩, ⟨3, 4, b_shortest_row⟩, ⟨2, 2, b_want_within⟩, ⟨1, 1, b_want_narrow⟩, ⟨3, 3, b_want_both⟩, ⟨3, 4, b_near_paper⟩, ⟨4, 6, b_is_near_paper⟩, ⟨2, 3, b__law_pot⟩, ⟨2, 3, b__law_draw⟩, ⟨2, 2, b__law_pick⟩, ⟨3, 4, b__law_kind⟩, ⟨4, 6, b__law_small⟩, ⟨1, 1, b__law_width⟩, ⟨1, 1, b__law_names⟩, ⟨1, 5, b__law_shape⟩, ⟨2, 4, b__law_turned⟩, ⟨1, 1, b__law_deep⟩, ⟨1, 1, b__law_is_fit⟩, ⟨2, 4, b__law_forth⟩, ⟨2, 2, b__law_back⟩, ⟨1, 2, b__law_paths⟩, ⟨2, 3, b__law_at⟩, ⟨3, 4, b__law_put⟩, ⟨2, 5, b__law_moved⟩, ⟨1, 5, b__law_near⟩, ⟨2, 9, b__law_ball⟩, ⟨3, 7, b__law_distance⟩, ⟨2, 4, b__law_bent⟩, ⟨3, 5, b__law_is_row⟩, ⟨4, 4, b__law_is_paper⟩, ⟨1, 16, b_law⟩]
/-- how deep calls may go -/
def lv : Nat := 60
def pg : Pg := ⟨fun f => dfL[f]?, fun i => (glL[i]?).map (·.2)⟩
abbrev i_is_integer : Nat := 0
theorem d_is_integer : pg.defs 0 = some ⟨1, 1, b_is_integer⟩ := rfl
abbrev i_is_count : Nat := 1
theorem d_is_count : pg.defs 1 = some ⟨1, 1, b_is_count⟩ := rfl
abbrev i_want_at_most : Nat := 2
theorem d_want_at_most : pg.defs 2 = some ⟨3, 3, b_want_at_most⟩ := rfl
abbrev i_is_name : Nat := 3
theorem d_is_name : pg.defs 3 = some ⟨1, 2, b_is_name⟩ := rfl
abbrev i_is_built : Nat := 4
theorem d_is_built : pg.defs 4 = some ⟨2, 2, b_is_built⟩ := rfl
abbrev i_is_kind_of : Nat := 5
theorem d_is_kind_of : pg.defs 5 = some ⟨1, 1, b_is_kind_of⟩ := rfl
abbrev i_is_leaf : Nat := 6
theorem d_is_leaf : pg.defs 6 = some ⟨1, 1, b_is_leaf⟩ := rfl
abbrev i_width_of : Nat := 7
theorem d_width_of : pg.defs 7 = some ⟨1, 1, b_width_of⟩ := rfl
abbrev i_paths_of : Nat := 8
theorem d_paths_of : pg.defs 8 = some ⟨1, 4, b_paths_of⟩ := rfl
abbrev i_at_path_of : Nat := 9
theorem d_at_path_of : pg.defs 9 = some ⟨2, 3, b_at_path_of⟩ := rfl
abbrev i_put_at_path : Nat := 10
theorem d_put_at_path : pg.defs 10 = some ⟨3, 3, b_put_at_path⟩ := rfl
abbrev i_pair_of : Nat := 11
theorem d_pair_of : pg.defs 11 = some ⟨2, 2, b_pair_of⟩ := rfl
abbrev i_from_of : Nat := 12
theorem d_from_of : pg.defs 12 = some ⟨2, 2, b_from_of⟩ := rfl
abbrev i_want_kind : Nat := 13
theorem d_want_kind : pg.defs 13 = some ⟨1, 1, b_want_kind⟩ := rfl
abbrev i_is_path_of : Nat := 14
theorem d_is_path_of : pg.defs 14 = some ⟨2, 3, b_is_path_of⟩ := rfl
abbrev i_is_pair : Nat := 15
theorem d_is_pair : pg.defs 15 = some ⟨1, 1, b_is_pair⟩ := rfl
abbrev i_is_from : Nat := 16
theorem d_is_from : pg.defs 16 = some ⟨1, 1, b_is_from⟩ := rfl
abbrev i_forth_kind : Nat := 17
theorem d_forth_kind : pg.defs 17 = some ⟨2, 2, b_forth_kind⟩ := rfl
abbrev i_back_kind : Nat := 18
theorem d_back_kind : pg.defs 18 = some ⟨3, 3, b_back_kind⟩ := rfl
abbrev i_led_kind : Nat := 19
theorem d_led_kind : pg.defs 19 = some ⟨4, 4, b_led_kind⟩ := rfl
abbrev i_contrary : Nat := 20
theorem d_contrary : pg.defs 20 = some ⟨1, 1, b_contrary⟩ := rfl
abbrev i_told_of : Nat := 21
theorem d_told_of : pg.defs 21 = some ⟨1, 1, b_told_of⟩ := rfl
abbrev i_moved_of : Nat := 22
theorem d_moved_of : pg.defs 22 = some ⟨2, 3, b_moved_of⟩ := rfl
abbrev i_undone_of : Nat := 23
theorem d_undone_of : pg.defs 23 = some ⟨2, 3, b_undone_of⟩ := rfl
abbrev i_is_move_of : Nat := 24
theorem d_is_move_of : pg.defs 24 = some ⟨2, 4, b_is_move_of⟩ := rfl
abbrev i_moves_of : Nat := 25
theorem d_moves_of : pg.defs 25 = some ⟨1, 6, b_moves_of⟩ := rfl
abbrev i_moves : Nat := 26
theorem d_moves : pg.defs 26 = some ⟨1, 1, b_moves⟩ := rfl
abbrev i_kinds_by : Nat := 27
theorem d_kinds_by : pg.defs 27 = some ⟨2, 4, b_kinds_by⟩ := rfl
abbrev i_is_row_of : Nat := 28
theorem d_is_row_of : pg.defs 28 = some ⟨2, 3, b_is_row_of⟩ := rfl
abbrev i_row_undone_of : Nat := 29
theorem d_row_undone_of : pg.defs 29 = some ⟨2, 5, b_row_undone_of⟩ := rfl
abbrev i_near_moves_of : Nat := 30
theorem d_near_moves_of : pg.defs 30 = some ⟨1, 2, b_near_moves_of⟩ := rfl
abbrev i_rows_within : Nat := 31
theorem d_rows_within : pg.defs 31 = some ⟨2, 9, b_rows_within⟩ := rfl
abbrev i_meeting_row : Nat := 32
theorem d_meeting_row : pg.defs 32 = some ⟨4, 8, b_meeting_row⟩ := rfl
abbrev i_shortest_row : Nat := 33
theorem d_shortest_row : pg.defs 33 = some ⟨3, 4, b_shortest_row⟩ := rfl
abbrev i_want_within : Nat := 34
theorem d_want_within : pg.defs 34 = some ⟨2, 2, b_want_within⟩ := rfl
abbrev i_want_narrow : Nat := 35
theorem d_want_narrow : pg.defs 35 = some ⟨1, 1, b_want_narrow⟩ := rfl
abbrev i_want_both : Nat := 36
theorem d_want_both : pg.defs 36 = some ⟨3, 3, b_want_both⟩ := rfl
abbrev i_near_paper : Nat := 37
theorem d_near_paper : pg.defs 37 = some ⟨3, 4, b_near_paper⟩ := rfl
abbrev i_is_near_paper : Nat := 38
theorem d_is_near_paper : pg.defs 38 = some ⟨4, 6, b_is_near_paper⟩ := rfl
abbrev i__law_pot : Nat := 39
theorem d__law_pot : pg.defs 39 = some ⟨2, 3, b__law_pot⟩ := rfl
abbrev i__law_draw : Nat := 40
theorem d__law_draw : pg.defs 40 = some ⟨2, 3, b__law_draw⟩ := rfl
abbrev i__law_pick : Nat := 41
theorem d__law_pick : pg.defs 41 = some ⟨2, 2, b__law_pick⟩ := rfl
abbrev i__law_kind : Nat := 42
theorem d__law_kind : pg.defs 42 = some ⟨3, 4, b__law_kind⟩ := rfl
abbrev i__law_small : Nat := 43
theorem d__law_small : pg.defs 43 = some ⟨4, 6, b__law_small⟩ := rfl
abbrev i__law_width : Nat := 44
theorem d__law_width : pg.defs 44 = some ⟨1, 1, b__law_width⟩ := rfl
abbrev i__law_names : Nat := 45
theorem d__law_names : pg.defs 45 = some ⟨1, 1, b__law_names⟩ := rfl
abbrev i__law_shape : Nat := 46
theorem d__law_shape : pg.defs 46 = some ⟨1, 5, b__law_shape⟩ := rfl
abbrev i__law_turned : Nat := 47
theorem d__law_turned : pg.defs 47 = some ⟨2, 4, b__law_turned⟩ := rfl
abbrev i__law_deep : Nat := 48
theorem d__law_deep : pg.defs 48 = some ⟨1, 1, b__law_deep⟩ := rfl
abbrev i__law_is_fit : Nat := 49
theorem d__law_is_fit : pg.defs 49 = some ⟨1, 1, b__law_is_fit⟩ := rfl
abbrev i__law_forth : Nat := 50
theorem d__law_forth : pg.defs 50 = some ⟨2, 4, b__law_forth⟩ := rfl
abbrev i__law_back : Nat := 51
theorem d__law_back : pg.defs 51 = some ⟨2, 2, b__law_back⟩ := rfl
abbrev i__law_paths : Nat := 52
theorem d__law_paths : pg.defs 52 = some ⟨1, 2, b__law_paths⟩ := rfl
abbrev i__law_at : Nat := 53
theorem d__law_at : pg.defs 53 = some ⟨2, 3, b__law_at⟩ := rfl
abbrev i__law_put : Nat := 54
theorem d__law_put : pg.defs 54 = some ⟨3, 4, b__law_put⟩ := rfl
abbrev i__law_moved : Nat := 55
theorem d__law_moved : pg.defs 55 = some ⟨2, 5, b__law_moved⟩ := rfl
abbrev i__law_near : Nat := 56
theorem d__law_near : pg.defs 56 = some ⟨1, 5, b__law_near⟩ := rfl
abbrev i__law_ball : Nat := 57
theorem d__law_ball : pg.defs 57 = some ⟨2, 9, b__law_ball⟩ := rfl
abbrev i__law_distance : Nat := 58
theorem d__law_distance : pg.defs 58 = some ⟨3, 7, b__law_distance⟩ := rfl
abbrev i__law_bent : Nat := 59
theorem d__law_bent : pg.defs 59 = some ⟨2, 4, b__law_bent⟩ := rfl
abbrev i__law_is_row : Nat := 60
theorem d__law_is_row : pg.defs 60 = some ⟨3, 5, b__law_is_row⟩ := rfl
abbrev i__law_is_paper : Nat := 61
theorem d__law_is_paper : pg.defs 61 = some ⟨4, 4, b__law_is_paper⟩ := rfl
abbrev i_law : Nat := 62
theorem d_law : pg.defs 62 = some ⟨1, 16, b_law⟩ := rfl
@[simp] theorem gl_0 : pg.gl 0 = some (.str [97, 98, 99, 100, 101, 102, 103, 104, 105, 106, 107, 108, 109, 110, 111, 112, 113, 114, 115, 116, 117, 118, 119, 120, 121, 122]) := rfl
@[simp] theorem gl_1 : pg.gl 1 = some (.int 8) := rfl
@[simp] theorem gl_2 : pg.gl 2 = some (.str [102, 114, 111, 109]) := rfl
@[simp] theorem gl_3 : pg.gl 3 = some (.str [112, 97, 105, 114]) := rfl
@[simp] theorem gl_4 : pg.gl 4 = some (.str [110, 111, 116, 104, 105, 110, 103]) := rfl
@[simp] theorem gl_5 : pg.gl 5 = some (.str [97, 116, 111, 109]) := rfl
@[simp] theorem gl_6 : pg.gl 6 = some (.int 12) := rfl
@[simp] theorem gl_7 : pg.gl 7 = some (.int 6) := rfl
@[simp] theorem gl_8 : pg.gl 8 = some (.tup [.str [110, 111, 116, 104, 105, 110, 103]]) := rfl
@[simp] theorem gl_9 : pg.gl 9 = some (.str [115, 111, 108, 101]) := rfl
@[simp] theorem gl_10 : pg.gl 10 = some (.str [115, 112, 108, 105, 116]) := rfl
@[simp] theorem gl_11 : pg.gl 11 = some (.str [99, 117, 114, 114, 121]) := rfl
@[simp] theorem gl_12 : pg.gl 12 = some (.str [100, 114, 111, 112]) := rfl
@[simp] theorem gl_13 : pg.gl 13 = some (.str [114, 101, 103, 114, 111, 117, 112]) := rfl
@[simp] theorem gl_14 : pg.gl 14 = some (.str [115, 119, 97, 112]) := rfl
@[simp] theorem gl_15 : pg.gl 15 = some (.str [102, 111, 114, 116, 104]) := rfl
@[simp] theorem gl_16 : pg.gl 16 = some (.str [98, 97, 99, 107]) := rfl
@[simp] theorem gl_17 : pg.gl 17 = some (.str [118, 111, 105, 100]) := rfl
@[simp] theorem gl_18 : pg.gl 18 = some (.tup [.str [98, 97, 99, 107], .str [102, 111, 114, 116, 104]]) := rfl
@[simp] theorem gl_19 : pg.gl 19 = some (.tup [.str [99, 117, 114, 114, 121], .str [100, 114, 111, 112], .str [114, 101, 103, 114, 111, 117, 112], .str [115, 111, 108, 101], .str [115, 112, 108, 105, 116], .str [115, 119, 97, 112], .str [118, 111, 105, 100]]) := rfl
@[simp] theorem gl_20 : pg.gl 20 = some (.int 60) := rfl
@[simp] theorem gl_21 : pg.gl 21 = some (.int 4) := rfl
@[simp] theorem gl_22 : pg.gl 22 = some (.int 4) := rfl
@[simp] theorem gl_23 : pg.gl 23 = some (.str [102, 97, 114]) := rfl
@[simp] theorem gl_24 : pg.gl 24 = some (.str [110, 101, 97, 114]) := rfl
def kwL : List Kw := [⟨38, ["value", "most", "other_kind", "kind"], [3, 2, 1, 0]⟩]
def top (i : Nat) : Stmt := PySem.Challenge.pw_kindsalike_k73_any_value_as_near_paper.main.body.getD i (.Pass ⟨0, 0, 0, 0⟩)
def N_is_integer : List Str := (["value"] : List String).map Str.ofString
def N_is_count : List Str := (["value"] : List String).map Str.ofString
def N_want_at_most : List Str := (["what", "limit", "number"] : List String).map Str.ofString
def N_is_name : List Str := (["value", "sign"] : List String).map Str.ofString
def N_is_built : List Str := (["value", "deep"] : List String).map Str.ofString
def N_is_kind_of : List Str := (["value"] : List String).map Str.ofString
def N_is_leaf : List Str := (["kind"] : List String).map Str.ofString
def N_width_of : List Str := (["kind"] : List String).map Str.ofString
def N_paths_of : List Str := (["kind", "found", "at", "path"] : List String).map Str.ofString
def N_at_path_of : List Str := (["kind", "path", "at"] : List String).map Str.ofString
def N_put_at_path : List Str := (["kind", "path", "other"] : List String).map Str.ofString
def N_pair_of : List Str := (["one", "other"] : List String).map Str.ofString
def N_from_of : List Str := (["source", "target"] : List String).map Str.ofString
def N_want_kind : List Str := (["value"] : List String).map Str.ofString
def N_is_path_of : List Str := (["kind", "value", "at"] : List String).map Str.ofString
def N_is_pair : List Str := (["kind"] : List String).map Str.ofString
def N_is_from : List Str := (["kind"] : List String).map Str.ofString
def N_forth_kind : List Str := (["word", "kind"] : List String).map Str.ofString
def N_back_kind : List Str := (["word", "kind", "told"] : List String).map Str.ofString
def N_led_kind : List Str := (["word", "direction", "kind", "told"] : List String).map Str.ofString
def N_contrary : List Str := (["direction"] : List String).map Str.ofString
def N_told_of : List Str := (["move"] : List String).map Str.ofString
def N_moved_of : List Str := (["kind", "move", "late"] : List String).map Str.ofString
def N_undone_of : List Str := (["kind", "move", "there"] : List String).map Str.ofString
def N_is_move_of : List Str := (["kind", "value", "late", "one"] : List String).map Str.ofString
def N_moves_of : List Str := (["kind", "found", "word", "direction", "move", "path"] : List String).map Str.ofString
def N_moves : List Str := (["kind"] : List String).map Str.ofString
def N_kinds_by : List Str := (["kind", "row", "found", "move"] : List String).map Str.ofString
def N_is_row_of : List Str := (["kind", "value", "move"] : List String).map Str.ofString
def N_row_undone_of : List Str := (["kind", "row", "some", "one", "move"] : List String).map Str.ofString
def N_near_moves_of : List Str := (["kind", "move"] : List String).map Str.ofString
def N_rows_within : List Str := (["kind", "radius", "turn", "found", "last", "late", "one", "move", "other"] : List String).map Str.ofString
def N_meeting_row : List Str := (["kind", "other", "near", "far", "both", "middle", "one", "row"] : List String).map Str.ofString
def N_shortest_row : List Str := (["kind", "other", "most", "near"] : List String).map Str.ofString
def N_want_within : List Str := (["value", "most"] : List String).map Str.ofString
def N_want_narrow : List Str := (["kind"] : List String).map Str.ofString
def N_want_both : List Str := (["kind", "other", "most"] : List String).map Str.ofString
def N_near_paper : List Str := (["kind", "other_kind", "most", "row"] : List String).map Str.ofString
def N_is_near_paper : List Str := (["kind", "other_kind", "most", "value", "row", "move"] : List String).map Str.ofString
def N__law_pot : List Str := (["script", "k", "cell"] : List String).map Str.ofString
def N__law_draw : List Str := (["pot", "many", "digit"] : List String).map Str.ofString
def N__law_pick : List Str := (["pot", "some"] : List String).map Str.ofString
def N__law_kind : List Str := (["pot", "names", "deep", "word"] : List String).map Str.ofString
def N__law_small : List Str := (["pot", "names", "deep", "most", "found", "turn"] : List String).map Str.ofString
def N__law_width : List Str := (["kind"] : List String).map Str.ofString
def N__law_names : List Str := (["kind"] : List String).map Str.ofString
def N__law_shape : List Str := (["kind", "first", "second", "inner", "name"] : List String).map Str.ofString
def N__law_turned : List Str := (["pot", "kind", "one", "other"] : List String).map Str.ofString
def N__law_deep : List Str := (["kind"] : List String).map Str.ofString
def N__law_is_fit : List Str := (["kind"] : List String).map Str.ofString
def N__law_forth : List Str := (["word", "kind", "is_pair_v", "is_from_v"] : List String).map Str.ofString
def N__law_back : List Str := (["word", "kind"] : List String).map Str.ofString
def N__law_paths : List Str := (["kind", "path"] : List String).map Str.ofString
def N__law_at : List Str := (["kind", "path", "at"] : List String).map Str.ofString
def N__law_put : List Str := (["kind", "path", "late", "one"] : List String).map Str.ofString
def N__law_moved : List Str := (["kind", "move", "here", "late", "found"] : List String).map Str.ofString
def N__law_near : List Str := (["kind", "found", "path", "word", "one"] : List String).map Str.ofString
def N__law_ball : List Str := (["kind", "radius", "turn", "found", "last", "late", "one", "move", "other"] : List String).map Str.ofString
def N__law_distance : List Str := (["kind", "other", "most", "both", "near", "far", "one"] : List String).map Str.ofString
def N__law_bent : List Str := (["pot", "value", "at", "kind"] : List String).map Str.ofString
def N__law_is_row : List Str := (["kind", "row", "other", "move", "one"] : List String).map Str.ofString
def N__law_is_paper : List Str := (["kind", "other", "due", "value"] : List String).map Str.ofString
def N_law : List Str := (["script", "pot", "kind", "move", "late", "more", "other", "most", "own", "papers", "values", "value", "told", "due", "shown", "step"] : List String).map Str.ofString
set_option maxRecDepth 1000000 in
theorem c_is_integer : chkSs nm pg kwL ⟨N_is_integer, L2.defScope (top 7), fun _ => true⟩ b_is_integer (L2.defBody (top 7)) = true := by decide +kernel
set_option maxRecDepth 1000000 in
theorem c_is_count : chkSs nm pg kwL ⟨N_is_count, L2.defScope (top 8), fun _ => true⟩ b_is_count (L2.defBody (top 8)) = true := by decide +kernel
set_option maxRecDepth 1000000 in
theorem c_want_at_most : chkSs nm pg kwL ⟨N_want_at_most, L2.defScope (top 9), fun _ => true⟩ b_want_at_most (L2.defBody (top 9)) = true := by decide +kernel
set_option maxRecDepth 1000000 in
theorem c_is_name : chkSs nm pg kwL ⟨N_is_name, L2.defScope (top 19), fun _ => true⟩ b_is_name (L2.defBody (top 19)) = true := by decide +kernel
set_option maxRecDepth 1000000 in
theorem c_is_built : chkSs nm pg kwL ⟨N_is_built, L2.defScope (top 20), fun _ => true⟩ b_is_built (L2.defBody (top 20)) = true := by decide +kernel
set_option maxRecDepth 1000000 in
theorem c_is_kind_of : chkSs nm pg kwL ⟨N_is_kind_of, L2.defScope (top 21), fun _ => true⟩ b_is_kind_of (L2.defBody (top 21)) = true := by decide +kernel
set_option maxRecDepth 1000000 in
theorem c_is_leaf : chkSs nm pg kwL ⟨N_is_leaf, L2.defScope (top 22), fun _ => true⟩ b_is_leaf (L2.defBody (top 22)) = true := by decide +kernel
set_option maxRecDepth 1000000 in
theorem c_width_of : chkSs nm pg kwL ⟨N_width_of, L2.defScope (top 23), fun _ => true⟩ b_width_of (L2.defBody (top 23)) = true := by decide +kernel
set_option maxRecDepth 1000000 in
theorem c_paths_of : chkSs nm pg kwL ⟨N_paths_of, L2.defScope (top 24), fun _ => true⟩ b_paths_of (L2.defBody (top 24)) = true := by decide +kernel
set_option maxRecDepth 1000000 in
theorem c_at_path_of : chkSs nm pg kwL ⟨N_at_path_of, L2.defScope (top 25), fun _ => true⟩ b_at_path_of (L2.defBody (top 25)) = true := by decide +kernel
set_option maxRecDepth 1000000 in
theorem c_put_at_path : chkSs nm pg kwL ⟨N_put_at_path, L2.defScope (top 26), fun _ => true⟩ b_put_at_path (L2.defBody (top 26)) = true := by decide +kernel
set_option maxRecDepth 1000000 in
theorem c_pair_of : chkSs nm pg kwL ⟨N_pair_of, L2.defScope (top 27), fun _ => true⟩ b_pair_of (L2.defBody (top 27)) = true := by decide +kernel
set_option maxRecDepth 1000000 in
theorem c_from_of : chkSs nm pg kwL ⟨N_from_of, L2.defScope (top 28), fun _ => true⟩ b_from_of (L2.defBody (top 28)) = true := by decide +kernel
set_option maxRecDepth 1000000 in
theorem c_want_kind : chkSs nm pg kwL ⟨N_want_kind, L2.defScope (top 29), fun _ => true⟩ b_want_kind (L2.defBody (top 29)) = true := by decide +kernel
set_option maxRecDepth 1000000 in
theorem c_is_path_of : chkSs nm pg kwL ⟨N_is_path_of, L2.defScope (top 30), fun _ => true⟩ b_is_path_of (L2.defBody (top 30)) = true := by decide +kernel
set_option maxRecDepth 1000000 in
theorem c_is_pair : chkSs nm pg kwL ⟨N_is_pair, L2.defScope (top 44), fun _ => true⟩ b_is_pair (L2.defBody (top 44)) = true := by decide +kernel
set_option maxRecDepth 1000000 in
theorem c_is_from : chkSs nm pg kwL ⟨N_is_from, L2.defScope (top 45), fun _ => true⟩ b_is_from (L2.defBody (top 45)) = true := by decide +kernel
set_option maxRecDepth 1000000 in
theorem c_forth_kind : chkSs nm pg kwL ⟨N_forth_kind, L2.defScope (top 46), fun _ => true⟩ b_forth_kind (L2.defBody (top 46)) = true := by decide +kernel
set_option maxRecDepth 1000000 in
theorem c_back_kind : chkSs nm pg kwL ⟨N_back_kind, L2.defScope (top 47), fun _ => true⟩ b_back_kind (L2.defBody (top 47)) = true := by decide +kernel
set_option maxRecDepth 1000000 in
theorem c_led_kind : chkSs nm pg kwL ⟨N_led_kind, L2.defScope (top 48), fun _ => true⟩ b_led_kind (L2.defBody (top 48)) = true := by decide +kernel
set_option maxRecDepth 1000000 in
theorem c_contrary : chkSs nm pg kwL ⟨N_contrary, L2.defScope (top 49), fun _ => true⟩ b_contrary (L2.defBody (top 49)) = true := by decide +kernel
set_option maxRecDepth 1000000 in
theorem c_told_of : chkSs nm pg kwL ⟨N_told_of, L2.defScope (top 50), fun _ => true⟩ b_told_of (L2.defBody (top 50)) = true := by decide +kernel
set_option maxRecDepth 1000000 in
theorem c_moved_of : chkSs nm pg kwL ⟨N_moved_of, L2.defScope (top 51), fun _ => true⟩ b_moved_of (L2.defBody (top 51)) = true := by decide +kernel
set_option maxRecDepth 1000000 in
theorem c_undone_of : chkSs nm pg kwL ⟨N_undone_of, L2.defScope (top 52), fun _ => true⟩ b_undone_of (L2.defBody (top 52)) = true := by decide +kernel
set_option maxRecDepth 1000000 in
theorem c_is_move_of : chkSs nm pg kwL ⟨N_is_move_of, L2.defScope (top 53), fun _ => true⟩ b_is_move_of (L2.defBody (top 53)) = true := by decide +kernel
set_option maxRecDepth 1000000 in
theorem c_moves_of : chkSs nm pg kwL ⟨N_moves_of, L2.defScope (top 54), fun _ => true⟩ b_moves_of (L2.defBody (top 54)) = true := by decide +kernel
set_option maxRecDepth 1000000 in
theorem c_moves : chkSs nm pg kwL ⟨N_moves, L2.defScope (top 55), fun _ => true⟩ b_moves (L2.defBody (top 55)) = true := by decide +kernel
set_option maxRecDepth 1000000 in
theorem c_kinds_by : chkSs nm pg kwL ⟨N_kinds_by, L2.defScope (top 58), fun _ => true⟩ b_kinds_by (L2.defBody (top 58)) = true := by decide +kernel
set_option maxRecDepth 1000000 in
theorem c_is_row_of : chkSs nm pg kwL ⟨N_is_row_of, L2.defScope (top 59), fun _ => true⟩ b_is_row_of (L2.defBody (top 59)) = true := by decide +kernel
set_option maxRecDepth 1000000 in
theorem c_row_undone_of : chkSs nm pg kwL ⟨N_row_undone_of, L2.defScope (top 60), fun _ => true⟩ b_row_undone_of (L2.defBody (top 60)) = true := by decide +kernel
set_option maxRecDepth 1000000 in
theorem c_near_moves_of : chkSs nm pg kwL ⟨N_near_moves_of, L2.defScope (top 66), fun _ => true⟩ b_near_moves_of (L2.defBody (top 66)) = true := by decide +kernel
set_option maxRecDepth 1000000 in
theorem c_rows_within : chkSs nm pg kwL ⟨N_rows_within, L2.defScope (top 67), fun _ => true⟩ b_rows_within (L2.defBody (top 67)) = true := by decide +kernel
set_option maxRecDepth 1000000 in
theorem c_meeting_row : chkSs nm pg kwL ⟨N_meeting_row, L2.defScope (top 68), fun _ => true⟩ b_meeting_row (L2.defBody (top 68)) = true := by decide +kernel
set_option maxRecDepth 1000000 in
theorem c_shortest_row : chkSs nm pg kwL ⟨N_shortest_row, L2.defScope (top 69), fun _ => true⟩ b_shortest_row (L2.defBody (top 69)) = true := by decide +kernel
set_option maxRecDepth 1000000 in
theorem c_want_within : chkSs nm pg kwL ⟨N_want_within, L2.defScope (top 70), fun _ => true⟩ b_want_within (L2.defBody (top 70)) = true := by decide +kernel
set_option maxRecDepth 1000000 in
theorem c_want_narrow : chkSs nm pg kwL ⟨N_want_narrow, L2.defScope (top 71), fun _ => true⟩ b_want_narrow (L2.defBody (top 71)) = true := by decide +kernel
set_option maxRecDepth 1000000 in
theorem c_want_both : chkSs nm pg kwL ⟨N_want_both, L2.defScope (top 72), fun _ => true⟩ b_want_both (L2.defBody (top 72)) = true := by decide +kernel
set_option maxRecDepth 1000000 in
theorem c_near_paper : chkSs nm pg kwL ⟨N_near_paper, L2.defScope (top 73), fun _ => true⟩ b_near_paper (L2.defBody (top 73)) = true := by decide +kernel
set_option maxRecDepth 1000000 in
theorem c_is_near_paper : chkSs nm pg kwL ⟨N_is_near_paper, L2.defScope (top 74), fun _ => true⟩ b_is_near_paper (L2.defBody (top 74)) = true := by decide +kernel
set_option maxRecDepth 1000000 in
theorem c__law_pot : chkSs nm pg kwL ⟨N__law_pot, L2.defScope (top 76), fun _ => true⟩ b__law_pot (L2.defBody (top 76)) = true := by decide +kernel
set_option maxRecDepth 1000000 in
theorem c__law_draw : chkSs nm pg kwL ⟨N__law_draw, L2.defScope (top 77), fun _ => true⟩ b__law_draw (L2.defBody (top 77)) = true := by decide +kernel
set_option maxRecDepth 1000000 in
theorem c__law_pick : chkSs nm pg kwL ⟨N__law_pick, L2.defScope (top 78), fun _ => true⟩ b__law_pick (L2.defBody (top 78)) = true := by decide +kernel
set_option maxRecDepth 1000000 in
theorem c__law_kind : chkSs nm pg kwL ⟨N__law_kind, L2.defScope (top 79), fun _ => true⟩ b__law_kind (L2.defBody (top 79)) = true := by decide +kernel
set_option maxRecDepth 1000000 in
theorem c__law_small : chkSs nm pg kwL ⟨N__law_small, L2.defScope (top 80), fun _ => true⟩ b__law_small (L2.defBody (top 80)) = true := by decide +kernel
set_option maxRecDepth 1000000 in
theorem c__law_width : chkSs nm pg kwL ⟨N__law_width, L2.defScope (top 81), fun _ => true⟩ b__law_width (L2.defBody (top 81)) = true := by decide +kernel
set_option maxRecDepth 1000000 in
theorem c__law_names : chkSs nm pg kwL ⟨N__law_names, L2.defScope (top 82), fun _ => true⟩ b__law_names (L2.defBody (top 82)) = true := by decide +kernel
set_option maxRecDepth 1000000 in
theorem c__law_shape : chkSs nm pg kwL ⟨N__law_shape, L2.defScope (top 83), fun _ => true⟩ b__law_shape (L2.defBody (top 83)) = true := by decide +kernel
set_option maxRecDepth 1000000 in
theorem c__law_turned : chkSs nm pg kwL ⟨N__law_turned, L2.defScope (top 84), fun _ => true⟩ b__law_turned (L2.defBody (top 84)) = true := by decide +kernel
set_option maxRecDepth 1000000 in
theorem c__law_deep : chkSs nm pg kwL ⟨N__law_deep, L2.defScope (top 85), fun _ => true⟩ b__law_deep (L2.defBody (top 85)) = true := by decide +kernel
set_option maxRecDepth 1000000 in
theorem c__law_is_fit : chkSs nm pg kwL ⟨N__law_is_fit, L2.defScope (top 86), fun _ => true⟩ b__law_is_fit (L2.defBody (top 86)) = true := by decide +kernel
set_option maxRecDepth 1000000 in
theorem c__law_forth : chkSs nm pg kwL ⟨N__law_forth, L2.defScope (top 87), fun _ => true⟩ b__law_forth (L2.defBody (top 87)) = true := by decide +kernel
set_option maxRecDepth 1000000 in
theorem c__law_back : chkSs nm pg kwL ⟨N__law_back, L2.defScope (top 88), fun _ => true⟩ b__law_back (L2.defBody (top 88)) = true := by decide +kernel
set_option maxRecDepth 1000000 in
theorem c__law_paths : chkSs nm pg kwL ⟨N__law_paths, L2.defScope (top 89), fun _ => true⟩ b__law_paths (L2.defBody (top 89)) = true := by decide +kernel
set_option maxRecDepth 1000000 in
theorem c__law_at : chkSs nm pg kwL ⟨N__law_at, L2.defScope (top 90), fun _ => true⟩ b__law_at (L2.defBody (top 90)) = true := by decide +kernel
set_option maxRecDepth 1000000 in
theorem c__law_put : chkSs nm pg kwL ⟨N__law_put, L2.defScope (top 91), fun _ => true⟩ b__law_put (L2.defBody (top 91)) = true := by decide +kernel
set_option maxRecDepth 1000000 in
theorem c__law_moved : chkSs nm pg kwL ⟨N__law_moved, L2.defScope (top 92), fun _ => true⟩ b__law_moved (L2.defBody (top 92)) = true := by decide +kernel
set_option maxRecDepth 1000000 in
theorem c__law_near : chkSs nm pg kwL ⟨N__law_near, L2.defScope (top 93), fun _ => true⟩ b__law_near (L2.defBody (top 93)) = true := by decide +kernel
set_option maxRecDepth 1000000 in
theorem c__law_ball : chkSs nm pg kwL ⟨N__law_ball, L2.defScope (top 94), fun _ => true⟩ b__law_ball (L2.defBody (top 94)) = true := by decide +kernel
set_option maxRecDepth 1000000 in
theorem c__law_distance : chkSs nm pg kwL ⟨N__law_distance, L2.defScope (top 95), fun _ => true⟩ b__law_distance (L2.defBody (top 95)) = true := by decide +kernel
set_option maxRecDepth 1000000 in
theorem c__law_bent : chkSs nm pg kwL ⟨N__law_bent, L2.defScope (top 96), fun _ => true⟩ b__law_bent (L2.defBody (top 96)) = true := by decide +kernel
set_option maxRecDepth 1000000 in
theorem c__law_is_row : chkSs nm pg kwL ⟨N__law_is_row, L2.defScope (top 97), fun _ => true⟩ b__law_is_row (L2.defBody (top 97)) = true := by decide +kernel
set_option maxRecDepth 1000000 in
theorem c__law_is_paper : chkSs nm pg kwL ⟨N__law_is_paper, L2.defScope (top 98), fun _ => true⟩ b__law_is_paper (L2.defBody (top 98)) = true := by decide +kernel
set_option maxRecDepth 1000000 in
theorem c_law : chkSs nm pg kwL ⟨N_law, L2.defScope (top 99), fun _ => true⟩ b_law (L2.defBody (top 99)) = true := by decide +kernel
end K73

set_option Elab.async false
set_option linter.all false
set_option maxRecDepth 100000
/-! k73, plainly: draws. -/
namespace K73
open Ev
theorem call_eq {k f : Nat} {ds : List D} {st : St} {d : Def} (h : pg.defs f = some d) (hl : ds.length = d.ps) :
    callN pg (k + 1) f ds st = retOf (execs (callN pg k) pg.gl (ds.map Sl.va ++ List.replicate (d.n - d.ps) Sl.no) st d.body) := by
  simp only [callN, h, if_pos hl]
def Pot (st : St) (n : Nat) : Prop := ∃ a b : Int, st[n]? = some (.lst [.int a, .int b]) ∧ 0 ≤ a ∧ 0 ≤ b ∧ b < 2147483648
/-- the pot alone has turned -/
def Dr (n : Nat) (st st' : St) : Prop := ∃ a b : Int, st' = st.set n (.lst [.int a, .int b]) ∧ 0 ≤ a ∧ 0 ≤ b ∧ b < 2147483648
theorem Dr.pot {n : Nat} {st st' : St} (p : Pot st n) (d : Dr n st st') : Pot st' n := by
  obtain ⟨a, b, e, h1, h2, h3⟩ := d
  obtain ⟨_, _, q, _⟩ := p
  have hn : n < st.length := (List.getElem?_eq_some_iff.mp q).1
  exact ⟨a, b, by rw [e, List.getElem?_set_self hn], h1, h2, h3⟩
theorem Dr.refl {n : Nat} {st : St} (p : Pot st n) : Dr n st st := by
  obtain ⟨a, b, q, h⟩ := p
  refine ⟨a, b, ?_, h⟩
  apply List.ext_getElem?
  intro i
  by_cases e : n = i
  · subst e
    rw [List.getElem?_set_self (List.getElem?_eq_some_iff.mp q).1, q]
  · rw [List.getElem?_set_ne e]
theorem Dr.trans {n : Nat} {st s1 s2 : St} (d : Dr n st s1) (e : Dr n s1 s2) : Dr n st s2 := by
  obtain ⟨a, b, q, _⟩ := d
  obtain ⟨a', b', q', h⟩ := e
  exact ⟨a', b', by rw [q', q, List.set_set], h⟩
theorem e_draw (k : Nat) (n : Nat) (m : Int) (st : St) (p : Pot st n) (h1 : 1 ≤ m) (h2 : m ≤ 1000) : ∃ (d : Int) (st' : St), callN pg (k + 1) i__law_draw [.ref n, .int m] st = .ok (.int d) st' ∧ 0 ≤ d ∧ d < m ∧ Dr n st st' := by
  obtain ⟨a, b, q, ha, hb, hb2⟩ := p
  have hn : n < st.length := (List.getElem?_eq_some_iff.mp q).1
  rw [call_eq (d := ⟨2, 3, b__law_draw⟩) rfl rfl]
  have i0 : L2.ixN 2 0 = some 0 := by decide
  have i1 : L2.ixN 2 1 = some 1 := by decide
  have a0 : ∀ x y : D, L2.atI [x, y] 0 = some x := fun x y => by simp [L2.atI, i0]
  have a1 : ∀ x y : D, L2.atI [x, y] 1 = some y := fun x y => by simp [L2.atI, i1]
  have hm : 0 < m ∧ m < 1073741824 := by omega
  by_cases ha0 : 0 < a
  · refine ⟨a % m, st.set n (.lst [.int (a / m), .int b]), ?_, Int.emod_nonneg _ (by omega), Int.emod_lt_of_pos _ (by omega), a / m, b, rfl, Int.ediv_nonneg ha (by omega), hb, hb2⟩
    simp [b__law_draw, execs, exec, ev, evs, retOf, vwS, vw, q, idxD, a0, a1, cmpD, ordD, ha0, biD, two, int2, biArg, hm, asgT, asgTs, setV, i0]
  · have hs : small b = true := by simp [small]; omega
    obtain ⟨b', hb'⟩ : ∃ b' : Int, b' = (b * 69621 + 2857).fmod 2147483629 := ⟨_, rfl⟩
    have e1 : b' = (b * 69621 + 2857) % 2147483629 := by rw [hb', Int.fmod_eq_emod_of_nonneg _ (by omega)]
    have l1 : 0 ≤ b' ∧ b' < 2147483629 := by omega
    have hs2 : small b' = true := by simp [small]; omega
    refine ⟨(((b' * b').fmod 2147483587).fdiv 31).fmod m, st.set n (.lst [.int a, .int b']), ?_, ?_, ?_, a, b', rfl, ha, l1.1, by omega⟩
    · have hm0 : m ≠ 0 := by omega
      have q2 : ∀ c : C, (st.set n c)[n]? = some c := fun c => List.getElem?_set_self hn
      simp [b__law_draw, execs, exec, ev, evs, retOf, vwS, vw, q, idxD, a0, a1, cmpD, ordD, ha0, biD, one, int1, biArg, asgT, i1, binD, hs, ← hb', hs2, q2, hm0]
    · rw [Int.fmod_eq_emod_of_nonneg _ (by omega)]
      exact Int.emod_nonneg _ (by omega)
    · rw [Int.fmod_eq_emod_of_nonneg _ (by omega)]
      exact Int.emod_lt_of_pos _ (by omega)
theorem e_pick (k : Nat) (n : Nat) (xs : List D) (st : St) (p : Pot st n) (h1 : xs ≠ []) (h2 : xs.length ≤ 1000) : ∃ (x : D) (st' : St), callN pg (k + 2) i__law_pick [.ref n, .lst xs] st = .ok x st' ∧ x ∈ xs ∧ Dr n st st' := by
  have hp : 0 < xs.length := List.length_pos_iff.mpr h1
  obtain ⟨d, st', e, h3, h4, h5⟩ := e_draw k n xs.length st p (by omega) (by omega)
  have hd : d.toNat < xs.length := by omega
  refine ⟨xs[d.toNat], st', ?_, List.getElem_mem _, h5⟩
  rw [call_eq (d := ⟨2, 2, b__law_pick⟩) rfl rfl]
  have hix : L2.atI xs d = some xs[d.toNat] := by
    have : L2.ixN xs.length d = some d.toNat := by
      unfold L2.ixN
      simp [h3]
      omega
    unfold L2.atI
    rw [this]
    simp [hd]
  simp [b__law_pick, execs, exec, ev, evs, retOf, biD, one, biArg, vwS, vw, lenD, e, idxD, hix]
theorem e_pot (k : Nat) (ns : List Int) (st : St) : ∃ x y : Int, callN pg (k + 1) i__law_pot [.scr ns, .int 0] st = .ok (.ref st.length) (st ++ [.lst [.int x, .int y]]) ∧ 0 ≤ x ∧ 0 ≤ y ∧ y < 2147483648 := by
  have key : ∀ cell : Int, 0 ≤ cell → ∃ x y : Int, x = (if 1000000000000000000 < cell then cell - 1000000000000000000 else 0) ∧ y = (cell.fmod 2147483587 * 48271 + 59).fmod 2147483629 ∧ small (cell.fmod 2147483587) = true ∧ 0 ≤ x ∧ 0 ≤ y ∧ y < 2147483648 := by
    intro cell h
    refine ⟨_, _, rfl, rfl, ?_⟩
    have e1 : cell.fmod 2147483587 = cell % 2147483587 := Int.fmod_eq_emod_of_nonneg _ (by omega)
    rw [e1, Int.fmod_eq_emod_of_nonneg _ (by omega)]
    refine ⟨by simp [small]; omega, by split <;> omega, by omega, by omega⟩
  have s1 : small 2309 = true := by decide
  have s2 : small 60167 = true := by decide
  have p1 : (10 : Int) ^ 18 = 1000000000000000000 := by decide
  by_cases hlt : 0 < ns.length
  · have hix : L2.atI (ns.map D.int) 0 = some (.int ns[0]) := by
      cases ns with
      | nil => cases hlt
      | cons n ns => simp
    obtain ⟨x, y, hx, hy, hs, h1, h2, h3⟩ := key (if ns[0] < 0 then -ns[0] else ns[0]) (by split <;> omega)
    refine ⟨x, y, ?_, h1, h2, h3⟩
    rw [call_eq (d := ⟨2, 3, b__law_pot⟩) rfl rfl]
    simp [b__law_pot, execs, exec, ev, evs, retOf, vwS, vw, cmpD, ordD, biD, one, two, int1, int2, biArg, lenD, hlt, idxD, hix, asgT, setV, binD, hs, s2, p1, ← hx, ← hy]
  · have hl : ns = [] := List.length_eq_zero_iff.mp (by omega)
    subst hl
    have s3 : small 1873 = true := by decide
    refine ⟨0, 90411642, ?_, by omega, by omega, by omega⟩
    rw [call_eq (d := ⟨2, 3, b__law_pot⟩) rfl rfl]
    simp [b__law_pot, execs, exec, ev, evs, retOf, vwS, vw, cmpD, ordD, biD, one, two, int1, int2, biArg, lenD, idxD, asgT, setV, binD, s1, s2, s3, p1]
end K73

set_option Elab.async false
set_option linter.all false
set_option maxRecDepth 100000
/-! k73, plainly: kinds. -/
namespace K73
open Ev
inductive Ki where
  | atom (s : List Nat) | noth | pair (a b : Ki) | frm (a b : Ki)
  deriving DecidableEq
abbrev cA : List Nat := [97, 116, 111, 109]
abbrev cN : List Nat := [110, 111, 116, 104, 105, 110, 103]
abbrev cP : List Nat := [112, 97, 105, 114]
abbrev cF : List Nat := [102, 114, 111, 109]
def Ki.d : Ki → D
  | .atom s => .tup [.str cA, .str s]
  | .noth => .tup [.str cN]
  | .pair a b => .tup [.str cP, a.d, b.d]
  | .frm a b => .tup [.str cF, a.d, b.d]
def Ki.dep : Ki → Nat
  | .atom _ => 1
  | .noth => 1
  | .pair a b => 1 + max a.dep b.dep
  | .frm a b => 1 + max a.dep b.dep
def Ki.wid : Ki → Nat
  | .atom _ => 1
  | .noth => 1
  | .pair a b => a.wid + b.wid
  | .frm a b => a.wid + b.wid
/-- a name -/
def nmOk (s : List Nat) : Bool := decide (1 ≤ s.length) && decide (s.length ≤ 8) && s.all fun c => decide (97 ≤ c) && decide (c ≤ 122)
def Ki.ok : Ki → Bool
  | .atom s => nmOk s
  | .noth => true
  | .pair a b => a.ok && b.ok
  | .frm a b => a.ok && b.ok
def Ki.tag : Ki → List Nat
  | .atom _ => cA
  | .noth => cN
  | .pair _ _ => cP
  | .frm _ _ => cF
def Ki.isP : Ki → Bool
  | .pair _ _ => true
  | _ => false
def Ki.isF : Ki → Bool
  | .frm _ _ => true
  | _ => false
def Ki.isL : Ki → Bool
  | .atom _ => true
  | .noth => true
  | _ => false
theorem Ki.wid_pos : ∀ κ : Ki, 1 ≤ κ.wid
  | .atom _ => Nat.le_refl _
  | .noth => Nat.le_refl _
  | .pair a b => by have := a.wid_pos; simp only [Ki.wid]; omega
  | .frm a b => by have := a.wid_pos; simp only [Ki.wid]; omega
theorem Ki.dep_pos (κ : Ki) : 1 ≤ κ.dep := by cases κ <;> simp only [Ki.dep] <;> omega
/-- texts of small signs -/
def low (x : List Nat) : Bool := x.all fun c => decide (c < 1114112)
theorem low_lay {x : List Nat} (h : low x = true) : (D.str x).py.canLay0 = true := lay_str fun c hc => by simpa using List.all_eq_true.mp h c hc
theorem eqS {x y : List Nat} (h1 : low x = true) (h2 : low y = true) : eqD (.str x) (.str y) = some (decide (x = y)) := eqD_strs (low_lay h1) (low_lay h2)
theorem low_tag (κ : Ki) : low κ.tag = true := by cases κ <;> (simp only [Ki.tag]; decide)
theorem low_nm {s : List Nat} (h : nmOk s = true) : low s = true := by
  simp only [nmOk, Bool.and_eq_true, List.all_eq_true, decide_eq_true_eq, low] at h ⊢
  exact fun c hc => by have := h.2 c hc; omega
@[simp] theorem idx0_d (κ : Ki) : idxD κ.d (.int 0) = some (.str κ.tag) := by cases κ <;> simp [Ki.d, idxD, Ki.tag]
theorem leafIn (κ : Ki) : isinD (.str κ.tag) (.tup [.str cA, .str cN]) = some κ.isL := by cases κ <;> simp only [Ki.tag, Ki.isL] <;> decide +kernel
theorem eqP_tag (κ : Ki) : eqD (.str κ.tag) (.str cP) = some κ.isP := by rw [eqS (low_tag κ) (by decide)]; cases κ <;> rfl
theorem eqF_tag (κ : Ki) : eqD (.str κ.tag) (.str cF) = some κ.isF := by rw [eqS (low_tag κ) (by decide)]; cases κ <;> rfl
theorem Ki.d_tup (κ : Ki) : ∃ xs, κ.d = .tup xs := by cases κ <;> exact ⟨_, rfl⟩
@[simp] theorem vw_d (st : St) (κ : Ki) : vw st κ.d = κ.d := by cases κ <;> rfl
@[simp] theorem vwS_d (st : St) (κ : Ki) : vwS st κ.d = κ.d := by cases κ <;> rfl
theorem e_leaf (k : Nat) (κ : Ki) (st : St) : callN pg (k + 1) i_is_leaf [κ.d] st = .ok (.bl κ.isL) st := by
  rw [call_eq (d := ⟨1, 1, b_is_leaf⟩) rfl rfl]
  simp [b_is_leaf, leafIn]
theorem e_wid (st : St) : ∀ (κ : Ki) (k : Nat), κ.dep + 1 ≤ k → callN pg k i_width_of [κ.d] st = .ok (.int κ.wid) st
  | .atom s, k, h => by
    obtain ⟨k, rfl⟩ : ∃ k', k = k' + 2 := ⟨k - 2, by simp only [Ki.dep] at h; omega⟩
    rw [call_eq (d := ⟨1, 1, b_width_of⟩) rfl rfl]
    simp [b_width_of, e_leaf, Ki.isL, Ki.wid]
  | .noth, k, h => by
    obtain ⟨k, rfl⟩ : ∃ k', k = k' + 2 := ⟨k - 2, by simp only [Ki.dep] at h; omega⟩
    rw [call_eq (d := ⟨1, 1, b_width_of⟩) rfl rfl]
    simp [b_width_of, e_leaf, Ki.isL, Ki.wid]
  | .pair a b, k, h => by
    simp only [Ki.dep] at h
    obtain ⟨k, rfl⟩ : ∃ k', k = k' + 2 := ⟨k - 2, by omega⟩
    have e1 := e_wid st a (k + 1) (by omega)
    have e2 := e_wid st b (k + 1) (by omega)
    have e0 := e_leaf k (.pair a b) st
    rw [call_eq (d := ⟨1, 1, b_width_of⟩) rfl rfl]
    simp only [Ki.d] at e0
    simp [b_width_of, Ki.d, e0, Ki.isL, e1, e2, Ki.wid]
  | .frm a b, k, h => by
    simp only [Ki.dep] at h
    obtain ⟨k, rfl⟩ : ∃ k', k = k' + 2 := ⟨k - 2, by omega⟩
    have e1 := e_wid st a (k + 1) (by omega)
    have e2 := e_wid st b (k + 1) (by omega)
    have e0 := e_leaf k (.frm a b) st
    rw [call_eq (d := ⟨1, 1, b_width_of⟩) rfl rfl]
    simp only [Ki.d] at e0
    simp [b_width_of, Ki.d, e0, Ki.isL, e1, e2, Ki.wid]
theorem in_A : isinD (.str cA) (.tup [.str cA, .str cN]) = some true := by decide +kernel
theorem in_N : isinD (.str cN) (.tup [.str cA, .str cN]) = some true := by decide +kernel
theorem in_P : isinD (.str cP) (.tup [.str cA, .str cN]) = some false := by decide +kernel
theorem in_F : isinD (.str cF) (.tup [.str cA, .str cN]) = some false := by decide +kernel
theorem e_lwid (st : St) : ∀ (κ : Ki) (k : Nat), κ.dep ≤ k → callN pg k i__law_width [κ.d] st = .ok (.int κ.wid) st
  | .atom s, k, h => by
    obtain ⟨k, rfl⟩ : ∃ k', k = k' + 1 := ⟨k - 1, by simp only [Ki.dep] at h; omega⟩
    rw [call_eq (d := ⟨1, 1, b__law_width⟩) rfl rfl]
    simp [b__law_width, Ki.d, in_A, Ki.wid]
  | .noth, k, h => by
    obtain ⟨k, rfl⟩ : ∃ k', k = k' + 1 := ⟨k - 1, by simp only [Ki.dep] at h; omega⟩
    rw [call_eq (d := ⟨1, 1, b__law_width⟩) rfl rfl]
    simp [b__law_width, Ki.d, in_N, Ki.wid]
  | .pair a b, k, h => by
    simp only [Ki.dep] at h
    obtain ⟨k, rfl⟩ : ∃ k', k = k' + 1 := ⟨k - 1, by omega⟩
    rw [call_eq (d := ⟨1, 1, b__law_width⟩) rfl rfl]
    simp [b__law_width, Ki.d, in_P, Ki.wid, e_lwid st a k (by omega), e_lwid st b k (by omega)]
  | .frm a b, k, h => by
    simp only [Ki.dep] at h
    obtain ⟨k, rfl⟩ : ∃ k', k = k' + 1 := ⟨k - 1, by omega⟩
    rw [call_eq (d := ⟨1, 1, b__law_width⟩) rfl rfl]
    simp [b__law_width, Ki.d, in_F, Ki.wid, e_lwid st a k (by omega), e_lwid st b k (by omega)]
theorem max2_int (a b : Nat) : biD .max2 [.int (a : Int), .int (b : Int)] = some (.int ((max a b : Nat) : Int)) := by
  simp only [biD, two, int2, Option.some.injEq, D.int.injEq]
  split <;> omega
theorem e_ldep (st : St) : ∀ (κ : Ki) (k : Nat), κ.dep ≤ k → callN pg k i__law_deep [κ.d] st = .ok (.int κ.dep) st
  | .atom s, k, h => by
    obtain ⟨k, rfl⟩ : ∃ k', k = k' + 1 := ⟨k - 1, by simp only [Ki.dep] at h; omega⟩
    rw [call_eq (d := ⟨1, 1, b__law_deep⟩) rfl rfl]
    simp [b__law_deep, Ki.d, in_A, Ki.dep]
  | .noth, k, h => by
    obtain ⟨k, rfl⟩ : ∃ k', k = k' + 1 := ⟨k - 1, by simp only [Ki.dep] at h; omega⟩
    rw [call_eq (d := ⟨1, 1, b__law_deep⟩) rfl rfl]
    simp [b__law_deep, Ki.d, in_N, Ki.dep]
  | .pair a b, k, h => by
    simp only [Ki.dep] at h
    obtain ⟨k, rfl⟩ : ∃ k', k = k' + 1 := ⟨k - 1, by omega⟩
    rw [call_eq (d := ⟨1, 1, b__law_deep⟩) rfl rfl]
    simp [b__law_deep, Ki.d, in_P, Ki.dep, e_ldep st a k (by omega), e_ldep st b k (by omega), max2_int]
  | .frm a b, k, h => by
    simp only [Ki.dep] at h
    obtain ⟨k, rfl⟩ : ∃ k', k = k' + 1 := ⟨k - 1, by omega⟩
    rw [call_eq (d := ⟨1, 1, b__law_deep⟩) rfl rfl]
    simp [b__law_deep, Ki.d, in_F, Ki.dep, e_ldep st a k (by omega), e_ldep st b k (by omega), max2_int]
/-- how wide and deep a kind may be -/
def Ki.fit (κ : Ki) : Bool := decide (κ.wid ≤ 12) && decide (κ.dep ≤ 6)
theorem e_fit (k : Nat) (κ : Ki) (st : St) (h : κ.dep ≤ k) : callN pg (k + 1) i__law_is_fit [κ.d] st = .ok (.bl κ.fit) st := by
  rw [call_eq (d := ⟨1, 1, b__law_is_fit⟩) rfl rfl]
  have c : ∀ n m : Nat, decide ((n : Int) ≤ (m : Int)) = decide (n ≤ m) := fun n m => by simp
  have c1 := c κ.wid 12
  have c2 := c κ.dep 6
  obtain ⟨p, hp⟩ : ∃ p, p = decide (κ.wid ≤ 12) := ⟨_, rfl⟩
  obtain ⟨q, hq⟩ : ∃ q, q = decide (κ.dep ≤ 6) := ⟨_, rfl⟩
  rw [← hp] at c1
  rw [← hq] at c2
  have e1 : cmpD .le (.int κ.wid) (.int 12) = some p := by rw [cmpD_le_i]; exact congrArg some c1
  have e2 : cmpD .le (.int κ.dep) (.int 6) = some q := by rw [cmpD_le_i]; exact congrArg some c2
  unfold Ki.fit
  rw [← hp, ← hq]
  cases p <;> simp [b__law_is_fit, e_lwid st κ k h, e_ldep st κ k h, e1, e2, -cmpD_le_i]
end K73

set_option Elab.async false
set_option linter.all false
set_option maxRecDepth 100000
/-! k73, plainly: moves at the empty path. -/
namespace K73
open Ev PySem
theorem str_eqv (x y : List Nat) : PyData.eqv (D.str x).py (D.str y).py = decide (x = y) := by
  simp only [D.py, PyData.eqv]
  rw [Bool.eq_iff_iff]
  simp
  exact ⟨fun h => toSinj h, fun h => by rw [h]⟩
theorem tup_eqv (xs ys : List D) : PyData.eqv (D.tup xs).py (D.tup ys).py = PyData.eqvAll (D.pys xs) (D.pys ys) := by simp only [D.py, PyData.eqv]
theorem cons_eqv (x y : D) (xs ys : List D) : PyData.eqvAll (D.pys (x :: xs)) (D.pys (y :: ys)) = (PyData.eqv x.py y.py && PyData.eqvAll (D.pys xs) (D.pys ys)) := by simp only [D.pys, PyData.eqvAll]
theorem nil_eqv : PyData.eqvAll (D.pys []) (D.pys []) = true := by simp only [D.pys, PyData.eqvAll]
theorem nil_cons_eqv (y : D) (ys : List D) : PyData.eqvAll (D.pys []) (D.pys (y :: ys)) = false := by simp only [D.pys, PyData.eqvAll]
theorem cons_nil_eqv (y : D) (ys : List D) : PyData.eqvAll (D.pys (y :: ys)) (D.pys []) = false := by simp only [D.pys, PyData.eqvAll]
theorem ki_eqv : ∀ κ τ : Ki, PyData.eqv κ.d.py τ.d.py = decide (κ = τ)
  | .atom s, τ => by cases τ <;> simp [Ki.d, tup_eqv, cons_eqv, nil_eqv, nil_cons_eqv, cons_nil_eqv, str_eqv]
  | .noth, τ => by cases τ <;> simp [Ki.d, tup_eqv, cons_eqv, nil_eqv, nil_cons_eqv, cons_nil_eqv, str_eqv]
  | .pair a b, τ => by cases τ <;> simp [Ki.d, tup_eqv, cons_eqv, nil_eqv, nil_cons_eqv, cons_nil_eqv, str_eqv, ki_eqv a, ki_eqv b]
  | .frm a b, τ => by cases τ <;> simp [Ki.d, tup_eqv, cons_eqv, nil_eqv, nil_cons_eqv, cons_nil_eqv, str_eqv, ki_eqv a, ki_eqv b]
theorem ki_lay : ∀ κ : Ki, κ.ok = true → κ.d.py.canLay0 = true
  | .atom s, h => by
    have := low_lay (low_nm (show nmOk s = true from h))
    have h2 := low_lay (show low cA = true by decide)
    simp only [Ki.d, D.py, D.pys, PyData.canLay0, PyData.canLayAll0, Bool.and_eq_true] at *
    exact ⟨h2, this, trivial⟩
  | .noth, h => by decide +kernel
  | .pair a b, h => by
    simp only [Ki.ok, Bool.and_eq_true] at h
    have h2 := low_lay (show low cP = true by decide)
    have h3 := ki_lay a h.1
    have h4 := ki_lay b h.2
    simp only [Ki.d, D.py, D.pys, PyData.canLay0, PyData.canLayAll0, Bool.and_eq_true] at *
    exact ⟨h2, h3, h4, trivial⟩
  | .frm a b, h => by
    simp only [Ki.ok, Bool.and_eq_true] at h
    have h2 := low_lay (show low cF = true by decide)
    have h3 := ki_lay a h.1
    have h4 := ki_lay b h.2
    simp only [Ki.d, D.py, D.pys, PyData.canLay0, PyData.canLayAll0, Bool.and_eq_true] at *
    exact ⟨h2, h3, h4, trivial⟩
theorem ki_depth : ∀ κ : Ki, κ.d.py.depth = κ.dep
  | .atom s => by simp [Ki.d, D.py, D.pys, PyData.depth, PyData.depthAll, Ki.dep]
  | .noth => by simp [Ki.d, D.py, D.pys, PyData.depth, PyData.depthAll, Ki.dep]
  | .pair a b => by simp [Ki.d, D.py, D.pys, PyData.depth, PyData.depthAll, Ki.dep, ki_depth a, ki_depth b]; omega
  | .frm a b => by simp [Ki.d, D.py, D.pys, PyData.depth, PyData.depthAll, Ki.dep, ki_depth a, ki_depth b]; omega
theorem eqK {κ τ : Ki} (h1 : κ.ok = true) (h2 : τ.ok = true) (h3 : min κ.dep τ.dep ≤ 64) : eqD κ.d τ.d = some (decide (κ = τ)) := by
  unfold eqD
  rw [ki_lay κ h1, ki_lay τ h2, ki_depth, ki_depth, decide_eq_true h3, ki_eqv]
  rfl
theorem eqE {κ : Ki} (h : κ.ok = true) : eqD κ.d (.tup [.str cN]) = some (decide (κ = .noth)) := eqK (τ := .noth) h rfl (by simp only [Ki.dep]; omega)
theorem e_isP (k : Nat) (κ : Ki) (st : St) : callN pg (k + 1) i_is_pair [κ.d] st = .ok (.bl κ.isP) st := by
  rw [call_eq (d := ⟨1, 1, b_is_pair⟩) rfl rfl]
  simp [b_is_pair, eqP_tag]
theorem e_isF (k : Nat) (κ : Ki) (st : St) : callN pg (k + 1) i_is_from [κ.d] st = .ok (.bl κ.isF) st := by
  rw [call_eq (d := ⟨1, 1, b_is_from⟩) rfl rfl]
  simp [b_is_from, eqF_tag]
theorem e_pairOf (k : Nat) (a b : D) (st : St) : callN pg (k + 1) i_pair_of [a, b] st = .ok (.tup [.str cP, a, b]) st := by
  rw [call_eq (d := ⟨2, 2, b_pair_of⟩) rfl rfl]
  simp [b_pair_of]
theorem e_fromOf (k : Nat) (a b : D) (st : St) : callN pg (k + 1) i_from_of [a, b] st = .ok (.tup [.str cF, a, b]) st := by
  rw [call_eq (d := ⟨2, 2, b_from_of⟩) rfl rfl]
  simp [b_from_of]
inductive Wo where
  | curry | drop | regroup | sole | split | swap
  deriving DecidableEq
def Wo.c : Wo → List Nat
  | .curry => [99, 117, 114, 114, 121]
  | .drop => [100, 114, 111, 112]
  | .regroup => [114, 101, 103, 114, 111, 117, 112]
  | .sole => [115, 111, 108, 101]
  | .split => [115, 112, 108, 105, 116]
  | .swap => [115, 119, 97, 112]
def oD : Option Ki → D
  | none => .non
  | some κ => κ.d
def fo : Wo → Ki → Option Ki
  | .swap, .pair a b => some (.pair b a)
  | .regroup, .pair a (.pair b c) => some (.pair (.pair a b) c)
  | .drop, .pair .noth b => some b
  | .curry, .frm (.pair a b) c => some (.frm a (.frm b c))
  | .split, .frm a (.pair b c) => some (.pair (.frm a b) (.frm a c))
  | .sole, .frm .noth b => some b
  | _, _ => none
def ba : Wo → Ki → Option Ki
  | .swap, .pair a b => some (.pair b a)
  | .regroup, .pair (.pair a b) c => some (.pair a (.pair b c))
  | .drop, κ => some (.pair .noth κ)
  | .curry, .frm a (.frm b c) => some (.frm (.pair a b) c)
  | .split, .pair (.frm a b) (.frm a' c) => if a = a' then some (.frm a (.pair b c)) else none
  | .sole, κ => some (.frm .noth κ)
  | _, _ => none
/-- a kind by its tag alone -/
theorem e_isP' (k : Nat) (t : List Nat) (xs : List D) (st : St) (h : low t = true) : callN pg (k + 1) i_is_pair [.tup (.str t :: xs)] st = .ok (.bl (decide (t = cP))) st := by
  rw [call_eq (d := ⟨1, 1, b_is_pair⟩) rfl rfl]
  simp [b_is_pair, eqS h (show low cP = true by decide)]
theorem e_isF' (k : Nat) (t : List Nat) (xs : List D) (st : St) (h : low t = true) : callN pg (k + 1) i_is_from [.tup (.str t :: xs)] st = .ok (.bl (decide (t = cF))) st := by
  rw [call_eq (d := ⟨1, 1, b_is_from⟩) rfl rfl]
  simp [b_is_from, eqS h (show low cF = true by decide)]
theorem e_forth (k : Nat) (w : Wo) (κ : Ki) (st : St) (ok : κ.ok = true) : callN pg (k + 2) i_forth_kind [.str w.c, κ.d] st = .ok (oD (fo w κ)) st := by
  have P := fun τ => e_isP k τ st
  have F := fun τ => e_isF k τ st
  have P' := fun t xs h => e_isP' k t xs st h
  have F' := fun t xs h => e_isF' k t xs st h
  have M := fun a b => e_pairOf k a b st
  have N := fun a b => e_fromOf k a b st
  rw [call_eq (d := ⟨2, 2, b_forth_kind⟩) rfl rfl]
  cases w
  · cases κ with
    | frm a b => cases a <;> simp [b_forth_kind, Wo.c, eqS, low, Ki.d, P', F', M, N, fo, oD]
    | _ => simp [b_forth_kind, Wo.c, eqS, low, Ki.d, P', F', M, N, fo, oD]
  · cases κ with
    | pair a b =>
      simp only [Ki.ok, Bool.and_eq_true] at ok
      have E := eqE ok.1
      obtain ⟨x, hx⟩ : ∃ x, a.d = x := ⟨_, rfl⟩
      obtain ⟨β, hβ⟩ : ∃ β, decide (a = .noth) = β := ⟨_, rfl⟩
      have e : fo .drop (.pair a b) = if β = true then some b else none := by rw [← hβ]; cases a <;> simp [fo]
      rw [e]
      rw [hx, hβ] at E
      have v : vw st x = x := by rw [← hx]; exact vw_d st a
      clear hβ e
      cases β <;> simp [b_forth_kind, Wo.c, eqS, low, Ki.d, P', hx, E, v, oD]
    | _ => simp [b_forth_kind, Wo.c, eqS, low, Ki.d, P', F', M, N, fo, oD]
  · cases κ with
    | pair a b => cases b <;> simp [b_forth_kind, Wo.c, eqS, low, Ki.d, P', F', M, N, fo, oD]
    | _ => simp [b_forth_kind, Wo.c, eqS, low, Ki.d, P', F', M, N, fo, oD]
  · cases κ with
    | frm a b =>
      simp only [Ki.ok, Bool.and_eq_true] at ok
      have E := eqE ok.1
      obtain ⟨x, hx⟩ : ∃ x, a.d = x := ⟨_, rfl⟩
      obtain ⟨β, hβ⟩ : ∃ β, decide (a = .noth) = β := ⟨_, rfl⟩
      have e : fo .sole (.frm a b) = if β = true then some b else none := by rw [← hβ]; cases a <;> simp [fo]
      rw [e]
      rw [hx, hβ] at E
      have v : vw st x = x := by rw [← hx]; exact vw_d st a
      clear hβ e
      cases β <;> simp [b_forth_kind, Wo.c, eqS, low, Ki.d, F', hx, E, v, oD]
    | _ => simp [b_forth_kind, Wo.c, eqS, low, Ki.d, P', F', M, N, fo, oD]
  · cases κ with
    | frm a b => cases b <;> simp [b_forth_kind, Wo.c, eqS, low, Ki.d, P', F', M, N, fo, oD]
    | _ => simp [b_forth_kind, Wo.c, eqS, low, Ki.d, P', F', M, N, fo, oD]
  · cases κ <;> simp [b_forth_kind, Wo.c, eqS, low, Ki.d, P', F', M, N, fo, oD]
theorem e_back (k : Nat) (w : Wo) (κ : Ki) (t : D) (st : St) (ok : κ.ok = true) (hd : κ.dep ≤ 64) : callN pg (k + 3) i_back_kind [.str w.c, κ.d, t] st = .ok (oD (ba w κ)) st := by
  have FO := e_forth k .swap κ st ok
  have P' := fun t xs h => e_isP' (k + 1) t xs st h
  have F' := fun t xs h => e_isF' (k + 1) t xs st h
  have P := fun τ => e_isP (k + 1) τ st
  have F := fun τ => e_isF (k + 1) τ st
  have M := fun a b => e_pairOf (k + 1) a b st
  have N := fun a b => e_fromOf (k + 1) a b st
  rw [call_eq (d := ⟨3, 3, b_back_kind⟩) rfl rfl]
  cases w
  · cases κ with
    | frm a b => cases b <;> simp [b_back_kind, Wo.c, eqS, low, Ki.d, P', F', M, N, ba, oD]
    | _ => simp [b_back_kind, Wo.c, eqS, low, Ki.d, P', F', M, N, ba, oD]
  · simp [b_back_kind, Wo.c, eqS, low, M, ba, oD, Ki.d]
  · cases κ with
    | pair a b => cases a <;> simp [b_back_kind, Wo.c, eqS, low, Ki.d, P', F', M, N, ba, oD]
    | _ => simp [b_back_kind, Wo.c, eqS, low, Ki.d, P', F', M, N, ba, oD]
  · simp [b_back_kind, Wo.c, eqS, low, N, ba, oD, Ki.d]
  · cases κ with
    | pair x y =>
      cases x with
      | frm a b =>
        cases y with
        | frm a' c =>
          simp only [Ki.ok, Bool.and_eq_true] at ok
          have E := eqK (κ := a) (τ := a') ok.1.1 ok.2.1 (by simp only [Ki.dep] at hd; omega)
          obtain ⟨u, hu⟩ : ∃ u, a.d = u := ⟨_, rfl⟩
          obtain ⟨u', hu'⟩ : ∃ u, a'.d = u := ⟨_, rfl⟩
          obtain ⟨β, hβ⟩ : ∃ β, decide (a = a') = β := ⟨_, rfl⟩
          have v : vw st u = u := by rw [← hu]; exact vw_d st a
          have v' : vw st u' = u' := by rw [← hu']; exact vw_d st a'
          have e : ba .split (.pair (.frm a b) (.frm a' c)) = if β = true then some (.frm a (.pair b c)) else none := by rw [← hβ]; simp [ba]
          rw [hu, hu', hβ] at E
          rw [e]
          clear hβ e
          cases β <;> simp [b_back_kind, Wo.c, eqS, low, Ki.d, P', F', M, N, oD, hu, hu', E, v, v']
        | _ => simp [b_back_kind, Wo.c, eqS, low, Ki.d, P', F', M, N, ba, oD]
      | _ => simp [b_back_kind, Wo.c, eqS, low, Ki.d, P', F', M, N, ba, oD]
    | _ => simp [b_back_kind, Wo.c, eqS, low, Ki.d, P', F', M, N, ba, oD]
  · have e : fo .swap κ = ba .swap κ := by cases κ <;> rfl
    simp only [Wo.c] at FO
    rw [e] at FO
    simp [b_back_kind, Wo.c, eqS, low, FO]
def cFo : List Nat := [102, 111, 114, 116, 104]
def cBa : List Nat := [98, 97, 99, 107]
/-- the direction -/
def dirC (f : Bool) : List Nat := if f then cFo else cBa
def led (w : Wo) (f : Bool) (κ : Ki) : Option Ki := if f then fo w κ else ba w κ
theorem e_led (k : Nat) (w : Wo) (f : Bool) (κ : Ki) (t : D) (st : St) (ok : κ.ok = true) (hd : κ.dep ≤ 64) : callN pg (k + 4) i_led_kind [.str w.c, .str (dirC f), κ.d, t] st = .ok (oD (led w f κ)) st := by
  have E1 := e_forth (k + 1) w κ st ok
  have E2 := e_back k w κ t st ok hd
  rw [call_eq (d := ⟨4, 4, b_led_kind⟩) rfl rfl]
  cases f
  · simp [b_led_kind, dirC, cBa, eqS, low, E2, led]
  · simp [b_led_kind, dirC, cFo, eqS, low, E1, led]
end K73

set_option Elab.async false
set_option linter.all false
set_option maxRecDepth 100000
/-! k73, plainly: the law's own moves at the empty path. -/
namespace K73
open Ev PySem
theorem e_lforth (k : Nat) (w : Wo) (κ : Ki) (st : St) (ok : κ.ok = true) : callN pg (k + 1) i__law_forth [.str w.c, κ.d] st = .ok (oD (fo w κ)) st := by
  rw [call_eq (d := ⟨2, 4, b__law_forth⟩) rfl rfl]
  cases w
  · cases κ with
    | frm a b => cases a <;> simp [b__law_forth, parO, setV, Wo.c, eqS, low, Ki.d, fo, oD]
    | _ => simp [b__law_forth, parO, setV, Wo.c, eqS, low, Ki.d, fo, oD]
  · cases κ with
    | pair a b =>
      simp only [Ki.ok, Bool.and_eq_true] at ok
      have E := eqE ok.1
      obtain ⟨x, hx⟩ : ∃ x, a.d = x := ⟨_, rfl⟩
      obtain ⟨β, hβ⟩ : ∃ β, decide (a = .noth) = β := ⟨_, rfl⟩
      have e : fo .drop (.pair a b) = if β = true then some b else none := by rw [← hβ]; cases a <;> simp [fo]
      rw [e]
      rw [hx, hβ] at E
      have v : vw st x = x := by rw [← hx]; exact vw_d st a
      clear hβ e
      cases β <;> simp [b__law_forth, parO, setV, Wo.c, eqS, low, Ki.d, hx, E, v, oD]
    | _ => simp [b__law_forth, parO, setV, Wo.c, eqS, low, Ki.d, fo, oD]
  · cases κ with
    | pair a b => cases b <;> simp [b__law_forth, parO, setV, Wo.c, eqS, low, Ki.d, fo, oD]
    | _ => simp [b__law_forth, parO, setV, Wo.c, eqS, low, Ki.d, fo, oD]
  · cases κ with
    | frm a b =>
      simp only [Ki.ok, Bool.and_eq_true] at ok
      have E := eqE ok.1
      obtain ⟨x, hx⟩ : ∃ x, a.d = x := ⟨_, rfl⟩
      obtain ⟨β, hβ⟩ : ∃ β, decide (a = .noth) = β := ⟨_, rfl⟩
      have e : fo .sole (.frm a b) = if β = true then some b else none := by rw [← hβ]; cases a <;> simp [fo]
      rw [e]
      rw [hx, hβ] at E
      have v : vw st x = x := by rw [← hx]; exact vw_d st a
      clear hβ e
      cases β <;> simp [b__law_forth, parO, setV, Wo.c, eqS, low, Ki.d, hx, E, v, oD]
    | _ => simp [b__law_forth, parO, setV, Wo.c, eqS, low, Ki.d, fo, oD]
  · cases κ with
    | frm a b => cases b <;> simp [b__law_forth, parO, setV, Wo.c, eqS, low, Ki.d, fo, oD]
    | _ => simp [b__law_forth, parO, setV, Wo.c, eqS, low, Ki.d, fo, oD]
  · cases κ <;> simp [b__law_forth, parO, setV, Wo.c, eqS, low, Ki.d, fo, oD]
theorem e_lback (k : Nat) (w : Wo) (κ : Ki) (st : St) (ok : κ.ok = true) (hd : κ.dep ≤ 64) : callN pg (k + 1) i__law_back [.str w.c, κ.d] st = .ok (oD (ba w κ)) st := by
  rw [call_eq (d := ⟨2, 2, b__law_back⟩) rfl rfl]
  cases w
  · cases κ with
    | frm a b => cases b <;> simp [b__law_back, Wo.c, eqS, low, Ki.d, ba, oD]
    | _ => simp [b__law_back, Wo.c, eqS, low, Ki.d, ba, oD]
  · simp [b__law_back, Wo.c, eqS, low, ba, oD, Ki.d]
  · cases κ with
    | pair a b => cases a <;> simp [b__law_back, Wo.c, eqS, low, Ki.d, ba, oD]
    | _ => simp [b__law_back, Wo.c, eqS, low, Ki.d, ba, oD]
  · simp [b__law_back, Wo.c, eqS, low, ba, oD, Ki.d]
  · cases κ with
    | pair x y =>
      cases x with
      | frm a b =>
        cases y with
        | frm a' c =>
          simp only [Ki.ok, Bool.and_eq_true] at ok
          have E := eqK (κ := a) (τ := a') ok.1.1 ok.2.1 (by simp only [Ki.dep] at hd; omega)
          obtain ⟨u, hu⟩ : ∃ u, a.d = u := ⟨_, rfl⟩
          obtain ⟨u', hu'⟩ : ∃ u, a'.d = u := ⟨_, rfl⟩
          obtain ⟨β, hβ⟩ : ∃ β, decide (a = a') = β := ⟨_, rfl⟩
          have v : vw st u = u := by rw [← hu]; exact vw_d st a
          have v' : vw st u' = u' := by rw [← hu']; exact vw_d st a'
          have e : ba .split (.pair (.frm a b) (.frm a' c)) = if β = true then some (.frm a (.pair b c)) else none := by rw [← hβ]; simp [ba]
          rw [hu, hu', hβ] at E
          rw [e]
          clear hβ e
          cases β <;> simp [b__law_back, Wo.c, eqS, low, Ki.d, oD, hu, hu', E, v, v']
        | _ => simp [b__law_back, Wo.c, eqS, low, Ki.d, ba, oD]
      | _ => simp [b__law_back, Wo.c, eqS, low, Ki.d, ba, oD]
    | _ => simp [b__law_back, Wo.c, eqS, low, Ki.d, ba, oD]
  · cases κ <;> simp [b__law_back, Wo.c, eqS, low, Ki.d, ba, oD]
end K73

set_option Elab.async false
set_option linter.all false
set_option maxRecDepth 100000
/-! k73, plainly: paths. -/
namespace K73
open Ev PySem
def bi (b : Bool) : D := .int (if b then 1 else 0)
def pd (p : List Bool) : D := .tup (p.map bi)
def Ki.paths : Ki → List (List Bool)
  | .atom _ => [[]]
  | .noth => [[]]
  | .pair a b => [] :: (a.paths.map (false :: ·) ++ b.paths.map (true :: ·))
  | .frm a b => [] :: (a.paths.map (false :: ·) ++ b.paths.map (true :: ·))
theorem paths_len : ∀ κ : Ki, κ.paths.length + 1 = 2 * κ.wid
  | .atom _ => rfl
  | .noth => rfl
  | .pair a b => by have := paths_len a; have := paths_len b; simp [Ki.paths, Ki.wid]; omega
  | .frm a b => by have := paths_len a; have := paths_len b; simp [Ki.paths, Ki.wid]; omega
theorem path_dep : ∀ (κ : Ki), ∀ p ∈ κ.paths, p.length < κ.dep
  | .atom _, p, h => by simp [Ki.paths] at h; subst h; simp [Ki.dep]
  | .noth, p, h => by simp [Ki.paths] at h; subst h; simp [Ki.dep]
  | .pair a b, p, h => by
    simp only [Ki.paths, List.mem_cons, List.mem_append, List.mem_map] at h
    simp only [Ki.dep]
    rcases h with rfl | ⟨q, hq, rfl⟩ | ⟨q, hq, rfl⟩
    · simp; omega
    · have := path_dep a q hq; simp; omega
    · have := path_dep b q hq; simp; omega
  | .frm a b, p, h => by
    simp only [Ki.paths, List.mem_cons, List.mem_append, List.mem_map] at h
    simp only [Ki.dep]
    rcases h with rfl | ⟨q, hq, rfl⟩ | ⟨q, hq, rfl⟩
    · simp; omega
    · have := path_dep a q hq; simp; omega
    · have := path_dep b q hq; simp; omega
/-- a sign ahead of a path -/
def hd0 (c : Int) : D → D
  | .tup xs => .tup (.int c :: xs)
  | d => d
theorem map_hd0 (c : Bool) (xs : List (List Bool)) : (xs.map pd).map (hd0 (if c then 1 else 0)) = xs.map fun p => pd (c :: p) := by
  rw [List.map_map]
  exact List.map_congr_left fun p _ => rfl
theorem cat1 (c : Int) (p : List Bool) (h : p.length ≤ 1000) : binD .add (.tup [.int c]) (pd p) = some (hd0 c (pd p)) := by
  have : [D.int c].length + (p.map bi).length ≤ sizeLine := by rw [sizeLine_eq]; simp; omega
  exact binD_tup this
@[simp] theorem vw_pd (st : St) (p : List Bool) : vw st (pd p) = pd p := rfl
@[simp] theorem vwS_pd (st : St) (p : List Bool) : vwS st (pd p) = pd p := rfl
theorem lp0 (k : Nat) (u : Sl) (st : St) (xs : List (List Bool)) (h : xs.length ≤ 1000000) (h2 : ∀ p ∈ xs, p.length ≤ 1000) :
    lcL (callN pg k) pg.gl [u, .no] st p0__law_paths (.nm 1) (.cst (.bl true)) [1] (xs.map pd, []) = .ok (.lst (xs.map fun p => pd (false :: p))) st := by
  refine lcL_ok (by rw [sizeLine_eq]; simp; omega) ?_
  rw [← map_hd0 false]
  refine lc_map _ rfl fun x hx => ?_
  obtain ⟨p, hp, rfl⟩ := List.mem_map.mp hx
  simp [lcF, asgTg, wipeE, p0__law_paths, cat1 0 p (h2 p hp)]
theorem lp1 (k : Nat) (u : Sl) (st : St) (xs : List (List Bool)) (h : xs.length ≤ 1000000) (h2 : ∀ p ∈ xs, p.length ≤ 1000) :
    lcL (callN pg k) pg.gl [u, .no] st p1__law_paths (.nm 1) (.cst (.bl true)) [1] (xs.map pd, []) = .ok (.lst (xs.map fun p => pd (true :: p))) st := by
  refine lcL_ok (by rw [sizeLine_eq]; simp; omega) ?_
  rw [← map_hd0 true]
  refine lc_map _ rfl fun x hx => ?_
  obtain ⟨p, hp, rfl⟩ := List.mem_map.mp hx
  simp [lcF, asgTg, wipeE, p1__law_paths, cat1 1 p (h2 p hp)]
theorem e_lpaths (st : St) : ∀ (κ : Ki) (k : Nat), κ.dep ≤ k → κ.wid ≤ 1000 → κ.dep ≤ 1000 → callN pg k i__law_paths [κ.d] st = .ok (.lst (κ.paths.map pd)) st
  | .atom s, k, h, _, _ => by
    obtain ⟨k, rfl⟩ : ∃ k', k = k' + 1 := ⟨k - 1, by simp only [Ki.dep] at h; omega⟩
    rw [call_eq (d := ⟨1, 2, b__law_paths⟩) rfl rfl]
    simp [b__law_paths, Ki.d, in_A, Ki.paths, pd]
  | .noth, k, h, _, _ => by
    obtain ⟨k, rfl⟩ : ∃ k', k = k' + 1 := ⟨k - 1, by simp only [Ki.dep] at h; omega⟩
    rw [call_eq (d := ⟨1, 2, b__law_paths⟩) rfl rfl]
    simp [b__law_paths, Ki.d, in_N, Ki.paths, pd]
  | .pair a b, k, h, hw, hd => by
    simp only [Ki.dep] at h hd
    simp only [Ki.wid] at hw
    obtain ⟨k, rfl⟩ : ∃ k', k = k' + 1 := ⟨k - 1, by omega⟩
    have la := paths_len a
    have lb := paths_len b
    have e1 := e_lpaths st a k (by omega) (by omega) (by omega)
    have e2 := e_lpaths st b k (by omega) (by omega) (by omega)
    have q1 := fun u => lp0 k u st a.paths (by omega) fun p hp => by have := path_dep a p hp; omega
    have q2 := fun u => lp1 k u st b.paths (by omega) fun p hp => by have := path_dep b p hp; omega
    have c1 : binD .add (.lst [.tup []]) (.lst (a.paths.map fun p => pd (false :: p))) = some (.lst (.tup [] :: a.paths.map fun p => pd (false :: p))) := binD_lst (by rw [sizeLine_eq]; simp; omega)
    have c2 : binD .add (.lst (.tup [] :: a.paths.map fun p => pd (false :: p))) (.lst (b.paths.map fun p => pd (true :: p))) = some (.lst (.tup [] :: (a.paths.map fun p => pd (false :: p)) ++ b.paths.map fun p => pd (true :: p))) := binD_lst (by rw [sizeLine_eq]; simp; omega)
    rw [call_eq (d := ⟨1, 2, b__law_paths⟩) rfl rfl]
    simp [b__law_paths, Ki.d, in_P, e1, e2, q1, q2, c1, c2, Ki.paths, Function.comp_def]
    rfl
  | .frm a b, k, h, hw, hd => by
    simp only [Ki.dep] at h hd
    simp only [Ki.wid] at hw
    obtain ⟨k, rfl⟩ : ∃ k', k = k' + 1 := ⟨k - 1, by omega⟩
    have la := paths_len a
    have lb := paths_len b
    have e1 := e_lpaths st a k (by omega) (by omega) (by omega)
    have e2 := e_lpaths st b k (by omega) (by omega) (by omega)
    have q1 := fun u => lp0 k u st a.paths (by omega) fun p hp => by have := path_dep a p hp; omega
    have q2 := fun u => lp1 k u st b.paths (by omega) fun p hp => by have := path_dep b p hp; omega
    have c1 : binD .add (.lst [.tup []]) (.lst (a.paths.map fun p => pd (false :: p))) = some (.lst (.tup [] :: a.paths.map fun p => pd (false :: p))) := binD_lst (by rw [sizeLine_eq]; simp; omega)
    have c2 : binD .add (.lst (.tup [] :: a.paths.map fun p => pd (false :: p))) (.lst (b.paths.map fun p => pd (true :: p))) = some (.lst (.tup [] :: (a.paths.map fun p => pd (false :: p)) ++ b.paths.map fun p => pd (true :: p))) := binD_lst (by rw [sizeLine_eq]; simp; omega)
    rw [call_eq (d := ⟨1, 2, b__law_paths⟩) rfl rfl]
    simp [b__law_paths, Ki.d, in_F, e1, e2, q1, q2, c1, c2, Ki.paths, Function.comp_def]
    rfl
end K73

set_option Elab.async false
set_option linter.all false
set_option maxRecDepth 100000
/-! k73, plainly: paths of the program; what stands at a path. -/
namespace K73
open Ev PySem
theorem lq (k : Nat) (u w s : Sl) (c : Bool) (st : St) (xs : List (List Bool)) (h : xs.length ≤ 1000000) (h2 : ∀ p ∈ xs, p.length ≤ 1000) :
    lcL (callN pg k) pg.gl [u, w, .va (bi c), s] st p0_paths_of (.nm 3) (.cst (.bl true)) [3] (xs.map pd, []) = .ok (.lst (xs.map fun p => pd (c :: p))) st := by
  refine lcL_ok (by rw [sizeLine_eq]; simp; omega) ?_
  rw [← map_hd0 c]
  refine lc_map _ rfl fun x hx => ?_
  obtain ⟨p, hp, rfl⟩ := List.mem_map.mp hx
  simp [lcF, asgTg, wipeE, p0_paths_of, bi, cat1 _ p (h2 p hp)]
theorem path_turn (k : Nat) (τ : Ki) (κd : D) (c : Bool) (ys : List D) (s2 s3 : Sl) (st : St) (hi : idxD (vwS st κd) (.int ((if c then 1 else 0) + 1)) = some τ.d) (e : callN pg k i_paths_of [τ.d] st = .ok (.lst (τ.paths.map pd)) st)
    (hw : τ.wid ≤ 1000) (hd : τ.dep ≤ 1000) (hy : ys.length ≤ 100000) :
    forF (callN pg k) pg.gl (.nm 2) p1_paths_of (bi c) [.va κd, .ow ys, s2, s3] st = .nx [.va κd, .ow (ys ++ τ.paths.map fun p => pd (c :: p)), .va (bi c), s3] st := by
  have l := paths_len τ
  have q := lq k (.va κd) (.ow ys) s3 c st τ.paths (by omega) fun p hp => by have := path_dep τ p hp; omega
  have z : ys.length + τ.paths.length ≤ sizeLine := by rw [sizeLine_eq]; omega
  cases c <;> simp [bi] at hi <;> simp [bi] at q <;> simp [forF, asgTg, p1_paths_of, bi, hi, e, q, z]
theorem e_paths (st : St) : ∀ (κ : Ki) (k : Nat), κ.dep + 1 ≤ k → κ.wid ≤ 1000 → κ.dep ≤ 1000 → callN pg k i_paths_of [κ.d] st = .ok (.lst (κ.paths.map pd)) st
  | .atom s, k, h, _, _ => by
    obtain ⟨k, rfl⟩ : ∃ k', k = k' + 2 := ⟨k - 2, by simp only [Ki.dep] at h; omega⟩
    rw [call_eq (d := ⟨1, 4, b_paths_of⟩) rfl rfl]
    simp [b_paths_of, e_leaf k (.atom s) st, Ki.isL, Ki.paths, pd, setV]
  | .noth, k, h, _, _ => by
    obtain ⟨k, rfl⟩ : ∃ k', k = k' + 2 := ⟨k - 2, by simp only [Ki.dep] at h; omega⟩
    rw [call_eq (d := ⟨1, 4, b_paths_of⟩) rfl rfl]
    simp [b_paths_of, e_leaf k .noth st, Ki.isL, Ki.paths, pd, setV]
  | .pair a b, k, h, hw, hd => by
    simp only [Ki.dep] at h hd
    simp only [Ki.wid] at hw
    obtain ⟨k, rfl⟩ : ∃ k', k = k' + 2 := ⟨k - 2, by omega⟩
    have la := paths_len a
    have lb := paths_len b
    have e1 := e_paths st a (k + 1) (by omega) (by omega) (by omega)
    have e2 := e_paths st b (k + 1) (by omega) (by omega) (by omega)
    have t1 := fun s2 s3 => path_turn (k + 1) a (Ki.pair a b).d false [.tup []] s2 s3 st (by simp [Ki.d]) e1 (by omega) (by omega) (by simp)
    have t2 := fun s2 s3 => path_turn (k + 1) b (Ki.pair a b).d true ([.tup []] ++ a.paths.map fun p => pd (false :: p)) s2 s3 st (by simp [Ki.d]) e2 (by omega) (by omega) (by simp; omega)
    have e0 := e_leaf k (.pair a b) st
    have lp : ∀ s2 s3, forLoop (forF (callN pg (k + 1)) pg.gl (.nm 2) p1_paths_of) [] [.int 0, .int 1] [.va (Ki.pair a b).d, .ow [.tup []], s2, s3] st =
        .nx [.va (Ki.pair a b).d, .ow ((Ki.pair a b).paths.map pd), .va (.int 1), s3] st := fun s2 s3 => by
      refine (for_nx (x := bi false) (xs := [bi true]) rfl (t1 s2 s3)).trans ((for_nx (x := bi true) (xs := []) rfl (t2 _ s3)).trans ((for_nil rfl).trans ?_))
      simp [Ki.paths, pd, bi, Function.comp_def]
    rw [call_eq (d := ⟨1, 4, b_paths_of⟩) rfl rfl]
    obtain ⟨x, hx⟩ : ∃ x, (Ki.pair a b).d = x := ⟨_, rfl⟩
    rw [hx] at e0 lp
    rw [hx]
    simp [b_paths_of, e0, Ki.isL, setV, lp]
  | .frm a b, k, h, hw, hd => by
    simp only [Ki.dep] at h hd
    simp only [Ki.wid] at hw
    obtain ⟨k, rfl⟩ : ∃ k', k = k' + 2 := ⟨k - 2, by omega⟩
    have la := paths_len a
    have lb := paths_len b
    have e1 := e_paths st a (k + 1) (by omega) (by omega) (by omega)
    have e2 := e_paths st b (k + 1) (by omega) (by omega) (by omega)
    have t1 := fun s2 s3 => path_turn (k + 1) a (Ki.frm a b).d false [.tup []] s2 s3 st (by simp [Ki.d]) e1 (by omega) (by omega) (by simp)
    have t2 := fun s2 s3 => path_turn (k + 1) b (Ki.frm a b).d true ([.tup []] ++ a.paths.map fun p => pd (false :: p)) s2 s3 st (by simp [Ki.d]) e2 (by omega) (by omega) (by simp; omega)
    have e0 := e_leaf k (.frm a b) st
    have lp : ∀ s2 s3, forLoop (forF (callN pg (k + 1)) pg.gl (.nm 2) p1_paths_of) [] [.int 0, .int 1] [.va (Ki.frm a b).d, .ow [.tup []], s2, s3] st =
        .nx [.va (Ki.frm a b).d, .ow ((Ki.frm a b).paths.map pd), .va (.int 1), s3] st := fun s2 s3 => by
      refine (for_nx (x := bi false) (xs := [bi true]) rfl (t1 s2 s3)).trans ((for_nx (x := bi true) (xs := []) rfl (t2 _ s3)).trans ((for_nil rfl).trans ?_))
      simp [Ki.paths, pd, bi, Function.comp_def]
    rw [call_eq (d := ⟨1, 4, b_paths_of⟩) rfl rfl]
    obtain ⟨x, hx⟩ : ∃ x, (Ki.frm a b).d = x := ⟨_, rfl⟩
    rw [hx] at e0 lp
    rw [hx]
    simp [b_paths_of, e0, Ki.isL, setV, lp]
end K73

set_option Elab.async false
set_option linter.all false
set_option maxRecDepth 100000
/-! k73, plainly: what stands at a path; put there. -/
namespace K73
open Ev PySem
def Ki.at : Ki → List Bool → Option Ki
  | κ, [] => some κ
  | .pair a b, c :: p => if c then b.at p else a.at p
  | .frm a b, c :: p => if c then b.at p else a.at p
  | .atom _, _ :: _ => none
  | .noth, _ :: _ => none
def Ki.put : Ki → List Bool → Ki → Ki
  | _, [], l => l
  | .pair a b, c :: p, l => if c then .pair a (b.put p l) else .pair (a.put p l) b
  | .frm a b, c :: p, l => if c then .frm a (b.put p l) else .frm (a.put p l) b
  | .atom s, _ :: _, _ => .atom s
  | .noth, _ :: _, _ => .noth
theorem Ki.at_cons {κ τ : Ki} {c : Bool} {p : List Bool} (h : κ.at (c :: p) = some τ) : ∃ σ : Ki, idxD κ.d (.int ((if c then 1 else 0) + 1)) = some σ.d ∧ σ.at p = some τ ∧ σ.dep < κ.dep ∧ (κ.ok = true → σ.ok = true) ∧ κ.isL = false := by
  cases κ with
  | atom s => simp [Ki.at] at h
  | noth => simp [Ki.at] at h
  | pair a b =>
    cases c
    · exact ⟨a, by simp [Ki.d], by simpa [Ki.at] using h, by simp only [Ki.dep]; omega, fun q => by simp only [Ki.ok, Bool.and_eq_true] at q; exact q.1, rfl⟩
    · exact ⟨b, by simp [Ki.d], by simpa [Ki.at] using h, by simp only [Ki.dep]; omega, fun q => by simp only [Ki.ok, Bool.and_eq_true] at q; exact q.2, rfl⟩
  | frm a b =>
    cases c
    · exact ⟨a, by simp [Ki.d], by simpa [Ki.at] using h, by simp only [Ki.dep]; omega, fun q => by simp only [Ki.ok, Bool.and_eq_true] at q; exact q.1, rfl⟩
    · exact ⟨b, by simp [Ki.d], by simpa [Ki.at] using h, by simp only [Ki.dep]; omega, fun q => by simp only [Ki.ok, Bool.and_eq_true] at q; exact q.2, rfl⟩
theorem at_loop (k : Nat) (u : D) (st : St) : ∀ (p : List Bool) (κ τ : Ki) (s : Sl), κ.at p = some τ → ∃ s', forLoop (forF (callN pg k) pg.gl (.nm 2) p0_at_path_of) [] (p.map bi) [.va κ.d, .va u, s] st = .nx [.va τ.d, .va u, s'] st
  | [], κ, τ, s, h => by
    simp only [Ki.at, Option.some.injEq] at h
    subst h
    exact ⟨s, for_nil rfl⟩
  | c :: p, κ, τ, s, h => by
    obtain ⟨σ, h1, h2, _⟩ := Ki.at_cons h
    obtain ⟨s', h3⟩ := at_loop k u st p σ τ (.va (bi c)) h2
    refine ⟨s', (for_nx (env' := [.va σ.d, .va u, .va (bi c)]) (st' := st) rfl ?_).trans h3⟩
    cases c <;> simp at h1 <;> simp [forF, asgTg, p0_at_path_of, bi, h1, setV]
theorem e_at (k : Nat) (κ τ : Ki) (p : List Bool) (st : St) (h : κ.at p = some τ) : callN pg (k + 1) i_at_path_of [κ.d, pd p] st = .ok τ.d st := by
  obtain ⟨s', e⟩ := at_loop k (pd p) st p κ τ .no h
  rw [call_eq (d := ⟨2, 3, b_at_path_of⟩) rfl rfl]
  have q : seqOf st (pd p) = some (p.map bi, []) := rfl
  simp [b_at_path_of, q, e]
theorem lat_loop (k : Nat) (u : D) (st : St) : ∀ (p : List Bool) (κ τ : Ki) (s : Sl), κ.at p = some τ → ∃ s', forLoop (forF (callN pg k) pg.gl (.nm 2) p0__law_at) [] (p.map bi) [.va κ.d, .va u, s] st = .nx [.va τ.d, .va u, s'] st
  | [], κ, τ, s, h => by
    simp only [Ki.at, Option.some.injEq] at h
    subst h
    exact ⟨s, for_nil rfl⟩
  | c :: p, κ, τ, s, h => by
    obtain ⟨σ, h1, h2, _⟩ := Ki.at_cons h
    obtain ⟨s', h3⟩ := lat_loop k u st p σ τ (.va (bi c)) h2
    refine ⟨s', (for_nx (env' := [.va σ.d, .va u, .va (bi c)]) (st' := st) rfl ?_).trans h3⟩
    cases c <;> simp at h1 <;> simp [forF, asgTg, p0__law_at, bi, h1, setV]
theorem e_lat (k : Nat) (κ τ : Ki) (p : List Bool) (st : St) (h : κ.at p = some τ) : callN pg (k + 1) i__law_at [κ.d, pd p] st = .ok τ.d st := by
  obtain ⟨s', e⟩ := lat_loop k (pd p) st p κ τ .no h
  rw [call_eq (d := ⟨2, 3, b__law_at⟩) rfl rfl]
  have q : seqOf st (pd p) = some (p.map bi, []) := rfl
  simp [b__law_at, q, e]
end K73

set_option Elab.async false
set_option linter.all false
set_option maxRecDepth 100000
/-! k73, plainly: something put at a path. -/
namespace K73
open Ev PySem
theorem pd_nil_eqv : ∀ p : List Bool, PyData.eqv (pd p).py (D.tup []).py = decide (p = [])
  | [] => by simp [pd, tup_eqv, nil_eqv]
  | c :: p => by simp [pd, tup_eqv, cons_nil_eqv]
theorem bi_lay (c : Bool) : (bi c).py.canLay0 = true := rfl
theorem pds_lay : ∀ p : List Bool, PyData.canLayAll0 (D.pys (p.map bi)) = true
  | [] => rfl
  | c :: p => by simp [D.pys, PyData.canLayAll0, bi_lay, pds_lay p]
theorem eqPd (p : List Bool) : eqD (pd p) (.tup []) = some (decide (p = [])) := by
  have h1 : (pd p).py.canLay0 = true := by simp [pd, D.py, PyData.canLay0, pds_lay p]
  unfold eqD
  rw [h1, pd_nil_eqv]
  simp [D.py, D.pys, PyData.canLay0, PyData.canLayAll0, PyData.depth, PyData.depthAll]
  omega
theorem pd_idx0 (c : Bool) (p : List Bool) : idxD (pd (c :: p)) (.int 0) = some (bi c) := by simp [pd]
theorem cut_tail {α : Type} (x : α) (r : List α) : cutL (x :: r) (some 1) none = r := by
  have h : HT.sIx (r.length + 1) 0 (some 1) = 1 := by simp [HT.sIx]
  unfold cutL
  rw [List.length_cons, h]
  simp [HT.sIx]
theorem pd_tail (c : Bool) (p : List Bool) : slcD (pd (c :: p)) (.int 1) .non = some (pd p) := by
  simp [slcD, bndD, pd, cut_tail]
theorem e_put (st : St) : ∀ (p : List Bool) (κ : Ki) (k : Nat) (l : Ki), (κ.at p).isSome = true → p.length + 1 ≤ k → callN pg k i_put_at_path [κ.d, pd p, l.d] st = .ok (κ.put p l).d st
  | [], κ, k, l, h, hk => by
    obtain ⟨k, rfl⟩ : ∃ k', k = k' + 1 := ⟨k - 1, by simp at hk; omega⟩
    rw [call_eq (d := ⟨3, 3, b_put_at_path⟩) rfl rfl]
    have e : κ.put [] l = l := by cases κ <;> rfl
    rw [e]
    obtain ⟨u, hu⟩ : ∃ u, pd [] = u := ⟨_, rfl⟩
    have q := eqPd []
    have v : vw st u = u := by rw [← hu]; rfl
    rw [hu] at q
    rw [hu]
    simp [b_put_at_path, q, v]
  | c :: p, κ, k, l, h, hk => by
    obtain ⟨k, rfl⟩ : ∃ k', k = k' + 1 := ⟨k - 1, by simp at hk; omega⟩
    have q := eqPd (c :: p)
    have q0 := pd_idx0 c p
    have q1 := pd_tail c p
    obtain ⟨u, hu⟩ : ∃ u, pd (c :: p) = u := ⟨_, rfl⟩
    have v : vw st u = u := by rw [← hu]; rfl
    have v' : vwS st u = u := by rw [← hu]; rfl
    rw [hu] at q q0 q1
    rw [hu]
    rw [call_eq (d := ⟨3, 3, b_put_at_path⟩) rfl rfl]
    simp at hk
    cases κ with
    | atom s => simp [Ki.at] at h
    | noth => simp [Ki.at] at h
    | pair a b =>
      cases c with
      | true =>
        have ih := e_put st p b k l (by simpa [Ki.at] using h) (by omega)
        simp [b_put_at_path, Ki.d, Ki.put, q, q0, q1, v, v', ih, bi]
      | false =>
        have ih := e_put st p a k l (by simpa [Ki.at] using h) (by omega)
        simp [b_put_at_path, Ki.d, Ki.put, q, q0, q1, v, v', ih, bi]
    | frm a b =>
      cases c with
      | true =>
        have ih := e_put st p b k l (by simpa [Ki.at] using h) (by omega)
        simp [b_put_at_path, Ki.d, Ki.put, q, q0, q1, v, v', ih, bi]
      | false =>
        have ih := e_put st p a k l (by simpa [Ki.at] using h) (by omega)
        simp [b_put_at_path, Ki.d, Ki.put, q, q0, q1, v, v', ih, bi]
theorem slc3 (x y z : D) : cutL [x, y, z] none (some 1) = [x] ∧ cutL [x, y, z] none (some 2) = [x, y] ∧ cutL [x, y, z] (some 2) none = [z] ∧ cutL [x, y, z] (some 3) none = [] := by
  refine ⟨?_, ?_, ?_, ?_⟩ <;> simp [cutL, HT.sIx]
theorem sl1 (x y z : D) : slcD (.tup [x, y, z]) .non (.int 1) = some (.tup [x]) := by simp [slcD, bndD, slc3]
theorem sl2 (x y z : D) : slcD (.tup [x, y, z]) .non (.int 2) = some (.tup [x, y]) := by simp [slcD, bndD, slc3]
theorem sl3 (x y z : D) : slcD (.tup [x, y, z]) (.int 2) .non = some (.tup [z]) := by simp [slcD, bndD, slc3]
theorem sl4 (x y z : D) : slcD (.tup [x, y, z]) (.int 3) .non = some (.tup []) := by simp [slcD, bndD, slc3]
theorem e_lput (st : St) : ∀ (p : List Bool) (κ : Ki) (k : Nat) (l : Ki), (κ.at p).isSome = true → p.length + 1 ≤ k → callN pg k i__law_put [κ.d, pd p, l.d] st = .ok (κ.put p l).d st
  | [], κ, k, l, h, hk => by
    obtain ⟨k, rfl⟩ : ∃ k', k = k' + 1 := ⟨k - 1, by simp at hk; omega⟩
    rw [call_eq (d := ⟨3, 4, b__law_put⟩) rfl rfl]
    have e : κ.put [] l = l := by cases κ <;> rfl
    rw [e]
    obtain ⟨u, hu⟩ : ∃ u, pd [] = u := ⟨_, rfl⟩
    have q := eqPd []
    have v : vw st u = u := by rw [← hu]; rfl
    rw [hu] at q
    rw [hu]
    simp [b__law_put, q, v]
  | c :: p, κ, k, l, h, hk => by
    obtain ⟨k, rfl⟩ : ∃ k', k = k' + 1 := ⟨k - 1, by simp at hk; omega⟩
    have q := eqPd (c :: p)
    have q0 := pd_idx0 c p
    have q1 := pd_tail c p
    obtain ⟨u, hu⟩ : ∃ u, pd (c :: p) = u := ⟨_, rfl⟩
    have v : vw st u = u := by rw [← hu]; rfl
    have v' : vwS st u = u := by rw [← hu]; rfl
    rw [hu] at q q0 q1
    rw [hu]
    rw [call_eq (d := ⟨3, 4, b__law_put⟩) rfl rfl]
    simp at hk
    cases κ with
    | atom s => simp [Ki.at] at h
    | noth => simp [Ki.at] at h
    | pair a b =>
      cases c with
      | true =>
        have ih := e_lput st p b k l (by simpa [Ki.at] using h) (by omega)
        simp [b__law_put, Ki.d, Ki.put, q, q0, q1, v, v', ih, bi, setV, sl1, sl2, sl3, sl4, binD, catL, sizeLine]
      | false =>
        have ih := e_lput st p a k l (by simpa [Ki.at] using h) (by omega)
        simp [b__law_put, Ki.d, Ki.put, q, q0, q1, v, v', ih, bi, setV, sl1, sl2, sl3, sl4, binD, catL, sizeLine]
    | frm a b =>
      cases c with
      | true =>
        have ih := e_lput st p b k l (by simpa [Ki.at] using h) (by omega)
        simp [b__law_put, Ki.d, Ki.put, q, q0, q1, v, v', ih, bi, setV, sl1, sl2, sl3, sl4, binD, catL, sizeLine]
      | false =>
        have ih := e_lput st p a k l (by simpa [Ki.at] using h) (by omega)
        simp [b__law_put, Ki.d, Ki.put, q, q0, q1, v, v', ih, bi, setV, sl1, sl2, sl3, sl4, binD, catL, sizeLine]
end K73

set_option Elab.async false
set_option linter.all false
set_option maxRecDepth 100000
/-! k73, plainly: moves. -/
namespace K73
open Ev PySem
/-- a move -/
structure Mv where
  w : Wo
  f : Bool
  p : List Bool
  deriving DecidableEq
def Mv.d (m : Mv) : D := .tup [.str m.w.c, .str (dirC m.f), pd m.p]
/-- where it leads -/
def mvd (κ : Ki) (m : Mv) : Option Ki := (κ.at m.p).bind fun τ => (led m.w m.f τ).map fun l => κ.put m.p l
theorem Ki.at_ok : ∀ (p : List Bool) {κ τ : Ki}, κ.at p = some τ → (κ.ok = true → τ.ok = true) ∧ τ.dep + p.length ≤ κ.dep
  | [], κ, τ, h => by
    simp only [Ki.at, Option.some.injEq] at h
    subst h
    exact ⟨id, by simp⟩
  | c :: p, κ, τ, h => by
    obtain ⟨σ, _, h2, h3, h4, _⟩ := Ki.at_cons h
    obtain ⟨g1, g2⟩ := Ki.at_ok p h2
    exact ⟨fun q => g1 (h4 q), by simp; omega⟩
theorem e_told (k : Nat) (a b c : D) (st : St) : callN pg (k + 1) i_told_of [.tup [a, b, c]] st = .ok .non st := by
  rw [call_eq (d := ⟨1, 1, b_told_of⟩) rfl rfl]
  simp [b_told_of]
theorem e_moved (k : Nat) (κ τ : Ki) (m : Mv) (st : St) (ok : κ.ok = true) (hd : κ.dep ≤ 64) (ht : κ.at m.p = some τ) : callN pg (k + 70) i_moved_of [κ.d, m.d] st = .ok (oD (mvd κ m)) st := by
  obtain ⟨h1, h2⟩ := Ki.at_ok m.p ht
  have E1 := e_at (k + 68) κ τ m.p st ht
  have E2 := e_told (k + 68) (.str m.w.c) (.str (dirC m.f)) (pd m.p) st
  have E3 := e_led (k + 65) m.w m.f τ .non st (h1 ok) (by omega)
  have E4 := fun l => e_put st m.p κ (k + 69) l (by rw [ht]; rfl) (by omega)
  rw [call_eq (d := ⟨2, 3, b_moved_of⟩) rfl rfl]
  unfold mvd
  rw [ht]
  cases e : led m.w m.f τ with
  | none =>
    rw [e] at E3
    simp only [oD] at E3
    simp [b_moved_of, Mv.d, E1, E2, E3, setV, e, oD]
  | some l =>
    rw [e] at E3
    simp only [oD] at E3
    have n : ¬ (l.d = D.non) := by cases l <;> simp [Ki.d]
    simp [b_moved_of, Mv.d, E1, E2, E3, E4, setV, e, oD, n]
theorem e_lmoved (k : Nat) (κ τ : Ki) (m : Mv) (st : St) (ok : κ.ok = true) (hd : κ.dep ≤ 20) (ht : κ.at m.p = some τ) (hf : ∀ l, mvd κ m = some l → l.dep ≤ 60) : callN pg (k + 70) i__law_moved [κ.d, m.d] st = .ok (oD ((mvd κ m).filter Ki.fit)) st := by
  obtain ⟨h1, h2⟩ := Ki.at_ok m.p ht
  have E1 := e_lat (k + 68) κ τ m.p st ht
  have E2 := e_lforth (k + 68) m.w τ st (h1 ok)
  have E3 := e_lback (k + 68) m.w τ st (h1 ok) (by omega)
  have E4 := fun l => e_lput st m.p κ (k + 69) l (by rw [ht]; rfl) (by omega)
  have E0 : callN pg (k + 69) (if m.f = true then i__law_forth else i__law_back) [.str m.w.c, τ.d] st = .ok (oD (led m.w m.f τ)) st := by
    cases e : m.f
    · simpa [led] using E3
    · simpa [led] using E2
  have D1 : eqD (.str (dirC m.f)) (.str cFo) = some m.f := by cases m.f <;> decide +kernel
  rw [call_eq (d := ⟨2, 5, b__law_moved⟩) rfl rfl]
  unfold mvd at hf ⊢
  rw [ht] at hf ⊢
  simp only [cFo] at D1
  cases e : led m.w m.f τ with
  | none =>
    rw [e] at E0
    simp only [oD] at E0
    cases hm : m.f <;> rw [hm] at E0 D1 e <;> simp at E0 <;> simp [b__law_moved, Mv.d, hm, E1, D1, E0, setV, e, oD]
  | some l =>
    rw [e] at E0
    simp only [oD] at E0
    have hf := hf (κ.put m.p l) (by simp [e])
    have n : ¬ (l.d = D.non) := by cases l <;> simp [Ki.d]
    have n2 : ¬ ((κ.put m.p l).d = D.non) := by cases κ.put m.p l <;> simp [Ki.d]
    have E5 := e_fit (k + 68) (κ.put m.p l) st (by omega)
    obtain ⟨β, hβ⟩ : ∃ β, (κ.put m.p l).fit = β := ⟨_, rfl⟩
    have e6 : ((some τ).bind fun τ => Option.map (fun l => κ.put m.p l) (led m.w m.f τ)).filter Ki.fit = if β = true then some (κ.put m.p l) else none := by
      simp [e, Option.filter, hβ]
    rw [e6]
    rw [hβ] at E5
    clear hβ e6
    cases hm : m.f <;> rw [hm] at E0 D1 <;> simp at E0 <;> cases β <;> simp [b__law_moved, Mv.d, hm, E1, D1, E0, E4, E5, setV, oD, n, n2]
end K73

set_option Elab.async false
set_option linter.all false
set_option maxRecDepth 100000
/-! k73, plainly: any value as a name. -/
namespace K73
open Ev PySem
theorem noRef_ok {v : D} (h : okD v = true) : noRef v = true := by cases v <;> first | rfl | simp [okD] at h
theorem ok_mem {xs : List D} (h : okDs xs = true) {x : D} (hx : x ∈ xs) : okD x = true := okDs_iff.mp h x hx
def sgnOk : D → Bool
  | .str [c] => decide (97 ≤ c) && decide (c ≤ 122)
  | _ => false
def isName : D → Bool
  | .str x => nmOk x
  | _ => false
theorem e_is_name (k : Nat) (v : D) (st : St) (h : okD v = true) (hl : ln v ≤ sizeLine) : callN pg (k + 1) i_is_name [v] st = .ok (.bl (isName v)) st := by
  rw [call_eq (d := ⟨1, 2, b_is_name⟩) rfl rfl]
  cases v with
  | str x =>
    have hx : x.length ≤ sizeLine := by simp only [ln] at hl; omega
    have hz : (x.map fun c => D.str [c]).length ≤ sizeLine := by simpa using hx
    have lc := lc_map (gs := []) (env := [.va (.str x), .no]) (f := lcF (callN pg k) pg.gl [.va (.str x), .no] p0_is_name (.nm 1) (.cst (.bl true)) [1]) (st := st) (fun d => .bl (sgnOk d)) (xs := x.map fun c => D.str [c]) rfl (by
      intro d hd
      obtain ⟨c, _, rfl⟩ := List.mem_map.mp hd
      simp [lcF, asgTg, wipeE, p0_is_name, isinD, sgnOk]
      rw [Bool.eq_iff_iff]; simp; omega)
    have lc2 := lcL_ok (cf := callN pg k) (gl := pg.gl) (env := [.va (.str x), .no]) (st := st) hz lc
    have e : ∀ x : List Nat, ((x.map fun c => D.str [c]).all sgnOk) = x.all fun c => decide (97 ≤ c) && decide (c ≤ 122) := fun x => by
      rw [List.all_map]; rfl
    simp [b_is_name, tyIs, isName, Function.comp_def]
    by_cases h1 : (1 : Int) ≤ x.length
    · have h1' : 1 ≤ x.length := by omega
      by_cases h2 : (x.length : Int) ≤ 8
      · have h2' : x.length ≤ 8 := by omega
        have am := all_map sgnOk (x.map fun c => D.str [c])
        rw [e] at am
        simp only [List.map_map, Function.comp_def] at am lc2
        simp [h1, h2, h1', h2', lc2, am, nmOk, Function.comp_def]
      · have h2' : ¬ x.length ≤ 8 := by omega
        simp [h1, h2, h2', nmOk]
    · have h1' : ¬ 1 ≤ x.length := by omega
      have h3 : x.length = 0 := by omega
      simp [h1, h3, nmOk]
  | _ => first | (simp [okD] at h; done) | simp [b_is_name, tyIs, isName]
end K73

set_option Elab.async false
set_option linter.all false
set_option maxRecDepth 100000
/-! k73, plainly: any value as a kind. -/
namespace K73
open Ev PySem
def built : Nat → D → Bool
  | 0, _ => false
  | m + 1, v => match v with
    | .tup (.str t :: r) => if t = cA then (match r with
        | [x] => isName x
        | _ => false) else if t = cN then r.isEmpty else if t = cP ∨ t = cF then (match r with
        | [x, y] => built m x && built m y
        | _ => false) else false
    | _ => false
theorem inPF {t : List Nat} (h : low t = true) : isinD (.str t) (.tup [.str cP, .str cF]) = some (decide (t = cP ∨ t = cF)) := by
  have l := low_lay h
  have lp := low_lay (show low cP = true by decide)
  have lf := low_lay (show low cF = true by decide)
  have s : SeqAt.shaped (D.str t).py = true := by
    unfold SeqAt.shaped
    rw [l]
    simp [D.py, PyData.depth]
  have c : PyData.canLayAll0 (D.pys [.str cP, .str cF]) = true := by simp only [D.pys, PyData.canLayAll0, lp, lf, Bool.and_true]
  have e : ∀ x : List Nat, PyData.eqv (D.str x).py (D.str t).py = decide (t = x) := fun x => by rw [str_eqv]; exact decide_eq_decide.mpr eq_comm
  simp only [isinD, inD]
  rw [s, c]
  simp only [Bool.and_self, if_true, List.any_cons, List.any_nil, e, Bool.or_false]
  congr 1
  rw [Bool.eq_iff_iff]; simp
theorem e_built (st : St) : ∀ (m k : Nat) (v : D), m + 2 ≤ k → okD v = true → ln v ≤ sizeLine → callN pg k i_is_built [v, .int m] st = .ok (.bl (built m v)) st := by
  intro m
  induction m with
  | zero =>
    intro k v hk _ _
    obtain ⟨k, rfl⟩ : ∃ k', k = k' + 1 := ⟨k - 1, by omega⟩
    rw [call_eq (d := ⟨2, 2, b_is_built⟩) rfl rfl]
    simp [b_is_built, built]
  | succ m ih =>
    intro k v hk ho hl
    obtain ⟨k, rfl⟩ : ∃ k', k = k' + 2 := ⟨k - 2, by omega⟩
    have hm : ¬ ((m : Int) + 1 = 0) := by omega
    have vv : vw st v = v := vw_ok ho
    have vs : vwS st v = v := vwS_ok ho
    rw [call_eq (d := ⟨2, 2, b_is_built⟩) rfl rfl]
    cases v with
    | tup xs =>
      cases xs with
      | nil =>
        have q : eqD (.tup []) (.tup []) = some true := by decide +kernel
        simp [b_is_built, built, hm, tyIs, q]
      | cons x r =>
        have q : eqD (.tup (x :: r)) (.tup []) = some false := by
          rw [eqD_ok ho rfl (by (simp [dp, dps]) <;> omega), tup_eqv, cons_nil_eqv]
        have hx : okD x = true := by simp only [okD, okDs, Bool.and_eq_true] at ho; exact ho.1
        have hr : okDs r = true := by simp only [okD, okDs, Bool.and_eq_true] at ho; exact ho.2
        cases x with
        | str t =>
          have lt : low t = true := hx
          have qA := eqS lt (show low cA = true by decide)
          have qN := eqS lt (show low cN = true by decide)
          have qI := inPF lt
          have hs := tyIs .tstr (.str t)
          by_cases hA : t = cA
          · subst hA
            match r, hr with
            | [], _ => simp [b_is_built, built, hm, tyIs, q, qA]
            | [y], hr =>
              have en := e_is_name k y st (by simpa [okDs] using hr) (by simp [ln, lns] at hl; omega)
              simp [b_is_built, built, hm, tyIs, q, qA, en]
            | y :: z :: w, _ =>
              have n : ¬ (((w.length : Int) + 1 + 1 + 1) = 2) := by omega
              simp [b_is_built, built, hm, tyIs, q, qA, n]
          · by_cases hN : t = cN
            · subst hN
              match r, hr with
              | [], _ => simp [b_is_built, built, hm, tyIs, q, qA, qN]
              | y :: w, _ =>
                have n : ¬ (((w.length : Int) + 1 + 1) = 1) := by omega
                simp [b_is_built, built, hm, tyIs, q, qA, qN, n]
            · by_cases hI : t = cP ∨ t = cF
              · simp only [hA, decide_false] at qA
                simp only [hN, decide_false] at qN
                simp only [hI, decide_true] at qI
                match r, hr with
                | [], _ => simp [b_is_built, built, hm, tyIs, q, qA, qN, qI, hA, hN, hI]
                | [y], _ => simp [b_is_built, built, hm, tyIs, q, qA, qN, qI, hA, hN, hI]
                | [y, z], hr =>
                  have e1 := ih (k + 1) y (by omega) (by simp [okDs] at hr; exact hr.1) (by simp [ln, lns] at hl; omega)
                  have e2 := ih (k + 1) z (by omega) (by simp [okDs] at hr; exact hr.2) (by simp [ln, lns] at hl; omega)
                  cases hb : built m y <;> rw [hb] at e1 <;> simp [b_is_built, built, hm, tyIs, q, qA, qN, qI, hA, hN, hI, e1, e2, hb]
                | y :: z :: x :: w, _ =>
                  have n : ¬ (((w.length : Int) + 1 + 1 + 1 + 1) = 3) := by omega
                  simp [b_is_built, built, hm, tyIs, q, qA, qN, qI, hA, hN, hI, n]
              · simp only [hA, decide_false] at qA
                simp only [hN, decide_false] at qN
                simp only [hI, decide_false] at qI
                simp [b_is_built, built, hm, tyIs, q, qA, qN, qI, hA, hN, hI]
        | _ => first | (simp [okD] at hx; done) | simp [b_is_built, built, hm, tyIs, q]
    | _ => first | (simp [okD] at ho; done) | simp [b_is_built, built, hm, tyIs]
end K73

set_option Elab.async false
set_option linter.all false
set_option maxRecDepth 100000
/-! k73, plainly: what is a kind. -/
namespace K73
open Ev PySem
theorem built_ki : ∀ (m : Nat) (v : D), built m v = true → ∃ κ : Ki, v = κ.d ∧ κ.ok = true ∧ κ.dep ≤ m := by
  intro m
  induction m with
  | zero => intro v h; cases h
  | succ m ih =>
    intro v h
    unfold built at h
    split at h
    · rename_i t r
      split at h
      · rename_i hA
        subst hA
        split at h
        · rename_i x
          cases x with
          | str s => exact ⟨.atom s, rfl, h, by simp only [Ki.dep]; omega⟩
          | _ => cases h
        · cases h
      · split at h
        · rename_i hN
          subst hN
          rw [List.isEmpty_iff] at h
          subst h
          exact ⟨.noth, rfl, rfl, by simp only [Ki.dep]; omega⟩
        · split at h
          · rename_i hI
            split at h
            · rename_i x y
              rw [Bool.and_eq_true] at h
              obtain ⟨a, rfl, a1, a2⟩ := ih x h.1
              obtain ⟨b, rfl, b1, b2⟩ := ih y h.2
              rcases hI with rfl | rfl
              · exact ⟨.pair a b, rfl, by simp [Ki.ok, a1, b1], by simp only [Ki.dep]; omega⟩
              · exact ⟨.frm a b, rfl, by simp [Ki.ok, a1, b1], by simp only [Ki.dep]; omega⟩
            · cases h
          · cases h
    · cases h
theorem ki_built : ∀ (κ : Ki) (m : Nat), κ.ok = true → built m κ.d = decide (κ.dep ≤ m)
  | κ, 0, _ => by
    have := κ.dep_pos
    simp [built]
    omega
  | .atom s, m + 1, h => by
    have h : nmOk s = true := h
    simp [built, Ki.d, isName, h, Ki.dep]
  | .noth, m + 1, h => by simp [built, Ki.d, Ki.dep]
  | .pair a b, m + 1, h => by
    simp only [Ki.ok, Bool.and_eq_true] at h
    have hd : (Ki.pair a b).dep = 1 + max a.dep b.dep := rfl
    have e : decide ((Ki.pair a b).dep ≤ m + 1) = (decide (a.dep ≤ m) && decide (b.dep ≤ m)) := by
      rw [Bool.eq_iff_iff, Bool.and_eq_true, decide_eq_true_iff, decide_eq_true_iff, decide_eq_true_iff]
      omega
    rw [e]
    simp [built, Ki.d, ki_built a m h.1, ki_built b m h.2]
  | .frm a b, m + 1, h => by
    simp only [Ki.ok, Bool.and_eq_true] at h
    have hd : (Ki.frm a b).dep = 1 + max a.dep b.dep := rfl
    have e : decide ((Ki.frm a b).dep ≤ m + 1) = (decide (a.dep ≤ m) && decide (b.dep ≤ m)) := by
      rw [Bool.eq_iff_iff, Bool.and_eq_true, decide_eq_true_iff, decide_eq_true_iff, decide_eq_true_iff]
      omega
    rw [e]
    simp [built, Ki.d, ki_built a m h.1, ki_built b m h.2]
theorem e_kind_no (k : Nat) (v : D) (st : St) (ho : okD v = true) (hl : ln v ≤ sizeLine) (h : built 6 v = false) : callN pg (k + 9) i_is_kind_of [v] st = .ok (.bl false) st := by
  have e := e_built st 6 (k + 8) v (by omega) ho hl
  rw [h] at e
  rw [call_eq (d := ⟨1, 1, b_is_kind_of⟩) rfl rfl]
  have e : callN pg (k + 8) i_is_built [v, .int 6] st = .ok (.bl false) st := e
  simp [b_is_kind_of, e]
theorem ki_okD : ∀ κ : Ki, κ.ok = true → okD κ.d = true
  | .atom s, h => by
    have h1 : low s = true := low_nm h
    have h2 : low cA = true := by decide
    simp only [low] at h1 h2
    simp [Ki.d, okD, okDs]
    simpa using h1
  | .noth, h => by decide
  | .pair a b, h => by
    simp only [Ki.ok, Bool.and_eq_true] at h
    have h2 : okD (.str cP) = true := by decide
    simp only [Ki.d, okD, okDs, Bool.and_eq_true, ki_okD a h.1, ki_okD b h.2] at h2 ⊢
    exact ⟨h2, trivial, trivial, trivial⟩
  | .frm a b, h => by
    simp only [Ki.ok, Bool.and_eq_true] at h
    have h2 : okD (.str cF) = true := by decide
    simp only [Ki.d, okD, okDs, Bool.and_eq_true, ki_okD a h.1, ki_okD b h.2] at h2 ⊢
    exact ⟨h2, trivial, trivial, trivial⟩
end K73

set_option Elab.async false
set_option linter.all false
set_option maxRecDepth 100000
/-! k73, plainly: kinds judged; paths judged. -/
namespace K73
open Ev PySem
theorem e_kind_ki (k : Nat) (κ : Ki) (st : St) (ok : κ.ok = true) (hl : ln κ.d ≤ sizeLine) : callN pg (k + 9) i_is_kind_of [κ.d] st = .ok (.bl κ.fit) st := by
  have e := e_built st 6 (k + 8) κ.d (by omega) (ki_okD κ ok) hl
  rw [ki_built κ 6 ok] at e
  have e : callN pg (k + 8) i_is_built [κ.d, .int 6] st = .ok (.bl (decide (κ.dep ≤ 6))) st := e
  rw [call_eq (d := ⟨1, 1, b_is_kind_of⟩) rfl rfl]
  unfold Ki.fit
  by_cases h : κ.dep ≤ 6
  · have w := e_wid st κ (k + 8) (by omega)
    have c : cmpD .le (.int κ.wid) (.int 12) = some (decide (κ.wid ≤ 12)) := by
      rw [cmpD_le_i]
      congr 1
      exact decide_eq_decide.mpr (by omega)
    simp only [h, decide_true] at e ⊢
    simp [b_is_kind_of, e, w, c, -cmpD_le_i]
  · simp only [h, decide_false] at e ⊢
    simp [b_is_kind_of, e]
theorem e_want (k : Nat) (κ : Ki) (st : St) (ok : κ.ok = true) (hl : ln κ.d ≤ sizeLine) (hf : κ.fit = true) : callN pg (k + 10) i_want_kind [κ.d] st = .ok κ.d st := by
  have e := e_kind_ki k κ st ok hl
  rw [hf] at e
  rw [call_eq (d := ⟨1, 1, b_want_kind⟩) rfl rfl]
  simp [b_want_kind, e]
end K73

set_option Elab.async false
set_option linter.all false
set_option maxRecDepth 100000
/-! k73, plainly: any value as a path. -/
namespace K73
open Ev PySem
/-- the child a sign leads to -/
def Ki.kid : Ki → Bool → Option Ki
  | .pair a b, c => some (if c then b else a)
  | .frm a b, c => some (if c then b else a)
  | _, _ => none
def pathL : Ki → List D → Option (List Bool)
  | _, [] => some []
  | κ, x :: xs => match x with
    | .int i => if i = 0 ∨ i = 1 then (κ.kid (decide (i = 1))).bind fun σ => (pathL σ xs).map (decide (i = 1) :: ·) else none
    | _ => none
def pathD (κ : Ki) : D → Option (List Bool)
  | .tup xs => pathL κ xs
  | _ => none
theorem in01 (i : Int) : isinD (.int i) (.tup [.int 0, .int 1]) = some (decide (i = 0 ∨ i = 1)) := by
  have e : ∀ a b : Int, PyData.eqv (D.int a).py (D.int b).py = decide (a = b) := fun a b => by
    simp only [D.py, PyData.eqv]
    rw [Bool.eq_iff_iff]; simp
  have s : SeqAt.shaped (D.int i).py = true := rfl
  have c : PyData.canLayAll0 (D.pys [.int 0, .int 1]) = true := rfl
  simp only [isinD, inD]
  rw [s, c]
  simp only [Bool.and_self, if_true, List.any_cons, List.any_nil, e, Bool.or_false]
  congr 1
  rw [Bool.eq_iff_iff]; simp
  constructor <;> (intro h; rcases h with h | h <;> simp [h])
theorem kid_leaf (κ : Ki) (c : Bool) : κ.isL = (κ.kid c).isNone := by cases κ <;> rfl
theorem kid_idx {κ σ : Ki} {c : Bool} (h : κ.kid c = some σ) : idxD κ.d (.int ((if c then 1 else 0) + 1)) = some σ.d := by
  cases κ with
  | pair a b => cases c <;> simp [Ki.kid] at h <;> subst h <;> simp [Ki.d]
  | frm a b => cases c <;> simp [Ki.kid] at h <;> subst h <;> simp [Ki.d]
  | _ => cases h
/-- the loop's end -/
def pathE (κ : Ki) (xs : List D) (u : D) (st : St) (o : O) : Prop := if (pathL κ xs).isSome = true then ∃ (κ' : Ki) (s' : Sl), o = .nx [.va κ'.d, .va u, s'] st else o = .rt (.bl false) st
theorem path_loop (k : Nat) (u : D) (st : St) : ∀ (xs : List D) (κ : Ki) (s : Sl), okDs xs = true → pathE κ xs u st (forLoop (forF (callN pg (k + 1)) pg.gl (.nm 2) p0_is_path_of) [] xs [.va κ.d, .va u, s] st)
  | [], κ, s, _ => ⟨κ, s, for_nil rfl⟩
  | x :: xs, κ, s, ho => by
    simp only [okDs, Bool.and_eq_true] at ho
    have el := e_leaf k κ st
    have bad : forF (callN pg (k + 1)) pg.gl (.nm 2) p0_is_path_of x [.va κ.d, .va u, s] st = .rt (.bl false) st → pathL κ (x :: xs) = none → pathE κ (x :: xs) u st (forLoop (forF (callN pg (k + 1)) pg.gl (.nm 2) p0_is_path_of) [] (x :: xs) [.va κ.d, .va u, s] st) := fun e n => by
      unfold pathE
      rw [n, for_rt rfl e]
      rfl
    cases x with
    | int i =>
      have q := in01 i
      by_cases hi : i = 0 ∨ i = 1
      · rw [decide_eq_true hi] at q
        cases hk : κ.kid (decide (i = 1)) with
        | none =>
          have hL : κ.isL = true := by rw [kid_leaf κ (decide (i = 1)), hk]; rfl
          rw [hL] at el
          refine bad (by simp [forF, asgTg, p0_is_path_of, tyIs, q, el]) (by simp [pathL, hi, hk])
        | some σ =>
          have hL : κ.isL = false := by rw [kid_leaf κ (decide (i = 1)), hk]; rfl
          rw [hL] at el
          have ix := kid_idx hk
          have ei : (if decide (i = 1) = true then (1 : Int) else 0) = i := by rcases hi with h | h <;> simp [h]
          rw [ei] at ix
          have ih := path_loop k u st xs σ (.va (.int i)) ho.2
          have turn : forF (callN pg (k + 1)) pg.gl (.nm 2) p0_is_path_of (.int i) [.va κ.d, .va u, s] st = .nx [.va σ.d, .va u, .va (.int i)] st := by
            simp [forF, asgTg, p0_is_path_of, tyIs, q, el, ix, setV]
          unfold pathE at ih ⊢
          rw [for_nx rfl turn]
          have e : (pathL κ (.int i :: xs)).isSome = (pathL σ xs).isSome := by simp [pathL, hi, hk]
          rw [e]
          exact ih
      · rw [decide_eq_false hi] at q
        exact bad (by simp [forF, asgTg, p0_is_path_of, tyIs, q]) (by simp [pathL, hi])
    | bl b => exact bad (by simp [forF, asgTg, p0_is_path_of, tyIs]) (by simp [pathL])
    | non => exact bad (by simp [forF, asgTg, p0_is_path_of, tyIs]) (by simp [pathL])
    | str z => exact bad (by simp [forF, asgTg, p0_is_path_of, tyIs]) (by simp [pathL])
    | tup z => exact bad (by simp [forF, asgTg, p0_is_path_of, tyIs]) (by simp [pathL])
    | lst z => exact bad (by simp [forF, asgTg, p0_is_path_of, tyIs]) (by simp [pathL])
    | ref n => simp [okD] at ho
    | scr n => simp [okD] at ho
theorem e_is_path (k : Nat) (κ : Ki) (v : D) (st : St) (ho : okD v = true) : callN pg (k + 2) i_is_path_of [κ.d, v] st = .ok (.bl (pathD κ v).isSome) st := by
  rw [call_eq (d := ⟨2, 3, b_is_path_of⟩) rfl rfl]
  cases v with
  | tup xs =>
    have l := path_loop k (.tup xs) st xs κ .no ho
    unfold pathE at l
    have q : seqOf st (.tup xs) = some (xs, []) := rfl
    by_cases h : (pathL κ xs).isSome = true
    · rw [if_pos h] at l
      obtain ⟨κ', s', e⟩ := l
      simp [b_is_path_of, tyIs, q, e, pathD, h]
    · rw [if_neg h] at l
      have h : (pathL κ xs).isSome = false := by simpa using h
      simp [b_is_path_of, tyIs, q, l, pathD, h]
  | _ => first | (simp [okD] at ho; done) | simp [b_is_path_of, tyIs, pathD]
theorem pathL_at : ∀ (xs : List D) {κ : Ki} {p : List Bool}, pathL κ xs = some p → xs = p.map bi ∧ (κ.at p).isSome = true
  | [], κ, p, h => by
    simp [pathL] at h
    subst h
    exact ⟨rfl, by simp [Ki.at]⟩
  | x :: xs, κ, p, h => by
    unfold pathL at h
    split at h
    · rename_i i
      split at h
      · rename_i hi
        cases hk : κ.kid (decide (i = 1)) with
        | none => rw [hk] at h; cases h
        | some σ =>
          rw [hk] at h
          simp only [Option.bind_some] at h
          cases hp : pathL σ xs with
          | none => rw [hp] at h; cases h
          | some q =>
            rw [hp] at h
            cases h
            obtain ⟨h1, h2⟩ := pathL_at xs hp
            refine ⟨?_, ?_⟩
            · rw [List.map_cons, ← h1]
              congr 1
              rcases hi with h | h <;> simp [h, bi]
            · cases κ with
              | pair a b => simp [Ki.kid] at hk; by_cases h1 : i = 1 <;> simp [h1] at hk <;> subst hk <;> simpa [Ki.at, h1] using h2
              | frm a b => simp [Ki.kid] at hk; by_cases h1 : i = 1 <;> simp [h1] at hk <;> subst hk <;> simpa [Ki.at, h1] using h2
              | _ => cases hk
      · cases h
    · cases h
end K73

set_option Elab.async false
set_option linter.all false
set_option maxRecDepth 100000
/-! k73, plainly: the seventh rule. -/
namespace K73
open Ev PySem
def cV : List Nat := [118, 111, 105, 100]
def foV : Ki → Option Ki
  | .frm _ .noth => some .noth
  | _ => none
theorem e_forthV (k : Nat) (κ : Ki) (st : St) (ok : κ.ok = true) : callN pg (k + 2) i_forth_kind [.str cV, κ.d] st = .ok (oD (foV κ)) st := by
  have F' := fun t xs h => e_isF' k t xs st h
  have P' := fun t xs h => e_isP' k t xs st h
  rw [call_eq (d := ⟨2, 2, b_forth_kind⟩) rfl rfl]
  cases κ with
  | frm a b =>
    simp only [Ki.ok, Bool.and_eq_true] at ok
    have E := eqE ok.2
    obtain ⟨x, hx⟩ : ∃ x, b.d = x := ⟨_, rfl⟩
    obtain ⟨β, hβ⟩ : ∃ β, decide (b = .noth) = β := ⟨_, rfl⟩
    have e : foV (.frm a b) = if β = true then some .noth else none := by rw [← hβ]; cases b <;> simp [foV]
    rw [e]
    rw [hx, hβ] at E
    have v : vw st x = x := by rw [← hx]; exact vw_d st b
    clear hβ e
    cases β <;> simp [b_forth_kind, cV, eqS, low, Ki.d, F', hx, E, v, oD]
  | _ => simp [b_forth_kind, cV, eqS, low, Ki.d, F', foV, oD]
theorem e_backV (k : Nat) (κ : Ki) (t : Ki) (st : St) (ok : κ.ok = true) : callN pg (k + 3) i_back_kind [.str cV, κ.d, t.d] st = .ok (oD (if κ = .noth then some (.frm t .noth) else none)) st := by
  have N := fun a b => e_fromOf (k + 1) a b st
  have E := eqE ok
  rw [call_eq (d := ⟨3, 3, b_back_kind⟩) rfl rfl]
  obtain ⟨x, hx⟩ : ∃ x, κ.d = x := ⟨_, rfl⟩
  have v : vw st x = x := by rw [← hx]; exact vw_d st κ
  rw [hx] at E ⊢
  by_cases h : κ = .noth
  · rw [decide_eq_true h] at E
    rw [if_pos h]
    clear h hx
    simp [b_back_kind, cV, eqS, low, E, v, N, oD, Ki.d]
  · rw [decide_eq_false h] at E
    rw [if_neg h]
    clear h hx
    simp [b_back_kind, cV, eqS, low, E, v, oD]
end K73

set_option Elab.async false
set_option linter.all false
set_option maxRecDepth 100000
/-! k73, plainly: a near move is a move. -/
namespace K73
open Ev PySem
theorem inTxt {x : List Nat} (hx : low x = true) {ys : List (List Nat)} (hy : ∀ y ∈ ys, low y = true) : isinD (.str x) (.tup (ys.map .str)) = some (ys.any fun y => decide (y = x)) := by
  have s : SeqAt.shaped (D.str x).py = true := by
    unfold SeqAt.shaped
    rw [low_lay hx]
    simp [D.py, PyData.depth]
  have c : ∀ ys : List (List Nat), (∀ y ∈ ys, low y = true) → PyData.canLayAll0 (D.pys (ys.map .str)) = true := fun ys => by
    induction ys with
    | nil => intro _; rfl
    | cons y ys ih =>
      intro h
      simp only [List.map_cons, D.pys, PyData.canLayAll0, Bool.and_eq_true]
      exact ⟨low_lay (h y (List.mem_cons_self ..)), ih fun z hz => h z (List.mem_cons_of_mem _ hz)⟩
  simp only [isinD, inD]
  rw [s, c ys hy]
  simp only [Bool.and_self, if_true, List.any_map]
  congr 2
  funext y
  exact str_eqv y x
/-- the words -/
def wordsL : List (List Nat) := [Wo.curry.c, Wo.drop.c, Wo.regroup.c, Wo.sole.c, Wo.split.c, Wo.swap.c, cV]
def dirsL : List (List Nat) := [cBa, cFo]
theorem words_low : ∀ y ∈ wordsL, low y = true := by decide
theorem dirs_low : ∀ y ∈ dirsL, low y = true := by decide
end K73

set_option Elab.async false
set_option linter.all false
set_option maxRecDepth 100000
/-! k73, plainly: a path that leads somewhere is judged one. -/
namespace K73
open Ev PySem
theorem kid_at (κ : Ki) (c : Bool) (p : List Bool) : κ.at (c :: p) = (κ.kid c).bind fun σ => σ.at p := by
  cases κ <;> cases c <;> simp [Ki.at, Ki.kid]
theorem at_pathL : ∀ (p : List Bool) (κ : Ki), (κ.at p).isSome = true → pathL κ (p.map bi) = some p
  | [], κ, _ => by cases κ <;> rfl
  | c :: p, κ, h => by
    rw [kid_at] at h
    cases hk : κ.kid c with
    | none => rw [hk] at h; cases h
    | some σ =>
      rw [hk] at h
      have ih := at_pathL p σ h
      cases c <;> simp [pathL, bi, hk, ih]
theorem at_pathD (p : List Bool) (κ : Ki) (h : (κ.at p).isSome = true) : pathD κ (pd p) = some p := at_pathL p κ h
end K73

set_option Elab.async false
set_option linter.all false
set_option maxRecDepth 100000
/-! k73, plainly: any value as a move. -/
namespace K73
open Ev PySem
theorem in34 (i : Int) : isinD (.int i) (.tup [.int 3, .int 4]) = some (decide (i = 3 ∨ i = 4)) := by
  have e : ∀ a b : Int, PyData.eqv (D.int a).py (D.int b).py = decide (a = b) := fun a b => by
    simp only [D.py, PyData.eqv]
    rw [Bool.eq_iff_iff]; simp
  have s : SeqAt.shaped (D.int i).py = true := rfl
  have c : PyData.canLayAll0 (D.pys [.int 3, .int 4]) = true := rfl
  simp only [isinD, inD]
  rw [s, c]
  simp only [Bool.and_self, if_true, List.any_cons, List.any_nil, e, Bool.or_false]
  congr 1
  rw [Bool.eq_iff_iff]; simp
  constructor <;> (intro h; rcases h with h | h <;> simp [h])
def isStr : D → Bool
  | .str _ => true
  | _ => false
theorem lcStr (k : Nat) (st : St) (e0 e1 e2 : Sl) (xs : List D) (h : okDs xs = true) (hl : xs.length ≤ 1000) :
    lcL (callN pg k) pg.gl [e0, e1, e2, .no] st p0_is_move_of (.nm 3) (.cst (.bl true)) [3] (xs, []) = .ok (.lst (xs.map fun x => .bl (isStr x))) st := by
  refine lcL_ok (by rw [sizeLine_eq]; omega) ?_
  refine lc_map _ rfl fun x hx => ?_
  have ho := ok_mem h hx
  cases x <;> first | (simp [okD] at ho; done) | simp [lcF, asgTg, wipeE, p0_is_move_of, tyIs, isStr]
theorem cut2 (a b : D) (r : List D) : slcD (.tup (a :: b :: r)) .non (.int 2) = some (.tup [a, b]) := by
  have e : cutL (a :: b :: r) none (some 2) = [a, b] := by
    have h : HT.sIx (r.length + 2) (r.length + 2) (some 2) = 2 := by simp [HT.sIx]
    unfold cutL
    simp only [List.length_cons, HT.sIx_none]
    rw [h]
    simp
  simp [slcD, bndD, e]
end K73

set_option Elab.async false
set_option linter.all false
set_option maxRecDepth 100000
/-! k73, plainly: how far a move may lead; moves with few calls. -/
namespace K73
open Ev PySem
theorem fo_b {w : Wo} {κ l : Ki} (h : fo w κ = some l) : l.dep ≤ κ.dep + 1 ∧ l.wid ≤ 2 * κ.wid ∧ (κ.ok = true → l.ok = true) := by
  unfold fo at h
  split at h <;> first | cases h | skip
  all_goals (refine ⟨by simp only [Ki.dep]; omega, by simp only [Ki.wid]; omega, ?_⟩)
  all_goals (simp only [Ki.ok, Bool.and_eq_true]; intro q; simp [q])
theorem ba_b {w : Wo} {κ l : Ki} (h : ba w κ = some l) : l.dep ≤ κ.dep + 1 ∧ l.wid ≤ 2 * κ.wid ∧ (κ.ok = true → l.ok = true) := by
  have hw := κ.wid_pos
  have hd := κ.dep_pos
  unfold ba at h
  split at h <;> first | cases h | skip
  case h_5 =>
    split at h <;> cases h
    rename_i e
    subst e
    refine ⟨by simp only [Ki.dep]; omega, by simp only [Ki.wid]; omega, ?_⟩
    simp only [Ki.ok, Bool.and_eq_true]; intro q; simp [q]
  all_goals (refine ⟨by simp only [Ki.dep]; omega, by simp only [Ki.wid] at hw ⊢; omega, ?_⟩)
  all_goals (simp only [Ki.ok, Bool.and_eq_true]; intro q; simp [q])
theorem led_b {w : Wo} {f : Bool} {κ l : Ki} (h : led w f κ = some l) : l.dep ≤ κ.dep + 1 ∧ l.wid ≤ 2 * κ.wid ∧ (κ.ok = true → l.ok = true) := by
  unfold led at h
  cases f
  · exact ba_b h
  · exact fo_b h
theorem put_b : ∀ (p : List Bool) {κ τ l : Ki}, κ.at p = some τ → l.dep ≤ τ.dep + 1 → l.wid ≤ 2 * τ.wid → (κ.put p l).dep ≤ κ.dep + 1 ∧ (κ.put p l).wid ≤ 2 * κ.wid ∧ (κ.ok = true → l.ok = true → (κ.put p l).ok = true)
  | [], κ, τ, l, h, h1, h2 => by
    simp only [Ki.at, Option.some.injEq] at h
    subst h
    have e : κ.put [] l = l := by cases κ <;> rfl
    rw [e]
    exact ⟨h1, h2, fun _ q => q⟩
  | c :: p, κ, τ, l, h, h1, h2 => by
    cases κ with
    | atom s => simp [Ki.at] at h
    | noth => simp [Ki.at] at h
    | pair a b =>
      cases c with
      | true =>
        obtain ⟨g1, g2, g3⟩ := put_b p (κ := b) (by simpa [Ki.at] using h) h1 h2
        simp only [Ki.put, if_true]
        refine ⟨by simp only [Ki.dep]; omega, by simp only [Ki.wid]; omega, ?_⟩
        simp only [Ki.ok, Bool.and_eq_true]; exact fun q r => ⟨q.1, g3 q.2 r⟩
      | false =>
        obtain ⟨g1, g2, g3⟩ := put_b p (κ := a) (by simpa [Ki.at] using h) h1 h2
        simp only [Ki.put, Bool.false_eq_true, if_false]
        refine ⟨by simp only [Ki.dep]; omega, by simp only [Ki.wid]; omega, ?_⟩
        simp only [Ki.ok, Bool.and_eq_true]; exact fun q r => ⟨g3 q.1 r, q.2⟩
    | frm a b =>
      cases c with
      | true =>
        obtain ⟨g1, g2, g3⟩ := put_b p (κ := b) (by simpa [Ki.at] using h) h1 h2
        simp only [Ki.put, if_true]
        refine ⟨by simp only [Ki.dep]; omega, by simp only [Ki.wid]; omega, ?_⟩
        simp only [Ki.ok, Bool.and_eq_true]; exact fun q r => ⟨q.1, g3 q.2 r⟩
      | false =>
        obtain ⟨g1, g2, g3⟩ := put_b p (κ := a) (by simpa [Ki.at] using h) h1 h2
        simp only [Ki.put, Bool.false_eq_true, if_false]
        refine ⟨by simp only [Ki.dep]; omega, by simp only [Ki.wid]; omega, ?_⟩
        simp only [Ki.ok, Bool.and_eq_true]; exact fun q r => ⟨g3 q.1 r, q.2⟩
theorem mvd_b {κ l : Ki} {m : Mv} (h : mvd κ m = some l) : l.dep ≤ κ.dep + 1 ∧ l.wid ≤ 2 * κ.wid ∧ (κ.ok = true → l.ok = true) := by
  unfold mvd at h
  cases ht : κ.at m.p with
  | none => rw [ht] at h; cases h
  | some τ =>
    rw [ht] at h
    simp only [Option.bind_some, Option.map_eq_some_iff] at h
    obtain ⟨u, hu, rfl⟩ := h
    obtain ⟨g1, g2, g3⟩ := led_b hu
    obtain ⟨k1, k2, k3⟩ := put_b m.p ht g1 g2
    exact ⟨k1, k2, fun q => k3 q (g3 ((Ki.at_ok m.p ht).1 q))⟩
theorem fit_b {κ : Ki} (h : κ.fit = true) : κ.wid ≤ 12 ∧ κ.dep ≤ 6 := by simpa [Ki.fit] using h
/-- how long a kind is told -/
theorem ki_ln : ∀ κ : Ki, κ.ok = true → ln κ.d + 60 ≤ 200 * κ.wid
  | .atom s, h => by
    have h : nmOk s = true := h
    simp only [nmOk, Bool.and_eq_true, decide_eq_true_eq] at h
    simp [Ki.d, ln, lns, Ki.wid]
    omega
  | .noth, h => by simp [Ki.d, ln, lns, Ki.wid]
  | .pair a b, h => by
    simp only [Ki.ok, Bool.and_eq_true] at h
    have := ki_ln a h.1
    have := ki_ln b h.2
    have := a.wid_pos
    have := b.wid_pos
    simp [Ki.d, ln, lns, Ki.wid]
    omega
  | .frm a b, h => by
    simp only [Ki.ok, Bool.and_eq_true] at h
    have := ki_ln a h.1
    have := ki_ln b h.2
    have := a.wid_pos
    have := b.wid_pos
    simp [Ki.d, ln, lns, Ki.wid]
    omega
theorem e_mvd (k : Nat) (κ τ : Ki) (m : Mv) (st : St) (ok : κ.ok = true) (hd : κ.dep ≤ 6) (ht : κ.at m.p = some τ) : callN pg (k + 8) i_moved_of [κ.d, m.d] st = .ok (oD (mvd κ m)) st := by
  obtain ⟨h1, h2⟩ := Ki.at_ok m.p ht
  have E1 := e_at (k + 6) κ τ m.p st ht
  have E2 := e_told (k + 6) (.str m.w.c) (.str (dirC m.f)) (pd m.p) st
  have E3 := e_led (k + 3) m.w m.f τ .non st (h1 ok) (by omega)
  have dp := τ.dep_pos
  have E4 := fun l => e_put st m.p κ (k + 7) l (by rw [ht]; rfl) (by omega)
  rw [call_eq (d := ⟨2, 3, b_moved_of⟩) rfl rfl]
  unfold mvd
  rw [ht]
  cases e : led m.w m.f τ with
  | none =>
    rw [e] at E3
    simp only [oD] at E3
    simp [b_moved_of, Mv.d, E1, E2, E3, setV, e, oD]
  | some l =>
    rw [e] at E3
    simp only [oD] at E3
    have n : ¬ (l.d = D.non) := by cases l <;> simp [Ki.d]
    simp [b_moved_of, Mv.d, E1, E2, E3, E4, setV, e, oD, n]
theorem e_lmvd (k : Nat) (κ τ : Ki) (m : Mv) (st : St) (ok : κ.ok = true) (hd : κ.dep ≤ 6) (ht : κ.at m.p = some τ) : callN pg (k + 9) i__law_moved [κ.d, m.d] st = .ok (oD ((mvd κ m).filter Ki.fit)) st := by
  obtain ⟨h1, h2⟩ := Ki.at_ok m.p ht
  have hf : ∀ l, mvd κ m = some l → l.dep ≤ 7 := fun l h => by have := (mvd_b h).1; omega
  have dp := τ.dep_pos
  have E1 := e_lat (k + 7) κ τ m.p st ht
  have E2 := e_lforth (k + 7) m.w τ st (h1 ok)
  have E3 := e_lback (k + 7) m.w τ st (h1 ok) (by omega)
  have E4 := fun l => e_lput st m.p κ (k + 8) l (by rw [ht]; rfl) (by omega)
  have E0 : callN pg (k + 8) (if m.f = true then i__law_forth else i__law_back) [.str m.w.c, τ.d] st = .ok (oD (led m.w m.f τ)) st := by
    cases e : m.f
    · simpa [led] using E3
    · simpa [led] using E2
  have D1 : eqD (.str (dirC m.f)) (.str cFo) = some m.f := by cases m.f <;> decide +kernel
  rw [call_eq (d := ⟨2, 5, b__law_moved⟩) rfl rfl]
  unfold mvd at hf ⊢
  rw [ht] at hf ⊢
  simp only [cFo] at D1
  cases e : led m.w m.f τ with
  | none =>
    rw [e] at E0
    simp only [oD] at E0
    cases hm : m.f <;> rw [hm] at E0 D1 e <;> simp at E0 <;> simp [b__law_moved, Mv.d, hm, E1, D1, E0, setV, e, oD]
  | some l =>
    rw [e] at E0
    simp only [oD] at E0
    have hf := hf (κ.put m.p l) (by simp [e])
    have n : ¬ (l.d = D.non) := by cases l <;> simp [Ki.d]
    have n2 : ¬ ((κ.put m.p l).d = D.non) := by cases κ.put m.p l <;> simp [Ki.d]
    have E5 := e_fit (k + 7) (κ.put m.p l) st (by omega)
    obtain ⟨β, hβ⟩ : ∃ β, (κ.put m.p l).fit = β := ⟨_, rfl⟩
    have e6 : ((some τ).bind fun τ => Option.map (fun l => κ.put m.p l) (led m.w m.f τ)).filter Ki.fit = if β = true then some (κ.put m.p l) else none := by
      simp [e, Option.filter, hβ]
    rw [e6]
    rw [hβ] at E5
    clear hβ e6
    cases hm : m.f <;> rw [hm] at E0 D1 <;> simp at E0 <;> cases β <;> simp [b__law_moved, Mv.d, hm, E1, D1, E0, E4, E5, setV, oD, n, n2]
end K73

set_option Elab.async false
set_option linter.all false
set_option maxRecDepth 100000
/-! k73, plainly: any value as a move. -/
namespace K73
open Ev PySem
/-- a word: one of six, or void -/
def wcO : Option Wo → List Nat
  | some w => w.c
  | none => cV
theorem words_un {x : List Nat} (h : x ∈ wordsL) : ∃ o, x = wcO o := by
  simp only [wordsL, List.mem_cons, List.not_mem_nil, or_false] at h
  rcases h with h | h | h | h | h | h | h
  · exact ⟨some .curry, h⟩
  · exact ⟨some .drop, h⟩
  · exact ⟨some .regroup, h⟩
  · exact ⟨some .sole, h⟩
  · exact ⟨some .split, h⟩
  · exact ⟨some .swap, h⟩
  · exact ⟨none, h⟩
theorem wcO_in (o : Option Wo) : wcO o ∈ wordsL := by
  cases o with
  | none => decide
  | some w => cases w <;> decide
theorem wcO_low (o : Option Wo) : low (wcO o) = true := words_low _ (wcO_in o)
theorem dirs_un {x : List Nat} (h : x ∈ dirsL) : ∃ f, x = dirC f := by
  simp only [dirsL, List.mem_cons, List.not_mem_nil, or_false] at h
  rcases h with h | h
  · exact ⟨false, h⟩
  · exact ⟨true, h⟩
theorem dirC_in (f : Bool) : dirC f ∈ dirsL := by cases f <;> decide
theorem dirC_low (f : Bool) : low (dirC f) = true := dirs_low _ (dirC_in f)
theorem inW {x : List Nat} (hx : low x = true) : isinD (.str x) (.tup (wordsL.map .str)) = some (decide (x ∈ wordsL)) := by
  rw [inTxt hx words_low]
  congr 1
  rw [Bool.eq_iff_iff]
  simp only [List.any_eq_true, decide_eq_true_iff]
  exact ⟨fun ⟨y, h, e⟩ => e ▸ h, fun h => ⟨x, h, rfl⟩⟩
theorem inDr {x : List Nat} (hx : low x = true) : isinD (.str x) (.tup (dirsL.map .str)) = some (decide (x ∈ dirsL)) := by
  rw [inTxt hx dirs_low]
  congr 1
  rw [Bool.eq_iff_iff]
  simp only [List.any_eq_true, decide_eq_true_iff]
  exact ⟨fun ⟨y, h, e⟩ => e ▸ h, fun h => ⟨x, h, rfl⟩⟩
/-- the value is (void, back) at its head -/
def isVB (o : Option Wo) (f : Bool) : Bool := o.isNone && !f
theorem eqVB (o : Option Wo) (f : Bool) : eqD (.tup [.str (wcO o), .str (dirC f)]) (.tup [.str cV, .str cBa]) = some (isVB o f) := by
  cases o with
  | none => cases f <;> decide +kernel
  | some w => cases w <;> cases f <;> decide +kernel
/-- where any move leads at the empty path; t is the kind of void -/
def ledA (o : Option Wo) (f : Bool) (t : Option Ki) (τ : Ki) : Option Ki := match o with
  | some w => led w f τ
  | none => if f = true then foV τ else t.bind fun t => if τ = .noth then some (.frm t .noth) else none
def oK : Option Ki → D
  | none => .non
  | some κ => κ.d
theorem e_ledA (k : Nat) (o : Option Wo) (f : Bool) (t : Option Ki) (τ : Ki) (st : St) (ok : τ.ok = true) (hd : τ.dep ≤ 64) (h : isVB o f = true → t.isSome = true) : callN pg (k + 4) i_led_kind [.str (wcO o), .str (dirC f), τ.d, oK t] st = .ok (oD (ledA o f t τ)) st := by
  cases o with
  | some w => exact e_led k w f τ (oK t) st ok hd
  | none =>
    rw [call_eq (d := ⟨4, 4, b_led_kind⟩) rfl rfl]
    cases f with
    | true =>
      have E1 := e_forthV (k + 1) τ st ok
      have q : eqD (.str (dirC true)) (.str cFo) = some true := by decide +kernel
      simp only [cFo] at q
      simp [b_led_kind, q, wcO, E1, ledA]
    | false =>
      cases t with
      | none => cases h rfl
      | some t =>
        have E2 := e_backV k τ t st ok
        have q : eqD (.str (dirC false)) (.str cFo) = some false := by decide +kernel
        simp only [cFo] at q
        simp [b_led_kind, q, wcO, E2, ledA, oK]
theorem ledA_b {o : Option Wo} {f : Bool} {t : Option Ki} {τ l : Ki} (h : ledA o f t τ = some l) (ht : ∀ u, t = some u → u.ok = true ∧ u.dep ≤ 6 ∧ u.wid ≤ 12) : l.dep ≤ τ.dep + 7 ∧ l.wid ≤ 2 * τ.wid + 13 ∧ (τ.ok = true → l.ok = true) := by
  cases o with
  | some w =>
    obtain ⟨g1, g2, g3⟩ := led_b (w := w) (f := f) h
    exact ⟨by omega, by omega, g3⟩
  | none =>
    unfold ledA at h
    dsimp only at h
    split at h
    · unfold foV at h
      split at h
      · cases h
        exact ⟨by simp only [Ki.dep]; omega, by simp only [Ki.wid]; omega, fun _ => rfl⟩
      · cases h
    · cases t with
      | none => cases h
      | some u =>
        obtain ⟨u1, u2, u3⟩ := ht u rfl
        simp only [Option.bind_some] at h
        split at h
        · cases h
          refine ⟨by simp only [Ki.dep]; omega, by simp only [Ki.wid]; omega, fun _ => ?_⟩
          simp [Ki.ok, u1]
        · cases h
theorem putA_b : ∀ (p : List Bool) {κ τ l : Ki}, κ.at p = some τ → l.dep ≤ τ.dep + 7 → l.wid ≤ 2 * τ.wid + 13 → (κ.put p l).dep ≤ κ.dep + 7 ∧ (κ.put p l).wid ≤ 2 * κ.wid + 13 ∧ (κ.ok = true → l.ok = true → (κ.put p l).ok = true)
  | [], κ, τ, l, h, h1, h2 => by
    simp only [Ki.at, Option.some.injEq] at h
    subst h
    have e : κ.put [] l = l := by cases κ <;> rfl
    rw [e]
    exact ⟨h1, h2, fun _ q => q⟩
  | c :: p, κ, τ, l, h, h1, h2 => by
    cases κ with
    | atom s => simp [Ki.at] at h
    | noth => simp [Ki.at] at h
    | pair a b =>
      cases c with
      | true =>
        obtain ⟨g1, g2, g3⟩ := putA_b p (κ := b) (by simpa [Ki.at] using h) h1 h2
        simp only [Ki.put, if_true]
        refine ⟨by simp only [Ki.dep]; omega, by simp only [Ki.wid]; omega, ?_⟩
        simp only [Ki.ok, Bool.and_eq_true]; exact fun q r => ⟨q.1, g3 q.2 r⟩
      | false =>
        obtain ⟨g1, g2, g3⟩ := putA_b p (κ := a) (by simpa [Ki.at] using h) h1 h2
        simp only [Ki.put, Bool.false_eq_true, if_false]
        refine ⟨by simp only [Ki.dep]; omega, by simp only [Ki.wid]; omega, ?_⟩
        simp only [Ki.ok, Bool.and_eq_true]; exact fun q r => ⟨g3 q.1 r, q.2⟩
    | frm a b =>
      cases c with
      | true =>
        obtain ⟨g1, g2, g3⟩ := putA_b p (κ := b) (by simpa [Ki.at] using h) h1 h2
        simp only [Ki.put, if_true]
        refine ⟨by simp only [Ki.dep]; omega, by simp only [Ki.wid]; omega, ?_⟩
        simp only [Ki.ok, Bool.and_eq_true]; exact fun q r => ⟨q.1, g3 q.2 r⟩
      | false =>
        obtain ⟨g1, g2, g3⟩ := putA_b p (κ := a) (by simpa [Ki.at] using h) h1 h2
        simp only [Ki.put, Bool.false_eq_true, if_false]
        refine ⟨by simp only [Ki.dep]; omega, by simp only [Ki.wid]; omega, ?_⟩
        simp only [Ki.ok, Bool.and_eq_true]; exact fun q r => ⟨g3 q.1 r, q.2⟩
/-- what any move leaves -/
def mvA (κ : Ki) (o : Option Wo) (f : Bool) (p : List Bool) (t : Option Ki) : Option Ki := (κ.at p).bind fun τ => (ledA o f t τ).map fun l => κ.put p l
theorem mvA_near (κ : Ki) (w : Wo) (f : Bool) (p : List Bool) (t : Option Ki) : mvA κ (some w) f p t = mvd κ ⟨w, f, p⟩ := rfl
/-- a move as a value -/
def mD (o : Option Wo) (f : Bool) (p : List Bool) : Option Ki → D
  | none => .tup [.str (wcO o), .str (dirC f), pd p]
  | some t => .tup [.str (wcO o), .str (dirC f), pd p, t.d]
theorem e_toldA (k : Nat) (o : Option Wo) (f : Bool) (p : List Bool) (t : Option Ki) (st : St) : callN pg (k + 1) i_told_of [mD o f p t] st = .ok (oK t) st := by
  rw [call_eq (d := ⟨1, 1, b_told_of⟩) rfl rfl]
  cases t with
  | none => simp [b_told_of, mD, oK]
  | some t =>
    have h3 : L2.atI [D.str (wcO o), .str (dirC f), pd p, t.d] 3 = some t.d := by simp [L2.atI, L2.ixN]
    simp [b_told_of, mD, oK, h3]
theorem mD_idx (o : Option Wo) (f : Bool) (p : List Bool) (t : Option Ki) : ∃ r, mD o f p t = .tup (.str (wcO o) :: .str (dirC f) :: pd p :: r) := by
  cases t <;> exact ⟨_, rfl⟩
theorem e_mvA (k : Nat) (κ τ : Ki) (o : Option Wo) (f : Bool) (p : List Bool) (t : Option Ki) (st : St) (ok : κ.ok = true) (hd : κ.dep ≤ 6) (ht : κ.at p = some τ) (h : isVB o f = true → t.isSome = true) : callN pg (k + 8) i_moved_of [κ.d, mD o f p t] st = .ok (oD (mvA κ o f p t)) st := by
  obtain ⟨h1, h2⟩ := Ki.at_ok p ht
  have E1 := e_at (k + 6) κ τ p st ht
  have E2 := e_toldA (k + 6) o f p t st
  have E3 := e_ledA (k + 3) o f t τ st (h1 ok) (by omega) h
  have dp := τ.dep_pos
  have E4 := fun l => e_put st p κ (k + 7) l (by rw [ht]; rfl) (by omega)
  rw [call_eq (d := ⟨2, 3, b_moved_of⟩) rfl rfl]
  unfold mvA
  rw [ht]
  obtain ⟨r, hr⟩ := mD_idx o f p t
  rw [hr] at E2 ⊢
  cases e : ledA o f t τ with
  | none =>
    rw [e] at E3
    simp only [oD] at E3
    simp [b_moved_of, E1, E2, E3, setV, e, oD]
  | some l =>
    rw [e] at E3
    simp only [oD] at E3
    have n : ¬ (l.d = D.non) := by cases l <;> simp [Ki.d]
    simp [b_moved_of, E1, E2, E3, E4, setV, e, oD, n]
end K73

set_option Elab.async false
set_option linter.all false
set_option maxRecDepth 100000
/-! k73, plainly: any value judged as a move. -/
namespace K73
open Ev PySem
theorem ki_lnS {κ : Ki} (h : κ.ok = true) (hw : κ.wid ≤ 1000) : ln κ.d ≤ sizeLine := by
  have := ki_ln κ h
  rw [sizeLine_eq]; omega
/-- what is left once the heads are words -/
theorem mv_tail (k : Nat) (κ : Ki) (o : Option Wo) (f : Bool) (c : D) (st : St) (t : List D) (ho : okD c = true) (n : (pathD κ c).isSome = false) (ht : t = [] ∨ ∃ d, t = [d]) :
    callN pg (k + 10) i_is_move_of [κ.d, .tup (.str (wcO o) :: .str (dirC f) :: c :: t)] st = .ok (.bl false) st := by
  have P := e_is_path (k + 7) κ c st ho
  rw [n] at P
  have W := inW (wcO_low o)
  have Dd := inDr (dirC_low f)
  rw [decide_eq_true (wcO_in o)] at W
  rw [decide_eq_true (dirC_in f)] at Dd
  have I := in34 (((.str (wcO o) :: .str (dirC f) :: c :: t : List D).length : Nat) : Int)
  have LC := fun e0 e1 e2 => lcStr (k + 9) st e0 e1 e2 [.str (wcO o), .str (dirC f)] (by simp only [okDs, Bool.and_true, Bool.and_eq_true]; exact ⟨wcO_low o, dirC_low f⟩) (by simp)
  have A := all_map isStr [.str (wcO o), .str (dirC f)]
  simp only [List.map, isStr] at LC
  simp [isStr] at A
  have S := cut2 (.str (wcO o)) (.str (dirC f)) (c :: t)
  simp only [wordsL, List.map, Wo.c, cV] at W
  simp only [dirsL, List.map, cBa, cFo] at Dd
  rw [call_eq (d := ⟨2, 4, b_is_move_of⟩) rfl rfl]
  rcases ht with rfl | ⟨d, rfl⟩ <;> simp at I <;> simp [b_is_move_of, tyIs, I, S, LC, A, W, Dd, P]
theorem mv_three (k : Nat) (κ τ : Ki) (o : Option Wo) (f : Bool) (p : List Bool) (t : Option Ki) (st : St) (ok : κ.ok = true) (hf : κ.fit = true) (hp : κ.at p = some τ) (h : t.isSome = isVB o f) (tk : ∀ u, t = some u → u.ok = true ∧ u.fit = true) :
    callN pg (k + 10) i_is_move_of [κ.d, mD o f p t] st = .ok (.bl ((mvA κ o f p t).filter Ki.fit).isSome) st := by
  obtain ⟨hw, hd⟩ := fit_b hf
  have ho : okD (pd p) = true := by
    simp only [pd, okD, okDs_iff]
    intro x hx
    obtain ⟨b, _, rfl⟩ := List.mem_map.mp hx
    cases b <;> decide
  have P := e_is_path (k + 7) κ (pd p) st ho
  rw [at_pathD p κ (by rw [hp]; rfl)] at P
  have W := inW (wcO_low o)
  have Dd := inDr (dirC_low f)
  rw [decide_eq_true (wcO_in o)] at W
  rw [decide_eq_true (dirC_in f)] at Dd
  have LC := fun e0 e1 e2 => lcStr (k + 9) st e0 e1 e2 [.str (wcO o), .str (dirC f)] (by simp only [okDs, Bool.and_true, Bool.and_eq_true]; exact ⟨wcO_low o, dirC_low f⟩) (by simp)
  have A := all_map isStr [.str (wcO o), .str (dirC f)]
  simp only [List.map, isStr] at LC
  simp [isStr] at A
  have V := eqVB o f
  simp only [cV, cBa] at V
  have M := e_mvA (k + 1) κ τ o f p t st ok hd hp (by intro q; rw [h, q])
  simp only [wordsL, List.map, Wo.c, cV] at W
  simp only [dirsL, List.map, cBa, cFo] at Dd
  have I3 := in34 3
  have I4 := in34 4
  simp at I3 I4
  have B1 : eqD (.bl false) (.bl false) = some true := by decide +kernel
  have B2 : eqD (.bl true) (.bl true) = some true := by decide +kernel
  have fin : ∀ e, mvA κ o f p t = e → callN pg (k + 9) i_is_kind_of [oD e] st = .ok (.bl (e.filter Ki.fit).isSome) st ∨ e = none := fun e he => by
    cases e with
    | none => exact .inr rfl
    | some l =>
      left
      unfold mvA at he
      rw [hp] at he
      simp only [Option.bind_some, Option.map_eq_some_iff] at he
      obtain ⟨u, hu, rfl⟩ := he
      obtain ⟨g1, g2, g3⟩ := ledA_b hu (fun u q => ⟨(tk u q).1, (fit_b (tk u q).2).2, (fit_b (tk u q).2).1⟩)
      obtain ⟨k1, k2, k3⟩ := putA_b p hp g1 g2
      have okl := k3 ok (g3 ((Ki.at_ok p hp).1 ok))
      have := e_kind_ki k (κ.put p u) st okl (ki_lnS okl (by omega))
      simp only [oD]
      rw [this]
      cases hfi : (κ.put p u).fit <;> simp [Option.filter, hfi]
  cases t with
  | none =>
    simp only [Option.isSome_none] at h
    rw [← h] at V
    have S := cut2 (.str (wcO o)) (.str (dirC f)) [pd p]
    rw [call_eq (d := ⟨2, 4, b_is_move_of⟩) rfl rfl]
    simp only [mD] at M ⊢
    cases e : mvA κ o f p none with
    | none =>
      rw [e] at M
      simp only [oD] at M
      simp [b_is_move_of, tyIs, I3, S, LC, A, W, Dd, P, V, B1, M, setV]
    | some l =>
      rw [e] at M
      have F := (fin _ e).resolve_right (by simp)
      simp only [oD] at M F
      have n : ¬ (l.d = D.non) := by cases l <;> simp [Ki.d]
      simp [b_is_move_of, tyIs, I3, S, LC, A, W, Dd, P, V, B1, M, setV, n, F]
  | some u =>
    simp only [Option.isSome_some] at h
    rw [← h] at V
    have S := cut2 (.str (wcO o)) (.str (dirC f)) [pd p, u.d]
    have U := e_kind_ki k u st (tk u rfl).1 (ki_lnS (tk u rfl).1 (by have := fit_b (tk u rfl).2; omega))
    rw [(tk u rfl).2] at U
    have X3 : L2.atI [D.str (wcO o), .str (dirC f), pd p, u.d] 3 = some u.d := by simp [L2.atI, L2.ixN]
    rw [call_eq (d := ⟨2, 4, b_is_move_of⟩) rfl rfl]
    simp only [mD] at M ⊢
    cases e : mvA κ o f p (some u) with
    | none =>
      rw [e] at M
      simp only [oD] at M
      simp [b_is_move_of, tyIs, I4, S, LC, A, W, Dd, P, V, B2, M, setV, X3, U]
    | some l =>
      rw [e] at M
      have F := (fin _ e).resolve_right (by simp)
      simp only [oD] at M F
      have n : ¬ (l.d = D.non) := by cases l <;> simp [Ki.d]
      simp [b_is_move_of, tyIs, I4, S, LC, A, W, Dd, P, V, B2, M, setV, n, F, X3, U]
/-- with void, back and no kind, or a kind and another move; or what stands there is no kind -/
theorem mv_bad (k : Nat) (κ τ : Ki) (o : Option Wo) (f : Bool) (p : List Bool) (t : List D) (st : St) (hp : κ.at p = some τ) (h : t = [] ∧ isVB o f = true ∨ ∃ d, t = [d] ∧ (isVB o f = false ∨ okD d = true ∧ ln d ≤ sizeLine ∧ callN pg (k + 9) i_is_kind_of [d] st = .ok (.bl false) st)) :
    callN pg (k + 10) i_is_move_of [κ.d, .tup (.str (wcO o) :: .str (dirC f) :: pd p :: t)] st = .ok (.bl false) st := by
  have ho : okD (pd p) = true := by
    simp only [pd, okD, okDs_iff]
    intro x hx
    obtain ⟨b, _, rfl⟩ := List.mem_map.mp hx
    cases b <;> decide
  have P := e_is_path (k + 7) κ (pd p) st ho
  rw [at_pathD p κ (by rw [hp]; rfl)] at P
  have W := inW (wcO_low o)
  have Dd := inDr (dirC_low f)
  rw [decide_eq_true (wcO_in o)] at W
  rw [decide_eq_true (dirC_in f)] at Dd
  have LC := fun e0 e1 e2 => lcStr (k + 9) st e0 e1 e2 [.str (wcO o), .str (dirC f)] (by simp only [okDs, Bool.and_true, Bool.and_eq_true]; exact ⟨wcO_low o, dirC_low f⟩) (by simp)
  have A := all_map isStr [.str (wcO o), .str (dirC f)]
  simp only [List.map, isStr] at LC
  simp [isStr] at A
  have V := eqVB o f
  simp only [cV, cBa] at V
  simp only [wordsL, List.map, Wo.c, cV] at W
  simp only [dirsL, List.map, cBa, cFo] at Dd
  have I3 := in34 3
  have I4 := in34 4
  simp at I3 I4
  have B1 : eqD (.bl false) (.bl true) = some false := by decide +kernel
  have B2 : eqD (.bl true) (.bl false) = some false := by decide +kernel
  have B3 : eqD (.bl true) (.bl true) = some true := by decide +kernel
  have S := cut2 (.str (wcO o)) (.str (dirC f)) (pd p :: t)
  rw [call_eq (d := ⟨2, 4, b_is_move_of⟩) rfl rfl]
  rcases h with ⟨rfl, h⟩ | ⟨d, rfl, h⟩
  · rw [h] at V
    simp [b_is_move_of, tyIs, I3, S, LC, A, W, Dd, P, V, B1]
  · have X3 : L2.atI [D.str (wcO o), .str (dirC f), pd p, d] 3 = some d := by simp [L2.atI, L2.ixN]
    by_cases hb : isVB o f = false
    · rw [hb] at V
      simp [b_is_move_of, tyIs, I4, S, LC, A, W, Dd, P, V, B2]
    · have h := h.resolve_left hb
      have hb : isVB o f = true := by simpa using hb
      rw [hb] at V
      simp [b_is_move_of, tyIs, I4, S, LC, A, W, Dd, P, V, B3, X3, h.2.2]
/-- heads that are no words -/
theorem mv_odd (k : Nat) (κ : Ki) (v : D) (st : St) (ho : okD v = true) (h : ∀ (o : Option Wo) (f : Bool) (c : D) (t : List D), v = .tup (.str (wcO o) :: .str (dirC f) :: c :: t) → ¬ (t = [] ∨ ∃ d, t = [d])) :
    callN pg (k + 10) i_is_move_of [κ.d, v] st = .ok (.bl false) st := by
  rw [call_eq (d := ⟨2, 4, b_is_move_of⟩) rfl rfl]
  cases v with
  | tup xs =>
    have I := in34 ((xs.length : Nat) : Int)
    by_cases hl : xs.length = 3 ∨ xs.length = 4
    · have I : isinD (.int xs.length) (.tup [.int 3, .int 4]) = some true := by
        rw [I]; congr 1; simp; omega
      match xs, hl, ho, I with
      | a :: b :: c :: t, hl, ho, I =>
        have h1 : okD a = true ∧ okD b = true := by
          simp only [okD, okDs, Bool.and_eq_true] at ho
          exact ⟨ho.1, ho.2.1⟩
        have LC := fun e0 e1 e2 => lcStr (k + 9) st e0 e1 e2 [a, b] (by simp only [okDs, Bool.and_true, Bool.and_eq_true]; exact h1) (by simp)
        have A := all_map isStr [a, b]
        simp only [List.map] at LC A
        have S := cut2 a b (c :: t)
        by_cases ha : isStr a = true ∧ isStr b = true
        · obtain ⟨x, rfl⟩ : ∃ x, a = .str x := by cases a <;> first | exact ⟨_, rfl⟩ | cases ha.1
          obtain ⟨y, rfl⟩ : ∃ x, b = .str x := by cases b <;> first | exact ⟨_, rfl⟩ | cases ha.2
          have W := inW (x := x) h1.1
          have Dd := inDr (x := y) h1.2
          simp only [wordsL, List.map, Wo.c, cV] at W
          simp only [dirsL, List.map, cBa, cFo] at Dd
          by_cases hx : x ∈ wordsL
          · by_cases hy : y ∈ dirsL
            · obtain ⟨o, rfl⟩ := words_un hx
              obtain ⟨f, rfl⟩ := dirs_un hy
              refine absurd ?_ (h o f c t rfl)
              match t, hl with
              | [], _ => exact .inl rfl
              | [d], _ => exact .inr ⟨d, rfl⟩
              | _ :: _ :: _, hl => simp at hl
            · have hx : decide (x ∈ wordsL) = true := by simpa using hx
              have hy : decide (y ∈ dirsL) = false := by simpa using hy
              simp only [wordsL, Wo.c, cV] at hx
              simp only [dirsL, cBa, cFo] at hy
              rw [hx] at W
              rw [hy] at Dd
              simp at I
              simp only [isStr] at LC
              simp [isStr] at A
              simp [b_is_move_of, tyIs, I, S, LC, A, W, Dd]
          · have hx : decide (x ∈ wordsL) = false := by simpa using hx
            simp only [wordsL, Wo.c, cV] at hx
            rw [hx] at W
            simp at I
            simp only [isStr] at LC
            simp [isStr] at A
            simp [b_is_move_of, tyIs, I, S, LC, A, W]
        · have hab : (isStr a && isStr b) = false := by
            rw [Bool.eq_false_iff]
            simpa using ha
          simp only [List.all_cons, List.all_nil, Bool.and_true, hab] at A
          simp at I
          simp [b_is_move_of, tyIs, I, S, LC, A]
    · have I : isinD (.int xs.length) (.tup [.int 3, .int 4]) = some false := by
        rw [I]; congr 1; simp; omega
      simp [b_is_move_of, tyIs, I]
  | _ => first | (simp [okD] at ho; done) | simp [b_is_move_of, tyIs]
end K73

set_option Elab.async false
set_option linter.all false
set_option maxRecDepth 100000
/-! k73, plainly: what any value is as a move. -/
namespace K73
open Ev PySem
theorem wcO_inj {a b : Option Wo} (h : wcO a = wcO b) : a = b := by
  cases a with
  | none => cases b with
    | none => rfl
    | some w => cases w <;> simp [wcO, cV, Wo.c] at h
  | some v => cases b with
    | none => cases v <;> simp [wcO, cV, Wo.c] at h
    | some w => cases v <;> cases w <;> first | rfl | simp [wcO, Wo.c] at h
theorem dirC_inj {a b : Bool} (h : dirC a = dirC b) : a = b := by cases a <;> cases b <;> first | rfl | simp [dirC, cFo, cBa] at h
theorem bi_inj {a b : Bool} (h : bi a = bi b) : a = b := by cases a <;> cases b <;> first | rfl | simp [bi] at h
theorem pd_inj {p q : List Bool} (h : pd p = pd q) : p = q := by
  simp only [pd, D.tup.injEq] at h
  induction p generalizing q with
  | nil => cases q <;> simp at h ⊢
  | cons a p ih =>
    cases q with
    | nil => simp at h
    | cons b q =>
      simp only [List.map_cons, List.cons.injEq] at h
      rw [bi_inj h.1, ih h.2]
theorem Mv.d_inj {m n : Mv} (h : m.d = n.d) : m = n := by
  simp only [Mv.d, D.tup.injEq, List.cons.injEq, D.str.injEq, and_true] at h
  obtain ⟨h1, h2, h3⟩ := h
  have h1 : some m.w = some n.w := wcO_inj h1
  cases m; cases n
  simp only [Option.some.injEq] at h1
  simp only [Mv.mk.injEq]
  exact ⟨h1, dirC_inj h2, pd_inj h3⟩
theorem mD_d (m : Mv) : mD (some m.w) m.f m.p none = m.d := rfl
/-- what a value is as a move of a kind: none, or whether it is near, and the kind it leads to -/
structure IsMv (k : Nat) (κ : Ki) (v : D) (st : St) (o : Option (Bool × Ki)) : Prop where
  jud : callN pg (k + 10) i_is_move_of [κ.d, v] st = .ok (.bl o.isSome) st
  led : ∀ b κ', o = some (b, κ') → κ'.ok = true ∧ κ'.fit = true ∧ (∀ k, callN pg (k + 8) i_moved_of [κ.d, v] st = .ok κ'.d st) ∧ ∃ w r, v = .tup (.str w :: r) ∧ low w = true ∧ decide (w = cV) = !b
  near : ∀ (m : Mv) κ', v = m.d → (mvd κ m).filter Ki.fit = some κ' → o = some (true, κ')
  nearI : ∀ κ', o = some (true, κ') → ∃ m : Mv, v = m.d ∧ (mvd κ m).filter Ki.fit = some κ'
theorem IsMv.no {k : Nat} {κ : Ki} {v : D} {st : St} (h : callN pg (k + 10) i_is_move_of [κ.d, v] st = .ok (.bl false) st) (n : ∀ (m : Mv) κ', v = m.d → (mvd κ m).filter Ki.fit = some κ' → False) : IsMv k κ v st none :=
  ⟨h, fun _ _ q => (nomatch q), fun m κ' e f => (n m κ' e f).elim, fun _ q => (nomatch q)⟩
theorem mvd_at {κ κ' : Ki} {m : Mv} (h : (mvd κ m).filter Ki.fit = some κ') : ∃ τ, κ.at m.p = some τ := by
  cases e : κ.at m.p with
  | some τ => exact ⟨τ, rfl⟩
  | none => simp [mvd, e] at h
theorem mv_any (k : Nat) (κ : Ki) (v : D) (st : St) (ok : κ.ok = true) (hf : κ.fit = true) (ho : okD v = true) (hl : ln v ≤ sizeLine) : ∃ o, IsMv k κ v st o := by
  obtain ⟨hw, hd⟩ := fit_b hf
  by_cases hv : ∃ (o : Option Wo) (f : Bool) (c : D) (t : List D), v = .tup (.str (wcO o) :: .str (dirC f) :: c :: t) ∧ (t = [] ∨ ∃ d, t = [d])
  · obtain ⟨o, f, c, t, rfl, ht⟩ := hv
    have hc : okD c = true := by
      simp only [okD, okDs, Bool.and_eq_true] at ho
      exact ho.2.2.1
    cases hp : pathD κ c with
    | none =>
      refine ⟨none, .no (mv_tail k κ o f c st t hc (by rw [hp]; rfl) ht) fun m κ' e q => ?_⟩
      obtain ⟨τ, hτ⟩ := mvd_at q
      simp only [Mv.d, D.tup.injEq, List.cons.injEq] at e
      rw [e.2.2.1, at_pathD m.p κ (by rw [hτ]; rfl)] at hp
      cases hp
    | some p =>
      obtain ⟨hc2, hat⟩ : c = pd p ∧ (κ.at p).isSome = true := by
        cases c with
        | tup xs =>
          obtain ⟨h1, h2⟩ := pathL_at xs (κ := κ) (p := p) hp
          exact ⟨by rw [h1]; rfl, h2⟩
        | _ => cases hp
      subst hc2
      obtain ⟨τ, hτ⟩ := Option.isSome_iff_exists.mp hat
      have three : ∀ t : Option Ki, t.isSome = isVB o f → (∀ u, t = some u → u.ok = true ∧ u.fit = true) → IsMv k κ (mD o f p t) st (((mvA κ o f p t).filter Ki.fit).map fun l => (o.isSome, l)) := fun t h1 h2 => by
        refine ⟨?_, ?_, ?_, ?_⟩
        · rw [mv_three k κ τ o f p t st ok hf hτ h1 h2]
          simp
        · intro b κ' e
          simp only [Option.map_eq_some_iff] at e
          obtain ⟨l, hl, e⟩ := e
          cases e
          have hl2 : mvA κ o f p t = some κ' ∧ κ'.fit = true := by simpa [Option.filter_eq_some_iff] using hl
          have okl : κ'.ok = true := by
            have he := hl2.1
            unfold mvA at he
            rw [hτ] at he
            simp only [Option.bind_some, Option.map_eq_some_iff] at he
            obtain ⟨u, hu, rfl⟩ := he
            obtain ⟨g1, g2, g3⟩ := ledA_b hu (fun u q => ⟨(h2 u q).1, (fit_b (h2 u q).2).2, (fit_b (h2 u q).2).1⟩)
            exact (putA_b p hτ g1 g2).2.2 ok (g3 ((Ki.at_ok p hτ).1 ok))
          refine ⟨okl, hl2.2, fun k => ?_, ?_⟩
          · have := e_mvA k κ τ o f p t st ok hd hτ (by intro q; rw [h1, q])
            rw [hl2.1] at this
            exact this
          · obtain ⟨r, hr⟩ := mD_idx o f p t
            refine ⟨wcO o, _, hr, wcO_low o, ?_⟩
            cases o with
            | none => rfl
            | some w => cases w <;> rfl
        · intro m κ' e q
          cases t with
          | some u => simp [mD, Mv.d] at e
          | none =>
            have e : mD o f p none = m.d := e
            simp only [mD, Mv.d, D.tup.injEq, List.cons.injEq, D.str.injEq, and_true] at e
            have eo : o = some m.w := wcO_inj e.1
            have ef : f = m.f := dirC_inj e.2.1
            have ep : p = m.p := pd_inj e.2.2
            subst eo; subst ef; subst ep
            show ((mvd κ m).filter Ki.fit).map _ = _
            rw [q]; rfl
        · intro κ' e
          simp only [Option.map_eq_some_iff] at e
          obtain ⟨l, hl, e⟩ := e
          simp only [Prod.mk.injEq] at e
          obtain ⟨e1, rfl⟩ := e
          cases o with
          | none => cases e1
          | some w =>
            cases t with
            | some u => cases h1
            | none => exact ⟨⟨w, f, p⟩, rfl, hl⟩
      rcases ht with rfl | ⟨d, rfl⟩
      · cases hb : isVB o f with
        | true =>
          refine ⟨none, .no (mv_bad k κ τ o f p [] st hτ (.inl ⟨rfl, hb⟩)) fun m κ' e q => ?_⟩
          simp only [Mv.d, D.tup.injEq, List.cons.injEq, D.str.injEq, and_true] at e
          have eo : o = some m.w := wcO_inj e.1
          subst eo
          cases hb
        | false => exact ⟨_, three none (by rw [hb]; rfl) (fun _ q => by cases q)⟩
      · have hdo : okD d = true := by
          simp only [okD, okDs, Bool.and_eq_true] at ho
          exact ho.2.2.2.1
        have hdl : ln d ≤ sizeLine := by simp only [ln, lns] at hl; omega
        have n : ∀ (m : Mv) κ', D.tup [.str (wcO o), .str (dirC f), pd p, d] = m.d → (mvd κ m).filter Ki.fit = some κ' → False := fun m κ' e q => by simp [Mv.d] at e
        cases hb : isVB o f with
        | false => exact ⟨none, .no (mv_bad k κ τ o f p [d] st hτ (.inr ⟨d, rfl, .inl hb⟩)) n⟩
        | true =>
          cases hk : built 6 d with
          | false => exact ⟨none, .no (mv_bad k κ τ o f p [d] st hτ (.inr ⟨d, rfl, .inr ⟨hdo, hdl, e_kind_no k d st hdo hdl hk⟩⟩)) n⟩
          | true =>
            obtain ⟨u, rfl, u1, u2⟩ := built_ki 6 d hk
            have E := e_kind_ki k u st u1 hdl
            cases hu : u.fit with
            | false =>
              rw [hu] at E
              exact ⟨none, .no (mv_bad k κ τ o f p [u.d] st hτ (.inr ⟨u.d, rfl, .inr ⟨hdo, hdl, E⟩⟩)) n⟩
            | true => exact ⟨_, three (some u) (by rw [hb]; rfl) (fun _ q => by cases q; exact ⟨u1, hu⟩)⟩
  · refine ⟨none, .no (mv_odd k κ v st ho fun o f c t e ht => hv ⟨o, f, c, t, e, ht⟩) fun m κ' e q => ?_⟩
    exact hv ⟨some m.w, m.f, pd m.p, [], e, .inl rfl⟩
end K73

set_option Elab.async false
set_option linter.all false
set_option maxRecDepth 100000
/-! k73, plainly: moves in a sequence of their own. -/
namespace K73
open Ev PySem
abbrev M3 := Option Wo × Bool × List Bool
def M3.d (m : M3) : D := mD m.1 m.2.1 m.2.2 none
theorem toS_toks (x : List Nat) : (toS x).cps.toList = x := by simp [toS]
theorem bits_toks : ∀ (p q : List Bool) (a b : List (Int ⊕ List Nat)), PySem.W.keyToksAll (D.pys (p.map bi)) ++ a = PySem.W.keyToksAll (D.pys (q.map bi)) ++ b → p = q
  | [], [], _, _, _ => rfl
  | [], c :: q, a, b, h => by simp [D.pys, PySem.W.keyToksAll] at h
  | c :: p, [], a, b, h => by simp [D.pys, PySem.W.keyToksAll] at h
  | c :: p, e :: q, a, b, h => by
    simp only [List.map_cons, D.pys, PySem.W.keyToksAll, List.cons_append, List.append_assoc, bi, D.py, PySem.W.keyToks, List.nil_append, List.cons.injEq, Sum.inl.injEq, true_and] at h
    have ih := bits_toks p q a b h.2
    have : c = e := by
      have := h.1
      cases c <;> cases e <;> simp at this ⊢
    rw [this, ih]
theorem m3_toks (m n : M3) (h : PySem.W.keyToks m.d.py = PySem.W.keyToks n.d.py) : m = n := by
  obtain ⟨o, f, p⟩ := m
  obtain ⟨o', f', p'⟩ := n
  simp only [M3.d, mD, pd, D.py, D.pys, PySem.W.keyToks, PySem.W.keyToksAll, toS_toks, List.cons_append, List.nil_append, List.cons.injEq, Sum.inr.injEq, true_and] at h
  have h1 : o = o' := wcO_inj h.1
  have h2 : f = f' := dirC_inj h.2.1
  have h3 : p = p' := bits_toks p p' _ _ h.2.2
  subst h1; subst h2; subst h3; rfl
theorem bits_alike : ∀ (p q : List Bool), PySem.W.alikeAll (D.pys (p.map bi)) (D.pys (q.map bi)) = true
  | [], q => by simp [D.pys, PySem.W.alikeAll]
  | c :: p, [] => by simp [D.pys, PySem.W.alikeAll]
  | c :: p, e :: q => by simp [D.pys, PySem.W.alikeAll, bi, D.py, PySem.W.alike, bits_alike p q]
theorem m3_alike (m n : M3) : PySem.W.alike m.d.py n.d.py = true := by
  obtain ⟨o, f, p⟩ := m
  obtain ⟨o', f', p'⟩ := n
  simp only [M3.d, mD, pd, D.py, D.pys, PySem.W.alike, PySem.W.alikeAll, bits_alike, Bool.and_self]
theorem m3_ok (m : M3) : okD m.d = true := by
  obtain ⟨o, f, p⟩ := m
  have hb : okDs (p.map bi) = true := by
    rw [okDs_iff]
    intro x hx
    obtain ⟨b, _, rfl⟩ := List.mem_map.mp hx
    cases b <;> decide
  have h1 : okD (.str (wcO o)) = true := wcO_low o
  have h2 : okD (.str (dirC f)) = true := dirC_low f
  simp only [M3.d, mD, pd, okD, okDs, Bool.and_eq_true, Bool.and_true] at *
  exact ⟨h1, h2, hb⟩
theorem m3_dp (m : M3) : dp m.d ≤ 2 := by
  obtain ⟨o, f, p⟩ := m
  have : dps (p.map bi) ≤ 0 := dps_le fun x hx => by
    obtain ⟨b, _, rfl⟩ := List.mem_map.mp hx
    simp [bi, dp]
  simp [M3.d, mD, pd, dp, dps]
  omega
theorem lay_map {α : Type} (f : α → D) (h : ∀ a, okD (f a) = true) : ∀ xs : List α, PyData.canLayAll0 (D.pys (xs.map f)) = true
  | [] => rfl
  | x :: xs => by
    simp only [List.map_cons, D.pys, PyData.canLayAll0, Bool.and_eq_true]
    exact ⟨(okP _ (h x)).lay, lay_map f h xs⟩
theorem sort_m3 (xs : List M3) : sortD (xs.map M3.d) = some ((xs.map M3.d).mergeSort leD) := by
  have h1 : alikes (xs.map M3.d) = true := by
    simp only [alikes, List.all_eq_true]
    intro a ha b hb
    obtain ⟨m, _, rfl⟩ := List.mem_map.mp ha
    obtain ⟨n, _, rfl⟩ := List.mem_map.mp hb
    exact m3_alike m n
  have h2 : (xs.map M3.d).all tupHead = true := by
    simp only [List.all_eq_true]
    intro a ha
    obtain ⟨m, _, rfl⟩ := List.mem_map.mp ha
    rfl
  have h3 : ((xs.map M3.d).all fun a => decide (a.py.depth ≤ 60)) = true := by
    simp only [List.all_eq_true, decide_eq_true_iff]
    intro a ha
    obtain ⟨m, _, rfl⟩ := List.mem_map.mp ha
    rw [(okP _ (m3_ok m)).dep]
    have := m3_dp m
    omega
  unfold sortD
  rw [lay_map M3.d m3_ok, h1, h2, h3]
  rfl
theorem leD_total : PySem.W.TotalLe leD := PySem.W.sortLe_total (PyProof.Rows.listOrd PyProof.Rows.itemOrd) false (fun b : D => PySem.W.keyToks b.py)
theorem leD_anti {m n : M3} (h1 : leD m.d n.d = true) (h2 : leD n.d m.d = true) : m = n := by
  unfold leD PySem.W.dataLe PySem.W.sortLe at h1 h2
  simp only [cond_false, Bool.not_eq_true'] at h1 h2
  exact m3_toks m n ((PyProof.Rows.listOrd PyProof.Rows.itemOrd).total _ _ h2 h1)
/-- sorted, the same moves are the same list -/
theorem sort_one {xs : List D} {ms : List M3} (hx : xs.Pairwise (fun a b => leD a b = true)) (hm : ∀ x ∈ xs, ∃ m : M3, x = m.d) (hp : xs.Perm (ms.map M3.d)) : xs = (ms.map M3.d).mergeSort leD := by
  refine List.Perm.eq_of_pairwise (le := fun a b => leD a b = true) ?_ hx (PySem.W.sort_pairwise leD_total _) (hp.trans (List.mergeSort_perm _ _).symm)
  intro a b ha hb h1 h2
  obtain ⟨m, rfl⟩ := hm a ha
  rw [List.mem_mergeSort] at hb
  obtain ⟨n, _, rfl⟩ := List.mem_map.mp hb
  rw [leD_anti h1 h2]
/-- the words in their sequence -/
def woL : List Wo := [.curry, .drop, .regroup, .sole, .split, .swap]
def woA : List (Option Wo) := woL.map some ++ [none]
/-- all moves of words, ways, paths, but those of void back -/
def gT (κ : Ki) (o : Option Wo) : List M3 := [false, true].flatMap fun f => if isVB o f = true then [] else κ.paths.map fun p => (o, f, p)
def progT (κ : Ki) : List M3 := woA.flatMap (gT κ)
def isM (κ : Ki) (m : M3) : Bool := ((mvA κ m.1 m.2.1 m.2.2 none).filter Ki.fit).isSome
def lawT (κ : Ki) : List M3 := κ.paths.flatMap fun p => woL.flatMap fun w => ([false, true].map fun f => (some w, f, p)).filter (isM κ)
theorem paths_nodup : ∀ κ : Ki, κ.paths.Nodup
  | .atom _ => by simp [Ki.paths]
  | .noth => by simp [Ki.paths]
  | .pair a b => by
    have ha := paths_nodup a
    have hb := paths_nodup b
    simp only [Ki.paths, List.nodup_cons, List.mem_append, List.mem_map, List.nodup_append]
    refine ⟨by simp, ?_, ?_, ?_⟩
    · exact List.Pairwise.map _ (fun x y h => by simpa using h) ha
    · exact List.Pairwise.map _ (fun x y h => by simpa using h) hb
    · intro x ⟨p, _, hp⟩ y ⟨q, _, hq⟩ e
      subst hp; subst hq
      simp at e
  | .frm a b => by
    have ha := paths_nodup a
    have hb := paths_nodup b
    simp only [Ki.paths, List.nodup_cons, List.mem_append, List.mem_map, List.nodup_append]
    refine ⟨by simp, ?_, ?_, ?_⟩
    · exact List.Pairwise.map _ (fun x y h => by simpa using h) ha
    · exact List.Pairwise.map _ (fun x y h => by simpa using h) hb
    · intro x ⟨p, _, hp⟩ y ⟨q, _, hq⟩ e
      subst hp; subst hq
      simp at e
theorem woL_nodup : woL.Nodup := by decide
theorem woA_nodup : woA.Nodup := by decide
theorem progT_nodup (κ : Ki) : (progT κ).Nodup := by
  unfold progT
  unfold List.Nodup
  rw [List.pairwise_flatMap]
  refine ⟨fun o _ => ?_, ?_⟩
  · unfold gT
    rw [List.pairwise_flatMap]
    refine ⟨fun f _ => ?_, ?_⟩
    · split
      · exact List.nodup_nil
      · exact List.Pairwise.map _ (fun x y h => by simpa using h) (paths_nodup κ)
    · refine List.Pairwise.imp ?_ (show [false, true].Nodup by decide)
      intro f g hfg x hx y hy e
      subst e
      split at hx
      · cases hx
      · split at hy
        · cases hy
        · obtain ⟨p, _, rfl⟩ := List.mem_map.mp hx
          obtain ⟨q, _, h⟩ := List.mem_map.mp hy
          simp only [Prod.mk.injEq] at h
          exact hfg h.2.1.symm
  · refine List.Pairwise.imp ?_ woA_nodup
    intro o o' ho x hx y hy e
    subst e
    have key : ∀ o, x ∈ gT κ o → x.1 = o := fun o h => by
      unfold gT at h
      simp only [List.mem_flatMap] at h
      obtain ⟨f, _, h⟩ := h
      split at h
      · cases h
      · obtain ⟨p, _, rfl⟩ := List.mem_map.mp h
        rfl
    exact ho ((key o hx).symm.trans (key o' hy))
theorem lawT_nodup (κ : Ki) : (lawT κ).Nodup := by
  unfold lawT List.Nodup
  rw [List.pairwise_flatMap]
  refine ⟨fun p _ => ?_, ?_⟩
  · rw [List.pairwise_flatMap]
    refine ⟨fun w _ => ?_, ?_⟩
    · refine List.Pairwise.filter _ ?_
      exact List.Pairwise.map _ (fun x y h => by simpa using h) (show [false, true].Nodup by decide)
    · refine List.Pairwise.imp ?_ woL_nodup
      intro w w' hw x hx y hy e
      subst e
      obtain ⟨f, _, rfl⟩ := List.mem_map.mp (List.mem_filter.mp hx).1
      obtain ⟨g, _, h⟩ := List.mem_map.mp (List.mem_filter.mp hy).1
      simp only [Prod.mk.injEq, Option.some.injEq] at h
      exact hw h.1.symm
  · refine List.Pairwise.imp ?_ (paths_nodup κ)
    intro p q hpq x hx y hy e
    subst e
    simp only [List.mem_flatMap] at hx hy
    obtain ⟨w, _, hx⟩ := hx
    obtain ⟨w', _, hy⟩ := hy
    obtain ⟨f, _, rfl⟩ := List.mem_map.mp (List.mem_filter.mp hx).1
    obtain ⟨g, _, h⟩ := List.mem_map.mp (List.mem_filter.mp hy).1
    simp only [Prod.mk.injEq] at h
    exact hpq h.2.2.symm
theorem woL_all (w : Wo) : w ∈ woL := by cases w <;> decide
/-- the near ones of the program's are the law's -/
theorem near_perm (κ : Ki) : (((progT κ).filter (isM κ)).filter fun m => m.1.isSome).Perm (lawT κ) := by
  rw [List.perm_ext_iff_of_nodup (List.Pairwise.filter _ (List.Pairwise.filter _ (progT_nodup κ))) (lawT_nodup κ)]
  intro m
  obtain ⟨o, f, p⟩ := m
  simp only [List.mem_filter, progT, lawT, gT, List.mem_flatMap]
  constructor
  · rintro ⟨⟨⟨o', _, f', _, h⟩, h2⟩, h3⟩
    split at h
    · cases h
    · obtain ⟨q, hq, h⟩ := List.mem_map.mp h
      cases h
      cases o with
      | none => cases h3
      | some w => exact ⟨p, hq, w, woL_all w, List.mem_map.mpr ⟨f, by cases f <;> simp, rfl⟩, h2⟩
  · rintro ⟨q, hq, w, _, h, h2⟩
    obtain ⟨g, _, h⟩ := List.mem_map.mp h
    cases h
    refine ⟨⟨⟨some w, ?_, f, by cases f <;> simp, ?_⟩, h2⟩, rfl⟩
    · simp [woA, woL_all w]
    · rw [if_neg (by simp [isVB])]
      exact List.mem_map.mpr ⟨p, hq, rfl⟩
end K73

set_option Elab.async false
set_option linter.all false
set_option maxRecDepth 100000
/-! k73, plainly: the lists of moves. -/
namespace K73
open Ev PySem
theorem at_mem : ∀ (κ : Ki) (p : List Bool), p ∈ κ.paths → ∃ τ, κ.at p = some τ
  | .atom s, p, h => by simp [Ki.paths] at h; subst h; exact ⟨_, rfl⟩
  | .noth, p, h => by simp [Ki.paths] at h; subst h; exact ⟨_, rfl⟩
  | .pair a b, p, h => by
    simp only [Ki.paths, List.mem_cons, List.mem_append, List.mem_map] at h
    rcases h with rfl | ⟨q, hq, rfl⟩ | ⟨q, hq, rfl⟩
    · exact ⟨_, rfl⟩
    · simpa [Ki.at] using at_mem a q hq
    · simpa [Ki.at] using at_mem b q hq
  | .frm a b, p, h => by
    simp only [Ki.paths, List.mem_cons, List.mem_append, List.mem_map] at h
    rcases h with rfl | ⟨q, hq, rfl⟩ | ⟨q, hq, rfl⟩
    · exact ⟨_, rfl⟩
    · simpa [Ki.at] using at_mem a q hq
    · simpa [Ki.at] using at_mem b q hq
theorem mem_at : ∀ (p : List Bool) (κ : Ki), (κ.at p).isSome = true → p ∈ κ.paths
  | [], κ, _ => by cases κ <;> simp [Ki.paths]
  | c :: p, κ, h => by
    cases κ with
    | atom s => simp [Ki.at] at h
    | noth => simp [Ki.at] at h
    | pair a b => cases c <;> simp [Ki.at] at h <;> simp [Ki.paths] <;> exact mem_at p _ h
    | frm a b => cases c <;> simp [Ki.at] at h <;> simp [Ki.paths] <;> exact mem_at p _ h
theorem paths_few {κ : Ki} (h : κ.fit = true) : κ.paths.length ≤ 23 := by
  have := paths_len κ
  have := fit_b h
  omega
theorem gT_few {κ : Ki} (h : κ.fit = true) (o : Option Wo) : (gT κ o).length ≤ 46 := by
  have := paths_few h
  unfold gT
  simp only [List.flatMap_cons, List.flatMap_nil, List.append_nil, List.length_append]
  split <;> split <;> simp <;> omega
/-- the moves of a word and a way -/
def dT (κ : Ki) (o : Option Wo) (f : Bool) : List M3 := if isVB o f = true then [] else κ.paths.map fun p => (o, f, p)
theorem mv_lc (k : Nat) (u s1 s4 s5 : Sl) (o : Option Wo) (f : Bool) (xs : List (List Bool)) (st : St) (hl : xs.length ≤ 1000) :
    lcL (callN pg k) pg.gl [u, s1, .va (.str (wcO o)), .va (.str (dirC f)), s4, s5] st p1_moves_of (.nm 5) (.cst (.bl true)) [5] (xs.map pd, []) = .ok (.lst (xs.map fun p => M3.d (o, f, p))) st := by
  refine lcL_ok (by rw [sizeLine_eq]; simp; omega) ?_
  have e : (xs.map fun p => M3.d (o, f, p)) = (xs.map pd).map fun x => D.tup [.str (wcO o), .str (dirC f), x] := by
    rw [List.map_map]; rfl
  rw [e]
  refine lc_map _ rfl fun x hx => ?_
  simp [lcF, asgTg, wipeE, p1_moves_of]
theorem dir_turn (k : Nat) (κ : Ki) (o : Option Wo) (f : Bool) (ys : List D) (s3 s4 s5 : Sl) (st : St) (hf : κ.fit = true) (hy : ys.length ≤ 10000) :
    forF (callN pg (k + 7)) pg.gl (.nm 3) p2_moves_of (.str (dirC f)) [.va κ.d, .ow ys, .va (.str (wcO o)), s3, s4, s5] st = .nx [.va κ.d, .ow (ys ++ (dT κ o f).map M3.d), .va (.str (wcO o)), .va (.str (dirC f)), s4, s5] st := by
  obtain ⟨hw, hd⟩ := fit_b hf
  have V := eqVB o f
  simp only [cV, cBa] at V
  have P := e_paths st κ (k + 7) (by omega) (by omega) (by omega)
  have L := fun s1 => mv_lc (k + 7) (.va κ.d) s1 s4 s5 o f κ.paths st (by have := paths_few hf; omega)
  have pf := paths_few hf
  have z : ys.length + κ.paths.length ≤ sizeLine := by rw [sizeLine_eq]; omega
  unfold dT
  cases hb : isVB o f with
  | true =>
    rw [hb] at V
    simp [forF, asgTg, p2_moves_of, V]
  | false =>
    rw [hb] at V
    simp [forF, asgTg, p2_moves_of, V, P, L, z, Function.comp_def]
theorem words_loop (k : Nat) (κ : Ki) (s4 s5 : Sl) (st : St) (hf : κ.fit = true) : ∀ (os : List (Option Wo)) (ys : List D) (s2 s3 : Sl), ys.length + os.length * 100 ≤ 9000 → ∃ s2' s3', forLoop (forF (callN pg (k + 7)) pg.gl (.nm 2) p3_moves_of) [] (os.map fun o => .str (wcO o)) [.va κ.d, .ow ys, s2, s3, s4, s5] st = .nx [.va κ.d, .ow (ys ++ (os.flatMap (gT κ)).map M3.d), s2', s3', s4, s5] st
  | [], ys, s2, s3, h => ⟨s2, s3, by simpa using for_nil rfl⟩
  | o :: os, ys, s2, s3, h => by
    have hl := paths_few hf
    have d0 : (dT κ o false).length ≤ 23 := by unfold dT; split <;> simp <;> omega
    have d1 : (dT κ o true).length ≤ 23 := by unfold dT; split <;> simp <;> omega
    simp only [List.length_cons] at h
    have t0 := dir_turn k κ o false ys s3 s4 s5 st hf (by omega)
    have t1 := dir_turn k κ o true (ys ++ (dT κ o false).map M3.d) (.va (.str (dirC false))) s4 s5 st hf (by simp; omega)
    have l : forLoop (forF (callN pg (k + 7)) pg.gl (.nm 3) p2_moves_of) [] [.str cBa, .str cFo] [.va κ.d, .ow ys, .va (.str (wcO o)), s3, s4, s5] st = .nx [.va κ.d, .ow (ys ++ (gT κ o).map M3.d), .va (.str (wcO o)), .va (.str (dirC true)), s4, s5] st := by
      refine (for_nx (x := .str (dirC false)) (xs := [.str (dirC true)]) rfl t0).trans ((for_nx (x := .str (dirC true)) (xs := []) rfl t1).trans ((for_nil rfl).trans ?_))
      have e : gT κ o = dT κ o false ++ dT κ o true := by simp [gT, dT]
      rw [e, List.map_append, List.append_assoc]
    obtain ⟨s2', s3', ih⟩ := words_loop k κ s4 s5 st hf os (ys ++ (gT κ o).map M3.d) (.va (.str (wcO o))) (.va (.str (dirC true))) (by
      have := gT_few hf o
      simp; omega)
    refine ⟨s2', s3', (for_nx (env' := [.va κ.d, .ow (ys ++ (gT κ o).map M3.d), .va (.str (wcO o)), .va (.str (dirC true)), s4, s5]) (st' := st) rfl ?_).trans (ih.trans ?_)⟩
    · simp only [cBa, cFo] at l
      simp [forF, asgTg, p3_moves_of, l]
    · rw [List.flatMap_cons, List.map_append, List.append_assoc]
theorem isM_ok (k : Nat) (κ : Ki) (m : M3) (st : St) (ok : κ.ok = true) (hf : κ.fit = true) (h : m ∈ progT κ) : callN pg (k + 10) i_is_move_of [κ.d, m.d] st = .ok (.bl (isM κ m)) st := by
  obtain ⟨o, f, p⟩ := m
  simp only [progT, gT, List.mem_flatMap] at h
  obtain ⟨o', _, f', _, h⟩ := h
  split at h
  · cases h
  · rename_i hv
    obtain ⟨q, hq, h⟩ := List.mem_map.mp h
    cases h
    obtain ⟨τ, hτ⟩ := at_mem κ p hq
    have hv : isVB o f = false := by simpa using hv
    exact mv_three k κ τ o f p none st ok hf hτ (by rw [hv]; rfl) (fun _ q => (nomatch q))
theorem progT_few {κ : Ki} (h : κ.fit = true) : (progT κ).length ≤ 400 := by
  have g := gT_few h
  have := g (some .curry); have := g (some .drop); have := g (some .regroup); have := g (some .sole); have := g (some .split); have := g (some .swap); have := g none
  simp only [progT, woA, woL, List.map_cons, List.map_nil, List.cons_append, List.nil_append, List.flatMap_cons, List.flatMap_nil, List.length_append, List.length_nil]
  omega
/-- the moves of the program -/
def movesD (κ : Ki) : List D := (((progT κ).filter (isM κ)).map M3.d).mergeSort leD
theorem e_moves_of (k : Nat) (κ : Ki) (st : St) (ok : κ.ok = true) (hf : κ.fit = true) : callN pg (k + 11) i_moves_of [κ.d] st = .ok (.lst (movesD κ)) st := by
  obtain ⟨s2, s3, W⟩ := words_loop (k + 3) κ .no .no st hf woA [] .no .no (by decide)
  have pf := progT_few hf
  have S := sort_m3 ((progT κ).filter (isM κ))
  have Lc : ∀ s2 s3, lcL (callN pg (k + 10)) pg.gl [.va κ.d, .ow ((progT κ).map M3.d), s2, s3, .no, .no] st (.var 4) (.nm 4) p0_moves_of [4] ((progT κ).map M3.d, [.own 1 ((progT κ).map M3.d)]) = .ok (.lst (((progT κ).filter (isM κ)).map M3.d)) st := fun s2 s3 => by
    refine lcL_ok (by rw [sizeLine_eq]; simp; omega) ?_
    have key : ∀ ms : List M3, (∀ m ∈ ms, m ∈ progT κ) → lcLoop (lcF (callN pg (k + 10)) pg.gl [.va κ.d, .ow ((progT κ).map M3.d), s2, s3, .no, .no] (.var 4) (.nm 4) p0_moves_of [4]) [.own 1 ((progT κ).map M3.d)] [.va κ.d, .ow ((progT κ).map M3.d), s2, s3, .no, .no] (ms.map M3.d) st = .ok ((ms.filter (isM κ)).map M3.d) st := by
      intro ms
      have hg : gdsOk [.va κ.d, .ow ((progT κ).map M3.d), s2, s3, .no, .no] st [.own 1 ((progT κ).map M3.d)] = true := by simp [gdsOk, Gd.ok]
      induction ms with
      | nil => intro _; exact lc_nil hg
      | cons m ms ih =>
        intro h
        have ih := ih fun x hx => h x (List.mem_cons_of_mem _ hx)
        have q := isM_ok k κ m st ok hf (h m (List.mem_cons_self ..))
        cases hm : isM κ m with
        | true =>
          rw [hm] at q
          rw [List.filter_cons_of_pos hm, List.map_cons, List.map_cons]
          refine lc_some hg ?_ ih
          simp [lcF, asgTg, wipeE, p0_moves_of, q]
        | false =>
          rw [hm] at q
          rw [List.filter_cons_of_neg (by simp [hm]), List.map_cons]
          refine lc_none hg ?_ ih
          simp [lcF, asgTg, wipeE, p0_moves_of, q]
    exact key _ fun _ h => h
  unfold movesD
  have W : forLoop (forF (callN pg (k + 10)) pg.gl (.nm 2) p3_moves_of) [] (woA.map fun o => .str (wcO o)) [.va κ.d, .ow [], .no, .no, .no, .no] st = .nx [.va κ.d, .ow ((progT κ).map M3.d), s2, s3, .no, .no] st := W
  obtain ⟨ps, hps⟩ : ∃ ps, (progT κ).map M3.d = ps := ⟨_, rfl⟩
  obtain ⟨qs, hqs⟩ : ∃ qs, ((progT κ).filter (isM κ)).map M3.d = qs := ⟨_, rfl⟩
  rw [hps] at W Lc
  rw [hqs] at Lc S
  rw [hqs]
  simp only [woA, woL, List.map_cons, List.map_nil, List.cons_append, List.nil_append, wcO, Wo.c, cV] at W
  clear hps hqs
  have S2 : biD .sorted [.lst qs] = some (.lst (qs.mergeSort leD)) := by simp [biD, Ev.one, itemsD, S]
  rw [call_eq (d := ⟨1, 6, b_moves_of⟩) rfl rfl]
  simp [b_moves_of, W, Lc, S2, setV, guardOf]
end K73

set_option Elab.async false
set_option linter.all false
set_option maxRecDepth 100000
/-! k73, plainly: near moves, the program's and the law's. -/
namespace K73
open Ev PySem
/-- near moves in their sequence -/
def nearD (κ : Ki) : List D := ((lawT κ).map M3.d).mergeSort leD
/-- the head is not void -/
def notV : D → Bool
  | .tup (.str w :: _) => decide (w ≠ cV)
  | _ => false
theorem notV_m (m : M3) : notV m.d = m.1.isSome := by
  obtain ⟨o, f, p⟩ := m
  cases o with
  | none => rfl
  | some w => cases w <;> rfl
theorem near_eq (κ : Ki) : (movesD κ).filter notV = nearD κ := by
  unfold nearD
  refine sort_one (List.Pairwise.filter _ (PySem.W.sort_pairwise leD_total _)) ?_ ?_
  · intro x hx
    have := (List.mem_filter.mp hx).1
    unfold movesD at this
    rw [List.mem_mergeSort] at this
    obtain ⟨m, _, rfl⟩ := List.mem_map.mp this
    exact ⟨m, rfl⟩
  · unfold movesD
    refine (List.Perm.filter notV (List.mergeSort_perm _ _)).trans ?_
    have e : (((progT κ).filter (isM κ)).map M3.d).filter notV = (((progT κ).filter (isM κ)).filter fun m => m.1.isSome).map M3.d := by
      rw [List.filter_map]
      congr 2
      funext m
      exact notV_m m
    rw [e]
    exact (near_perm κ).map M3.d
theorem movesD_mem {κ : Ki} {x : D} (h : x ∈ movesD κ) : ∃ m : M3, x = m.d := by
  unfold movesD at h
  rw [List.mem_mergeSort] at h
  obtain ⟨m, _, rfl⟩ := List.mem_map.mp h
  exact ⟨m, rfl⟩
theorem movesD_few {κ : Ki} (h : κ.fit = true) : (movesD κ).length ≤ 400 := by
  unfold movesD
  rw [List.length_mergeSort, List.length_map]
  exact Nat.le_trans (List.length_filter_le _ _) (progT_few h)
theorem e_near (k : Nat) (κ : Ki) (st : St) (ok : κ.ok = true) (hf : κ.fit = true) : callN pg (k + 12) i_near_moves_of [κ.d] st = .ok (.lst (nearD κ)) st := by
  have M := e_moves_of k κ st ok hf
  have mf := movesD_few hf
  have Lc : lcL (callN pg (k + 11)) pg.gl [.va κ.d, .no] st (.var 1) (.nm 1) p0_near_moves_of [1] (movesD κ, []) = .ok (.lst (nearD κ)) st := by
    refine lcL_ok (by rw [sizeLine_eq]; omega) ?_
    rw [← near_eq]
    have key : ∀ xs : List D, (∀ x ∈ xs, ∃ m : M3, x = m.d) → lcLoop (lcF (callN pg (k + 11)) pg.gl [.va κ.d, .no] (.var 1) (.nm 1) p0_near_moves_of [1]) [] [.va κ.d, .no] xs st = .ok (xs.filter notV) st := by
      intro xs
      induction xs with
      | nil => intro _; exact lc_nil rfl
      | cons x xs ih =>
        intro h
        have ih := ih fun x hx => h x (List.mem_cons_of_mem _ hx)
        obtain ⟨m, rfl⟩ := h x (List.mem_cons_self ..)
        have hn := notV_m m
        obtain ⟨o, f, p⟩ := m
        have q := eqS (wcO_low o) (show low cV = true by decide)
        cases o with
        | none =>
          rw [List.filter_cons_of_neg (by rw [hn]; simp)]
          refine lc_none rfl ?_ ih
          rw [decide_eq_true (show wcO none = cV from rfl)] at q
          simp only [cV] at q
          simp [lcF, asgTg, wipeE, p0_near_moves_of, M3.d, mD, q]
        | some w =>
          rw [List.filter_cons_of_pos (by rw [hn]; rfl)]
          refine lc_some rfl ?_ ih
          rw [decide_eq_false (show ¬ wcO (some w) = cV by cases w <;> simp [wcO, Wo.c, cV])] at q
          simp only [cV] at q
          simp [lcF, asgTg, wipeE, p0_near_moves_of, M3.d, mD, q]
    exact key _ fun x hx => movesD_mem hx
  rw [call_eq (d := ⟨1, 2, b_near_moves_of⟩) rfl rfl]
  simp [b_near_moves_of, M, Lc]
theorem e_moves (k : Nat) (κ : Ki) (st : St) (ok : κ.ok = true) (hf : κ.fit = true) : callN pg (k + 12) i_moves [κ.d] st = .ok (.lst (movesD κ)) st := by
  have M := e_moves_of k κ st ok hf
  have W := e_want (k + 1) κ st ok (ki_lnS ok (by have := fit_b hf; omega)) hf
  rw [call_eq (d := ⟨1, 1, b_moves⟩) rfl rfl]
  simp [b_moves, W, M]
theorem lc_dirs (k : Nat) (κ : Ki) (w : Wo) (p : List Bool) (s1 s4 : Sl) (st : St) (ok : κ.ok = true) (hf : κ.fit = true) (hp : p ∈ κ.paths) :
    lcL (callN pg (k + 9)) pg.gl [.va κ.d, s1, .va (pd p), .va (.str w.c), s4] st p0__law_near (.nm 4) p1__law_near [4] ([.str [98, 97, 99, 107], .str [102, 111, 114, 116, 104]], []) = .ok (.lst ((([false, true].map fun f => ((some w, f, p) : M3)).filter (isM κ)).map M3.d)) st := by
  obtain ⟨τ, hτ⟩ := at_mem κ p hp
  refine lcL_ok (by rw [sizeLine_eq]; simp) ?_
  have turn : ∀ f, lcF (callN pg (k + 9)) pg.gl [.va κ.d, s1, .va (pd p), .va (.str w.c), s4] p0__law_near (.nm 4) p1__law_near [4] (.str (dirC f)) st = .ok (if isM κ (some w, f, p) = true then some (M3.d (some w, f, p)) else none) st := fun f => by
    have q := e_lmvd k κ τ ⟨w, f, p⟩ st ok (fit_b hf).2 hτ
    simp only [Mv.d] at q
    have em : isM κ (some w, f, p) = ((mvd κ ⟨w, f, p⟩).filter Ki.fit).isSome := rfl
    cases e : (mvd κ ⟨w, f, p⟩).filter Ki.fit with
    | none =>
      rw [e] at q em
      rw [em]
      simp only [oD] at q
      simp [lcF, asgTg, wipeE, p1__law_near, q]
    | some l =>
      rw [e] at q em
      rw [em]
      simp only [oD] at q
      have n : ¬ (l.d = D.non) := by cases l <;> simp [Ki.d]
      simp [lcF, asgTg, wipeE, p1__law_near, p0__law_near, q, n, M3.d, mD, wcO]
  have t0 := turn false
  have t1 := turn true
  simp only [dirC, cBa, cFo, Bool.false_eq_true, if_false, if_true] at t0 t1
  cases h0 : isM κ (some w, false, p) <;> cases h1 : isM κ (some w, true, p) <;> simp only [h0, h1, Bool.false_eq_true, if_false, if_true] at t0 t1 <;> simp only [List.map_cons, List.map_nil, List.filter_cons, List.filter_nil, h0, h1, Bool.false_eq_true, if_false, if_true]
  · exact lc_none rfl t0 (lc_none rfl t1 (lc_nil rfl))
  · exact lc_none rfl t0 (lc_some rfl t1 (lc_nil rfl))
  · exact lc_some rfl t0 (lc_none rfl t1 (lc_nil rfl))
  · exact lc_some rfl t0 (lc_some rfl t1 (lc_nil rfl))
/-- the law's moves at a path -/
def lT (κ : Ki) (p : List Bool) (w : Wo) : List M3 := ([false, true].map fun f => ((some w, f, p) : M3)).filter (isM κ)
theorem lT_few (κ : Ki) (p : List Bool) (w : Wo) : (lT κ p w).length ≤ 2 := List.length_filter_le _ _
theorem lwords_loop (k : Nat) (κ : Ki) (p : List Bool) (s4 : Sl) (st : St) (ok : κ.ok = true) (hf : κ.fit = true) (hp : p ∈ κ.paths) : ∀ (ws : List Wo) (ys : List D) (s3 : Sl), ys.length + ws.length * 2 ≤ 9000 → ∃ s3', forLoop (forF (callN pg (k + 9)) pg.gl (.nm 3) p2__law_near) [] (ws.map fun w => .str w.c) [.va κ.d, .ow ys, .va (pd p), s3, s4] st = .nx [.va κ.d, .ow (ys ++ (ws.flatMap (lT κ p)).map M3.d), .va (pd p), s3', s4] st
  | [], ys, s3, h => ⟨s3, by simpa using for_nil rfl⟩
  | w :: ws, ys, s3, h => by
    have tf := lT_few κ p w
    simp only [List.length_cons] at h
    obtain ⟨s3', ih⟩ := lwords_loop k κ p s4 st ok hf hp ws (ys ++ (lT κ p w).map M3.d) (.va (.str w.c)) (by simp; omega)
    have L := fun s1 => lc_dirs k κ w p s1 s4 st ok hf hp
    have z : ys.length + ((lT κ p w).map M3.d).length ≤ sizeLine := by rw [sizeLine_eq]; simp; omega
    refine ⟨s3', (for_nx (env' := [.va κ.d, .ow (ys ++ (lT κ p w).map M3.d), .va (pd p), .va (.str w.c), s4]) (st' := st) rfl ?_).trans (ih.trans ?_)⟩
    · have L : ∀ s1, lcL (callN pg (k + 9)) pg.gl [.va κ.d, s1, .va (pd p), .va (.str w.c), s4] st p0__law_near (.nm 4) p1__law_near [4] ([.str [98, 97, 99, 107], .str [102, 111, 114, 116, 104]], []) = .ok (.lst ((lT κ p w).map M3.d)) st := L
      obtain ⟨qs, hqs⟩ : ∃ qs, (lT κ p w).map M3.d = qs := ⟨_, rfl⟩
      rw [hqs] at L z ⊢
      clear hqs
      simp [forF, asgTg, p2__law_near, L, z]
    · rw [List.flatMap_cons, List.map_append, List.append_assoc]
theorem lpaths_loop (k : Nat) (κ : Ki) (s4 : Sl) (st : St) (ok : κ.ok = true) (hf : κ.fit = true) : ∀ (ps : List (List Bool)) (ys : List D) (s2 s3 : Sl), (∀ p ∈ ps, p ∈ κ.paths) → ys.length + ps.length * 12 ≤ 8000 → ∃ s2' s3', forLoop (forF (callN pg (k + 9)) pg.gl (.nm 2) p3__law_near) [] (ps.map pd) [.va κ.d, .ow ys, s2, s3, s4] st = .nx [.va κ.d, .ow (ys ++ (ps.flatMap fun p => woL.flatMap (lT κ p)).map M3.d), s2', s3', s4] st
  | [], ys, s2, s3, _, h => ⟨s2, s3, by simpa using for_nil rfl⟩
  | p :: ps, ys, s2, s3, hm, h => by
    simp only [List.length_cons] at h
    obtain ⟨s3', W⟩ := lwords_loop k κ p s4 st ok hf (hm p (List.mem_cons_self ..)) woL ys s3 (by have : woL.length = 6 := rfl; omega)
    have wf : (woL.flatMap (lT κ p)).length ≤ 12 := by
      have g := lT_few κ p
      have := g .curry; have := g .drop; have := g .regroup; have := g .sole; have := g .split; have := g .swap
      simp only [woL, List.flatMap_cons, List.flatMap_nil, List.length_append, List.length_nil]
      omega
    obtain ⟨s2', s3'', ih⟩ := lpaths_loop k κ s4 st ok hf ps (ys ++ (woL.flatMap (lT κ p)).map M3.d) (.va (pd p)) s3' (fun q hq => hm q (List.mem_cons_of_mem _ hq)) (by rw [List.length_append, List.length_map]; omega)
    refine ⟨s2', s3'', (for_nx (env' := [.va κ.d, .ow (ys ++ (woL.flatMap (lT κ p)).map M3.d), .va (pd p), s3', s4]) (st' := st) rfl ?_).trans (ih.trans ?_)⟩
    · obtain ⟨qs, hqs⟩ : ∃ qs, (woL.flatMap (lT κ p)).map M3.d = qs := ⟨_, rfl⟩
      rw [hqs] at W ⊢
      clear hqs
      simp only [woL, List.map_cons, List.map_nil, Wo.c] at W
      simp [forF, asgTg, p3__law_near, W]
    · rw [List.flatMap_cons, List.map_append, List.append_assoc]
theorem lawT_few {κ : Ki} (h : κ.fit = true) : (lawT κ).length ≤ 400 := by
  have := (near_perm κ).length_eq
  have a := List.length_filter_le (fun m : M3 => m.1.isSome) ((progT κ).filter (isM κ))
  have b := List.length_filter_le (isM κ) (progT κ)
  have := progT_few h
  omega
theorem e_lnear (k : Nat) (κ : Ki) (st : St) (ok : κ.ok = true) (hf : κ.fit = true) : callN pg (k + 10) i__law_near [κ.d] st = .ok (.lst (nearD κ)) st := by
  obtain ⟨hw, hd⟩ := fit_b hf
  have pf := paths_few hf
  have P := e_lpaths st κ (k + 9) (by omega) (by omega) (by omega)
  obtain ⟨s2, s3, W⟩ := lpaths_loop k κ .no st ok hf κ.paths [] .no .no (fun _ h => h) (by simp; omega)
  have S := sort_m3 (lawT κ)
  have W : forLoop (forF (callN pg (k + 9)) pg.gl (.nm 2) p3__law_near) [] (κ.paths.map pd) [.va κ.d, .ow [], .no, .no, .no] st = .nx [.va κ.d, .ow ((lawT κ).map M3.d), s2, s3, .no] st := W
  have S2 : biD .sorted [.lst ((lawT κ).map M3.d)] = some (.lst (nearD κ)) := by simp [biD, Ev.one, itemsD, S, nearD]
  obtain ⟨qs, hqs⟩ : ∃ qs, (lawT κ).map M3.d = qs := ⟨_, rfl⟩
  rw [hqs] at W S2
  clear hqs
  rw [call_eq (d := ⟨1, 5, b__law_near⟩) rfl rfl]
  simp [b__law_near, P, W, S2, setV]
theorem nearD_mem {κ : Ki} {x : D} : x ∈ nearD κ ↔ ∃ m : Mv, x = m.d ∧ ∃ κ', (mvd κ m).filter Ki.fit = some κ' := by
  unfold nearD
  rw [List.mem_mergeSort]
  constructor
  · intro h
    obtain ⟨m, hm, rfl⟩ := List.mem_map.mp h
    simp only [lawT, List.mem_flatMap] at hm
    obtain ⟨p, hp, w, _, hm⟩ := hm
    obtain ⟨h1, h2⟩ := List.mem_filter.mp hm
    obtain ⟨f, _, rfl⟩ := List.mem_map.mp h1
    refine ⟨⟨w, f, p⟩, rfl, ?_⟩
    exact Option.isSome_iff_exists.mp h2
  · rintro ⟨⟨w, f, p⟩, rfl, κ', h⟩
    refine List.mem_map.mpr ⟨(some w, f, p), ?_, rfl⟩
    obtain ⟨τ, hτ⟩ := mvd_at h
    simp only [lawT, List.mem_flatMap]
    refine ⟨p, mem_at p κ (by simp only at hτ; rw [hτ]; rfl), w, woL_all w, List.mem_filter.mpr ⟨List.mem_map.mpr ⟨f, by cases f <;> simp, rfl⟩, ?_⟩⟩
    show ((mvd κ ⟨w, f, p⟩).filter Ki.fit).isSome = true
    rw [h]; rfl
end K73

set_option Elab.async false
set_option linter.all false
set_option maxRecDepth 100000
/-! k73, plainly: balls, with no program in sight. -/
namespace K73
open Ev PySem
/-- a kind as a key -/
def kk : Ki → NestedKey
  | .atom s => .tup [.text (toS cA), .text (toS s)]
  | .noth => .tup [.text (toS cN)]
  | .pair a b => .tup [.text (toS cP), kk a, kk b]
  | .frm a b => .tup [.text (toS cF), kk a, kk b]
theorem kk_nkey : ∀ κ : Ki, nkey κ.d = some (kk κ)
  | .atom s => by simp [Ki.d, nkey, nkeys, kk]
  | .noth => by simp [Ki.d, nkey, nkeys, kk]
  | .pair a b => by simp [Ki.d, nkey, nkeys, kk, kk_nkey a, kk_nkey b]
  | .frm a b => by simp [Ki.d, nkey, nkeys, kk, kk_nkey a, kk_nkey b]
theorem kk_depth : ∀ κ : Ki, (kk κ).depth = κ.dep
  | .atom s => by simp [kk, NestedKey.depth, NestedKey.depthAll, Ki.dep]
  | .noth => by simp [kk, NestedKey.depth, NestedKey.depthAll, Ki.dep]
  | .pair a b => by simp [kk, NestedKey.depth, NestedKey.depthAll, Ki.dep, kk_depth a, kk_depth b]; omega
  | .frm a b => by simp [kk, NestedKey.depth, NestedKey.depthAll, Ki.dep, kk_depth a, kk_depth b]; omega
theorem kk_inj : ∀ {κ τ : Ki}, kk κ = kk τ → κ = τ
  | .atom s, τ, h => by
    cases τ <;> simp [kk] at h
    exact congrArg Ki.atom (toSinj h)
  | .noth, τ, h => by cases τ <;> simp [kk] at h; rfl
  | .pair a b, τ, h => by
    cases τ with
    | pair c d => simp [kk] at h; rw [kk_inj h.1, kk_inj h.2]
    | frm c d =>
      simp [kk] at h
      have := toSinj h.1
      simp [cP, cF] at this
    | _ => simp [kk] at h
  | .frm a b, τ, h => by
    cases τ with
    | frm c d => simp [kk] at h; rw [kk_inj h.1, kk_inj h.2]
    | pair c d =>
      simp [kk] at h
      have := toSinj h.1
      simp [cP, cF] at this
    | _ => simp [kk] at h
theorem tkey_ki {κ : Ki} (h : κ.fit = true) : tkey κ.d = some (kk κ) := by
  have hd := fit_b h
  obtain ⟨xs, hx⟩ := κ.d_tup
  have q := kk_nkey κ
  rw [hx] at q ⊢
  unfold tkey
  simp only
  rw [q, Option.bind_some, if_pos (by rw [kk_depth]; omega)]
/-- a ball as far as known: kinds, rows that lead there -/
abbrev Kv := List (Ki × List Mv)
def keysOf (kvs : Kv) : List Ki := kvs.map (·.1)
def look (kvs : Kv) (κ : Ki) : List Mv := ((kvs.find? fun e => decide (e.1 = κ)).map (·.2)).getD []
theorem look_app {kvs : Kv} {o : Ki} {r : List Mv} {κ : Ki} (h : κ ∈ keysOf kvs) : look (kvs ++ [(o, r)]) κ = look kvs κ := by
  unfold look
  rw [List.find?_append]
  obtain ⟨e, he, rfl⟩ := List.mem_map.mp h
  have : (kvs.find? fun x => decide (x.1 = e.1)).isSome = true := by
    rw [List.find?_isSome]
    exact ⟨e, he, by simp⟩
  obtain ⟨x, hx⟩ := Option.isSome_iff_exists.mp this
  rw [hx]; rfl
theorem look_new {kvs : Kv} {o : Ki} {r : List Mv} (h : o ∉ keysOf kvs) : look (kvs ++ [(o, r)]) o = r := by
  unfold look
  rw [List.find?_append]
  have : (kvs.find? fun x => decide (x.1 = o)) = none := by
    rw [List.find?_eq_none]
    intro x hx
    simp only [decide_eq_true_iff]
    intro e
    exact h (List.mem_map.mpr ⟨x, hx, e⟩)
  rw [this]
  simp
theorem look_mem {kvs : Kv} {o : Ki} (h : o ∈ keysOf kvs) : (o, look kvs o) ∈ kvs := by
  unfold look
  obtain ⟨e, he, rfl⟩ := List.mem_map.mp h
  have : (kvs.find? fun x => decide (x.1 = e.1)).isSome = true := by
    rw [List.find?_isSome]
    exact ⟨e, he, by simp⟩
  obtain ⟨x, hx⟩ := Option.isSome_iff_exists.mp this
  rw [hx]
  have h1 := List.find?_some hx
  have h2 := List.mem_of_find?_eq_some hx
  simp only [decide_eq_true_iff] at h1
  rw [← h1]
  exact h2
/-- where a row leads -/
def walk : Ki → List Mv → Option Ki
  | κ, [] => some κ
  | κ, m :: r => ((mvd κ m).filter Ki.fit).bind fun l => walk l r
theorem walk_snoc : ∀ (r : List Mv) {κ τ l : Ki} {m : Mv}, walk κ r = some τ → (mvd τ m).filter Ki.fit = some l → walk κ (r ++ [m]) = some l
  | [], κ, τ, l, m, h, q => by
    simp only [walk, Option.some.injEq] at h
    subst h
    simp [walk, q]
  | n :: r, κ, τ, l, m, h, q => by
    simp only [walk, List.cons_append] at h ⊢
    cases e : (mvd κ n).filter Ki.fit with
    | none => rw [e] at h; cases h
    | some u =>
      rw [e] at h
      exact walk_snoc r h q
theorem exists_near (κ : Ki) : ∃ ms : List Mv, nearD κ = ms.map Mv.d ∧ ∀ m ∈ ms, ∃ l, (mvd κ m).filter Ki.fit = some l := by
  have key : ∀ xs : List D, (∀ x ∈ xs, ∃ m : Mv, x = m.d ∧ ∃ l, (mvd κ m).filter Ki.fit = some l) → ∃ ms : List Mv, xs = ms.map Mv.d ∧ ∀ m ∈ ms, ∃ l, (mvd κ m).filter Ki.fit = some l := by
    intro xs
    induction xs with
    | nil => intro _; exact ⟨[], rfl, fun _ h => by cases h⟩
    | cons x xs ih =>
      intro h
      obtain ⟨ms, e, hm⟩ := ih fun y hy => h y (List.mem_cons_of_mem _ hy)
      obtain ⟨m, rfl, l, hl⟩ := h x (List.mem_cons_self ..)
      refine ⟨m :: ms, by rw [e]; rfl, fun n hn => ?_⟩
      rcases List.mem_cons.mp hn with rfl | hn
      · exact ⟨l, hl⟩
      · exact hm n hn
  exact key _ fun x hx => nearD_mem.mp hx
noncomputable def nearM (κ : Ki) : List Mv := (exists_near κ).choose
theorem nearM_d (κ : Ki) : nearD κ = (nearM κ).map Mv.d := (exists_near κ).choose_spec.1
theorem nearM_m {κ : Ki} {m : Mv} (h : m ∈ nearM κ) : ∃ l, (mvd κ m).filter Ki.fit = some l := (exists_near κ).choose_spec.2 m h
theorem nearM_few {κ : Ki} (h : κ.fit = true) : (nearM κ).length ≤ 400 := by
  have := congrArg List.length (nearM_d κ)
  simp only [nearD, List.length_mergeSort, List.length_map] at this
  have := lawT_few h
  omega
/-- a move from one of the last ones -/
def stepB (one : Ki) (s : Kv × List Ki) (m : Mv) : Kv × List Ki := match (mvd one m).filter Ki.fit with
  | some o => if o ∈ keysOf s.1 then s else (s.1 ++ [(o, look s.1 one ++ [m])], s.2 ++ [o])
  | none => s
noncomputable def oneB (s : Kv × List Ki) (one : Ki) : Kv × List Ki := (nearM one).foldl (stepB one) s
noncomputable def turnB (s : Kv × List Ki) : Kv × List Ki := s.2.foldl oneB (s.1, [])
noncomputable def ballB (κ : Ki) : Nat → Kv × List Ki
  | 0 => ([(κ, [])], [κ])
  | n + 1 => turnB (ballB κ n)
/-- within a turn -/
structure IB (κ : Ki) (t : Nat) (last : List Ki) (s : Kv × List Ki) : Prop where
  keys : ∀ e ∈ s.1, e.1.ok = true ∧ e.1.fit = true ∧ walk κ e.2 = some e.1 ∧ e.2.length ≤ t + 1
  last : ∀ o ∈ last, o ∈ keysOf s.1 ∧ (look s.1 o).length = t
  late : ∀ o ∈ s.2, o ∈ keysOf s.1 ∧ (look s.1 o).length = t + 1
theorem filt_ok {κ l : Ki} {m : Mv} (ok : κ.ok = true) (h : (mvd κ m).filter Ki.fit = some l) : l.ok = true ∧ l.fit = true := by
  have h : mvd κ m = some l ∧ l.fit = true := by simpa [Option.filter_eq_some_iff] using h
  exact ⟨(mvd_b h.1).2.2 ok, h.2⟩
theorem stepB_I {κ : Ki} {t : Nat} {last : List Ki} {s : Kv × List Ki} {one : Ki} (m : Mv) (h : IB κ t last s) (ho : one ∈ last) : IB κ t last (stepB one s m) ∧ (stepB one s m).1.length ≤ s.1.length + 1 ∧ (stepB one s m).2.length ≤ s.2.length + 1 := by
  unfold stepB
  cases e : (mvd one m).filter Ki.fit with
  | none => exact ⟨h, by simp, by simp⟩
  | some o =>
    simp only
    by_cases hk : o ∈ keysOf s.1
    · rw [if_pos hk]; exact ⟨h, by simp, by simp⟩
    · rw [if_neg hk]
      obtain ⟨h1, h2⟩ := h.last one ho
      have hm := look_mem h1
      obtain ⟨g1, g2, g3, g4⟩ := h.keys _ hm
      have gf := filt_ok g1 e
      refine ⟨⟨?_, ?_, ?_⟩, by simp, by simp⟩
      · intro x hx
        rcases List.mem_append.mp hx with hx | hx
        · exact h.keys x hx
        · simp only [List.mem_singleton] at hx
          subst hx
          exact ⟨gf.1, gf.2, walk_snoc _ g3 e, by simp [h2]⟩
      · intro x hx
        obtain ⟨k1, k2⟩ := h.last x hx
        refine ⟨?_, by rw [look_app k1, k2]⟩
        simp only [keysOf, List.map_append, List.mem_append] at k1 ⊢
        exact .inl k1
      · intro x hx
        rcases List.mem_append.mp hx with hx | hx
        · obtain ⟨k1, k2⟩ := h.late x hx
          refine ⟨?_, by rw [look_app k1, k2]⟩
          simp only [keysOf, List.map_append, List.mem_append] at k1 ⊢
          exact .inl k1
        · simp only [List.mem_singleton] at hx
          subst hx
          refine ⟨by simp [keysOf], ?_⟩
          rw [look_new hk]
          simp [h2]
theorem steps_I {κ : Ki} {t : Nat} {last : List Ki} {one : Ki} (ho : one ∈ last) : ∀ (ms : List Mv) {s : Kv × List Ki}, IB κ t last s → IB κ t last (ms.foldl (stepB one) s) ∧ (ms.foldl (stepB one) s).1.length ≤ s.1.length + ms.length ∧ (ms.foldl (stepB one) s).2.length ≤ s.2.length + ms.length
  | [], s, h => ⟨h, by simp, by simp⟩
  | m :: ms, s, h => by
    obtain ⟨g1, g2, g3⟩ := stepB_I m h ho
    obtain ⟨k1, k2, k3⟩ := steps_I ho ms g1
    simp only [List.foldl_cons, List.length_cons]
    exact ⟨k1, by omega, by omega⟩
theorem oneB_I {κ : Ki} {t : Nat} {last : List Ki} {s : Kv × List Ki} {one : Ki} (h : IB κ t last s) (ho : one ∈ last) : IB κ t last (oneB s one) ∧ (oneB s one).1.length ≤ s.1.length + 400 ∧ (oneB s one).2.length ≤ s.2.length + 400 := by
  obtain ⟨k1, k2, k3⟩ := steps_I ho (nearM one) h
  have nf : (nearM one).length ≤ 400 := nearM_few (h.keys (one, look s.1 one) (look_mem (h.last one ho).1)).2.1
  exact ⟨k1, by unfold oneB; omega, by unfold oneB; omega⟩
theorem ones_I {κ : Ki} {t : Nat} {last : List Ki} : ∀ (os : List Ki) {s : Kv × List Ki}, (∀ o ∈ os, o ∈ last) → IB κ t last s → IB κ t last (os.foldl oneB s) ∧ (os.foldl oneB s).1.length ≤ s.1.length + os.length * 400 ∧ (os.foldl oneB s).2.length ≤ s.2.length + os.length * 400
  | [], s, _, h => ⟨h, by simp, by simp⟩
  | o :: os, s, ho, h => by
    obtain ⟨g1, g2, g3⟩ := oneB_I h (ho o (List.mem_cons_self ..))
    obtain ⟨k1, k2, k3⟩ := ones_I os (fun x hx => ho x (List.mem_cons_of_mem _ hx)) g1
    simp only [List.foldl_cons, List.length_cons]
    exact ⟨k1, by omega, by omega⟩
/-- between turns -/
structure JB (κ : Ki) (t : Nat) (s : Kv × List Ki) : Prop where
  keys : ∀ e ∈ s.1, e.1.ok = true ∧ e.1.fit = true ∧ walk κ e.2 = some e.1 ∧ e.2.length ≤ t
  last : ∀ o ∈ s.2, o ∈ keysOf s.1 ∧ (look s.1 o).length = t
  many : s.1.length ≤ 2 * 402 ^ t ∧ s.2.length ≤ 402 ^ t
theorem JB.I {κ : Ki} {t : Nat} {s : Kv × List Ki} (h : JB κ t s) : IB κ t s.2 (s.1, []) :=
  ⟨fun e he => ⟨(h.keys e he).1, (h.keys e he).2.1, (h.keys e he).2.2.1, by have := (h.keys e he).2.2.2; omega⟩, h.last, fun o ho => by cases ho⟩
theorem turnB_J {κ : Ki} {t : Nat} {s : Kv × List Ki} (h : JB κ t s) : JB κ (t + 1) (turnB s) := by
  obtain ⟨k1, k2, k3⟩ := ones_I s.2 (fun _ q => q) h.I
  refine ⟨k1.keys, k1.late, ?_, ?_⟩
  · have := h.many
    have p := Nat.pow_succ 402 t
    unfold turnB
    simp only at k2
    omega
  · have := h.many
    have p := Nat.pow_succ 402 t
    unfold turnB
    simp only [List.length_nil] at k3
    omega
theorem ballB_J (κ : Ki) (ok : κ.ok = true) (hf : κ.fit = true) : ∀ n, JB κ n (ballB κ n)
  | 0 => ⟨fun e he => by simp [ballB] at he; subst he; exact ⟨ok, hf, rfl, Nat.le_refl _⟩, fun o ho => by simp [ballB] at ho; subst ho; simp [ballB, keysOf, look], by simp [ballB]⟩
  | n + 1 => turnB_J (ballB_J κ ok hf n)
end K73

set_option Elab.async false
set_option linter.all false
set_option maxRecDepth 100000
/-! k73, plainly: balls of the program and of the law. -/
namespace K73
open Ev PySem
def rowD (r : List Mv) : D := .tup (r.map Mv.d)
def lenI (r : List Mv) : D := .int r.length
/-- a ball as a dict -/
def pB (g : List Mv → D) (kvs : Kv) : List (D × D) := kvs.map fun e => (e.1.d, g e.2)
theorem pB_has (g : List Mv → D) (kvs : Kv) (o : Ki) : hasN (pB g kvs) (kk o) = decide (o ∈ keysOf kvs) := by
  unfold hasN pB keysOf
  rw [List.any_map, Bool.eq_iff_iff]
  simp only [List.any_eq_true, Function.comp_apply, decide_eq_true_iff, List.mem_map]
  constructor
  · rintro ⟨e, he, h⟩
    rw [kk_nkey] at h
    exact ⟨e, he, kk_inj (Option.some.inj h)⟩
  · rintro ⟨e, he, rfl⟩
    exact ⟨e, he, kk_nkey _⟩
theorem pB_get (g : List Mv → D) {kvs : Kv} {o : Ki} (h : o ∈ keysOf kvs) : getN (pB g kvs) (kk o) = some (g (look kvs o)) := by
  unfold getN pB
  rw [List.find?_map]
  have e : ((fun p : D × D => decide (nkey p.1 = some (kk o))) ∘ fun e : Ki × List Mv => (e.1.d, g e.2)) = fun e => decide (e.1 = o) := by
    funext e
    simp only [Function.comp_apply]
    rw [kk_nkey]
    refine decide_eq_decide.mpr ⟨fun h => kk_inj (Option.some.inj h), fun h => by rw [h]⟩
  rw [e]
  unfold look
  obtain ⟨x, hx, rfl⟩ := List.mem_map.mp h
  have : (kvs.find? fun y => decide (y.1 = x.1)).isSome = true := by
    rw [List.find?_isSome]
    exact ⟨x, hx, by simp⟩
  obtain ⟨y, hy⟩ := Option.isSome_iff_exists.mp this
  rw [hy]; rfl
theorem pB_put (g : List Mv → D) {kvs : Kv} {o : Ki} (r : List Mv) (h : o ∉ keysOf kvs) : putN (pB g kvs) (kk o) o.d (g r) = pB g (kvs ++ [(o, r)]) := by
  unfold putN
  rw [pB_has, decide_eq_false h]
  simp [pB]
theorem dnAt_app (st : St) (X : List (D × D)) : dnAt (st ++ [.dcn X]) (.ref st.length) = some (st.length, X) := by
  simp [dnAt]
theorem set_app (st : St) (x y : C) : (st ++ [x]).set st.length y = st ++ [y] := by
  rw [List.set_append_right _ _ (Nat.le_refl _)]
  simp
theorem rw_di (g : List Mv → D) (st : St) (kvs : Kv) {o : Ki} (hf : o.fit = true) (neg : Bool) : diR neg o.d (.ref st.length) (st ++ [.dcn (pB g kvs)]) = .ok (.bl (Bool.xor neg (decide (o ∈ keysOf kvs)))) (st ++ [.dcn (pB g kvs)]) := by
  rw [diR_ok neg (dnAt_app st _) (tkey_ki hf), pB_has]
theorem rw_dg (g : List Mv → D) (st : St) (kvs : Kv) {o : Ki} (hf : o.fit = true) (h : o ∈ keysOf kvs) : dgR (.ref st.length) o.d (st ++ [.dcn (pB g kvs)]) = .ok (g (look kvs o)) (st ++ [.dcn (pB g kvs)]) :=
  dgR_ok (dnAt_app st _) (tkey_ki hf) (pB_get g h)
theorem rw_ds (g : List Mv → D) (env : Ev.Env) (st : St) (kvs : Kv) {o : Ki} (r : List Mv) (hf : o.fit = true) (h : o ∉ keysOf kvs) (hl : kvs.length < sizeLine) : dsR env (.ref st.length) o.d (g r) (st ++ [.dcn (pB g kvs)]) = .nx env (st ++ [.dcn (pB g (kvs ++ [(o, r)]))]) := by
  rw [dsR_ok env (g r) (dnAt_app st _) (tkey_ki hf) (by simpa [pB] using hl)]
  rw [pB_put g r h, set_app]
theorem row_cat {r : List Mv} (m : Mv) (h : r.length ≤ 1000) : binD .add (rowD r) (.tup [m.d]) = some (rowD (r ++ [m])) := by
  have : (r.map Mv.d).length + [m.d].length ≤ sizeLine := by rw [sizeLine_eq]; simp; omega
  unfold rowD
  rw [binD_tup this, List.map_append]
  rfl
theorem Mv.d_vw (m : Mv) (st : St) : vw st m.d = m.d := rfl
theorem rowD_vw (r : List Mv) (st : St) : vw st (rowD r) = rowD r := rfl
theorem filt_mvd {κ l : Ki} {m : Mv} (h : (mvd κ m).filter Ki.fit = some l) : mvd κ m = some l := by
  have h : mvd κ m = some l ∧ l.fit = true := by simpa [Option.filter_eq_some_iff] using h
  exact h.1
theorem p_step (k : Nat) (κ : Ki) (t : Nat) (last : List Ki) (s : Kv × List Ki) (one : Ki) (m : Mv) (κd rad tn s4 : D) (s7 s8 : Sl) (st : St) (h : IB κ t last s) (ho : one ∈ last) (hm : ∃ l, (mvd one m).filter Ki.fit = some l) (ht : t ≤ 900) (hs : s.1.length ≤ 10000000 ∧ s.2.length ≤ 10000000) :
    ∃ s8', forF (callN pg (k + 8)) pg.gl (.nm 7) p0_rows_within m.d [.va κd, .va rad, .va tn, .va (.ref st.length), .va s4, .ow (s.2.map Ki.d), .va one.d, s7, s8] (st ++ [.dcn (pB rowD s.1)]) =
      .nx [.va κd, .va rad, .va tn, .va (.ref st.length), .va s4, .ow ((stepB one s m).2.map Ki.d), .va one.d, .va m.d, s8'] (st ++ [.dcn (pB rowD (stepB one s m).1)]) := by
  obtain ⟨l, hl⟩ := hm
  obtain ⟨τ, hτ⟩ := mvd_at hl
  obtain ⟨h1, h2⟩ := h.last one ho
  obtain ⟨g1, g2, g3, g4⟩ := h.keys _ (look_mem h1)
  simp only at g1 g2
  have gf := filt_ok g1 hl
  have E := e_mvd k one τ m (st ++ [.dcn (pB rowD s.1)]) g1 (fit_b g2).2 hτ
  rw [filt_mvd hl] at E
  simp only [oD] at E
  have DI := rw_di rowD st s.1 gf.2 true
  have DG := rw_dg rowD st s.1 g2 h1
  have CT := row_cat m (r := look s.1 one) (by omega)
  refine ⟨.va l.d, ?_⟩
  unfold stepB
  rw [hl]
  simp only
  by_cases hk : l ∈ keysOf s.1
  · rw [decide_eq_true hk] at DI
    rw [if_pos hk]
    simp [forF, asgTg, p0_rows_within, E, DI, setV]
  · rw [decide_eq_false hk] at DI
    rw [if_neg hk]
    have DS := fun env => rw_ds rowD env st s.1 (look s.1 one ++ [m]) gf.2 hk (by rw [sizeLine_eq]; omega)
    have z : s.2.length < sizeLine := by rw [sizeLine_eq]; omega
    simp [forF, asgTg, p0_rows_within, E, DI, DG, CT, DS, setV, Mv.d_vw, rowD_vw, z]
theorem l_step (k : Nat) (κ : Ki) (t : Nat) (last : List Ki) (s : Kv × List Ki) (one : Ki) (m : Mv) (κd rad s4 : D) (s7 s8 : Sl) (st : St) (h : IB κ t last s) (ho : one ∈ last) (hm : ∃ l, (mvd one m).filter Ki.fit = some l) (ht : t ≤ 900) (hs : s.1.length ≤ 10000000 ∧ s.2.length ≤ 10000000) :
    ∃ s8', forF (callN pg (k + 9)) pg.gl (.nm 7) p0__law_ball m.d [.va κd, .va rad, .va (.int t), .va (.ref st.length), .va s4, .ow (s.2.map Ki.d), .va one.d, s7, s8] (st ++ [.dcn (pB lenI s.1)]) =
      .nx [.va κd, .va rad, .va (.int t), .va (.ref st.length), .va s4, .ow ((stepB one s m).2.map Ki.d), .va one.d, .va m.d, s8'] (st ++ [.dcn (pB lenI (stepB one s m).1)]) := by
  obtain ⟨l, hl⟩ := hm
  obtain ⟨τ, hτ⟩ := mvd_at hl
  obtain ⟨h1, h2⟩ := h.last one ho
  obtain ⟨g1, g2, g3, g4⟩ := h.keys _ (look_mem h1)
  simp only at g1 g2
  have gf := filt_ok g1 hl
  have E := e_lmvd k one τ m (st ++ [.dcn (pB lenI s.1)]) g1 (fit_b g2).2 hτ
  rw [hl] at E
  simp only [oD] at E
  have DI := rw_di lenI st s.1 gf.2 true
  refine ⟨.va l.d, ?_⟩
  unfold stepB
  rw [hl]
  simp only
  by_cases hk : l ∈ keysOf s.1
  · rw [decide_eq_true hk] at DI
    rw [if_pos hk]
    simp [forF, asgTg, p0__law_ball, E, DI, setV]
  · rw [decide_eq_false hk] at DI
    rw [if_neg hk]
    have el : lenI (look s.1 one ++ [m]) = .int ((t : Int) + 1) := by simp [lenI, h2]
    have DS := fun env => rw_ds lenI env st s.1 (look s.1 one ++ [m]) gf.2 hk (by rw [sizeLine_eq]; omega)
    rw [el] at DS
    have z : s.2.length < sizeLine := by rw [sizeLine_eq]; omega
    simp [forF, asgTg, p0__law_ball, E, DI, DS, setV, z]
end K73

set_option Elab.async false
set_option linter.all false
set_option maxRecDepth 100000
/-! k73, plainly: the loops of balls. -/
namespace K73
open Ev PySem
theorem p_steps (k : Nat) (κ : Ki) (t : Nat) (last : List Ki) (one : Ki) (κd rad tn s4 : D) (st : St) (ho : one ∈ last) (ht : t ≤ 900) : ∀ (ms : List Mv) (s : Kv × List Ki) (s7 s8 : Sl), IB κ t last s → (∀ m ∈ ms, ∃ l, (mvd one m).filter Ki.fit = some l) → s.1.length + ms.length ≤ 10000000 → s.2.length + ms.length ≤ 10000000 →
    ∃ s7' s8', forLoop (forF (callN pg (k + 8)) pg.gl (.nm 7) p0_rows_within) [] (ms.map Mv.d) [.va κd, .va rad, .va tn, .va (.ref st.length), .va s4, .ow (s.2.map Ki.d), .va one.d, s7, s8] (st ++ [.dcn (pB rowD s.1)]) =
      .nx [.va κd, .va rad, .va tn, .va (.ref st.length), .va s4, .ow ((ms.foldl (stepB one) s).2.map Ki.d), .va one.d, s7', s8'] (st ++ [.dcn (pB rowD (ms.foldl (stepB one) s).1)])
  | [], s, s7, s8, _, _, _, _ => ⟨s7, s8, for_nil rfl⟩
  | m :: ms, s, s7, s8, h, hm, hs1, hs2 => by
    simp only [List.length_cons] at hs1 hs2
    obtain ⟨s8', e⟩ := p_step k κ t last s one m κd rad tn s4 s7 s8 st h ho (hm m (List.mem_cons_self ..)) ht ⟨by omega, by omega⟩
    obtain ⟨g1, g2, g3⟩ := stepB_I m h ho
    obtain ⟨s7', s8'', ih⟩ := p_steps k κ t last one κd rad tn s4 st ho ht ms (stepB one s m) (.va m.d) s8' g1 (fun x hx => hm x (List.mem_cons_of_mem _ hx)) (by omega) (by omega)
    exact ⟨s7', s8'', (for_nx rfl e).trans ih⟩
theorem l_steps (k : Nat) (κ : Ki) (t : Nat) (last : List Ki) (one : Ki) (κd rad s4 : D) (st : St) (ho : one ∈ last) (ht : t ≤ 900) : ∀ (ms : List Mv) (s : Kv × List Ki) (s7 s8 : Sl), IB κ t last s → (∀ m ∈ ms, ∃ l, (mvd one m).filter Ki.fit = some l) → s.1.length + ms.length ≤ 10000000 → s.2.length + ms.length ≤ 10000000 →
    ∃ s7' s8', forLoop (forF (callN pg (k + 9)) pg.gl (.nm 7) p0__law_ball) [] (ms.map Mv.d) [.va κd, .va rad, .va (.int t), .va (.ref st.length), .va s4, .ow (s.2.map Ki.d), .va one.d, s7, s8] (st ++ [.dcn (pB lenI s.1)]) =
      .nx [.va κd, .va rad, .va (.int t), .va (.ref st.length), .va s4, .ow ((ms.foldl (stepB one) s).2.map Ki.d), .va one.d, s7', s8'] (st ++ [.dcn (pB lenI (ms.foldl (stepB one) s).1)])
  | [], s, s7, s8, _, _, _, _ => ⟨s7, s8, for_nil rfl⟩
  | m :: ms, s, s7, s8, h, hm, hs1, hs2 => by
    simp only [List.length_cons] at hs1 hs2
    obtain ⟨s8', e⟩ := l_step k κ t last s one m κd rad s4 s7 s8 st h ho (hm m (List.mem_cons_self ..)) ht ⟨by omega, by omega⟩
    obtain ⟨g1, g2, g3⟩ := stepB_I m h ho
    obtain ⟨s7', s8'', ih⟩ := l_steps k κ t last one κd rad s4 st ho ht ms (stepB one s m) (.va m.d) s8' g1 (fun x hx => hm x (List.mem_cons_of_mem _ hx)) (by omega) (by omega)
    exact ⟨s7', s8'', (for_nx rfl e).trans ih⟩
theorem p_ones (k : Nat) (κ : Ki) (t : Nat) (last : List Ki) (κd rad tn s4 : D) (st : St) (ht : t ≤ 900) : ∀ (os : List Ki) (s : Kv × List Ki) (s6 s7 s8 : Sl), (∀ o ∈ os, o ∈ last) → IB κ t last s → s.1.length + os.length * 400 ≤ 9000000 → s.2.length + os.length * 400 ≤ 9000000 →
    ∃ s6' s7' s8', forLoop (forF (callN pg (k + 12)) pg.gl (.nm 6) p1_rows_within) [] (os.map Ki.d) [.va κd, .va rad, .va tn, .va (.ref st.length), .va s4, .ow (s.2.map Ki.d), s6, s7, s8] (st ++ [.dcn (pB rowD s.1)]) =
      .nx [.va κd, .va rad, .va tn, .va (.ref st.length), .va s4, .ow ((os.foldl oneB s).2.map Ki.d), s6', s7', s8'] (st ++ [.dcn (pB rowD (os.foldl oneB s).1)])
  | [], s, s6, s7, s8, _, _, _, _ => ⟨s6, s7, s8, for_nil rfl⟩
  | o :: os, s, s6, s7, s8, ho, h, hs1, hs2 => by
    simp only [List.length_cons] at hs1 hs2
    have hol := ho o (List.mem_cons_self ..)
    obtain ⟨g1, g2, g3⟩ := oneB_I h hol
    obtain ⟨x1, x2, _⟩ := h.keys (o, look s.1 o) (look_mem (h.last o hol).1)
    simp only at x1 x2
    have nf := nearM_few x2
    have N := e_near k o (st ++ [.dcn (pB rowD s.1)]) x1 x2
    rw [nearM_d] at N
    obtain ⟨s7', s8', e⟩ := p_steps (k + 4) κ t last o κd rad tn s4 st hol ht (nearM o) s s7 s8 h (fun m hm => nearM_m hm) (by omega) (by omega)
    obtain ⟨s6', s7'', s8'', ih⟩ := p_ones k κ t last κd rad tn s4 st ht os (oneB s o) (.va o.d) s7' s8' (fun x hx => ho x (List.mem_cons_of_mem _ hx)) g1 (by omega) (by omega)
    refine ⟨s6', s7'', s8'', (for_nx (env' := [.va κd, .va rad, .va tn, .va (.ref st.length), .va s4, .ow ((oneB s o).2.map Ki.d), .va o.d, s7', s8']) (st' := st ++ [.dcn (pB rowD (oneB s o).1)]) rfl ?_).trans ih⟩
    have e : forLoop (forF (callN pg (k + 12)) pg.gl (.nm 7) p0_rows_within) [] ((nearM o).map Mv.d) [.va κd, .va rad, .va tn, .va (.ref st.length), .va s4, .ow (s.2.map Ki.d), .va o.d, s7, s8] (st ++ [.dcn (pB rowD s.1)]) = .nx [.va κd, .va rad, .va tn, .va (.ref st.length), .va s4, .ow ((oneB s o).2.map Ki.d), .va o.d, s7', s8'] (st ++ [.dcn (pB rowD (oneB s o).1)]) := e
    generalize (nearM o).map Mv.d = qs at N e
    simp [forF, asgTg, p1_rows_within, N, e]
theorem l_ones (k : Nat) (κ : Ki) (t : Nat) (last : List Ki) (κd rad s4 : D) (st : St) (ht : t ≤ 900) : ∀ (os : List Ki) (s : Kv × List Ki) (s6 s7 s8 : Sl), (∀ o ∈ os, o ∈ last) → IB κ t last s → s.1.length + os.length * 400 ≤ 9000000 → s.2.length + os.length * 400 ≤ 9000000 →
    ∃ s6' s7' s8', forLoop (forF (callN pg (k + 10)) pg.gl (.nm 6) p1__law_ball) [] (os.map Ki.d) [.va κd, .va rad, .va (.int t), .va (.ref st.length), .va s4, .ow (s.2.map Ki.d), s6, s7, s8] (st ++ [.dcn (pB lenI s.1)]) =
      .nx [.va κd, .va rad, .va (.int t), .va (.ref st.length), .va s4, .ow ((os.foldl oneB s).2.map Ki.d), s6', s7', s8'] (st ++ [.dcn (pB lenI (os.foldl oneB s).1)])
  | [], s, s6, s7, s8, _, _, _, _ => ⟨s6, s7, s8, for_nil rfl⟩
  | o :: os, s, s6, s7, s8, ho, h, hs1, hs2 => by
    simp only [List.length_cons] at hs1 hs2
    have hol := ho o (List.mem_cons_self ..)
    obtain ⟨g1, g2, g3⟩ := oneB_I h hol
    obtain ⟨x1, x2, _⟩ := h.keys (o, look s.1 o) (look_mem (h.last o hol).1)
    simp only at x1 x2
    have nf := nearM_few x2
    have N := e_lnear k o (st ++ [.dcn (pB lenI s.1)]) x1 x2
    rw [nearM_d] at N
    obtain ⟨s7', s8', e⟩ := l_steps (k + 1) κ t last o κd rad s4 st hol ht (nearM o) s s7 s8 h (fun m hm => nearM_m hm) (by omega) (by omega)
    obtain ⟨s6', s7'', s8'', ih⟩ := l_ones k κ t last κd rad s4 st ht os (oneB s o) (.va o.d) s7' s8' (fun x hx => ho x (List.mem_cons_of_mem _ hx)) g1 (by omega) (by omega)
    refine ⟨s6', s7'', s8'', (for_nx (env' := [.va κd, .va rad, .va (.int t), .va (.ref st.length), .va s4, .ow ((oneB s o).2.map Ki.d), .va o.d, s7', s8']) (st' := st ++ [.dcn (pB lenI (oneB s o).1)]) rfl ?_).trans ih⟩
    have e : forLoop (forF (callN pg (k + 10)) pg.gl (.nm 7) p0__law_ball) [] ((nearM o).map Mv.d) [.va κd, .va rad, .va (.int t), .va (.ref st.length), .va s4, .ow (s.2.map Ki.d), .va o.d, s7, s8] (st ++ [.dcn (pB lenI s.1)]) = .nx [.va κd, .va rad, .va (.int t), .va (.ref st.length), .va s4, .ow ((oneB s o).2.map Ki.d), .va o.d, s7', s8'] (st ++ [.dcn (pB lenI (oneB s o).1)]) := e
    generalize (nearM o).map Mv.d = qs at N e
    simp [forF, asgTg, p1__law_ball, N, e]
theorem range_succ (a : Int) (n : Nat) : rangeL a (n + 1) = .int a :: rangeL (a + 1) n := by
  unfold rangeL
  rw [List.range_succ_eq_map, List.map_cons, List.map_map]
  congr 1
  · simp
  · refine List.map_congr_left fun i _ => ?_
    simp only [Function.comp_apply, D.int.injEq]
    omega
/-- turns from a state on -/
noncomputable def iterB : Nat → Kv × List Ki → Kv × List Ki
  | 0, s => s
  | n + 1, s => iterB n (turnB s)
theorem iterB_ball (κ : Ki) (n t : Nat) : iterB n (ballB κ t) = ballB κ (t + n) := by
  induction n generalizing t with
  | zero => rfl
  | succ n ih =>
    show iterB n (ballB κ (t + 1)) = _
    rw [ih]
    congr 1
    omega
theorem p_turns (k : Nat) (κ : Ki) (κd rad : D) (st : St) : ∀ (n t : Nat) (s : Kv × List Ki) (s2 s5 s6 s7 s8 : Sl), JB κ t s → t + n ≤ 2 →
    ∃ s2' s5' s6' s7' s8', forLoop (forF (callN pg (k + 12)) pg.gl (.nm 2) p2_rows_within) [] (rangeL t n) [.va κd, .va rad, s2, .va (.ref st.length), .va (.lst (s.2.map Ki.d)), s5, s6, s7, s8] (st ++ [.dcn (pB rowD s.1)]) =
      .nx [.va κd, .va rad, s2', .va (.ref st.length), .va (.lst ((iterB n s).2.map Ki.d)), s5', s6', s7', s8'] (st ++ [.dcn (pB rowD (iterB n s).1)])
  | 0, t, s, s2, s5, s6, s7, s8, h, hn => ⟨s2, s5, s6, s7, s8, for_nil rfl⟩
  | n + 1, t, s, s2, s5, s6, s7, s8, h, hn => by
    have hm := h.many
    have b : s.1.length ≤ 1000000 ∧ s.2.length ≤ 1000 := by
      have : t = 0 ∨ t = 1 := by omega
      rcases this with rfl | rfl <;> simp at hm <;> omega
    obtain ⟨s6', s7', s8', e⟩ := p_ones k κ t s.2 κd rad (.int t) (.lst (s.2.map Ki.d)) st (by omega) s.2 (s.1, []) s6 s7 s8 (fun _ q => q) h.I (by simp only; omega) (by simp only [List.length_nil]; omega)
    obtain ⟨s2', s5', s6'', s7'', s8'', ih⟩ := p_turns k κ κd rad st n (t + 1) (turnB s) (.va (.int t)) .no s6' s7' s8' (turnB_J h) (by omega)
    refine ⟨s2', s5', s6'', s7'', s8'', ?_⟩
    rw [range_succ]
    have et : (((t + 1 : Nat)) : Int) = (t : Int) + 1 := by omega
    rw [et] at ih
    refine (for_nx (env' := [.va κd, .va rad, .va (.int t), .va (.ref st.length), .va (.lst ((turnB s).2.map Ki.d)), .no, s6', s7', s8']) (st' := st ++ [.dcn (pB rowD (turnB s).1)]) rfl ?_).trans ih
    have e : forLoop (forF (callN pg (k + 12)) pg.gl (.nm 6) p1_rows_within) [] (s.2.map Ki.d) [.va κd, .va rad, .va (.int t), .va (.ref st.length), .va (.lst (s.2.map Ki.d)), .ow [], s6, s7, s8] (st ++ [.dcn (pB rowD s.1)]) = .nx [.va κd, .va rad, .va (.int t), .va (.ref st.length), .va (.lst (s.2.map Ki.d)), .ow ((turnB s).2.map Ki.d), s6', s7', s8'] (st ++ [.dcn (pB rowD (turnB s).1)]) := e
    generalize s.2.map Ki.d = qs at e ⊢
    generalize (turnB s).2.map Ki.d = rs at e ⊢
    simp [forF, asgTg, p2_rows_within, e, setV]
theorem l_turns (k : Nat) (κ : Ki) (κd rad : D) (st : St) : ∀ (n t : Nat) (s : Kv × List Ki) (s2 s5 s6 s7 s8 : Sl), JB κ t s → t + n ≤ 2 →
    ∃ s2' s5' s6' s7' s8', forLoop (forF (callN pg (k + 10)) pg.gl (.nm 2) p2__law_ball) [] (rangeL t n) [.va κd, .va rad, s2, .va (.ref st.length), .va (.lst (s.2.map Ki.d)), s5, s6, s7, s8] (st ++ [.dcn (pB lenI s.1)]) =
      .nx [.va κd, .va rad, s2', .va (.ref st.length), .va (.lst ((iterB n s).2.map Ki.d)), s5', s6', s7', s8'] (st ++ [.dcn (pB lenI (iterB n s).1)])
  | 0, t, s, s2, s5, s6, s7, s8, h, hn => ⟨s2, s5, s6, s7, s8, for_nil rfl⟩
  | n + 1, t, s, s2, s5, s6, s7, s8, h, hn => by
    have hm := h.many
    have b : s.1.length ≤ 1000000 ∧ s.2.length ≤ 1000 := by
      have : t = 0 ∨ t = 1 := by omega
      rcases this with rfl | rfl <;> simp at hm <;> omega
    obtain ⟨s6', s7', s8', e⟩ := l_ones k κ t s.2 κd rad (.lst (s.2.map Ki.d)) st (by omega) s.2 (s.1, []) s6 s7 s8 (fun _ q => q) h.I (by simp only; omega) (by simp only [List.length_nil]; omega)
    obtain ⟨s2', s5', s6'', s7'', s8'', ih⟩ := l_turns k κ κd rad st n (t + 1) (turnB s) (.va (.int t)) .no s6' s7' s8' (turnB_J h) (by omega)
    refine ⟨s2', s5', s6'', s7'', s8'', ?_⟩
    rw [range_succ]
    have et : (((t + 1 : Nat)) : Int) = (t : Int) + 1 := by omega
    rw [et] at ih
    refine (for_nx (env' := [.va κd, .va rad, .va (.int t), .va (.ref st.length), .va (.lst ((turnB s).2.map Ki.d)), .no, s6', s7', s8']) (st' := st ++ [.dcn (pB lenI (turnB s).1)]) rfl ?_).trans ih
    have e : forLoop (forF (callN pg (k + 10)) pg.gl (.nm 6) p1__law_ball) [] (s.2.map Ki.d) [.va κd, .va rad, .va (.int t), .va (.ref st.length), .va (.lst (s.2.map Ki.d)), .ow [], s6, s7, s8] (st ++ [.dcn (pB lenI s.1)]) = .nx [.va κd, .va rad, .va (.int t), .va (.ref st.length), .va (.lst (s.2.map Ki.d)), .ow ((turnB s).2.map Ki.d), s6', s7', s8'] (st ++ [.dcn (pB lenI (turnB s).1)]) := e
    generalize s.2.map Ki.d = qs at e ⊢
    generalize (turnB s).2.map Ki.d = rs at e ⊢
    simp [forF, asgTg, p2__law_ball, e, setV]
theorem e_rows_within (k : Nat) (κ : Ki) (n : Nat) (st : St) (ok : κ.ok = true) (hf : κ.fit = true) (hn : n ≤ 2) : callN pg (k + 13) i_rows_within [κ.d, .int n] st = .ok (.ref st.length) (st ++ [.dcn (pB rowD (ballB κ n).1)]) := by
  have hJ := ballB_J κ ok hf 0
  obtain ⟨s2, s5, s6, s7, s8, e⟩ := p_turns k κ κ.d (.int n) st n 0 (ballB κ 0) .no .no .no .no .no hJ (by omega)
  rw [iterB_ball] at e
  have e0 : pB rowD (ballB κ 0).1 = [(κ.d, .tup [])] := rfl
  have e1 : (ballB κ 0).2.map Ki.d = [κ.d] := rfl
  rw [e0, e1, Nat.zero_add] at e
  have r := rg1R_int (j := (n : Int)) (st ++ [.dcn [(κ.d, .tup [])]]) (by simp [okRange]; omega)
  have dr := dnR_ok (.tup []) st (tkey_ki hf)
  simp only [Int.toNat_natCast] at r
  generalize (ballB κ n).2.map Ki.d = rs at e
  generalize pB rowD (ballB κ n).1 = ps at e ⊢
  have r : rg1R (.int (n : Int)) (st ++ [.dcn [(κ.d, .tup [])]]) = .ok (rangeL ((0 : Nat) : Int) n, []) (st ++ [.dcn [(κ.d, .tup [])]]) := r
  generalize rangeL ((0 : Nat) : Int) n = js at r e
  rw [call_eq (d := ⟨2, 9, b_rows_within⟩) rfl rfl]
  simp [b_rows_within, dr, parO, setV, r, e]
theorem e_lball (k : Nat) (κ : Ki) (n : Nat) (st : St) (ok : κ.ok = true) (hf : κ.fit = true) (hn : n ≤ 2) : callN pg (k + 11) i__law_ball [κ.d, .int n] st = .ok (.ref st.length) (st ++ [.dcn (pB lenI (ballB κ n).1)]) := by
  have hJ := ballB_J κ ok hf 0
  obtain ⟨s2, s5, s6, s7, s8, e⟩ := l_turns k κ κ.d (.int n) st n 0 (ballB κ 0) .no .no .no .no .no hJ (by omega)
  rw [iterB_ball] at e
  have e0 : pB lenI (ballB κ 0).1 = [(κ.d, .int 0)] := rfl
  have e1 : (ballB κ 0).2.map Ki.d = [κ.d] := rfl
  rw [e0, e1, Nat.zero_add] at e
  have r := rg1R_int (j := (n : Int)) (st ++ [.dcn [(κ.d, .int 0)]]) (by simp [okRange]; omega)
  have dr := dnR_ok (.int 0) st (tkey_ki hf)
  simp only [Int.toNat_natCast] at r
  generalize (ballB κ n).2.map Ki.d = rs at e
  generalize pB lenI (ballB κ n).1 = ps at e ⊢
  have r : rg1R (.int (n : Int)) (st ++ [.dcn [(κ.d, .int 0)]]) = .ok (rangeL ((0 : Nat) : Int) n, []) (st ++ [.dcn [(κ.d, .int 0)]]) := r
  generalize rangeL ((0 : Nat) : Int) n = js at r e
  rw [call_eq (d := ⟨2, 9, b__law_ball⟩) rfl rfl]
  simp [b__law_ball, dr, parO, setV, r, e]
end K73

set_option Elab.async false
set_option linter.all false
set_option maxRecDepth 100000
/-! k73, plainly: rows undone. -/
namespace K73
open Ev PySem
def Mv.undo (m : Mv) : Mv := ⟨m.w, !m.f, m.p⟩
theorem e_contrary (k : Nat) (f : Bool) (st : St) : callN pg (k + 1) i_contrary [.str (dirC f)] st = .ok (.str (dirC (!f))) st := by
  have D1 : eqD (.str (dirC f)) (.str cFo) = some f := by cases f <;> decide +kernel
  simp only [cFo] at D1
  rw [call_eq (d := ⟨1, 1, b_contrary⟩) rfl rfl]
  cases f <;> simp only [dirC, cFo, cBa, Bool.false_eq_true, if_false, if_true] at D1 <;> simp [b_contrary, D1, dirC, cFo, cBa]
theorem eqVF (w : Wo) (f : Bool) : eqD (.tup [.str w.c, .str (dirC f)]) (.tup [.str cV, .str cFo]) = some false := by
  cases w <;> cases f <;> decide +kernel
theorem e_undone (k : Nat) (κ τ : Ki) (m : Mv) (st : St) (ht : κ.at m.p = some τ) : callN pg (k + 2) i_undone_of [κ.d, m.d] st = .ok m.undo.d st := by
  have E1 := e_at k κ τ m.p st ht
  have E2 := e_contrary k m.f st
  have V := eqVF m.w m.f
  simp only [cV, cFo] at V
  have S := sl2 (.str m.w.c) (.str (dirC m.f)) (pd m.p)
  rw [call_eq (d := ⟨2, 3, b_undone_of⟩) rfl rfl]
  simp [b_undone_of, Mv.d, Mv.undo, E1, E2, V, S, setV]
/-- a row of values, each led on -/
inductive Rw (st : St) : Ki → List D → List Ki → Prop where
  | nil (κ : Ki) : Rw st κ [] []
  | cons {κ κ' : Ki} {v : D} {xs : List D} {κs : List Ki} (h : ∀ k, callN pg (k + 8) i_moved_of [κ.d, v] st = .ok κ'.d st) (t : Rw st κ' xs κs) : Rw st κ (v :: xs) (κ' :: κs)
theorem Rw.length {st : St} {κ : Ki} {xs : List D} {κs : List Ki} (h : Rw st κ xs κs) : κs.length = xs.length := by
  induction h with
  | nil => rfl
  | cons _ _ ih => simp [ih]
theorem atI_last {α : Type} (xs : List α) (x : α) : L2.atI (xs ++ [x]) (-1) = some x := by
  have : L2.ixN (xs ++ [x]).length (-1) = some xs.length := by
    simp [L2.ixN]
    omega
  unfold L2.atI
  rw [this]
  simp
theorem kinds_loop (k : Nat) (u : Sl) (w : Sl) (st : St) {κ : Ki} {xs : List D} {κs : List Ki} (h : Rw st κ xs κs) : ∀ (ys : List D) (s : Sl), ys.length + xs.length ≤ 10000 → ∃ s', forLoop (forF (callN pg (k + 8)) pg.gl (.nm 3) p0_kinds_by) [] xs [u, w, .ow (ys ++ [κ.d]), s] st = .nx [u, w, .ow (ys ++ (κ :: κs).map Ki.d), s'] st := by
  induction h with
  | nil κ => exact fun ys s _ => ⟨s, for_nil rfl⟩
  | @cons κ κ' v xs κs h t ih =>
    intro ys s hl
    simp only [List.length_cons] at hl
    obtain ⟨s', e⟩ := ih (ys ++ [κ.d]) (.va v) (by simp; omega)
    refine ⟨s', (for_nx (env' := [u, w, .ow ((ys ++ [κ.d]) ++ [κ'.d]), .va v]) (st' := st) rfl ?_).trans (e.trans ?_)⟩
    · have q := h k
      have A := atI_last ys κ.d
      have z : (ys ++ [κ.d]).length < sizeLine := by rw [sizeLine_eq]; simp; omega
      obtain ⟨zs, hz⟩ : ∃ zs, ys ++ [κ.d] = zs := ⟨_, rfl⟩
      rw [hz] at A z ⊢
      clear hz
      simp [forF, asgTg, p0_kinds_by, A, q, z]
    · simp
theorem e_kinds_by (k : Nat) (st : St) {κ : Ki} {xs : List D} {κs : List Ki} (h : Rw st κ xs κs) (hl : xs.length ≤ 1000) : callN pg (k + 9) i_kinds_by [κ.d, .tup xs] st = .ok (.lst ((κ :: κs).map Ki.d)) st := by
  obtain ⟨s', e⟩ := kinds_loop k (.va κ.d) (.va (.tup xs)) st h [] .no (by simp; omega)
  simp only [List.nil_append] at e
  rw [call_eq (d := ⟨2, 4, b_kinds_by⟩) rfl rfl]
  generalize (κ :: κs).map Ki.d = zs at e ⊢
  simp [b_kinds_by, e, setV]
theorem walk_Rw (st : St) : ∀ (r : List Mv) {κ τ : Ki}, κ.ok = true → κ.fit = true → walk κ r = some τ → ∃ κs, Rw st κ (r.map Mv.d) κs
  | [], κ, τ, _, _, _ => ⟨[], .nil κ⟩
  | m :: r, κ, τ, ok, hf, h => by
    simp only [walk] at h
    cases e : (mvd κ m).filter Ki.fit with
    | none => rw [e] at h; cases h
    | some l =>
      rw [e] at h
      obtain ⟨g1, g2⟩ := filt_ok ok e
      obtain ⟨κs, ih⟩ := walk_Rw st r g1 g2 h
      obtain ⟨σ, hσ⟩ := mvd_at e
      refine ⟨l :: κs, .cons (fun k => ?_) ih⟩
      have := e_mvd k κ σ m st ok (fit_b hf).2 hσ
      rw [filt_mvd e] at this
      exact this
theorem undone_loop (k : Nat) (a b c d e : Sl) (st : St) : ∀ (r : List Mv) {κ τ : Ki} {κs : List Ki}, κ.ok = true → walk κ r = some τ → Rw st κ (r.map Mv.d) κs → κ.fit = true →
    lcLoop (lcF (callN pg (k + 2)) pg.gl [a, b, c, d, e] p0_row_undone_of (.tp [.nm 3, .nm 4]) (.cst (.bl true)) [3, 4]) [] [a, b, c, d, e] (List.zipWith (fun u v => .tup [u, v]) ((κ :: κs).map Ki.d) (r.map Mv.d)) st = .ok (r.map fun m => m.undo.d) st
  | [], κ, τ, κs, _, _, _, _ => by
    simp only [List.map_nil, List.zipWith_nil_right]
    exact lc_nil rfl
  | m :: r, κ, τ, κs, ok, h, hr, hf => by
    simp only [walk] at h
    cases e2 : (mvd κ m).filter Ki.fit with
    | none => rw [e2] at h; cases h
    | some l =>
      rw [e2] at h
      obtain ⟨g1, g2⟩ := filt_ok ok e2
      obtain ⟨σ, hσ⟩ := mvd_at e2
      have q := e_undone k κ σ m st hσ
      simp only [List.map_cons] at hr
      cases hr with
      | cons h1 t =>
        rename_i κ' κs'
        have hl : κ' = l := by
          have q := e_mvd 0 κ σ m st ok (fit_b hf).2 hσ
          rw [filt_mvd e2] at q
          have q2 := (h1 0).symm.trans q
          simp only [R.ok.injEq, oD] at q2
          exact kk_inj (Option.some.inj ((kk_nkey κ').symm.trans ((congrArg nkey q2.1).trans (kk_nkey l))))
        subst hl
        have ih := undone_loop k a b c d e st r g1 h t g2
        simp only [List.map_cons, List.zipWith_cons_cons] at ih ⊢
        refine lc_some rfl ?_ ih
        simp [lcF, asgTg, asgTgs, wipeE, p0_row_undone_of, q]
theorem e_row_undone (k : Nat) (κ τ : Ki) (r : List Mv) (st : St) (ok : κ.ok = true) (hf : κ.fit = true) (h : walk κ r = some τ) (hl : r.length ≤ 1000) : callN pg (k + 10) i_row_undone_of [κ.d, rowD r] st = .ok (rowD (r.map Mv.undo).reverse) st := by
  obtain ⟨κs, hr⟩ := walk_Rw st r ok hf h
  have K := e_kinds_by k st hr (by simpa using hl)
  have U := fun a b c d e => undone_loop (k + 7) a b c d e st r ok h hr hf
  have hn := hr.length
  have Lc : ∀ a b c d e, lcL (callN pg (k + 9)) pg.gl [a, b, c, d, e] st p0_row_undone_of (.tp [.nm 3, .nm 4]) (.cst (.bl true)) [3, 4] (List.zipWith (fun u v => .tup [u, v]) ((κ :: κs).map Ki.d) (r.map Mv.d), []) = .ok (.lst (r.map fun m => m.undo.d)) st := fun a b c d e => lcL_ok (by rw [sizeLine_eq]; simp; omega) (U a b c d e)
  have Z := fun a b h => zmR_ok st a b ((κ :: κs).map Ki.d) (r.map Mv.d) h
  have Z2 := Z (.var 2) (.var 1) rfl
  have e : rowD (r.map Mv.undo).reverse = .tup (r.map fun m => m.undo.d).reverse := by
    simp [rowD, List.map_reverse, Function.comp_def]
  rw [e]
  unfold rowD
  generalize List.zipWith (fun u v => D.tup [u, v]) ((κ :: κs).map Ki.d) (r.map Mv.d) = zs at Lc Z2
  generalize (κ :: κs).map Ki.d = ks at K Z2
  generalize r.map Mv.d = rs at K Z2 ⊢
  generalize (r.map fun m => m.undo.d) = us at Lc ⊢
  rw [call_eq (d := ⟨2, 5, b_row_undone_of⟩) rfl rfl]
  simp [b_row_undone_of, K, Z2, Lc, setV, revD]
end K73

set_option Elab.async false
set_option linter.all false
set_option maxRecDepth 100000
/-! k73, plainly: the shortest row, the law's own distance. -/
namespace K73
open Ev PySem
theorem stepB_nd {one : Ki} {s : Kv × List Ki} (m : Mv) (h : (keysOf s.1).Nodup) : (keysOf (stepB one s m).1).Nodup := by
  unfold stepB
  cases (mvd one m).filter Ki.fit with
  | none => exact h
  | some o =>
    simp only
    by_cases hk : o ∈ keysOf s.1
    · rw [if_pos hk]; exact h
    · rw [if_neg hk]
      simp only [keysOf, List.map_append, List.map_cons, List.map_nil]
      rw [List.nodup_append]
      refine ⟨h, by simp, fun a ha b hb e => ?_⟩
      simp only [List.mem_singleton] at hb
      subst hb; subst e
      exact hk ha
theorem steps_nd (one : Ki) : ∀ (ms : List Mv) {s : Kv × List Ki}, (keysOf s.1).Nodup → (keysOf (ms.foldl (stepB one) s).1).Nodup
  | [], _, h => h
  | m :: ms, _, h => steps_nd one ms (stepB_nd m h)
theorem ones_nd : ∀ (os : List Ki) {s : Kv × List Ki}, (keysOf s.1).Nodup → (keysOf (os.foldl oneB s).1).Nodup
  | [], _, h => h
  | o :: os, _, h => ones_nd os (steps_nd o (nearM o) h)
theorem ball_nd (κ : Ki) : ∀ n, (keysOf (ballB κ n).1).Nodup
  | 0 => by simp [ballB, keysOf]
  | n + 1 => ones_nd (ballB κ n).2 (s := ((ballB κ n).1, [])) (ball_nd κ n)
theorem look_nd {kvs : Kv} (h : (keysOf kvs).Nodup) {e : Ki × List Mv} (he : e ∈ kvs) : look kvs e.1 = e.2 := by
  induction kvs with
  | nil => cases he
  | cons x kvs ih =>
    simp only [keysOf, List.map_cons, List.nodup_cons] at h
    unfold look
    rw [List.find?_cons]
    by_cases hx : x.1 = e.1
    · rw [decide_eq_true hx]
      rcases List.mem_cons.mp he with rfl | he
      · rfl
      · exact absurd (List.mem_map.mpr ⟨e, he, hx.symm⟩) h.1
    · rw [decide_eq_false hx]
      rcases List.mem_cons.mp he with rfl | he
      · exact absurd rfl hx
      · exact ih h.2 he
/-- how far by way of each kind of both balls -/
def metL (a b : Kv) : List (Nat × Ki) := a.filterMap fun e => if e.1 ∈ keysOf b then some (e.2.length + (look b e.1).length, e.1) else none
def minL : List Nat → Option Nat
  | [] => none
  | x :: r => some (r.foldl min x)
theorem minL_le : ∀ (r : List Nat) (x : Nat), r.foldl min x ≤ x ∧ (∀ y ∈ r, r.foldl min x ≤ y) ∧ (r.foldl min x = x ∨ r.foldl min x ∈ r)
  | [], x => ⟨Nat.le_refl _, fun _ h => (by cases h), .inl rfl⟩
  | y :: r, x => by
    obtain ⟨h1, h2, h3⟩ := minL_le r (min x y)
    simp only [List.foldl_cons]
    refine ⟨by omega, fun z hz => ?_, ?_⟩
    · rcases List.mem_cons.mp hz with rfl | hz
      · omega
      · exact h2 z hz
    · rcases h3 with h3 | h3
      · rw [h3]
        by_cases hxy : x ≤ y
        · exact .inl (by omega)
        · exact .inr (by rw [Nat.min_eq_right (by omega)]; exact List.mem_cons_self ..)
      · exact .inr (List.mem_cons_of_mem _ h3)
theorem minL_eq {ns : List Nat} {n : Nat} (h : n ∈ ns) (hm : ∀ m ∈ ns, n ≤ m) : minL ns = some n := by
  cases ns with
  | nil => cases h
  | cons x r =>
    obtain ⟨h1, h2, h3⟩ := minL_le r x
    simp only [minL, Option.some.injEq]
    have a : r.foldl min x ≤ n := by
      rcases List.mem_cons.mp h with rfl | h
      · exact h1
      · exact h2 n h
    have b : n ≤ r.foldl min x := by
      rcases h3 with h3 | h3
      · rw [h3]; exact hm x (List.mem_cons_self ..)
      · exact hm _ (List.mem_cons_of_mem _ h3)
    omega
theorem int_eqv (a b : Int) : PyData.eqv (D.int a).py (D.int b).py = decide (a = b) := by
  simp only [D.py, PyData.eqv]
  rw [Bool.eq_iff_iff]; simp
theorem ltPs_nil : ltPs (D.pys []) (D.pys []) = some false := rfl
theorem ltPs_cons (x y : D) (xs ys : List D) : ltPs (D.pys (x :: xs)) (D.pys (y :: ys)) = if PyData.eqv x.py y.py = true then ltPs (D.pys xs) (D.pys ys) else ltP x.py y.py := by
  simp only [D.pys, ltPs]
theorem ltP_str (x y : List Nat) : (ltP (D.str x).py (D.str y).py).isSome = true := by simp [D.py, ltP]
theorem ltP_tup (xs ys : List D) : ltP (D.tup xs).py (D.tup ys).py = ltPs (D.pys xs) (D.pys ys) := by simp [D.py, ltP]
theorem ltP_ki : ∀ (κ τ : Ki), (ltP κ.d.py τ.d.py).isSome = true
  | .atom s, τ => by
    cases τ <;> simp only [Ki.d, ltP_tup, ltPs_cons, str_eqv] <;> split <;> first | exact ltP_str _ _ | (split <;> first | exact ltP_str _ _ | rfl) | (rename_i h; simp at h)
  | .noth, τ => by
    cases τ <;> simp only [Ki.d, ltP_tup, ltPs_cons, str_eqv] <;> split <;> first | exact ltP_str _ _ | rfl | (rename_i h; simp at h)
  | .pair a b, τ => by
    cases τ with
    | pair c d =>
      simp only [Ki.d, ltP_tup, ltPs_cons, str_eqv]
      rw [if_pos (by simp)]
      split
      · split
        · rfl
        · exact ltP_ki b d
      · exact ltP_ki a c
    | _ => simp only [Ki.d, ltP_tup, ltPs_cons, str_eqv] <;> split <;> first | exact ltP_str _ _ | (rename_i h; simp at h)
  | .frm a b, τ => by
    cases τ with
    | frm c d =>
      simp only [Ki.d, ltP_tup, ltPs_cons, str_eqv]
      rw [if_pos (by simp)]
      split
      · split
        · rfl
        · exact ltP_ki b d
      · exact ltP_ki a c
    | _ => simp only [Ki.d, ltP_tup, ltPs_cons, str_eqv] <;> split <;> first | exact ltP_str _ _ | (rename_i h; simp at h)
/-- a number with a kind -/
def pr (e : Nat × Ki) : D := .tup [.int e.1, e.2.d]
theorem pr_lt (a b : Nat × Ki) : ∃ c, ltP (pr a).py (pr b).py = some c ∧ (c = true → a.1 ≤ b.1) ∧ (c = false → b.1 ≤ a.1) := by
  have h := ltP_ki a.2 b.2
  simp only [pr, ltP_tup, ltPs_cons, int_eqv]
  by_cases e : (a.1 : Int) = b.1
  · rw [if_pos (by simpa using e)]
    have e2 : a.1 = b.1 := by omega
    split
    · exact ⟨false, rfl, fun q => (by cases q), fun _ => by omega⟩
    · obtain ⟨c, hc⟩ := Option.isSome_iff_exists.mp h
      exact ⟨c, hc, fun _ => by omega, fun _ => by omega⟩
  · rw [if_neg (by simpa using e)]
    refine ⟨decide ((a.1 : Int) < b.1), by simp [D.py, ltP], fun q => ?_, fun q => ?_⟩
    · simp at q; omega
    · simp at q; omega
theorem pr_fold : ∀ (r : List (Nat × Ki)) (m : Nat × Ki), ∃ e, (e = m ∨ e ∈ r) ∧ (r.map pr).foldl (fun m y => if ltB y.py m.py then y else m) (pr m) = pr e ∧ e.1 ≤ m.1 ∧ ∀ x ∈ r, e.1 ≤ x.1
  | [], m => ⟨m, .inl rfl, rfl, Nat.le_refl _, fun _ h => (by cases h)⟩
  | y :: r, m => by
    obtain ⟨c, hc, h1, h2⟩ := pr_lt y m
    have hb : ltB (pr y).py (pr m).py = c := by unfold ltB; rw [hc]; rfl
    cases c with
    | true =>
      obtain ⟨e, he, g1, g2, g3⟩ := pr_fold r y
      have := h1 rfl
      refine ⟨e, ?_, ?_, by omega, fun x hx => ?_⟩
      · rcases he with rfl | he
        · exact .inr (List.mem_cons_self ..)
        · exact .inr (List.mem_cons_of_mem _ he)
      · rw [List.map_cons, List.foldl_cons, hb, if_pos rfl, g1]
      · rcases List.mem_cons.mp hx with rfl | hx
        · omega
        · exact g3 x hx
    | false =>
      obtain ⟨e, he, g1, g2, g3⟩ := pr_fold r m
      have := h2 rfl
      refine ⟨e, ?_, ?_, by omega, fun x hx => ?_⟩
      · rcases he with rfl | he
        · exact .inl rfl
        · exact .inr (List.mem_cons_of_mem _ he)
      · rw [List.map_cons, List.foldl_cons, hb, if_neg (by simp), g1]
      · rcases List.mem_cons.mp hx with rfl | hx
        · omega
        · exact g3 x hx
theorem lay_all {xs : List D} (h : ∀ x ∈ xs, okD x = true) : PyData.canLayAll0 (D.pys xs) = true := (okPs xs (okDs_iff.mpr h)).lay
theorem min_pr {L : List (Nat × Ki)} (hL : L ≠ []) (hok : ∀ e ∈ L, e.2.ok = true ∧ e.2.dep ≤ 6 ∧ e.1 < 1000000) : ∃ e ∈ L, minD1 (L.map pr) = some (pr e) ∧ minL (L.map (·.1)) = some e.1 := by
  cases L with
  | nil => exact absurd rfl hL
  | cons m r =>
    obtain ⟨e, he, g1, g2, g3⟩ := pr_fold r m
    have hmem : e ∈ m :: r := by
      rcases he with rfl | he
      · exact List.mem_cons_self ..
      · exact List.mem_cons_of_mem _ he
    have okp : ∀ x ∈ (m :: r).map pr, okD x = true ∧ x.py.depth ≤ 60 := by
      intro x hx
      obtain ⟨y, hy, rfl⟩ := List.mem_map.mp hx
      obtain ⟨h1, h2, h3⟩ := hok y hy
      have o : okD (pr y) = true := by
        have := ki_okD y.2 h1
        have h4 : okD (.int (y.1 : Int)) = true := by simp only [okD, decide_eq_true_iff]; omega
        simp only [pr, okD, okDs, Bool.and_true, Bool.and_eq_true] at *
        exact ⟨h4, this⟩
      refine ⟨o, ?_⟩
      have := ki_depth y.2
      simp only [pr, D.py, D.pys, PyData.depth, PyData.depthAll]
      simp [this]
      omega
    have c1 : PyData.canLayAll0 (D.pys ((m :: r).map pr)) = true := lay_all fun x hx => (okp x hx).1
    have c2 : (((m :: r).map pr).all fun a => ((m :: r).map pr).all fun b => (ltP a.py b.py).isSome) = true := by
      simp only [List.all_eq_true]
      intro a ha b hb
      obtain ⟨x, _, rfl⟩ := List.mem_map.mp ha
      obtain ⟨y, _, rfl⟩ := List.mem_map.mp hb
      obtain ⟨c, hc, _⟩ := pr_lt x y
      rw [hc]; rfl
    have c3 : (((m :: r).map pr).all fun a => decide (a.py.depth ≤ 60)) = true := by
      simp only [List.all_eq_true, decide_eq_true_iff]
      exact fun x hx => (okp x hx).2
    refine ⟨e, hmem, ?_, minL_eq (List.mem_map.mpr ⟨e, hmem, rfl⟩) fun n hn => ?_⟩
    · simp only [List.map_cons] at c1 c2 c3 ⊢
      unfold minD1
      rw [c1, c2, c3]
      simp only [Bool.and_self, if_true]
      rw [g1]
    · obtain ⟨x, hx, rfl⟩ := List.mem_map.mp hn
      rcases List.mem_cons.mp hx with rfl | hx
      · exact g2
      · exact g3 x hx
theorem int_fold : ∀ (r : List Nat) (m : Nat), (r.map fun n : Nat => D.int (n : Int)).foldl (fun m y => if ltB y.py m.py then y else m) (.int (m : Int)) = .int ((r.foldl min m : Nat) : Int)
  | [], m => rfl
  | y :: r, m => by
    have hb : ltB (D.int (y : Int)).py (D.int (m : Int)).py = decide (y < m) := by
      simp [ltB, D.py, ltP]
    rw [List.map_cons, List.foldl_cons, List.foldl_cons, hb]
    by_cases h : y < m
    · rw [if_pos (by simpa using h), int_fold r y, Nat.min_eq_right (by omega)]
    · rw [if_neg (by simpa using h), int_fold r m, Nat.min_eq_left (by omega)]
theorem min_int {L : List Nat} {n : Nat} (h : minL L = some n) (hs : ∀ m ∈ L, m < 1000000) : minD1 (L.map fun n : Nat => D.int (n : Int)) = some (.int n) := by
  cases L with
  | nil => cases h
  | cons m r =>
    simp only [minL, Option.some.injEq] at h
    have c1 : PyData.canLayAll0 (D.pys ((m :: r).map fun n : Nat => D.int (n : Int))) = true := lay_all fun x hx => by
      obtain ⟨y, hy, rfl⟩ := List.mem_map.mp hx
      have := hs y hy
      simp only [okD, decide_eq_true_iff]; omega
    have c2 : (((m :: r).map fun n : Nat => D.int (n : Int)).all fun a => ((m :: r).map fun n : Nat => D.int (n : Int)).all fun b => (ltP a.py b.py).isSome) = true := by
      simp only [List.all_eq_true]
      intro a ha b hb
      obtain ⟨x, _, rfl⟩ := List.mem_map.mp ha
      obtain ⟨y, _, rfl⟩ := List.mem_map.mp hb
      simp [D.py, ltP]
    have c3 : (((m :: r).map fun n : Nat => D.int (n : Int)).all fun a => decide (a.py.depth ≤ 60)) = true := by
      simp only [List.all_eq_true, decide_eq_true_iff]
      intro x hx
      obtain ⟨y, _, rfl⟩ := List.mem_map.mp hx
      simp [D.py, PyData.depth]
    simp only [List.map_cons] at c1 c2 c3 ⊢
    unfold minD1
    rw [c1, c2, c3]
    simp only [Bool.and_self, if_true]
    rw [int_fold r m, h]
end K73

set_option Elab.async false
set_option linter.all false
set_option maxRecDepth 100000
/-! k73, plainly: the shortest row and the law's own distance are as long. -/
namespace K73
open Ev PySem
def oR : Option (List Mv) → D
  | none => .non
  | some r => rowD r
def oN : Option Nat → D
  | none => .non
  | some n => .int n
theorem len_rowD (r : List Mv) : biD .len [rowD r] = some (.int r.length) := by
  unfold rowD
  rw [len_tup]
  simp
theorem rowD_vwS (r : List Mv) (st : St) : vwS st (rowD r) = rowD r := rfl
theorem eq_nilL {xs : List D} (h : ∀ x ∈ xs, okD x = true) : eqD (.lst xs) (.lst []) = some (decide (xs = [])) := by
  rw [eqD_ok (by simpa [okD, okDs_iff] using h) rfl (by simp [dp, dps])]
  cases xs <;> simp [D.py, D.pys, PyData.eqv, PyData.eqvAll]
theorem g_di (g : List Mv → D) {S : St} {n : Nat} {kvs : Kv} (hn : dnAt S (.ref n) = some (n, pB g kvs)) {o : Ki} (hf : o.fit = true) (neg : Bool) : diR neg o.d (.ref n) S = .ok (.bl (Bool.xor neg (decide (o ∈ keysOf kvs)))) S := by
  rw [diR_ok neg hn (tkey_ki hf), pB_has]
theorem g_dg (g : List Mv → D) {S : St} {n : Nat} {kvs : Kv} (hn : dnAt S (.ref n) = some (n, pB g kvs)) {o : Ki} (hf : o.fit = true) (h : o ∈ keysOf kvs) : dgR (.ref n) o.d S = .ok (g (look kvs o)) S :=
  dgR_ok hn (tkey_ki hf) (pB_get g h)
theorem mem_keys {kvs : Kv} {e : Ki × List Mv} (h : e ∈ kvs) : e.1 ∈ keysOf kvs := List.mem_map.mpr ⟨e, h, rfl⟩
theorem dn_cell {S : St} {n : Nat} {X : List (D × D)} (h : dnAt S (.ref n) = some (n, X)) : S[n]? = some (.dcn X) := by
  unfold dnAt at h
  simp only at h
  split at h
  · rename_i e; simp only [Option.some.injEq, Prod.mk.injEq, true_and] at h; rw [e, h]
  · cases h
theorem meet_loop (k : Nat) (S : St) (n1 n2 : Nat) (A B : Kv) (u0 u1 s4 s5 s6 s7 : Sl) (gs : List Gd) (hg : ∀ env : Ev.Env, gdsOk env S gs = true) (hB : dnAt S (.ref n2) = some (n2, pB rowD B)) : ∀ es : List (Ki × List Mv), (∀ e ∈ es, e.1.fit = true) →
    lcLoop (lcF (callN pg k) pg.gl [u0, u1, .va (.ref n1), .va (.ref n2), s4, s5, s6, s7] p0_meeting_row (.tp [.nm 6, .nm 7]) p1_meeting_row [6, 7]) gs [u0, u1, .va (.ref n1), .va (.ref n2), s4, s5, s6, s7] (es.map fun e => .tup [e.1.d, rowD e.2]) S = .ok ((metL es B).map pr) S
  | [], _ => lc_nil (hg _)
  | e :: es, h => by
    have ih := meet_loop k S n1 n2 A B u0 u1 s4 s5 s6 s7 gs hg hB es fun x hx => h x (List.mem_cons_of_mem _ hx)
    have hf := h e (List.mem_cons_self ..)
    have DI := g_di rowD hB hf false
    by_cases hk : e.1 ∈ keysOf B
    · have DG := g_dg rowD hB hf hk
      rw [decide_eq_true hk] at DI
      have em : metL (e :: es) B = (e.2.length + (look B e.1).length, e.1) :: metL es B := by simp [metL, hk]
      rw [em, List.map_cons, List.map_cons]
      refine lc_some (hg _) ?_ ih
      have c : pr (e.2.length + (look B e.1).length, e.1) = .tup [.int ((e.2.length : Int) + ((look B e.1).length : Int)), e.1.d] := by simp [pr]
      rw [c]
      simp [lcF, asgTg, asgTgs, wipeE, p0_meeting_row, p1_meeting_row, DI, DG, len_rowD, rowD_vwS]
    · rw [decide_eq_false hk] at DI
      have em : metL (e :: es) B = metL es B := by simp [metL, hk]
      rw [em, List.map_cons]
      refine lc_none (hg _) ?_ ih
      simp [lcF, asgTg, asgTgs, wipeE, p1_meeting_row, DI]
theorem met_mem {A B : Kv} {x : Nat × Ki} (h : x ∈ metL A B) : ∃ e ∈ A, x.2 = e.1 ∧ e.1 ∈ keysOf B ∧ x.1 = e.2.length + (look B e.1).length := by
  unfold metL at h
  rw [List.mem_filterMap] at h
  obtain ⟨e, he, h⟩ := h
  split at h
  · rename_i hk
    cases h
    exact ⟨e, he, rfl, hk, rfl⟩
  · cases h
theorem ball_many {κ : Ki} {n : Nat} (ok : κ.ok = true) (hf : κ.fit = true) (hn : n ≤ 2) : (ballB κ n).1.length ≤ 400000 := by
  have := (ballB_J κ ok hf n).many.1
  have : n = 0 ∨ n = 1 ∨ n = 2 := by omega
  rcases this with rfl | rfl | rfl <;> simp at * <;> omega
theorem met_ok {κ τ : Ki} {a b : Nat} (ok : κ.ok = true) (hf : κ.fit = true) (ok2 : τ.ok = true) (hf2 : τ.fit = true) (ha : a ≤ 2) (hb : b ≤ 2) : ∀ e ∈ metL (ballB κ a).1 (ballB τ b).1, e.2.ok = true ∧ e.2.dep ≤ 6 ∧ e.1 < 1000000 := by
  intro x hx
  obtain ⟨e, he, h1, h2, h3⟩ := met_mem hx
  have g := (ballB_J κ ok hf a).keys e he
  have g2 := (ballB_J τ ok2 hf2 b).keys _ (look_mem h2)
  have l1 := g.2.2.2
  have l2 := g2.2.2.2
  simp only at l2
  rw [h1, h3]
  exact ⟨g.1, (fit_b g.2.1).2, by omega⟩
theorem walk_paths : ∀ (r : List Mv) {κ τ : Ki}, κ.ok = true → κ.fit = true → walk κ r = some τ → ∀ m ∈ r, m.p.length ≤ 10
  | [], _, _, _, _, _, m, h => by cases h
  | n :: r, κ, τ, ok, hf, h, m, hm => by
    simp only [walk] at h
    cases e : (mvd κ n).filter Ki.fit with
    | none => rw [e] at h; cases h
    | some l =>
      rw [e] at h
      obtain ⟨g1, g2⟩ := filt_ok ok e
      rcases List.mem_cons.mp hm with rfl | hm
      · obtain ⟨σ, hσ⟩ := mvd_at e
        have := path_dep κ m.p (mem_at m.p κ (by rw [hσ]; rfl))
        have := fit_b hf
        omega
      · exact walk_paths r g1 g2 h m hm
theorem e_meeting (k : Nat) (S : St) (n1 n2 : Nat) (κ τ : Ki) (a b : Nat) (ok : κ.ok = true) (hf : κ.fit = true) (ok2 : τ.ok = true) (hf2 : τ.fit = true) (ha : a ≤ 2) (hb : b ≤ 2)
    (hA : dnAt S (.ref n1) = some (n1, pB rowD (ballB κ a).1)) (hB : dnAt S (.ref n2) = some (n2, pB rowD (ballB τ b).1)) :
    ∃ o : Option (List Mv), callN pg (k + 11) i_meeting_row [κ.d, τ.d, .ref n1, .ref n2] S = .ok (oR o) S ∧ o.map List.length = minL ((metL (ballB κ a).1 (ballB τ b).1).map (·.1)) ∧ ∀ r, o = some r → r.length ≤ 4 ∧ ∀ m ∈ r, m.p.length ≤ 10 := by
  have JA := ballB_J κ ok hf a
  have JB' := ballB_J τ ok2 hf2 b
  have hg : ∀ env : Ev.Env, gdsOk env S [.dcl n1 (pB rowD (ballB κ a).1)] = true := fun env => by simp [gdsOk, Gd.ok, dn_cell hA]
  have ML := fun u0 u1 s4 s5 s6 s7 => meet_loop (k + 10) S n1 n2 (ballB κ a).1 (ballB τ b).1 u0 u1 s4 s5 s6 s7 _ hg hB (ballB κ a).1 fun e he => (JA.keys e he).2.1
  have lenA := ball_many ok hf ha
  have IT : ditR (.ref n1) S = .ok ((ballB κ a).1.map fun e => D.tup [e.1.d, rowD e.2], [.dcl n1 (pB rowD (ballB κ a).1)]) S := by
    rw [ditR_ok hA]
    simp [pB, List.map_map, Function.comp_def]
  have LL := fun u0 u1 s4 s5 s6 s7 => lcL_ok (by rw [sizeLine_eq]; simp; omega) (ML u0 u1 s4 s5 s6 s7)
  have mok := met_ok ok hf ok2 hf2 ha hb
  have EN : eqD (.lst ((metL (ballB κ a).1 (ballB τ b).1).map pr)) (.lst []) = some (decide ((metL (ballB κ a).1 (ballB τ b).1).map pr = [])) := eq_nilL fun x hx => by
    obtain ⟨e, he, rfl⟩ := List.mem_map.mp hx
    obtain ⟨h1, h2, h3⟩ := mok e he
    have := ki_okD e.2 h1
    have h4 : okD (.int (e.1 : Int)) = true := by simp only [okD, decide_eq_true_iff]; omega
    simp only [pr, okD, okDs, Bool.and_true, Bool.and_eq_true] at *
    exact ⟨h4, this⟩
  by_cases hL : metL (ballB κ a).1 (ballB τ b).1 = []
  · refine ⟨none, ?_, by rw [hL]; rfl, fun r h => by cases h⟩
    rw [hL] at LL EN
    simp only [List.map_nil, decide_true] at EN LL
    generalize ((ballB κ a).1.map fun e => D.tup [e.1.d, rowD e.2]) = its at IT LL
    rw [call_eq (d := ⟨4, 8, b_meeting_row⟩) rfl rfl]
    simp [b_meeting_row, IT, LL, EN, setV, oR]
  · obtain ⟨e, he, h1, h2⟩ := min_pr hL mok
    obtain ⟨x, hx, q1, q2, q3⟩ := met_mem he
    have gA := JA.keys x hx
    have gB := JB'.keys _ (look_mem q2)
    simp only at gB
    have hne : ¬ ((metL (ballB κ a).1 (ballB τ b).1).map pr = []) := by simpa using hL
    rw [decide_eq_false hne] at EN
    have DA := g_dg rowD hA gA.2.1 (mem_keys hx)
    have DB := g_dg rowD hB gA.2.1 q2
    have lk := look_nd (ball_nd κ a) hx
    rw [lk] at DA
    have U := e_row_undone k τ x.1 (look (ballB τ b).1 x.1) S ok2 hf2 gB.2.2.1 (by have := gB.2.2.2; omega)
    have l1 := gA.2.2.2
    have l2 := gB.2.2.2
    have C : binD .add (rowD x.2) (rowD ((look (ballB τ b).1 x.1).map Mv.undo).reverse) = some (rowD (x.2 ++ ((look (ballB τ b).1 x.1).map Mv.undo).reverse)) := by
      unfold rowD
      rw [binD_tup (by rw [sizeLine_eq]; simp; omega), List.map_append]
    refine ⟨some (x.2 ++ ((look (ballB τ b).1 x.1).map Mv.undo).reverse), ?_, ?_, fun r h => ?_⟩
    · have mn : biD .min1 [.lst ((metL (ballB κ a).1 (ballB τ b).1).map pr)] = some (.tup [.int e.1, x.1.d]) := by
        rw [biD_min1, h1, pr, q1]
      generalize ((ballB κ a).1.map fun e => D.tup [e.1.d, rowD e.2]) = its at IT LL
      generalize (metL (ballB κ a).1 (ballB τ b).1).map pr = ls at LL EN mn
      simp only [oR]
      generalize rowD (x.2 ++ ((look (ballB τ b).1 x.1).map Mv.undo).reverse) = rr at C ⊢
      have vu : ∀ r : List Mv, vw S (rowD r) = rowD r := fun r => rfl
      rw [call_eq (d := ⟨4, 8, b_meeting_row⟩) rfl rfl]
      simp [b_meeting_row, IT, LL, EN, setV, mn, DA, DB, U, C, vu]
    · rw [h2, q3]
      simp
    · cases h
      refine ⟨by simp; omega, fun m hm => ?_⟩
      rcases List.mem_append.mp hm with hm | hm
      · exact walk_paths _ ok hf gA.2.2.1 m hm
      · rw [List.mem_reverse] at hm
        obtain ⟨n, hn, rfl⟩ := List.mem_map.mp hm
        exact walk_paths _ ok2 hf2 gB.2.2.1 n hn
end K73

set_option Elab.async false
set_option linter.all false
set_option maxRecDepth 100000
/-! k73, plainly: distances. -/
namespace K73
open Ev PySem
/-- how far apart, up to a bound -/
noncomputable def dist (κ τ : Ki) (most : Nat) : Option Nat := minL ((metL (ballB κ (most - most / 2)).1 (ballB τ (most / 2)).1).map (·.1))
theorem half_int (n : Nat) : binD .fdv (.int n) (.int 2) = some (.int ((n / 2 : Nat) : Int)) := by
  have : (n : Int).fdiv 2 = ((n / 2 : Nat) : Int) := by rw [Int.fdiv_eq_ediv_of_nonneg _ (by omega)]; omega
  simp [binD, this]
theorem rest_int (n : Nat) : binD .sub (.int n) (.int ((n / 2 : Nat) : Int)) = some (.int ((n - n / 2 : Nat) : Int)) := by
  have : (n : Int) - ((n / 2 : Nat) : Int) = ((n - n / 2 : Nat) : Int) := by omega
  rw [binD_sub, this]
theorem dn_first (st : St) (X Y : List (D × D)) : dnAt (st ++ [C.dcn X] ++ [C.dcn Y]) (.ref st.length) = some (st.length, X) := by
  simp [dnAt]
theorem dn_second (st : St) (X Y : List (D × D)) : dnAt (st ++ [C.dcn X] ++ [C.dcn Y]) (.ref (st ++ [C.dcn X]).length) = some ((st ++ [C.dcn X]).length, Y) := dnAt_app _ _
/-- the store with both balls -/
noncomputable def stB (g : List Mv → D) (st : St) (κ τ : Ki) (most : Nat) : St := st ++ [C.dcn (pB g (ballB κ (most - most / 2)).1)] ++ [C.dcn (pB g (ballB τ (most / 2)).1)]
theorem e_shortest (k : Nat) (st : St) (κ τ : Ki) (most : Nat) (ok : κ.ok = true) (hf : κ.fit = true) (ok2 : τ.ok = true) (hf2 : τ.fit = true) (hm : most ≤ 4) :
    ∃ o : Option (List Mv), callN pg (k + 14) i_shortest_row [κ.d, τ.d, .int most] st = .ok (oR o) (stB rowD st κ τ most) ∧ o.map List.length = dist κ τ most ∧ ∀ r, o = some r → r.length ≤ 4 ∧ ∀ m ∈ r, m.p.length ≤ 10 := by
  obtain ⟨o, h1, h2, h3⟩ := e_meeting (k + 2) (stB rowD st κ τ most) st.length (st ++ [C.dcn (pB rowD (ballB κ (most - most / 2)).1)]).length κ τ (most - most / 2) (most / 2) ok hf ok2 hf2 (by omega) (by omega) (dn_first _ _ _) (dn_second _ _ _)
  refine ⟨o, ?_, h2, h3⟩
  have R1 := e_rows_within k κ (most - most / 2) st ok hf (by omega)
  have R2 := e_rows_within k τ (most / 2) (st ++ [C.dcn (pB rowD (ballB κ (most - most / 2)).1)]) ok2 hf2 (by omega)
  have H := half_int most
  have Rs := rest_int most
  unfold stB at h1 ⊢
  generalize (most / 2 : Nat) = b at *
  generalize (most - b : Nat) = a at *
  generalize pB rowD (ballB κ a).1 = P1 at *
  generalize pB rowD (ballB τ b).1 = P2 at *
  have Q2 : callN pg (k + 13) i_rows_within [τ.d, .int (b : Int)] (st ++ [C.dcn P1]) = .ok (.ref (st.length + 1)) (st ++ [C.dcn P1] ++ [C.dcn P2]) := by simpa using R2
  have Q1 : callN pg (k + 13) i_meeting_row [κ.d, τ.d, .ref st.length, .ref (st.length + 1)] (st ++ [C.dcn P1] ++ [C.dcn P2]) = .ok (oR o) (st ++ [C.dcn P1] ++ [C.dcn P2]) := by simpa using h1
  clear h1 R2
  generalize oR o = oo at Q1 ⊢
  generalize st ++ [C.dcn P1] ++ [C.dcn P2] = S2 at *
  generalize st ++ [C.dcn P1] = S1 at *
  rw [call_eq (d := ⟨3, 4, b_shortest_row⟩) rfl rfl]
  simp [b_shortest_row, H, Rs, R1, Q2, Q1, setV, -binD_sub]
theorem ldist_loop (k : Nat) (S : St) (n1 n2 : Nat) (A B : Kv) (u0 u1 u2 u3 s6 : Sl) (gs : List Gd) (hg : ∀ env : Ev.Env, gdsOk env S gs = true) (hA : dnAt S (.ref n1) = some (n1, pB lenI A)) (hB : dnAt S (.ref n2) = some (n2, pB lenI B)) (nd : (keysOf A).Nodup) : ∀ es : List (Ki × List Mv), (∀ e ∈ es, e ∈ A ∧ e.1.fit = true) →
    lcLoop (lcF (callN pg k) pg.gl [u0, u1, u2, u3, .va (.ref n1), .va (.ref n2), s6] p0__law_distance (.nm 6) p1__law_distance [6]) gs [u0, u1, u2, u3, .va (.ref n1), .va (.ref n2), s6] (es.map fun e => e.1.d) S = .ok (((metL es B).map (·.1)).map fun n : Nat => D.int (n : Int)) S
  | [], _ => lc_nil (hg _)
  | e :: es, h => by
    have ih := ldist_loop k S n1 n2 A B u0 u1 u2 u3 s6 gs hg hA hB nd es fun x hx => h x (List.mem_cons_of_mem _ hx)
    obtain ⟨he, hf⟩ := h e (List.mem_cons_self ..)
    have DI := g_di lenI hB hf false
    by_cases hk : e.1 ∈ keysOf B
    · have DG := g_dg lenI hB hf hk
      have DA := g_dg lenI hA hf (mem_keys he)
      rw [look_nd nd he] at DA
      rw [decide_eq_true hk] at DI
      have em : metL (e :: es) B = (e.2.length + (look B e.1).length, e.1) :: metL es B := by simp [metL, hk]
      rw [em, List.map_cons, List.map_cons, List.map_cons]
      refine lc_some (hg _) ?_ ih
      simp only [lenI] at DA DG
      simp [lcF, asgTg, wipeE, p0__law_distance, p1__law_distance, DI, DG, DA]
    · rw [decide_eq_false hk] at DI
      have em : metL (e :: es) B = metL es B := by simp [metL, hk]
      rw [em, List.map_cons]
      refine lc_none (hg _) ?_ ih
      simp [lcF, asgTg, wipeE, p1__law_distance, DI]
theorem e_ldist (k : Nat) (st : St) (κ τ : Ki) (most : Nat) (ok : κ.ok = true) (hf : κ.fit = true) (ok2 : τ.ok = true) (hf2 : τ.fit = true) (hm : most ≤ 4) :
    callN pg (k + 12) i__law_distance [κ.d, τ.d, .int most] st = .ok (oN (dist κ τ most)) (stB lenI st κ τ most) := by
  have ha : most - most / 2 ≤ 2 := by omega
  have hb : most / 2 ≤ 2 := by omega
  have JA := ballB_J κ ok hf (most - most / 2)
  have R1 := e_lball k κ (most - most / 2) st ok hf ha
  have R2 := e_lball k τ (most / 2) (st ++ [C.dcn (pB lenI (ballB κ (most - most / 2)).1)]) ok2 hf2 hb
  have H := half_int most
  have Rs := rest_int most
  have mok := met_ok (a := most - most / 2) (b := most / 2) ok hf ok2 hf2 ha hb
  have lenA := ball_many ok hf ha
  have hA := dn_first st (pB lenI (ballB κ (most - most / 2)).1) (pB lenI (ballB τ (most / 2)).1)
  have hB := dn_second st (pB lenI (ballB κ (most - most / 2)).1) (pB lenI (ballB τ (most / 2)).1)
  have hg : ∀ env : Ev.Env, gdsOk env (st ++ [C.dcn (pB lenI (ballB κ (most - most / 2)).1)] ++ [C.dcn (pB lenI (ballB τ (most / 2)).1)]) [.dcl st.length (pB lenI (ballB κ (most - most / 2)).1)] = true := fun env => by simp [gdsOk, Gd.ok]
  have LL := fun u0 u1 u2 u3 s6 => lcL_ok (by rw [sizeLine_eq]; simp; omega) (ldist_loop (k + 11) _ _ _ _ _ u0 u1 u2 u3 s6 _ hg hA hB (ball_nd κ _) (ballB κ (most - most / 2)).1 fun e he => ⟨he, (JA.keys e he).2.1⟩)
  have IT : dkR (.ref st.length) (st ++ [C.dcn (pB lenI (ballB κ (most - most / 2)).1)] ++ [C.dcn (pB lenI (ballB τ (most / 2)).1)]) = .ok ((ballB κ (most - most / 2)).1.map fun e => e.1.d, [.dcl st.length (pB lenI (ballB κ (most - most / 2)).1)]) (st ++ [C.dcn (pB lenI (ballB κ (most - most / 2)).1)] ++ [C.dcn (pB lenI (ballB τ (most / 2)).1)]) := by
    rw [dkR_ok hA]
    simp [pB, List.map_map, Function.comp_def]
  have EN : eqD (.lst (((metL (ballB κ (most - most / 2)).1 (ballB τ (most / 2)).1).map (·.1)).map fun n : Nat => D.int (n : Int))) (.lst []) = some (decide ((((metL (ballB κ (most - most / 2)).1 (ballB τ (most / 2)).1).map (·.1)).map fun n : Nat => D.int (n : Int)) = [])) := eq_nilL fun x hx => by
    obtain ⟨y, hy, rfl⟩ := List.mem_map.mp hx
    obtain ⟨e, he, rfl⟩ := List.mem_map.mp hy
    have := (mok e he).2.2
    simp only [okD, decide_eq_true_iff]; omega
  have MI : ∀ n, minL ((metL (ballB κ (most - most / 2)).1 (ballB τ (most / 2)).1).map (·.1)) = some n → _ := fun n h => min_int h fun m hm => by
    obtain ⟨e, he, rfl⟩ := List.mem_map.mp hm
    exact (mok e he).2.2
  have rl : (st ++ [C.dcn (pB lenI (ballB κ (most - most / 2)).1)]).length = st.length + 1 := by simp
  rw [rl] at LL R2
  unfold dist stB
  have hne : ((((metL (ballB κ (most - most / 2)).1 (ballB τ (most / 2)).1).map (·.1)).map fun n : Nat => D.int (n : Int)) = []) ↔ ((metL (ballB κ (most - most / 2)).1 (ballB τ (most / 2)).1).map (·.1)) = [] := by simp
  generalize (metL (ballB κ (most - most / 2)).1 (ballB τ (most / 2)).1).map (·.1) = ns at *
  generalize ((ballB κ (most - most / 2)).1.map fun e => e.1.d) = its at *
  generalize (ns.map fun n : Nat => D.int (n : Int)) = ds at *
  generalize (most / 2 : Nat) = b at *
  generalize (most - b : Nat) = a at *
  generalize pB lenI (ballB κ a).1 = P1 at *
  generalize pB lenI (ballB τ b).1 = P2 at *
  generalize st ++ [C.dcn P1] ++ [C.dcn P2] = S2 at *
  generalize st ++ [C.dcn P1] = S1 at *
  rw [call_eq (d := ⟨3, 7, b__law_distance⟩) rfl rfl]
  cases hn : minL ns with
  | none =>
    have hd : ds = [] := by
      rw [hne]
      cases ns with
      | nil => rfl
      | cons x r => cases hn
    rw [decide_eq_true hd] at EN
    simp [b__law_distance, H, Rs, R1, R2, IT, LL, EN, setV, oN, -binD_sub]
  | some n =>
    have hd : ¬ ds = [] := by
      rw [hne]
      intro e
      rw [e] at hn
      cases hn
    rw [decide_eq_false hd] at EN
    have mi := MI n hn
    simp [b__law_distance, H, Rs, R1, R2, IT, LL, EN, setV, oN, mi, -binD_sub]
end K73

set_option Elab.async false
set_option linter.all false
set_option maxRecDepth 100000
/-! k73, plainly: any value as a row. -/
namespace K73
open Ev PySem
/-- values that are shown plainly, not too long, not too deep -/
structure Gv (v : D) : Prop where
  ok : okD v = true
  pl : plD v = true
  len : ln v ≤ 4000000
  dep : dp v ≤ 40
theorem Gv.mem {xs : List D} (h : Gv (.tup xs)) {x : D} (hx : x ∈ xs) : Gv x := by
  refine ⟨okDs_iff.mp h.ok x hx, plDs_iff.mp h.pl x hx, ?_, ?_⟩
  · have := ln_mem hx
    have := h.len
    simp only [ln] at this
    omega
  · have := dp_mem hx
    have := h.dep
    simp only [dp] at this
    omega
theorem Gv.lnS {v : D} (h : Gv v) : ln v ≤ sizeLine := by
  have := h.len
  rw [sizeLine_eq]; omega
theorem Gv.repr {v : D} (h : Gv v) : reprD v = some (.str (shw v)) := reprD_ok h.ok h.lnS (by have := h.dep; omega)
theorem low_pl {x : List Nat} (h : x.all plC = true) : low x = true := by
  simp only [low, List.all_eq_true, decide_eq_true_iff] at *
  intro c hc
  have := h c hc
  simp only [plC, Bool.and_eq_true, decide_eq_true_iff] at this
  omega
theorem plC_wc (w : Wo) : w.c.all plC = true := by cases w <;> decide
theorem plC_dir (f : Bool) : (dirC f).all plC = true := by cases f <;> decide
theorem mv_Gv (m : Mv) (h : m.p.length ≤ 1000) : Gv m.d := by
  have hb : ∀ p : List Bool, plDs (p.map bi) = true := fun p => plDs_iff.mpr fun x hx => by
    obtain ⟨b, _, rfl⟩ := List.mem_map.mp hx
    rfl
  have hl : ∀ p : List Bool, lns (p.map bi) = 22 * p.length := fun p => by
    induction p with
    | nil => rfl
    | cons c p ih => simp only [List.map_cons, lns, ih, List.length_cons, bi, ln]; omega
  have h1 := plC_wc m.w
  have h2 := plC_dir m.f
  refine ⟨m3_ok (some m.w, m.f, m.p), ?_, ?_, ?_⟩
  · simp only [Mv.d, pd, plD, plDs, hb, h1, h2, Bool.and_self]
  · have a : m.w.c.length ≤ 8 := by cases m.w <;> decide
    have b : (dirC m.f).length ≤ 8 := by cases m.f <;> decide
    simp only [Mv.d, pd, ln, lns, hl]
    omega
  · have := m3_dp (some m.w, m.f, m.p)
    have e : M3.d (some m.w, m.f, m.p) = m.d := rfl
    rw [e] at this
    omega
theorem near_Gv {κ : Ki} (hf : κ.fit = true) {x : D} (hx : x ∈ nearD κ) : Gv x := by
  obtain ⟨m, rfl, l, hl⟩ := nearD_mem.mp hx
  obtain ⟨τ, hτ⟩ := mvd_at hl
  have := path_dep κ m.p (mem_at m.p κ (by rw [hτ]; rfl))
  have := fit_b hf
  exact mv_Gv m (by omega)
theorem in_shw {v : D} {ys : List D} (hv : okD v = true) (hy : ∀ y ∈ ys, okD y = true) : isinD (.str (shw v)) (.lst (ys.map fun y => .str (shw y))) = some (ys.any fun y => decide (shw y = shw v)) := by
  have s : SeqAt.shaped (D.str (shw v)).py = true := by
    unfold SeqAt.shaped
    rw [lay_shw hv]
    simp [D.py, PyData.depth]
  have c : ∀ ys : List D, (∀ y ∈ ys, okD y = true) → PyData.canLayAll0 (D.pys (ys.map fun y => .str (shw y))) = true := fun ys => by
    induction ys with
    | nil => intro _; rfl
    | cons y ys ih =>
      intro h
      simp only [List.map_cons, D.pys, PyData.canLayAll0, Bool.and_eq_true]
      exact ⟨lay_shw (h y (List.mem_cons_self ..)), ih fun z hz => h z (List.mem_cons_of_mem _ hz)⟩
  simp only [isinD, inD]
  rw [s, c ys hy]
  simp only [Bool.and_self, if_true, List.any_map]
  congr 2
  funext y
  exact str_eqv _ _
theorem any_shw {v : D} {ys : List D} (hv : plD v = true) (hy : ∀ y ∈ ys, plD y = true) : (ys.any fun y => decide (shw y = shw v)) = decide (v ∈ ys) := by
  rw [Bool.eq_iff_iff]
  simp only [List.any_eq_true, decide_eq_true_iff]
  exact ⟨fun ⟨y, h, e⟩ => shw_inj (hy y h) hv e ▸ h, fun h => ⟨v, h, rfl⟩⟩
theorem near_lc (k : Nat) (κ : Ki) (S : St) (u0 u1 u2 u3 s4 : Sl) (ok : κ.ok = true) (hf : κ.fit = true) : lcL (callN pg k) pg.gl [u0, u1, u2, u3, s4] S p0__law_is_row (.nm 4) (.cst (.bl true)) [4] (nearD κ, []) = .ok (.lst ((nearD κ).map fun y => .str (shw y))) S := by
  refine lcL_ok (by
    have := nearM_few hf
    rw [nearM_d, List.length_map, sizeLine_eq]; omega) ?_
  refine lc_map _ rfl fun x hx => ?_
  have g := near_Gv hf hx
  simp [lcF, asgTg, wipeE, p0__law_is_row, vwS_ok g.ok, g.repr]
/-- a value's turn in the law's look at a row -/
theorem lrow_turn (k : Nat) (κ : Ki) (v : D) (u1 u2 s3 s4 : Sl) (S : St) (ok : κ.ok = true) (hf : κ.fit = true) (hv : Gv v) :
    (v ∉ nearD κ → forF (callN pg (k + 10)) pg.gl (.nm 3) p1__law_is_row v [.va κ.d, u1, u2, s3, s4] S = .rt (.bl false) S) ∧
    (∀ (m : Mv) l, v = m.d → (mvd κ m).filter Ki.fit = some l → forF (callN pg (k + 10)) pg.gl (.nm 3) p1__law_is_row v [.va κ.d, u1, u2, s3, s4] S = .nx [.va l.d, u1, u2, .va v, s4] S) := by
  have N := e_lnear k κ S ok hf
  have Lc := near_lc (k + 10) κ S (.va κ.d) u1 u2 (.va v) s4 ok hf
  have gn : ∀ y ∈ nearD κ, Gv y := fun y hy => near_Gv hf hy
  have I := in_shw hv.ok fun y hy => (gn y hy).ok
  rw [any_shw hv.pl fun y hy => (gn y hy).pl] at I
  have vv := vwS_ok (st := S) hv.ok
  refine ⟨fun h => ?_, fun m l e hl => ?_⟩
  · rw [decide_eq_false h] at I
    generalize (nearD κ).map (fun y => D.str (shw y)) = qs at Lc I
    generalize nearD κ = ns at N Lc
    simp [forF, asgTg, p1__law_is_row, N, Lc, I, vv, hv.repr]
  · have hm : v ∈ nearD κ := nearD_mem.mpr ⟨m, e, l, hl⟩
    rw [decide_eq_true hm] at I
    obtain ⟨τ, hτ⟩ := mvd_at hl
    have M := e_lmvd (k + 1) κ τ m S ok (fit_b hf).2 hτ
    rw [hl, ← e] at M
    simp only [oD] at M
    generalize (nearD κ).map (fun y => D.str (shw y)) = qs at Lc I
    generalize nearD κ = ns at N Lc
    simp [forF, asgTg, p1__law_is_row, N, Lc, I, vv, hv.repr, M, setV]
/-- any list as a row: none, or whether all are near, and where it ends -/
structure IsRw (k : Nat) (κ : Ki) (xs : List D) (S : St) (o : Option (Bool × Ki)) : Prop where
  no : o = none → ∀ u s, forLoop (forF (callN pg (k + 10)) pg.gl (.nm 2) p0_is_row_of) [] xs [.va κ.d, u, s] S = .rt (.bl false) S
  yes : ∀ b κ', o = some (b, κ') → (∀ u s, ∃ s', forLoop (forF (callN pg (k + 10)) pg.gl (.nm 2) p0_is_row_of) [] xs [.va κ.d, u, s] S = .nx [.va κ'.d, u, s'] S) ∧
    (∃ κs, Rw S κ xs κs ∧ ∃ ys, (κ :: κs) = ys ++ [κ']) ∧ κ'.ok = true ∧ κ'.fit = true ∧ (∀ v ∈ xs, ∃ w r, v = .tup (.str w :: r) ∧ low w = true) ∧ xs.all notV = b
  near : ∀ κ', o = some (true, κ') → ∀ u1 u2 s3 s4, ∃ s3', forLoop (forF (callN pg (k + 10)) pg.gl (.nm 3) p1__law_is_row) [] xs [.va κ.d, u1, u2, s3, s4] S = .nx [.va κ'.d, u1, u2, s3', s4] S
  nearC : ∀ κ', o = some (true, κ') ↔ ∃ ms : List Mv, xs = ms.map Mv.d ∧ walk κ ms = some κ'
  far : (∀ κ', o ≠ some (true, κ')) → ∀ u1 u2 s3 s4, forLoop (forF (callN pg (k + 10)) pg.gl (.nm 3) p1__law_is_row) [] xs [.va κ.d, u1, u2, s3, s4] S = .rt (.bl false) S
theorem row_any (k : Nat) (S : St) : ∀ (xs : List D) (κ : Ki), κ.ok = true → κ.fit = true → (∀ v ∈ xs, Gv v) → ∃ o, IsRw k κ xs S o
  | [], κ, ok, hf, _ => ⟨some (true, κ), ⟨fun h => (by cases h), fun b κ' h => (by
      cases h
      exact ⟨fun u s => ⟨s, for_nil rfl⟩, ⟨[], .nil κ, [], rfl⟩, ok, hf, fun v hv => (by cases hv), rfl⟩), fun κ' h u1 u2 s3 s4 => (by cases h; exact ⟨s3, for_nil rfl⟩), fun κ' => ⟨fun h => (by cases h; exact ⟨[], rfl, rfl⟩), fun ⟨ms, e, h⟩ => (by
      cases ms with
      | nil => simp only [walk, Option.some.injEq] at h; rw [h]
      | cons m ms => cases e)⟩, fun h => absurd rfl (h κ)⟩⟩
  | v :: xs, κ, ok, hf, hg => by
    have gv := hg v (List.mem_cons_self ..)
    obtain ⟨o, h⟩ := mv_any k κ v S ok hf gv.ok gv.lnS
    cases ho : o with
    | none =>
      subst ho
      have J := h.jud
      simp only [Option.isSome_none] at J
      refine ⟨none, ⟨fun _ u s => for_rt rfl ?_, fun _ _ q => (by cases q), fun _ q => (by cases q), fun κ' => ⟨fun q => (by cases q), fun ⟨ms, e, q⟩ => ?_⟩, fun _ u1 u2 s3 s4 => for_rt rfl ?_⟩⟩
      · simp [forF, asgTg, p0_is_row_of, J]
      · cases ms with
        | nil => cases e
        | cons m ms =>
          simp only [List.map_cons, List.cons.injEq] at e
          simp only [walk] at q
          cases hl : (mvd κ m).filter Ki.fit with
          | none => rw [hl] at q; cases q
          | some l => exact absurd (h.near m l e.1 hl) (by simp)
      · refine (lrow_turn k κ v u1 u2 s3 s4 S ok hf gv).1 fun hm => ?_
        obtain ⟨m, e, l, hl⟩ := nearD_mem.mp hm
        exact absurd (h.near m l e hl) (by simp)
    | some p =>
      obtain ⟨b, κ'⟩ := p
      subst ho
      obtain ⟨h1, h2, h3, w, r, hw, hlow, hwb⟩ := h.led b κ' rfl
      have J := h.jud
      simp only [Option.isSome_some] at J
      obtain ⟨o', ih⟩ := row_any k S xs κ' h1 h2 fun x hx => hg x (List.mem_cons_of_mem _ hx)
      have turn : ∀ u s, forF (callN pg (k + 10)) pg.gl (.nm 2) p0_is_row_of v [.va κ.d, u, s] S = .nx [.va κ'.d, u, .va v] S := fun u s => by
        have q := h3 (k + 2)
        simp [forF, asgTg, p0_is_row_of, J, q, setV]
      have hn : notV v = b := by
        rw [hw]
        simp only [notV]
        have : decide (w ≠ cV) = !decide (w = cV) := by simp
        rw [this, hwb, Bool.not_not]
      have lawR : b = false → ∀ u1 u2 s3 s4, forLoop (forF (callN pg (k + 10)) pg.gl (.nm 3) p1__law_is_row) [] (v :: xs) [.va κ.d, u1, u2, s3, s4] S = .rt (.bl false) S := fun hb u1 u2 s3 s4 => by
        refine for_rt rfl ((lrow_turn k κ v u1 u2 s3 s4 S ok hf gv).1 fun hm => ?_)
        obtain ⟨m, e, l, hl⟩ := nearD_mem.mp hm
        have := h.near m l e hl
        simp only [Option.some.injEq, Prod.mk.injEq] at this
        rw [hb] at this
        exact absurd this.1 (by simp)
      have thru : ∀ l, (∃ ms : List Mv, v :: xs = ms.map Mv.d ∧ walk κ ms = some l) ↔ b = true ∧ ∃ ms : List Mv, xs = ms.map Mv.d ∧ walk κ' ms = some l := fun l => by
        constructor
        · rintro ⟨ms, e, q⟩
          cases ms with
          | nil => cases e
          | cons m ms =>
            simp only [List.map_cons, List.cons.injEq] at e
            simp only [walk] at q
            cases hl : (mvd κ m).filter Ki.fit with
            | none => rw [hl] at q; cases q
            | some x =>
              rw [hl] at q
              have := h.near m x e.1 hl
              simp only [Option.some.injEq, Prod.mk.injEq] at this
              obtain ⟨t1, rfl⟩ := this
              exact ⟨t1, ms, e.2, q⟩
        · rintro ⟨hb, ms, e, q⟩
          subst hb
          obtain ⟨m, em, hl⟩ := h.nearI κ' rfl
          exact ⟨m :: ms, by rw [List.map_cons, ← em, ← e], by simp only [walk, hl]; exact q⟩
      cases ho' : o' with
      | none =>
        subst ho'
        refine ⟨none, ⟨fun _ u s => (for_nx rfl (turn u s)).trans (ih.no rfl _ _), fun _ _ q => (by cases q), fun _ q => (by cases q), fun l => ⟨fun q => (by cases q), fun q => ?_⟩, fun _ u1 u2 s3 s4 => ?_⟩⟩
        · have := (ih.nearC l).mpr ((thru l).mp q).2
          cases this
        cases hb : b with
        | false => exact lawR hb u1 u2 s3 s4
        | true =>
          subst hb
          obtain ⟨m, e, hl⟩ := h.nearI κ' rfl
          exact (for_nx rfl ((lrow_turn k κ v u1 u2 s3 s4 S ok hf gv).2 m κ' e hl)).trans (ih.far (fun _ q => by cases q) _ _ _ _)
      | some p' =>
        obtain ⟨b', κ''⟩ := p'
        subst ho'
        obtain ⟨g1, ⟨κs, g2, ys, g2e⟩, g3, g4, g5, g6⟩ := ih.yes b' κ'' rfl
        refine ⟨some (b && b', κ''), ⟨fun q => (by cases q), fun c l q => ?_, fun l q u1 u2 s3 s4 => ?_, fun l => ?_, fun q u1 u2 s3 s4 => ?_⟩⟩
        · simp only [Option.some.injEq, Prod.mk.injEq] at q
          obtain ⟨q1, rfl⟩ := q
          refine ⟨fun u s => ?_, ⟨κ' :: κs, .cons h3 g2, κ :: ys, by rw [g2e]; rfl⟩, g3, g4, fun x hx => ?_, ?_⟩
          · obtain ⟨s', e⟩ := g1 u (.va v)
            exact ⟨s', (for_nx rfl (turn u s)).trans e⟩
          · rcases List.mem_cons.mp hx with rfl | hx
            · exact ⟨w, r, hw, hlow⟩
            · exact g5 x hx
          · rw [List.all_cons, hn, g6, q1]
        · simp only [Option.some.injEq, Prod.mk.injEq, Bool.and_eq_true] at q
          obtain ⟨⟨qb, qb'⟩, rfl⟩ := q
          subst qb; subst qb'
          obtain ⟨m, e, hl⟩ := h.nearI κ' rfl
          obtain ⟨s3', e3⟩ := ih.near κ'' rfl u1 u2 (.va v) s4
          exact ⟨s3', (for_nx rfl ((lrow_turn k κ v u1 u2 s3 s4 S ok hf gv).2 m κ' e hl)).trans e3⟩
        · rw [thru l, ← ih.nearC l]
          simp only [Option.some.injEq, Prod.mk.injEq, Bool.and_eq_true]
          exact ⟨fun ⟨⟨a, c⟩, e⟩ => ⟨a, c, e⟩, fun ⟨a, c, e⟩ => ⟨⟨a, c⟩, e⟩⟩
        · cases hb : b with
          | false => exact lawR hb u1 u2 s3 s4
          | true =>
            subst hb
            obtain ⟨m, e, hl⟩ := h.nearI κ' rfl
            refine (for_nx rfl ((lrow_turn k κ v u1 u2 s3 s4 S ok hf gv).2 m κ' e hl)).trans (ih.far (fun l q2 => ?_) _ _ _ _)
            simp only [Option.some.injEq, Prod.mk.injEq] at q2
            refine q κ'' ?_
            rw [q2.1]; rfl
end K73

set_option Elab.async false
set_option linter.all false
set_option maxRecDepth 100000
/-! k73, plainly: any value as a paper. -/
namespace K73
open Ev PySem
open Classical in
/-- where a row of near moves ends -/
noncomputable def rowEnd (κ : Ki) (xs : List D) : Option Ki := if h : ∃ κ' : Ki, ∃ ms : List Mv, xs = ms.map Mv.d ∧ walk κ ms = some κ' then some h.choose else none
theorem rowEnd_eq {κ κ' : Ki} {xs : List D} (h : ∃ ms : List Mv, xs = ms.map Mv.d ∧ walk κ ms = some κ') : rowEnd κ xs = some κ' := by
  unfold rowEnd
  have h0 : ∃ κ' : Ki, ∃ ms : List Mv, xs = ms.map Mv.d ∧ walk κ ms = some κ' := ⟨κ', h⟩
  rw [dif_pos h0]
  obtain ⟨ms, e, w⟩ := h
  obtain ⟨ns, e2, w2⟩ := h0.choose_spec
  have : ms = ns := map_inj (fun a b => Mv.d_inj) (e.symm.trans e2)
  subst this
  exact congrArg some (Option.some.inj (w2.symm.trans w))
theorem rowEnd_no {κ : Ki} {xs : List D} (h : ∀ κ', ¬ ∃ ms : List Mv, xs = ms.map Mv.d ∧ walk κ ms = some κ') : rowEnd κ xs = none := by
  unfold rowEnd
  rw [dif_neg fun ⟨κ', q⟩ => h κ' q]
def rowB (κ τ : Ki) (xs : List D) : Prop := xs.length ≤ 60 ∧ rowEnd κ xs = some τ
theorem e_lrow (k : Nat) (κ τ : Ki) (xs : List D) (S : St) (ok : κ.ok = true) (hf : κ.fit = true) (ok2 : τ.ok = true) (hf2 : τ.fit = true) (hg : ∀ v ∈ xs, Gv v) (β : Bool) (hβ : β = true ↔ rowB κ τ xs) : callN pg (k + 11) i__law_is_row [κ.d, .tup xs, τ.d] S = .ok (.bl β) S := by
  obtain ⟨o, h⟩ := row_any k S xs κ ok hf hg
  rw [call_eq (d := ⟨3, 5, b__law_is_row⟩) rfl rfl]
  by_cases hl : xs.length ≤ 60
  · have c : ¬ (60 < (xs.length : Int)) := by omega
    by_cases ho : ∃ κ', o = some (true, κ')
    · obtain ⟨κ', ho⟩ := ho
      obtain ⟨_, _, g1, g2, _, _⟩ := h.yes true κ' ho
      have e := rowEnd_eq ((h.nearC κ').mp ho)
      obtain ⟨s3', N⟩ := h.near κ' ho (.va (.tup xs)) (.va τ.d) .no .no
      have E := eqK g1 ok2 (by have := fit_b g2; omega)
      have hb : β = decide (κ' = τ) := by
        rw [Bool.eq_iff_iff, hβ, decide_eq_true_iff]
        unfold rowB
        rw [e]
        simp [hl]
      rw [hb]
      simp [b__law_is_row, tyIs, c, N, E]
    · have ho : ∀ κ', o ≠ some (true, κ') := fun κ' q => ho ⟨κ', q⟩
      have N := h.far ho (.va (.tup xs)) (.va τ.d) .no .no
      have e := rowEnd_no (κ := κ) (xs := xs) fun κ' q => ho κ' ((h.nearC κ').mpr q)
      have hb : β = false := by
        rw [Bool.eq_false_iff]
        intro q
        have := (hβ.mp q).2
        rw [e] at this
        cases this
      rw [hb]
      simp [b__law_is_row, tyIs, c, N]
  · have c : (60 < (xs.length : Int)) := by omega
    have hb : β = false := by
      rw [Bool.eq_false_iff]
      intro q
      exact hl (hβ.mp q).1
    rw [hb]
    simp [b__law_is_row, tyIs, c]
theorem e_lrow_no (k : Nat) (κ τ : Ki) (v : D) (S : St) (hv : Gv v) (h : ∀ xs, v ≠ .tup xs) : callN pg (k + 11) i__law_is_row [κ.d, v, τ.d] S = .ok (.bl false) S := by
  rw [call_eq (d := ⟨3, 5, b__law_is_row⟩) rfl rfl]
  have ho := hv.ok
  cases v with
  | tup xs => exact absurd rfl (h xs)
  | _ => first | (simp [okD] at ho; done) | simp [b__law_is_row, tyIs]
/-- a near paper, for a distance -/
def papB (κ τ : Ki) (due : Option Nat) : D → Prop
  | .tup [.str a] => a = [102, 97, 114] ∧ due = none
  | .tup [.str a, .tup xs] => a = [110, 101, 97, 114] ∧ due = some xs.length ∧ rowB κ τ xs
  | _ => False
theorem in12 (i : Int) : isinD (.int i) (.tup [.int 1, .int 2]) = some (decide (i = 1 ∨ i = 2)) := by
  have s : SeqAt.shaped (D.int i).py = true := rfl
  have c : PyData.canLayAll0 (D.pys [.int 1, .int 2]) = true := rfl
  simp only [isinD, inD]
  rw [s, c]
  simp only [Bool.and_self, if_true, List.any_cons, List.any_nil, int_eqv, Bool.or_false]
  congr 1
  rw [Bool.eq_iff_iff]; simp
  constructor <;> (intro h; rcases h with h | h <;> simp [h])
theorem oN_non (o : Option Nat) : decide (oN o = D.non) = o.isNone := by cases o <;> simp [oN]
theorem e_lpaper (k : Nat) (κ τ : Ki) (due : Option Nat) (v : D) (S : St) (ok : κ.ok = true) (hf : κ.fit = true) (ok2 : τ.ok = true) (hf2 : τ.fit = true) (hv : Gv v) (β : Bool) (hβ : β = true ↔ papB κ τ due v) : callN pg (k + 12) i__law_is_paper [κ.d, τ.d, oN due, v] S = .ok (.bl β) S := by
  rw [call_eq (d := ⟨4, 4, b__law_is_paper⟩) rfl rfl]
  have ho := hv.ok
  have no : (papB κ τ due v → False) → β = false := fun h => by
    rw [Bool.eq_false_iff]
    exact fun q => h (hβ.mp q)
  cases v with
  | tup xs =>
    have I := in12 ((xs.length : Nat) : Int)
    match xs, hv, ho, I, hβ, no with
    | [], hv, ho, I, hβ, no =>
      have hb := no (by simp [papB])
      simp at I
      simp [b__law_is_paper, tyIs, I, hb]
    | [a], hv, ho, I, hβ, no =>
      simp at I
      cases a with
      | str a =>
        have la : low a = true := by
          have q := ho
          simp only [okD, okDs, Bool.and_true] at q
          exact q
        have E := eqS la (show low [102, 97, 114] = true by decide)
        have n := oN_non due
        by_cases ha : a = [102, 97, 114]
        · rw [decide_eq_true ha] at E
          have hb : β = due.isNone := by
            rw [Bool.eq_iff_iff, hβ]
            simp [papB, ha]
          cases due with
          | none => simp [b__law_is_paper, tyIs, I, E, hb, oN]
          | some d => simp [b__law_is_paper, tyIs, I, E, hb, oN]
        · rw [decide_eq_false ha] at E
          have hb := no (by simp [papB, ha])
          simp [b__law_is_paper, tyIs, I, E, hb]
      | _ =>
        have hb := no (by simp [papB])
        first | (simp [okD, okDs] at ho; done) | simp [b__law_is_paper, tyIs, I, hb]
    | [a, w], hv, ho, I, hβ, no =>
      simp at I
      have gw := hv.mem (x := w) (by simp)
      cases a with
      | str a =>
        have la : low a = true := by
          simp only [okD, okDs, Bool.and_true, Bool.and_eq_true] at ho
          exact ho.1
        have E := eqS la (show low [110, 101, 97, 114] = true by decide)
        by_cases ha : a = [110, 101, 97, 114]
        · rw [decide_eq_true ha] at E
          cases due with
          | none =>
            have hb := no (by cases w <;> simp [papB])
            simp [b__law_is_paper, tyIs, I, E, hb, oN]
          | some d =>
            by_cases hw : ∃ ys, w = .tup ys
            · obtain ⟨ys, rfl⟩ := hw
              open Classical in
              have R := e_lrow k κ τ ys S ok hf ok2 hf2 (fun x hx => gw.mem hx) (decide (rowB κ τ ys)) decide_eq_true_iff
              have eb : β = (decide (d = ys.length) && @decide (rowB κ τ ys) (Classical.propDecidable _)) := by
                rw [Bool.eq_iff_iff, hβ, Bool.and_eq_true, decide_eq_true_iff, decide_eq_true_iff]
                simp [papB, ha]
              generalize @decide (rowB κ τ ys) (Classical.propDecidable _) = γ at R eb
              have cd : decide ((ys.length : Int) = (d : Int)) = decide (d = ys.length) := decide_eq_decide.mpr (by omega)
              rw [eb]
              cases γ with
              | false => simp [b__law_is_paper, tyIs, I, E, oN, R]
              | true =>
                generalize decide (d = ys.length) = δ at cd
                cases δ <;> simp [b__law_is_paper, tyIs, I, E, oN, R, cd]
            · have R := e_lrow_no k κ τ w S gw fun ys q => hw ⟨ys, q⟩
              have hb := no (by cases w <;> first | (simp [papB]; done) | exact absurd ⟨_, rfl⟩ hw)
              simp [b__law_is_paper, tyIs, I, E, oN, R, hb]
        · rw [decide_eq_false ha] at E
          have hb := no (by cases w <;> simp [papB, ha])
          simp [b__law_is_paper, tyIs, I, E, hb]
      | _ =>
        have hb := no (by simp [papB])
        first | (simp [okD, okDs] at ho; done) | simp [b__law_is_paper, tyIs, I, hb]
    | a :: b :: c :: r, hv, ho, I, hβ, no =>
      have hb := no (by first | (simp [papB]; done) | (cases a <;> simp [papB]))
      have I : isinD (.int ((a :: b :: c :: r).length : Nat)) (.tup [.int 1, .int 2]) = some false := by
        rw [I, decide_eq_false]
        simp only [List.length_cons]
        omega
      simp at I
      simp [b__law_is_paper, tyIs, I, hb]
  | _ =>
    have hb := no (by simp [papB])
    first | (simp [okD] at ho; done) | simp [b__law_is_paper, tyIs, hb]
end K73

set_option Elab.async false
set_option linter.all false
set_option maxRecDepth 100000
/-! k73, plainly: papers told and judged. -/
namespace K73
open Ev PySem
theorem e_within (k : Nat) (most : Nat) (st : St) (h : most ≤ 4) : callN pg (k + 3) i_want_within [.int most, .int 4] st = .ok .non st := by
  have e1 : callN pg (k + 1) i_is_integer [.int most] st = .ok (.bl true) st := by
    rw [call_eq (d := ⟨1, 1, b_is_integer⟩) rfl rfl]
    simp [b_is_integer, tyIs]
  have e2 : callN pg (k + 2) i_is_count [.int most] st = .ok (.bl true) st := by
    rw [call_eq (d := ⟨1, 1, b_is_count⟩) rfl rfl]
    simp [b_is_count, e1]
  have c : ¬ (4 < (most : Int)) := by omega
  rw [call_eq (d := ⟨2, 2, b_want_within⟩) rfl rfl]
  simp [b_want_within, e2, c]
theorem e_narrow (k : Nat) (κ : Ki) (st : St) (hd : κ.dep ≤ 6) (hw : κ.wid ≤ 4) : callN pg (k + 8) i_want_narrow [κ.d] st = .ok .non st := by
  have W := e_wid st κ (k + 7) (by omega)
  have c : ¬ (4 < (κ.wid : Int)) := by omega
  have e : ∀ a : D, callN pg (k + 7) i_want_at_most [a, .int 4, .int κ.wid] st = .ok .non st := fun a => by
    rw [call_eq (d := ⟨3, 3, b_want_at_most⟩) rfl rfl]
    simp [b_want_at_most, c]
  rw [call_eq (d := ⟨1, 1, b_want_narrow⟩) rfl rfl]
  simp [b_want_narrow, W, e]
theorem e_both (k : Nat) (κ τ : Ki) (most : Nat) (st : St) (ok : κ.ok = true) (hf : κ.fit = true) (ok2 : τ.ok = true) (hf2 : τ.fit = true) (hm : most ≤ 4) (w1 : κ.wid ≤ 4) (w2 : τ.wid ≤ 4) : callN pg (k + 11) i_want_both [κ.d, τ.d, .int most] st = .ok .non st := by
  have A := e_want k κ st ok (ki_lnS ok (by omega)) hf
  have B := e_want k τ st ok2 (ki_lnS ok2 (by omega)) hf2
  have C := e_within (k + 7) most st hm
  have E := e_narrow (k + 2) κ st (fit_b hf).2 w1
  have F := e_narrow (k + 2) τ st (fit_b hf2).2 w2
  rw [call_eq (d := ⟨3, 3, b_want_both⟩) rfl rfl]
  simp [b_want_both, A, B, C, E, F]
theorem oR_non (o : Option (List Mv)) : decide (oR o = D.non) = o.isNone := by cases o <;> simp [oR, rowD]
theorem mv_ln (m : Mv) (h : m.p.length ≤ 10) : ln m.d ≤ 1000 := by
  have hl : ∀ p : List Bool, lns (p.map bi) = 22 * p.length := fun p => by
    induction p with
    | nil => rfl
    | cons c p ih => simp only [List.map_cons, lns, ih, List.length_cons, bi, ln]; omega
  have a : m.w.c.length ≤ 8 := by cases m.w <;> decide
  have b : (dirC m.f).length ≤ 8 := by cases m.f <;> decide
  simp only [Mv.d, pd, ln, lns, hl]
  omega
theorem row_Gv {r : List Mv} (h : r.length ≤ 4) (hp : ∀ m ∈ r, m.p.length ≤ 10) : okDs (r.map Mv.d) = true ∧ plDs (r.map Mv.d) = true ∧ lns (r.map Mv.d) ≤ 1002 * r.length ∧ dps (r.map Mv.d) ≤ 2 := by
  refine ⟨okDs_iff.mpr fun x hx => ?_, plDs_iff.mpr fun x hx => ?_, ?_, dps_le fun x hx => ?_⟩
  · obtain ⟨m, hm, rfl⟩ := List.mem_map.mp hx
    exact (mv_Gv m (by have := hp m hm; omega)).ok
  · obtain ⟨m, hm, rfl⟩ := List.mem_map.mp hx
    exact (mv_Gv m (by have := hp m hm; omega)).pl
  · clear h
    induction r with
    | nil => simp [lns]
    | cons m r ih =>
      have := mv_ln m (hp m (List.mem_cons_self ..))
      have := ih fun x hx => hp x (List.mem_cons_of_mem _ hx)
      simp only [List.map_cons, lns, List.length_cons]
      omega
  · obtain ⟨m, hm, rfl⟩ := List.mem_map.mp hx
    exact m3_dp (some m.w, m.f, m.p)
/-- a told paper -/
def tellP : Option (List Mv) → D
  | none => .tup [.str [102, 97, 114]]
  | some r => .tup [.str [110, 101, 97, 114], rowD r]
theorem tellP_few (o : Option (List Mv)) (h : ∀ r, o = some r → r.length ≤ 4 ∧ ∀ m ∈ r, m.p.length ≤ 10) : okD (tellP o) = true ∧ plD (tellP o) = true ∧ ln (tellP o) ≤ 5000 ∧ dp (tellP o) ≤ 6 := by
  cases o with
  | none => exact ⟨by decide, by decide, by decide, by decide⟩
  | some r =>
    obtain ⟨h1, h2⟩ := h r rfl
    obtain ⟨g1, g2, g3, g4⟩ := row_Gv h1 h2
    have a : okD (.str [110, 101, 97, 114]) = true := by decide
    have b : plD (.str [110, 101, 97, 114]) = true := by decide
    refine ⟨?_, ?_, ?_, ?_⟩
    · simp only [tellP, rowD, okD, okDs, g1, Bool.and_true] at a ⊢; exact a
    · simp only [tellP, rowD, plD, plDs, g2, Bool.and_true] at b ⊢; exact b
    · simp only [tellP, rowD, ln, lns, List.length_cons, List.length_nil]; omega
    · simp only [tellP, rowD, dp, dps]; omega
theorem e_near_paper (k : Nat) (κ τ : Ki) (most : Nat) (st : St) (ok : κ.ok = true) (hf : κ.fit = true) (ok2 : τ.ok = true) (hf2 : τ.fit = true) (hm : most ≤ 4) (w1 : κ.wid ≤ 4) (w2 : τ.wid ≤ 4) :
    ∃ o : Option (List Mv), callN pg (k + 15) i_near_paper [κ.d, τ.d, .int most] st = .ok (tellP o) (stB rowD st κ τ most) ∧ ∀ r, o = some r → r.length ≤ 4 ∧ ∀ m ∈ r, m.p.length ≤ 10 := by
  obtain ⟨o, h1, h2, h3⟩ := e_shortest k st κ τ most ok hf ok2 hf2 hm
  have W := e_both (k + 3) κ τ most st ok hf ok2 hf2 hm w1 w2
  refine ⟨o, ?_, h3⟩
  generalize stB rowD st κ τ most = S at h1 ⊢
  rw [call_eq (d := ⟨3, 4, b_near_paper⟩) rfl rfl]
  cases o with
  | none =>
    simp only [oR] at h1
    simp [b_near_paper, W, h1, setV, tellP]
  | some r =>
    have n : ¬ (rowD r = D.non) := by simp [rowD]
    simp only [oR] at h1
    simp only [tellP]
    generalize rowD r = x at h1 n ⊢
    simp [b_near_paper, W, h1, setV, n]
theorem e_isrow (k : Nat) (κ : Ki) (xs : List D) (S : St) (o : Option (Bool × Ki)) (h : IsRw k κ xs S o) : callN pg (k + 11) i_is_row_of [κ.d, .tup xs] S = .ok (.bl (decide (xs.length ≤ 60) && o.isSome)) S := by
  rw [call_eq (d := ⟨2, 3, b_is_row_of⟩) rfl rfl]
  by_cases hl : xs.length ≤ 60
  · have c : ¬ (60 < (xs.length : Int)) := by omega
    cases ho : o with
    | none =>
      have N := h.no ho (.va (.tup xs)) .no
      simp [b_is_row_of, tyIs, c, N, hl]
    | some p =>
      obtain ⟨b, κ'⟩ := p
      obtain ⟨g, _⟩ := h.yes b κ' ho
      obtain ⟨s', N⟩ := g (.va (.tup xs)) .no
      simp [b_is_row_of, tyIs, c, N, hl]
  · have c : (60 < (xs.length : Int)) := by omega
    simp [b_is_row_of, tyIs, c, hl]
theorem e_isrow_no (k : Nat) (κ : Ki) (v : D) (S : St) (hv : okD v = true) (h : ∀ xs, v ≠ .tup xs) : callN pg (k + 11) i_is_row_of [κ.d, v] S = .ok (.bl false) S := by
  rw [call_eq (d := ⟨2, 3, b_is_row_of⟩) rfl rfl]
  cases v with
  | tup xs => exact absurd rfl (h xs)
  | _ => first | (simp [okD] at hv; done) | simp [b_is_row_of, tyIs]
theorem lc_void (k : Nat) (S : St) (u0 u1 u2 u3 u4 : Sl) (xs : List D) (hl : xs.length ≤ 60) (h : ∀ v ∈ xs, ∃ w r, v = .tup (.str w :: r) ∧ low w = true) : lcL (callN pg k) pg.gl [u0, u1, u2, u3, u4, .no] S p0_is_near_paper (.nm 5) (.cst (.bl true)) [5] (xs, []) = .ok (.lst (xs.map fun x => .bl (notV x))) S := by
  refine lcL_ok (by rw [sizeLine_eq]; omega) ?_
  refine lc_map _ rfl fun x hx => ?_
  obtain ⟨w, r, rfl, hw⟩ := h x hx
  have E := eqS hw (show low cV = true by decide)
  have e : decide (w ≠ cV) = !decide (w = cV) := by simp
  simp only [notV, e]
  generalize decide (w = cV) = β at E ⊢
  simp only [cV] at E
  simp [lcF, asgTg, wipeE, p0_is_near_paper, E]
theorem stB_ext (g : List Mv → D) (S : St) (κ τ : Ki) (most : Nat) : ∃ X, stB g S κ τ most = S ++ X := ⟨_, List.append_assoc ..⟩
theorem e_paper (k : Nat) (κ τ : Ki) (most : Nat) (v : D) (S : St) (ok : κ.ok = true) (hf : κ.fit = true) (ok2 : τ.ok = true) (hf2 : τ.fit = true) (hm : most ≤ 4) (w1 : κ.wid ≤ 4) (w2 : τ.wid ≤ 4) (hv : Gv v) (β : Bool) (hβ : β = true ↔ papB κ τ (dist κ τ most) v) :
    ∃ X, callN pg (k + 15) i_is_near_paper [κ.d, τ.d, .int most, v] S = .ok (.bl β) (S ++ X) := by
  have W := e_both (k + 3) κ τ most S ok hf ok2 hf2 hm w1 w2
  obtain ⟨o, h1, h2, h3⟩ := e_shortest k S κ τ most ok hf ok2 hf2 hm
  obtain ⟨X, hX⟩ := stB_ext rowD S κ τ most
  rw [hX] at h1
  have ho := hv.ok
  have no : (papB κ τ (dist κ τ most) v → False) → β = false := fun h => by
    rw [Bool.eq_false_iff]
    exact fun q => h (hβ.mp q)
  have early : β = false → retOf (execs (callN pg (k + 14)) pg.gl [.va κ.d, .va τ.d, .va (.int most), .va v, .no, .no] S b_is_near_paper) = .ok (.bl false) S → ∃ X, callN pg (k + 15) i_is_near_paper [κ.d, τ.d, .int most, v] S = .ok (.bl β) (S ++ X) := fun hb h => ⟨[], by
    rw [call_eq (d := ⟨4, 6, b_is_near_paper⟩) rfl rfl, hb, List.append_nil]
    exact h⟩
  cases v with
  | tup xs =>
    have I := in12 ((xs.length : Nat) : Int)
    match xs, hv, ho, I, hβ, no, early with
    | [], hv, ho, I, hβ, no, early =>
      have hb := no (by simp [papB])
      simp at I
      exact early hb (by simp [b_is_near_paper, W, tyIs, I])
    | [a], hv, ho, I, hβ, no, early =>
      simp at I
      cases a with
      | str a =>
        have la : low a = true := by
          have q := ho
          simp only [okD, okDs, Bool.and_true] at q
          exact q
        have E := eqS la (show low [102, 97, 114] = true by decide)
        refine ⟨X, ?_⟩
        rw [call_eq (d := ⟨4, 6, b_is_near_paper⟩) rfl rfl]
        by_cases ha : a = [102, 97, 114]
        · rw [decide_eq_true ha] at E
          have hb : β = o.isNone := by
            rw [Bool.eq_iff_iff, hβ, ← h2]
            cases o <;> simp [papB, ha]
          cases o with
          | none =>
            simp only [oR] at h1
            simp [b_is_near_paper, W, tyIs, I, E, hb, h1, setV]
          | some r =>
            have n : ¬ (rowD r = D.non) := by simp [rowD]
            simp only [oR] at h1
            generalize rowD r = x at h1 n
            simp [b_is_near_paper, W, tyIs, I, E, hb, h1, setV, n]
        · rw [decide_eq_false ha] at E
          have hb := no (by simp [papB, ha])
          generalize oR o = x at h1
          simp [b_is_near_paper, W, tyIs, I, E, hb, h1, setV]
      | _ =>
        have hb := no (by simp [papB])
        first | (simp [okD, okDs] at ho; done) | exact early hb (by simp [b_is_near_paper, W, tyIs, I])
    | [a, w], hv, ho, I, hβ, no, early =>
      simp at I
      have gw := hv.mem (x := w) (by simp)
      cases a with
      | str a =>
        have la : low a = true := by
          simp only [okD, okDs, Bool.and_true, Bool.and_eq_true] at ho
          exact ho.1
        have E := eqS la (show low [110, 101, 97, 114] = true by decide)
        refine ⟨X, ?_⟩
        rw [call_eq (d := ⟨4, 6, b_is_near_paper⟩) rfl rfl]
        by_cases ha : a = [110, 101, 97, 114]
        · rw [decide_eq_true ha] at E
          cases o with
          | none =>
            have hb := no (by
              rw [← h2]
              cases w <;> simp [papB])
            simp only [oR] at h1
            simp [b_is_near_paper, W, tyIs, I, E, hb, h1, setV]
          | some r =>
            have n : ¬ (rowD r = D.non) := by simp [rowD]
            have LR := len_rowD r
            have vr : ∀ st, vwS st (rowD r) = rowD r := fun st => rfl
            simp only [oR] at h1
            by_cases hw : ∃ ys, w = .tup ys
            · obtain ⟨ys, rfl⟩ := hw
              have gy : ∀ x ∈ ys, Gv x := fun x hx => gw.mem hx
              obtain ⟨q, hq⟩ := row_any (k + 3) (S ++ X) ys κ ok hf gy
              have R := e_isrow (k + 3) κ ys (S ++ X) q hq
              generalize rowD r = x at h1 n LR vr
              by_cases h60 : ys.length ≤ 60
              · cases q with
                | none =>
                  have hb := no (by
                    have e := rowEnd_no (κ := κ) (xs := ys) fun κ' q => by
                      have := (hq.nearC κ').mpr q
                      cases this
                    simp [papB, rowB, e])
                  simp at R
                  simp [b_is_near_paper, W, tyIs, I, E, hb, h1, setV, n, R]
                | some p =>
                  obtain ⟨b, κ'⟩ := p
                  obtain ⟨_, ⟨κs, hκ, zs, hz⟩, g1, g2, g3, g4⟩ := hq.yes b κ' rfl
                  have R2 : callN pg (k + 14) i_is_row_of [κ.d, .tup ys] (S ++ X) = .ok (.bl true) (S ++ X) := by
                    rw [R]; simp [h60]
                  clear R
                  by_cases hl : ys.length = r.length
                  · have cl : ((ys.length : Int) = (r.length : Int)) := by omega
                    have V := fun u0 u1 u2 u3 u4 => lc_void (k + 14) (S ++ X) u0 u1 u2 u3 u4 ys h60 g3
                    have A := all_map notV ys
                    rw [g4] at A
                    generalize (ys.map fun x => D.bl (notV x)) = bs at V A
                    cases b with
                    | false =>
                      have hb := no (by
                        have e := rowEnd_no (κ := κ) (xs := ys) fun l q => by
                          have := (hq.nearC l).mpr q
                          simp at this
                        simp [papB, rowB, e])
                      simp [b_is_near_paper, W, tyIs, I, E, hb, h1, setV, n, R2, LR, vr, cl, V, A]
                    | true =>
                      have K := e_kinds_by (k + 5) (S ++ X) hκ (by omega)
                      have L := atI_last (zs.map Ki.d) κ'.d
                      have ez : (κ :: κs).map Ki.d = zs.map Ki.d ++ [κ'.d] := by rw [hz]; simp
                      rw [ez] at K
                      have E2 := eqK g1 ok2 (by have := fit_b g2; omega)
                      have hb : β = decide (κ' = τ) := by
                        have e := rowEnd_eq ((hq.nearC κ').mp rfl)
                        rw [Bool.eq_iff_iff, hβ, decide_eq_true_iff]
                        simp only [papB, rowB, e, ← h2]
                        simp [ha, hl, h60]
                        omega
                      generalize zs.map Ki.d ++ [κ'.d] = ks at K L
                      generalize decide (κ' = τ) = γ at E2 hb
                      rw [hb]
                      simp [b_is_near_paper, W, tyIs, I, E, h1, setV, n, R2, LR, vr, cl, V, A, K, L, E2]
                  · have cl : ¬ ((ys.length : Int) = (r.length : Int)) := by omega
                    have hb := no (by
                      rw [← h2]
                      simp [papB]
                      intro _ q
                      exact absurd q.symm hl)
                    simp [b_is_near_paper, W, tyIs, I, E, hb, h1, setV, n, R2, LR, vr, cl]
              · have hb := no (by simp [papB, rowB, h60])
                have R2 : callN pg (k + 14) i_is_row_of [κ.d, .tup ys] (S ++ X) = .ok (.bl false) (S ++ X) := by
                  rw [R]; simp [h60]
                simp [b_is_near_paper, W, tyIs, I, E, hb, h1, setV, n, R2]
            · have R := e_isrow_no (k + 3) κ w (S ++ X) gw.ok fun ys q => hw ⟨ys, q⟩
              have hb := no (by cases w <;> first | (simp [papB]; done) | exact absurd ⟨_, rfl⟩ hw)
              generalize rowD r = x at h1 n LR vr
              simp [b_is_near_paper, W, tyIs, I, E, hb, h1, setV, n, R]
        · rw [decide_eq_false ha] at E
          have hb := no (by cases w <;> simp [papB, ha])
          generalize oR o = x at h1
          simp [b_is_near_paper, W, tyIs, I, E, hb, h1, setV]
      | _ =>
        have hb := no (by simp [papB])
        first | (simp [okD, okDs] at ho; done) | exact early hb (by simp [b_is_near_paper, W, tyIs, I])
    | a :: b :: c :: r, hv, ho, I, hβ, no, early =>
      have hb := no (by first | (simp [papB]; done) | (cases a <;> simp [papB]))
      have I : isinD (.int ((a :: b :: c :: r).length : Nat)) (.tup [.int 1, .int 2]) = some false := by
        rw [I, decide_eq_false]
        simp only [List.length_cons]
        omega
      simp at I
      exact early hb (by simp [b_is_near_paper, W, tyIs, I])
  | _ =>
    have hb := no (by simp [papB])
    first | (simp [okD] at ho; done) | exact early hb (by simp [b_is_near_paper, W, tyIs])
end K73

set_option Elab.async false
set_option linter.all false
set_option maxRecDepth 100000
/-! k73, plainly: drawn kinds, bent values. -/
namespace K73
open Ev PySem
theorem e_kind (n : Nat) (ns : List (List Nat)) (hn : ns ≠ []) (hl : ns.length ≤ 1000) (hok : ∀ s ∈ ns, nmOk s = true) : ∀ (m k : Nat) (st : St), Pot st n → m + 3 ≤ k → ∃ (κ : Ki) (st' : St), callN pg k i__law_kind [.ref n, .lst (ns.map .str), .int m] st = .ok κ.d st' ∧ κ.ok = true ∧ κ.dep ≤ m + 1 ∧ Dr n st st' := by
  have leaf : ∀ (m k : Nat) (st s1 : St) (d : Int), Pot s1 n → 2 ≤ k → callN pg k i__law_draw [.ref n, .int 5] st = .ok (.int d) s1 → Dr n st s1 → (m = 0 ∨ d < 2) → ∃ (κ : Ki) (st' : St), callN pg (k + 1) i__law_kind [.ref n, .lst (ns.map .str), .int m] st = .ok κ.d st' ∧ κ.ok = true ∧ κ.dep ≤ 1 ∧ Dr n st st' := by
    intro m k st s1 d p hk e dr h
    obtain ⟨k, rfl⟩ : ∃ k', k = k' + 2 := ⟨k - 2, by omega⟩
    obtain ⟨d2, s2, e2, h3, h4, dr2⟩ := e_draw (k + 1) n 6 s1 p (by omega) (by omega)
    by_cases z : d2 = 0
    · refine ⟨.noth, s2, ?_, rfl, by simp [Ki.dep], dr.trans dr2⟩
      rw [call_eq (d := ⟨3, 4, b__law_kind⟩) rfl rfl]
      subst z
      rcases h with h | h
      · subst h
        simp [b__law_kind, e, setV, e2, Ki.d]
      · simp [b__law_kind, e, setV, e2, Ki.d, h]
    · obtain ⟨x, s3, e3, hx, dr3⟩ := e_pick k n (ns.map .str) s2 (dr2.pot p) (by simpa using hn) (by simpa using hl)
      obtain ⟨s, hs, rfl⟩ := List.mem_map.mp hx
      refine ⟨.atom s, s3, ?_, hok s hs, by simp [Ki.dep], (dr.trans dr2).trans dr3⟩
      rw [call_eq (d := ⟨3, 4, b__law_kind⟩) rfl rfl]
      rcases h with h | h
      · subst h
        simp [b__law_kind, e, setV, e2, Ki.d, z, e3]
      · simp [b__law_kind, e, setV, e2, Ki.d, h, z, e3]
  intro m
  induction m with
  | zero =>
    intro k st p hk
    obtain ⟨k, rfl⟩ : ∃ k', k = k' + 3 := ⟨k - 3, by omega⟩
    obtain ⟨d, s1, e, h3, h4, dr⟩ := e_draw (k + 1) n 5 st p (by omega) (by omega)
    exact leaf 0 (k + 2) st s1 d (dr.pot p) (by omega) e dr (.inl rfl)
  | succ m ih =>
    intro k st p hk
    obtain ⟨k, rfl⟩ : ∃ k', k = k' + 3 := ⟨k - 3, by omega⟩
    obtain ⟨d, s1, e, h3, h4, dr⟩ := e_draw (k + 1) n 5 st p (by omega) (by omega)
    by_cases h : d < 2
    · obtain ⟨κ, st', g1, g2, g3, g4⟩ := leaf (m + 1) (k + 2) st s1 d (dr.pot p) (by omega) e dr (.inr h)
      exact ⟨κ, st', g1, g2, by omega, g4⟩
    · obtain ⟨a, s2, ea, a1, a2, a3⟩ := ih (k + 2) s1 (dr.pot p) (by omega)
      obtain ⟨b, s3, eb, b1, b2, b3⟩ := ih (k + 2) s2 (a3.pot (dr.pot p)) (by omega)
      have em : ((m : Int) + 1 - 1) = m := by omega
      have nz : ¬ ((m : Int) + 1 = 0) := by omega
      by_cases h4 : d < 4
      · refine ⟨.pair a b, s3, ?_, by simp [Ki.ok, a1, b1], by simp only [Ki.dep]; omega, (dr.trans a3).trans b3⟩
        rw [call_eq (d := ⟨3, 4, b__law_kind⟩) rfl rfl]
        simp [b__law_kind, e, setV, h, h4, nz, em, ea, eb, Ki.d]
      · refine ⟨.frm a b, s3, ?_, by simp [Ki.ok, a1, b1], by simp only [Ki.dep]; omega, (dr.trans a3).trans b3⟩
        rw [call_eq (d := ⟨3, 4, b__law_kind⟩) rfl rfl]
        simp [b__law_kind, e, setV, h, h4, nz, em, ea, eb, Ki.d]
theorem wid_dep : ∀ κ : Ki, κ.wid ≤ 2 ^ (κ.dep - 1)
  | .atom _ => by simp [Ki.wid, Ki.dep]
  | .noth => by simp [Ki.wid, Ki.dep]
  | .pair a b => by
    have := wid_dep a
    have := wid_dep b
    have := a.dep_pos
    have := b.dep_pos
    have h1 : 2 ^ (a.dep - 1) ≤ 2 ^ (max a.dep b.dep - 1) := Nat.pow_le_pow_right (by omega) (by omega)
    have h2 : 2 ^ (b.dep - 1) ≤ 2 ^ (max a.dep b.dep - 1) := Nat.pow_le_pow_right (by omega) (by omega)
    have h3 : 2 ^ (1 + max a.dep b.dep - 1) = 2 * 2 ^ (max a.dep b.dep - 1) := by
      rw [← Nat.pow_succ']; congr 1; omega
    simp only [Ki.wid, Ki.dep]
    omega
  | .frm a b => by
    have := wid_dep a
    have := wid_dep b
    have := a.dep_pos
    have := b.dep_pos
    have h1 : 2 ^ (a.dep - 1) ≤ 2 ^ (max a.dep b.dep - 1) := Nat.pow_le_pow_right (by omega) (by omega)
    have h2 : 2 ^ (b.dep - 1) ≤ 2 ^ (max a.dep b.dep - 1) := Nat.pow_le_pow_right (by omega) (by omega)
    have h3 : 2 ^ (1 + max a.dep b.dep - 1) = 2 * 2 ^ (max a.dep b.dep - 1) := by
      rw [← Nat.pow_succ']; congr 1; omega
    simp only [Ki.wid, Ki.dep]
    omega
theorem small_loop (k most : Nat) (hm : 1 ≤ most) (u0 u1 u2 : Sl) (st : St) : ∀ (xs : List D) (κ : Ki) (s : Sl), κ.ok = true → κ.dep ≤ 4 → κ.wid ≤ most + xs.length → ∃ (κ' : Ki) (s' : Sl), forLoop (forF (callN pg (k + 4)) pg.gl (.nm 5) p0__law_small) [] xs [u0, u1, u2, .va (.int most), .va κ.d, s] st = .nx [u0, u1, u2, .va (.int most), .va κ'.d, s'] st ∧ κ'.ok = true ∧ κ'.dep ≤ 4 ∧ κ'.wid ≤ most
  | [], κ, s, ok, hd, hw => ⟨κ, s, for_nil rfl, ok, hd, by simpa using hw⟩
  | x :: xs, κ, s, ok, hd, hw => by
    simp only [List.length_cons] at hw
    have W := e_lwid st κ (k + 4) (by omega)
    by_cases h : κ.wid ≤ most
    · obtain ⟨κ', s', e, g⟩ := small_loop k most hm u0 u1 u2 st xs κ (.va x) ok hd (by omega)
      have c : ¬ ((most : Int) < (κ.wid : Int)) := by omega
      refine ⟨κ', s', (for_nx rfl ?_).trans e, g⟩
      simp [forF, asgTg, p0__law_small, W, c]
    · have kid : ∃ σ : Ki, idxD κ.d (.int 1) = some σ.d ∧ σ.ok = true ∧ σ.dep ≤ 4 ∧ σ.wid + 1 ≤ κ.wid := by
        cases κ with
        | atom s => simp [Ki.wid] at h; omega
        | noth => simp [Ki.wid] at h; omega
        | pair a b =>
          simp only [Ki.ok, Bool.and_eq_true] at ok
          simp only [Ki.dep] at hd
          have := b.wid_pos
          exact ⟨a, by simp [Ki.d], ok.1, by omega, by simp only [Ki.wid]; omega⟩
        | frm a b =>
          simp only [Ki.ok, Bool.and_eq_true] at ok
          simp only [Ki.dep] at hd
          have := b.wid_pos
          exact ⟨a, by simp [Ki.d], ok.1, by omega, by simp only [Ki.wid]; omega⟩
      obtain ⟨σ, h1, h2, h3, h4⟩ := kid
      obtain ⟨κ', s', e, g⟩ := small_loop k most hm u0 u1 u2 st xs σ (.va x) h2 h3 (by omega)
      have c : ((most : Int) < (κ.wid : Int)) := by omega
      refine ⟨κ', s', (for_nx (env' := [u0, u1, u2, .va (.int most), .va σ.d, .va x]) (st' := st) rfl ?_).trans e, g⟩
      simp [forF, asgTg, p0__law_small, W, c, h1, setV]
theorem e_small (n : Nat) (ns : List (List Nat)) (hn : ns ≠ []) (hl : ns.length ≤ 1000) (hok : ∀ s ∈ ns, nmOk s = true) (m most k : Nat) (st : St) (p : Pot st n) (hm : m ≤ 3) (h1 : 1 ≤ most) : ∃ (κ : Ki) (st' : St), callN pg (k + 7) i__law_small [.ref n, .lst (ns.map .str), .int m, .int most] st = .ok κ.d st' ∧ κ.ok = true ∧ κ.dep ≤ 4 ∧ κ.wid ≤ most ∧ Dr n st st' := by
  obtain ⟨κ, s1, e, g1, g2, g3⟩ := e_kind n ns hn hl hok m (k + 6) st p (by omega)
  have w := wid_dep κ
  have hw : κ.wid ≤ 8 := Nat.le_trans w (Nat.pow_le_pow_right (by omega) (show κ.dep - 1 ≤ 3 by omega))
  obtain ⟨κ', s', l, h2, h3, h4⟩ := small_loop (k + 2) most h1 (.va (.ref n)) (.va (.lst (ns.map .str))) (.va (.int m)) s1 (rangeL 0 20) κ .no g1 (by omega) (by simp [rangeL]; omega)
  refine ⟨κ', s1, ?_, h2, h3, h4, g3⟩
  have r := rg1R_int (j := 20) s1 (by decide)
  have r : rg1R (.int 20) s1 = .ok (rangeL 0 20, []) s1 := r
  generalize rangeL 0 20 = js at l r
  rw [call_eq (d := ⟨4, 6, b__law_small⟩) rfl rfl]
  simp [b__law_small, e, setV, r, l]
/-- values that are bent -/
inductive Bv : D → Prop where
  | str (x : List Nat) (h : x.all plC = true) : Bv (.str x)
  | int (i : Int) (h : i.natAbs ≤ 1000000) : Bv (.int i)
  | tup (xs : List D) (h : ∀ x ∈ xs, Bv x) (l : xs.length ≤ 900) : Bv (.tup xs)
theorem Bv.ok {v : D} (h : Bv v) : okD v = true ∧ plD v = true := by
  induction h with
  | str x h => exact ⟨low_pl h, by simpa [plD] using h⟩
  | int i h => exact ⟨by simp only [okD, decide_eq_true_iff]; omega, rfl⟩
  | tup xs h l ih => exact ⟨by simp only [okD]; exact okDs_iff.mpr fun x hx => (ih x hx).1, by simp only [plD]; exact plDs_iff.mpr fun x hx => (ih x hx).2⟩
theorem cut_take {α : Type} (xs : List α) (d : Nat) : cutL xs none (some (d : Int)) = xs.take d := by
  unfold cutL
  rw [HT.sIx_none, HT.sIx_nat]
  simp only [List.drop_zero, Nat.sub_zero]
  rw [List.take_eq_take_iff]
  omega
theorem cut_drop {α : Type} (xs : List α) (d : Nat) : cutL xs (some (d : Int)) none = xs.drop d := by
  unfold cutL
  rw [HT.sIx_none, HT.sIx_nat]
  by_cases h : d ≤ xs.length
  · rw [Nat.min_eq_left h]
    exact List.take_of_length_le (by simp)
  · rw [Nat.min_eq_right (by omega), List.drop_of_length_le (by omega), List.drop_of_length_le (by omega)]
    simp
theorem slc_take (xs : List D) (d : Nat) : slcD (.tup xs) .non (.int d) = some (.tup (xs.take d)) := by simp [slcD, bndD, cut_take]
theorem slc_drop (xs : List D) (d : Nat) : slcD (.tup xs) (.int d) .non = some (.tup (xs.drop d)) := by simp [slcD, bndD, cut_drop]
theorem lns_split (xs : List D) (d : Nat) : lns (xs.take d) + lns (xs.drop d) = lns xs := by
  rw [← lns_append, List.take_append_drop]
theorem dps_split (xs : List D) (d : Nat) : dps (xs.take d) ≤ dps xs ∧ dps (xs.drop d) ≤ dps xs := by
  have := dps_append (xs.take d) (xs.drop d)
  rw [List.take_append_drop] at this
  omega
/-- what is bent is plain, twice as long at most -/
structure Bent (v r : D) : Prop where
  ok : okD r = true
  pl : plD r = true
  len : ln r ≤ 2 * ln v + 120
  dep : dp r ≤ dp v + 1
def bentI : Ev.S := match b__law_bent with
  | .cons i _ => i
  | .nil => .pss
def bentR : Ss := match b__law_bent with
  | .cons _ r => r
  | .nil => .nil
theorem bent_split : b__law_bent = .cons bentI bentR := rfl
theorem bent_tail (n k : Nat) (v : D) (st s1 : St) (hv : Bv v) (p : Pot s1 n) (dr : Dr n st s1) (hI : exec (callN pg (k + 2)) pg.gl [.va (.ref n), .va v, .no, .no] st bentI = .nx [.va (.ref n), .va v, .no, .no] s1) :
    ∃ (r : D) (st' : St), callN pg (k + 3) i__law_bent [.ref n, v] st = .ok r st' ∧ Bent v r ∧ Dr n st st' := by
  have go : ∀ r s2, execs (callN pg (k + 2)) pg.gl [.va (.ref n), .va v, .no, .no] s1 bentR = .rt r s2 → callN pg (k + 3) i__law_bent [.ref n, v] st = .ok r s2 := fun r s2 h => by
    rw [call_eq (d := ⟨2, 4, b__law_bent⟩) rfl rfl]
    rw [bent_split]
    simp only [Ev.execs_cons]
    show retOf (sqK (callN pg (k + 2)) pg.gl bentR (Ev.exec (callN pg (k + 2)) pg.gl [.va (.ref n), .va v, .no, .no] st bentI)) = _
    rw [hI, sqK_nx, h, retOf_rt]
  by_cases hi : ∃ i, v = .int i
  · obtain ⟨i, rfl⟩ := hi
    have hs : i.natAbs ≤ 1000000 := by cases hv; assumption
    obtain ⟨x, s2, e, hx, dr2⟩ := e_pick k n [.int (i + 1), .int (i - 1), .bl true, .non, .str [48], .int 0] s1 p (by simp) (by simp)
    refine ⟨x, s2, go x s2 ?_, ?_, dr.trans dr2⟩
    · simp [bentR, b__law_bent, tyIs, e]
    · simp only [List.mem_cons, List.not_mem_nil, or_false] at hx
      rcases hx with rfl | rfl | rfl | rfl | rfl | rfl
      · exact ⟨by simp only [okD, decide_eq_true_iff]; omega, rfl, by simp [ln], by simp [dp]⟩
      · exact ⟨by simp only [okD, decide_eq_true_iff]; omega, rfl, by simp [ln], by simp [dp]⟩
      · exact ⟨rfl, rfl, by simp [ln], by simp [dp]⟩
      · exact ⟨rfl, rfl, by simp [ln], by simp [dp]⟩
      · exact ⟨by decide, by decide, by simp [ln], by simp [dp]⟩
      · exact ⟨by decide, rfl, by simp [ln], by simp [dp]⟩
  · have last : ∃ y, (∀ x s2, callN pg (k + 2) i__law_pick [.ref n, .lst [.non, .tup [], .int 0, .str [97, 116, 111, 109], .str [112, 97, 105, 114], .str [116, 97, 107, 101], .str [103, 105, 118, 101, 110], y]] s1 = .ok x s2 → execs (callN pg (k + 2)) pg.gl [.va (.ref n), .va v, .no, .no] s1 bentR = .rt x s2) ∧ (y = .str [120] ∨ ∃ xs, v = .tup xs ∧ y = .lst xs) := by
      cases hv with
      | int i h => exact absurd ⟨i, rfl⟩ hi
      | str x h => exact ⟨.str [120], fun x s2 e => by simp [bentR, b__law_bent, tyIs, e], .inl rfl⟩
      | tup xs h l => exact ⟨.lst xs, fun x s2 e => by simp [bentR, b__law_bent, tyIs, e], .inr ⟨xs, rfl, rfl⟩⟩
    obtain ⟨y, h1, h2⟩ := last
    obtain ⟨x, s2, e, hx, dr2⟩ := e_pick k n [.non, .tup [], .int 0, .str [97, 116, 111, 109], .str [112, 97, 105, 114], .str [116, 97, 107, 101], .str [103, 105, 118, 101, 110], y] s1 p (by simp) (by simp)
    refine ⟨x, s2, go x s2 (h1 x s2 e), ?_, dr.trans dr2⟩
    simp only [List.mem_cons, List.not_mem_nil, or_false] at hx
    rcases hx with rfl | rfl | rfl | rfl | rfl | rfl | rfl | rfl
    · exact ⟨rfl, rfl, by simp [ln], by simp [dp]⟩
    · exact ⟨rfl, rfl, by simp [ln, lns], by simp [dp, dps]⟩
    · exact ⟨by decide, rfl, by simp [ln], by simp [dp]⟩
    · exact ⟨by decide, by decide, by simp [ln], by simp [dp]⟩
    · exact ⟨by decide, by decide, by simp [ln], by simp [dp]⟩
    · exact ⟨by decide, by decide, by simp [ln], by simp [dp]⟩
    · exact ⟨by decide, by decide, by simp [ln], by simp [dp]⟩
    · rcases h2 with rfl | ⟨xs, rfl, rfl⟩
      · exact ⟨by decide, by decide, by simp [ln], by simp [dp]⟩
      · have := hv.ok
        exact ⟨this.1, this.2, by simp only [ln]; omega, by simp only [dp]; omega⟩
theorem lns_take_succ {xs : List D} {a : Nat} {x : D} (h : xs[a]? = some x) : lns (xs.take (a + 1)) = lns (xs.take a) + (ln x + 2) := by
  rw [List.take_add_one, h, lns_append]
  simp [lns]
theorem ok_take {xs : List D} (d : Nat) (h : okDs xs = true) : okDs (xs.take d) = true := okDs_iff.mpr fun x hx => okDs_iff.mp h x (List.mem_of_mem_take hx)
theorem ok_drop {xs : List D} (d : Nat) (h : okDs xs = true) : okDs (xs.drop d) = true := okDs_iff.mpr fun x hx => okDs_iff.mp h x (List.mem_of_mem_drop hx)
theorem pl_take {xs : List D} (d : Nat) (h : plDs xs = true) : plDs (xs.take d) = true := plDs_iff.mpr fun x hx => plDs_iff.mp h x (List.mem_of_mem_take hx)
theorem pl_drop {xs : List D} (d : Nat) (h : plDs xs = true) : plDs (xs.drop d) = true := plDs_iff.mpr fun x hx => plDs_iff.mp h x (List.mem_of_mem_drop hx)
theorem plDs_append {xs ys : List D} : plDs (xs ++ ys) = (plDs xs && plDs ys) := by
  induction xs with
  | nil => simp [plDs]
  | cons x xs ih => simp [plDs, ih, Bool.and_assoc]
theorem e_bent (n : Nat) : ∀ (m k : Nat) (v : D) (st : St), dp v ≤ m → Bv v → Pot st n → m + 3 ≤ k → ∃ (r : D) (st' : St), callN pg k i__law_bent [.ref n, v] st = .ok r st' ∧ Bent v r ∧ Dr n st st' := by
  intro m
  induction m with
  | zero =>
    intro k v st hd hv p hk
    obtain ⟨k, rfl⟩ : ∃ k', k = k' + 3 := ⟨k - 3, by omega⟩
    refine bent_tail n k v st st hv p (.refl p) ?_
    cases hv with
    | str x h => simp [bentI, b__law_bent, tyIs]
    | int i h => simp [bentI, b__law_bent, tyIs]
    | tup xs h l => simp [dp] at hd
  | succ m ih =>
    intro k v st hd hv p hk
    obtain ⟨k, rfl⟩ : ∃ k', k = k' + 3 := ⟨k - 3, by omega⟩
    by_cases ht : ∃ x xs, v = .tup (x :: xs)
    · obtain ⟨x0, xs0, rfl⟩ := ht
      generalize hxs : x0 :: xs0 = xs at hd hv
      have hne : 0 < xs.length := by rw [← hxs]; simp
      have hmem : (∀ x ∈ xs, Bv x) ∧ xs.length ≤ 900 := by cases hv with | tup _ h l => exact ⟨h, l⟩
      obtain ⟨d, s1, e, h3, h4, dr⟩ := e_draw (k + 1) n 6 st p (by omega) (by omega)
      by_cases hz : 0 < d
      · obtain ⟨a', s2, e2, h5, h6, dr2⟩ := e_draw (k + 1) n xs.length s1 (dr.pot p) (by omega) (by omega)
        obtain ⟨b, s3, e3, h7, h8, dr3⟩ := e_draw (k + 1) n 8 s2 (dr2.pot (dr.pot p)) (by omega) (by omega)
        obtain ⟨a, rfl⟩ : ∃ a : Nat, a' = a := ⟨a'.toNat, by omega⟩
        have ha : a < xs.length := by omega
        have dd := (dr.trans dr2).trans dr3
        have gok := hv.ok
        have gok1 : okDs xs = true := by simpa only [okD] using gok.1
        have gpl1 : plDs xs = true := by simpa only [plD] using gok.2
        have T := slc_take xs a
        have T1 := slc_take xs (a + 1)
        have D0 := slc_drop xs a
        have D1 := slc_drop xs (a + 1)
        have ci : ((a + 1 : Nat) : Int) = (a : Int) + 1 := by omega
        rw [ci] at T1 D1
        have c0 : (0 : Int) < (xs.length : Int) := by omega
        have s0 := lns_split xs a
        have s00 := lns_split xs (a + 1)
        obtain ⟨x, hx⟩ : ∃ x, xs[a]? = some x := ⟨_, List.getElem?_eq_getElem ha⟩
        have hxm : x ∈ xs := List.mem_of_getElem? hx
        have sa := lns_take_succ hx
        have p1 := dps_split xs a
        have p2 := dps_split xs (a + 1)
        by_cases b0 : b = 0
        · have B := binD_tup (xs := xs.take a) (ys := xs.drop (a + 1)) (by rw [sizeLine_eq]; simp; omega)
          refine ⟨.tup (xs.take a ++ xs.drop (a + 1)), s3, ?_, ⟨?_, ?_, ?_, ?_⟩, dd⟩
          · rw [call_eq (d := ⟨2, 4, b__law_bent⟩) rfl rfl]
            subst b0
            simp [b__law_bent, tyIs, c0, hne, e, hz, e2, e3, parO, setV, T, D1, B]
          · simp only [okD]; rw [okDs_append, ok_take a gok1, ok_drop _ gok1]; rfl
          · simp only [plD]; rw [plDs_append, pl_take a gpl1, pl_drop _ gpl1]; rfl
          · simp only [ln, lns_append]; omega
          · simp only [dp, dps_append]; omega
        · by_cases b1 : b = 1
          · have B := binD_tup (xs := xs.take (a + 1)) (ys := xs.drop a) (by rw [sizeLine_eq]; simp; omega)
            refine ⟨.tup (xs.take (a + 1) ++ xs.drop a), s3, ?_, ⟨?_, ?_, ?_, ?_⟩, dd⟩
            · rw [call_eq (d := ⟨2, 4, b__law_bent⟩) rfl rfl]
              subst b1
              simp [b__law_bent, tyIs, c0, hne, e, hz, e2, e3, parO, setV, T1, D0, B]
            · simp only [okD]; rw [okDs_append, ok_take _ gok1, ok_drop _ gok1]; rfl
            · simp only [plD]; rw [plDs_append, pl_take _ gpl1, pl_drop _ gpl1]; rfl
            · simp only [ln, lns_append]; omega
            · simp only [dp, dps_append]; omega
          · have hdx : dp x ≤ m := by
              have := dp_mem hxm
              simp only [dp] at hd
              omega
            obtain ⟨r, s4, e4, g, dr4⟩ := ih (k + 2) x s3 hdx (hmem.1 x hxm) (dr3.pot (dr2.pot (dr.pot p))) (by omega)
            have B1 := binD_tup (xs := xs.take a) (ys := [r]) (by rw [sizeLine_eq]; simp; omega)
            have B2 := binD_tup (xs := xs.take a ++ [r]) (ys := xs.drop (a + 1)) (by rw [sizeLine_eq]; simp; omega)
            have X : L2.atI xs (a : Int) = some x := by rw [atI_nat, hx]
            have lx := ln_mem hxm
            have dx := dp_mem hxm
            refine ⟨.tup (xs.take a ++ [r] ++ xs.drop (a + 1)), s4, ?_, ⟨?_, ?_, ?_, ?_⟩, dd.trans dr4⟩
            · rw [call_eq (d := ⟨2, 4, b__law_bent⟩) rfl rfl]
              generalize xs.take a ++ [r] ++ xs.drop (a + 1) = us at B2 ⊢
              generalize xs.take a ++ [r] = ws at B1 B2
              simp [b__law_bent, tyIs, c0, hne, e, hz, e2, e3, parO, setV, T, D1, b0, b1, X, e4, B1, B2]
            · simp only [okD]; rw [okDs_append, okDs_append, ok_take a gok1, ok_drop _ gok1]; simp [okDs, g.ok]
            · simp only [plD]; rw [plDs_append, plDs_append, pl_take a gpl1, pl_drop _ gpl1]; simp [plDs, g.pl]
            · have := g.len
              simp only [ln, lns_append, lns]
              omega
            · have := g.dep
              simp only [dp, dps_append, dps]
              omega
      · refine bent_tail n k (.tup xs) st s1 hv (dr.pot p) dr ?_
        have c0 : (0 : Int) < (xs.length : Int) := by omega
        simp [bentI, b__law_bent, tyIs, c0, hne, e, hz]
    · refine bent_tail n k v st st hv p (.refl p) ?_
      cases hv with
      | str x h => simp [bentI, b__law_bent, tyIs]
      | int i h => simp [bentI, b__law_bent, tyIs]
      | tup xs h l =>
        cases xs with
        | nil => simp [bentI, b__law_bent, tyIs]
        | cons x xs => exact absurd ⟨x, xs, rfl⟩ ht
end K73

set_option Elab.async false
set_option linter.all false
set_option maxRecDepth 100000
/-! k73, plainly: the law. -/
namespace K73
open Ev PySem
theorem Pot.app {st : St} {n : Nat} (p : Pot st n) (X : St) : Pot (st ++ X) n := by
  obtain ⟨a, b, q, h⟩ := p
  refine ⟨a, b, ?_, h⟩
  rw [List.getElem?_append_left (List.getElem?_eq_some_iff.mp q).1, q]
/-- plain values, short and flat -/
structure Sv (v : D) : Prop where
  b : Bv v
  len : ln v ≤ 6000
  dep : dp v ≤ 6
theorem Sv.g {v : D} (h : Sv v) : Gv v := ⟨h.b.ok.1, h.b.ok.2, by have := h.len; omega, by have := h.dep; omega⟩
theorem Bent.g {v r : D} (hv : Sv v) (h : Bent v r) : Gv r := ⟨h.ok, h.pl, by have := h.len; have := hv.len; omega, by have := h.dep; have := hv.dep; omega⟩
theorem bits_Bv (p : List Bool) : ∀ x ∈ p.map bi, Bv x := fun x hx => by
  obtain ⟨b, _, rfl⟩ := List.mem_map.mp hx
  cases b
  · exact .int _ (by simp)
  · exact .int _ (by simp)
theorem wcO_pl (o : Option Wo) : (wcO o).all plC = true := by
  cases o with
  | none => decide
  | some w => exact plC_wc w
theorem m3_B (m : M3) (h : m.2.2.length ≤ 10) : Bv m.d ∧ ln m.d ≤ 1000 ∧ dp m.d ≤ 2 := by
  obtain ⟨o, f, p⟩ := m
  have hl : ∀ p : List Bool, lns (p.map bi) = 22 * p.length := fun p => by
    induction p with
    | nil => rfl
    | cons c p ih => simp only [List.map_cons, lns, ih, List.length_cons, bi, ln]; omega
  have a : (wcO o).length ≤ 8 := by
    cases o with
    | none => decide
    | some w => cases w <;> decide
  have b : (dirC f).length ≤ 8 := by cases f <;> decide
  simp only at h
  refine ⟨?_, ?_, m3_dp (o, f, p)⟩
  · refine .tup _ (fun x hx => ?_) (by simp)
    simp only [List.mem_cons, List.not_mem_nil, or_false] at hx
    rcases hx with rfl | rfl | rfl
    · exact .str _ (wcO_pl o)
    · exact .str _ (plC_dir f)
    · exact .tup _ (bits_Bv p) (by simp; omega)
  · simp only [M3.d, mD, pd, ln, lns, hl]
    omega
theorem mv_B (m : Mv) (h : m.p.length ≤ 10) : Bv m.d ∧ ln m.d ≤ 1000 ∧ dp m.d ≤ 2 := m3_B (some m.w, m.f, m.p) h
/-- near, and a tuple of moves -/
theorem near_Sv (xs : List D) (h : ∀ x ∈ xs, Bv x ∧ ln x ≤ 1000 ∧ dp x ≤ 2) (l : xs.length ≤ 4) : Sv (.tup [.str [110, 101, 97, 114], .tup xs]) := by
  have l1 : lns xs ≤ 1002 * xs.length := by
    clear l
    induction xs with
    | nil => simp [lns]
    | cons x xs ih =>
      have := (h x (List.mem_cons_self ..)).2.1
      have := ih fun y hy => h y (List.mem_cons_of_mem _ hy)
      simp only [lns, List.length_cons]
      omega
  have d1 : dps xs ≤ 2 := dps_le fun x hx => (h x hx).2.2
  refine ⟨.tup _ (fun x hx => ?_) (by simp), ?_, ?_⟩
  · simp only [List.mem_cons, List.not_mem_nil, or_false] at hx
    rcases hx with rfl | rfl
    · exact .str _ (by decide)
    · exact .tup _ (fun y hy => (h y hy).1) (by omega)
  · simp only [ln, lns, List.length_cons, List.length_nil]; omega
  · simp only [dp, dps]; omega
theorem tell_Sv (o : Option (List Mv)) (h : ∀ r, o = some r → r.length ≤ 4 ∧ ∀ m ∈ r, m.p.length ≤ 10) : Sv (tellP o) := by
  cases o with
  | none => exact ⟨.tup _ (fun x hx => by simp only [List.mem_singleton] at hx; subst hx; exact .str _ (by decide)) (by simp), by decide, by decide⟩
  | some r =>
    obtain ⟨h1, h2⟩ := h r rfl
    refine near_Sv (r.map Mv.d) (fun x hx => ?_) (by simpa using h1)
    obtain ⟨m, hm, rfl⟩ := List.mem_map.mp hx
    exact mv_B m (h2 m hm)
theorem near_path {κ : Ki} (hf : κ.fit = true) {m : Mv} {l : Ki} (h : (mvd κ m).filter Ki.fit = some l) : m.p.length ≤ 10 := by
  obtain ⟨τ, hτ⟩ := mvd_at h
  have := path_dep κ m.p (mem_at m.p κ (by rw [hτ]; rfl))
  have := fit_b hf
  omega
theorem moves_B {κ : Ki} (hf : κ.fit = true) {x : D} (h : x ∈ movesD κ) : Bv x ∧ ln x ≤ 1000 ∧ dp x ≤ 2 := by
  unfold movesD at h
  rw [List.mem_mergeSort] at h
  obtain ⟨m, hm, rfl⟩ := List.mem_map.mp h
  have hm := (List.mem_filter.mp hm).1
  obtain ⟨o, f, p⟩ := m
  simp only [progT, gT, List.mem_flatMap] at hm
  obtain ⟨o', _, f', _, hm⟩ := hm
  split at hm
  · cases hm
  · obtain ⟨q, hq, e⟩ := List.mem_map.mp hm
    cases e
    have := path_dep κ _ hq
    have := fit_b hf
    exact m3_B _ (by simp only; omega)
theorem near_ne {κ : Ki} (hd : κ.dep ≤ 5) (hw : κ.wid ≤ 11) : nearD κ ≠ [] := by
  have : (⟨.drop, false, []⟩ : Mv).d ∈ nearD κ := nearD_mem.mpr ⟨_, rfl, .pair .noth κ, by
    have a : κ.at [] = some κ := by cases κ <;> rfl
    have b : κ.put [] (.pair .noth κ) = .pair .noth κ := by cases κ <;> rfl
    have f : (Ki.pair .noth κ).fit = true := by
      have h1 : (Ki.pair .noth κ).wid = 1 + κ.wid := rfl
      have h2 : (Ki.pair .noth κ).dep = 1 + max 1 κ.dep := rfl
      simp only [Ki.fit, h1, h2, Bool.and_eq_true, decide_eq_true_iff]
      omega
    unfold mvd
    simp only [a, Option.bind_some, led, Bool.false_eq_true, if_false, ba, Option.map_some, b]
    simp [Option.filter, f]⟩
  intro e
  rw [e] at this
  cases this
theorem eq_self {v : D} (h : okD v = true) : eqD (.str (shw v)) (.str (shw v)) = some true := by
  rw [eqD_strs (lay_shw h) (lay_shw h)]
  simp
theorem permR_3210 (cf : Cf) (st : St) (f : Nat) (a b c d : D) : permR cf st f [3, 2, 1, 0] [a, b, c, d] = cf f [d, c, b, a] st := Eq.trans rfl rfl
theorem two_repr (β : Bool) : reprD (.lst [.bl β, .bl β]) = some (.str (shw (.lst [.bl β, .bl β]))) := reprD_ok (by cases β <;> decide) (by cases β <;> decide) (by cases β <;> decide)
/-- a value's turn -/
theorem val_turn (k : Nat) (κ τ : Ki) (most : Nat) (v : D) (a b c e f g h : D) (s11 s12 s13 s14 s15 : Sl) (S : St) (ok : κ.ok = true) (hf : κ.fit = true) (ok2 : τ.ok = true) (hf2 : τ.fit = true) (hm : most ≤ 4) (w1 : κ.wid ≤ 4) (w2 : τ.wid ≤ 4) (hv : Gv v) :
    ∃ s12' s13' s14' X, forF (callN pg (k + 15)) pg.gl (.nm 11) p1_law v [.va a, .va b, .va κ.d, .va c, .va e, .va f, .va τ.d, .va (.int most), .va (oN (dist κ τ most)), .va g, .va h, s11, s12, s13, s14, s15] S =
      .nx [.va a, .va b, .va κ.d, .va c, .va e, .va f, .va τ.d, .va (.int most), .va (oN (dist κ τ most)), .va g, .va h, .va v, s12', s13', s14', s15] (S ++ X) := by
  obtain ⟨β, hβ⟩ : ∃ β : Bool, β = true ↔ papB κ τ (dist κ τ most) v := ⟨@decide (papB κ τ (dist κ τ most) v) (Classical.propDecidable _), by simp⟩
  have L := e_lpaper (k + 3) κ τ (dist κ τ most) v S ok hf ok2 hf2 hv β hβ
  obtain ⟨X, P1⟩ := e_paper k κ τ most v S ok hf ok2 hf2 hm w1 w2 hv β hβ
  obtain ⟨Y, P2⟩ := e_paper k κ τ most v (S ++ X) ok hf ok2 hf2 hm w1 w2 hv β hβ
  have T := two_repr β
  have E1 := eq_self (v := .lst [.bl β, .bl β]) (by cases β <;> rfl)
  have E2 := eq_self hv.ok
  have R := hv.repr
  have vv : ∀ st, vwS st v = v := fun st => vwS_ok hv.ok
  refine ⟨.va (.lst [.bl β, .bl β]), .va (.bl β), .va (.str (shw v)), X ++ Y, ?_⟩
  rw [← List.append_assoc]
  generalize oN (dist κ τ most) = due at L ⊢
  generalize shw (.lst [.bl β, .bl β]) = x1 at T E1
  generalize shw v = x2 at R E2 ⊢
  generalize S ++ X = S1 at P1 P2 ⊢
  generalize S1 ++ Y = S2 at P2 ⊢
  simp [forF, asgTg, p1_law, L, P1, P2, T, E1, E2, R, vv, parO, setV, permR_3210]
theorem val_loop (k : Nat) (κ τ : Ki) (most : Nat) (a b c e f g h : D) (s15 : Sl) (ok : κ.ok = true) (hf : κ.fit = true) (ok2 : τ.ok = true) (hf2 : τ.fit = true) (hm : most ≤ 4) (w1 : κ.wid ≤ 4) (w2 : τ.wid ≤ 4) : ∀ (vs : List D) (s11 s12 s13 s14 : Sl) (S : St), (∀ v ∈ vs, Gv v) →
    ∃ s11' s12' s13' s14' S', forLoop (forF (callN pg (k + 15)) pg.gl (.nm 11) p1_law) [] vs [.va a, .va b, .va κ.d, .va c, .va e, .va f, .va τ.d, .va (.int most), .va (oN (dist κ τ most)), .va g, .va h, s11, s12, s13, s14, s15] S =
      .nx [.va a, .va b, .va κ.d, .va c, .va e, .va f, .va τ.d, .va (.int most), .va (oN (dist κ τ most)), .va g, .va h, s11', s12', s13', s14', s15] S'
  | [], s11, s12, s13, s14, S, _ => ⟨s11, s12, s13, s14, S, for_nil rfl⟩
  | v :: vs, s11, s12, s13, s14, S, hg => by
    obtain ⟨t12, t13, t14, X, e1⟩ := val_turn k κ τ most v a b c e f g h s11 s12 s13 s14 s15 S ok hf ok2 hf2 hm w1 w2 (hg v (List.mem_cons_self ..))
    obtain ⟨s11', s12', s13', s14', S', e2⟩ := val_loop k κ τ most a b c e f g h s15 ok hf ok2 hf2 hm w1 w2 vs (.va v) t12 t13 t14 (S ++ X) fun x hx => hg x (List.mem_cons_of_mem _ hx)
    exact ⟨s11', s12', s13', s14', S', (for_nx rfl e1).trans e2⟩
theorem bent_loop (k : Nat) (n : Nat) (ps : List D) (hp : ps ≠ []) (hl : ps.length ≤ 1000) (hs : ∀ p ∈ ps, Sv p) (e0 e2 e3 e4 e5 e6 e7 e8 s10 s11 s12 s13 s14 s15 : Sl) : ∀ (js : List D) (st : St), Pot st n → ∃ ys st', lcLoop (lcF (callN pg (k + 9)) pg.gl [e0, .va (.ref n), e2, e3, e4, e5, e6, e7, e8, .va (.lst ps), s10, s11, s12, s13, s14, s15] p0_law (.nm 15) (.cst (.bl true)) [15]) [] [e0, .va (.ref n), e2, e3, e4, e5, e6, e7, e8, .va (.lst ps), s10, s11, s12, s13, s14, s15] js st = .ok ys st' ∧ (∀ y ∈ ys, Gv y) ∧ ys.length = js.length
  | [], st, _ => ⟨[], st, lc_nil rfl, fun y hy => (by cases hy), rfl⟩
  | j :: js, st, p => by
    obtain ⟨x, s1, e1, hx, dr1⟩ := e_pick (k + 7) n ps st p hp hl
    have sx := hs x hx
    obtain ⟨r, s2, e2', g, dr2⟩ := e_bent n 6 (k + 9) x s1 sx.dep sx.b (dr1.pot p) (by omega)
    obtain ⟨ys, st', ih, g2, g3⟩ := bent_loop k n ps hp hl hs e0 e2 e3 e4 e5 e6 e7 e8 s10 s11 s12 s13 s14 s15 js s2 (dr2.pot (dr1.pot p))
    refine ⟨r :: ys, st', lc_some rfl ?_ ih, fun y hy => ?_, by simp [g3]⟩
    · simp [lcF, asgTg, wipeE, p0_law, e1, e2']
    · rcases List.mem_cons.mp hy with rfl | hy
      · exact g.g sx
      · exact g2 y hy
theorem law_ok (ns : List Int) : ∃ st, callN pg lv i_law [.scr ns] [] = .ok (.bl true) st := by
  obtain ⟨x, y, e1, hx, hy, hy2⟩ := e_pot 58 ns []
  have p1 : Pot [C.lst [.int x, .int y]] 0 := ⟨x, y, rfl, hx, hy, hy2⟩
  simp only [List.length_nil, List.nil_append] at e1
  obtain ⟨κ, s2, e2, ok, hd, hw, dr2⟩ := e_small 0 [[112], [113, 113]] (by simp) (by simp) (by decide) 3 3 52 _ p1 (by omega) (by omega)
  have p2 := dr2.pot p1
  have hf : κ.fit = true := by simp only [Ki.fit, Bool.and_eq_true, decide_eq_true_iff]; omega
  have e3 := e_lnear 49 κ s2 ok hf
  obtain ⟨mv, s3, e4, hmv, dr3⟩ := e_pick 57 0 (nearD κ) s2 p2 (near_ne (by omega) (by omega)) (by rw [nearM_d, List.length_map]; have := nearM_few hf; omega)
  have p3 := dr3.pot p2
  obtain ⟨m, rfl, l, hl⟩ := nearD_mem.mp hmv
  obtain ⟨τ0, hτ0⟩ := mvd_at hl
  have e5 := e_lmvd 50 κ τ0 m s3 ok (by omega) hτ0
  rw [hl] at e5
  simp only [oD] at e5
  obtain ⟨okl, hfl⟩ := filt_ok ok hl
  obtain ⟨b1, b2, _⟩ := mvd_b (filt_mvd hl)
  have e6 := e_lnear 49 l s3 okl hfl
  obtain ⟨mw, s4, e7, hmw, dr4⟩ := e_pick 57 0 (nearD l) s3 p3 (near_ne (by omega) (by omega)) (by rw [nearM_d, List.length_map]; have := nearM_few hfl; omega)
  have p4 := dr4.pot p3
  obtain ⟨m2, rfl, l2, hl2⟩ := nearD_mem.mp hmw
  obtain ⟨τ1, hτ1⟩ := mvd_at hl2
  have e8 := e_lmvd 50 l τ1 m2 s4 okl (by have := fit_b hfl; omega) hτ1
  rw [hl2] at e8
  simp only [oD] at e8
  obtain ⟨okl2, hfl2⟩ := filt_ok okl hl2
  obtain ⟨κ3, s5, e9, ok3, hd3, hw3, dr5⟩ := e_small 0 [[112]] (by simp) (by simp) (by decide) 2 2 52 s4 p4 (by omega) (by omega)
  have p5 := dr5.pot p4
  have hf3 : κ3.fit = true := by simp only [Ki.fit, Bool.and_eq_true, decide_eq_true_iff]; omega
  obtain ⟨ot, s6, e10, hot, dr6⟩ := e_pick 57 0 [l.d, l2.d, κ3.d] s5 p5 (by simp) (by simp)
  have p6 := dr6.pot p5
  obtain ⟨o1, ho1, oko1, hfo1⟩ : ∃ o1 : Ki, ot = o1.d ∧ o1.ok = true ∧ o1.fit = true := by
    simp only [List.mem_cons, List.not_mem_nil, or_false] at hot
    rcases hot with rfl | rfl | rfl
    · exact ⟨l, rfl, okl, hfl⟩
    · exact ⟨l2, rfl, okl2, hfl2⟩
    · exact ⟨κ3, rfl, ok3, hf3⟩
  subst ho1
  have e11 := e_lwid s6 o1 59 (by have := fit_b hfo1; omega)
  obtain ⟨τ, hτ, okτ, hfτ, wτ⟩ : ∃ τ : Ki, (if o1.wid ≤ 4 then o1.d else κ.d) = τ.d ∧ τ.ok = true ∧ τ.fit = true ∧ τ.wid ≤ 4 := by
    by_cases h : o1.wid ≤ 4
    · exact ⟨o1, by rw [if_pos h], oko1, hfo1, h⟩
    · exact ⟨κ, by rw [if_neg h], ok, hf, by omega⟩
  obtain ⟨most', s7, e12, h0, h3, dr7⟩ := e_draw 58 0 3 s6 p6 (by omega) (by omega)
  have p7 := dr7.pot p6
  obtain ⟨most, rfl⟩ : ∃ most : Nat, most' = most := ⟨most'.toNat, by omega⟩
  have e13 := e_ldist 47 s7 κ τ most ok hf okτ hfτ (by omega)
  obtain ⟨X1, hX1⟩ := stB_ext lenI s7 κ τ most
  rw [hX1] at e13
  have p8 := p7.app X1
  obtain ⟨o, e14, ho⟩ := e_near_paper 44 κ τ most (s7 ++ X1) ok hf okτ hfτ (by omega) (by omega) wτ
  obtain ⟨X2, hX2⟩ := stB_ext rowD (s7 ++ X1) κ τ most
  rw [hX2] at e14
  have p9 := p8.app X2
  generalize s7 ++ X1 = s8 at *
  generalize s8 ++ X2 = s9 at *
  have e15 := e_moves 47 κ s9 ok hf
  have bm := mv_B m (near_path hf hl)
  have bm2 := mv_B m2 (near_path hfl hl2)
  have S1 := tell_Sv o ho
  have S2 := near_Sv [m.d] (fun x hx => by simp only [List.mem_singleton] at hx; subst hx; exact bm) (by simp)
  have S3 := near_Sv [m.d, m2.d] (fun x hx => by
    simp only [List.mem_cons, List.not_mem_nil, or_false] at hx
    rcases hx with rfl | rfl
    · exact bm
    · exact bm2) (by simp)
  have S4 := near_Sv [] (fun x hx => by cases hx) (by simp)
  have S5 : Sv (.tup [.str [102, 97, 114]]) := tell_Sv none (fun r h => by cases h)
  have Sps : ∀ p ∈ [tellP o, .tup [.str [110, 101, 97, 114], .tup [m.d]], .tup [.str [110, 101, 97, 114], .tup [m.d, m2.d]], .tup [.str [110, 101, 97, 114], .tup []], .tup [.str [102, 97, 114]]], Sv p := fun p hp => by
    simp only [List.mem_cons, List.not_mem_nil, or_false] at hp
    rcases hp with rfl | rfl | rfl | rfl | rfl
    · exact S1
    · exact S2
    · exact S3
    · exact S4
    · exact S5
  have G1 := near_Sv [m.d, m.d, m.d] (fun x hx => by
    simp only [List.mem_cons, List.not_mem_nil, or_false] at hx
    rcases hx with rfl | rfl | rfl <;> exact bm) (by simp)
  have G2 := near_Sv ((movesD κ).take 2) (fun x hx => moves_B hf (List.mem_of_mem_take hx)) (by simp; omega)
  have G3 : Gv (.tup [.str [110, 101, 97, 114], .lst [m.d]]) := by
    have a := S2.g
    refine ⟨?_, ?_, ?_, ?_⟩
    · simpa [okD, okDs] using a.ok
    · simpa [plD, plDs] using a.pl
    · simpa [ln, lns] using a.len
    · simpa [dp, dps] using a.dep
  have G4 : Gv (.lst [.str [102, 97, 114]]) := ⟨by decide, by decide, by decide, by decide⟩
  have G5 : Gv (.tup [.str [110, 101, 97, 114]]) := ⟨by decide, by decide, by decide, by decide⟩
  have G6 : Gv (.tup [.str [110, 101, 97, 114], .non]) := ⟨by decide, by decide, by decide, by decide⟩
  have G7 : Gv (.tup [.str [102, 97, 114], .tup []]) := ⟨by decide, by decide, by decide, by decide⟩
  have hvals : ∀ v ∈ [tellP o, .tup [.str [110, 101, 97, 114], .tup [m.d]], .tup [.str [110, 101, 97, 114], .tup [m.d, m2.d]], .tup [.str [110, 101, 97, 114], .tup []], .tup [.str [102, 97, 114]], .non, .int 0, .tup [], .str [102, 97, 114], .lst [.str [102, 97, 114]], .tup [.str [110, 101, 97, 114]], .tup [.str [110, 101, 97, 114], .non], .tup [.str [110, 101, 97, 114], .lst [m.d]], .tup [.str [102, 97, 114], .tup []], .tup [.str [110, 101, 97, 114], .tup [m.d, m.d, m.d]], .tup [.str [110, 101, 97, 114], .tup ((movesD κ).take 2)]], Gv v := fun v hv => by
    simp only [List.mem_cons, List.not_mem_nil, or_false] at hv
    rcases hv with rfl | rfl | rfl | rfl | rfl | rfl | rfl | rfl | rfl | rfl | rfl | rfl | rfl | rfl | rfl | rfl
    · exact S1.g
    · exact S2.g
    · exact S3.g
    · exact S4.g
    · exact S5.g
    · exact ⟨by decide, by decide, by decide, by decide⟩
    · exact ⟨by decide, by decide, by decide, by decide⟩
    · exact ⟨by decide, by decide, by decide, by decide⟩
    · exact ⟨by decide, by decide, by decide, by decide⟩
    · exact G4
    · exact G5
    · exact G6
    · exact G3
    · exact G7
    · exact G1.g
    · exact G2.g
  have cut : slcD (.lst (movesD κ)) .non (.int 2) = some (.lst ((movesD κ).take 2)) := by
    have := cut_take (movesD κ) 2
    simp only [slcD, bndD]
    rw [show ((2 : Int)) = ((2 : Nat) : Int) from rfl, this]
  have mul : binD .mul (.tup [m.d]) (.int 3) = some (.tup [m.d, m.d, m.d]) := by simp [binD, repL]
  have w4 : decide ((o1.wid : Int) ≤ 4) = decide (o1.wid ≤ 4) := decide_eq_decide.mpr (by omega)
  have r8 : ∀ st, rg1R (.int 8) st = .ok (rangeL 0 8, []) st := fun st => rg1R_int st (by decide)
  have vm : ∀ st, vw st (.tup [m.d]) = .tup [m.d] := fun st => rfl
  generalize hps : [tellP o, .tup [.str [110, 101, 97, 114], .tup [m.d]], .tup [.str [110, 101, 97, 114], .tup [m.d, m2.d]], .tup [.str [110, 101, 97, 114], .tup []], .tup [.str [102, 97, 114]]] = ps at Sps
  have pne : ps ≠ [] := by rw [← hps]; simp
  have pl5 : ps.length = 5 := by rw [← hps]; rfl
  generalize hvs : [tellP o, .tup [.str [110, 101, 97, 114], .tup [m.d]], .tup [.str [110, 101, 97, 114], .tup [m.d, m2.d]], .tup [.str [110, 101, 97, 114], .tup []], .tup [.str [102, 97, 114]], .non, .int 0, .tup [], .str [102, 97, 114], .lst [.str [102, 97, 114]], .tup [.str [110, 101, 97, 114]], .tup [.str [110, 101, 97, 114], .non], .tup [.str [110, 101, 97, 114], .lst [m.d]], .tup [.str [102, 97, 114], .tup []], .tup [.str [110, 101, 97, 114], .tup [m.d, m.d, m.d]], .tup [.str [110, 101, 97, 114], .tup ((movesD κ).take 2)]] = vs at hvals
  have vl16 : vs.length = 16 := by rw [← hvs]; rfl
  obtain ⟨ys, s10, BL, gy, yl⟩ := bent_loop 50 0 ps pne (by omega) Sps (.va (.scr ns)) (.va κ.d) (.va m.d) (.va l.d) (.va m2.d) (.va τ.d) (.va (.int most)) (.va (oN (dist κ τ most))) (.va (.lst vs)) .no .no .no .no .no (rangeL 0 8) s9 p9
  have yl : ys.length = 8 := by rw [yl]; rfl
  have BL2 := lcL_ok (by rw [sizeLine_eq]; simp [rangeL]) BL
  obtain ⟨s11, s12, s13, s14, S', VL⟩ := val_loop 44 κ τ most (.scr ns) (.ref 0) m.d l.d m2.d (.lst ps) (.lst vs) .no ok hf okτ hfτ (by omega) (by omega) wτ (vs ++ ys) .no .no .no .no s10 (fun v hv => by
    rcases List.mem_append.mp hv with hv | hv
    · exact hvals v hv
    · exact gy v hv)
  have cat : binD .add (.lst vs) (.lst ys) = some (.lst (vs ++ ys)) := binD_lst (by rw [sizeLine_eq]; omega)
  have cat0 : binD .add (.lst ps) (.lst [.non, .int 0, .tup [], .str [102, 97, 114], .lst [.str [102, 97, 114]], .tup [.str [110, 101, 97, 114]], .tup [.str [110, 101, 97, 114], .non], .tup [.str [110, 101, 97, 114], .lst [m.d]], .tup [.str [102, 97, 114], .tup []], .tup [.str [110, 101, 97, 114], .tup [m.d, m.d, m.d]], .tup [.str [110, 101, 97, 114], .tup ((movesD κ).take 2)]]) = some (.lst vs) := by
    rw [binD_lst (by rw [sizeLine_eq, pl5]; simp)]
    rw [← hps, ← hvs]; rfl
  simp only [List.map_cons, List.map_nil] at e2 e9
  have c3 : ((3 : Nat) : Int) = 3 := rfl
  have c2 : ((2 : Nat) : Int) = 2 := rfl
  rw [c3] at e2
  rw [c2] at e9
  generalize oN (dist κ τ most) = due at *
  generalize hj : rangeL 0 8 = js at *
  generalize hnk : nearD κ = nk at *
  generalize hnl : nearD l = nl at *
  generalize hto : tellP o = to at *
  generalize hmt : (movesD κ).take 2 = mt at *
  generalize hmk : movesD κ = mk at *
  generalize hcc : vs ++ ys = cc at *
  refine ⟨S', ?_⟩
  have lv_eq : lv = 59 + 1 := rfl
  rw [lv_eq, call_eq (d := ⟨1, 16, b_law⟩) rfl rfl]
  by_cases h4 : o1.wid ≤ 4
  · rw [if_pos h4] at hτ
    rw [← hτ] at e13 e14 BL2 VL
    rw [decide_eq_true h4] at w4
    simp [b_law, e1, e2, e3, e4, e5, e6, e7, e8, e9, e10, e11, w4, e12, e13, e14, hps, e15, cut, mul, vm, cat0, r8, BL2, cat, VL, setV]
  · rw [if_neg h4] at hτ
    rw [← hτ] at e13 e14 BL2 VL
    rw [decide_eq_false h4] at w4
    simp [b_law, e1, e2, e3, e4, e5, e6, e7, e8, e9, e10, e11, w4, e12, e13, e14, hps, e15, cut, mul, vm, cat0, r8, BL2, cat, VL, setV]
end K73

set_option Elab.async false
set_option linter.all false
set_option maxRecDepth 100000
/-! The head's facts: constants of all kinds. -/
namespace Ev
open PySem PySem.Spec PyProof.Rows L2
mutual
/-- the value u of the known heap is d -/
def valK (K : PySem.W.Frag) : D → Value → Bool
  | .non, u => match u with
    | .none => true
    | _ => false
  | .bl b, u => match u with
    | .bool c => b == c
    | _ => false
  | .int i, u => match u with
    | .int j _ => decide (i = j)
    | _ => false
  | .str x, u => match u with
    | .str y _ => decide (x = y.cps.toList) && decide (x.length ≤ sizeLine)
    | _ => false
  | .tup ds, u => match u with
    | .ref a => (match K.lookup a with
      | some ⟨.type c, _, .seq its _, _⟩ => decide (c = "tuple") && decide (its.size ≤ sizeLine) && decide (ds.length ≤ sizeLine) && valKs K ds its.toList
      | _ => false)
    | _ => false
  | .lst _, _ => false
  | .ref _, _ => false
  | .scr _, _ => false
def valKs (K : PySem.W.Frag) : List D → List Value → Bool
  | [], us => us.isEmpty
  | d :: ds, us => match us with
    | u :: us => valK K d u && valKs K ds us
    | [] => false
end
mutual
theorem valK_ok {K : PySem.W.Frag} : ∀ (d : D) {u : Value}, valK K d u = true → ∃ v, RelV v u ∧ ∀ H ω, Rep K H ω v d
  | .non, u, h => by
    simp only [valK] at h
    split at h
    · exact ⟨.non, rfl, fun H ω => by simp only [Rep]⟩
    · cases h
  | .bl b, u, h => by
    simp only [valK] at h
    split at h
    · obtain rfl := eq_of_beq h
      exact ⟨.bl _, rfl, fun H ω => by simp only [Rep]⟩
    · cases h
  | .int i, u, h => by
    simp only [valK] at h
    split at h
    · obtain rfl := of_decide_eq_true h
      exact ⟨.int _, ⟨_, rfl⟩, fun H ω => by simp only [Rep]⟩
    · cases h
  | .str x, u, h => by
    simp only [valK] at h
    split at h
    · rename_i y t
      simp only [Bool.and_eq_true, decide_eq_true_eq] at h
      obtain ⟨rfl, h2⟩ := h
      exact ⟨.str (toS y.cps.toList), ⟨t, by cases y; simp [toS]⟩, fun H ω => by simp only [Rep]; exact ⟨trivial, h2⟩⟩
    · cases h
  | .tup ds, u, h => by
    simp only [valK] at h
    split at h
    · rename_i a
      split at h
      · rename_i c od its n sl hk
        simp only [Bool.and_eq_true, decide_eq_true_eq] at h
        obtain ⟨⟨⟨rfl, h2⟩, h3⟩, h4⟩ := h
        obtain ⟨vs, h5, h6⟩ := valKs_ok ds h4
        exact ⟨.ref a, rfl, fun H ω => by simp only [Rep]; exact ⟨a, vs, rfl, .inr ⟨_, its, n, hk, rfl, rfl, h2, h5⟩, h3, h6 H ω⟩⟩
      · cases h
    · cases h
  | .lst _, _, h => by simp [valK] at h
  | .ref _, _, h => by simp [valK] at h
  | .scr _, _, h => by simp [valK] at h
theorem valKs_ok {K : PySem.W.Frag} : ∀ (ds : List D) {us : List Value}, valKs K ds us = true → ∃ vs, Vals vs us ∧ ∀ H ω, Reps K H ω vs ds
  | [], us, h => by
    simp only [valKs, List.isEmpty_iff] at h
    subst h
    exact ⟨[], .nil, fun H ω => trivial⟩
  | d :: ds, us, h => by
    simp only [valKs] at h
    split at h
    · rw [Bool.and_eq_true] at h
      obtain ⟨v, h1, h2⟩ := valK_ok d h.1
      obtain ⟨vs, h3, h4⟩ := valKs_ok ds h.2
      exact ⟨v :: vs, .cons h1 h3, fun H ω => by simp only [Reps]; exact ⟨h2 H ω, h4 H ω⟩⟩
    · cases h
end
/-- the module's name x is d -/
def conB (K : PySem.W.Frag) (p : Str × D) : Bool := match PySem.W.nsIn K mainGlobals p.1 with
  | some (some u) => valK K p.2 u
  | _ => false
theorem conB_ok {K : PySem.W.Frag} {h : Heap} {mg : Str → Option Value} (X : K.In h) (Gm : h.Ns mainGlobals mg) {p : Str × D} (c : conB K p = true) : ∃ v u, mg p.1 = some u ∧ RelV v u ∧ ∀ H ω, Rep K H ω v p.2 := by
  unfold conB at c
  split at c
  · rename_i u hu
    obtain ⟨v, h1, h2⟩ := valK_ok p.2 c
    exact ⟨v, u, PySem.W.mg_of X Gm hu, h1, h2⟩
  · cases c
theorem cons_ok {K : PySem.W.Frag} {h : Heap} {mg : Str → Option Value} (X : K.In h) (Gm : h.Ns mainGlobals mg) {gl : List (Str × D)} (c : gl.all (conB K) = true) : ∀ i d, (gl[i]?).map (·.2) = some d → ∃ v u, mg ((gl.map (·.1)).getD i "") = some u ∧ RelV v u ∧ ∀ H ω, Rep K H ω v d := fun i d e => by
  cases hp : gl[i]? with
  | none => rw [hp] at e; cases e
  | some p =>
    rw [hp] at e
    cases e
    have z := conB_ok X Gm (List.all_eq_true.mp c p (List.mem_of_getElem? hp))
    rw [List.getD_eq_getElem?_getD, List.getElem?_map, hp]
    exact z
/-! ### the Hook -/
abbrev AlB : Type := He.AlD × Bool
def obsB (n : Nat) (fa : List He.Fa) (fn : List He.DefD) (ex : PySem.W.Frag → Bool) (g : Addr → Option Obj) : AlB := (He.obsD fa fn (He.frG g (He.asD g n)), ex (He.frG g (He.asD g n)))
def hookB (n : Nat) (fa : List He.Fa) (fn : List He.DefD) (ex : PySem.W.Frag → Bool) : PySem.W.Hook where
  α := AlB
  obs := fun s => obsB n fa fn ex s.heap.get?
  val := fun _ => (He.valD fn, true)
  says := fun _ h => ∃ K : PySem.W.Frag, K.In h ∧ He.SaysD fa fn K ∧ ex K = true
  of := fun _ _ e => ⟨_, He.frG_in, congrArg (fun z : AlB => z.1) e, congrArg (fun z : AlB => z.2) e⟩
  keeps := fun _ _ _ ⟨K, hK, c⟩ k => ⟨K, PySem.W.Frag.In.keeps hK k, c⟩
theorem obsB_eq {n : Nat} {fa : List He.Fa} {fn : List He.DefD} {ex : PySem.W.Frag → Bool} {g : Addr → Option Obj} {s : Shared} (h : ∀ a, g a = s.heap.get? a) : obsB n fa fn ex g = (hookB n fa fn ex).obs s := by
  have e : g = s.heap.get? := funext h
  rw [e] <;> rfl
end Ev

set_option Elab.async false
set_option linter.all false
set_option maxRecDepth 100000
set_option maxHeartbeats 0
/-! The head of the law: what its top leaves. Written by gen.py. -/
namespace K73
open PySem PySem.Spec PyProof.Rows L2 Ev
def dD (i : Nat) (x : Str) : He.DefD := ⟨(x, none), x, x, defArgs (top i), defBody (top i), defScope (top i), [], []⟩
def fn : List He.DefD := [dD 7 "is_integer", dD 8 "is_count", dD 9 "want_at_most", dD 19 "is_name", dD 20 "is_built", dD 21 "is_kind_of", dD 22 "is_leaf", dD 23 "width_of", dD 24 "paths_of", dD 25 "at_path_of", dD 26 "put_at_path", dD 27 "pair_of", dD 28 "from_of", dD 29 "want_kind", dD 30 "is_path_of", dD 44 "is_pair", dD 45 "is_from", dD 46 "forth_kind", dD 47 "back_kind", dD 48 "led_kind", dD 49 "contrary", dD 50 "told_of", dD 51 "moved_of", dD 52 "undone_of", dD 53 "is_move_of", dD 54 "moves_of", dD 55 "moves", dD 58 "kinds_by", dD 59 "is_row_of", dD 60 "row_undone_of", dD 66 "near_moves_of", dD 67 "rows_within", dD 68 "meeting_row", dD 69 "shortest_row", dD 70 "want_within", dD 71 "want_narrow", dD 72 "want_both", dD 73 "near_paper", dD 74 "is_near_paper", dD 76 "_law_pot", dD 77 "_law_draw", dD 78 "_law_pick", dD 79 "_law_kind", dD 80 "_law_small", dD 81 "_law_width", dD 82 "_law_names", dD 83 "_law_shape", dD 84 "_law_turned", dD 85 "_law_deep", dD 86 "_law_is_fit", dD 87 "_law_forth", dD 88 "_law_back", dD 89 "_law_paths", dD 90 "_law_at", dD 91 "_law_put", dD 92 "_law_moved", dD 93 "_law_near", dD 94 "_law_ball", dD 95 "_law_distance", dD 96 "_law_bent", dD 97 "_law_is_row", dD 98 "_law_is_paper", dD 99 "law"]
def fa1 : List He.Fa := [.glo "is_integer", .glo "is_count", .glo "want_at_most", .glo "is_name", .glo "is_built", .glo "is_kind_of", .glo "is_leaf", .glo "width_of", .glo "paths_of", .glo "at_path_of", .glo "put_at_path", .glo "pair_of", .glo "from_of", .glo "want_kind", .glo "is_path_of", .glo "is_pair", .glo "is_from", .glo "forth_kind", .glo "back_kind", .glo "led_kind", .glo "contrary", .glo "told_of", .glo "moved_of", .glo "undone_of", .glo "is_move_of", .glo "moves_of", .glo "moves", .glo "kinds_by", .glo "is_row_of", .glo "row_undone_of", .glo "near_moves_of", .glo "rows_within", .glo "meeting_row", .glo "shortest_row", .glo "want_within", .glo "want_narrow", .glo "want_both", .glo "near_paper", .glo "is_near_paper", .glo "_law_pot", .glo "_law_draw", .glo "_law_pick", .glo "_law_kind", .glo "_law_small", .glo "_law_width", .glo "_law_names", .glo "_law_shape", .glo "_law_turned", .glo "_law_deep", .glo "_law_is_fit", .glo "_law_forth", .glo "_law_back", .glo "_law_paths", .glo "_law_at", .glo "_law_put", .glo "_law_moved", .glo "_law_near", .glo "_law_ball", .glo "_law_distance", .glo "_law_bent", .glo "_law_is_row", .glo "_law_is_paper", .glo "law"]
def fa : List He.Fa := fa1 ++ bnames.map He.Fa.free
def ex (K : PySem.W.Frag) : Bool := glL.all (conB K)
def loose0 : List PySem.Str := ["__name__", "KindError", "LimitError", "InvalidKind", "InvalidCount", "TooMany", "is_integer", "is_count", "want_at_most", "ATOM", "NOTHING", "PAIR", "FROM", "LETTERS", "MOST_WIDTH_kinds", "MOST_DEPTH", "MOST_LETTERS", "is_name", "is_built", "is_kind_of", "is_leaf", "width_of", "paths_of", "at_path_of", "put_at_path", "pair_of", "from_of", "want_kind", "is_path_of", "SWAP"]
def loose1 : List PySem.Str := ["REGROUP", "DROP", "CURRY", "SPLIT", "SOLE", "VOID", "FORTH", "BACK", "WORDS", "DIRECTIONS", "EMPTY", "is_pair", "is_from", "forth_kind", "back_kind", "led_kind", "contrary", "told_of", "moved_of", "undone_of", "is_move_of", "moves_of", "moves", "MOST_ROW", "kinds_by", "is_row_of", "row_undone_of", "NEAR", "FAR", "MOST_WIDTH_nearness"]
def loose2 : List PySem.Str := ["MOST_FAR", "near_moves_of", "rows_within", "meeting_row", "shortest_row", "want_within", "want_narrow", "want_both", "near_paper", "is_near_paper", "_law_pot", "_law_draw", "_law_pick", "_law_kind", "_law_small", "_law_width", "_law_names", "_law_shape", "_law_turned", "_law_deep", "_law_is_fit", "_law_forth", "_law_back", "_law_paths", "_law_at", "_law_put", "_law_moved", "_law_near", "_law_ball", "_law_distance"]
def loose3 : List PySem.Str := ["_law_bent", "_law_is_row", "_law_is_paper"]
def loose : List PySem.Str := loose0 ++ loose1 ++ loose2 ++ loose3
abbrev R0 : PySem.W.OpenRow := PySem.W.OpenLaw.row PySem.Challenge.rw_kindsalike_k73_any_value_as_near_paper
abbrev hk : PySem.W.Hook := hookB 4 fa fn ex
def ob (s : PySem.W.SharedT) : AlB := obsB 4 fa fn ex (HandSHeadRun.getT s)
theorem ob_eq (s : PySem.W.SharedT) : ob s = hk.obs s.abs := obsB_eq (HandSHeadRun.getT_eq s)
theorem run (w : World) : HandSHeadRun.RunEq R0 (PySem.W.view R0.prog [99]) hk ob 4000 loose w := by
  intro os
  kernel_rfl
end K73

set_option Elab.async false
set_option linter.all false
set_option maxRecDepth 100000
/-! Each def is as its tree says. Written by gen.py. -/
namespace K73
open PySem PySem.Spec PyProof.Rows L2 Ev
theorem kwBind {K : PySem.W.Frag} {x qual : Str} {params : Arguments} {body : List Stmt} {scope : Scope} {kws : List (Str × V)} {f : Addr} {fd : FuncData} {args : Args} {binds : List (Str × Value)} (F : FunD K x qual params body scope [] kws f fd)
    (h : ∀ (kV doc pm : Value) (an : Option Addr) (cdv ct : Value), bindArgs (PySem.W.fnOf x qual params body scope .none kV doc pm an cdv ct) args = pure binds) (s : Shared) : BindsTo s fd args binds := by
  obtain ⟨oc, od, dV, kV, doc, pm, an, cdv, ct, osl, rfl, lk, hcd, hD, hK⟩ := F.ex
  rcases hD with ⟨_, rfl⟩ | ⟨e, _⟩
  · exact .of_eq (h kV doc pm an cdv ct)
  · exact absurd rfl e
section
variable {K : PySem.W.Frag} {h : Heap} {mg : Str → Option Value}
theorem s_is_integer : FnScope N_is_integer (nm.ps 0) (defScope (top 7)) := ⟨by decide +kernel, by decide +kernel, by decide +kernel, by decide +kernel, by decide +kernel, by decide +kernel, by decide +kernel⟩
theorem ok_is_integer (X : K.In h) (Gm : h.Ns mainGlobals mg) (c : He.SaysD fa fn K) : DefOk K mg nm pg kwL 0 ⟨1, 1, b_is_integer⟩ := by
  obtain ⟨fd, F⟩ := c.def_ 0 (d := dD 7 "is_integer") rfl
  have e : mg (nm.fn 0) = some (.ref (He.ga K "is_integer")) := He.glo_ok X Gm (c.fact 0 (f := .glo "is_integer") rfl)
  refine ⟨⟨_, fd, _, _, _, _, _, _, _, N_is_integer, e, F, s_is_integer, rfl, rfl, c_is_integer, fun s us _ hl => ?_, fun q hq hf s ws zs _ hl hz => ?_⟩⟩
  · match us, hl with
    | [u0], _ => exact kwBind F (fun _ _ _ _ _ _ => rfl) s
  · simp only [kwL, List.mem_cons, List.not_mem_nil, or_false] at hq
    rcases hq with rfl
    · cases hf
theorem s_is_count : FnScope N_is_count (nm.ps 1) (defScope (top 8)) := ⟨by decide +kernel, by decide +kernel, by decide +kernel, by decide +kernel, by decide +kernel, by decide +kernel, by decide +kernel⟩
theorem ok_is_count (X : K.In h) (Gm : h.Ns mainGlobals mg) (c : He.SaysD fa fn K) : DefOk K mg nm pg kwL 1 ⟨1, 1, b_is_count⟩ := by
  obtain ⟨fd, F⟩ := c.def_ 1 (d := dD 8 "is_count") rfl
  have e : mg (nm.fn 1) = some (.ref (He.ga K "is_count")) := He.glo_ok X Gm (c.fact 1 (f := .glo "is_count") rfl)
  refine ⟨⟨_, fd, _, _, _, _, _, _, _, N_is_count, e, F, s_is_count, rfl, rfl, c_is_count, fun s us _ hl => ?_, fun q hq hf s ws zs _ hl hz => ?_⟩⟩
  · match us, hl with
    | [u0], _ => exact kwBind F (fun _ _ _ _ _ _ => rfl) s
  · simp only [kwL, List.mem_cons, List.not_mem_nil, or_false] at hq
    rcases hq with rfl
    · cases hf
theorem s_want_at_most : FnScope N_want_at_most (nm.ps 2) (defScope (top 9)) := ⟨by decide +kernel, by decide +kernel, by decide +kernel, by decide +kernel, by decide +kernel, by decide +kernel, by decide +kernel⟩
theorem ok_want_at_most (X : K.In h) (Gm : h.Ns mainGlobals mg) (c : He.SaysD fa fn K) : DefOk K mg nm pg kwL 2 ⟨3, 3, b_want_at_most⟩ := by
  obtain ⟨fd, F⟩ := c.def_ 2 (d := dD 9 "want_at_most") rfl
  have e : mg (nm.fn 2) = some (.ref (He.ga K "want_at_most")) := He.glo_ok X Gm (c.fact 2 (f := .glo "want_at_most") rfl)
  refine ⟨⟨_, fd, _, _, _, _, _, _, _, N_want_at_most, e, F, s_want_at_most, rfl, rfl, c_want_at_most, fun s us _ hl => ?_, fun q hq hf s ws zs _ hl hz => ?_⟩⟩
  · match us, hl with
    | [u0, u1, u2], _ => exact kwBind F (fun _ _ _ _ _ _ => rfl) s
  · simp only [kwL, List.mem_cons, List.not_mem_nil, or_false] at hq
    rcases hq with rfl
    · cases hf
theorem s_is_name : FnScope N_is_name (nm.ps 3) (defScope (top 19)) := ⟨by decide +kernel, by decide +kernel, by decide +kernel, by decide +kernel, by decide +kernel, by decide +kernel, by decide +kernel⟩
theorem ok_is_name (X : K.In h) (Gm : h.Ns mainGlobals mg) (c : He.SaysD fa fn K) : DefOk K mg nm pg kwL 3 ⟨1, 2, b_is_name⟩ := by
  obtain ⟨fd, F⟩ := c.def_ 3 (d := dD 19 "is_name") rfl
  have e : mg (nm.fn 3) = some (.ref (He.ga K "is_name")) := He.glo_ok X Gm (c.fact 3 (f := .glo "is_name") rfl)
  refine ⟨⟨_, fd, _, _, _, _, _, _, _, N_is_name, e, F, s_is_name, rfl, rfl, c_is_name, fun s us _ hl => ?_, fun q hq hf s ws zs _ hl hz => ?_⟩⟩
  · match us, hl with
    | [u0], _ => exact kwBind F (fun _ _ _ _ _ _ => rfl) s
  · simp only [kwL, List.mem_cons, List.not_mem_nil, or_false] at hq
    rcases hq with rfl
    · cases hf
theorem s_is_built : FnScope N_is_built (nm.ps 4) (defScope (top 20)) := ⟨by decide +kernel, by decide +kernel, by decide +kernel, by decide +kernel, by decide +kernel, by decide +kernel, by decide +kernel⟩
theorem ok_is_built (X : K.In h) (Gm : h.Ns mainGlobals mg) (c : He.SaysD fa fn K) : DefOk K mg nm pg kwL 4 ⟨2, 2, b_is_built⟩ := by
  obtain ⟨fd, F⟩ := c.def_ 4 (d := dD 20 "is_built") rfl
  have e : mg (nm.fn 4) = some (.ref (He.ga K "is_built")) := He.glo_ok X Gm (c.fact 4 (f := .glo "is_built") rfl)
  refine ⟨⟨_, fd, _, _, _, _, _, _, _, N_is_built, e, F, s_is_built, rfl, rfl, c_is_built, fun s us _ hl => ?_, fun q hq hf s ws zs _ hl hz => ?_⟩⟩
  · match us, hl with
    | [u0, u1], _ => exact kwBind F (fun _ _ _ _ _ _ => rfl) s
  · simp only [kwL, List.mem_cons, List.not_mem_nil, or_false] at hq
    rcases hq with rfl
    · cases hf
theorem s_is_kind_of : FnScope N_is_kind_of (nm.ps 5) (defScope (top 21)) := ⟨by decide +kernel, by decide +kernel, by decide +kernel, by decide +kernel, by decide +kernel, by decide +kernel, by decide +kernel⟩
theorem ok_is_kind_of (X : K.In h) (Gm : h.Ns mainGlobals mg) (c : He.SaysD fa fn K) : DefOk K mg nm pg kwL 5 ⟨1, 1, b_is_kind_of⟩ := by
  obtain ⟨fd, F⟩ := c.def_ 5 (d := dD 21 "is_kind_of") rfl
  have e : mg (nm.fn 5) = some (.ref (He.ga K "is_kind_of")) := He.glo_ok X Gm (c.fact 5 (f := .glo "is_kind_of") rfl)
  refine ⟨⟨_, fd, _, _, _, _, _, _, _, N_is_kind_of, e, F, s_is_kind_of, rfl, rfl, c_is_kind_of, fun s us _ hl => ?_, fun q hq hf s ws zs _ hl hz => ?_⟩⟩
  · match us, hl with
    | [u0], _ => exact kwBind F (fun _ _ _ _ _ _ => rfl) s
  · simp only [kwL, List.mem_cons, List.not_mem_nil, or_false] at hq
    rcases hq with rfl
    · cases hf
theorem s_is_leaf : FnScope N_is_leaf (nm.ps 6) (defScope (top 22)) := ⟨by decide +kernel, by decide +kernel, by decide +kernel, by decide +kernel, by decide +kernel, by decide +kernel, by decide +kernel⟩
theorem ok_is_leaf (X : K.In h) (Gm : h.Ns mainGlobals mg) (c : He.SaysD fa fn K) : DefOk K mg nm pg kwL 6 ⟨1, 1, b_is_leaf⟩ := by
  obtain ⟨fd, F⟩ := c.def_ 6 (d := dD 22 "is_leaf") rfl
  have e : mg (nm.fn 6) = some (.ref (He.ga K "is_leaf")) := He.glo_ok X Gm (c.fact 6 (f := .glo "is_leaf") rfl)
  refine ⟨⟨_, fd, _, _, _, _, _, _, _, N_is_leaf, e, F, s_is_leaf, rfl, rfl, c_is_leaf, fun s us _ hl => ?_, fun q hq hf s ws zs _ hl hz => ?_⟩⟩
  · match us, hl with
    | [u0], _ => exact kwBind F (fun _ _ _ _ _ _ => rfl) s
  · simp only [kwL, List.mem_cons, List.not_mem_nil, or_false] at hq
    rcases hq with rfl
    · cases hf
theorem s_width_of : FnScope N_width_of (nm.ps 7) (defScope (top 23)) := ⟨by decide +kernel, by decide +kernel, by decide +kernel, by decide +kernel, by decide +kernel, by decide +kernel, by decide +kernel⟩
theorem ok_width_of (X : K.In h) (Gm : h.Ns mainGlobals mg) (c : He.SaysD fa fn K) : DefOk K mg nm pg kwL 7 ⟨1, 1, b_width_of⟩ := by
  obtain ⟨fd, F⟩ := c.def_ 7 (d := dD 23 "width_of") rfl
  have e : mg (nm.fn 7) = some (.ref (He.ga K "width_of")) := He.glo_ok X Gm (c.fact 7 (f := .glo "width_of") rfl)
  refine ⟨⟨_, fd, _, _, _, _, _, _, _, N_width_of, e, F, s_width_of, rfl, rfl, c_width_of, fun s us _ hl => ?_, fun q hq hf s ws zs _ hl hz => ?_⟩⟩
  · match us, hl with
    | [u0], _ => exact kwBind F (fun _ _ _ _ _ _ => rfl) s
  · simp only [kwL, List.mem_cons, List.not_mem_nil, or_false] at hq
    rcases hq with rfl
    · cases hf
theorem s_paths_of : FnScope N_paths_of (nm.ps 8) (defScope (top 24)) := ⟨by decide +kernel, by decide +kernel, by decide +kernel, by decide +kernel, by decide +kernel, by decide +kernel, by decide +kernel⟩
theorem ok_paths_of (X : K.In h) (Gm : h.Ns mainGlobals mg) (c : He.SaysD fa fn K) : DefOk K mg nm pg kwL 8 ⟨1, 4, b_paths_of⟩ := by
  obtain ⟨fd, F⟩ := c.def_ 8 (d := dD 24 "paths_of") rfl
  have e : mg (nm.fn 8) = some (.ref (He.ga K "paths_of")) := He.glo_ok X Gm (c.fact 8 (f := .glo "paths_of") rfl)
  refine ⟨⟨_, fd, _, _, _, _, _, _, _, N_paths_of, e, F, s_paths_of, rfl, rfl, c_paths_of, fun s us _ hl => ?_, fun q hq hf s ws zs _ hl hz => ?_⟩⟩
  · match us, hl with
    | [u0], _ => exact kwBind F (fun _ _ _ _ _ _ => rfl) s
  · simp only [kwL, List.mem_cons, List.not_mem_nil, or_false] at hq
    rcases hq with rfl
    · cases hf
theorem s_at_path_of : FnScope N_at_path_of (nm.ps 9) (defScope (top 25)) := ⟨by decide +kernel, by decide +kernel, by decide +kernel, by decide +kernel, by decide +kernel, by decide +kernel, by decide +kernel⟩
theorem ok_at_path_of (X : K.In h) (Gm : h.Ns mainGlobals mg) (c : He.SaysD fa fn K) : DefOk K mg nm pg kwL 9 ⟨2, 3, b_at_path_of⟩ := by
  obtain ⟨fd, F⟩ := c.def_ 9 (d := dD 25 "at_path_of") rfl
  have e : mg (nm.fn 9) = some (.ref (He.ga K "at_path_of")) := He.glo_ok X Gm (c.fact 9 (f := .glo "at_path_of") rfl)
  refine ⟨⟨_, fd, _, _, _, _, _, _, _, N_at_path_of, e, F, s_at_path_of, rfl, rfl, c_at_path_of, fun s us _ hl => ?_, fun q hq hf s ws zs _ hl hz => ?_⟩⟩
  · match us, hl with
    | [u0, u1], _ => exact kwBind F (fun _ _ _ _ _ _ => rfl) s
  · simp only [kwL, List.mem_cons, List.not_mem_nil, or_false] at hq
    rcases hq with rfl
    · cases hf
theorem s_put_at_path : FnScope N_put_at_path (nm.ps 10) (defScope (top 26)) := ⟨by decide +kernel, by decide +kernel, by decide +kernel, by decide +kernel, by decide +kernel, by decide +kernel, by decide +kernel⟩
theorem ok_put_at_path (X : K.In h) (Gm : h.Ns mainGlobals mg) (c : He.SaysD fa fn K) : DefOk K mg nm pg kwL 10 ⟨3, 3, b_put_at_path⟩ := by
  obtain ⟨fd, F⟩ := c.def_ 10 (d := dD 26 "put_at_path") rfl
  have e : mg (nm.fn 10) = some (.ref (He.ga K "put_at_path")) := He.glo_ok X Gm (c.fact 10 (f := .glo "put_at_path") rfl)
  refine ⟨⟨_, fd, _, _, _, _, _, _, _, N_put_at_path, e, F, s_put_at_path, rfl, rfl, c_put_at_path, fun s us _ hl => ?_, fun q hq hf s ws zs _ hl hz => ?_⟩⟩
  · match us, hl with
    | [u0, u1, u2], _ => exact kwBind F (fun _ _ _ _ _ _ => rfl) s
  · simp only [kwL, List.mem_cons, List.not_mem_nil, or_false] at hq
    rcases hq with rfl
    · cases hf
theorem s_pair_of : FnScope N_pair_of (nm.ps 11) (defScope (top 27)) := ⟨by decide +kernel, by decide +kernel, by decide +kernel, by decide +kernel, by decide +kernel, by decide +kernel, by decide +kernel⟩
theorem ok_pair_of (X : K.In h) (Gm : h.Ns mainGlobals mg) (c : He.SaysD fa fn K) : DefOk K mg nm pg kwL 11 ⟨2, 2, b_pair_of⟩ := by
  obtain ⟨fd, F⟩ := c.def_ 11 (d := dD 27 "pair_of") rfl
  have e : mg (nm.fn 11) = some (.ref (He.ga K "pair_of")) := He.glo_ok X Gm (c.fact 11 (f := .glo "pair_of") rfl)
  refine ⟨⟨_, fd, _, _, _, _, _, _, _, N_pair_of, e, F, s_pair_of, rfl, rfl, c_pair_of, fun s us _ hl => ?_, fun q hq hf s ws zs _ hl hz => ?_⟩⟩
  · match us, hl with
    | [u0, u1], _ => exact kwBind F (fun _ _ _ _ _ _ => rfl) s
  · simp only [kwL, List.mem_cons, List.not_mem_nil, or_false] at hq
    rcases hq with rfl
    · cases hf
theorem s_from_of : FnScope N_from_of (nm.ps 12) (defScope (top 28)) := ⟨by decide +kernel, by decide +kernel, by decide +kernel, by decide +kernel, by decide +kernel, by decide +kernel, by decide +kernel⟩
theorem ok_from_of (X : K.In h) (Gm : h.Ns mainGlobals mg) (c : He.SaysD fa fn K) : DefOk K mg nm pg kwL 12 ⟨2, 2, b_from_of⟩ := by
  obtain ⟨fd, F⟩ := c.def_ 12 (d := dD 28 "from_of") rfl
  have e : mg (nm.fn 12) = some (.ref (He.ga K "from_of")) := He.glo_ok X Gm (c.fact 12 (f := .glo "from_of") rfl)
  refine ⟨⟨_, fd, _, _, _, _, _, _, _, N_from_of, e, F, s_from_of, rfl, rfl, c_from_of, fun s us _ hl => ?_, fun q hq hf s ws zs _ hl hz => ?_⟩⟩
  · match us, hl with
    | [u0, u1], _ => exact kwBind F (fun _ _ _ _ _ _ => rfl) s
  · simp only [kwL, List.mem_cons, List.not_mem_nil, or_false] at hq
    rcases hq with rfl
    · cases hf
theorem s_want_kind : FnScope N_want_kind (nm.ps 13) (defScope (top 29)) := ⟨by decide +kernel, by decide +kernel, by decide +kernel, by decide +kernel, by decide +kernel, by decide +kernel, by decide +kernel⟩
theorem ok_want_kind (X : K.In h) (Gm : h.Ns mainGlobals mg) (c : He.SaysD fa fn K) : DefOk K mg nm pg kwL 13 ⟨1, 1, b_want_kind⟩ := by
  obtain ⟨fd, F⟩ := c.def_ 13 (d := dD 29 "want_kind") rfl
  have e : mg (nm.fn 13) = some (.ref (He.ga K "want_kind")) := He.glo_ok X Gm (c.fact 13 (f := .glo "want_kind") rfl)
  refine ⟨⟨_, fd, _, _, _, _, _, _, _, N_want_kind, e, F, s_want_kind, rfl, rfl, c_want_kind, fun s us _ hl => ?_, fun q hq hf s ws zs _ hl hz => ?_⟩⟩
  · match us, hl with
    | [u0], _ => exact kwBind F (fun _ _ _ _ _ _ => rfl) s
  · simp only [kwL, List.mem_cons, List.not_mem_nil, or_false] at hq
    rcases hq with rfl
    · cases hf
theorem s_is_path_of : FnScope N_is_path_of (nm.ps 14) (defScope (top 30)) := ⟨by decide +kernel, by decide +kernel, by decide +kernel, by decide +kernel, by decide +kernel, by decide +kernel, by decide +kernel⟩
theorem ok_is_path_of (X : K.In h) (Gm : h.Ns mainGlobals mg) (c : He.SaysD fa fn K) : DefOk K mg nm pg kwL 14 ⟨2, 3, b_is_path_of⟩ := by
  obtain ⟨fd, F⟩ := c.def_ 14 (d := dD 30 "is_path_of") rfl
  have e : mg (nm.fn 14) = some (.ref (He.ga K "is_path_of")) := He.glo_ok X Gm (c.fact 14 (f := .glo "is_path_of") rfl)
  refine ⟨⟨_, fd, _, _, _, _, _, _, _, N_is_path_of, e, F, s_is_path_of, rfl, rfl, c_is_path_of, fun s us _ hl => ?_, fun q hq hf s ws zs _ hl hz => ?_⟩⟩
  · match us, hl with
    | [u0, u1], _ => exact kwBind F (fun _ _ _ _ _ _ => rfl) s
  · simp only [kwL, List.mem_cons, List.not_mem_nil, or_false] at hq
    rcases hq with rfl
    · cases hf
theorem s_is_pair : FnScope N_is_pair (nm.ps 15) (defScope (top 44)) := ⟨by decide +kernel, by decide +kernel, by decide +kernel, by decide +kernel, by decide +kernel, by decide +kernel, by decide +kernel⟩
theorem ok_is_pair (X : K.In h) (Gm : h.Ns mainGlobals mg) (c : He.SaysD fa fn K) : DefOk K mg nm pg kwL 15 ⟨1, 1, b_is_pair⟩ := by
  obtain ⟨fd, F⟩ := c.def_ 15 (d := dD 44 "is_pair") rfl
  have e : mg (nm.fn 15) = some (.ref (He.ga K "is_pair")) := He.glo_ok X Gm (c.fact 15 (f := .glo "is_pair") rfl)
  refine ⟨⟨_, fd, _, _, _, _, _, _, _, N_is_pair, e, F, s_is_pair, rfl, rfl, c_is_pair, fun s us _ hl => ?_, fun q hq hf s ws zs _ hl hz => ?_⟩⟩
  · match us, hl with
    | [u0], _ => exact kwBind F (fun _ _ _ _ _ _ => rfl) s
  · simp only [kwL, List.mem_cons, List.not_mem_nil, or_false] at hq
    rcases hq with rfl
    · cases hf
theorem s_is_from : FnScope N_is_from (nm.ps 16) (defScope (top 45)) := ⟨by decide +kernel, by decide +kernel, by decide +kernel, by decide +kernel, by decide +kernel, by decide +kernel, by decide +kernel⟩
theorem ok_is_from (X : K.In h) (Gm : h.Ns mainGlobals mg) (c : He.SaysD fa fn K) : DefOk K mg nm pg kwL 16 ⟨1, 1, b_is_from⟩ := by
  obtain ⟨fd, F⟩ := c.def_ 16 (d := dD 45 "is_from") rfl
  have e : mg (nm.fn 16) = some (.ref (He.ga K "is_from")) := He.glo_ok X Gm (c.fact 16 (f := .glo "is_from") rfl)
  refine ⟨⟨_, fd, _, _, _, _, _, _, _, N_is_from, e, F, s_is_from, rfl, rfl, c_is_from, fun s us _ hl => ?_, fun q hq hf s ws zs _ hl hz => ?_⟩⟩
  · match us, hl with
    | [u0], _ => exact kwBind F (fun _ _ _ _ _ _ => rfl) s
  · simp only [kwL, List.mem_cons, List.not_mem_nil, or_false] at hq
    rcases hq with rfl
    · cases hf
theorem s_forth_kind : FnScope N_forth_kind (nm.ps 17) (defScope (top 46)) := ⟨by decide +kernel, by decide +kernel, by decide +kernel, by decide +kernel, by decide +kernel, by decide +kernel, by decide +kernel⟩
theorem ok_forth_kind (X : K.In h) (Gm : h.Ns mainGlobals mg) (c : He.SaysD fa fn K) : DefOk K mg nm pg kwL 17 ⟨2, 2, b_forth_kind⟩ := by
  obtain ⟨fd, F⟩ := c.def_ 17 (d := dD 46 "forth_kind") rfl
  have e : mg (nm.fn 17) = some (.ref (He.ga K "forth_kind")) := He.glo_ok X Gm (c.fact 17 (f := .glo "forth_kind") rfl)
  refine ⟨⟨_, fd, _, _, _, _, _, _, _, N_forth_kind, e, F, s_forth_kind, rfl, rfl, c_forth_kind, fun s us _ hl => ?_, fun q hq hf s ws zs _ hl hz => ?_⟩⟩
  · match us, hl with
    | [u0, u1], _ => exact kwBind F (fun _ _ _ _ _ _ => rfl) s
  · simp only [kwL, List.mem_cons, List.not_mem_nil, or_false] at hq
    rcases hq with rfl
    · cases hf
theorem s_back_kind : FnScope N_back_kind (nm.ps 18) (defScope (top 47)) := ⟨by decide +kernel, by decide +kernel, by decide +kernel, by decide +kernel, by decide +kernel, by decide +kernel, by decide +kernel⟩
theorem ok_back_kind (X : K.In h) (Gm : h.Ns mainGlobals mg) (c : He.SaysD fa fn K) : DefOk K mg nm pg kwL 18 ⟨3, 3, b_back_kind⟩ := by
  obtain ⟨fd, F⟩ := c.def_ 18 (d := dD 47 "back_kind") rfl
  have e : mg (nm.fn 18) = some (.ref (He.ga K "back_kind")) := He.glo_ok X Gm (c.fact 18 (f := .glo "back_kind") rfl)
  refine ⟨⟨_, fd, _, _, _, _, _, _, _, N_back_kind, e, F, s_back_kind, rfl, rfl, c_back_kind, fun s us _ hl => ?_, fun q hq hf s ws zs _ hl hz => ?_⟩⟩
  · match us, hl with
    | [u0, u1, u2], _ => exact kwBind F (fun _ _ _ _ _ _ => rfl) s
  · simp only [kwL, List.mem_cons, List.not_mem_nil, or_false] at hq
    rcases hq with rfl
    · cases hf
theorem s_led_kind : FnScope N_led_kind (nm.ps 19) (defScope (top 48)) := ⟨by decide +kernel, by decide +kernel, by decide +kernel, by decide +kernel, by decide +kernel, by decide +kernel, by decide +kernel⟩
theorem ok_led_kind (X : K.In h) (Gm : h.Ns mainGlobals mg) (c : He.SaysD fa fn K) : DefOk K mg nm pg kwL 19 ⟨4, 4, b_led_kind⟩ := by
  obtain ⟨fd, F⟩ := c.def_ 19 (d := dD 48 "led_kind") rfl
  have e : mg (nm.fn 19) = some (.ref (He.ga K "led_kind")) := He.glo_ok X Gm (c.fact 19 (f := .glo "led_kind") rfl)
  refine ⟨⟨_, fd, _, _, _, _, _, _, _, N_led_kind, e, F, s_led_kind, rfl, rfl, c_led_kind, fun s us _ hl => ?_, fun q hq hf s ws zs _ hl hz => ?_⟩⟩
  · match us, hl with
    | [u0, u1, u2, u3], _ => exact kwBind F (fun _ _ _ _ _ _ => rfl) s
  · simp only [kwL, List.mem_cons, List.not_mem_nil, or_false] at hq
    rcases hq with rfl
    · cases hf
theorem s_contrary : FnScope N_contrary (nm.ps 20) (defScope (top 49)) := ⟨by decide +kernel, by decide +kernel, by decide +kernel, by decide +kernel, by decide +kernel, by decide +kernel, by decide +kernel⟩
theorem ok_contrary (X : K.In h) (Gm : h.Ns mainGlobals mg) (c : He.SaysD fa fn K) : DefOk K mg nm pg kwL 20 ⟨1, 1, b_contrary⟩ := by
  obtain ⟨fd, F⟩ := c.def_ 20 (d := dD 49 "contrary") rfl
  have e : mg (nm.fn 20) = some (.ref (He.ga K "contrary")) := He.glo_ok X Gm (c.fact 20 (f := .glo "contrary") rfl)
  refine ⟨⟨_, fd, _, _, _, _, _, _, _, N_contrary, e, F, s_contrary, rfl, rfl, c_contrary, fun s us _ hl => ?_, fun q hq hf s ws zs _ hl hz => ?_⟩⟩
  · match us, hl with
    | [u0], _ => exact kwBind F (fun _ _ _ _ _ _ => rfl) s
  · simp only [kwL, List.mem_cons, List.not_mem_nil, or_false] at hq
    rcases hq with rfl
    · cases hf
theorem s_told_of : FnScope N_told_of (nm.ps 21) (defScope (top 50)) := ⟨by decide +kernel, by decide +kernel, by decide +kernel, by decide +kernel, by decide +kernel, by decide +kernel, by decide +kernel⟩
theorem ok_told_of (X : K.In h) (Gm : h.Ns mainGlobals mg) (c : He.SaysD fa fn K) : DefOk K mg nm pg kwL 21 ⟨1, 1, b_told_of⟩ := by
  obtain ⟨fd, F⟩ := c.def_ 21 (d := dD 50 "told_of") rfl
  have e : mg (nm.fn 21) = some (.ref (He.ga K "told_of")) := He.glo_ok X Gm (c.fact 21 (f := .glo "told_of") rfl)
  refine ⟨⟨_, fd, _, _, _, _, _, _, _, N_told_of, e, F, s_told_of, rfl, rfl, c_told_of, fun s us _ hl => ?_, fun q hq hf s ws zs _ hl hz => ?_⟩⟩
  · match us, hl with
    | [u0], _ => exact kwBind F (fun _ _ _ _ _ _ => rfl) s
  · simp only [kwL, List.mem_cons, List.not_mem_nil, or_false] at hq
    rcases hq with rfl
    · cases hf
theorem s_moved_of : FnScope N_moved_of (nm.ps 22) (defScope (top 51)) := ⟨by decide +kernel, by decide +kernel, by decide +kernel, by decide +kernel, by decide +kernel, by decide +kernel, by decide +kernel⟩
theorem ok_moved_of (X : K.In h) (Gm : h.Ns mainGlobals mg) (c : He.SaysD fa fn K) : DefOk K mg nm pg kwL 22 ⟨2, 3, b_moved_of⟩ := by
  obtain ⟨fd, F⟩ := c.def_ 22 (d := dD 51 "moved_of") rfl
  have e : mg (nm.fn 22) = some (.ref (He.ga K "moved_of")) := He.glo_ok X Gm (c.fact 22 (f := .glo "moved_of") rfl)
  refine ⟨⟨_, fd, _, _, _, _, _, _, _, N_moved_of, e, F, s_moved_of, rfl, rfl, c_moved_of, fun s us _ hl => ?_, fun q hq hf s ws zs _ hl hz => ?_⟩⟩
  · match us, hl with
    | [u0, u1], _ => exact kwBind F (fun _ _ _ _ _ _ => rfl) s
  · simp only [kwL, List.mem_cons, List.not_mem_nil, or_false] at hq
    rcases hq with rfl
    · cases hf
theorem s_undone_of : FnScope N_undone_of (nm.ps 23) (defScope (top 52)) := ⟨by decide +kernel, by decide +kernel, by decide +kernel, by decide +kernel, by decide +kernel, by decide +kernel, by decide +kernel⟩
theorem ok_undone_of (X : K.In h) (Gm : h.Ns mainGlobals mg) (c : He.SaysD fa fn K) : DefOk K mg nm pg kwL 23 ⟨2, 3, b_undone_of⟩ := by
  obtain ⟨fd, F⟩ := c.def_ 23 (d := dD 52 "undone_of") rfl
  have e : mg (nm.fn 23) = some (.ref (He.ga K "undone_of")) := He.glo_ok X Gm (c.fact 23 (f := .glo "undone_of") rfl)
  refine ⟨⟨_, fd, _, _, _, _, _, _, _, N_undone_of, e, F, s_undone_of, rfl, rfl, c_undone_of, fun s us _ hl => ?_, fun q hq hf s ws zs _ hl hz => ?_⟩⟩
  · match us, hl with
    | [u0, u1], _ => exact kwBind F (fun _ _ _ _ _ _ => rfl) s
  · simp only [kwL, List.mem_cons, List.not_mem_nil, or_false] at hq
    rcases hq with rfl
    · cases hf
theorem s_is_move_of : FnScope N_is_move_of (nm.ps 24) (defScope (top 53)) := ⟨by decide +kernel, by decide +kernel, by decide +kernel, by decide +kernel, by decide +kernel, by decide +kernel, by decide +kernel⟩
theorem ok_is_move_of (X : K.In h) (Gm : h.Ns mainGlobals mg) (c : He.SaysD fa fn K) : DefOk K mg nm pg kwL 24 ⟨2, 4, b_is_move_of⟩ := by
  obtain ⟨fd, F⟩ := c.def_ 24 (d := dD 53 "is_move_of") rfl
  have e : mg (nm.fn 24) = some (.ref (He.ga K "is_move_of")) := He.glo_ok X Gm (c.fact 24 (f := .glo "is_move_of") rfl)
  refine ⟨⟨_, fd, _, _, _, _, _, _, _, N_is_move_of, e, F, s_is_move_of, rfl, rfl, c_is_move_of, fun s us _ hl => ?_, fun q hq hf s ws zs _ hl hz => ?_⟩⟩
  · match us, hl with
    | [u0, u1], _ => exact kwBind F (fun _ _ _ _ _ _ => rfl) s
  · simp only [kwL, List.mem_cons, List.not_mem_nil, or_false] at hq
    rcases hq with rfl
    · cases hf
theorem s_moves_of : FnScope N_moves_of (nm.ps 25) (defScope (top 54)) := ⟨by decide +kernel, by decide +kernel, by decide +kernel, by decide +kernel, by decide +kernel, by decide +kernel, by decide +kernel⟩
theorem ok_moves_of (X : K.In h) (Gm : h.Ns mainGlobals mg) (c : He.SaysD fa fn K) : DefOk K mg nm pg kwL 25 ⟨1, 6, b_moves_of⟩ := by
  obtain ⟨fd, F⟩ := c.def_ 25 (d := dD 54 "moves_of") rfl
  have e : mg (nm.fn 25) = some (.ref (He.ga K "moves_of")) := He.glo_ok X Gm (c.fact 25 (f := .glo "moves_of") rfl)
  refine ⟨⟨_, fd, _, _, _, _, _, _, _, N_moves_of, e, F, s_moves_of, rfl, rfl, c_moves_of, fun s us _ hl => ?_, fun q hq hf s ws zs _ hl hz => ?_⟩⟩
  · match us, hl with
    | [u0], _ => exact kwBind F (fun _ _ _ _ _ _ => rfl) s
  · simp only [kwL, List.mem_cons, List.not_mem_nil, or_false] at hq
    rcases hq with rfl
    · cases hf
theorem s_moves : FnScope N_moves (nm.ps 26) (defScope (top 55)) := ⟨by decide +kernel, by decide +kernel, by decide +kernel, by decide +kernel, by decide +kernel, by decide +kernel, by decide +kernel⟩
theorem ok_moves (X : K.In h) (Gm : h.Ns mainGlobals mg) (c : He.SaysD fa fn K) : DefOk K mg nm pg kwL 26 ⟨1, 1, b_moves⟩ := by
  obtain ⟨fd, F⟩ := c.def_ 26 (d := dD 55 "moves") rfl
  have e : mg (nm.fn 26) = some (.ref (He.ga K "moves")) := He.glo_ok X Gm (c.fact 26 (f := .glo "moves") rfl)
  refine ⟨⟨_, fd, _, _, _, _, _, _, _, N_moves, e, F, s_moves, rfl, rfl, c_moves, fun s us _ hl => ?_, fun q hq hf s ws zs _ hl hz => ?_⟩⟩
  · match us, hl with
    | [u0], _ => exact kwBind F (fun _ _ _ _ _ _ => rfl) s
  · simp only [kwL, List.mem_cons, List.not_mem_nil, or_false] at hq
    rcases hq with rfl
    · cases hf
theorem s_kinds_by : FnScope N_kinds_by (nm.ps 27) (defScope (top 58)) := ⟨by decide +kernel, by decide +kernel, by decide +kernel, by decide +kernel, by decide +kernel, by decide +kernel, by decide +kernel⟩
theorem ok_kinds_by (X : K.In h) (Gm : h.Ns mainGlobals mg) (c : He.SaysD fa fn K) : DefOk K mg nm pg kwL 27 ⟨2, 4, b_kinds_by⟩ := by
  obtain ⟨fd, F⟩ := c.def_ 27 (d := dD 58 "kinds_by") rfl
  have e : mg (nm.fn 27) = some (.ref (He.ga K "kinds_by")) := He.glo_ok X Gm (c.fact 27 (f := .glo "kinds_by") rfl)
  refine ⟨⟨_, fd, _, _, _, _, _, _, _, N_kinds_by, e, F, s_kinds_by, rfl, rfl, c_kinds_by, fun s us _ hl => ?_, fun q hq hf s ws zs _ hl hz => ?_⟩⟩
  · match us, hl with
    | [u0, u1], _ => exact kwBind F (fun _ _ _ _ _ _ => rfl) s
  · simp only [kwL, List.mem_cons, List.not_mem_nil, or_false] at hq
    rcases hq with rfl
    · cases hf
theorem s_is_row_of : FnScope N_is_row_of (nm.ps 28) (defScope (top 59)) := ⟨by decide +kernel, by decide +kernel, by decide +kernel, by decide +kernel, by decide +kernel, by decide +kernel, by decide +kernel⟩
theorem ok_is_row_of (X : K.In h) (Gm : h.Ns mainGlobals mg) (c : He.SaysD fa fn K) : DefOk K mg nm pg kwL 28 ⟨2, 3, b_is_row_of⟩ := by
  obtain ⟨fd, F⟩ := c.def_ 28 (d := dD 59 "is_row_of") rfl
  have e : mg (nm.fn 28) = some (.ref (He.ga K "is_row_of")) := He.glo_ok X Gm (c.fact 28 (f := .glo "is_row_of") rfl)
  refine ⟨⟨_, fd, _, _, _, _, _, _, _, N_is_row_of, e, F, s_is_row_of, rfl, rfl, c_is_row_of, fun s us _ hl => ?_, fun q hq hf s ws zs _ hl hz => ?_⟩⟩
  · match us, hl with
    | [u0, u1], _ => exact kwBind F (fun _ _ _ _ _ _ => rfl) s
  · simp only [kwL, List.mem_cons, List.not_mem_nil, or_false] at hq
    rcases hq with rfl
    · cases hf
theorem s_row_undone_of : FnScope N_row_undone_of (nm.ps 29) (defScope (top 60)) := ⟨by decide +kernel, by decide +kernel, by decide +kernel, by decide +kernel, by decide +kernel, by decide +kernel, by decide +kernel⟩
theorem ok_row_undone_of (X : K.In h) (Gm : h.Ns mainGlobals mg) (c : He.SaysD fa fn K) : DefOk K mg nm pg kwL 29 ⟨2, 5, b_row_undone_of⟩ := by
  obtain ⟨fd, F⟩ := c.def_ 29 (d := dD 60 "row_undone_of") rfl
  have e : mg (nm.fn 29) = some (.ref (He.ga K "row_undone_of")) := He.glo_ok X Gm (c.fact 29 (f := .glo "row_undone_of") rfl)
  refine ⟨⟨_, fd, _, _, _, _, _, _, _, N_row_undone_of, e, F, s_row_undone_of, rfl, rfl, c_row_undone_of, fun s us _ hl => ?_, fun q hq hf s ws zs _ hl hz => ?_⟩⟩
  · match us, hl with
    | [u0, u1], _ => exact kwBind F (fun _ _ _ _ _ _ => rfl) s
  · simp only [kwL, List.mem_cons, List.not_mem_nil, or_false] at hq
    rcases hq with rfl
    · cases hf
theorem s_near_moves_of : FnScope N_near_moves_of (nm.ps 30) (defScope (top 66)) := ⟨by decide +kernel, by decide +kernel, by decide +kernel, by decide +kernel, by decide +kernel, by decide +kernel, by decide +kernel⟩
theorem ok_near_moves_of (X : K.In h) (Gm : h.Ns mainGlobals mg) (c : He.SaysD fa fn K) : DefOk K mg nm pg kwL 30 ⟨1, 2, b_near_moves_of⟩ := by
  obtain ⟨fd, F⟩ := c.def_ 30 (d := dD 66 "near_moves_of") rfl
  have e : mg (nm.fn 30) = some (.ref (He.ga K "near_moves_of")) := He.glo_ok X Gm (c.fact 30 (f := .glo "near_moves_of") rfl)
  refine ⟨⟨_, fd, _, _, _, _, _, _, _, N_near_moves_of, e, F, s_near_moves_of, rfl, rfl, c_near_moves_of, fun s us _ hl => ?_, fun q hq hf s ws zs _ hl hz => ?_⟩⟩
  · match us, hl with
    | [u0], _ => exact kwBind F (fun _ _ _ _ _ _ => rfl) s
  · simp only [kwL, List.mem_cons, List.not_mem_nil, or_false] at hq
    rcases hq with rfl
    · cases hf
theorem s_rows_within : FnScope N_rows_within (nm.ps 31) (defScope (top 67)) := ⟨by decide +kernel, by decide +kernel, by decide +kernel, by decide +kernel, by decide +kernel, by decide +kernel, by decide +kernel⟩
theorem ok_rows_within (X : K.In h) (Gm : h.Ns mainGlobals mg) (c : He.SaysD fa fn K) : DefOk K mg nm pg kwL 31 ⟨2, 9, b_rows_within⟩ := by
  obtain ⟨fd, F⟩ := c.def_ 31 (d := dD 67 "rows_within") rfl
  have e : mg (nm.fn 31) = some (.ref (He.ga K "rows_within")) := He.glo_ok X Gm (c.fact 31 (f := .glo "rows_within") rfl)
  refine ⟨⟨_, fd, _, _, _, _, _, _, _, N_rows_within, e, F, s_rows_within, rfl, rfl, c_rows_within, fun s us _ hl => ?_, fun q hq hf s ws zs _ hl hz => ?_⟩⟩
  · match us, hl with
    | [u0, u1], _ => exact kwBind F (fun _ _ _ _ _ _ => rfl) s
  · simp only [kwL, List.mem_cons, List.not_mem_nil, or_false] at hq
    rcases hq with rfl
    · cases hf
theorem s_meeting_row : FnScope N_meeting_row (nm.ps 32) (defScope (top 68)) := ⟨by decide +kernel, by decide +kernel, by decide +kernel, by decide +kernel, by decide +kernel, by decide +kernel, by decide +kernel⟩
theorem ok_meeting_row (X : K.In h) (Gm : h.Ns mainGlobals mg) (c : He.SaysD fa fn K) : DefOk K mg nm pg kwL 32 ⟨4, 8, b_meeting_row⟩ := by
  obtain ⟨fd, F⟩ := c.def_ 32 (d := dD 68 "meeting_row") rfl
  have e : mg (nm.fn 32) = some (.ref (He.ga K "meeting_row")) := He.glo_ok X Gm (c.fact 32 (f := .glo "meeting_row") rfl)
  refine ⟨⟨_, fd, _, _, _, _, _, _, _, N_meeting_row, e, F, s_meeting_row, rfl, rfl, c_meeting_row, fun s us _ hl => ?_, fun q hq hf s ws zs _ hl hz => ?_⟩⟩
  · match us, hl with
    | [u0, u1, u2, u3], _ => exact kwBind F (fun _ _ _ _ _ _ => rfl) s
  · simp only [kwL, List.mem_cons, List.not_mem_nil, or_false] at hq
    rcases hq with rfl
    · cases hf
theorem s_shortest_row : FnScope N_shortest_row (nm.ps 33) (defScope (top 69)) := ⟨by decide +kernel, by decide +kernel, by decide +kernel, by decide +kernel, by decide +kernel, by decide +kernel, by decide +kernel⟩
theorem ok_shortest_row (X : K.In h) (Gm : h.Ns mainGlobals mg) (c : He.SaysD fa fn K) : DefOk K mg nm pg kwL 33 ⟨3, 4, b_shortest_row⟩ := by
  obtain ⟨fd, F⟩ := c.def_ 33 (d := dD 69 "shortest_row") rfl
  have e : mg (nm.fn 33) = some (.ref (He.ga K "shortest_row")) := He.glo_ok X Gm (c.fact 33 (f := .glo "shortest_row") rfl)
  refine ⟨⟨_, fd, _, _, _, _, _, _, _, N_shortest_row, e, F, s_shortest_row, rfl, rfl, c_shortest_row, fun s us _ hl => ?_, fun q hq hf s ws zs _ hl hz => ?_⟩⟩
  · match us, hl with
    | [u0, u1, u2], _ => exact kwBind F (fun _ _ _ _ _ _ => rfl) s
  · simp only [kwL, List.mem_cons, List.not_mem_nil, or_false] at hq
    rcases hq with rfl
    · cases hf
theorem s_want_within : FnScope N_want_within (nm.ps 34) (defScope (top 70)) := ⟨by decide +kernel, by decide +kernel, by decide +kernel, by decide +kernel, by decide +kernel, by decide +kernel, by decide +kernel⟩
theorem ok_want_within (X : K.In h) (Gm : h.Ns mainGlobals mg) (c : He.SaysD fa fn K) : DefOk K mg nm pg kwL 34 ⟨2, 2, b_want_within⟩ := by
  obtain ⟨fd, F⟩ := c.def_ 34 (d := dD 70 "want_within") rfl
  have e : mg (nm.fn 34) = some (.ref (He.ga K "want_within")) := He.glo_ok X Gm (c.fact 34 (f := .glo "want_within") rfl)
  refine ⟨⟨_, fd, _, _, _, _, _, _, _, N_want_within, e, F, s_want_within, rfl, rfl, c_want_within, fun s us _ hl => ?_, fun q hq hf s ws zs _ hl hz => ?_⟩⟩
  · match us, hl with
    | [u0, u1], _ => exact kwBind F (fun _ _ _ _ _ _ => rfl) s
  · simp only [kwL, List.mem_cons, List.not_mem_nil, or_false] at hq
    rcases hq with rfl
    · cases hf
theorem s_want_narrow : FnScope N_want_narrow (nm.ps 35) (defScope (top 71)) := ⟨by decide +kernel, by decide +kernel, by decide +kernel, by decide +kernel, by decide +kernel, by decide +kernel, by decide +kernel⟩
theorem ok_want_narrow (X : K.In h) (Gm : h.Ns mainGlobals mg) (c : He.SaysD fa fn K) : DefOk K mg nm pg kwL 35 ⟨1, 1, b_want_narrow⟩ := by
  obtain ⟨fd, F⟩ := c.def_ 35 (d := dD 71 "want_narrow") rfl
  have e : mg (nm.fn 35) = some (.ref (He.ga K "want_narrow")) := He.glo_ok X Gm (c.fact 35 (f := .glo "want_narrow") rfl)
  refine ⟨⟨_, fd, _, _, _, _, _, _, _, N_want_narrow, e, F, s_want_narrow, rfl, rfl, c_want_narrow, fun s us _ hl => ?_, fun q hq hf s ws zs _ hl hz => ?_⟩⟩
  · match us, hl with
    | [u0], _ => exact kwBind F (fun _ _ _ _ _ _ => rfl) s
  · simp only [kwL, List.mem_cons, List.not_mem_nil, or_false] at hq
    rcases hq with rfl
    · cases hf
theorem s_want_both : FnScope N_want_both (nm.ps 36) (defScope (top 72)) := ⟨by decide +kernel, by decide +kernel, by decide +kernel, by decide +kernel, by decide +kernel, by decide +kernel, by decide +kernel⟩
theorem ok_want_both (X : K.In h) (Gm : h.Ns mainGlobals mg) (c : He.SaysD fa fn K) : DefOk K mg nm pg kwL 36 ⟨3, 3, b_want_both⟩ := by
  obtain ⟨fd, F⟩ := c.def_ 36 (d := dD 72 "want_both") rfl
  have e : mg (nm.fn 36) = some (.ref (He.ga K "want_both")) := He.glo_ok X Gm (c.fact 36 (f := .glo "want_both") rfl)
  refine ⟨⟨_, fd, _, _, _, _, _, _, _, N_want_both, e, F, s_want_both, rfl, rfl, c_want_both, fun s us _ hl => ?_, fun q hq hf s ws zs _ hl hz => ?_⟩⟩
  · match us, hl with
    | [u0, u1, u2], _ => exact kwBind F (fun _ _ _ _ _ _ => rfl) s
  · simp only [kwL, List.mem_cons, List.not_mem_nil, or_false] at hq
    rcases hq with rfl
    · cases hf
theorem s_near_paper : FnScope N_near_paper (nm.ps 37) (defScope (top 73)) := ⟨by decide +kernel, by decide +kernel, by decide +kernel, by decide +kernel, by decide +kernel, by decide +kernel, by decide +kernel⟩
theorem ok_near_paper (X : K.In h) (Gm : h.Ns mainGlobals mg) (c : He.SaysD fa fn K) : DefOk K mg nm pg kwL 37 ⟨3, 4, b_near_paper⟩ := by
  obtain ⟨fd, F⟩ := c.def_ 37 (d := dD 73 "near_paper") rfl
  have e : mg (nm.fn 37) = some (.ref (He.ga K "near_paper")) := He.glo_ok X Gm (c.fact 37 (f := .glo "near_paper") rfl)
  refine ⟨⟨_, fd, _, _, _, _, _, _, _, N_near_paper, e, F, s_near_paper, rfl, rfl, c_near_paper, fun s us _ hl => ?_, fun q hq hf s ws zs _ hl hz => ?_⟩⟩
  · match us, hl with
    | [u0, u1, u2], _ => exact kwBind F (fun _ _ _ _ _ _ => rfl) s
  · simp only [kwL, List.mem_cons, List.not_mem_nil, or_false] at hq
    rcases hq with rfl
    · cases hf
theorem s_is_near_paper : FnScope N_is_near_paper (nm.ps 38) (defScope (top 74)) := ⟨by decide +kernel, by decide +kernel, by decide +kernel, by decide +kernel, by decide +kernel, by decide +kernel, by decide +kernel⟩
theorem ok_is_near_paper (X : K.In h) (Gm : h.Ns mainGlobals mg) (c : He.SaysD fa fn K) : DefOk K mg nm pg kwL 38 ⟨4, 6, b_is_near_paper⟩ := by
  obtain ⟨fd, F⟩ := c.def_ 38 (d := dD 74 "is_near_paper") rfl
  have e : mg (nm.fn 38) = some (.ref (He.ga K "is_near_paper")) := He.glo_ok X Gm (c.fact 38 (f := .glo "is_near_paper") rfl)
  refine ⟨⟨_, fd, _, _, _, _, _, _, _, N_is_near_paper, e, F, s_is_near_paper, rfl, rfl, c_is_near_paper, fun s us _ hl => ?_, fun q hq hf s ws zs _ hl hz => ?_⟩⟩
  · match us, hl with
    | [u0, u1, u2, u3], _ => exact kwBind F (fun _ _ _ _ _ _ => rfl) s
  · simp only [kwL, List.mem_cons, List.not_mem_nil, or_false] at hq
    rcases hq with rfl
    · match ws, hl, hz with
      | [w0, w1, w2, w3], _, hz =>
        obtain rfl : [w3, w2, w1, w0] = zs := Option.some.inj hz
        exact kwBind F (fun _ _ _ _ _ _ => rfl) s
theorem s__law_pot : FnScope N__law_pot (nm.ps 39) (defScope (top 76)) := ⟨by decide +kernel, by decide +kernel, by decide +kernel, by decide +kernel, by decide +kernel, by decide +kernel, by decide +kernel⟩
theorem ok__law_pot (X : K.In h) (Gm : h.Ns mainGlobals mg) (c : He.SaysD fa fn K) : DefOk K mg nm pg kwL 39 ⟨2, 3, b__law_pot⟩ := by
  obtain ⟨fd, F⟩ := c.def_ 39 (d := dD 76 "_law_pot") rfl
  have e : mg (nm.fn 39) = some (.ref (He.ga K "_law_pot")) := He.glo_ok X Gm (c.fact 39 (f := .glo "_law_pot") rfl)
  refine ⟨⟨_, fd, _, _, _, _, _, _, _, N__law_pot, e, F, s__law_pot, rfl, rfl, c__law_pot, fun s us _ hl => ?_, fun q hq hf s ws zs _ hl hz => ?_⟩⟩
  · match us, hl with
    | [u0, u1], _ => exact kwBind F (fun _ _ _ _ _ _ => rfl) s
  · simp only [kwL, List.mem_cons, List.not_mem_nil, or_false] at hq
    rcases hq with rfl
    · cases hf
theorem s__law_draw : FnScope N__law_draw (nm.ps 40) (defScope (top 77)) := ⟨by decide +kernel, by decide +kernel, by decide +kernel, by decide +kernel, by decide +kernel, by decide +kernel, by decide +kernel⟩
theorem ok__law_draw (X : K.In h) (Gm : h.Ns mainGlobals mg) (c : He.SaysD fa fn K) : DefOk K mg nm pg kwL 40 ⟨2, 3, b__law_draw⟩ := by
  obtain ⟨fd, F⟩ := c.def_ 40 (d := dD 77 "_law_draw") rfl
  have e : mg (nm.fn 40) = some (.ref (He.ga K "_law_draw")) := He.glo_ok X Gm (c.fact 40 (f := .glo "_law_draw") rfl)
  refine ⟨⟨_, fd, _, _, _, _, _, _, _, N__law_draw, e, F, s__law_draw, rfl, rfl, c__law_draw, fun s us _ hl => ?_, fun q hq hf s ws zs _ hl hz => ?_⟩⟩
  · match us, hl with
    | [u0, u1], _ => exact kwBind F (fun _ _ _ _ _ _ => rfl) s
  · simp only [kwL, List.mem_cons, List.not_mem_nil, or_false] at hq
    rcases hq with rfl
    · cases hf
theorem s__law_pick : FnScope N__law_pick (nm.ps 41) (defScope (top 78)) := ⟨by decide +kernel, by decide +kernel, by decide +kernel, by decide +kernel, by decide +kernel, by decide +kernel, by decide +kernel⟩
theorem ok__law_pick (X : K.In h) (Gm : h.Ns mainGlobals mg) (c : He.SaysD fa fn K) : DefOk K mg nm pg kwL 41 ⟨2, 2, b__law_pick⟩ := by
  obtain ⟨fd, F⟩ := c.def_ 41 (d := dD 78 "_law_pick") rfl
  have e : mg (nm.fn 41) = some (.ref (He.ga K "_law_pick")) := He.glo_ok X Gm (c.fact 41 (f := .glo "_law_pick") rfl)
  refine ⟨⟨_, fd, _, _, _, _, _, _, _, N__law_pick, e, F, s__law_pick, rfl, rfl, c__law_pick, fun s us _ hl => ?_, fun q hq hf s ws zs _ hl hz => ?_⟩⟩
  · match us, hl with
    | [u0, u1], _ => exact kwBind F (fun _ _ _ _ _ _ => rfl) s
  · simp only [kwL, List.mem_cons, List.not_mem_nil, or_false] at hq
    rcases hq with rfl
    · cases hf
theorem s__law_kind : FnScope N__law_kind (nm.ps 42) (defScope (top 79)) := ⟨by decide +kernel, by decide +kernel, by decide +kernel, by decide +kernel, by decide +kernel, by decide +kernel, by decide +kernel⟩
theorem ok__law_kind (X : K.In h) (Gm : h.Ns mainGlobals mg) (c : He.SaysD fa fn K) : DefOk K mg nm pg kwL 42 ⟨3, 4, b__law_kind⟩ := by
  obtain ⟨fd, F⟩ := c.def_ 42 (d := dD 79 "_law_kind") rfl
  have e : mg (nm.fn 42) = some (.ref (He.ga K "_law_kind")) := He.glo_ok X Gm (c.fact 42 (f := .glo "_law_kind") rfl)
  refine ⟨⟨_, fd, _, _, _, _, _, _, _, N__law_kind, e, F, s__law_kind, rfl, rfl, c__law_kind, fun s us _ hl => ?_, fun q hq hf s ws zs _ hl hz => ?_⟩⟩
  · match us, hl with
    | [u0, u1, u2], _ => exact kwBind F (fun _ _ _ _ _ _ => rfl) s
  · simp only [kwL, List.mem_cons, List.not_mem_nil, or_false] at hq
    rcases hq with rfl
    · cases hf
theorem s__law_small : FnScope N__law_small (nm.ps 43) (defScope (top 80)) := ⟨by decide +kernel, by decide +kernel, by decide +kernel, by decide +kernel, by decide +kernel, by decide +kernel, by decide +kernel⟩
theorem ok__law_small (X : K.In h) (Gm : h.Ns mainGlobals mg) (c : He.SaysD fa fn K) : DefOk K mg nm pg kwL 43 ⟨4, 6, b__law_small⟩ := by
  obtain ⟨fd, F⟩ := c.def_ 43 (d := dD 80 "_law_small") rfl
  have e : mg (nm.fn 43) = some (.ref (He.ga K "_law_small")) := He.glo_ok X Gm (c.fact 43 (f := .glo "_law_small") rfl)
  refine ⟨⟨_, fd, _, _, _, _, _, _, _, N__law_small, e, F, s__law_small, rfl, rfl, c__law_small, fun s us _ hl => ?_, fun q hq hf s ws zs _ hl hz => ?_⟩⟩
  · match us, hl with
    | [u0, u1, u2, u3], _ => exact kwBind F (fun _ _ _ _ _ _ => rfl) s
  · simp only [kwL, List.mem_cons, List.not_mem_nil, or_false] at hq
    rcases hq with rfl
    · cases hf
theorem s__law_width : FnScope N__law_width (nm.ps 44) (defScope (top 81)) := ⟨by decide +kernel, by decide +kernel, by decide +kernel, by decide +kernel, by decide +kernel, by decide +kernel, by decide +kernel⟩
theorem ok__law_width (X : K.In h) (Gm : h.Ns mainGlobals mg) (c : He.SaysD fa fn K) : DefOk K mg nm pg kwL 44 ⟨1, 1, b__law_width⟩ := by
  obtain ⟨fd, F⟩ := c.def_ 44 (d := dD 81 "_law_width") rfl
  have e : mg (nm.fn 44) = some (.ref (He.ga K "_law_width")) := He.glo_ok X Gm (c.fact 44 (f := .glo "_law_width") rfl)
  refine ⟨⟨_, fd, _, _, _, _, _, _, _, N__law_width, e, F, s__law_width, rfl, rfl, c__law_width, fun s us _ hl => ?_, fun q hq hf s ws zs _ hl hz => ?_⟩⟩
  · match us, hl with
    | [u0], _ => exact kwBind F (fun _ _ _ _ _ _ => rfl) s
  · simp only [kwL, List.mem_cons, List.not_mem_nil, or_false] at hq
    rcases hq with rfl
    · cases hf
theorem s__law_names : FnScope N__law_names (nm.ps 45) (defScope (top 82)) := ⟨by decide +kernel, by decide +kernel, by decide +kernel, by decide +kernel, by decide +kernel, by decide +kernel, by decide +kernel⟩
theorem ok__law_names (X : K.In h) (Gm : h.Ns mainGlobals mg) (c : He.SaysD fa fn K) : DefOk K mg nm pg kwL 45 ⟨1, 1, b__law_names⟩ := by
  obtain ⟨fd, F⟩ := c.def_ 45 (d := dD 82 "_law_names") rfl
  have e : mg (nm.fn 45) = some (.ref (He.ga K "_law_names")) := He.glo_ok X Gm (c.fact 45 (f := .glo "_law_names") rfl)
  refine ⟨⟨_, fd, _, _, _, _, _, _, _, N__law_names, e, F, s__law_names, rfl, rfl, c__law_names, fun s us _ hl => ?_, fun q hq hf s ws zs _ hl hz => ?_⟩⟩
  · match us, hl with
    | [u0], _ => exact kwBind F (fun _ _ _ _ _ _ => rfl) s
  · simp only [kwL, List.mem_cons, List.not_mem_nil, or_false] at hq
    rcases hq with rfl
    · cases hf
theorem s__law_shape : FnScope N__law_shape (nm.ps 46) (defScope (top 83)) := ⟨by decide +kernel, by decide +kernel, by decide +kernel, by decide +kernel, by decide +kernel, by decide +kernel, by decide +kernel⟩
theorem ok__law_shape (X : K.In h) (Gm : h.Ns mainGlobals mg) (c : He.SaysD fa fn K) : DefOk K mg nm pg kwL 46 ⟨1, 5, b__law_shape⟩ := by
  obtain ⟨fd, F⟩ := c.def_ 46 (d := dD 83 "_law_shape") rfl
  have e : mg (nm.fn 46) = some (.ref (He.ga K "_law_shape")) := He.glo_ok X Gm (c.fact 46 (f := .glo "_law_shape") rfl)
  refine ⟨⟨_, fd, _, _, _, _, _, _, _, N__law_shape, e, F, s__law_shape, rfl, rfl, c__law_shape, fun s us _ hl => ?_, fun q hq hf s ws zs _ hl hz => ?_⟩⟩
  · match us, hl with
    | [u0], _ => exact kwBind F (fun _ _ _ _ _ _ => rfl) s
  · simp only [kwL, List.mem_cons, List.not_mem_nil, or_false] at hq
    rcases hq with rfl
    · cases hf
theorem s__law_turned : FnScope N__law_turned (nm.ps 47) (defScope (top 84)) := ⟨by decide +kernel, by decide +kernel, by decide +kernel, by decide +kernel, by decide +kernel, by decide +kernel, by decide +kernel⟩
theorem ok__law_turned (X : K.In h) (Gm : h.Ns mainGlobals mg) (c : He.SaysD fa fn K) : DefOk K mg nm pg kwL 47 ⟨2, 4, b__law_turned⟩ := by
  obtain ⟨fd, F⟩ := c.def_ 47 (d := dD 84 "_law_turned") rfl
  have e : mg (nm.fn 47) = some (.ref (He.ga K "_law_turned")) := He.glo_ok X Gm (c.fact 47 (f := .glo "_law_turned") rfl)
  refine ⟨⟨_, fd, _, _, _, _, _, _, _, N__law_turned, e, F, s__law_turned, rfl, rfl, c__law_turned, fun s us _ hl => ?_, fun q hq hf s ws zs _ hl hz => ?_⟩⟩
  · match us, hl with
    | [u0, u1], _ => exact kwBind F (fun _ _ _ _ _ _ => rfl) s
  · simp only [kwL, List.mem_cons, List.not_mem_nil, or_false] at hq
    rcases hq with rfl
    · cases hf
theorem s__law_deep : FnScope N__law_deep (nm.ps 48) (defScope (top 85)) := ⟨by decide +kernel, by decide +kernel, by decide +kernel, by decide +kernel, by decide +kernel, by decide +kernel, by decide +kernel⟩
theorem ok__law_deep (X : K.In h) (Gm : h.Ns mainGlobals mg) (c : He.SaysD fa fn K) : DefOk K mg nm pg kwL 48 ⟨1, 1, b__law_deep⟩ := by
  obtain ⟨fd, F⟩ := c.def_ 48 (d := dD 85 "_law_deep") rfl
  have e : mg (nm.fn 48) = some (.ref (He.ga K "_law_deep")) := He.glo_ok X Gm (c.fact 48 (f := .glo "_law_deep") rfl)
  refine ⟨⟨_, fd, _, _, _, _, _, _, _, N__law_deep, e, F, s__law_deep, rfl, rfl, c__law_deep, fun s us _ hl => ?_, fun q hq hf s ws zs _ hl hz => ?_⟩⟩
  · match us, hl with
    | [u0], _ => exact kwBind F (fun _ _ _ _ _ _ => rfl) s
  · simp only [kwL, List.mem_cons, List.not_mem_nil, or_false] at hq
    rcases hq with rfl
    · cases hf
theorem s__law_is_fit : FnScope N__law_is_fit (nm.ps 49) (defScope (top 86)) := ⟨by decide +kernel, by decide +kernel, by decide +kernel, by decide +kernel, by decide +kernel, by decide +kernel, by decide +kernel⟩
theorem ok__law_is_fit (X : K.In h) (Gm : h.Ns mainGlobals mg) (c : He.SaysD fa fn K) : DefOk K mg nm pg kwL 49 ⟨1, 1, b__law_is_fit⟩ := by
  obtain ⟨fd, F⟩ := c.def_ 49 (d := dD 86 "_law_is_fit") rfl
  have e : mg (nm.fn 49) = some (.ref (He.ga K "_law_is_fit")) := He.glo_ok X Gm (c.fact 49 (f := .glo "_law_is_fit") rfl)
  refine ⟨⟨_, fd, _, _, _, _, _, _, _, N__law_is_fit, e, F, s__law_is_fit, rfl, rfl, c__law_is_fit, fun s us _ hl => ?_, fun q hq hf s ws zs _ hl hz => ?_⟩⟩
  · match us, hl with
    | [u0], _ => exact kwBind F (fun _ _ _ _ _ _ => rfl) s
  · simp only [kwL, List.mem_cons, List.not_mem_nil, or_false] at hq
    rcases hq with rfl
    · cases hf
theorem s__law_forth : FnScope N__law_forth (nm.ps 50) (defScope (top 87)) := ⟨by decide +kernel, by decide +kernel, by decide +kernel, by decide +kernel, by decide +kernel, by decide +kernel, by decide +kernel⟩
theorem ok__law_forth (X : K.In h) (Gm : h.Ns mainGlobals mg) (c : He.SaysD fa fn K) : DefOk K mg nm pg kwL 50 ⟨2, 4, b__law_forth⟩ := by
  obtain ⟨fd, F⟩ := c.def_ 50 (d := dD 87 "_law_forth") rfl
  have e : mg (nm.fn 50) = some (.ref (He.ga K "_law_forth")) := He.glo_ok X Gm (c.fact 50 (f := .glo "_law_forth") rfl)
  refine ⟨⟨_, fd, _, _, _, _, _, _, _, N__law_forth, e, F, s__law_forth, rfl, rfl, c__law_forth, fun s us _ hl => ?_, fun q hq hf s ws zs _ hl hz => ?_⟩⟩
  · match us, hl with
    | [u0, u1], _ => exact kwBind F (fun _ _ _ _ _ _ => rfl) s
  · simp only [kwL, List.mem_cons, List.not_mem_nil, or_false] at hq
    rcases hq with rfl
    · cases hf
theorem s__law_back : FnScope N__law_back (nm.ps 51) (defScope (top 88)) := ⟨by decide +kernel, by decide +kernel, by decide +kernel, by decide +kernel, by decide +kernel, by decide +kernel, by decide +kernel⟩
theorem ok__law_back (X : K.In h) (Gm : h.Ns mainGlobals mg) (c : He.SaysD fa fn K) : DefOk K mg nm pg kwL 51 ⟨2, 2, b__law_back⟩ := by
  obtain ⟨fd, F⟩ := c.def_ 51 (d := dD 88 "_law_back") rfl
  have e : mg (nm.fn 51) = some (.ref (He.ga K "_law_back")) := He.glo_ok X Gm (c.fact 51 (f := .glo "_law_back") rfl)
  refine ⟨⟨_, fd, _, _, _, _, _, _, _, N__law_back, e, F, s__law_back, rfl, rfl, c__law_back, fun s us _ hl => ?_, fun q hq hf s ws zs _ hl hz => ?_⟩⟩
  · match us, hl with
    | [u0, u1], _ => exact kwBind F (fun _ _ _ _ _ _ => rfl) s
  · simp only [kwL, List.mem_cons, List.not_mem_nil, or_false] at hq
    rcases hq with rfl
    · cases hf
theorem s__law_paths : FnScope N__law_paths (nm.ps 52) (defScope (top 89)) := ⟨by decide +kernel, by decide +kernel, by decide +kernel, by decide +kernel, by decide +kernel, by decide +kernel, by decide +kernel⟩
theorem ok__law_paths (X : K.In h) (Gm : h.Ns mainGlobals mg) (c : He.SaysD fa fn K) : DefOk K mg nm pg kwL 52 ⟨1, 2, b__law_paths⟩ := by
  obtain ⟨fd, F⟩ := c.def_ 52 (d := dD 89 "_law_paths") rfl
  have e : mg (nm.fn 52) = some (.ref (He.ga K "_law_paths")) := He.glo_ok X Gm (c.fact 52 (f := .glo "_law_paths") rfl)
  refine ⟨⟨_, fd, _, _, _, _, _, _, _, N__law_paths, e, F, s__law_paths, rfl, rfl, c__law_paths, fun s us _ hl => ?_, fun q hq hf s ws zs _ hl hz => ?_⟩⟩
  · match us, hl with
    | [u0], _ => exact kwBind F (fun _ _ _ _ _ _ => rfl) s
  · simp only [kwL, List.mem_cons, List.not_mem_nil, or_false] at hq
    rcases hq with rfl
    · cases hf
theorem s__law_at : FnScope N__law_at (nm.ps 53) (defScope (top 90)) := ⟨by decide +kernel, by decide +kernel, by decide +kernel, by decide +kernel, by decide +kernel, by decide +kernel, by decide +kernel⟩
theorem ok__law_at (X : K.In h) (Gm : h.Ns mainGlobals mg) (c : He.SaysD fa fn K) : DefOk K mg nm pg kwL 53 ⟨2, 3, b__law_at⟩ := by
  obtain ⟨fd, F⟩ := c.def_ 53 (d := dD 90 "_law_at") rfl
  have e : mg (nm.fn 53) = some (.ref (He.ga K "_law_at")) := He.glo_ok X Gm (c.fact 53 (f := .glo "_law_at") rfl)
  refine ⟨⟨_, fd, _, _, _, _, _, _, _, N__law_at, e, F, s__law_at, rfl, rfl, c__law_at, fun s us _ hl => ?_, fun q hq hf s ws zs _ hl hz => ?_⟩⟩
  · match us, hl with
    | [u0, u1], _ => exact kwBind F (fun _ _ _ _ _ _ => rfl) s
  · simp only [kwL, List.mem_cons, List.not_mem_nil, or_false] at hq
    rcases hq with rfl
    · cases hf
theorem s__law_put : FnScope N__law_put (nm.ps 54) (defScope (top 91)) := ⟨by decide +kernel, by decide +kernel, by decide +kernel, by decide +kernel, by decide +kernel, by decide +kernel, by decide +kernel⟩
theorem ok__law_put (X : K.In h) (Gm : h.Ns mainGlobals mg) (c : He.SaysD fa fn K) : DefOk K mg nm pg kwL 54 ⟨3, 4, b__law_put⟩ := by
  obtain ⟨fd, F⟩ := c.def_ 54 (d := dD 91 "_law_put") rfl
  have e : mg (nm.fn 54) = some (.ref (He.ga K "_law_put")) := He.glo_ok X Gm (c.fact 54 (f := .glo "_law_put") rfl)
  refine ⟨⟨_, fd, _, _, _, _, _, _, _, N__law_put, e, F, s__law_put, rfl, rfl, c__law_put, fun s us _ hl => ?_, fun q hq hf s ws zs _ hl hz => ?_⟩⟩
  · match us, hl with
    | [u0, u1, u2], _ => exact kwBind F (fun _ _ _ _ _ _ => rfl) s
  · simp only [kwL, List.mem_cons, List.not_mem_nil, or_false] at hq
    rcases hq with rfl
    · cases hf
theorem s__law_moved : FnScope N__law_moved (nm.ps 55) (defScope (top 92)) := ⟨by decide +kernel, by decide +kernel, by decide +kernel, by decide +kernel, by decide +kernel, by decide +kernel, by decide +kernel⟩
theorem ok__law_moved (X : K.In h) (Gm : h.Ns mainGlobals mg) (c : He.SaysD fa fn K) : DefOk K mg nm pg kwL 55 ⟨2, 5, b__law_moved⟩ := by
  obtain ⟨fd, F⟩ := c.def_ 55 (d := dD 92 "_law_moved") rfl
  have e : mg (nm.fn 55) = some (.ref (He.ga K "_law_moved")) := He.glo_ok X Gm (c.fact 55 (f := .glo "_law_moved") rfl)
  refine ⟨⟨_, fd, _, _, _, _, _, _, _, N__law_moved, e, F, s__law_moved, rfl, rfl, c__law_moved, fun s us _ hl => ?_, fun q hq hf s ws zs _ hl hz => ?_⟩⟩
  · match us, hl with
    | [u0, u1], _ => exact kwBind F (fun _ _ _ _ _ _ => rfl) s
  · simp only [kwL, List.mem_cons, List.not_mem_nil, or_false] at hq
    rcases hq with rfl
    · cases hf
theorem s__law_near : FnScope N__law_near (nm.ps 56) (defScope (top 93)) := ⟨by decide +kernel, by decide +kernel, by decide +kernel, by decide +kernel, by decide +kernel, by decide +kernel, by decide +kernel⟩
theorem ok__law_near (X : K.In h) (Gm : h.Ns mainGlobals mg) (c : He.SaysD fa fn K) : DefOk K mg nm pg kwL 56 ⟨1, 5, b__law_near⟩ := by
  obtain ⟨fd, F⟩ := c.def_ 56 (d := dD 93 "_law_near") rfl
  have e : mg (nm.fn 56) = some (.ref (He.ga K "_law_near")) := He.glo_ok X Gm (c.fact 56 (f := .glo "_law_near") rfl)
  refine ⟨⟨_, fd, _, _, _, _, _, _, _, N__law_near, e, F, s__law_near, rfl, rfl, c__law_near, fun s us _ hl => ?_, fun q hq hf s ws zs _ hl hz => ?_⟩⟩
  · match us, hl with
    | [u0], _ => exact kwBind F (fun _ _ _ _ _ _ => rfl) s
  · simp only [kwL, List.mem_cons, List.not_mem_nil, or_false] at hq
    rcases hq with rfl
    · cases hf
theorem s__law_ball : FnScope N__law_ball (nm.ps 57) (defScope (top 94)) := ⟨by decide +kernel, by decide +kernel, by decide +kernel, by decide +kernel, by decide +kernel, by decide +kernel, by decide +kernel⟩
theorem ok__law_ball (X : K.In h) (Gm : h.Ns mainGlobals mg) (c : He.SaysD fa fn K) : DefOk K mg nm pg kwL 57 ⟨2, 9, b__law_ball⟩ := by
  obtain ⟨fd, F⟩ := c.def_ 57 (d := dD 94 "_law_ball") rfl
  have e : mg (nm.fn 57) = some (.ref (He.ga K "_law_ball")) := He.glo_ok X Gm (c.fact 57 (f := .glo "_law_ball") rfl)
  refine ⟨⟨_, fd, _, _, _, _, _, _, _, N__law_ball, e, F, s__law_ball, rfl, rfl, c__law_ball, fun s us _ hl => ?_, fun q hq hf s ws zs _ hl hz => ?_⟩⟩
  · match us, hl with
    | [u0, u1], _ => exact kwBind F (fun _ _ _ _ _ _ => rfl) s
  · simp only [kwL, List.mem_cons, List.not_mem_nil, or_false] at hq
    rcases hq with rfl
    · cases hf
theorem s__law_distance : FnScope N__law_distance (nm.ps 58) (defScope (top 95)) := ⟨by decide +kernel, by decide +kernel, by decide +kernel, by decide +kernel, by decide +kernel, by decide +kernel, by decide +kernel⟩
theorem ok__law_distance (X : K.In h) (Gm : h.Ns mainGlobals mg) (c : He.SaysD fa fn K) : DefOk K mg nm pg kwL 58 ⟨3, 7, b__law_distance⟩ := by
  obtain ⟨fd, F⟩ := c.def_ 58 (d := dD 95 "_law_distance") rfl
  have e : mg (nm.fn 58) = some (.ref (He.ga K "_law_distance")) := He.glo_ok X Gm (c.fact 58 (f := .glo "_law_distance") rfl)
  refine ⟨⟨_, fd, _, _, _, _, _, _, _, N__law_distance, e, F, s__law_distance, rfl, rfl, c__law_distance, fun s us _ hl => ?_, fun q hq hf s ws zs _ hl hz => ?_⟩⟩
  · match us, hl with
    | [u0, u1, u2], _ => exact kwBind F (fun _ _ _ _ _ _ => rfl) s
  · simp only [kwL, List.mem_cons, List.not_mem_nil, or_false] at hq
    rcases hq with rfl
    · cases hf
theorem s__law_bent : FnScope N__law_bent (nm.ps 59) (defScope (top 96)) := ⟨by decide +kernel, by decide +kernel, by decide +kernel, by decide +kernel, by decide +kernel, by decide +kernel, by decide +kernel⟩
theorem ok__law_bent (X : K.In h) (Gm : h.Ns mainGlobals mg) (c : He.SaysD fa fn K) : DefOk K mg nm pg kwL 59 ⟨2, 4, b__law_bent⟩ := by
  obtain ⟨fd, F⟩ := c.def_ 59 (d := dD 96 "_law_bent") rfl
  have e : mg (nm.fn 59) = some (.ref (He.ga K "_law_bent")) := He.glo_ok X Gm (c.fact 59 (f := .glo "_law_bent") rfl)
  refine ⟨⟨_, fd, _, _, _, _, _, _, _, N__law_bent, e, F, s__law_bent, rfl, rfl, c__law_bent, fun s us _ hl => ?_, fun q hq hf s ws zs _ hl hz => ?_⟩⟩
  · match us, hl with
    | [u0, u1], _ => exact kwBind F (fun _ _ _ _ _ _ => rfl) s
  · simp only [kwL, List.mem_cons, List.not_mem_nil, or_false] at hq
    rcases hq with rfl
    · cases hf
theorem s__law_is_row : FnScope N__law_is_row (nm.ps 60) (defScope (top 97)) := ⟨by decide +kernel, by decide +kernel, by decide +kernel, by decide +kernel, by decide +kernel, by decide +kernel, by decide +kernel⟩
theorem ok__law_is_row (X : K.In h) (Gm : h.Ns mainGlobals mg) (c : He.SaysD fa fn K) : DefOk K mg nm pg kwL 60 ⟨3, 5, b__law_is_row⟩ := by
  obtain ⟨fd, F⟩ := c.def_ 60 (d := dD 97 "_law_is_row") rfl
  have e : mg (nm.fn 60) = some (.ref (He.ga K "_law_is_row")) := He.glo_ok X Gm (c.fact 60 (f := .glo "_law_is_row") rfl)
  refine ⟨⟨_, fd, _, _, _, _, _, _, _, N__law_is_row, e, F, s__law_is_row, rfl, rfl, c__law_is_row, fun s us _ hl => ?_, fun q hq hf s ws zs _ hl hz => ?_⟩⟩
  · match us, hl with
    | [u0, u1, u2], _ => exact kwBind F (fun _ _ _ _ _ _ => rfl) s
  · simp only [kwL, List.mem_cons, List.not_mem_nil, or_false] at hq
    rcases hq with rfl
    · cases hf
theorem s__law_is_paper : FnScope N__law_is_paper (nm.ps 61) (defScope (top 98)) := ⟨by decide +kernel, by decide +kernel, by decide +kernel, by decide +kernel, by decide +kernel, by decide +kernel, by decide +kernel⟩
theorem ok__law_is_paper (X : K.In h) (Gm : h.Ns mainGlobals mg) (c : He.SaysD fa fn K) : DefOk K mg nm pg kwL 61 ⟨4, 4, b__law_is_paper⟩ := by
  obtain ⟨fd, F⟩ := c.def_ 61 (d := dD 98 "_law_is_paper") rfl
  have e : mg (nm.fn 61) = some (.ref (He.ga K "_law_is_paper")) := He.glo_ok X Gm (c.fact 61 (f := .glo "_law_is_paper") rfl)
  refine ⟨⟨_, fd, _, _, _, _, _, _, _, N__law_is_paper, e, F, s__law_is_paper, rfl, rfl, c__law_is_paper, fun s us _ hl => ?_, fun q hq hf s ws zs _ hl hz => ?_⟩⟩
  · match us, hl with
    | [u0, u1, u2, u3], _ => exact kwBind F (fun _ _ _ _ _ _ => rfl) s
  · simp only [kwL, List.mem_cons, List.not_mem_nil, or_false] at hq
    rcases hq with rfl
    · cases hf
theorem s_law : FnScope N_law (nm.ps 62) (defScope (top 99)) := ⟨by decide +kernel, by decide +kernel, by decide +kernel, by decide +kernel, by decide +kernel, by decide +kernel, by decide +kernel⟩
theorem ok_law (X : K.In h) (Gm : h.Ns mainGlobals mg) (c : He.SaysD fa fn K) : DefOk K mg nm pg kwL 62 ⟨1, 16, b_law⟩ := by
  obtain ⟨fd, F⟩ := c.def_ 62 (d := dD 99 "law") rfl
  have e : mg (nm.fn 62) = some (.ref (He.ga K "law")) := He.glo_ok X Gm (c.fact 62 (f := .glo "law") rfl)
  refine ⟨⟨_, fd, _, _, _, _, _, _, _, N_law, e, F, s_law, rfl, rfl, c_law, fun s us _ hl => ?_, fun q hq hf s ws zs _ hl hz => ?_⟩⟩
  · match us, hl with
    | [u0], _ => exact kwBind F (fun _ _ _ _ _ _ => rfl) s
  · simp only [kwL, List.mem_cons, List.not_mem_nil, or_false] at hq
    rcases hq with rfl
    · cases hf
theorem defs_ok (X : K.In h) (Gm : h.Ns mainGlobals mg) (c : He.SaysD fa fn K) : ∀ f d, pg.defs f = some d → DefOk K mg nm pg kwL f d
  | 0, _, e => by cases e; exact ok_is_integer X Gm c
  | 1, _, e => by cases e; exact ok_is_count X Gm c
  | 2, _, e => by cases e; exact ok_want_at_most X Gm c
  | 3, _, e => by cases e; exact ok_is_name X Gm c
  | 4, _, e => by cases e; exact ok_is_built X Gm c
  | 5, _, e => by cases e; exact ok_is_kind_of X Gm c
  | 6, _, e => by cases e; exact ok_is_leaf X Gm c
  | 7, _, e => by cases e; exact ok_width_of X Gm c
  | 8, _, e => by cases e; exact ok_paths_of X Gm c
  | 9, _, e => by cases e; exact ok_at_path_of X Gm c
  | 10, _, e => by cases e; exact ok_put_at_path X Gm c
  | 11, _, e => by cases e; exact ok_pair_of X Gm c
  | 12, _, e => by cases e; exact ok_from_of X Gm c
  | 13, _, e => by cases e; exact ok_want_kind X Gm c
  | 14, _, e => by cases e; exact ok_is_path_of X Gm c
  | 15, _, e => by cases e; exact ok_is_pair X Gm c
  | 16, _, e => by cases e; exact ok_is_from X Gm c
  | 17, _, e => by cases e; exact ok_forth_kind X Gm c
  | 18, _, e => by cases e; exact ok_back_kind X Gm c
  | 19, _, e => by cases e; exact ok_led_kind X Gm c
  | 20, _, e => by cases e; exact ok_contrary X Gm c
  | 21, _, e => by cases e; exact ok_told_of X Gm c
  | 22, _, e => by cases e; exact ok_moved_of X Gm c
  | 23, _, e => by cases e; exact ok_undone_of X Gm c
  | 24, _, e => by cases e; exact ok_is_move_of X Gm c
  | 25, _, e => by cases e; exact ok_moves_of X Gm c
  | 26, _, e => by cases e; exact ok_moves X Gm c
  | 27, _, e => by cases e; exact ok_kinds_by X Gm c
  | 28, _, e => by cases e; exact ok_is_row_of X Gm c
  | 29, _, e => by cases e; exact ok_row_undone_of X Gm c
  | 30, _, e => by cases e; exact ok_near_moves_of X Gm c
  | 31, _, e => by cases e; exact ok_rows_within X Gm c
  | 32, _, e => by cases e; exact ok_meeting_row X Gm c
  | 33, _, e => by cases e; exact ok_shortest_row X Gm c
  | 34, _, e => by cases e; exact ok_want_within X Gm c
  | 35, _, e => by cases e; exact ok_want_narrow X Gm c
  | 36, _, e => by cases e; exact ok_want_both X Gm c
  | 37, _, e => by cases e; exact ok_near_paper X Gm c
  | 38, _, e => by cases e; exact ok_is_near_paper X Gm c
  | 39, _, e => by cases e; exact ok__law_pot X Gm c
  | 40, _, e => by cases e; exact ok__law_draw X Gm c
  | 41, _, e => by cases e; exact ok__law_pick X Gm c
  | 42, _, e => by cases e; exact ok__law_kind X Gm c
  | 43, _, e => by cases e; exact ok__law_small X Gm c
  | 44, _, e => by cases e; exact ok__law_width X Gm c
  | 45, _, e => by cases e; exact ok__law_names X Gm c
  | 46, _, e => by cases e; exact ok__law_shape X Gm c
  | 47, _, e => by cases e; exact ok__law_turned X Gm c
  | 48, _, e => by cases e; exact ok__law_deep X Gm c
  | 49, _, e => by cases e; exact ok__law_is_fit X Gm c
  | 50, _, e => by cases e; exact ok__law_forth X Gm c
  | 51, _, e => by cases e; exact ok__law_back X Gm c
  | 52, _, e => by cases e; exact ok__law_paths X Gm c
  | 53, _, e => by cases e; exact ok__law_at X Gm c
  | 54, _, e => by cases e; exact ok__law_put X Gm c
  | 55, _, e => by cases e; exact ok__law_moved X Gm c
  | 56, _, e => by cases e; exact ok__law_near X Gm c
  | 57, _, e => by cases e; exact ok__law_ball X Gm c
  | 58, _, e => by cases e; exact ok__law_distance X Gm c
  | 59, _, e => by cases e; exact ok__law_bent X Gm c
  | 60, _, e => by cases e; exact ok__law_is_row X Gm c
  | 61, _, e => by cases e; exact ok__law_is_paper X Gm c
  | 62, _, e => by cases e; exact ok_law X Gm c
  | _ + 63, _, e => by cases e
theorem gl_ok (X : K.In h) (Gm : h.Ns mainGlobals mg) (c : ex K = true) : ∀ i d, pg.gl i = some d → ∃ v u, mg (nm.gl i) = some u ∧ RelV v u ∧ ∀ H ω, Rep K H ω v d := fun i d e => cons_ok X Gm c i d e
theorem bt_ok (X : K.In h) (Gm : h.Ns mainGlobals mg) (c : He.SaysD fa fn K) : ∀ x ∈ bnames, mg x = none := fun x hx => by
  obtain ⟨i, hi⟩ := List.mem_iff_getElem?.mp hx
  refine He.free_ok X Gm (c.fact (63 + i) (f := .free x) ?_)
  unfold fa
  rw [List.getElem?_append_right (by show 63 ≤ _; omega), List.getElem?_map]
  have e : 63 + i - fa1.length = i := by
    show 63 + i - 63 = i
    omega
  rw [e, hi]
  rfl
end
end K73
open PySem PySem.W PySem.Calls PyProof.Rows
set_option maxHeartbeats 0 in
theorem K73.holds_of (hlaw : ∀ ns : List Int, ns.length ≤ 63 → ∃ st, Ev.callN K73.pg K73.lv 62 [.scr ns] [] = .ok (.bl true) st) : PySem.Challenge.rw_kindsalike_k73_any_value_as_near_paper.Holds := by
  w_on; o_law
  refine HandSHeadRun.head_any (r := OpenLaw.row PySem.Challenge.rw_kindsalike_k73_any_value_as_near_paper) (q := view (OpenLaw.row PySem.Challenge.rw_kindsalike_k73_any_value_as_near_paper).prog [99]) (H := K73.hk) (ob := K73.ob) (M := 4000) (loose := K73.loose) (d := HandSHeadRun.topDef (OpenLaw.row PySem.Challenge.rw_kindsalike_k73_any_value_as_near_paper).prog 99) (kwd := []) K73.ob_eq
    (by kernel_rfl) (fun s => by kernel_rfl) K73.run (by kernel_rfl) (by kernel_rfl) (by kernel_rfl) (by rfl) (by first | assumption | decide +kernel) (by decide +kernel) ⟨rfl, rfl, rfl, rfl, rfl, by decide +kernel⟩ ?hw ?hc
  case hw => w_witness2
  case hc =>
    refine Ev.evWalk (l := PySem.Challenge.rw_kindsalike_k73_any_value_as_near_paper) (n := 63) (k := K73.lv) (fl := 62) (T := K73.nm) (G := K73.pg) (kw := K73.kwL) (xp := "script") rfl (by decide) (by kernel_rfl) ⟨rfl, by decide, by decide⟩ rfl (by kernel_rfl) ?F (fun ns hl _ => hlaw ns hl)
    rintro w mg h ⟨K, KX, c, x⟩ Gm
    exact ⟨K, KX, K73.defs_ok KX Gm c, K73.gl_ok KX Gm x, K73.bt_ok KX Gm c⟩

theorem PySem.Challenge.cw_kindsalike_k73_any_value_as_near_paper_holds : PySem.Challenge.rw_kindsalike_k73_any_value_as_near_paper.Holds :=
  K73.holds_of fun ns _ => K73.law_ok ns

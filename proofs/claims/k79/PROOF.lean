import PyProof.Rows.All
import Wide.All
import OpenK.AllK
import Wide.FinOn
import HandS.ForMost
import HandS.Lambda
import HandS.Nested
import HandS.Exc
import HandS.ForExc
import HandS.Strs
import HandS.SetFor
import KE.KTupSum
import HandS.TupAny
import HandS.IsInst
import HandS.TupMul
import HandS.Conv
import HandS.ExcOwn
import HandS.CallSlots
import HandS.AnyAll
import HandS.Iter
import HandS.Walk
import HandS.Zip
import KE.GoesNew
import HandS.ListItems
import KE.KDictZip
import PyProof.EnumMake
import HandS.Small
import HandS.TryOnly
import HandS.Comp
import HandS.Style
import HandS.Property
import HandS.Codes
import HandS.ExcInit
import HandS.ExcField
import HandS.HeadHook1
import KE.KExcIs
import PyProof.InstEq
import OpenK.KOwn
import HandS.Star
import HandS.Words
import HandS.WordsExc
import HandS.Defaults
import HandS.HeadEnd
import HandS.HeadHook4
import HandS.HeadWalk
import HandS.EndTab
import HandS.Head0
import HandS.Head1
import HandS.Head2
import PySem.Challenge.RW_towerlooks_k79_whole_days_of_desks
set_option Elab.async false
set_option linter.all false
set_option maxRecDepth 100000
/-! TLCore: values, the small language (IE, IS) that defs are turned into, and what it does. Own work. -/
namespace TL
open PySem L2

/-- a value, by content: tuples, lists, dicts as trees; obj: a shared thing of the store; fn: a def (or a lambda with what it captured) -/
inductive PV where
  | non | bl (b : Bool) | int (i : Int) | str (s : Str)
  | tup (xs : List PV) | lst (xs : List PV)
  | dct (kvs : List (Key × PV)) | dtt (kvs : List (List Key × PV))
  | scr (xs : List PV)
  | obj (i : Nat)
  | fn (k : Nat) (caps : List PV)
  deriving Inhabited

/-- a shared thing -/
inductive SO where
  | lst (xs : List PV)
  | dct (kvs : List (Key × PV))
  | ins (c : Nat) (fs : List (Str × PV))
  deriving Inhabited

/-- a def's state: slots, which slots hold a list or dict of their own, which are captured; the store -/
structure DS where
  loc : List (Option PV)
  own : List Nat
  cap : List Nat
  mu : List SO

inductive DR (α : Type) where
  | ok (a : α) (s : DS)
  | exc (c : Nat) (fs : List (Str × PV)) (s : DS)
  | bad
/-- a call's result -/
inductive FR where
  | ok (v : PV) (mu : List SO)
  | exc (c : Nat) (fs : List (Str × PV)) (mu : List SO)
  | bad
/-- a new instance's end -/
abbrev Phi := Nat → List PV → List SO → FR

def DR.bind {α β : Type} (r : DR α) (f : α → DS → DR β) : DR β := match r with
  | .ok a s => f a s
  | .exc c fs s => .exc c fs s
  | .bad => .bad
def DR.opt {α : Type} (o : Option α) (s : DS) : DR α := match o with
  | some a => .ok a s
  | none => .bad
def DR.ofF (r : FR) (s : DS) : DR PV := match r with
  | .ok v mu => .ok v { s with mu := mu }
  | .exc c fs mu => .exc c fs { s with mu := mu }
  | .bad => .bad

/-- that raises nothing -/
def noX : FR → FR
  | .ok v mu => .ok v mu
  | _ => .bad
def newF (n : Nat) (r : FR) (s : DS) : DR PV := match r with
  | .ok .non mu => .ok (.obj n) { s with mu := mu }
  | .exc c fs mu => .exc c fs { s with mu := mu }
  | _ => .bad
/-! ### operations on values -/
mutual
/-- as data, for == -/
def PV.toD : PV → Option PyData
  | .non => some .none
  | .bl b => some (.bool b)
  | .int i => some (.int i)
  | .str s => some (.str s)
  | .tup xs => (toDs xs).map .tuple
  | .lst xs => (toDs xs).map .list
  | _ => none
def toDs : List PV → Option (List PyData)
  | [] => some []
  | x :: xs => match PV.toD x, toDs xs with
    | some d, some ds => some (d :: ds)
    | _, _ => none
end
def veq (x y : PV) : Option Bool := match PV.toD x, PV.toD y with
  | some d, some e => if SeqAt.shaped d && SeqAt.shaped e then some (PyData.eqv d e) else none
  | _, _ => none

/-- the greatest length -/
def SZ : Nat := 100000
inductive BOp where
  | add | sub | mul | fdiv | mod | pow
  deriving DecidableEq
def vbin : BOp → PV → PV → Option PV
  | .add, .int i, .int j => some (.int (i + j))
  | .add, .tup xs, .tup ys => if xs.length + ys.length ≤ SZ then some (.tup (xs ++ ys)) else none
  | .add, .lst xs, .lst ys => if xs.length + ys.length ≤ SZ then some (.lst (xs ++ ys)) else none
  | .add, .str x, .str y => if x.length + y.length ≤ SZ then some (.str (x ++ y)) else none
  | .sub, .int i, .int j => some (.int (i - j))
  | .mul, .int i, .int j => if (-(2 ^ 64) < i ∧ i < 2 ^ 64) ∨ (-(2 ^ 64) < j ∧ j < 2 ^ 64) then some (.int (i * j)) else none
  | .fdiv, .int i, .int j => if 0 < j ∧ j < 1073741824 then some (.int (i / j)) else none
  | .mod, .int i, .int j => if 0 < j then some (.int (i % j)) else none
  | .pow, .int i, .int j => if 0 ≤ j ∧ j ≤ 1000000 ∧ i.natAbs < 2 ^ 64 then some (.int (i ^ j.toNat)) else none
  | _, _, _ => none
inductive COp where
  | eq | ne | lt | le | gt | ge | is | isnot | isin | notin
  deriving DecidableEq
/-- a plain scalar -/
def PV.flat : PV → Bool
  | .non | .bl _ | .int _ | .str _ => true
  | _ => false
/-- == of scalars, as in membership -/
def eqP : PV → PV → Bool
  | .non, .non => true
  | .bl a, .bl b => a == b
  | .bl a, .int b => (if a then 1 else 0) == b
  | .int a, .bl b => a == (if b then 1 else 0)
  | .int a, .int b => a == b
  | .str a, .str b => a == b
  | _, _ => false
def keyOf : PV → Option Key
  | .int i => some (.inl i)
  | .str s => some (.inr s)
  | _ => none
def keysOf : List PV → Option (List Key)
  | [] => some []
  | x :: xs => match keyOf x, keysOf xs with
    | some k, some ks => some (k :: ks)
    | _, _ => none
def kPV : Key → PV
  | .inl i => .int i
  | .inr s => .str s
def look {κ : Type} [DecidableEq κ] (k : κ) : List (κ × PV) → Option PV
  | [] => none
  | (j, v) :: r => if k = j then some v else look k r
def put {κ : Type} [DecidableEq κ] (k : κ) (v : PV) (kvs : List (κ × PV)) : List (κ × PV) :=
  if (kvs.any fun kv => decide (kv.1 = k)) = true then kvs.map (fun kv => if kv.1 = k then (kv.1, v) else kv) else kvs ++ [(k, v)]
def vin (x y : PV) : Option Bool := match y with
  | .lst ys | .tup ys => if x.flat && ys.all PV.flat then some (ys.any fun y => eqP y x) else none
  | .dct kvs => match keyOf x with
    | some k => some (look k kvs).isSome
    | none => none
  | .dtt kvs => match x with
    | .tup xs => (match keysOf xs with
      | some ks => some (look ks kvs).isSome
      | none => none)
    | _ => none
  | _ => none
def vcmp : COp → PV → PV → Option Bool
  | .eq, x, y => veq x y
  | .ne, x, y => (veq x y).map (!·)
  | .lt, .int i, .int j => some (decide (i < j))
  | .le, .int i, .int j => some (decide (i ≤ j))
  | .gt, .int i, .int j => some (decide (j < i))
  | .ge, .int i, .int j => some (decide (j ≤ i))
  | .is, x, .non => some (match x with | .non => true | _ => false)
  | .isnot, x, .non => some (match x with | .non => false | _ => true)
  | .isin, x, y => vin x y
  | .notin, x, y => (vin x y).map (!·)
  | _, _, _ => none
/-- a field set -/
def putA (f : Str) (v : PV) : List (Str × PV) → List (Str × PV)
  | [] => [(f, v)]
  | (g, x) :: r => if g = f then (g, v) :: r else (g, x) :: putA f v r
/-- the fields of an instance -/
def insOf (mu : List SO) : PV → Option (Nat × Nat × List (Str × PV))
  | .obj n => (match mu[n]? with
    | some (.ins c fs) => some (n, c, fs)
    | _ => none)
  | _ => none
/-- == where instances may stand, that have no own one -/
def veqM (mu : List SO) (x y : PV) : Option Bool := match insOf mu x, insOf mu y with
  | some (n, _), some (m, _) => some (decide (n = m))
  | _, _ => veq x y
def vsub (mu : List SO) (x i : PV) : Option PV := match x, i with
  | .tup xs, .int i => atI xs i
  | .lst xs, .int i => atI xs i
  | .scr xs, .int i => atI xs i
  | .dct kvs, k => (keyOf k).bind fun k => look k kvs
  | .dtt kvs, .tup ks => (keysOf ks).bind fun k => look k kvs
  | .obj n, i => (match mu[n]?, i with
    | some (.lst xs), .int i => atI xs i
    | some (.dct kvs), k => (keyOf k).bind fun k => look k kvs
    | _, _ => none)
  | _, _ => none
/-- the place that a slice's end names -/
def cutIx (n : Nat) (i : Int) : Nat := if 0 ≤ i then min i.toNat n else (i + n).toNat
def cutL {α : Type} (xs : List α) (lo hi : Option Int) : List α :=
  let a := match lo with | some i => cutIx xs.length i | none => 0
  let b := match hi with | some i => cutIx xs.length i | none => xs.length
  (xs.drop a).take (b - a)
def vcut (x : PV) (lo hi : Option Int) : Option PV := match x with
  | .tup xs => some (.tup (cutL xs lo hi))
  | .lst xs => some (.lst (cutL xs lo hi))
  | .scr xs => some (.lst (cutL xs lo hi))
  | _ => none
def intsOf : List PV → Option (List Int)
  | [] => some []
  | .int i :: xs => (intsOf xs).map (i :: ·)
  | _ => none
def boolsOf : List PV → Option (List Bool)
  | [] => some []
  | .bl i :: xs => (boolsOf xs).map (i :: ·)
  | _ => none
def maxL : Int → List Int → Int
  | m, [] => m
  | m, x :: xs => maxL (if m < x then x else m) xs
def minL : Int → List Int → Int
  | m, [] => m
  | m, x :: xs => minL (if x < m then x else m) xs
def insI (x : Int) : List Int → List Int
  | [] => [x]
  | y :: ys => if x < y then x :: y :: ys else if x = y then y :: ys else y :: insI x ys
/-- ascending, each once -/
def ascI : List Int → List Int
  | [] => []
  | x :: xs => insI x (ascI xs)
def rangeI (lo : Int) (n : Nat) : List PV := (List.range n).map fun k => .int (lo + (k : Nat))
/-- a type that isinstance asks for -/
inductive Ty where
  | int | bool | str | tuple
  deriving DecidableEq
inductive Blt where
  | len | max1 | min1 | max2 | min2 | sum | all | any | abs | int | tuple | list | isInst (t : Ty) | divmod | rangeL1 | rangeL2 | zipL2 | listVals
  deriving DecidableEq
def isInst : Ty → PV → Bool
  | .int, .int _ => true
  | .int, .bl _ => true
  | .bool, .bl _ => true
  | .str, .str _ => true
  | .tuple, .tup _ => true
  | _, _ => false
def pairsOf : List PV → Option (List (Key × PV))
  | [] => some []
  | k :: v :: r => match keyOf k, pairsOf r with
    | some k, some kvs => some ((k, v) :: kvs)
    | _, _ => none
  | _ => none
def mergeP {κ : Type} [DecidableEq κ] (acc : List (κ × PV)) : List (κ × PV) → List (κ × PV)
  | [] => acc
  | (k, v) :: r => mergeP (put k v acc) r
def IntOk (i : Int) : Prop := -(2 ^ 62) ≤ i ∧ i < 2 ^ 62
instance (i : Int) : Decidable (IntOk i) := inferInstanceAs (Decidable (_ ∧ _))
def zipP : List PV → List PV → List PV
  | x :: xs, y :: ys => .tup [x, y] :: zipP xs ys
  | _, _ => []
def zipP3 : List PV → List PV → List PV → List PV
  | x :: xs, y :: ys, z :: zs => .tup [x, y, z] :: zipP3 xs ys zs
  | _, _, _ => []
def enumP : Nat → List PV → List PV
  | _, [] => []
  | n, x :: xs => .tup [.int (n : Nat), x] :: enumP (n + 1) xs
def seqOf : PV → Option (List PV)
  | .tup xs => some xs
  | .lst xs => some xs
  | _ => none
def tupOf : PV → Option (List PV)
  | .tup xs => some xs
  | _ => none
/-- what a class of values may be asked by isinstance -/
def PV.typed : PV → Bool
  | .fn _ _ | .obj _ | .dtt _ | .scr _ => false
  | _ => true
def vblt : Blt → List PV → Option PV
  | .len, [.tup xs] => some (.int xs.length)
  | .len, [.lst xs] => some (.int xs.length)
  | .len, [.scr xs] => some (.int xs.length)
  | .max1, [.lst xs] => (match intsOf xs with
    | some (n :: ns) => some (.int (maxL n ns))
    | _ => none)
  | .min1, [.lst xs] => (match intsOf xs with
    | some (n :: ns) => some (.int (minL n ns))
    | _ => none)
  | .max1, [.tup xs] => (match intsOf xs with
    | some (n :: ns) => some (.int (maxL n ns))
    | _ => none)
  | .min1, [.tup xs] => (match intsOf xs with
    | some (n :: ns) => some (.int (minL n ns))
    | _ => none)
  | .max2, [.int i, .int j] => some (.int (if j > i then j else i))
  | .min2, [.int i, .int j] => some (.int (if j < i then j else i))
  | .sum, [.lst xs] => (intsOf xs).map fun ns => .int ns.sum
  | .sum, [.tup xs] => (intsOf xs).map fun ns => .int ns.sum
  | .all, [.lst xs] => (boolsOf xs).map fun ns => .bl (ns.all id)
  | .any, [.lst xs] => (boolsOf xs).map fun ns => .bl (ns.any id)
  | .abs, [.int i] => some (.int (if i < 0 then -i else i))
  | .int, [.int i] => some (.int i)
  | .tuple, [.lst xs] => some (.tup xs)
  | .tuple, [.tup xs] => some (.tup xs)
  | .list, [.lst xs] => some (.lst xs)
  | .list, [.tup xs] => some (.lst xs)
  | .isInst t, [x] => if x.typed then some (.bl (isInst t x)) else none
  | .divmod, [.int i, .int j] => if 0 < j ∧ j < 1073741824 then some (.tup [.int (i / j), .int (i % j)]) else none
  | .rangeL1, [.int j] => if IntOk j ∧ j ≤ SZ then some (.lst (rangeI 0 j.toNat)) else none
  | .rangeL2, [.int i, .int j] => if IntOk i ∧ IntOk j ∧ j - i ≤ SZ then some (.lst (rangeI i (j - i).toNat)) else none
  | .zipL2, [.lst xs, .lst ys] => some (.lst (zipP xs ys))
  | .listVals, [.dct kvs] => some (.lst (kvs.map (·.2)))
  | _, _ => none

mutual
def PV.plain : PV → Bool
  | .tup xs => plains xs
  | .lst xs => plains xs
  | .scr xs => plains xs
  | .dct kvs => plainK kvs
  | .dtt kvs => plainT kvs
  | .fn _ (_ :: _) => false
  | _ => true
def plains : List PV → Bool
  | [] => true
  | x :: xs => x.plain && plains xs
def plainK : List (Key × PV) → Bool
  | [] => true
  | (_, x) :: xs => x.plain && plainK xs
def plainT : List (List Key × PV) → Bool
  | [] => true
  | (_, x) :: xs => x.plain && plainT xs
end
/-! ### the language -/
mutual
inductive IE where
  | non | bl (b : Bool) | int (i : Int) | str (s : Str)
  | var (i : Nat)
  | peek (i : Nat)
  | bin (op : BOp) (a b : IE)
  | neg (a : IE)
  | cmp (op : COp) (a b : IE)
  | cmp2 (op op' : COp) (a b c : IE)
  | and (a b : IE) | or (a b : IE) | not (a : IE)
  | ite (c a b : IE)
  | tup (es : IEs) | lst (es : IEs)
  | dict (es : IEs)
  | sh (e : IE)
  | sub (a i : IE)
  | cut (a : IE) (l : Bool) (lo : IE) (h : Bool) (hi : IE)
  | call (f : Nat) (es : IEs)
  | callv (i : Nat) (es : IEs)
  | blt (b : Blt) (es : IEs)
  | ssort (e : IE)
  | comp (own : List Nat) (t : Tg) (it : II) (c : IE) (e : IE)
  | dget1 (a k : IE) | dget2 (a k d : IE)
  | lam (k : Nat) (caps : List Nat)
  | fld (a : IE) (cs : List Nat) (f : Str)
  | meth (a : IE) (m : Str) (ms : List (Nat × Nat)) (es : IEs)
  | prop (a : IE) (ps : List (Nat × Nat))
  | new (c : Nat) (f : Nat) (es : IEs)
  | tupS (a : IE) (es : IEs)
  | lcnt (a b : IE) | lidx (a b : IE)
  | bool (a : IE)
  | isB (neg : Bool) (a : IE) (b : Bool)
  | cmpo (neg : Bool) (a b : IE)
  | stuck
inductive IEs where
  | nil | cons (e : IE) (es : IEs)
/-- a target -/
inductive Tg where
  | nm (i : Nat)
  | tp (ts : Tgs)
  | sb (a i : IE)
inductive Tgs where
  | nil | cons (t : Tg) (ts : Tgs)
/-- what is walked -/
inductive II where
  | val (e : IE) | range1 (a : IE) | range2 (a b : IE) | range3 (a b c : IE) | enum (e : IE) | zip2 (a b : IE) | zip3 (a b c : IE) | items (e : IE)
end

mutual
/-- the names of a target -/
def tnm : Tg → List Nat
  | .nm i => [i]
  | .tp ts => tnms ts
  | .sb _ _ => []
def tnms : Tgs → List Nat
  | .nil => []
  | .cons t ts => tnm t ++ tnms ts
end
def lenTs : Tgs → Nat
  | .nil => 0
  | .cons _ ts => lenTs ts + 1
/-- what stands for no bound of a slice, no test of a comprehension -/
def optInt : PV → Option (Option Int)
  | .non => some none
  | .int i => some (some i)
  | _ => none
def getS (s : DS) (i : Nat) : Option PV := match s.loc[i]? with
  | some (some v) => some v
  | _ => none
def DS.setS (s : DS) (i : Nat) (v : PV) : DS := { s with loc := s.loc.set i (some v), own := s.own.filter (fun j => decide (j ≠ i)) }
def DS.setO (s : DS) (i : Nat) (v : PV) : DS := { s with loc := s.loc.set i (some v), own := i :: s.own.filter (fun j => decide (j ≠ i)) }
def setAt {α : Type} (xs : List α) (i : Int) (v : α) : Option (List α) := (ixN xs.length i).map fun j => xs.set j v
/-- a turn of a comprehension behind another; its end gives the list -/
def compL (f : PV → List SO → Option (Option PV × List SO)) : List PV → List PV → List SO → Option (List PV × List SO)
  | [], acc, mu => some (acc, mu)
  | x :: xs, acc, mu => match f x mu with
    | some (some v, mu) => if acc.length < SZ then compL f xs (acc ++ [v]) mu else none
    | some (none, mu) => compL f xs acc mu
    | none => none
/-- what a comprehension's turn may see: no closures, none of its own names; no list of closures -/
def hideL : List Nat → List (Option PV) → List (Option PV)
  | own, l => own.foldr (fun i l => l.set i none) (l.map fun o => match o with
    | some v => if v.plain then some v else none
    | none => none)
def DS.inner (s : DS) (own : List Nat) (mu : List SO) : DS := ⟨hideL own s.loc, s.own, [], mu⟩
/-- the own lists hold no closures -/
def DS.ownP (s : DS) : Bool := s.own.all fun i => match s.loc[i]? with
  | some (some v) => v.plain
  | _ => false
/-- nothing was captured -/
def noCap {α : Type} (r : DR α) : DR α := match r with
  | .ok a s => if s.cap = [] then .ok a s else .bad
  | r => r
def turnEnd (own : List Nat) (r : DR (Option PV)) : Option (Option PV × List SO) := match r with
  | .ok o s => if s.own = own then some (o, s.mu) else none
  | _ => none
/-- what a captured name holds: neither its own list nor another closure -/
def capOk (s : DS) (i : Nat) : Option PV := if i ∈ s.own then none else match getS s i with
  | some (.fn _ (_ :: _)) => none
  | r => r
def capsOf (s : DS) : List Nat → Option (List PV)
  | [] => some []
  | i :: is => match capOk s i, capsOf s is with
    | some v, some vs => some (v :: vs)
    | _, _ => none

section
variable (Φ : Phi)
mutual
def ev : IE → DS → DR PV
  | .non, s => .ok .non s
  | .bl b, s => .ok (.bl b) s
  | .int i, s => .ok (.int i) s
  | .str x, s => .ok (.str x) s
  | .var i, s => if i ∈ s.own then .bad else .opt (getS s i) s
  | .peek i, s => .opt (getS s i) s
  | .bin op a b, s => (ev a s).bind fun x s => (ev b s).bind fun y s => .opt (vbin op x y) s
  | .neg a, s => (ev a s).bind fun x s => (match x with
    | .int i => .ok (.int (-i)) s
    | _ => .bad)
  | .cmp op a b, s => (ev a s).bind fun x s => (ev b s).bind fun y s => .opt ((vcmp op x y).map .bl) s
  | .cmp2 op op' a b c, s => (ev a s).bind fun x s => (ev b s).bind fun y s => (match vcmp op x y with
    | some true => (ev c s).bind fun z s => .opt ((vcmp op' y z).map .bl) s
    | some false => .ok (.bl false) s
    | none => .bad)
  | .and a b, s => (ev a s).bind fun x s => (match x with
    | .bl true => ev b s
    | .bl false => .ok (.bl false) s
    | _ => .bad)
  | .or a b, s => (ev a s).bind fun x s => (match x with
    | .bl true => .ok (.bl true) s
    | .bl false => ev b s
    | _ => .bad)
  | .not a, s => (ev a s).bind fun x s => (match x with
    | .bl b => .ok (.bl (!b)) s
    | _ => .bad)
  | .ite c a b, s => (ev c s).bind fun x s => (match x with
    | .bl true => ev a s
    | .bl false => ev b s
    | _ => .bad)
  | .tup es, s => (evs es s).bind fun xs s => if xs.length ≤ SZ then .ok (.tup xs) s else .bad
  | .lst es, s => (evs es s).bind fun xs s => if xs.length ≤ SZ then .ok (.lst xs) s else .bad
  | .dict es, s => (evs es s).bind fun xs s => .opt ((pairsOf xs).bind fun kvs => if kvs.length ≤ 15 then some (.dct (mergeP [] kvs)) else none) s
  | .sh e, s => (ev e s).bind fun x s => (match x with
    | .lst xs => if plains xs then .ok (.obj s.mu.length) { s with mu := s.mu ++ [.lst xs] } else .bad
    | .dct kvs => if plainK kvs then .ok (.obj s.mu.length) { s with mu := s.mu ++ [.dct kvs] } else .bad
    | _ => .bad)
  | .sub a i, s => (ev a s).bind fun x s => (ev i s).bind fun y s => .opt (vsub s.mu x y) s
  | .cut a l lo h hi, s => (ev a s).bind fun x s => (if l then (ev lo s).bind fun y s => (match y with
      | .int i => .ok (some i) s
      | _ => .bad) else .ok none s).bind fun lo s => (if h then (ev hi s).bind fun y s => (match y with
      | .int i => .ok (some i) s
      | _ => .bad) else .ok none s).bind fun hi s => .opt (vcut x lo hi) s
  | .call f es, s => (evs es s).bind fun xs s => .ofF (Φ f xs s.mu) s
  | .callv i es, s => (match getS s i with
    | some (.fn k caps) => (evs es s).bind fun xs s => .ofF (Φ k (xs ++ caps) s.mu) s
    | _ => .bad)
  | .blt b es, s => (evs es s).bind fun xs s => .opt (vblt b xs) s
  | .ssort e, s => (ev e s).bind fun x s => .opt ((tupOf x).bind fun xs => (intsOf xs).bind fun ns => if ns.length < 64 then some (.lst ((ascI ns).map .int)) else none) s
  | .comp own t it c e, s => (evI it s).bind fun xs s0 => if s0.ownP ∧ own.all (fun i => decide (i ∉ s0.own)) ∧ (tnm t).all (fun i => decide (i ∈ own)) then (match compL (fun x mu => if x.plain then turnEnd s0.own ((noCap (asg t x (s0.inner own mu))).bind fun _ s => (noCap (ev c s)).bind fun b s => (match b with
      | .bl true => (noCap (ev e s)).bind fun v s => .ok (some v) s
      | .bl false => .ok none s
      | _ => .bad)) else none) xs [] s0.mu with
    | some (vs, mu) => .ok (.lst vs) { s0 with mu := mu }
    | none => .bad) else .bad
  | .dget1 a k, s => (ev a s).bind fun x s => (match x with
    | .dct kvs => (ev k s).bind fun y s => .opt ((keyOf y).map fun k => (look k kvs).getD .non) s
    | _ => .bad)
  | .dget2 a k d, s => (ev a s).bind fun x s => (match x with
    | .dct kvs => (ev k s).bind fun y s => (ev d s).bind fun z s => .opt ((keyOf y).map fun k => (look k kvs).getD z) s
    | _ => .bad)
  | .lam k caps, s => (match capsOf s caps with
    | some vs => .ok (.fn k vs) { s with cap := caps ++ s.cap }
    | none => .bad)
  | .fld a cs f, s => (ev a s).bind fun x s => (match insOf s.mu x with
    | some (_, c, fs) => if c ∈ cs then .opt (fs.lookup f) s else .bad
    | none => .bad)
  | .meth a m ms es, s => (ev a s).bind fun x s => (match insOf s.mu x with
    | some (n, c, fs) => (match ms.lookup c, fs.lookup m with
      | some f, none => (evs es s).bind fun xs s => .ofF (Φ f (.obj n :: xs) s.mu) s
      | _, _ => .bad)
    | none => .bad)
  | .prop a ps, s => (ev a s).bind fun x s => (match insOf s.mu x with
    | some (n, c, _) => (match ps.lookup c with
      | some f => .ofF (noX (Φ f [.obj n] s.mu)) s
      | none => .bad)
    | none => .bad)
  | .new c f es, s => (evs es s).bind fun xs s => if plains xs then newF s.mu.length (Φ f (.obj s.mu.length :: xs) (s.mu ++ [.ins c []])) s else .bad
  | .tupS a es, s => (ev a s).bind fun x s => (match x with
    | .tup xs => (evs es s).bind fun ys s => if xs.length + ys.length ≤ SZ then .ok (.tup (xs ++ ys)) s else .bad
    | _ => .bad)
  | .lcnt a b, s => (ev a s).bind fun x s => (match x with
    | .lst xs => (ev b s).bind fun y s => if xs.all PV.flat && y.flat then .ok (.int (xs.countP fun x => eqP x y)) s else .bad
    | _ => .bad)
  | .lidx a b, s => (ev a s).bind fun x s => (match x with
    | .lst xs => (ev b s).bind fun y s => if xs.all PV.flat && y.flat then .opt ((xs.findIdx? fun x => eqP x y).map fun i => .int (i : Nat)) s else .bad
    | _ => .bad)
  | .bool a, s => (ev a s).bind fun x s => (match x with
    | .bl b => .ok (.bl b) s
    | .int i => .ok (.bl (decide (i ≠ 0))) s
    | x => .opt ((insOf s.mu x).map fun _ => .bl true) s)
  | .isB neg a b, s => (ev a s).bind fun x s => (match x with
    | .bl c => .ok (.bl (if neg then c != b else c == b)) s
    | _ => .bad)
  | .cmpo neg a b, s => (ev a s).bind fun x s => (ev b s).bind fun y s => .opt ((veqM s.mu x y).map fun b => .bl (if neg then !b else b)) s
  | .stuck, _ => .bad
def evs : IEs → DS → DR (List PV)
  | .nil, s => .ok [] s
  | .cons e es, s => (ev e s).bind fun x s => (evs es s).bind fun xs s => .ok (x :: xs) s
def asg : Tg → PV → DS → DR Unit
  | .nm i, v, s => if i ∈ s.cap then .bad else if i < s.loc.length then .ok () (s.setS i v) else .bad
  | .tp ts, v, s => (match v with
    | .tup xs => if xs.length = lenTs ts then asgs ts xs s else .bad
    | .lst xs => if xs.length = lenTs ts then asgs ts xs s else .bad
    | _ => .bad)
  | .sb a i, v, s => (ev a s).bind fun x s => (ev i s).bind fun y s => (match x, y with
    | .obj n, y => (match s.mu[n]?, y with
      | some (.lst xs), .int j => (match setAt xs j v with
        | some ys => if v.plain then .ok () { s with mu := s.mu.set n (.lst ys) } else .bad
        | none => .bad)
      | some (.dct kvs), y => (match keyOf y with
        | some k => if v.plain ∧ kvs.length < SZ then .ok () { s with mu := s.mu.set n (.dct (put k v kvs)) } else .bad
        | none => .bad)
      | _, _ => .bad)
    | _, _ => .bad)
def asgs : Tgs → List PV → DS → DR Unit
  | .nil, [], s => .ok () s
  | .cons t ts, x :: xs, s => (asg t x s).bind fun _ s => asgs ts xs s
  | _, _, _ => .bad
def evI : II → DS → DR (List PV)
  | .val e, s => (ev e s).bind fun x s => .opt (seqOf x) s
  | .range1 a, s => (ev a s).bind fun x s => (match x with
    | .int j => if IntOk j ∧ j ≤ SZ then .ok (rangeI 0 j.toNat) s else .bad
    | _ => .bad)
  | .range2 a b, s => (ev a s).bind fun x s => (ev b s).bind fun y s => (match x, y with
    | .int i, .int j => if IntOk i ∧ IntOk j ∧ j - i ≤ SZ then .ok (rangeI i (j - i).toNat) s else .bad
    | _, _ => .bad)
  | .range3 a b c, s => (ev a s).bind fun x s => (ev b s).bind fun y s => (ev c s).bind fun z s => (match x, y, z with
    | .int i, .int j, .int c => if IntOk i ∧ IntOk j ∧ i - j ≤ SZ ∧ c = -1 then .ok ((List.range (i - j).toNat).map fun (k : Nat) => .int (i - (k : Nat))) s else .bad
    | _, _, _ => .bad)
  | .enum e, s => (ev e s).bind fun x s => .opt ((seqOf x).map (enumP 0)) s
  | .zip2 a b, s => (ev a s).bind fun x s => (ev b s).bind fun y s => (match seqOf x, seqOf y with
    | some xs, some ys => .ok (zipP xs ys) s
    | _, _ => .bad)
  | .zip3 a b c, s => (ev a s).bind fun x s => (ev b s).bind fun y s => (ev c s).bind fun z s => (match seqOf x, seqOf y, seqOf z with
    | some xs, some ys, some zs => .ok (zipP3 xs ys zs) s
    | _, _, _ => .bad)
  | .items e, s => (ev e s).bind fun x s => (match x with
    | .dct kvs => .ok (kvs.map fun kv => .tup [kPV kv.1, kv.2]) s
    | _ => .bad)
end
end

/-! ### statements -/
mutual
inductive IS where
  | expr (e : IE)
  | asg (t : Tg) (e : IE)
  | asgO (i : Nat) (e : IE)
  | par (ts : List (Nat × Bool)) (es : IEs)
  | ret (e : IE) | retN
  | ite (c : IE) (a b : ISs)
  | for (t : Tg) (it : II) (b : ISs)
  | app (i : Nat) (e : IE)
  | ext (i : Nat) (e : IE)
  | dput (i : Nat) (k v : IE)
  | fput (a : IE) (cs : List Nat) (f : Str) (v : IE)
  | tryx (b : ISs) (cs : List Nat) (i : Option Nat) (su : ISs)
  | pass | brk | cont | stuck
  | raise (c : Nat) (ns : List Str) (es : IEs)
  | frz (i : Nat)
inductive ISs where
  | nil | cons (t : IS) (ts : ISs)
end
inductive SR where
  | nx (s : DS) | ret (v : PV) (s : DS) | brk (s : DS) | cont (s : DS) | exc (c : Nat) (fs : List (Str × PV)) (s : DS) | bad
/-- an expression, then what follows -/
def DR.thn {α : Type} (r : DR α) (f : α → DS → SR) : SR := match r with
  | .ok a s => f a s
  | .exc c fs s => .exc c fs s
  | .bad => .bad
def SR.thn (r : SR) (f : DS → SR) : SR := match r with
  | .nx s => f s
  | r => r
def loopS (t : PV → DS → DR Unit) (b : DS → SR) : List PV → DS → SR
  | [], s => .nx s
  | x :: xs, s => (t x s).thn fun _ s => match b s with
    | .nx s => loopS t b xs s
    | .cont s => loopS t b xs s
    | .brk s => .nx s
    | r => r
def setAll : List (Nat × Bool) → List PV → DS → Option DS
  | [], [], s => some s
  | (i, o) :: ts, v :: vs, s => if i ∈ s.cap then none else if i < s.loc.length then setAll ts vs (if o then s.setO i v else s.setS i v) else none
  | _, _, _ => none
/-- an exception's own fields, by its class -/
abbrev Exc := Nat → List PV → Option (List (Str × PV))
/-- what is asked of a caught exception -/
def EXI : Nat := 1000000
def EXF : Nat := 1000001
def excF (Φ : Phi) (c : Nat) (fs : List (Str × PV)) : Phi := fun k xs mu => if k = EXI then .ok (.bl (xs.any fun x => match x with
    | .int i => decide (i = c)
    | _ => false)) mu else if k = EXF then (match xs with
    | [.str f] => (match fs.lookup f with
      | some v => .ok v mu
      | none => .bad)
    | _ => .bad) else Φ k xs mu
/-- an except suite's end: it returns -/
def suEnd : SR → SR
  | .ret v s => .ret v s
  | _ => .bad
mutual
def ex : Phi → Exc → IS → DS → SR
  | Φ, X, .expr e, s => (ev Φ e s).thn fun _ s => .nx s
  | Φ, X, .asg t e, s => (ev Φ e s).thn fun v s => (asg Φ t v s).thn fun _ s => .nx s
  | Φ, X, .asgO i e, s => (ev Φ e s).thn fun v s => if i ∈ s.cap then .bad else if i < s.loc.length then .nx (s.setO i v) else .bad
  | Φ, X, .par ts es, s => (evs Φ es s).thn fun vs s => (match setAll ts vs s with
    | some s => .nx s
    | none => .bad)
  | Φ, X, .ret e, s => (ev Φ e s).thn fun v s => .ret v s
  | Φ, X, .retN, s => .ret .non s
  | Φ, X, .ite c a b, s => (ev Φ c s).thn fun x s => (match x with
    | .bl true => exs Φ X a s
    | .bl false => exs Φ X b s
    | _ => .bad)
  | Φ, X, .for t it b, s => (evI Φ it s).thn fun xs s => loopS (asg Φ t) (exs Φ X b) xs s
  | Φ, X, .app i e, s => (match getS s i with
    | some (.lst xs) => if i ∈ s.own ∧ xs.length < SZ then (ev Φ e s).thn fun v s => .nx { s with loc := s.loc.set i (some (.lst (xs ++ [v]))) } else .bad
    | _ => .bad)
  | Φ, X, .ext i e, s => (match getS s i with
    | some (.lst xs) => if i ∈ s.own then (ev Φ e s).thn fun v s => (match v with
      | .lst ys => if xs.length + ys.length ≤ SZ then .nx { s with loc := s.loc.set i (some (.lst (xs ++ ys))) } else .bad
      | _ => .bad) else .bad
    | _ => .bad)
  | Φ, X, .dput i k v, s => (match getS s i with
    | some (.dct kvs) => if i ∈ s.own ∧ kvs.length < SZ then (ev Φ v s).thn fun v s => (ev Φ k s).thn fun k s => (match keyOf k with
      | some k => .nx { s with loc := s.loc.set i (some (.dct (put k v kvs))) }
      | none => .bad) else .bad
    | _ => .bad)
  | Φ, X, .fput a cs f e, s => (ev Φ e s).thn fun v s => (ev Φ a s).thn fun x s => (match insOf s.mu x with
    | some (n, c, fs) => if c ∈ cs ∧ v.plain ∧ fs.length < 1000 then .nx { s with mu := s.mu.set n (.ins c (putA f v fs)) } else .bad
    | none => .bad)
  | Φ, X, .tryx b cs i su, s => (match exs Φ X b s with
    | .exc c fs s => if c ∈ cs then (match i with
        | some i => if i ∈ s.cap ∨ s.loc.length ≤ i ∨ s.own ≠ [] then .bad else
          suEnd (exs (excF Φ c fs) X su { s with loc := s.loc.set i none, cap := i :: s.cap })
        | none => if s.own ≠ [] then .bad else suEnd (exs (excF Φ c fs) X su s)) else .exc c fs s
    | r => r)
  | Φ, X, .pass, s => .nx s
  | Φ, X, .stuck, _ => .bad
  | Φ, X, .frz i, s => .nx { s with own := s.own.filter (fun j => decide (j ≠ i)) }
  | Φ, X, .brk, s => .brk s
  | Φ, X, .cont, s => .cont s
  | Φ, X, .raise c ns es, s => (evs Φ es s).thn fun vs s => if plains vs ∧ vs.length = ns.length then .exc c (ns.zip vs) s else .bad
def exs : Phi → Exc → ISs → DS → SR
  | Φ, X, .nil, s => .nx s
  | Φ, X, .cons t ts, s => (ex Φ X t s).thn fun s => exs Φ X ts s
end

/-! ### defs -/
structure FI where
  np : Nat
  ns : Nat
  body : ISs
def endF : SR → FR
  | .nx s => .ok .non s.mu
  | .ret v s => if s.cap = [] ∨ v.plain then .ok v s.mu else .bad
  | .exc c fs s => .exc c fs s.mu
  | _ => .bad
def runF (Φ : Phi) (X : Exc) (f : FI) (args : List PV) (mu : List SO) : FR :=
  if args.length = f.np then endF (exs Φ X f.body ⟨args.map some ++ List.replicate (f.ns - f.np) none, [], [], mu⟩) else .bad
/-- what the k-th def does, calls below a depth -/
def Ph (T : List FI) (X : Exc) : Nat → Phi
  | 0 => fun _ _ _ => .bad
  | n + 1 => fun k args mu => match T[k]? with
    | some f => runF (Ph T X n) X f args mu
    | none => .bad
end TL

set_option linter.all false
set_option maxRecDepth 100000
/-! TLRep: how values and stores stand in the heap. Own work. -/
namespace TL
open PySem PySem.Spec PyProof.Rows L2 NdefX

/-- what is told of functions: where def k stands; the words of lambda k -/
structure FT where
  addr : Nat → Option Addr
  lam : Nat → Option (Str × Str × Arguments × Expr × Scope × List Str)
/-- the object at f: a lambda's function -/
def LamO (f : Addr) (o : Obj) : HO := .ext fun h => h.get? f = some o
abbrev Cells := Addr → V → Prop

mutual
inductive RepV (K : PySem.W.Frag) (G : FT) (C : Cells) (θ : List Addr) (S : Hp) : PV → V → Prop where
  | non : RepV K G C θ S .non .non
  | bl (b : Bool) : RepV K G C θ S (.bl b) (.bl b)
  | int (i : Int) : RepV K G C θ S (.int i) (.int i)
  | str (x : Str) : RepV K G C θ S (.str x) (.str x)
  | tup {a : Addr} {vs : List V} {xs : List PV} : S a = some (.tup vs) → RepL K G C θ S xs vs → RepV K G C θ S (.tup xs) (.ref a)
  | lst {a : Addr} {vs : List V} {xs : List PV} : S a = some (.lst vs) → RepL K G C θ S xs vs → RepV K G C θ S (.lst xs) (.ref a)
  | scr {a : Addr} {vs : List V} {xs : List PV} : SqL K S a vs → RepL K G C θ S xs vs → RepV K G C θ S (.scr xs) (.ref a)
  | dct {a : Addr} {vs : List (Key × V)} {xs : List (Key × PV)} : Rd S a (.dK vs) → RepK K G C θ S xs vs → RepV K G C θ S (.dct xs) (.ref a)
  | dtt {a : Addr} {vs : List (List Key × V)} {xs : List (List Key × PV)} : Rd S a (.dT vs) → RepT K G C θ S xs vs → RepV K G C θ S (.dtt xs) (.ref a)
  | obj {i : Nat} {a : Addr} : θ[i]? = some a → RepV K G C θ S (.obj i) (.ref a)
  | fn {k : Nat} {a : Addr} : G.addr k = some a → RepV K G C θ S (.fn k []) (.ref a)
  | clo {k : Nat} {f c : Addr} {caps : List PV} {vs : List V} {nm q : Str} {ps : Arguments} {body : Expr} {sc : Scope} {fr : List Str} {cl : List (Str × Addr)} {pm ctv : Value} :
      G.lam k = some (nm, q, ps, body, sc, fr) →
      S f = some (LamO f (PySem.W.kla_obj nm q ps body sc cl pm c ctv)) → S c = some (LamX.CodeO c q) →
      (∀ (i : Nat) (y : Str) (v : V), fr[i]? = some y → vs[i]? = some v → ∃ a, cl.lookup y = some a ∧ C a v) → vs.length = fr.length →
      (∀ x y a, cl.lookup x = some a → cl.lookup y = some a → x = y) → (∀ y a, cl.lookup y = some a → y ∈ fr) →
      RepL K G C θ S caps vs → RepV K G C θ S (.fn k caps) (.ref f)
inductive RepL (K : PySem.W.Frag) (G : FT) (C : Cells) (θ : List Addr) (S : Hp) : List PV → List V → Prop where
  | nil : RepL K G C θ S [] []
  | cons {x : PV} {v : V} {xs : List PV} {vs : List V} : RepV K G C θ S x v → RepL K G C θ S xs vs → RepL K G C θ S (x :: xs) (v :: vs)
inductive RepK (K : PySem.W.Frag) (G : FT) (C : Cells) (θ : List Addr) (S : Hp) : List (Key × PV) → List (Key × V) → Prop where
  | nil : RepK K G C θ S [] []
  | cons {k : Key} {x : PV} {v : V} {xs : List (Key × PV)} {vs : List (Key × V)} : RepV K G C θ S x v → RepK K G C θ S xs vs → RepK K G C θ S ((k, x) :: xs) ((k, v) :: vs)
inductive RepT (K : PySem.W.Frag) (G : FT) (C : Cells) (θ : List Addr) (S : Hp) : List (List Key × PV) → List (List Key × V) → Prop where
  | nil : RepT K G C θ S [] []
  | cons {k : List Key} {x : PV} {v : V} {xs : List (List Key × PV)} {vs : List (List Key × V)} : RepV K G C θ S x v → RepT K G C θ S xs vs → RepT K G C θ S ((k, x) :: xs) ((k, v) :: vs)
end

section
variable {K : PySem.W.Frag} {G : FT} {C C' : Cells} {θ θ' : List Addr} {S S' : Hp}
/-- the same, or a dict that is fixed from now on -/
def Lk (o o' : HO) : Prop := o' = o ∨ ((∃ od, o' = .frz od o) ∧ ((∃ kvs, o = .dK kvs) ∨ ∃ kvs, o = .dT kvs))
theorem Lk.refl (o : HO) : Lk o o := .inl rfl
theorem Lk.trans {a b c : HO} (h : Lk a b) (k : Lk b c) : Lk a c := by
  rcases h with rfl | ⟨⟨od, rfl⟩, q⟩
  · exact k
  · rcases k with rfl | ⟨_, z⟩
    · exact .inr ⟨⟨od, rfl⟩, q⟩
    · rcases z with ⟨_, z⟩ | ⟨_, z⟩ <;> cases z
def Gr (S S' : Hp) : Prop := ∀ a o, S a = some o → ∃ o', S' a = some o' ∧ Lk o o'
theorem Gr.refl (S : Hp) : Gr S S := fun _ o h => ⟨o, h, .refl o⟩
theorem Gr.trans {a b c : Hp} (h : Gr a b) (k : Gr b c) : Gr a c := fun x o e => by
  obtain ⟨o1, e1, l1⟩ := h x o e
  obtain ⟨o2, e2, l2⟩ := k x o1 e1
  exact ⟨o2, e2, l1.trans l2⟩
theorem Gr.of {S S' : Hp} (h : Same S S') : Gr S S' := fun _ o e => ⟨o, h _ _ e, .refl o⟩
theorem Gr.rd {S S' : Hp} {a : Addr} {u : HO} (e : Gr S S') (h : Rd S a u) : Rd S' a u := by
  rcases h with h | ⟨o, h⟩
  · obtain ⟨o', h', l⟩ := e _ _ h
    rcases l with rfl | ⟨⟨od, rfl⟩, _⟩
    · exact .inl h'
    · exact .inr ⟨od, h'⟩
  · obtain ⟨o', h', l⟩ := e _ _ h
    rcases l with rfl | ⟨_, z⟩
    · exact .inr ⟨o, h'⟩
    · rcases z with ⟨_, z⟩ | ⟨_, z⟩ <;> cases z
theorem Gr.sqL {K : PySem.W.Frag} {S S' : Hp} {a : Addr} {xs : List V} (e : Gr S S') (h : SqL K S a xs) : SqL K S' a xs := h.elim (fun z => .inl (e.rd z)) .inr
theorem Gr.sqT {K : PySem.W.Frag} {S S' : Hp} {a : Addr} {xs : List V} (e : Gr S S') (h : SqT K S a xs) : SqT K S' a xs := h.elim (fun z => .inl (e.rd z)) .inr
theorem Gr.tup {S S' : Hp} {a : Addr} {xs : List V} (e : Gr S S') (h : S a = some (.tup xs)) : S' a = some (.tup xs) := by
  obtain ⟨o', h', l⟩ := e _ _ h
  rcases l with rfl | ⟨_, z⟩
  · exact h'
  · rcases z with ⟨_, z⟩ | ⟨_, z⟩ <;> cases z
theorem Gr.lst {S S' : Hp} {a : Addr} {xs : List V} (e : Gr S S') (h : S a = some (.lst xs)) : S' a = some (.lst xs) := by
  obtain ⟨o', h', l⟩ := e _ _ h
  rcases l with rfl | ⟨_, z⟩
  · exact h'
  · rcases z with ⟨_, z⟩ | ⟨_, z⟩ <;> cases z
theorem Gr.ext {S S' : Hp} {a : Addr} {φ : Heap → Prop} (e : Gr S S') (h : S a = some (.ext φ)) : S' a = some (.ext φ) := by
  obtain ⟨o', h', l⟩ := e _ _ h
  rcases l with rfl | ⟨_, z⟩
  · exact h'
  · rcases z with ⟨_, z⟩ | ⟨_, z⟩ <;> cases z
theorem Gr.set {S S' : Hp} {a : Addr} {q : Int → Bool} {n : Nat} (e : Gr S S') (h : S a = some (.set q n)) : S' a = some (.set q n) := by
  obtain ⟨o', h', l⟩ := e _ _ h
  rcases l with rfl | ⟨_, z⟩
  · exact h'
  · rcases z with ⟨_, z⟩ | ⟨_, z⟩ <;> cases z
theorem Same.rd {a : Addr} {u : HO} (e : Same S S') (h : Rd S a u) : Rd S' a u := by
  rcases h with h | ⟨o, h⟩
  · exact .inl (e _ _ h)
  · exact .inr ⟨o, e _ _ h⟩
theorem Same.sqL {a : Addr} {xs : List V} (e : Same S S') (h : SqL K S a xs) : SqL K S' a xs := h.elim (fun z => .inl (Same.rd e z)) .inr
theorem Same.sqT {a : Addr} {xs : List V} (e : Same S S') (h : SqT K S a xs) : SqT K S' a xs := h.elim (fun z => .inl (Same.rd e z)) .inr
/-- θ grown at its end -/
def Pre (θ θ' : List Addr) : Prop := ∃ δ, θ' = θ ++ δ
theorem Pre.refl (θ : List Addr) : Pre θ θ := ⟨[], by simp⟩
theorem Pre.trans {a b c : List Addr} (h : Pre a b) (k : Pre b c) : Pre a c := by
  obtain ⟨x, rfl⟩ := h
  obtain ⟨y, rfl⟩ := k
  exact ⟨x ++ y, by simp⟩
theorem Pre.get {a b : List Addr} (h : Pre a b) {i : Nat} {x : Addr} (e : a[i]? = some x) : b[i]? = some x := by
  obtain ⟨y, rfl⟩ := h
  have hi : i < a.length := (List.getElem?_eq_some_iff.mp e).1
  rw [List.getElem?_append_left hi]
  exact e
theorem Pre.mem {a b : List Addr} (h : Pre a b) {x : Addr} (e : x ∈ a) : x ∈ b := by
  obtain ⟨y, rfl⟩ := h
  exact List.mem_append_left _ e
mutual
theorem RepV.mono (e : Gr S S') (p : Pre θ θ') (c : ∀ a v, C a v → C' a v) : ∀ {x : PV} {v : V}, RepV K G C θ S x v → RepV K G C' θ' S' x v
  | _, _, .non => .non
  | _, _, .bl b => .bl b
  | _, _, .int i => .int i
  | _, _, .str x => .str x
  | _, _, .tup h r => .tup (e.tup h) (RepL.mono e p c r)
  | _, _, .lst h r => .lst (e.lst h) (RepL.mono e p c r)
  | _, _, .scr h r => .scr (e.sqL h) (RepL.mono e p c r)
  | _, _, .dct h r => .dct (e.rd h) (RepK.mono e p c r)
  | _, _, .dtt h r => .dtt (e.rd h) (RepT.mono e p c r)
  | _, _, .obj h => .obj (p.get h)
  | _, _, .fn h => .fn h
  | _, _, .clo l h1 h2 h3 h4 h5 h6 r => .clo l (e.ext h1) (e.ext h2) (fun i y v a b => let ⟨z, q1, q2⟩ := h3 i y v a b; ⟨z, q1, c _ _ q2⟩) h4 h5 h6 (RepL.mono e p c r)
theorem RepL.mono (e : Gr S S') (p : Pre θ θ') (c : ∀ a v, C a v → C' a v) : ∀ {x : List PV} {v : List V}, RepL K G C θ S x v → RepL K G C' θ' S' x v
  | _, _, .nil => .nil
  | _, _, .cons h r => .cons (RepV.mono e p c h) (RepL.mono e p c r)
theorem RepK.mono (e : Gr S S') (p : Pre θ θ') (c : ∀ a v, C a v → C' a v) : ∀ {x : List (Key × PV)} {v : List (Key × V)}, RepK K G C θ S x v → RepK K G C' θ' S' x v
  | _, _, .nil => .nil
  | _, _, .cons h r => .cons (RepV.mono e p c h) (RepK.mono e p c r)
theorem RepT.mono (e : Gr S S') (p : Pre θ θ') (c : ∀ a v, C a v → C' a v) : ∀ {x : List (List Key × PV)} {v : List (List Key × V)}, RepT K G C θ S x v → RepT K G C' θ' S' x v
  | _, _, .nil => .nil
  | _, _, .cons h r => .cons (RepV.mono e p c h) (RepT.mono e p c r)
end
/-! a value without closures leans on no cell -/
mutual
theorem RepV.free : ∀ {x : PV} {v : V}, RepV K G C θ S x v → x.plain = true → RepV K G C' θ S x v
  | _, _, .non, _ => .non
  | _, _, .bl b, _ => .bl b
  | _, _, .int i, _ => .int i
  | _, _, .str x, _ => .str x
  | _, _, .tup h r, p => .tup h (RepL.free r (by simpa [PV.plain] using p))
  | _, _, .lst h r, p => .lst h (RepL.free r (by simpa [PV.plain] using p))
  | _, _, .scr h r, p => .scr h (RepL.free r (by simpa [PV.plain] using p))
  | _, _, .dct h r, p => .dct h (RepK.free r (by simpa [PV.plain] using p))
  | _, _, .dtt h r, p => .dtt h (RepT.free r (by simpa [PV.plain] using p))
  | _, _, .obj h, _ => .obj h
  | _, _, .fn h, _ => .fn h
  | _, _, .clo (caps := []) l h1 h2 h3 h4 h5 h6 r, p => by
    cases r
    refine .clo l h1 h2 (fun i y v a b => ?_) h4 h5 h6 .nil
    simp at b
  | _, _, .clo (caps := _ :: _) l h1 h2 h3 h4 h5 h6 r, p => by simp [PV.plain] at p
theorem RepL.free : ∀ {x : List PV} {v : List V}, RepL K G C θ S x v → plains x = true → RepL K G C' θ S x v
  | _, _, .nil, _ => .nil
  | _, _, .cons h r, p => by
    simp only [plains, Bool.and_eq_true] at p
    exact .cons (RepV.free h p.1) (RepL.free r p.2)
theorem RepK.free : ∀ {x : List (Key × PV)} {v : List (Key × V)}, RepK K G C θ S x v → plainK x = true → RepK K G C' θ S x v
  | _, _, .nil, _ => .nil
  | _, _, .cons h r, p => by
    simp only [plainK, Bool.and_eq_true] at p
    exact .cons (RepV.free h p.1) (RepK.free r p.2)
theorem RepT.free : ∀ {x : List (List Key × PV)} {v : List (List Key × V)}, RepT K G C θ S x v → plainT x = true → RepT K G C' θ S x v
  | _, _, .nil, _ => .nil
  | _, _, .cons h r, p => by
    simp only [plainT, Bool.and_eq_true] at p
    exact .cons (RepV.free h p.1) (RepT.free r p.2)
end
theorem RepL.length : ∀ {x : List PV} {v : List V}, RepL K G C θ S x v → x.length = v.length
  | _, _, .nil => rfl
  | _, _, .cons _ r => by simp [RepL.length r]
theorem RepL.get : ∀ {x : List PV} {v : List V} {i : Nat} {p : PV}, RepL K G C θ S x v → x[i]? = some p → ∃ u, v[i]? = some u ∧ RepV K G C θ S p u
  | _, _, _, _, .nil, e => by simp at e
  | _, _, 0, _, .cons h _, e => by simp at e; subst e; exact ⟨_, rfl, h⟩
  | _, _, i + 1, _, .cons _ r, e => by
    obtain ⟨u, h1, h2⟩ := RepL.get (i := i) r (by simpa using e)
    exact ⟨u, by simpa using h1, h2⟩
theorem RepL.getV : ∀ {x : List PV} {v : List V} {i : Nat} {u : V}, RepL K G C θ S x v → v[i]? = some u → ∃ p, x[i]? = some p ∧ RepV K G C θ S p u
  | _, _, _, _, .nil, e => by simp at e
  | _, _, 0, _, .cons h _, e => by simp at e; subst e; exact ⟨_, rfl, h⟩
  | _, _, i + 1, _, .cons _ r, e => by
    obtain ⟨u, h1, h2⟩ := RepL.getV (i := i) r (by simpa using e)
    exact ⟨u, by simpa using h1, h2⟩
theorem RepL.append : ∀ {x y : List PV} {v u : List V}, RepL K G C θ S x v → RepL K G C θ S y u → RepL K G C θ S (x ++ y) (v ++ u)
  | _, _, _, _, .nil, r => r
  | _, _, _, _, .cons h r, q => .cons h (RepL.append r q)
theorem RepL.take : ∀ {x : List PV} {v : List V} (n : Nat), RepL K G C θ S x v → RepL K G C θ S (x.take n) (v.take n)
  | _, _, 0, _ => by simp; exact .nil
  | _, _, _ + 1, .nil => by simp; exact .nil
  | _, _, n + 1, .cons h r => by simp; exact .cons h (RepL.take n r)
theorem RepL.drop : ∀ {x : List PV} {v : List V} (n : Nat), RepL K G C θ S x v → RepL K G C θ S (x.drop n) (v.drop n)
  | _, _, 0, r => by simpa using r
  | _, _, _ + 1, .nil => by simp; exact .nil
  | _, _, n + 1, .cons h r => by simp; exact RepL.drop n r
theorem RepL.set : ∀ {x : List PV} {v : List V} {p : PV} {u : V} (n : Nat), RepV K G C θ S p u → RepL K G C θ S x v → RepL K G C θ S (x.set n p) (v.set n u)
  | _, _, _, _, _, _, .nil => by simp; exact .nil
  | _, _, _, _, 0, h, .cons _ r => by simp; exact .cons h r
  | _, _, _, _, n + 1, h, .cons q r => by simp; exact .cons q (RepL.set n h r)
theorem RepL.ints : ∀ {x : List PV} {v : List V} {ns : List Int}, RepL K G C θ S x v → intsOf x = some ns → v = ns.map V.int
  | _, _, _, .nil, e => by simp [intsOf] at e; subst e; rfl
  | _, _, _, .cons (x := .int i) h r, e => by
    simp only [intsOf, Option.map_eq_some_iff] at e
    obtain ⟨ms, e1, rfl⟩ := e
    cases h
    rw [RepL.ints r e1]; rfl
  | _, _, _, .cons (x := .non) _ _, e => by simp [intsOf] at e
  | _, _, _, .cons (x := .bl _) _ _, e => by simp [intsOf] at e
  | _, _, _, .cons (x := .str _) _ _, e => by simp [intsOf] at e
  | _, _, _, .cons (x := .tup _) _ _, e => by simp [intsOf] at e
  | _, _, _, .cons (x := .lst _) _ _, e => by simp [intsOf] at e
  | _, _, _, .cons (x := .dct _) _ _, e => by simp [intsOf] at e
  | _, _, _, .cons (x := .dtt _) _ _, e => by simp [intsOf] at e
  | _, _, _, .cons (x := .scr _) _ _, e => by simp [intsOf] at e
  | _, _, _, .cons (x := .obj _) _ _, e => by simp [intsOf] at e
  | _, _, _, .cons (x := .fn _ _) _ _, e => by simp [intsOf] at e
theorem RepL.bools : ∀ {x : List PV} {v : List V} {ns : List Bool}, RepL K G C θ S x v → boolsOf x = some ns → v = ns.map V.bl
  | _, _, _, .nil, e => by simp [boolsOf] at e; subst e; rfl
  | _, _, _, .cons (x := .bl i) h r, e => by
    simp only [boolsOf, Option.map_eq_some_iff] at e
    obtain ⟨ms, e1, rfl⟩ := e
    cases h
    rw [RepL.bools r e1]; rfl
  | _, _, _, .cons (x := .non) _ _, e => by simp [boolsOf] at e
  | _, _, _, .cons (x := .int _) _ _, e => by simp [boolsOf] at e
  | _, _, _, .cons (x := .str _) _ _, e => by simp [boolsOf] at e
  | _, _, _, .cons (x := .tup _) _ _, e => by simp [boolsOf] at e
  | _, _, _, .cons (x := .lst _) _ _, e => by simp [boolsOf] at e
  | _, _, _, .cons (x := .dct _) _ _, e => by simp [boolsOf] at e
  | _, _, _, .cons (x := .dtt _) _ _, e => by simp [boolsOf] at e
  | _, _, _, .cons (x := .scr _) _ _, e => by simp [boolsOf] at e
  | _, _, _, .cons (x := .obj _) _ _, e => by simp [boolsOf] at e
  | _, _, _, .cons (x := .fn _ _) _ _, e => by simp [boolsOf] at e
theorem RepK.length : ∀ {x : List (Key × PV)} {v : List (Key × V)}, RepK K G C θ S x v → x.length = v.length
  | _, _, .nil => rfl
  | _, _, .cons _ r => by simp [RepK.length r]
end
end TL

set_option linter.all false
set_option maxRecDepth 100000
/-! TLRel: the state of a def over the heap, steps, readings of what is evaluated. Own work. -/
namespace TL
open PySem PySem.Spec PyProof.Rows L2 NdefX

/-- all that is fixed through a law: functions, classes, tables of code objects -/
structure GT extends FT where
  cls : Nat → Option Addr
  xcl : Nat → Option Addr
  T : List NTab

def noC : Cells := fun _ _ => False
inductive RepF (K : PySem.W.Frag) (G : FT) (C : Cells) (θ : List Addr) (S : Hp) : List (Str × PV) → List (Str × V) → Prop where
  | nil : RepF K G C θ S [] []
  | cons {k : Str} {x : PV} {v : V} {xs : List (Str × PV)} {vs : List (Str × V)} : RepV K G C θ S x v → RepF K G C θ S xs vs → RepF K G C θ S ((k, x) :: xs) ((k, v) :: vs)
/-- a shared thing at an address -/
inductive RepO (K : PySem.W.Frag) (G : GT) (θ : List Addr) (S H : Hp) : SO → Addr → Prop where
  | lst {a : Addr} {xs : List PV} {vs : List V} : H a = some (.lst vs) → RepL K G.toFT noC θ S xs vs → RepO K G θ S H (.lst xs) a
  | dct {a : Addr} {xs : List (Key × PV)} {vs : List (Key × V)} : H a = some (.dK vs) → RepK K G.toFT noC θ S xs vs → RepO K G θ S H (.dct xs) a
  | ins {a : Addr} {c : Nat} {A dx : Addr} {xs : List (Str × PV)} {vs : List (Str × V)} : G.cls c = some A → H a = some (.ins A dx vs) → RepF K G.toFT noC θ S xs vs → RepO K G θ S H (.ins c xs) a
theorem RepO.there {K : PySem.W.Frag} {G : GT} {θ : List Addr} {S H : Hp} {u : SO} {a : Addr} (h : RepO K G θ S H u a) : ∃ o, H a = some o ∧ (∀ ps, o ≠ .tbl ps) ∧ ∀ φ, o ≠ .ext φ := by
  cases h with
  | lst q _ => exact ⟨_, q, fun _ z => by (cases z), fun _ z => by (cases z)⟩
  | dct q _ => exact ⟨_, q, fun _ z => by (cases z), fun _ z => by (cases z)⟩
  | ins _ q _ => exact ⟨_, q, fun _ z => by (cases z), fun _ z => by (cases z)⟩
/-- the tables of code objects; each code object is known for good -/
def TabsK (T : List NTab) (S H : Hp) : Prop := ∀ p ∈ T, ∃ ps : Array Value, H p.1 = some (.tbl ps) ∧ TriplesOk ps.toList ∧ ∀ (pos : Pos) (cv : Value), codeAmong pos ps.toList = some cv → ∃ c, cv = .ref c ∧ S c = some (LamX.CodeO c (p.2 pos.line pos.col))
/-- the store -/
structure RS (K : PySem.W.Frag) (G : GT) (θ : List Addr) (S H : Hp) (mu : List SO) : Prop where
  same : Same S H
  nd : θ.Nodup
  len : θ.length = mu.length
  out : ∀ a ∈ θ, S a = none
  obj : ∀ (i : Nat) (o : SO) (a : Addr), mu[i]? = some o → θ[i]? = some a → RepO K G θ S H o a
  tabs : TabsK G.T S H
  tabO : ∀ p ∈ G.T, S p.1 = none
/-- from a heap to a later one -/
structure Ste (θ : List Addr) (S H : Hp) (θ' : List Addr) (S' H' : Hp) : Prop where
  sS : Gr S S'
  pre : Pre θ θ'
  new : ∀ a ∈ θ', a ∉ θ → H a = none
  frz : ∀ a, S a = none → S' a ≠ none → H a = none
  kp : ∀ a o, H a = some o → a ∉ θ → (∀ ps, o ≠ .tbl ps) → H' a = some o ∨ (S a = some o ∧ ∃ o', H' a = some o' ∧ Lk o o')
  al : ∀ a, H a ≠ none → H' a ≠ none
theorem Ste.refl (θ : List Addr) (S H : Hp) : Ste θ S H θ S H := ⟨Gr.refl S, Pre.refl θ, fun _ h n => absurd h n, fun _ h n => absurd h n, fun _ _ h _ _ => .inl h, fun _ h => h⟩
theorem Ste.trans {θ θ1 θ2 : List Addr} {S S1 S2 H H1 H2 : Hp} (a : Ste θ S H θ1 S1 H1) (b : Ste θ1 S1 H1 θ2 S2 H2) : Ste θ S H θ2 S2 H2 where
  sS := a.sS.trans b.sS
  pre := a.pre.trans b.pre
  new := fun x h n => by
    by_cases h1 : x ∈ θ1
    · exact a.new x h1 n
    · cases e : H x with
      | none => rfl
      | some o => exact absurd (b.new x h h1) (a.al x (by rw [e]; simp))
  frz := fun x h n => by
    by_cases h1 : S1 x = none
    · cases e : H x with
      | none => rfl
      | some o => exact absurd (b.frz x h1 n) (a.al x (by rw [e]; simp))
    · exact a.frz x h h1
  kp := fun x o h n t => by
    have n1 : x ∉ θ1 := fun z => by
      have := a.new x z n
      rw [this] at h; cases h
    rcases a.kp x o h n t with h1 | ⟨hs, o1, h1, l1⟩
    · rcases b.kp x o h1 n1 t with h2 | ⟨hs1, o2, h2, l2⟩
      · exact .inl h2
      · cases q : S x with
        | none =>
          have := a.frz x q (by rw [hs1]; simp)
          rw [this] at h; cases h
        | some u =>
          obtain ⟨u', e1, l⟩ := a.sS x u q
          rw [hs1] at e1; cases e1
          rcases l with rfl | ⟨⟨od, rfl⟩, _⟩
          · exact .inr ⟨rfl, o2, h2, l2⟩
          · rcases l2 with rfl | ⟨_, z⟩
            · exact .inl h2
            · rcases z with ⟨_, z⟩ | ⟨_, z⟩ <;> cases z
    · have t1 : ∀ ps, o1 ≠ .tbl ps := fun ps z => by
        rcases l1 with rfl | ⟨⟨od, rfl⟩, _⟩
        · exact t ps z
        · cases z
      rcases b.kp x o1 h1 n1 t1 with h2 | ⟨_, o2, h2, l2⟩
      · exact .inr ⟨hs, o1, h2, l1⟩
      · exact .inr ⟨hs, o2, h2, l1.trans l2⟩
  al := fun x h => b.al x (a.al x h)
/-- a new object, known for good -/
theorem Ste.alloc {θ : List Addr} {S H : Hp} {p : Addr} {o : HO} (hS : Same S H) (n : H p = none) : Ste θ S H θ (upd S p o) (upd H p o) where
  sS := Gr.of fun a u h => by
    rw [upd_ne (ne_of_none (hS a u h) n)]
    exact h
  pre := Pre.refl θ
  new := fun _ h k => absurd h k
  frz := fun a h k => by
    by_cases e : a = p
    · rw [e]; exact n
    · rw [upd_ne e] at k
      exact absurd h k
  kp := fun a u h _ _ => .inl (by
    rw [upd_ne (ne_of_none h n)]
    exact h)
  al := fun a h => by
    by_cases e : a = p
    · rw [e, upd_same]; simp
    · rw [upd_ne e]; exact h
theorem Same.upd2 {S H : Hp} {p : Addr} {o : HO} (hS : Same S H) : Same (upd S p o) (upd H p o) := fun a u h => by
  by_cases e : a = p
  · rw [e, upd_same] at h ⊢
    exact h
  · rw [upd_ne e] at h ⊢
    exact hS a u h
section
variable {K : PySem.W.Frag} {G : GT} {θ θ' : List Addr} {S S' H H' : Hp} {mu : List SO}
theorem RepF.mono {K : PySem.W.Frag} {G : FT} {C C' : Cells} {θ θ' : List Addr} {S S' : Hp} (e : Gr S S') (p : Pre θ θ') (c : ∀ a v, C a v → C' a v) : ∀ {x : List (Str × PV)} {v : List (Str × V)}, RepF K G C θ S x v → RepF K G C' θ' S' x v
  | _, _, .nil => .nil
  | _, _, .cons h r => .cons (RepV.mono e p c h) (RepF.mono e p c r)
theorem RS.there (r : RS K G θ S H mu) {a : Addr} (h : a ∈ θ) : ∃ o, H a = some o ∧ (∀ ps, o ≠ .tbl ps) ∧ ∀ φ, o ≠ .ext φ := by
  obtain ⟨i, hi, ei⟩ := List.mem_iff_getElem.mp h
  have hm : i < mu.length := by rw [← r.len]; exact hi
  exact (r.obj i mu[i] a (List.getElem?_eq_getElem hm) (by rw [List.getElem?_eq_getElem hi, ei])).there
/-- the store behind a step that touches no shared thing -/
theorem RS.step (r : RS K G θ S H mu) (e : Ste θ S H θ S' H') (hS : Same S' H') (ko : ∀ a ∈ θ, H' a = H a) (kt : ∀ p ∈ G.T, H' p.1 = H p.1) (kd : ∀ b o, H b = some o → (∀ ps, o ≠ .tbl ps) → b ∉ θ → H' b = some o) : RS K G θ S' H' mu where
  same := hS
  nd := r.nd
  len := r.len
  out := fun a h => by
    cases q : S' a with
    | none => rfl
    | some o =>
      have h1 := e.frz a (r.out a h) (by rw [q]; simp)
      obtain ⟨o', z, _⟩ := r.there h
      rw [h1] at z; cases z
  obj := fun i o a h1 h2 => by
    have ha : a ∈ θ := List.mem_of_getElem? h2
    have z := r.obj i o a h1 h2
    have k := ko a ha
    cases z with
    | lst q l => exact .lst (k.trans q) (RepL.mono e.sS (Pre.refl θ) (fun _ _ h => h) l)
    | dct q l => exact .dct (k.trans q) (RepK.mono e.sS (Pre.refl θ) (fun _ _ h => h) l)
    | ins g q l => exact .ins g (k.trans q) (RepF.mono e.sS (Pre.refl θ) (fun _ _ h => h) l)
  tabs := fun p hp => by
    obtain ⟨ps, h1, h2, h3⟩ := r.tabs p hp
    refine ⟨ps, (kt p hp).trans h1, h2, fun pos cv hc => ?_⟩
    obtain ⟨c, e1, e2⟩ := h3 pos cv hc
    exact ⟨c, e1, e.sS.ext e2⟩
  tabO := fun p hp => by
    cases q : S' p.1 with
    | none => rfl
    | some o =>
      have h1 := e.frz p.1 (r.tabO p hp) (by rw [q]; simp)
      obtain ⟨ps, h2, _⟩ := r.tabs p hp
      rw [h1] at h2; cases h2
theorem RS.alloc {p : Addr} {o : HO} (r : RS K G θ S H mu) (n : H p = none) : RS K G θ (upd S p o) (upd H p o) mu := by
  refine r.step (Ste.alloc r.same n) (Same.upd2 r.same) (fun a h => ?_) (fun q hq => ?_) (fun b u h _ _ => ?_)
  · obtain ⟨u, hu, _, _⟩ := r.there h
    exact upd_ne (ne_of_none hu n)
  · obtain ⟨ps, h1, _⟩ := r.tabs q hq
    exact upd_ne (ne_of_none h1 n)
  · rw [upd_ne (ne_of_none h n)]
    exact h
end

/-! ### a def's state -/
/-- where a body began -/
structure Ent where
  θ : List Addr
  S : Hp
  H : Hp
  fx : List (Nat × Addr)
/-- a cell that held v at the entry of the context, not changed since -/
def EC (X : Cx) (c : Addr) (v : V) : Prop := ∃ u, RelV v u ∧ X.s_0.heap.IsCell c (some u) ∧ X.H_0 c = none ∧ c ∉ X.ex
/-- cells whose value is known: those from outside, the captured ones of one's own -/
def CC (X : Cx) (C0 : Cells) (σ : L2.St) (cap : List Nat) : Cells := fun c v => C0 c v ∨ ∃ (i : Nat) (y : Str), i ∈ cap ∧ X.N[i]? = some y ∧ (X.env.scope.names.lookup y = some .cell ∨ X.env.scope.names.lookup y = some .free) ∧ X.env.cells.lookup y = some c ∧ σ[i]? = some (some v)
/-- a list, a dict of one's own -/
inductive OwnAt (K : PySem.W.Frag) (G : FT) (C : Cells) (θ : List Addr) (S H : Hp) : PV → Addr → Prop where
  | lst {a : Addr} {xs : List PV} {vs : List V} : H a = some (.lst vs) → RepL K G C θ S xs vs → OwnAt K G C θ S H (.lst xs) a
  | dct {a : Addr} {xs : List (Key × PV)} {vs : List (Key × V)} : H a = some (.dK vs) → RepK K G C θ S xs vs → OwnAt K G C θ S H (.dct xs) a
  | dtt {a : Addr} {xs : List (List Key × PV)} {vs : List (List Key × V)} : H a = some (.dT vs) → RepT K G C θ S xs vs → OwnAt K G C θ S H (.dtt xs) a
theorem OwnAt.mono {K : PySem.W.Frag} {G : FT} {C C' : Cells} {θ θ' : List Addr} {S S' H H' : Hp} (e : Gr S S') (p : Pre θ θ') (c : ∀ a v, C a v → C' a v) {x : PV} {a : Addr} (h : OwnAt K G C θ S H x a)
    (k : ∀ o, H a = some o → (∀ ps, o ≠ .tbl ps) → H' a = some o) : OwnAt K G C' θ' S' H' x a := by
  cases h with
  | lst h r => exact .lst (k _ h (fun _ z => by cases z)) (RepL.mono e p c r)
  | dct h r => exact .dct (k _ h (fun _ z => by cases z)) (RepK.mono e p c r)
  | dtt h r => exact .dtt (k _ h (fun _ z => by cases z)) (RepT.mono e p c r)
theorem OwnAt.there {K : PySem.W.Frag} {G : FT} {C : Cells} {θ : List Addr} {S H : Hp} {x : PV} {a : Addr} (h : OwnAt K G C θ S H x a) : ∃ o, H a = some o ∧ ∀ ps, o ≠ .tbl ps := by
  cases h with
  | lst h r => exact ⟨_, h, fun _ z => by cases z⟩
  | dct h r => exact ⟨_, h, fun _ z => by cases z⟩
  | dtt h r => exact ⟨_, h, fun _ z => by cases z⟩
structure Rel (X : Cx) (G : GT) (En : Ent) (C0 : Cells) (θ : List Addr) (S H : Hp) (s : DS) (σ : L2.St) : Prop where
  rs : RS X.K G θ S H s.mu
  en : Ste En.θ En.S En.H θ S H
  c0 : ∀ c v, C0 c v → EC X c v
  len : s.loc.length = X.N.length
  len2 : σ.length = X.N.length
  slot : ∀ (i : Nat) (p : PV), s.loc[i]? = some (some p) → i ∉ s.own → ∃ v, σ[i]? = some (some v) ∧ RepV X.K G.toFT (CC X C0 σ s.cap) θ S p v
  own : ∀ i ∈ s.own, ∃ (p : PV) (a : Addr), s.loc[i]? = some (some p) ∧ σ[i]? = some (some (.ref a)) ∧ S a = none ∧ a ∉ θ ∧ En.H a = none ∧ OwnAt X.K G.toFT (CC X C0 σ s.cap) θ S H p a
  dis : ∀ (i j : Nat) (a : Addr), i ∈ s.own → j ∈ s.own → σ[i]? = some (some (.ref a)) → σ[j]? = some (some (.ref a)) → i = j
  fxd : ∀ p ∈ En.fx, p.1 ∈ s.cap ∧ σ[p.1]? = some (some (.ref p.2))
section
variable {X : Cx} {G : GT} {En : Ent} {C0 : Cells} {θ θ' : List Addr} {S S' H H' : Hp} {s : DS} {σ : L2.St}
/-- the store and the heap go on, the slots stay -/
theorem Rel.step {mu' : List SO} (r : Rel X G En C0 θ S H s σ) (e : Ste θ S H θ' S' H') (q : RS X.K G θ' S' H' mu') : Rel X G En C0 θ' S' H' { s with mu := mu' } σ where
  rs := q
  en := r.en.trans e
  c0 := r.c0
  len := r.len
  len2 := r.len2
  slot := fun i p h n => by
    obtain ⟨v, h1, h2⟩ := r.slot i p h n
    exact ⟨v, h1, RepV.mono e.sS e.pre (fun _ _ z => z) h2⟩
  own := fun i hi => by
    obtain ⟨p, a, h1, h2, h3, h4, h5, h6⟩ := r.own i hi
    obtain ⟨o, ho, _⟩ := h6.there
    refine ⟨p, a, h1, h2, ?_, fun z => ?_, h5, h6.mono e.sS e.pre (fun _ _ z => z) fun o h t => (e.kp a o h h4 t).elim id fun z => by
      rw [h3] at z; cases z.1⟩
    · cases q : S' a with
      | none => rfl
      | some u =>
        have := e.frz a h3 (by rw [q]; simp)
        rw [ho] at this; cases this
    · have := e.new a z h4
      rw [ho] at this; cases this
  dis := r.dis
  fxd := r.fxd
/-- the cells hold what is told -/
def CellsIn (s : Shared) (H : Hp) (C : Cells) : Prop := ∀ c v, C c v → ∃ u, RelV v u ∧ s.heap.IsCell c (some u) ∧ H c = none

/-! ### readings -/
/-- how an exception stands -/
def RepX (K : PySem.W.Frag) (G : GT) (θ : List Addr) (S : Hp) (c : Nat) (fs : List (Str × PV)) (cls : Value) (d : Option Addr) (H : Hp) : Prop :=
  ∃ A, G.xcl c = some A ∧ cls = .ref A ∧ ((fs = [] ∧ d = none) ∨ ∃ (dx : Addr) (vs : List (Str × V)), d = some dx ∧ H dx = some (.xd vs) ∧ RepF K G.toFT noC θ S fs vs)
abbrev WF := L2.St → XK
/-- what follows an evaluation -/
def PostR (X : Cx) (G : GT) (En : Ent) (C0 : Cells) (W : WX) (θ : List Addr) (S H : Hp) (σ : L2.St) {α : Type} (r : DR α) (P : α → DS → List Addr → Hp → Hp → Prop) : Prop := match r with
  | .ok a s' => ∀ θ' S' H', Ste θ S H θ' S' H' → Rel X G En C0 θ' S' H' s' σ → P a s' θ' S' H'
  | .exc c fs s' => ∀ θ' S' H' cls d, Ste θ S H θ' S' H' → Rel X G En C0 θ' S' H' s' σ → RepX X.K G θ' S' c fs cls d H' → W cls d σ H'
  | .bad => False
/-- an expression's reading -/
def tD (X : Cx) (G : GT) (En : Ent) (C0 : Cells) (W : WX) (d : DS → DR PV) : TE := fun σ H Q => ∃ θ S s, Rel X G En C0 θ S H s σ ∧
  PostR X G En C0 W θ S H σ (d s) fun p s' θ' S' H' => ∀ v, RepV X.K G.toFT (CC X C0 σ s'.cap) θ' S' p v → Q v H'
/-- an argument list's -/
def tDs (X : Cx) (G : GT) (En : Ent) (C0 : Cells) (W : WX) (d : DS → DR (List PV)) : TA := fun σ H Q => ∃ θ S s, Rel X G En C0 θ S H s σ ∧
  PostR X G En C0 W θ S H σ (d s) fun p s' θ' S' H' => ∀ v, RepL X.K G.toFT (CC X C0 σ s'.cap) θ' S' p v → Q v H'
/-- a value that is but looked at -/
def RdV (K : PySem.W.Frag) (G : FT) (C : Cells) (θ : List Addr) (S H : Hp) (p : PV) (v : V) : Prop := RepV K G C θ S p v ∨ ∃ a, v = .ref a ∧ a ∉ θ ∧ S a = none ∧ OwnAt K G C θ S H p a
def tB (X : Cx) (G : GT) (En : Ent) (C0 : Cells) (W : WX) (d : DS → DR PV) : TE := fun σ H Q => ∃ θ S s, Rel X G En C0 θ S H s σ ∧
  PostR X G En C0 W θ S H σ (d s) fun p s' θ' S' H' => ∀ v, RdV X.K G.toFT (CC X C0 σ s'.cap) θ' S' H' p v → Q v H'
/-- a test's -/
def tT (X : Cx) (G : GT) (En : Ent) (C0 : Cells) (W : WX) (d : DS → DR PV) : TT := fun σ H Q => ∃ θ S s, Rel X G En C0 θ S H s σ ∧
  PostR X G En C0 W θ S H σ (d s) fun p s' θ' S' H' => ∃ b, p = .bl b ∧ Q b H'
end
theorem _root_.L2.PE.wk {X : Cx} {e : Expr} {t t' : TE} (h : PE X e t) (k : ∀ σ H Q, t' σ H Q → t σ H Q) : PE X e t' := ⟨fun pins s σ H Q I q => h.run pins s σ H Q I (k σ H Q q)⟩
theorem _root_.L2.PT.wk {X : Cx} {e : Expr} {t t' : TT} (h : PT X e t) (k : ∀ σ H Q, t' σ H Q → t σ H Q) : PT X e t' := ⟨fun pins s σ H Q I q => h.run pins s σ H Q I (k σ H Q q)⟩
theorem _root_.L2.PW.wk {X : Cx} {e : Expr} {t t' : TT} (h : PW X e t) (k : ∀ σ H Q, t' σ H Q → t σ H Q) : PW X e t' := ⟨fun w pins s σ H Q I q => h.run w pins s σ H Q I (k σ H Q q)⟩
theorem _root_.L2.PA.wk {X : Cx} {e : List Expr} {t t' : TA} (h : PA X e t) (k : ∀ σ H Q, t' σ H Q → t σ H Q) : PA X e t' := ⟨fun p pins s σ H Q I q => h.run p pins s σ H Q I (k σ H Q q)⟩
theorem _root_.L2.PS.wk {X : Cx} {e : Stmt} {t t' : TS} (h : PS X e t) (k : ∀ D σ H, t' D σ H → t D σ H) : PS X e t' := ⟨fun pins s σ H D I q => h.run pins s σ H D I (k D σ H q)⟩
theorem _root_.L2.PSs.wk {X : Cx} {e : List Stmt} {t t' : TS} (h : PSs X e t) (k : ∀ D σ H, t' D σ H → t D σ H) : PSs X e t' := ⟨fun pins s σ H D I q => h.run pins s σ H D I (k D σ H q)⟩
theorem _root_.L2.PI.wk {X : Cx} {tg e : Expr} {t t' : TI} (h : PI X tg e t) (k : ∀ σ H Q, t' σ H Q → t σ H Q) : PI X tg e t' := ⟨fun pins s σ H Q I q => h.run pins s σ H Q I (k σ H Q q)⟩
theorem _root_.L2.OpR.wk {X : Cx} {f : Value → Value → Sem Value} {r r' : R2} (h : OpR X f r) (k : ∀ x y H Q, r' x y H Q → r x y H Q) : OpR X f r' := fun pins s σ H x y v u Q I a b q => h pins s σ H x y v u Q I a b (k _ _ _ _ q)
theorem _root_.L2.CallR.wk {X : Cx} {f : Value} {r r' : List V → Hp → VK → Prop} (h : CallR X f r) (k : ∀ x H Q, r' x H Q → r x H Q) : CallR X f r' := fun pins s σ H x v Q I a q => h pins s σ H x v Q I a (k _ _ _ q)

/-! ### what is captured only grows, the slots stay -/
def LeS (s s' : DS) : Prop := (∀ i ∈ s.cap, i ∈ s'.cap) ∧ s'.loc = s.loc ∧ s'.own = s.own
theorem LeS.refl (s : DS) : LeS s s := ⟨fun _ h => h, rfl, rfl⟩
theorem LeS.trans {a b c : DS} (h : LeS a b) (k : LeS b c) : LeS a c := ⟨fun i z => k.1 i (h.1 i z), k.2.1.trans h.2.1, k.2.2.trans h.2.2⟩
def Grow {α : Type} (d : DS → DR α) : Prop := ∀ s a s', d s = .ok a s' → LeS s s'
section
variable {α β : Type}
theorem Grow.bind {d : DS → DR α} {f : α → DS → DR β} (h : Grow d) (k : ∀ a, Grow (f a)) : Grow (fun s => (d s).bind (f ·)) := fun s b s' e => by
  have e : (d s).bind (f ·) = .ok b s' := e
  cases q : d s with
  | ok a s1 => rw [q] at e; exact (h s a s1 q).trans (k a s1 b s' e)
  | exc c fs s1 => rw [q] at e; cases e
  | bad => rw [q] at e; cases e
theorem Grow.opt {o : Option α} : Grow (fun s => DR.opt o s) := fun s b s' e => by
  cases o with
  | none => cases e
  | some a => cases e; exact .refl _
theorem Grow.ofF {r : DS → FR} : Grow (fun s => DR.ofF (r s) s) := fun s b s' e => by
  have e : DR.ofF (r s) s = .ok b s' := e
  cases q : r s with
  | ok v mu => rw [q] at e; cases e; exact ⟨fun _ h => h, rfl, rfl⟩
  | exc c fs s1 => rw [q] at e; cases e
  | bad => rw [q] at e; cases e
theorem Grow.ok {a : α} : Grow (fun s => DR.ok a s) := fun s b s' e => by cases e; exact .refl _
theorem Grow.ite {c : Prop} [Decidable c] {d d' : DS → DR α} (h : Grow d) (k : Grow d') : Grow (fun s => if c then d s else d' s) := by
  by_cases q : c
  · simp only [q, if_true]; exact h
  · simp only [q, if_false]; exact k
theorem Grow.bad : Grow (fun _ => (DR.bad : DR α)) := fun s b s' e => by cases e
end
mutual
theorem ev_grow (Φ : Phi) : ∀ e : IE, Grow (ev Φ e)
  | .non => Grow.ok | .bl _ => Grow.ok | .int _ => Grow.ok | .str _ => Grow.ok
  | .var i => fun s b s' e => by
    unfold ev at e
    split at e
    · cases e
    · exact Grow.opt s b s' e
  | .peek i => fun s b s' e => by
    unfold ev at e
    exact Grow.opt s b s' e
  | .bin op a b => (ev_grow Φ a).bind fun x => (ev_grow Φ b).bind fun y => Grow.opt
  | .neg a => (ev_grow Φ a).bind fun x => by cases x <;> first | exact Grow.ok | exact Grow.bad
  | .cmp op a b => (ev_grow Φ a).bind fun x => (ev_grow Φ b).bind fun y => Grow.opt
  | .cmp2 op op' a b c => (ev_grow Φ a).bind fun x => (ev_grow Φ b).bind fun y => by
    cases vcmp op x y with
    | none => exact Grow.bad
    | some b => cases b with
      | false => exact Grow.ok
      | true => exact (ev_grow Φ c).bind fun z => Grow.opt
  | .and a b => (ev_grow Φ a).bind fun x => by
    rcases x with _ | b' | _ | _ | _ | _ | _ | _ | _ | _ | _ <;> first | exact Grow.bad | (cases b' <;> first | exact Grow.ok | exact ev_grow Φ b)
  | .or a b => (ev_grow Φ a).bind fun x => by
    rcases x with _ | b' | _ | _ | _ | _ | _ | _ | _ | _ | _ <;> first | exact Grow.bad | (cases b' <;> first | exact Grow.ok | exact ev_grow Φ b)
  | .not a => (ev_grow Φ a).bind fun x => by cases x <;> first | exact Grow.ok | exact Grow.bad
  | .ite c a b => (ev_grow Φ c).bind fun x => by
    rcases x with _ | b' | _ | _ | _ | _ | _ | _ | _ | _ | _ <;> first | exact Grow.bad | (cases b' <;> first | exact ev_grow Φ a | exact ev_grow Φ b)
  | .tup es => (evs_grow Φ es).bind fun x => Grow.ite Grow.ok Grow.bad
  | .lst es => (evs_grow Φ es).bind fun x => Grow.ite Grow.ok Grow.bad
  | .dict es => (evs_grow Φ es).bind fun x => Grow.opt
  | .sh e => (ev_grow Φ e).bind fun x s b s' e => by
    split at e
    · split at e
      · cases e; exact ⟨fun _ h => h, rfl, rfl⟩
      · cases e
    · split at e
      · cases e; exact ⟨fun _ h => h, rfl, rfl⟩
      · cases e
    · cases e
  | .sub a i => (ev_grow Φ a).bind fun x => (ev_grow Φ i).bind fun y s b s' e => Grow.opt s b s' e
  | .cut a l lo h hi => (ev_grow Φ a).bind fun x => Grow.bind (Grow.ite ((ev_grow Φ lo).bind fun y => by cases y <;> first | exact Grow.ok | exact Grow.bad) Grow.ok) fun lo => Grow.bind (Grow.ite ((ev_grow Φ hi).bind fun y => by cases y <;> first | exact Grow.ok | exact Grow.bad) Grow.ok) fun hi => Grow.opt
  | .call f es => (evs_grow Φ es).bind fun x => Grow.ofF
  | .callv i es => fun s b s' e => by
    unfold ev at e
    split at e
    · exact ((evs_grow Φ es).bind fun x => Grow.ofF) s b s' e
    · cases e
  | .blt b es => (evs_grow Φ es).bind fun x => Grow.opt
  | .ssort e => (ev_grow Φ e).bind fun x => Grow.opt
  | .comp own t it c e => (evI_grow Φ it).bind fun xs s b s' q => by
    split at q
    · split at q
      · cases q; exact ⟨fun _ h => h, rfl, rfl⟩
      · cases q
    · cases q
  | .dget1 a k => (ev_grow Φ a).bind fun x => by
    cases x <;> first | exact Grow.bad | exact (ev_grow Φ k).bind fun y => Grow.opt
  | .dget2 a k d => (ev_grow Φ a).bind fun x => by
    cases x <;> first | exact Grow.bad | exact (ev_grow Φ k).bind fun y => (ev_grow Φ d).bind fun z => Grow.opt
  | .lam k caps => fun s b s' e => by
    unfold ev at e
    split at e
    · cases e; exact ⟨fun _ h => List.mem_append_right _ h, rfl, rfl⟩
    · cases e
  | .fld a cs f => (ev_grow Φ a).bind fun x s b s' e => by
    split at e
    · split at e
      · exact Grow.opt s b s' e
      · cases e
    · cases e
  | .meth a m ms es => (ev_grow Φ a).bind fun x s b s' e => by
    split at e
    · split at e
      · exact ((evs_grow Φ es).bind fun x => Grow.ofF) s b s' e
      · cases e
    · cases e
  | .prop a ps => (ev_grow Φ a).bind fun x s b s' e => by
    split at e
    · split at e
      · exact Grow.ofF (r := fun s => noX (Φ _ _ s.mu)) s b s' e
      · cases e
    · cases e
  | .new c f es => (evs_grow Φ es).bind fun xs s b s' e => by
    split at e
    · unfold newF at e
      split at e
      · cases e; exact ⟨fun _ h => h, rfl, rfl⟩
      · cases e
      · cases e
    · cases e
  | .tupS a es => (ev_grow Φ a).bind fun x => by
    cases x <;> first | exact Grow.bad | exact (evs_grow Φ es).bind fun ys => Grow.ite Grow.ok Grow.bad
  | .lcnt a b => (ev_grow Φ a).bind fun x => by
    cases x <;> first | exact Grow.bad | exact (ev_grow Φ b).bind fun y => Grow.ite Grow.ok Grow.bad
  | .lidx a b => (ev_grow Φ a).bind fun x => by
    cases x <;> first | exact Grow.bad | exact (ev_grow Φ b).bind fun y => Grow.ite Grow.opt Grow.bad
  | .bool a => (ev_grow Φ a).bind fun x s b s' e => by
    split at e
    · exact Grow.ok s b s' e
    · exact Grow.ok s b s' e
    · exact Grow.opt s b s' e
  | .isB neg a b => (ev_grow Φ a).bind fun x => by
    cases x <;> first | exact Grow.bad | exact Grow.ok
  | .cmpo neg a b => (ev_grow Φ a).bind fun x => (ev_grow Φ b).bind fun y s b s' e => Grow.opt s b s' e
  | .stuck => Grow.bad
theorem evs_grow (Φ : Phi) : ∀ e : IEs, Grow (evs Φ e)
  | .nil => Grow.ok
  | .cons e es => (ev_grow Φ e).bind fun x => (evs_grow Φ es).bind fun xs => Grow.ok
theorem evI_grow (Φ : Phi) : ∀ e : II, Grow (evI Φ e)
  | .val e => (ev_grow Φ e).bind fun x => Grow.opt
  | .range1 a => (ev_grow Φ a).bind fun x => by
    cases x <;> first | exact Grow.bad | exact Grow.ite Grow.ok Grow.bad
  | .range2 a b => (ev_grow Φ a).bind fun x => (ev_grow Φ b).bind fun y => by
    cases x <;> cases y <;> first | exact Grow.bad | exact Grow.ite Grow.ok Grow.bad
  | .range3 a b c => (ev_grow Φ a).bind fun x => (ev_grow Φ b).bind fun y => (ev_grow Φ c).bind fun z => by
    cases x <;> cases y <;> cases z <;> first | exact Grow.bad | exact Grow.ite Grow.ok Grow.bad
  | .enum e => (ev_grow Φ e).bind fun x => Grow.opt
  | .zip2 a b => (ev_grow Φ a).bind fun x => (ev_grow Φ b).bind fun y => by
    cases seqOf x <;> cases seqOf y <;> first | exact Grow.bad | exact Grow.ok
  | .zip3 a b c => (ev_grow Φ a).bind fun x => (ev_grow Φ b).bind fun y => (ev_grow Φ c).bind fun z => by
    cases seqOf x <;> cases seqOf y <;> cases seqOf z <;> first | exact Grow.bad | exact Grow.ok
  | .items e => (ev_grow Φ e).bind fun x => by cases x <;> first | exact Grow.ok | exact Grow.bad
end
end TL

set_option linter.all false
set_option maxRecDepth 100000
/-! TLTupSum: sum, max, min of a tuple of ints. Own work. -/
namespace TL
open PySem PySem.Spec PyProof.Rows L2
section
variable {prog : Program} {w : World} {A : Around} {E : Value → Shared → Prop} {s : Shared} {t : Addr} {xs : Array (Int × Tok)} {its : List Value} {ns : List Int} {Q : Value → Shared → Prop}
theorem it_tup {P : Value → Shared → Prop} (ht : s.heap.IsTuple t (intItems xs)) (h : ∀ s2 : Shared, s2 = { s with heap := s.heap.push { cls := .type "tuple_iterator", data := .fields #[.ref t, .int 0 0] } } →
      (s2.heap.IsTupleIter s.heap.objs.size t 0 ∧ s2.heap.IsTuple t (intItems xs)) → (∀ b ∈ [s.heap.objs.size, t], b < s2.heap.objs.size) → t ≠ s.heap.objs.size → P (.ref s.heap.objs.size) s2) : wpAny (model prog w) A (pyIter (.ref t)) P E s := by
  obtain ⟨o, ho, _⟩ := id ht
  have lt := Heap.lt_size ho
  refine wpAny_pyIter_tuple ht (h _ rfl ⟨⟨_, Heap.get?_push_size _ rfl, rfl, rfl⟩, ht.at fun o e => Heap.get?_push_of_some _ e⟩ (fun b hb => ?_) (Nat.ne_of_lt lt))
  show b < (s.heap.push _).objs.size
  rw [Heap.size_push]
  simp only [List.mem_cons, List.not_mem_nil, or_false] at hb
  rcases hb with z | z
  · rw [z]; exact Nat.lt_succ_self _
  · rw [z]; exact Nat.lt_succ_of_lt lt
theorem old_tup {h' : Heap} (hk : ∀ b o, b ∉ [s.heap.objs.size] → (s.heap.push { cls := .type "tuple_iterator", data := .fields #[.ref t, .int 0 0] }).get? b = some o → h'.get? b = some o) : ∀ b o, s.heap.get? b = some o → h'.get? b = some o := fun b o e =>
  hk b o (fun z => absurd (Heap.lt_size e) (by rw [List.mem_singleton.mp z]; exact Nat.lt_irrefl _)) (Heap.get?_push_of_some _ e)
theorem max_tup (hh : A.handled = none) (hl : s.heap.IsTuple t its.toArray) (hi : IntsAre its ns) (hne : 0 < ns.length)
    (h : ∀ h' tk M t', (∀ b o, s.heap.get? b = some o → h'.get? b = some o) → M ∈ ns → (∀ a ∈ ns, a ≤ M) → Q (.int M t') { s with heap := h', toks := tk }) : wpAny (model prog w) A (call (.builtin "max") [.ref t]) Q E s := by
  obtain ⟨zs, e⟩ := hi.allInts.items
  have hn : numsOf (intItems zs).toList = ns := by rw [← e]; exact hi.numsOf
  rw [nums_intItems] at hn
  subst hn
  rw [e] at hl
  have hz : 0 < zs.size := by simpa using hne
  refine call_max_walk (it_tup hl fun s2 e st hfp hne2 => ?_)
  subst e
  refine ⟨_, _, _, _, _, _, _, rfl, Walks.tuple (A := A.in1) hh _ t hne2 (intItems zs), st, hfp, by simpa [intItems] using hz, CmpOf.ints_gt (numAt zs) (fun _ _ => intItems_at), fun v h' tk hv hk => ?_⟩
  have hv : (intItems zs)[argBest (fun i j => decide (numAt zs i > numAt zs j)) (zs.size - 1)]? = some v := by simpa [intItems] using hv
  obtain ⟨t', rfl⟩ := intItems_at hv
  obtain ⟨h1, h2⟩ := argBest_gt (numAt zs) (zs.size - 1)
  refine h h' tk _ t' (old_tup hk) ?_ fun a ha => ?_
  · rw [numAt_eq]; exact PySem.getD_mem (by rw [List.length_map, Array.length_toList]; omega)
  · obtain ⟨j, hj, rfl⟩ := mem_getD ha
    rw [List.length_map, Array.length_toList] at hj
    rw [← numAt_eq]; exact h2 j (by omega)
theorem min_tup (hh : A.handled = none) (hl : s.heap.IsTuple t its.toArray) (hi : IntsAre its ns) (hne : 0 < ns.length)
    (h : ∀ h' tk M t', (∀ b o, s.heap.get? b = some o → h'.get? b = some o) → M ∈ ns → (∀ a ∈ ns, M ≤ a) → Q (.int M t') { s with heap := h', toks := tk }) : wpAny (model prog w) A (call (.builtin "min") [.ref t]) Q E s := by
  obtain ⟨zs, e⟩ := hi.allInts.items
  have hn : numsOf (intItems zs).toList = ns := by rw [← e]; exact hi.numsOf
  rw [nums_intItems] at hn
  subst hn
  rw [e] at hl
  have hz : 0 < zs.size := by simpa using hne
  refine call_min_walk (it_tup hl fun s2 e st hfp hne2 => ?_)
  subst e
  refine ⟨_, _, _, _, _, _, _, rfl, Walks.tuple (A := A.in1) hh _ t hne2 (intItems zs), st, hfp, by simpa [intItems] using hz, CmpOf.ints_lt (numAt zs) (fun _ _ => intItems_at), fun v h' tk hv hk => ?_⟩
  have hv : (intItems zs)[argBest (fun i j => decide (numAt zs i < numAt zs j)) (zs.size - 1)]? = some v := by simpa [intItems] using hv
  obtain ⟨t', rfl⟩ := intItems_at hv
  obtain ⟨h1, h2⟩ := argBest_lt (numAt zs) (zs.size - 1)
  refine h h' tk _ t' (old_tup hk) ?_ fun a ha => ?_
  · rw [numAt_eq]; exact PySem.getD_mem (by rw [List.length_map, Array.length_toList]; omega)
  · obtain ⟨j, hj, rfl⟩ := mem_getD ha
    rw [List.length_map, Array.length_toList] at hj
    rw [← numAt_eq]; exact h2 j (by omega)
theorem sum_tup (hh : A.handled = none) (hl : s.heap.IsTuple t its.toArray) (hi : IntsAre its ns)
    (h : ∀ h' tk t', (∀ b o, s.heap.get? b = some o → h'.get? b = some o) → Q (.int ns.sum t') { s with heap := h', toks := tk }) : wpAny (model prog w) A (call (.builtin "sum") [.ref t]) Q E s := by
  obtain ⟨zs, e⟩ := hi.allInts.items
  have hn : numsOf (intItems zs).toList = ns := by rw [← e]; exact hi.numsOf
  rw [nums_intItems] at hn
  rw [e] at hl
  refine PySem.W.ktm_sumG hh hl fun h' tk t' hk => ?_
  have := h h' tk t' hk
  rw [preSum_eq, List.take_of_length_le (by simp), hn]
  exact this
end
section
variable {X : Cx}
/-- of a list or a tuple -/
def rSumB (K : PySem.W.Frag) : List V → Hp → VK → Prop := fun vs H Q => rSum K vs H Q ∨ ∃ (a : Addr) (ns : List Int), vs = [V.ref a] ∧ SqT K H a (ns.map V.int) ∧ Q (.int ns.sum) H
def rMaxB (K : PySem.W.Frag) : List V → Hp → VK → Prop := fun vs H Q => rMax K vs H Q ∨ ∃ (a : Addr) (ns : List Int), vs = [V.ref a] ∧ SqT K H a (ns.map V.int) ∧ 0 < ns.length ∧ ∀ m, m ∈ ns → (∀ y ∈ ns, y ≤ m) → Q (.int m) H
def rMinB (K : PySem.W.Frag) : List V → Hp → VK → Prop := fun vs H Q => rMin K vs H Q ∨ ∃ (a : Addr) (ns : List Int), vs = [V.ref a] ∧ SqT K H a (ns.map V.int) ∧ 0 < ns.length ∧ ∀ m, m ∈ ns → (∀ y ∈ ns, m ≤ y) → Q (.int m) H
theorem cr_sumB (hc : X.calm = true) : CallR X (.builtin "sum") (rSumB X.K) := by
  intro pins s σ H vs us Q I r h
  rcases h with h | ⟨a, ns, rfl, hs, q⟩
  · exact cr_sum hc pins s σ H vs us Q I r h
  · obtain ⟨its, rv, p, _⟩ := I.tuple hs
    rw [Vals.ref1 r]
    exact sum_tup (I.ok.hd hc) (show s.heap.IsTuple a its.toArray from p) rv.ints fun h' tk t' hk => ⟨.int _, H, I.kept hk, ⟨_, rfl⟩, q⟩
theorem cr_maxB (hc : X.calm = true) : CallR X (.builtin "max") (rMaxB X.K) := by
  intro pins s σ H vs us Q I r h
  rcases h with h | ⟨a, ns, rfl, hs, hne, q⟩
  · exact cr_max hc pins s σ H vs us Q I r h
  · obtain ⟨its, rv, p, _⟩ := I.tuple hs
    rw [Vals.ref1 r]
    exact max_tup (I.ok.hd hc) (show s.heap.IsTuple a its.toArray from p) rv.ints hne fun h' tk m t' hk h1 h2 => ⟨.int _, H, I.kept hk, ⟨_, rfl⟩, q m h1 h2⟩
theorem cr_minB (hc : X.calm = true) : CallR X (.builtin "min") (rMinB X.K) := by
  intro pins s σ H vs us Q I r h
  rcases h with h | ⟨a, ns, rfl, hs, hne, q⟩
  · exact cr_min hc pins s σ H vs us Q I r h
  · obtain ⟨its, rv, p, _⟩ := I.tuple hs
    rw [Vals.ref1 r]
    exact min_tup (I.ok.hd hc) (show s.heap.IsTuple a its.toArray from p) rv.ints hne fun h' tk m t' hk h1 h2 => ⟨.int _, H, I.kept hk, ⟨_, rfl⟩, q m h1 h2⟩
end
end TL

set_option linter.all false
set_option maxRecDepth 100000
/-! TLSnd1: expressions do what ev says: names, constants, operators, comparisons, displays, subscripts. Own work. -/
namespace TL
open PySem PySem.Spec PyProof.Rows L2 NdefX

section
variable {X : Cx} {G : GT} {En : Ent} {C0 : Cells} {W : WX} {θ : List Addr} {S H : Hp} {σ : L2.St} {s : DS}
theorem CC.mono {cap cap' : List Nat} (h : ∀ i ∈ cap, i ∈ cap') : ∀ c v, CC X C0 σ cap c v → CC X C0 σ cap' c v := fun c v z => by
  rcases z with z | ⟨i, y, a, b⟩
  · exact .inl z
  · exact .inr ⟨i, y, h i a, b⟩
theorem PostR.imp {α : Type} {r : DR α} {P P' : α → DS → List Addr → Hp → Hp → Prop} (h : PostR X G En C0 W θ S H σ r P)
    (k : ∀ a s' θ' S' H', r = .ok a s' → Ste θ S H θ' S' H' → Rel X G En C0 θ' S' H' s' σ → P a s' θ' S' H' → P' a s' θ' S' H') : PostR X G En C0 W θ S H σ r P' := by
  cases r with
  | ok a s' => exact fun θ' S' H' e R => k a s' θ' S' H' rfl e R (h θ' S' H' e R)
  | exc c fs s' => exact h
  | bad => exact h
theorem PostR.bind {α β : Type} {r : DR α} {f : α → DS → DR β} {P : β → DS → List Addr → Hp → Hp → Prop} (h : PostR X G En C0 W θ S H σ (r.bind f) P) :
    PostR X G En C0 W θ S H σ r fun a s' θ' S' H' => PostR X G En C0 W θ' S' H' σ (f a s') P := by
  cases r with
  | ok a s1 =>
    intro θ1 S1 H1 e1 R1
    have h : PostR X G En C0 W θ S H σ (f a s1) P := h
    show PostR X G En C0 W θ1 S1 H1 σ (f a s1) P
    cases q : f a s1 with
    | ok b s2 => rw [q] at h; exact fun θ2 S2 H2 e2 R2 => h θ2 S2 H2 (e1.trans e2) R2
    | exc c fs s2 => rw [q] at h; exact fun θ2 S2 H2 cls d e2 R2 => h θ2 S2 H2 cls d (e1.trans e2) R2
    | bad => rw [q] at h; exact h
  | exc c fs s1 => exact h
  | bad => exact h
/-- from a state, the reading -/
theorem tD.mk {d : DS → DR PV} {Q : VK} (R : Rel X G En C0 θ S H s σ) (h : PostR X G En C0 W θ S H σ (d s) fun p s' θ' S' H' => ∀ v, RepV X.K G.toFT (CC X C0 σ s'.cap) θ' S' p v → Q v H') : tD X G En C0 W d σ H Q := ⟨θ, S, s, R, h⟩
theorem Rel.now {p : PV} {Q : VK} {v : V} (R : Rel X G En C0 θ S H s σ) (h : PostR X G En C0 W θ S H σ (.ok p s) fun p s' θ' S' H' => ∀ v, RepV X.K G.toFT (CC X C0 σ s'.cap) θ' S' p v → Q v H')
    (r : RepV X.K G.toFT (CC X C0 σ s.cap) θ S p v) : Q v H := h θ S H (Ste.refl _ _ _) R v r
theorem Rel.eta (R : Rel X G En C0 θ S H s σ) : Rel X G En C0 θ S H { s with mu := s.mu } σ := R

/-! ### constants, names -/
theorem sd_int {i : Int} {j pos} {Φ : Phi} : PE X (.Constant (.int i) j pos) (tD X G En C0 W (ev Φ (.int i))) := pe_int.wk fun σ H Q ⟨θ, S, s, R, h⟩ => R.now h (.int i)
theorem sd_bl {i : Bool} {j pos} {Φ : Phi} : PE X (.Constant (.bool i) j pos) (tD X G En C0 W (ev Φ (.bl i))) := pe_bl.wk fun σ H Q ⟨θ, S, s, R, h⟩ => R.now h (.bl i)
theorem sd_non {j pos} {Φ : Phi} : PE X (.Constant .none j pos) (tD X G En C0 W (ev Φ .non)) := pe_non.wk fun σ H Q ⟨θ, S, s, R, h⟩ => R.now h .non
theorem sd_str {x : Str} {j pos} {Φ : Phi} : PE X (.Constant (.str x) j pos) (tD X G En C0 W (ev Φ (.str x))) := pe_str.wk fun σ H Q ⟨θ, S, s, R, h⟩ => R.now h (.str x)
theorem sd_gint {x : Str} {i : Int} {t : Tok} {pos} {Φ : Phi} (hg : Gl X x) (hm : X.mg x = some (.int i t)) (hd : (x == ("__debug__" : Str)) = false) : PE X (.Name x pos) (tD X G En C0 W (ev Φ (.int i))) :=
  (pe_glob (v := .int i) hg hm ⟨_, rfl⟩ hd).wk fun σ H Q ⟨θ, S, s, R, h⟩ => R.now h (.int i)
theorem sd_gstr {x z : Str} {t : Tok} {pos} {Φ : Phi} (hg : Gl X x) (hm : X.mg x = some (.str z t)) (hd : (x == ("__debug__" : Str)) = false) : PE X (.Name x pos) (tD X G En C0 W (ev Φ (.str z))) :=
  (pe_glob (v := .str z) hg hm ⟨_, rfl⟩ hd).wk fun σ H Q ⟨θ, S, s, R, h⟩ => R.now h (.str z)
theorem sd_gfn {x : Str} {k : Nat} {f : Addr} {pos} {Φ : Phi} (hg : Gl X x) (hm : X.mg x = some (.ref f)) (ha : G.addr k = some f) (hd : (x == ("__debug__" : Str)) = false) : PE X (.Name x pos) (tD X G En C0 W (fun s => .ok (.fn k []) s)) :=
  (pe_glob (v := .ref f) hg hm rfl hd).wk fun σ H Q ⟨θ, S, s, R, h⟩ => R.now h (.fn ha)
theorem getS_some {i : Nat} {p : PV} (h : getS s i = some p) : s.loc[i]? = some (some p) := by
  unfold getS at h
  split at h
  · rename_i q; cases h; exact q
  · cases h
theorem sd_var {x : Str} {i : Nat} {pos} {Φ : Phi} (hN : X.N[i]? = some x) (hv : Vis X.env.scope x) (hd : (x == ("__debug__" : Str)) = false) (hcd : (x == ("__classdict__" : Str)) = false) : PE X (.Name x pos) (tD X G En C0 W (ev Φ (.var i))) :=
  (pe_var (i := i) hN hv hd hcd).wk fun σ H Q ⟨θ, S, s, R, h⟩ => by
    unfold ev at h
    split at h
    · exact h.elim
    · rename_i n
      cases q : getS s i with
      | none => rw [q] at h; exact h.elim
      | some p =>
        rw [q] at h
        obtain ⟨v, h1, h2⟩ := R.slot i p (getS_some q) n
        exact ⟨v, h1, R.now h h2⟩
/-- a name looked at -/
def tP (X : Cx) (G : GT) (En : Ent) (C0 : Cells) (W : WX) (d : DS → DR PV) : TE := fun σ H Q => ∃ θ S s, Rel X G En C0 θ S H s σ ∧
  PostR X G En C0 W θ S H σ (d s) fun p s' θ' S' H' => ∀ v, RdV X.K G.toFT (CC X C0 σ s'.cap) θ' S' H' p v → Q v H'
theorem sd_peek {x : Str} {i : Nat} {pos} {Φ : Phi} (hN : X.N[i]? = some x) (hv : Vis X.env.scope x) (hd : (x == ("__debug__" : Str)) = false) (hcd : (x == ("__classdict__" : Str)) = false) : PE X (.Name x pos) (tP X G En C0 W (ev Φ (.peek i))) :=
  (pe_var (i := i) hN hv hd hcd).wk fun σ H Q ⟨θ, S, s, R, h⟩ => by
    unfold ev at h
    cases q : getS s i with
    | none => rw [q] at h; exact h.elim
    | some p =>
      rw [q] at h
      by_cases n : i ∈ s.own
      · obtain ⟨p', a, h1, h2, h3, h4, h5, h6⟩ := R.own i n
        have e : p = p' := by
          have := getS_some q
          rw [h1] at this
          cases this; rfl
        subst e
        exact ⟨_, h2, h θ S H (Ste.refl _ _ _) R _ (.inr ⟨a, rfl, h4, h3, h6⟩)⟩
      · obtain ⟨v, h1, h2⟩ := R.slot i p (getS_some q) n
        exact ⟨v, h1, h θ S H (Ste.refl _ _ _) R v (.inl h2)⟩
theorem sd_pk {e : Expr} {d : DS → DR PV} (h : PE X e (tD X G En C0 W d)) : PE X e (tP X G En C0 W d) := h.wk fun σ H Q ⟨θ, S, s, R, h⟩ => ⟨θ, S, s, R, h.imp fun a s' θ' S' H' _ _ _ q v r => q v (.inl r)⟩

/-! ### operators -/
/-- a rule for values serves an operation on contents -/
def OpS (K : PySem.W.Frag) (G : GT) (f : PV → PV → Option PV) (r : R2) : Prop :=
  ∀ (θ : List Addr) (S H : Hp) (mu : List SO) (C : Cells) (x y z : PV) (u v : V) (Q : VK), f x y = some z → RS K G θ S H mu → RepV K G.toFT C θ S x u → RepV K G.toFT C θ S y v →
    (∀ S' H' w, Ste θ S H θ S' H' → RS K G θ S' H' mu → RepV K G.toFT C θ S' z w → Q w H') → r u v H Q
theorem sd_op2 {r : R2} {f : PV → PV → Option PV} {d1 d2 : DS → DR PV} {σ : L2.St} {H : Hp} {Q : VK} (g2 : Grow d2) (op : OpS X.K G f r)
    (h : tD X G En C0 W (fun s => (d1 s).bind fun x s => (d2 s).bind fun y s => .opt (f x y) s) σ H Q) : tOp r (tD X G En C0 W d1) (tD X G En C0 W d2) σ H Q := by
  obtain ⟨θ, S, s, R, h⟩ := h
  refine ⟨θ, S, s, R, (PostR.bind h).imp fun x s1 θ1 S1 H1 _ e1 R1 h1 u ru => ?_⟩
  refine ⟨θ1, S1, s1, R1, (PostR.bind h1).imp fun y s2 θ2 S2 H2 q2 e2 R2 h2 v rv => ?_⟩
  cases q : f x y with
  | none => rw [q] at h2; exact h2.elim
  | some z =>
    rw [q] at h2
    refine op θ2 S2 H2 s2.mu _ x y z u v Q q R2.rs (RepV.mono e2.sS e2.pre (CC.mono (g2 s1 y s2 q2).1) ru) rv fun S' H' w e3 rs' rw' => ?_
    exact h2 θ2 S' H' e3 (R2.step e3 rs') w rw'
theorem sz {n : Nat} (h : n ≤ SZ) : n ≤ sizeLine := Nat.le_trans h (by unfold SZ; rw [sizeLine_eq]; decide)
theorem RepV.list {K : PySem.W.Frag} {G : FT} {C : Cells} {θ : List Addr} {S H : Hp} {xs : List PV} {v : V} (hS : Same S H) (r : RepV K G C θ S (.lst xs) v) : ∃ a vs, v = .ref a ∧ Rd H a (.lst vs) ∧ RepL K G C θ S xs vs := by
  cases r with
  | lst h r => exact ⟨_, _, rfl, .inl (hS _ _ h), r⟩
theorem RepV.tuple {K : PySem.W.Frag} {G : FT} {C : Cells} {θ : List Addr} {S H : Hp} {xs : List PV} {v : V} (hS : Same S H) (r : RepV K G C θ S (.tup xs) v) : ∃ a vs, v = .ref a ∧ H a = some (.tup vs) ∧ RepL K G C θ S xs vs := by
  cases r with
  | tup h r => exact ⟨_, _, rfl, hS _ _ h, r⟩
/-- an allocated tuple, list -/
theorem fin_tup {K : PySem.W.Frag} {G : GT} {mu : List SO} {C : Cells} {xs : List PV} {vs : List V} {Q : VK} {p : Addr} (rs : RS K G θ S H mu) (n : H p = none) (r : RepL K G.toFT C θ S xs vs)
    (h : ∀ S' H' w, Ste θ S H θ S' H' → RS K G θ S' H' mu → RepV K G.toFT C θ S' (.tup xs) w → Q w H') : Q (.ref p) (upd H p (.tup vs)) :=
  have e := Ste.alloc (θ := θ) (o := .tup vs) rs.same n
  h _ _ _ e (rs.alloc n) (.tup upd_same (RepL.mono e.sS (Pre.refl θ) (fun _ _ z => z) r))
theorem fin_lst {K : PySem.W.Frag} {G : GT} {mu : List SO} {C : Cells} {xs : List PV} {vs : List V} {Q : VK} {p : Addr} (rs : RS K G θ S H mu) (n : H p = none) (r : RepL K G.toFT C θ S xs vs)
    (h : ∀ S' H' w, Ste θ S H θ S' H' → RS K G θ S' H' mu → RepV K G.toFT C θ S' (.lst xs) w → Q w H') : Q (.ref p) (upd H p (.lst vs)) :=
  have e := Ste.alloc (θ := θ) (o := .lst vs) rs.same n
  h _ _ _ e (rs.alloc n) (.lst upd_same (RepL.mono e.sS (Pre.refl θ) (fun _ _ z => z) r))
theorem fin_now {K : PySem.W.Frag} {G : GT} {mu : List SO} {C : Cells} {z : PV} {w : V} {Q : VK} (rs : RS K G θ S H mu) (r : RepV K G.toFT C θ S z w)
    (h : ∀ S' H' w, Ste θ S H θ S' H' → RS K G θ S' H' mu → RepV K G.toFT C θ S' z w → Q w H') : Q w H := h S H w (Ste.refl _ _ _) rs r
/-- lists + lists: known ones, too -/
def rCatL : R2 := fun x y H Q => ∃ l b xs zs, x = .ref l ∧ y = .ref b ∧ Rd H l (.lst xs) ∧ Rd H b (.lst zs) ∧ xs.length + zs.length ≤ sizeLine ∧ ∀ p, H p = none → Q (.ref p) (upd H p (.lst (xs ++ zs)))
theorem op_catL : OpR X (binaryOp .Add) rCatL := by
  intro pins s σ H x y v u Q I rx ry h
  obtain ⟨l, b, xs, zs, rfl, rfl, hH, hB, hz, q⟩ := h
  cases rx
  cases ry
  obtain ⟨z, its, n, r, e⟩ := hH.ok I.hok
  obtain ⟨z2, its2, n2, r2, e2⟩ := hB.ok I.hok
  have l1 := r.length
  have l2 := r2.length
  refine PySem.P.add_list e e2 ?_ (by rw [List.size_toArray, List.size_toArray]; omega)
  have ea : its.toArray ++ its2.toArray = (its ++ its2).toArray := by simp
  rw [ea]
  exact ⟨.ref _, _, I.lnew (t' := s.toks) (r.append r2) (by rw [List.length_append]; omega), rfl, q _ I.fresh⟩
def rRepL : R2 := fun x y H Q => ∃ l k xs, x = .ref l ∧ y = .int k ∧ H l = some (.lst xs) ∧ -(2 ^ 63) ≤ k ∧ k < 2 ^ 63 ∧ xs.length * k.toNat ≤ sizeLine ∧
  ∀ p, H p = none → Q (.ref p) (upd H p (.lst (List.replicate k.toNat xs).flatten))
def bop : BOp → Operator
  | .add => .Add | .sub => .Sub | .mul => .Mult | .fdiv => .FloorDiv | .mod => .Mod | .pow => .Pow
def rBin (K : PySem.W.Frag) : BOp → R2
  | .add => fun x y H Q => ((rI0 fun i j => .int (i + j)) x y H Q ∨ rCatA K x y H Q) ∨ (rCatL x y H Q ∨ (∃ i j, x = .str i ∧ y = .str j ∧ i.length + j.length ≤ sizeLine ∧ Q (.str (i ++ j)) H))
  | .sub => rI0 fun i j => .int (i - j)
  | .mul => rI CMul fun i j => .int (i * j)
  | .fdiv => rI CDiv fun i j => .int (i / j)
  | .mod => rI (fun _ j => 0 < j) fun i j => .int (i % j)
  | .pow => rI CPow fun i j => .int (i ^ j.toNat)
theorem op_bin : ∀ op : BOp, OpR X (binaryOp (bop op)) (rBin X.K op)
  | .add => OpR.or (OpR.or op_add op_catA) (OpR.or op_catL op_add_str)
  | .sub => op_sub | .mul => op_mul | .fdiv => op_fdiv | .mod => op_mod | .pow => op_pow
theorem bin_s {K : PySem.W.Frag} {G : GT} (op : BOp) : OpS K G (vbin op) (rBin K op) := by
  intro θ S H mu C x y z u v Q e rs rx ry k
  cases op with
  | add =>
    cases x <;> cases y <;> simp only [vbin] at e <;> try (cases e; done)
    · cases e
      cases rx; cases ry
      exact .inl (.inl ⟨_, _, rfl, rfl, fin_now rs (.int _) k⟩)
    · split at e
      · rename_i hz
        cases e
        cases rx; cases ry
        exact .inr (.inr ⟨_, _, rfl, rfl, sz hz, fin_now rs (.str _) k⟩)
      · cases e
    · split at e
      · rename_i hz
        cases e
        obtain ⟨a, vs, rfl, h1, r1⟩ := rx.tuple rs.same
        obtain ⟨b, ws, rfl, h2, r2⟩ := ry.tuple rs.same
        rw [r1.length, r2.length] at hz
        have rr := r1.append r2
        refine .inl (.inr ⟨a, b, vs, ws, rfl, rfl, SqT.of h1, SqT.of h2, sz hz, fun z => ?_, fun _ z => ?_, fun _ _ p np => fin_tup rs np rr k⟩)
        · subst z
          cases r1
          exact fin_now rs ry k
        · subst z
          cases r2
          rw [List.append_nil] at k
          exact fin_now rs rx k
      · cases e
    · split at e
      · rename_i hz
        cases e
        obtain ⟨a, vs, rfl, h1, r1⟩ := rx.list rs.same
        obtain ⟨b, ws, rfl, h2, r2⟩ := ry.list rs.same
        rw [r1.length, r2.length] at hz
        exact .inr (.inl ⟨a, b, vs, ws, rfl, rfl, h1, h2, sz hz, fun p np => fin_lst rs np (r1.append r2) k⟩)
      · cases e
  | sub =>
    cases x <;> cases y <;> simp only [vbin] at e <;> try (cases e; done)
    cases e
    cases rx; cases ry
    exact ⟨_, _, rfl, rfl, fin_now rs (.int _) k⟩
  | mul =>
    cases x <;> cases y <;> simp only [vbin] at e <;> try (cases e; done)
    split at e
    · rename_i hz
      cases e
      cases rx; cases ry
      exact ⟨_, _, rfl, rfl, hz, fin_now rs (.int _) k⟩
    · cases e
  | fdiv =>
    cases x <;> cases y <;> simp only [vbin] at e <;> try (cases e; done)
    split at e
    · rename_i hz
      cases e
      cases rx; cases ry
      exact ⟨_, _, rfl, rfl, hz, fin_now rs (.int _) k⟩
    · cases e
  | mod =>
    cases x <;> cases y <;> simp only [vbin] at e <;> try (cases e; done)
    split at e
    · rename_i hz
      cases e
      cases rx; cases ry
      exact ⟨_, _, rfl, rfl, hz, fin_now rs (.int _) k⟩
    · cases e
  | pow =>
    cases x <;> cases y <;> simp only [vbin] at e <;> try (cases e; done)
    split at e
    · rename_i hz
      cases e
      cases rx; cases ry
      exact ⟨_, _, rfl, rfl, hz, fin_now rs (.int _) k⟩
    · cases e
theorem sd_bin {op : BOp} {Φ : Phi} {a b : Expr} {ia ib : IE} {pos : Pos} (ha : PE X a (tD X G En C0 W (ev Φ ia))) (hb : PE X b (tD X G En C0 W (ev Φ ib))) : PE X (.BinOp a (bop op) b pos) (tD X G En C0 W (ev Φ (.bin op ia ib))) :=
  (pe_op (op_bin op) ha hb).wk fun σ H Q h => sd_op2 (ev_grow Φ ib) (bin_s op) h
theorem sd_neg {Φ : Phi} {a : Expr} {ia : IE} {pos : Pos} (ha : PE X a (tD X G En C0 W (ev Φ ia))) : PE X (.UnaryOp .USub a pos) (tD X G En C0 W (ev Φ (.neg ia))) :=
  (pe_un un_neg ha).wk fun σ H Q ⟨θ, S, s, R, h⟩ => by
    refine ⟨θ, S, s, R, (PostR.bind h).imp fun x s1 θ1 S1 H1 _ e1 R1 h1 u ru => ?_⟩
    cases x <;> try (exact h1.elim)
    cases ru
    exact ⟨_, rfl, R1.now h1 (.int _)⟩

/-! ### data -/
mutual
theorem RepV.dp {K : PySem.W.Frag} {G : FT} {C : Cells} {θ : List Addr} {S H : Hp} (hS : Same S H) : ∀ {x : PV} {v : V} {d : PyData}, RepV K G C θ S x v → x.toD = some d → Dp K H v d
  | _, _, _, .non, e => by cases e; exact .non
  | _, _, _, .bl b, e => by cases e; exact .bl b
  | _, _, _, .int b, e => by cases e; exact .int b
  | _, _, _, .str b, e => by cases e; exact .str b
  | _, _, _, .tup h r, e => by
    simp only [PV.toD, Option.map_eq_some_iff] at e
    obtain ⟨ds, e1, rfl⟩ := e
    exact .tup (SqT.of (hS _ _ h)) (RepL.dp hS r e1)
  | _, _, _, .lst h r, e => by
    simp only [PV.toD, Option.map_eq_some_iff] at e
    obtain ⟨ds, e1, rfl⟩ := e
    exact .lst (.inl (.inl (hS _ _ h))) (RepL.dp hS r e1)
  | _, _, _, .dct _ _, e => by simp [PV.toD] at e
  | _, _, _, .scr _ _, e => by simp [PV.toD] at e
  | _, _, _, .dtt _ _, e => by simp [PV.toD] at e
  | _, _, _, .obj _, e => by simp [PV.toD] at e
  | _, _, _, .fn _, e => by simp [PV.toD] at e
  | _, _, _, .clo _ _ _ _ _ _ _ _, e => by simp [PV.toD] at e
theorem RepL.dp {K : PySem.W.Frag} {G : FT} {C : Cells} {θ : List Addr} {S H : Hp} (hS : Same S H) : ∀ {x : List PV} {v : List V} {d : List PyData}, RepL K G C θ S x v → toDs x = some d → DpAll K H v d
  | _, _, _, .nil, e => by cases e; exact .nil
  | _, _, _, .cons h r, e => by
    simp only [toDs] at e
    split at e
    · rename_i d ds e1 e2
      cases e
      exact .cons (RepV.dp hS h e1) (RepL.dp hS r e2)
    · cases e
end
end
end TL

set_option linter.all false
set_option maxRecDepth 100000
/-! TLSnd2: comparisons, logic, displays, subscripts, slices. Own work. -/
namespace TL
open PySem PySem.Spec PyProof.Rows L2 NdefX

section
variable {X : Cx} {G : GT} {En : Ent} {C0 : Cells} {W : WX} {θ : List Addr} {S H : Hp} {σ : L2.St} {s : DS} {Φ : Phi}
/-! ### comparisons -/
def cop : COp → CmpOp
  | .eq => .Eq | .ne => .NotEq | .lt => .Lt | .le => .LtE | .gt => .Gt | .ge => .GtE | .is => .Is | .isnot => .IsNot | .isin => .In | .notin => .NotIn
theorem RepV.flat {K : PySem.W.Frag} {G : FT} {C : Cells} {x : PV} {v : V} (r : RepV K G C θ S x v) (h : x.flat = true) : flatV v = true := by
  cases r <;> first | rfl | (simp [PV.flat] at h)
theorem RepV.eqP {K : PySem.W.Frag} {G : FT} {C : Cells} {x y : PV} {u v : V} (r : RepV K G C θ S x u) (q : RepV K G C θ S y v) (h : x.flat = true) (k : y.flat = true) : eqV u v = eqP x y := by
  cases r <;> first | (simp [PV.flat] at h; done) | (cases q <;> first | rfl | (simp [PV.flat] at k))
theorem RepL.flat {K : PySem.W.Frag} {G : FT} {C : Cells} : ∀ {x : List PV} {v : List V}, RepL K G C θ S x v → x.all PV.flat = true → v.all flatV = true
  | _, _, .nil, _ => rfl
  | _, _, .cons h r, k => by
    simp only [List.all_cons, Bool.and_eq_true] at k ⊢
    exact ⟨h.flat k.1, RepL.flat r k.2⟩
theorem RepL.inP {K : PySem.W.Frag} {G : FT} {C : Cells} {p : PV} {u : V} (q : RepV K G C θ S p u) (k : p.flat = true) : ∀ {x : List PV} {v : List V}, RepL K G C θ S x v → x.all PV.flat = true → inV u v = x.any fun y => eqP y p
  | _, _, .nil, _ => rfl
  | _, _, .cons h r, z => by
    simp only [List.all_cons, Bool.and_eq_true] at z
    have := RepL.inP q k r z.2
    unfold inV at this ⊢
    simp only [List.any_cons]
    rw [this, h.eqP q z.1 k]
theorem RepV.key {K : PySem.W.Frag} {G : FT} {C : Cells} {p : PV} {v : V} {k : Key} (r : RepV K G C θ S p v) (h : keyOf p = some k) : v = kV k := by
  cases r <;> simp [keyOf] at h <;> subst h <;> rfl
theorem RepL.keys {K : PySem.W.Frag} {G : FT} {C : Cells} : ∀ {p : List PV} {v : List V} {k : List Key}, RepL K G C θ S p v → keysOf p = some k → v = k.map kV
  | _, _, _, .nil, h => by simp [keysOf] at h; subst h; rfl
  | _, _, _, .cons a r, h => by
    simp only [keysOf] at h
    split at h
    · rename_i x y e1 e2
      cases h
      rw [a.key e1, RepL.keys r e2]; rfl
    · cases h
theorem RepK.look {K : PySem.W.Frag} {G : FT} {C : Cells} {k : Key} : ∀ {x : List (Key × PV)} {v : List (Key × V)}, RepK K G C θ S x v → (TL.look k x = none ∧ valV v k = none) ∨ ∃ p u, TL.look k x = some p ∧ valV v k = some u ∧ RepV K G C θ S p u
  | _, _, .nil => .inl ⟨rfl, rfl⟩
  | _, _, .cons (k := j) (x := p) (v := u) h r => by
    by_cases e : k = j
    · subst e
      exact .inr ⟨p, u, by simp [TL.look], valV_pos rfl, h⟩
    · rw [valV_neg (show ¬ (j, u).1 = k from fun z => e z.symm)]
      simp only [TL.look, if_neg e]
      exact RepK.look r
theorem RepT.look {K : PySem.W.Frag} {G : FT} {C : Cells} {k : List Key} : ∀ {x : List (List Key × PV)} {v : List (List Key × V)}, RepT K G C θ S x v → (TL.look k x = none ∧ valV v k = none) ∨ ∃ p u, TL.look k x = some p ∧ valV v k = some u ∧ RepV K G C θ S p u
  | _, _, .nil => .inl ⟨rfl, rfl⟩
  | _, _, .cons (k := j) (x := p) (v := u) h r => by
    by_cases e : k = j
    · subst e
      exact .inr ⟨p, u, by simp [TL.look], valV_pos rfl, h⟩
    · rw [valV_neg (show ¬ (j, u).1 = k from fun z => e z.symm)]
      simp only [TL.look, if_neg e]
      exact RepT.look r
/-- in, not in over a dict -/
def rDin (neg : Bool) : R2 := fun y x H Q => ∃ a o, x = .ref a ∧ DGet H a y o ∧ Q (.bl (if neg then !o.isSome else o.isSome)) H
theorem op_din (hu : X.A.units + 1 < cLine) : OpR X (compareOp .In) (rDin false) := by
  intro pins s σ H y x iv u Q I ry rx h
  obtain ⟨a, ov, ex, g, q⟩ := h
  subst ex
  obtain rfl : u = Value.ref a := rx
  exact d_in hu I g ry fun s3 I3 => ⟨.bl ov.isSome, H, I3, rfl, q⟩
theorem op_dnotin (hu : X.A.units + 1 < cLine) : OpR X (compareOp .NotIn) (rDin true) := by
  intro pins s σ H y x iv u Q I ry rx h
  obtain ⟨a, ov, ex, g, q⟩ := h
  subst ex
  obtain rfl : u = Value.ref a := rx
  exact d_notIn hu I g ry fun s3 I3 => ⟨.bl (!ov.isSome), H, I3, rfl, q⟩
def rCmp (K : PySem.W.Frag) : COp → R2
  | .eq => rEqD K
  | .ne => rNeD K
  | .lt => rI0 fun i j => .bl (decide (i < j))
  | .le => rI0 fun i j => .bl (decide (i ≤ j))
  | .gt => rI0 fun i j => .bl (decide (j < i))
  | .ge => rI0 fun i j => .bl (decide (j ≤ i))
  | .is => fun x y H Q => y = .non ∧ Q (.bl (decide (x = .non))) H
  | .isnot => fun x y H Q => y = .non ∧ Q (.bl (!decide (x = .non))) H
  | .isin => fun x y H Q => rIn K false x y H Q ∨ rDin false x y H Q
  | .notin => fun x y H Q => rIn K true x y H Q ∨ rDin true x y H Q
theorem op_cmp (hu : X.A.units + 64 < cLine) : ∀ op : COp, OpR X (compareOp (cop op)) (rCmp X.K op)
  | .eq => op_eqD hu | .ne => op_neD hu | .lt => op_lt | .le => op_le | .gt => op_gt | .ge => op_ge | .is => op_isN | .isnot => op_notN
  | .isin => OpR.or op_in_seq (op_din (by omega)) | .notin => OpR.or op_notIn_seq (op_dnotin (by omega))
/-- x in y by contents -/
theorem vin_s {K : PySem.W.Frag} {G : GT} {mu : List SO} {C : Cells} {x y : PV} {b neg : Bool} {u v : V} {Q : VK} (e : vin x y = some b) (rs : RS K G θ S H mu) (rx : RepV K G.toFT C θ S x u) (ry : RdV K G.toFT C θ S H y v)
    (k : Q (.bl (if neg then !b else b)) H) : rIn K neg u v H Q ∨ rDin neg u v H Q := by
  have hS := rs.same
  cases y with
  | lst ys =>
    simp only [vin] at e
    split at e
    · rename_i hf
      cases e
      simp only [Bool.and_eq_true] at hf
      rcases ry with ry | ⟨a, rfl, _, _, ry⟩
      · obtain ⟨a, vs, rfl, h1, r⟩ := ry.list hS
        exact .inl ⟨a, vs, rfl, .inl (.inl h1), rx.flat hf.1, r.flat hf.2, by rw [r.inP rx hf.1 hf.2]; exact k⟩
      · cases ry with
        | lst h1 r => exact .inl ⟨a, _, rfl, .inl (SqL.of h1), rx.flat hf.1, r.flat hf.2, by rw [r.inP rx hf.1 hf.2]; exact k⟩
    · cases e
  | tup ys =>
    simp only [vin] at e
    split at e
    · rename_i hf
      cases e
      simp only [Bool.and_eq_true] at hf
      rcases ry with ry | ⟨a, rfl, _, _, ry⟩
      · obtain ⟨a, vs, rfl, h1, r⟩ := ry.tuple hS
        exact .inl ⟨a, vs, rfl, .inr (SqT.of h1), rx.flat hf.1, r.flat hf.2, by rw [r.inP rx hf.1 hf.2]; exact k⟩
      · cases ry
    · cases e
  | dct kvs =>
    simp only [vin] at e
    split at e
    · rename_i k' ek
      cases e
      have eu := rx.key ek
      have fin : ∀ a vs, Rd H a (.dK vs) → RepK K G.toFT C θ S kvs vs → v = .ref a → rDin neg u v H Q := fun a vs hr r ev => by
        refine ⟨a, _, ev, .inl ⟨vs, k', hr, eu, rfl⟩, ?_⟩
        rcases r.look (k := k') with ⟨h1, h2⟩ | ⟨p, w, h1, h2, _⟩
        · rw [h2]; rw [h1] at k; exact k
        · rw [h2]; rw [h1] at k; exact k
      rcases ry with ry | ⟨a, rfl, _, _, ry⟩
      · cases ry with
        | dct hr r => exact .inr (fin _ _ (Same.rd hS hr) r rfl)
      · cases ry with
        | dct hr r => exact .inr (fin _ _ (.inl hr) r rfl)
    · cases e
  | dtt kvs =>
    simp only [vin] at e
    split at e
    · split at e
      · rename_i xs ks ek
        cases e
        obtain ⟨t, ws, rfl, h1, rt⟩ := rx.tuple hS
        have et := rt.keys ek
        subst et
        have fin : ∀ a vs, Rd H a (.dT vs) → RepT K G.toFT C θ S kvs vs → v = .ref a → rDin neg (.ref t) v H Q := fun a vs hr r ev => by
          refine ⟨a, _, ev, .inr ⟨vs, ks, t, hr, rfl, h1, rfl⟩, ?_⟩
          rcases r.look (k := ks) with ⟨h1, h2⟩ | ⟨p, w, h1, h2, _⟩
          · rw [h2]; rw [h1] at k; exact k
          · rw [h2]; rw [h1] at k; exact k
        rcases ry with ry | ⟨a, rfl, _, _, ry⟩
        · cases ry with
          | dtt hr r => exact .inr (fin _ _ (Same.rd hS hr) r rfl)
        · cases ry with
          | dtt hr r => exact .inr (fin _ _ (.inl hr) r rfl)
      · cases e
    · cases e
  | _ => simp [vin] at e
theorem veq_s {K : PySem.W.Frag} {G : FT} {C : Cells} {x y : PV} {b : Bool} {u v : V} (e : veq x y = some b) (hS : Same S H) (rx : RepV K G C θ S x u) (ry : RepV K G C θ S y v) :
    ∃ d e, Dp K H u d ∧ Dp K H v e ∧ SeqAt.shaped d = true ∧ SeqAt.shaped e = true ∧ PyData.eqv d e = b := by
  unfold veq at e
  split at e
  · rename_i d e' h1 h2
    split at e
    · rename_i hs
      simp only [Bool.and_eq_true] at hs
      cases e
      exact ⟨d, e', rx.dp hS h1, ry.dp hS h2, hs.1, hs.2, rfl⟩
    · cases e
  · cases e
theorem cmp_s {K : PySem.W.Frag} {G : GT} (op : COp) {mu : List SO} {C : Cells} {x y : PV} {b : Bool} {u v : V} {Q : VK} (e : vcmp op x y = some b) (rs : RS K G θ S H mu) (rx : RepV K G.toFT C θ S x u)
    (ry : RepV K G.toFT C θ S y v) (k : Q (.bl b) H) : rCmp K op u v H Q := by
  have hS := rs.same
  cases op with
  | eq =>
    obtain ⟨d, e', h1, h2, h3, h4, h5⟩ := veq_s e hS rx ry
    exact ⟨d, e', h1, h2, h3, h4, by rw [h5]; exact k⟩
  | ne =>
    simp only [vcmp, Option.map_eq_some_iff] at e
    obtain ⟨c, e, rfl⟩ := e
    obtain ⟨d, e', h1, h2, h3, h4, h5⟩ := veq_s e hS rx ry
    exact ⟨d, e', h1, h2, h3, h4, by rw [h5]; exact k⟩
  | lt => cases x <;> cases y <;> simp only [vcmp] at e <;> first | (cases e; done) | (cases e; cases rx; cases ry; exact ⟨_, _, rfl, rfl, k⟩)
  | le => cases x <;> cases y <;> simp only [vcmp] at e <;> first | (cases e; done) | (cases e; cases rx; cases ry; exact ⟨_, _, rfl, rfl, k⟩)
  | gt => cases x <;> cases y <;> simp only [vcmp] at e <;> first | (cases e; done) | (cases e; cases rx; cases ry; exact ⟨_, _, rfl, rfl, k⟩)
  | ge => cases x <;> cases y <;> simp only [vcmp] at e <;> first | (cases e; done) | (cases e; cases rx; cases ry; exact ⟨_, _, rfl, rfl, k⟩)
  | is =>
    cases y <;> simp only [vcmp] at e <;> try (cases e; done)
    cases ry
    refine ⟨rfl, ?_⟩
    cases rx <;> cases e <;> exact k
  | isnot =>
    cases y <;> simp only [vcmp] at e <;> try (cases e; done)
    cases ry
    refine ⟨rfl, ?_⟩
    cases rx <;> cases e <;> exact k
  | isin => exact vin_s (neg := false) e rs rx (.inl ry) k
  | notin =>
    simp only [vcmp, Option.map_eq_some_iff] at e
    obtain ⟨c, e, rfl⟩ := e
    exact vin_s (neg := true) e rs rx (.inl ry) k
theorem cmp_op {K : PySem.W.Frag} {G : GT} (op : COp) : OpS K G (fun x y => (vcmp op x y).map .bl) (rCmp K op) := by
  intro θ S H mu C x y z u v Q e rs rx ry k
  simp only [Option.map_eq_some_iff] at e
  obtain ⟨b, e, rfl⟩ := e
  exact cmp_s op e rs rx ry (fin_now rs (.bl b) k)
/-- a test's reading by the value's -/
theorem tT_tD {d : DS → DR PV} {σ : L2.St} {H : Hp} {Q : Bool → Hp → Prop} (h : tT X G En C0 W d σ H Q) : tD X G En C0 W d σ H fun x H' => ∃ k, x = .bl k ∧ Q k H' := by
  obtain ⟨θ, S, s, R, h⟩ := h
  refine ⟨θ, S, s, R, h.imp fun p s1 θ1 S1 H1 _ e1 R1 h1 u ru => ?_⟩
  obtain ⟨b, rfl, q⟩ := h1
  cases ru
  exact ⟨b, rfl, q⟩
theorem sdt_val {e : Expr} {d : DS → DR PV} (h : PE X e (tD X G En C0 W d)) (he : ∀ whole, isTrue e X.env whole = (do let v ← whole; standAt e.pos; holding [v] (truthy v))) : PT X e (tT X G En C0 W d) :=
  (pt_val h he).wk fun σ H Q h => tT_tD h
theorem sd_cmp {op : COp} {a b : Expr} {ia ib : IE} {pos : Pos} (hu : X.A.units + 64 < cLine) (hm : behindInMarks (cop op) b = false) (ha : PE X a (tD X G En C0 W (ev Φ ia))) (hb : PE X b (tD X G En C0 W (ev Φ ib))) :
    PE X (.Compare a [cop op] [b] pos) (tD X G En C0 W (ev Φ (.cmp op ia ib))) :=
  (pe_cmpR (op_cmp hu op) ha hb hm).wk fun σ H Q h => sd_op2 (ev_grow Φ ib) (cmp_op op) h
theorem sdt_cmp {op : COp} {a b : Expr} {ia ib : IE} {pos : Pos} (hu : X.A.units + 64 < cLine) (hm : behindInMarks (cop op) b = false) (ha : PE X a (tD X G En C0 W (ev Φ ia))) (hb : PE X b (tD X G En C0 W (ev Φ ib))) :
    PT X (.Compare a [cop op] [b] pos) (tT X G En C0 W (ev Φ (.cmp op ia ib))) :=
  (pt_cmpR (op_cmp hu op) ha hb hm).wk fun σ H Q h => sd_op2 (ev_grow Φ ib) (cmp_op op) (tT_tD h)
theorem RdV.step {K : PySem.W.Frag} {G : FT} {C C' : Cells} {θ θ' : List Addr} {S S' H H' : Hp} {p : PV} {v : V} (r : RdV K G C θ S H p v) (e : Ste θ S H θ' S' H') (c : ∀ a v, C a v → C' a v) : RdV K G C' θ' S' H' p v := by
  rcases r with r | ⟨a, rfl, h1, h2, h3⟩
  · exact .inl (RepV.mono e.sS e.pre c r)
  · obtain ⟨o, ho, _⟩ := h3.there
    refine .inr ⟨a, rfl, fun z => ?_, ?_, h3.mono e.sS e.pre c fun o h t => (e.kp a o h h1 t).elim id fun z => by rw [h2] at z; cases z.1⟩
    · have := e.new a z h1
      rw [ho] at this; cases this
    · cases q : S' a with
      | none => rfl
      | some u =>
        have := e.frz a h2 (by rw [q]; simp)
        rw [ho] at this; cases this
/-- in, not in, the right one but looked at -/
theorem imp_in {op : COp} (ho : op = .isin ∨ op = .notin) {ia ib : IE} {σ : L2.St} {H : Hp} {Q : VK} (h : tD X G En C0 W (ev Φ (.cmp op ia ib)) σ H Q) : tOp (rCmp X.K op) (tD X G En C0 W (ev Φ ia)) (tP X G En C0 W (ev Φ ib)) σ H Q := by
  obtain ⟨θ, S, s, R, h⟩ := h
  refine ⟨θ, S, s, R, (PostR.bind h).imp fun x s1 θ1 S1 H1 _ e1 R1 h1 u ru => ?_⟩
  refine ⟨θ1, S1, s1, R1, (PostR.bind h1).imp fun y s2 θ2 S2 H2 q2 e2 R2 h2 v rv => ?_⟩
  have ru' := RepV.mono e2.sS e2.pre (CC.mono (ev_grow Φ ib s1 y s2 q2).1) ru
  rcases ho with rfl | rfl
  · simp only [vcmp] at h2
    cases q : vin x y with
    | none => rw [q] at h2; exact h2.elim
    | some b => rw [q] at h2; exact vin_s (neg := false) q R2.rs ru' rv (R2.now h2 (.bl b))
  · simp only [vcmp] at h2
    cases q : vin x y with
    | none => rw [q] at h2; exact h2.elim
    | some b => rw [q] at h2; exact vin_s (neg := true) q R2.rs ru' rv (R2.now h2 (.bl (!b)))
theorem sd_in {op : COp} (ho : op = .isin ∨ op = .notin) {a b : Expr} {ia ib : IE} {pos : Pos} (hu : X.A.units + 64 < cLine) (hm : behindInMarks (cop op) b = false) (ha : PE X a (tD X G En C0 W (ev Φ ia))) (hb : PE X b (tP X G En C0 W (ev Φ ib))) :
    PE X (.Compare a [cop op] [b] pos) (tD X G En C0 W (ev Φ (.cmp op ia ib))) := (pe_cmpR (op_cmp hu op) ha hb hm).wk fun σ H Q h => imp_in ho h
theorem sdt_in {op : COp} (ho : op = .isin ∨ op = .notin) {a b : Expr} {ia ib : IE} {pos : Pos} (hu : X.A.units + 64 < cLine) (hm : behindInMarks (cop op) b = false) (ha : PE X a (tD X G En C0 W (ev Φ ia))) (hb : PE X b (tP X G En C0 W (ev Φ ib))) :
    PT X (.Compare a [cop op] [b] pos) (tT X G En C0 W (ev Φ (.cmp op ia ib))) := (pt_cmpR (op_cmp hu op) ha hb hm).wk fun σ H Q h => imp_in ho (tT_tD h)
theorem imp_cmp2 {op op' : COp} {ia ib ic : IE} {σ : L2.St} {H : Hp} {Q : VK} (h : tD X G En C0 W (ev Φ (.cmp2 op op' ia ib ic)) σ H Q) :
    tChain (rCmp X.K op) (rCmp X.K op') (tD X G En C0 W (ev Φ ia)) (tD X G En C0 W (ev Φ ib)) (tD X G En C0 W (ev Φ ic)) σ H Q := by
  obtain ⟨θ, S, s, R, h⟩ := h
  refine ⟨θ, S, s, R, (PostR.bind h).imp fun x s1 θ1 S1 H1 _ e1 R1 h1 u ru => ?_⟩
  refine ⟨θ1, S1, s1, R1, (PostR.bind h1).imp fun y s2 θ2 S2 H2 q2 e2 R2 h2 v rv => ?_⟩
  have ru' := RepV.mono e2.sS e2.pre (CC.mono (ev_grow Φ ib s1 y s2 q2).1) ru
  cases q : vcmp op x y with
  | none => rw [q] at h2; exact h2.elim
  | some k =>
    rw [q] at h2
    refine cmp_s op q R2.rs ru' rv ⟨k, rfl, ?_⟩
    cases k with
    | false => exact R2.now h2 (.bl false)
    | true =>
      refine ⟨θ2, S2, s2, R2, (PostR.bind h2).imp fun z s3 θ3 S3 H3 q3 e3 R3 h3 w rw' => ?_⟩
      have rv' := RepV.mono e3.sS e3.pre (CC.mono (ev_grow Φ ic s2 z s3 q3).1) rv
      cases q' : vcmp op' y z with
      | none => rw [q'] at h3; exact h3.elim
      | some k' => rw [q'] at h3; exact cmp_s op' q' R3.rs rv' rw' (R3.now h3 (.bl k'))
theorem sd_cmp2 {op op' : COp} {a b c : Expr} {ia ib ic : IE} {pos : Pos} (hu : X.A.units + 64 < cLine) (hm : lastMarks [cop op, cop op'] [b, c] = false) (ha : PE X a (tD X G En C0 W (ev Φ ia)))
    (hb : PE X b (tD X G En C0 W (ev Φ ib))) (hc : PE X c (tD X G En C0 W (ev Φ ic))) : PE X (.Compare a [cop op, cop op'] [b, c] pos) (tD X G En C0 W (ev Φ (.cmp2 op op' ia ib ic))) :=
  (pe_chain (op_cmp hu op) (op_cmp hu op') ha hb hc hm).wk fun σ H Q h => imp_cmp2 h
theorem sdt_cmp2 {op op' : COp} {a b c : Expr} {ia ib ic : IE} {pos : Pos} (hu : X.A.units + 64 < cLine) (hm : lastMarks [cop op, cop op'] [b, c] = false) (ha : PE X a (tD X G En C0 W (ev Φ ia)))
    (hb : PE X b (tD X G En C0 W (ev Φ ib))) (hc : PE X c (tD X G En C0 W (ev Φ ic))) : PT X (.Compare a [cop op, cop op'] [b, c] pos) (tT X G En C0 W (ev Φ (.cmp2 op op' ia ib ic))) :=
  (pt_chain (op_cmp hu op) (op_cmp hu op') ha hb hc hm).wk fun σ H Q h => imp_cmp2 (tT_tD h)

/-! ### and, or, not, if -/
variable {a b c : Expr} {ia ib ic : IE} {pos : Pos} {rest : List Expr}
theorem sd_one {op} (h : PE X a (tD X G En C0 W (ev Φ ia))) : PE X (.BoolOp op [a] pos) (tD X G En C0 W (ev Φ ia)) := pe_one h
theorem sdw_and1 (h : PT X a (tT X G En C0 W (ev Φ ia))) : PW X (.BoolOp .And [a] pos) (tT X G En C0 W (ev Φ ia)) := pw_and1 h
theorem sdw_or1 (h : PT X a (tT X G En C0 W (ev Φ ia))) : PW X (.BoolOp .Or [a] pos) (tT X G En C0 W (ev Φ ia)) := pw_or1 h
theorem sd_and (ha : PE X a (tD X G En C0 W (ev Φ ia))) (hb : PE X (.BoolOp .And (b :: rest) pos) (tD X G En C0 W (ev Φ ib))) : PE X (.BoolOp .And (a :: b :: rest) pos) (tD X G En C0 W (ev Φ (.and ia ib))) :=
  (pe_and ha hb).wk fun σ H Q ⟨θ, S, s, R, h⟩ => by
    refine ⟨θ, S, s, R, (PostR.bind h).imp fun x s1 θ1 S1 H1 _ e1 R1 h1 u ru => ?_⟩
    cases ru with
    | bl k => cases k with
      | true => exact ⟨true, rfl, θ1, S1, s1, R1, h1⟩
      | false => exact ⟨false, rfl, R1.now h1 (.bl false)⟩
    | _ => exact h1.elim
theorem sd_or (ha : PE X a (tD X G En C0 W (ev Φ ia))) (hb : PE X (.BoolOp .Or (b :: rest) pos) (tD X G En C0 W (ev Φ ib))) : PE X (.BoolOp .Or (a :: b :: rest) pos) (tD X G En C0 W (ev Φ (.or ia ib))) :=
  (pe_or ha hb).wk fun σ H Q ⟨θ, S, s, R, h⟩ => by
    refine ⟨θ, S, s, R, (PostR.bind h).imp fun x s1 θ1 S1 H1 _ e1 R1 h1 u ru => ?_⟩
    cases ru with
    | bl k => cases k with
      | false => exact ⟨false, rfl, θ1, S1, s1, R1, h1⟩
      | true => exact ⟨true, rfl, R1.now h1 (.bl true)⟩
    | _ => exact h1.elim
theorem sdw_and (ha : PT X a (tT X G En C0 W (ev Φ ia))) (hb : PW X (.BoolOp .And (b :: rest) pos) (tT X G En C0 W (ev Φ ib))) : PW X (.BoolOp .And (a :: b :: rest) pos) (tT X G En C0 W (ev Φ (.and ia ib))) :=
  (pw_and ha hb).wk fun σ H Q ⟨θ, S, s, R, h⟩ => by
    refine ⟨θ, S, s, R, (PostR.bind h).imp fun x s1 θ1 S1 H1 _ e1 R1 h1 => ?_⟩
    rcases x with _ | k | _ | _ | _ | _ | _ | _ | _ | _ | _ <;> first | exact h1.elim | skip
    cases k with
    | true => exact ⟨true, rfl, θ1, S1, s1, R1, h1⟩
    | false =>
      refine ⟨false, rfl, ?_⟩
      obtain ⟨k, e, q⟩ := h1 θ1 S1 H1 (Ste.refl _ _ _) R1
      cases e
      exact q
theorem sdw_or (ha : PT X a (tT X G En C0 W (ev Φ ia))) (hb : PW X (.BoolOp .Or (b :: rest) pos) (tT X G En C0 W (ev Φ ib))) : PW X (.BoolOp .Or (a :: b :: rest) pos) (tT X G En C0 W (ev Φ (.or ia ib))) :=
  (pw_or ha hb).wk fun σ H Q ⟨θ, S, s, R, h⟩ => by
    refine ⟨θ, S, s, R, (PostR.bind h).imp fun x s1 θ1 S1 H1 _ e1 R1 h1 => ?_⟩
    rcases x with _ | k | _ | _ | _ | _ | _ | _ | _ | _ | _ <;> first | exact h1.elim | skip
    cases k with
    | false => exact ⟨false, rfl, θ1, S1, s1, R1, h1⟩
    | true =>
      refine ⟨true, rfl, ?_⟩
      obtain ⟨k, e, q⟩ := h1 θ1 S1 H1 (Ste.refl _ _ _) R1
      cases e
      exact q
theorem sd_not (ha : PE X a (tD X G En C0 W (ev Φ ia))) : PE X (.UnaryOp .Not a pos) (tD X G En C0 W (ev Φ (.not ia))) :=
  (pe_not ha).wk fun σ H Q ⟨θ, S, s, R, h⟩ => by
    refine ⟨θ, S, s, R, (PostR.bind h).imp fun x s1 θ1 S1 H1 _ e1 R1 h1 u ru => ?_⟩
    cases ru with
    | bl k => exact ⟨k, rfl, R1.now h1 (.bl (!k))⟩
    | _ => exact h1.elim
theorem sdt_not (ha : PT X a (tT X G En C0 W (ev Φ ia))) : PT X (.UnaryOp .Not a pos) (tT X G En C0 W (ev Φ (.not ia))) :=
  (pt_not ha).wk fun σ H Q ⟨θ, S, s, R, h⟩ => by
    refine ⟨θ, S, s, R, (PostR.bind h).imp fun x s1 θ1 S1 H1 _ e1 R1 h1 => ?_⟩
    rcases x with _ | k | _ | _ | _ | _ | _ | _ | _ | _ | _ <;> first | exact h1.elim | skip
    refine ⟨k, rfl, ?_⟩
    obtain ⟨j, e, q⟩ := h1 θ1 S1 H1 (Ste.refl _ _ _) R1
    cases e
    exact q
theorem sd_ite (hc : PT X c (tT X G En C0 W (ev Φ ic))) (ha : PE X a (tD X G En C0 W (ev Φ ia))) (hb : PE X b (tD X G En C0 W (ev Φ ib))) : PE X (.IfExp c a b pos) (tD X G En C0 W (ev Φ (.ite ic ia ib))) :=
  (pe_ifExp hc ha hb).wk fun σ H Q ⟨θ, S, s, R, h⟩ => by
    refine ⟨θ, S, s, R, (PostR.bind h).imp fun x s1 θ1 S1 H1 _ e1 R1 h1 => ?_⟩
    rcases x with _ | k | _ | _ | _ | _ | _ | _ | _ | _ | _ <;> first | exact h1.elim | skip
    refine ⟨k, rfl, ?_⟩
    cases k with
    | true => exact ⟨θ1, S1, s1, R1, h1⟩
    | false => exact ⟨θ1, S1, s1, R1, h1⟩

/-! ### arguments, displays -/
theorem sd_nil : PA X [] (tDs X G En C0 W (evs Φ .nil)) := pa_nil.wk fun σ H Q ⟨θ, S, s, R, h⟩ => h θ S H (Ste.refl _ _ _) R [] .nil
theorem star_plain {e : Expr} {es : List Expr} {env : Env} (h : ∀ x p, e ≠ .Starred x p) : starEach (e :: es) env = (false, eval e env) :: starEach es env := by
  cases e <;> first | rfl | exact absurd rfl (h _ _)
theorem sd_cons {e : Expr} {es : List Expr} {i : IE} {is : IEs} (hs : ∀ x p, e ≠ .Starred x p) (he : PE X e (tD X G En C0 W (ev Φ i))) (hes : PA X es (tDs X G En C0 W (evs Φ is))) : PA X (e :: es) (tDs X G En C0 W (evs Φ (.cons i is))) :=
  (pa_cons he hes (star_plain hs)).wk fun σ H Q ⟨θ, S, s, R, h⟩ => by
    refine ⟨θ, S, s, R, (PostR.bind h).imp fun x s1 θ1 S1 H1 _ e1 R1 h1 u ru => ?_⟩
    refine ⟨θ1, S1, s1, R1, (PostR.bind h1).imp fun y s2 θ2 S2 H2 q2 e2 R2 h2 v rv => ?_⟩
    exact h2 θ2 S2 H2 (Ste.refl _ _ _) R2 _ (.cons (RepV.mono e2.sS e2.pre (CC.mono (evs_grow Φ is s1 y s2 q2).1) ru) rv)
/-- the end of a rule that makes a new thing -/
theorem Rel.fin {p : PV} {Q : VK} {C : Cells} (R : Rel X G En C0 θ S H s σ) (h : PostR X G En C0 W θ S H σ (.ok p s) fun p s' θ' S' H' => ∀ v, RepV X.K G.toFT (CC X C0 σ s'.cap) θ' S' p v → Q v H') :
    ∀ S' H' w, Ste θ S H θ S' H' → RS X.K G θ S' H' s.mu → RepV X.K G.toFT (CC X C0 σ s.cap) θ S' p w → Q w H' := fun S' H' w e rs r => h θ S' H' e (R.step e rs) w r
theorem sd_tup {es : List Expr} {is : IEs} {k : Nat} (h : PA X es (tDs X G En C0 W (evs Φ is))) : PE X (.Tuple es k pos) (tD X G En C0 W (ev Φ (.tup is))) :=
  (pe_tup h).wk fun σ H Q ⟨θ, S, s, R, h⟩ => by
    refine ⟨θ, S, s, R, (PostR.bind h).imp fun x s1 θ1 S1 H1 _ e1 R1 h1 v rv => ?_⟩
    split at h1
    · rename_i hz
      rw [rv.length] at hz
      exact ⟨sz hz, fun p np => fin_tup R1.rs np rv (R1.fin (C := noC) h1)⟩
    · exact h1.elim
theorem sd_lst {es : List Expr} {is : IEs} (h : PA X es (tDs X G En C0 W (evs Φ is))) : PE X (.List es pos) (tD X G En C0 W (ev Φ (.lst is))) :=
  (pe_lst h).wk fun σ H Q ⟨θ, S, s, R, h⟩ => by
    refine ⟨θ, S, s, R, (PostR.bind h).imp fun x s1 θ1 S1 H1 _ e1 R1 h1 v rv => ?_⟩
    split at h1
    · rename_i hz
      rw [rv.length] at hz
      exact ⟨sz hz, fun p np => fin_lst R1.rs np rv (R1.fin (C := noC) h1)⟩
    · exact h1.elim
end
end TL

set_option linter.all false
set_option maxRecDepth 100000
/-! TLSnd3: shared displays, subscripts, slices, calls. Own work. -/
namespace TL
open PySem PySem.Spec PyProof.Rows L2 NdefX
theorem _root_.L2.PE.or {X : Cx} {e : Expr} {t t' : TE} (h : PE X e t) (k : PE X e t') : PE X e (fun σ H Q => t σ H Q ∨ t' σ H Q) := ⟨fun pins s σ H Q I q => q.elim (h.run pins s σ H Q I) (k.run pins s σ H Q I)⟩
theorem ixor {X : Cx} {r r' : R2} (h : IxR X r) (k : IxR X r') : IxR X (fun x y H Q => r x y H Q ∨ r' x y H Q) := fun v sl pins s σ H x y a b Q I p q z e => z.elim (fun z => h v sl pins s σ H x y a b Q I p q z e) fun z => k v sl pins s σ H x y a b Q I p q z e
theorem slor {X : Cx} {r r' : V → Option Int → Option Int → Hp → VK → Prop} (h : SlR X r) (k : SlR X r') : SlR X (fun x l u H Q => r x l u H Q ∨ r' x l u H Q) :=
  fun pins s σ H x v vl vu lo hi sl Q I rx hs pl pu z => z.elim (fun z => h pins s σ H x v vl vu lo hi sl Q I rx hs pl pu z) fun z => k pins s σ H x v vl vu lo hi sl Q I rx hs pl pu z
section
variable {X : Cx} {G : GT} {En : Ent} {C0 : Cells} {W : WX} {θ : List Addr} {S H : Hp} {σ : L2.St} {s : DS} {Φ : Phi}
variable {a b c : Expr} {ia ib ic : IE} {pos : Pos} {rest : List Expr}
/-! ### a new shared thing -/
theorem getElem?_snoc {α : Type} {l : List α} {x y : α} {i : Nat} (h : (l ++ [x])[i]? = some y) : l[i]? = some y ∨ (i = l.length ∧ y = x) := by
  by_cases hi : i < l.length
  · rw [List.getElem?_append_left hi] at h; exact .inl h
  · rw [List.getElem?_append_right (by omega)] at h
    have : i - l.length = 0 := by
      have := (List.getElem?_eq_some_iff.mp h).1
      simp at this; omega
    rw [this] at h
    simp at h
    exact .inr ⟨by omega, h.symm⟩
theorem RepO.mono {K : PySem.W.Frag} {S S' H H' : Hp} {θ' : List Addr} {u : SO} {x : Addr} (h : RepO K G θ S H u x) (e : Gr S S') (p : Pre θ θ') (k : ∀ o, H x = some o → H' x = some o) : RepO K G θ' S' H' u x := by
  cases h with
  | lst q r => exact .lst (k _ q) (RepL.mono e p (fun _ _ z => z) r)
  | dct q r => exact .dct (k _ q) (RepK.mono e p (fun _ _ z => z) r)
  | ins g q r => exact .ins g (k _ q) (RepF.mono e p (fun _ _ z => z) r)
theorem RS.share {K : PySem.W.Frag} {mu : List SO} {p : Addr} {o : HO} {u : SO} (r : RS K G θ S H mu) (n : H p = none) (hu : RepO K G (θ ++ [p]) S (upd H p o) u p) : RS K G (θ ++ [p]) S (upd H p o) (mu ++ [u]) where
  same := fun a w h => by
    rw [upd_ne (ne_of_none (r.same a w h) n)]
    exact r.same a w h
  nd := by
    refine List.nodup_append.mpr ⟨r.nd, by simp, fun a ha b hb => ?_⟩
    have : b = p := by simpa using hb
    subst this
    rintro rfl
    obtain ⟨o', h', _⟩ := r.there ha
    rw [n] at h'; cases h'
  len := by simp [r.len]
  out := fun a h => by
    rcases List.mem_append.mp h with h | h
    · exact r.out a h
    · have : a = p := by simpa using h
      subst this
      cases q : S a with
      | none => rfl
      | some w =>
        have := r.same a w q
        rw [n] at this; cases this
  obj := fun i w a h1 h2 => by
    rcases getElem?_snoc h2 with h2 | ⟨e2, rfl⟩
    · rcases getElem?_snoc h1 with h1 | ⟨e1, _⟩
      · refine (r.obj i w a h1 h2).mono (Gr.refl S) ⟨[p], rfl⟩ fun o' ho => ?_
        rw [upd_ne (ne_of_none ho n)]
        exact ho
      · have := (List.getElem?_eq_some_iff.mp h2).1
        rw [r.len] at this; omega
    · rcases getElem?_snoc h1 with h1 | ⟨_, rfl⟩
      · have := (List.getElem?_eq_some_iff.mp h1).1
        rw [← r.len] at this; omega
      · exact hu
  tabs := fun q hq => by
    obtain ⟨ps, h1, h2, h3⟩ := r.tabs q hq
    exact ⟨ps, by rw [upd_ne (ne_of_none h1 n)]; exact h1, h2, h3⟩
  tabO := r.tabO
theorem Ste.share {p : Addr} {o : HO} (n : H p = none) : Ste θ S H (θ ++ [p]) S (upd H p o) where
  sS := Gr.refl S
  pre := ⟨[p], rfl⟩
  new := fun a h k => by
    rcases List.mem_append.mp h with h | h
    · exact absurd h k
    · have : a = p := by simpa using h
      rw [this]; exact n
  frz := fun a h k => absurd h k
  kp := fun a u h _ _ => .inl (by
    rw [upd_ne (ne_of_none h n)]
    exact h)
  al := fun a h => by
    by_cases e : a = p
    · rw [e, upd_same]; simp
    · rw [upd_ne e]; exact h
/-! ### subscripts -/
/-- whether a subscript is asked of a dict -/
def dictB (d e : DS → DR PV) (s : DS) : Bool := match d s with
  | .ok (.dct _) _ => true
  | .ok (.dtt _) _ => true
  | .ok (.obj n) s1 => (match e s1 with
    | .ok _ s2 => (match s2.mu[n]? with
      | some (.dct _) => true
      | _ => false)
    | _ => false)
  | _ => false
theorem RdV.obj {K : PySem.W.Frag} {C : Cells} {mu : List SO} {n : Nat} {v : V} (rs : RS K G θ S H mu) (r : RdV K G.toFT C θ S H (.obj n) v) : ∃ x, v = .ref x ∧ θ[n]? = some x := by
  rcases r with r | ⟨x, _, _, _, r⟩
  · cases r with
    | obj h => exact ⟨_, rfl, h⟩
  · cases r
theorem RdV.lists {K : PySem.W.Frag} {C : Cells} {xs : List PV} {v : V} (hS : Same S H) (r : RdV K G.toFT C θ S H (.lst xs) v) : ∃ x vs, v = .ref x ∧ SqL K H x vs ∧ RepL K G.toFT C θ S xs vs := by
  rcases r with r | ⟨x, rfl, _, _, r⟩
  · obtain ⟨x, vs, rfl, h1, h2⟩ := r.list hS
    exact ⟨x, vs, rfl, .inl h1, h2⟩
  · cases r with
    | lst h1 h2 => exact ⟨x, _, rfl, SqL.of h1, h2⟩
theorem RdV.scrs {K : PySem.W.Frag} {C : Cells} {xs : List PV} {v : V} (hS : Same S H) (r : RdV K G.toFT C θ S H (.scr xs) v) : ∃ x vs, v = .ref x ∧ SqL K H x vs ∧ RepL K G.toFT C θ S xs vs := by
  rcases r with r | ⟨x, rfl, _, _, r⟩
  · cases r with
    | scr h r => exact ⟨_, _, rfl, Same.sqL hS h, r⟩
  · cases r
theorem RdV.tups {K : PySem.W.Frag} {C : Cells} {xs : List PV} {v : V} (hS : Same S H) (r : RdV K G.toFT C θ S H (.tup xs) v) : ∃ x vs, v = .ref x ∧ H x = some (.tup vs) ∧ RepL K G.toFT C θ S xs vs := by
  rcases r with r | ⟨x, rfl, _, _, r⟩
  · exact r.tuple hS
  · cases r
theorem RdV.dcts {K : PySem.W.Frag} {C : Cells} {xs : List (Key × PV)} {v : V} (hS : Same S H) (r : RdV K G.toFT C θ S H (.dct xs) v) : ∃ x vs, v = .ref x ∧ Rd H x (.dK vs) ∧ RepK K G.toFT C θ S xs vs := by
  rcases r with r | ⟨x, rfl, _, _, r⟩
  · cases r with
    | dct h1 h2 => exact ⟨_, _, rfl, Same.rd hS h1, h2⟩
  · cases r with
    | dct h1 h2 => exact ⟨x, _, rfl, .inl h1, h2⟩
theorem RdV.dtts {K : PySem.W.Frag} {C : Cells} {xs : List (List Key × PV)} {v : V} (hS : Same S H) (r : RdV K G.toFT C θ S H (.dtt xs) v) : ∃ x vs, v = .ref x ∧ Rd H x (.dT vs) ∧ RepT K G.toFT C θ S xs vs := by
  rcases r with r | ⟨x, rfl, _, _, r⟩
  · cases r with
    | dtt h1 h2 => exact ⟨_, _, rfl, Same.rd hS h1, h2⟩
  · cases r with
    | dtt h1 h2 => exact ⟨x, _, rfl, .inl h1, h2⟩
theorem RepL.atI {K : PySem.W.Frag} {C : Cells} {xs : List PV} {vs : List V} {i : Int} {p : PV} (r : RepL K G.toFT C θ S xs vs) (h : L2.atI xs i = some p) : ∃ u, L2.atI vs i = some u ∧ RepV K G.toFT C θ S p u := by
  unfold L2.atI at h ⊢
  rw [← r.length]
  cases q : ixN xs.length i with
  | none => rw [q] at h; cases h
  | some j =>
    rw [q] at h
    exact r.get h
theorem RS.objL {K : PySem.W.Frag} {mu : List SO} {n : Nat} {x : Addr} {xs : List PV} (rs : RS K G θ S H mu) (hm : mu[n]? = some (.lst xs)) (ht : θ[n]? = some x) : ∃ vs, H x = some (.lst vs) ∧ RepL K G.toFT noC θ S xs vs := by
  have z := rs.obj n _ x hm ht
  cases z with
  | lst h r => exact ⟨_, h, r⟩
theorem RS.objD {K : PySem.W.Frag} {mu : List SO} {n : Nat} {x : Addr} {xs : List (Key × PV)} (rs : RS K G θ S H mu) (hm : mu[n]? = some (.dct xs)) (ht : θ[n]? = some x) : ∃ vs, H x = some (.dK vs) ∧ RepK K G.toFT noC θ S xs vs := by
  have z := rs.obj n _ x hm ht
  cases z with
  | dct h r => exact ⟨_, h, r⟩
theorem noC_le (C : Cells) : ∀ a v, noC a v → C a v := fun _ _ z => z.elim
theorem sd_sub (hu : X.A.units + 1 < cLine) (hp : PlainIx b) (hn : NoSl b) (ha : PE X a (tP X G En C0 W (ev Φ ia))) (hb : PE X b (tD X G En C0 W (ev Φ ib))) : PE X (.Subscript a b pos) (tD X G En C0 W (ev Φ (.sub ia ib))) :=
  ((pe_ix (ixor ix_list ix_tup) ha hb hp).or (pe_dget hu ha hb hn)).wk fun σ H Q ⟨θ, S, s, R, h⟩ => by
    have h := PostR.bind h
    cases hd : dictB (ev Φ ia) (ev Φ ib) s with
    | false =>
      refine .inl ⟨θ, S, s, R, h.imp fun x s1 θ1 S1 H1 q1 e1 R1 h1 u ru => ?_⟩
      refine ⟨θ1, S1, s1, R1, (PostR.bind h1).imp fun y s2 θ2 S2 H2 q2 e2 R2 h2 v rv => ?_⟩
      have ru' := ru.step e2 (CC.mono (ev_grow Φ ib s1 y s2 q2).1)
      cases q : vsub s2.mu x y with
      | none => rw [q] at h2; exact h2.elim
      | some z =>
        rw [q] at h2
        unfold dictB at hd
        rw [q1] at hd
        cases x <;> simp only [vsub] at q <;> first | (cases q; done) | skip
        · cases y <;> simp only at q <;> try (cases q; done)
          obtain ⟨t, vs, rfl, h3, r⟩ := ru'.tups R2.rs.same
          cases rv
          obtain ⟨w, h4, rw'⟩ := r.atI q
          exact .inr ⟨t, vs, _, w, rfl, rfl, SqT.of h3, h4, R2.now h2 rw'⟩
        · cases y <;> simp only at q <;> try (cases q; done)
          obtain ⟨t, vs, rfl, h3, r⟩ := ru'.lists R2.rs.same
          cases rv
          obtain ⟨w, h4, rw'⟩ := r.atI q
          exact .inl ⟨t, vs, _, w, rfl, rfl, h3, h4, R2.now h2 rw'⟩
        · cases hd
        · cases hd
        · cases y <;> simp only at q <;> try (cases q; done)
          obtain ⟨t, vs, rfl, h3, r⟩ := ru'.scrs R2.rs.same
          cases rv
          obtain ⟨w, h4, rw'⟩ := r.atI q
          exact .inl ⟨t, vs, _, w, rfl, rfl, h3, h4, R2.now h2 rw'⟩
        · rename_i n
          obtain ⟨t, rfl, ht⟩ := ru'.obj R2.rs
          split at q
          · rename_i xs i hm
            cases rv
            obtain ⟨vs, h3, r⟩ := R2.rs.objL hm ht
            obtain ⟨w, h4, rw'⟩ := r.atI q
            exact .inl ⟨t, vs, _, w, rfl, rfl, SqL.of h3, h4, R2.now h2 (RepV.mono (Gr.refl _) (Pre.refl _) (noC_le _) rw')⟩
          · rename_i kvs k hm
            simp [q2, hm] at hd
          · cases q
    | true =>
      refine .inr ⟨θ, S, s, R, h.imp fun x s1 θ1 S1 H1 q1 e1 R1 h1 u ru => ?_⟩
      refine ⟨θ1, S1, s1, R1, (PostR.bind h1).imp fun y s2 θ2 S2 H2 q2 e2 R2 h2 v rv => ?_⟩
      have ru' := ru.step e2 (CC.mono (ev_grow Φ ib s1 y s2 q2).1)
      cases q : vsub s2.mu x y with
      | none => rw [q] at h2; exact h2.elim
      | some z =>
        rw [q] at h2
        unfold dictB at hd
        rw [q1] at hd
        cases x <;> simp only [vsub] at q <;> first | (cases q; done) | (exact absurd (show false = true from hd) (by decide)) | skip
        · simp only [Option.bind_eq_some_iff] at q
          obtain ⟨k, ek, el⟩ := q
          obtain ⟨t, vs, rfl, h3, r⟩ := ru'.dcts R2.rs.same
          have ev' := rv.key ek
          rcases r.look (k := k) with ⟨h4, _⟩ | ⟨p, w, h4, h5, rw'⟩
          · rw [h4] at el; cases el
          · rw [h4] at el; cases el
            exact ⟨t, w, rfl, .inl ⟨vs, k, h3, ev', h5.symm⟩, R2.now h2 rw'⟩
        · cases y <;> simp only at q <;> try (cases q; done)
          simp only [Option.bind_eq_some_iff] at q
          obtain ⟨k, ek, el⟩ := q
          obtain ⟨t, vs, rfl, h3, r⟩ := ru'.dtts R2.rs.same
          obtain ⟨t2, ws, rfl, h6, r2⟩ := rv.tuple R2.rs.same
          have ev' := r2.keys ek
          subst ev'
          rcases r.look (k := k) with ⟨h4, _⟩ | ⟨p, w, h4, h5, rw'⟩
          · rw [h4] at el; cases el
          · rw [h4] at el; cases el
            exact ⟨t, w, rfl, .inr ⟨vs, k, t2, h3, rfl, h6, h5.symm⟩, R2.now h2 rw'⟩
        · rename_i n
          obtain ⟨t, rfl, ht⟩ := ru'.obj R2.rs
          split at q
          · rename_i xs i hm
            simp [q2, hm] at hd
          · rename_i kvs k hm
            simp only [Option.bind_eq_some_iff] at q
            obtain ⟨k, ek, el⟩ := q
            obtain ⟨vs, h3, r⟩ := R2.rs.objD hm ht
            have ev' := rv.key ek
            rcases r.look (k := k) with ⟨h4, _⟩ | ⟨p, w, h4, h5, rw'⟩
            · rw [h4] at el; cases el
            · rw [h4] at el; cases el
              exact ⟨t, w, rfl, .inl ⟨vs, k, .inl h3, ev', h5.symm⟩, R2.now h2 (RepV.mono (Gr.refl _) (Pre.refl _) (noC_le _) rw')⟩
          · cases q

/-! ### slices -/
def tO (X : Cx) (G : GT) (En : Ent) (C0 : Cells) (W : WX) (d : DS → DR (Option Int)) : TO := fun σ H Q => ∃ θ S s, Rel X G En C0 θ S H s σ ∧
  PostR X G En C0 W θ S H σ (d s) fun p s' θ' S' H' => Q p H'
def evO (Φ : Phi) (l : Bool) (lo : IE) (s : DS) : DR (Option Int) := if l then (ev Φ lo s).bind fun y s => (match y with
  | .int i => .ok (some i) s
  | _ => .bad) else .ok none s
theorem evO_grow (Φ : Phi) (l : Bool) (lo : IE) : Grow (evO Φ l lo) := Grow.ite ((ev_grow Φ lo).bind fun y => by cases y <;> first | exact Grow.ok | exact Grow.bad) Grow.ok
theorem _root_.L2.PO.wk {X : Cx} {e : Option Expr} {t t' : TO} (h : PO X e t) (k : ∀ σ H Q, t' σ H Q → t σ H Q) : PO X e t' := ⟨fun pins s σ H Q I q => h.run pins s σ H Q I (k σ H Q q)⟩
theorem so_none {lo : IE} : PO X none (tO X G En C0 W (evO Φ false lo)) := po_none.wk fun σ H Q ⟨θ, S, s, R, h⟩ => h θ S H (Ste.refl _ _ _) R
theorem so_some (ha : PE X a (tD X G En C0 W (ev Φ ia))) : PO X (some a) (tO X G En C0 W (evO Φ true ia)) := (po_some ha).wk fun σ H Q ⟨θ, S, s, R, h⟩ => by
  refine ⟨θ, S, s, R, (PostR.bind h).imp fun x s1 θ1 S1 H1 _ e1 R1 h1 v rv => ?_⟩
  cases x <;> try (exact h1.elim)
  cases rv
  exact ⟨_, rfl, h1 θ1 S1 H1 (Ste.refl _ _ _) R1⟩
theorem cut_sIx (n : Nat) (i : Int) (d : Nat) : cutIx n i = HT.sIx n d (some i) := by
  show (if 0 ≤ i then min i.toNat n else (i + n).toNat) = (if i < 0 then (i + n).toNat else min i.toNat n)
  by_cases h : 0 ≤ i
  · rw [if_pos h, if_neg (show ¬ i < 0 by omega)]
  · rw [if_neg h, if_pos (show i < 0 by omega)]
theorem RepL.cut {K : PySem.W.Frag} {C : Cells} {xs : List PV} {vs : List V} (lo hi : Option Int) (r : RepL K G.toFT C θ S xs vs) : RepL K G.toFT C θ S (cutL xs lo hi) (cutV vs lo hi) := by
  have e : cutL xs lo hi = (xs.drop (HT.sIx xs.length 0 lo)).take (HT.sIx xs.length xs.length hi - HT.sIx xs.length 0 lo) := by
    unfold cutL
    cases lo <;> cases hi <;> simp only [HT.sIx_none, cut_sIx xs.length _ 0] <;> simp only [← cut_sIx xs.length _ 0, cut_sIx xs.length _ xs.length]
    all_goals (simp only [← cut_sIx xs.length _ xs.length]; try rfl)
    all_goals (simp only [cut_sIx xs.length _ 0]; try rfl)
  rw [e]
  unfold cutV
  rw [← r.length]
  exact RepL.take _ (RepL.drop _ r)
theorem sIx_whole {α : Type} {xs : List α} {lo hi : Option Int} (h : HT.sIx xs.length 0 lo = 0 ∧ HT.sIx xs.length xs.length hi = xs.length) : (xs.drop (HT.sIx xs.length 0 lo)).take (HT.sIx xs.length xs.length hi - HT.sIx xs.length 0 lo) = xs := by
  rw [h.1, h.2]; simp
theorem sd_cut {lo hi : Option Expr} {p2 : Pos} {l h : Bool} {il ih : IE} (ha : PE X a (tP X G En C0 W (ev Φ ia))) (hl : PO X lo (tO X G En C0 W (evO Φ l il))) (hh : PO X hi (tO X G En C0 W (evO Φ h ih))) :
    PE X (.Subscript a (.Slice lo hi none p2) pos) (tD X G En C0 W (ev Φ (.cut ia l il h ih))) :=
  (pe_slice (slor sl_list sl_tupA) ha hl hh).wk fun σ H Q ⟨θ, S, s, R, h⟩ => by
    refine ⟨θ, S, s, R, (PostR.bind h).imp fun x s1 θ1 S1 H1 _ e1 R1 h1 u ru => ?_⟩
    refine ⟨θ1, S1, s1, R1, (PostR.bind (r := evO Φ l il s1) h1).imp fun y s2 θ2 S2 H2 q2 e2 R2 h2 => ?_⟩
    refine ⟨θ2, S2, s2, R2, (PostR.bind (r := evO Φ _ ih s2) h2).imp fun z s3 θ3 S3 H3 q3 e3 R3 h3 => ?_⟩
    have ru' := (ru.step e2 (CC.mono (evO_grow Φ l il s1 y s2 q2).1)).step e3 (CC.mono (evO_grow Φ _ ih s2 z s3 q3).1)
    cases x <;> simp only [vcut] at h3 <;> try (exact h3.elim)
    · obtain ⟨t, vs, rfl, h4, r⟩ := ru'.tups R3.rs.same
      have rc := RepL.cut y z r
      refine .inr ⟨t, vs, rfl, SqT.of h4, fun hw => ?_, fun _ p np => fin_tup R3.rs np rc (R3.fin (C := noC) h3)⟩
      have e : cutV vs y z = vs := sIx_whole hw
      rw [e] at rc
      rcases ru' with ru' | ⟨x, _, _, _, ru'⟩
      · refine R3.now h3 ?_
        cases ru' with
        | tup h5 r5 =>
          have := R3.rs.same _ _ h5
          rw [h4] at this; cases this
          exact .tup h5 rc
      · cases ru'
    · obtain ⟨t, vs, rfl, h4, r⟩ := ru'.lists R3.rs.same
      exact .inl ⟨t, vs, rfl, h4, fun p np => fin_lst R3.rs np (RepL.cut y z r) (R3.fin (C := noC) h3)⟩
    · obtain ⟨t, vs, rfl, h4, r⟩ := ru'.scrs R3.rs.same
      exact .inl ⟨t, vs, rfl, h4, fun p np => fin_lst R3.rs np (RepL.cut y z r) (R3.fin (C := noC) h3)⟩
end
end TL

set_option linter.all false
set_option maxRecDepth 100000
/-! TLSnd4: calls of defs and closures. Own work. -/
namespace TL
open PySem PySem.Spec PyProof.Rows L2 NdefX
def PostF (K : PySem.W.Frag) (G : GT) (C : Cells) (θ : List Addr) (S H : Hp) (r : FR) (Q : VK) (E : XK) : Prop := match r with
  | .ok p mu' => ∀ θ' S' H' v, Ste θ S H θ' S' H' → RS K G θ' S' H' mu' → RepV K G.toFT C θ' S' p v → Q v H'
  | .exc c fs mu' => ∀ θ' S' H' cls d, Ste θ S H θ' S' H' → RS K G θ' S' H' mu' → RepX K G θ' S' c fs cls d H' → E cls d H'
  | .bad => False
/-- what a call asks, what it gives -/
def spF (K : PySem.W.Frag) (G : GT) (C : Cells) (sem : List PV → List SO → FR) (vs : List V) (H : Hp) (Q : VK) (E : XK) : Prop :=
  ∃ θ S mu ps, RS K G θ S H mu ∧ RepL K G.toFT C θ S ps vs ∧ PostF K G C θ S H (sem ps mu) Q E
/-- the def at f does what is said -/
def FnS (P : Program) (w : World) (K : PySem.W.Frag) (mg : Str → Option Value) (base : Heap) (G : GT) (k : Nat) (f : Addr) (fd : FuncData) (ps : List Str) (sem : List PV → List SO → FR) : Prop :=
  ∀ (A : Around) (outer : List Env) (s : Shared) (H : Hp) (args : Args) (us : List Value) (vs : List V) (Q : VK) (E : XK) (C : Cells), Room (2 * k + 1) A → Env0 P w K mg base A outer s H → BindsTo s fd args (ps.zip us) → Vals vs us → vs.length = ps.length →
    CellsIn s H C → spF K G C sem vs H Q E → codeAny (model P w) A (.call (.ref f) args) (CR (L2.CX P w) outer P w H s Q E) s
/-- calls below a depth are known -/
structure Lv (P : Program) (w : World) (K : PySem.W.Frag) (mg : Str → Option Value) (base : Heap) (G : GT) (KW : List (Nat × Nat × List Str)) (k : Nat) (Φ : Phi) : Prop where
  go : ∀ j f, G.addr j = some f → PySem.W.keepIn K (.ref f) = true ∧ ∃ fd ps, Binds K fd ps [] ∧ FnS P w K mg base G k f fd ps (Φ j) ∧ (∀ ps' mu, ps'.length ≠ ps.length → Φ j ps' mu = .bad) ∧
    (∀ n ks, (j, n, ks) ∈ KW → ∀ (s : Shared) (us ws : List Value), us.length = n → ws.length = ks.length → us.length + ws.length = ps.length → BindsTo s fd ⟨us, ks.zip ws⟩ (ps.zip (us ++ ws)))
  at_ : ∀ j f, G.addr j = some f → ∀ h : Heap, K.In h → PySem.W.FnAt f h
  clo : ∀ (A : Around) (outer : List Env) (s : Shared) (H : Hp) (us : List Value) (vs : List V) (Q : VK) (E : XK) (C : Cells) (j : Nat) (f : Addr) (caps ps : List PV) (θ : List Addr) (S : Hp) (mu : List SO), G.addr j = none → Room (2 * k + 1) A → Env0 P w K mg base A outer s H → Vals vs us →
    CellsIn s H C → RS K G θ S H mu → RepL K G.toFT C θ S ps vs → RepV K G.toFT C θ S (.fn j caps) (.ref f) → PostF K G C θ S H (Φ j (ps ++ caps) mu) Q E →
      codeAny (model P w) A (.call (.ref f) ⟨us, []⟩) (CR (L2.CX P w) outer P w H s Q E) s
  apart : ∀ j, G.addr j ≠ none → G.lam j = none
section
variable {X : Cx} {G : GT} {En : Ent} {C0 : Cells} {W : WX} {θ : List Addr} {S H : Hp} {σ : L2.St} {s : DS} {Φ : Phi} {KW : List (Nat × Nat × List Str)}
variable {a b c : Expr} {ia ib ic : IE} {pos p : Pos} {k : Nat}
theorem isCell_any {X : Cx} {pins : List (Addr × Obj)} {sh : Shared} (I : Inv X pins σ H sh) {c : Addr} {v : Option Value} (h : X.s_0.heap.IsCell c v) (n : X.H_0 c = none) (e : c ∉ X.ex) : sh.heap.IsCell c v := by
  obtain ⟨o, ho, hd⟩ := h
  obtain ⟨sl, q⟩ := I.base.any ho n e
  exact ⟨_, q, hd⟩
theorem cells_in {pins : List (Addr × Obj)} {sh : Shared} (I : Inv X pins σ H sh) (R : Rel X G En C0 θ S H s σ) : CellsIn sh H (CC X C0 σ s.cap) := fun c v h => by
  rcases h with h | ⟨i, y, h1, h2, h3, h4, h5⟩
  · obtain ⟨u, r, hc, n, e⟩ := R.c0 c v h
    obtain ⟨o, ho, hd⟩ := id hc
    exact ⟨u, r, isCell_any I hc n e, I.base.free c o ho n e⟩
  · obtain ⟨m, hn, hl⟩ := I.loc
    have vis : Vis X.env.scope y := h3.elim (fun z => .inr (.inl z)) fun z => .inr (.inr z)
    obtain ⟨u, r, lk⟩ := hl i y v h2 h5 vis
    refine ⟨u, r, ?_, I.freeC y c h4⟩
    rcases lk with ⟨z, _⟩ | ⟨_, c', e1, e2⟩
    · have z : X.env.scope.names.lookup y = some .local := z
      rcases h3 with h3 | h3 <;> rw [z] at h3 <;> cases h3
    · rw [h4] at e1; cases e1
      exact e2
/-- from a def's result to what follows in the caller -/
theorem PostR.toF {r : FR} {Q : VK} (R : Rel X G En C0 θ S H s σ) (h : PostR X G En C0 W θ S H σ (DR.ofF r s) fun p s' θ' S' H' => ∀ v, RepV X.K G.toFT (CC X C0 σ s'.cap) θ' S' p v → Q v H') :
    PostF X.K G (CC X C0 σ s.cap) θ S H r Q (WE W σ) := by
  cases r with
  | ok p mu => exact fun θ' S' H' v e rs rv => h θ' S' H' e (R.step e rs) v rv
  | exc c fs mu => exact fun θ' S' H' cls d e rs rx => h θ' S' H' cls d e (R.step e rs) rx
  | bad => exact h
theorem run_S {pins : List (Addr × Obj)} {sh : Shared} {f : Addr} {args : Args} {Q : VK} (tk : Takes X W) (I : Inv X pins σ H sh)
    (h : codeAny (model X.prog X.w) X.A (.call (.ref f) args) (CR (L2.CX X.prog X.w) X.stack X.prog X.w H sh Q (WE W σ)) sh) : wpAny (model X.prog X.w) X.A (call (.ref f) args.pos args.kw) (EP X pins σ Q) X.xe sh := by
  refine wpAny_call (codeAny_mono h fun r s' hq => ?_)
  cases r with
  | error e => exact passAt tk σ pins H sh e s' I hq
  | ok fl =>
    cases fl with
    | ret u => exact I.after hq
    | next => exact False.elim hq
    | brk => exact False.elim hq
    | cont => exact False.elim hq
/-- the args' reading, then the call -/
def tCl (X : Cx) (G : GT) (En : Ent) (C0 : Cells) (W : WX) (sem : List PV → List SO → FR) (t : TA) : Prop := True
theorem call_at {j : Nat} {f : Addr} {pins : List (Addr × Obj)} {sh : Shared} {us : List Value} {vs : List V} {ps : List PV} {Q : VK} (L : Lv X.prog X.w X.K X.mg X.base G KW k Φ) (hr : Room (2 * k + 1) X.A) (tk : Takes X W) (hj : G.addr j = some f)
    (I : Inv X pins σ H sh) (r : Vals vs us) (R : Rel X G En C0 θ S H s σ) (rl : RepL X.K G.toFT (CC X C0 σ s.cap) θ S ps vs)
    (h : PostR X G En C0 W θ S H σ (DR.ofF (Φ j ps s.mu) s) fun p s' θ' S' H' => ∀ v, RepV X.K G.toFT (CC X C0 σ s'.cap) θ' S' p v → Q v H') : wpAny (model X.prog X.w) X.A (call (.ref f) us) (EP X pins σ Q) X.xe sh := by
  obtain ⟨hk, fd, pn, hb, F, hl, _⟩ := L.go j f hj
  by_cases hn : ps.length = pn.length
  · have hn' : us.length = pn.length := by rw [← r.length, ← rl.length, hn]
    have b0 := hb sh us I.kIn (by simpa using hn')
    rw [List.append_nil] at b0
    exact run_S (args := ⟨us, []⟩) tk I (F X.A X.stack sh H ⟨us, []⟩ us vs Q (WE W σ) _ hr I.env0 b0 r (by rw [← rl.length, hn]) (cells_in I R) ⟨θ, S, s.mu, ps, R.rs, rl, PostR.toF R h⟩)
  · rw [hl ps s.mu hn] at h
    exact h.elim
theorem backTo_any {es : List Expr} {env : Env} (h : ∀ e ∈ es, ∀ x p, e ≠ .Starred x p) : (backTo pos (starEach es env)).any (·.1) = false := by
  induction es with
  | nil => rfl
  | cons e es ih =>
    rw [star_plain (h e List.mem_cons_self)]
    have := ih fun e' he => h e' (List.mem_cons_of_mem _ he)
    cases es with
    | nil => rfl
    | cons e2 es2 =>
      rw [star_plain (h e2 (List.mem_cons_of_mem _ List.mem_cons_self))] at this ⊢
      simpa [backTo] using this
/-- f(e, ..), f a def of the module -/
theorem sd_call {j : Nat} {f : Addr} {x : Str} {e : Expr} {es : List Expr} {is : IEs} (L : Lv X.prog X.w X.K X.mg X.base G KW k Φ) (hr : Room (2 * k + 1) X.A) (tk : Takes X W) (hj : G.addr j = some f) (hg : Gl X x) (hm : X.mg x = some (.ref f)) (hd : (x == ("__debug__" : Str)) = false)
    (hs : ∀ e' ∈ e :: es, ∀ x p, e' ≠ .Starred x p) (ha : PA X (e :: es) (tDs X G En C0 W (evs Φ is))) : PE X (.Call (.Name x p) (e :: es) [] pos) (tD X G En C0 W (ev Φ (.call j is))) := by
  refine ⟨fun pins sh σ H Q I ⟨θ, S, s, R, h⟩ => ?_⟩
  refine wpAny_Call_Name_kw (ld_glob I hg hm ?_ hd)
  refine PySem.W.callWith_K (h₀ := X.base) I.ok.mod.kin (L.go j f hj).1 (thn (ha.run pos pins sh σ H (fun vs H1 => ∃ θ1 S1 s1 ps, Rel X G En C0 θ1 S1 H1 s1 σ ∧ RepL X.K G.toFT (CC X C0 σ s1.cap) θ1 S1 ps vs ∧
    PostR X G En C0 W θ1 S1 H1 σ (DR.ofF (Φ j ps s1.mu) s1) fun p s' θ' S' H' => ∀ v, RepV X.K G.toFT (CC X C0 σ s'.cap) θ' S' p v → Q v H') I ⟨θ, S, s, R, (PostR.bind h).imp fun ps s1 θ1 S1 H1 _ e1 R1 h1 v rv => ⟨θ1, S1, s1, ps, R1, rv, h1⟩⟩)
    fun us s1 ⟨vs, H1, I1, r, θ1, S1, s1', ps, R1, rl, h1⟩ => ⟨I1.kIn, call_at L hr tk hj I1 r R1 rl h1⟩) (star_plain (hs e List.mem_cons_self)) (backTo_any fun e' he => hs e' (List.mem_cons_of_mem _ he))
theorem sd_call0 {j : Nat} {f : Addr} {x : Str} (L : Lv X.prog X.w X.K X.mg X.base G KW k Φ) (hr : Room (2 * k + 1) X.A) (tk : Takes X W) (hj : G.addr j = some f) (hg : Gl X x) (hm : X.mg x = some (.ref f)) (hd : (x == ("__debug__" : Str)) = false) :
    PE X (.Call (.Name x p) [] [] pos) (tD X G En C0 W (ev Φ (.call j .nil))) := by
  refine ⟨fun pins sh σ H Q I ⟨θ, S, s, R, h⟩ => ?_⟩
  refine wpAny_Call_Name_kw (ld_glob I hg hm ?_ hd)
  exact PySem.W.callWith_K0 I.kIn (L.go j f hj).1 (call_at (us := []) (ps := []) L hr tk hj I .nil R .nil h)
/-- a(e, ..), a a name that holds a def or a closure -/
theorem calls_fn {i : Nat} {x : Str} {e : Expr} {es : List Expr} {is : IEs} (L : Lv X.prog X.w X.K X.mg X.base G KW k Φ) (hr : Room (2 * k + 1) X.A) (tk : Takes X W) (hN : X.N[i]? = some x) (hv : Vis X.env.scope x) (hd : (x == ("__debug__" : Str)) = false) (hcd : (x == ("__classdict__" : Str)) = false)
    (hs : ∀ e' ∈ e :: es, ∀ x p, e' ≠ .Starred x p) (ha : PA X (e :: es) (tDs X G En C0 W (evs Φ is))) : PE X (.Call (.Name x p) (e :: es) [] pos) (tD X G En C0 W (ev Φ (.callv i is))) := by
  refine ⟨fun pins sh σ H Q I ⟨θ, S, s, R, h⟩ => ?_⟩
  unfold ev at h
  split at h
  · rename_i j caps hq
    have hloc := getS_some hq
    by_cases ho : i ∈ s.own
    · obtain ⟨p', a, h1, h2, h3, h4, h5, h6⟩ := R.own i ho
      rw [hloc] at h1; cases h1
      cases h6
    · obtain ⟨v, hσ, rv⟩ := R.slot i _ hloc ho
      have hf : ∃ f, v = .ref f := by cases rv <;> exact ⟨_, rfl⟩
      obtain ⟨f, rfl⟩ := hf
      refine wpAny_Call_Name_kw (thn ((pe_var (pos := p) hN hv hd hcd).run pins sh σ H (fun v H1 => v = .ref f ∧ H1 = H) I ⟨.ref f, hσ, rfl, rfl⟩) fun u s1 ⟨v, H1, I1, r1, q1⟩ => ?_)
      obtain ⟨ev', eH⟩ := q1
      subst ev'
      rw [eH] at I1
      obtain rfl : u = Value.ref f := r1
      have run := fun {Q' : List V → Hp → Prop} (q : tDs X G En C0 W (evs Φ is) σ H Q') => ha.run pos pins s1 σ H Q' I1 q
      have args := run (Q' := fun vs H1 => ∃ θ1 S1 s1 ps, Rel X G En C0 θ1 S1 H1 s1 σ ∧ RepL X.K G.toFT (CC X C0 σ s1.cap) θ1 S1 ps vs ∧ Ste θ S H θ1 S1 H1 ∧ (∀ i ∈ s.cap, i ∈ s1.cap) ∧
        PostR X G En C0 W θ1 S1 H1 σ (DR.ofF (Φ j (ps ++ caps) s1.mu) s1) fun p s' θ' S' H' => ∀ v, RepV X.K G.toFT (CC X C0 σ s'.cap) θ' S' p v → Q v H')
        ⟨θ, S, s, R, (PostR.bind h).imp fun ps s1 θ1 S1 H1 q1 e1 R1 h1 v rv => ⟨θ1, S1, s1, ps, R1, rv, e1, (evs_grow Φ is s ps s1 q1).1, h1⟩⟩
      cases hj : G.addr j with
      | some g =>
        have eg : g = f ∧ caps = [] := by
          cases rv with
          | fn h => rw [hj] at h; cases h; exact ⟨rfl, rfl⟩
          | clo l => have := L.apart j (by rw [hj]; simp); rw [this] at l; cases l
        obtain ⟨rfl, rfl⟩ := eg
        exact PySem.W.callWith_K (h₀ := X.base) I.ok.mod.kin (L.go j g hj).1 (thn args fun us s2 ⟨vs, H1, I2, r, θ1, S1, s1', ps, R1, rl, e1, gr, h1⟩ => ⟨I2.kIn, call_at L hr tk hj I2 r R1 rl (by rw [List.append_nil] at h1; exact h1)⟩)
          (star_plain (hs e List.mem_cons_self)) (backTo_any fun e' he => hs e' (List.mem_cons_of_mem _ he))
      | none =>
        have fnat : ∀ {θ1 S1 H1} {C : Cells} {sh : Shared} {pins : List (Addr × Obj)}, Inv X pins σ H1 sh → Same S1 H1 → RepV X.K G.toFT C θ1 S1 (.fn j caps) (.ref f) → PySem.W.FnAt f sh.heap := fun {θ1 S1 H1 C sh pins} I hS rv => by
          cases rv with
          | fn h => rw [hj] at h; cases h
          | clo _ h1 _ _ _ _ _ _ =>
            have h2 := hS _ _ h1
            obtain ⟨z, _, _⟩ := I.hok f _ h2
            exact ⟨_, _, _, _, z⟩
        refine PySem.W.callWith_F (fnat I1 R.rs.same rv) (thn args fun us s2 ⟨vs, H1, I2, r, θ1, S1, s1', ps, R1, rl, e1, gr, h1⟩ => ?_) (star_plain (hs e List.mem_cons_self)) (backTo_any fun e' he => hs e' (List.mem_cons_of_mem _ he))
        have rv' := RepV.mono e1.sS e1.pre (CC.mono (X := X) (C0 := C0) (σ := σ) gr) rv
        exact ⟨fnat I2 R1.rs.same rv', run_S (args := ⟨us, []⟩) tk I2 (L.clo X.A X.stack s2 H1 us vs Q (WE W σ) _ j f caps ps θ1 S1 s1'.mu hj hr I2.env0 r (cells_in I2 R1) R1.rs rl rv' (PostR.toF R1 h1))⟩
  · exact h.elim
theorem calls_fn0 {i : Nat} {x : Str} (L : Lv X.prog X.w X.K X.mg X.base G KW k Φ) (hr : Room (2 * k + 1) X.A) (tk : Takes X W) (hN : X.N[i]? = some x) (hv : Vis X.env.scope x) (hd : (x == ("__debug__" : Str)) = false) (hcd : (x == ("__classdict__" : Str)) = false) :
    PE X (.Call (.Name x p) [] [] pos) (tD X G En C0 W (ev Φ (.callv i .nil))) := by
  refine ⟨fun pins sh σ H Q I ⟨θ, S, s, R, h⟩ => ?_⟩
  unfold ev at h
  split at h
  · rename_i j caps hq
    have hloc := getS_some hq
    by_cases ho : i ∈ s.own
    · obtain ⟨p', a, h1, h2, h3, h4, h5, h6⟩ := R.own i ho
      rw [hloc] at h1; cases h1
      cases h6
    · obtain ⟨v, hσ, rv⟩ := R.slot i _ hloc ho
      have hf : ∃ f, v = .ref f := by cases rv <;> exact ⟨_, rfl⟩
      obtain ⟨f, rfl⟩ := hf
      refine wpAny_Call_Name_kw (thn ((pe_var (pos := p) hN hv hd hcd).run pins sh σ H (fun v H1 => v = .ref f ∧ H1 = H) I ⟨.ref f, hσ, rfl, rfl⟩) fun u s1 ⟨v, H1, I1, r1, q1⟩ => ?_)
      obtain ⟨ev', eH⟩ := q1
      subst ev'
      rw [eH] at I1
      obtain rfl : u = Value.ref f := r1
      have h : PostR X G En C0 W θ S H σ (DR.ofF (Φ j ([] ++ caps) s.mu) s) fun p s' θ' S' H' => ∀ v, RepV X.K G.toFT (CC X C0 σ s'.cap) θ' S' p v → Q v H' := h
      cases hj : G.addr j with
      | some g =>
        have eg : g = f ∧ caps = [] := by
          cases rv with
          | fn h => rw [hj] at h; cases h; exact ⟨rfl, rfl⟩
          | clo l => have := L.apart j (by rw [hj]; simp); rw [this] at l; cases l
        obtain ⟨rfl, rfl⟩ := eg
        exact PySem.W.callWith_K0 I1.kIn (L.go j g hj).1 (call_at (us := []) (ps := []) L hr tk hj I1 .nil R .nil h)
      | none =>
        have fnat : PySem.W.FnAt f s1.heap := by
          cases rv with
          | fn h => rw [hj] at h; cases h
          | clo _ h1 _ _ _ _ _ _ =>
            have h2 := R.rs.same _ _ h1
            obtain ⟨z, _, _⟩ := I1.hok f _ h2
            exact ⟨_, _, _, _, z⟩
        exact PySem.W.callWith_F0 fnat (run_S (args := ⟨[], []⟩) tk I1 (L.clo X.A X.stack s1 H [] [] Q (WE W σ) _ j f caps [] θ S s.mu hj hr I1.env0 .nil (cells_in I1 R) R.rs .nil rv (PostR.toF R h)))
  · exact h.elim
end
end TL

set_option linter.all false
set_option maxRecDepth 100000
/-! TLSnd5: new lists and dicts (known, one's own, shared). Own work. -/
namespace TL
open PySem PySem.Spec PyProof.Rows L2 NdefX
section
variable {K : PySem.W.Frag} {G : GT} {θ θ' : List Addr} {S S' H H' : Hp} {mu : List SO} {p a : Addr} {o : HO}
/-- a new object that nothing is told of -/
theorem Ste.junk (n : H p = none) : Ste θ S H θ S (upd H p o) where
  sS := Gr.refl S
  pre := Pre.refl θ
  new := fun _ h k => absurd h k
  frz := fun a h k => absurd h k
  kp := fun a u h _ _ => .inl (by
    rw [upd_ne (ne_of_none h n)]
    exact h)
  al := fun a h => by
    by_cases e : a = p
    · rw [e, upd_same]; simp
    · rw [upd_ne e]; exact h
theorem Same.junk (h : Same S H) (n : H p = none) : Same S (upd H p o) := fun a u e => by
  rw [upd_ne (ne_of_none (h a u e) n)]
  exact h a u e
theorem RS.junk (r : RS K G θ S H mu) (n : H p = none) : RS K G θ S (upd H p o) mu := by
  refine r.step (Ste.junk n) (Same.junk r.same n) (fun a h => ?_) (fun q hq => ?_) (fun b u h _ _ => ?_)
  · obtain ⟨u, hu, _, _⟩ := r.there h
    exact upd_ne (ne_of_none hu n)
  · obtain ⟨ps, h1, _⟩ := r.tabs q hq
    exact upd_ne (ne_of_none h1 n)
  · rw [upd_ne (ne_of_none h n)]
    exact h
/-- junk that nothing leans on is changed -/
theorem Ste.rewrite {u : HO} (n0 : H a = none) (e : Ste θ S H θ' S' H') (ns : S' a = none) (nt : a ∉ θ') (h : H' a = some u) : Ste θ S H θ' S' (upd H' a o) where
  sS := e.sS
  pre := e.pre
  new := e.new
  frz := e.frz
  kp := fun b w h1 h2 h3 => by
    have hb : b ≠ a := fun z => by rw [z, n0] at h1; cases h1
    rw [upd_ne hb]
    exact e.kp b w h1 h2 h3
  al := fun b hb => by
    by_cases z : b = a
    · rw [z, upd_same]; simp
    · rw [upd_ne z]; exact e.al b hb
theorem RepO.keep {S H H' : Hp} {θ : List Addr} {u : SO} {x : Addr} (h : RepO K G θ S H u x) (k : H' x = H x) : RepO K G θ S H' u x := by
  cases h with
  | lst q r => exact .lst (k.trans q) r
  | dct q r => exact .dct (k.trans q) r
  | ins g q r => exact .ins g (k.trans q) r
theorem RS.rewrite {u : HO} (r : RS K G θ S H mu) (ns : S a = none) (nt : a ∉ θ) (h : H a = some u) (hu : ∀ ps, u ≠ .tbl ps) (hx : ∀ φ, u ≠ .ext φ) : RS K G θ S (upd H a o) mu where
  same := fun b w hb => by
    have z : b ≠ a := fun z => by rw [z, ns] at hb; cases hb
    rw [upd_ne z]
    exact r.same b w hb
  nd := r.nd
  len := r.len
  out := r.out
  obj := fun i w b h1 h2 => by
    have z : b ≠ a := fun z => nt (z ▸ List.mem_of_getElem? h2)
    exact (r.obj i w b h1 h2).keep (upd_ne z)
  tabs := fun p hp => by
    obtain ⟨ps, h1, h2, h3⟩ := r.tabs p hp
    have z : p.1 ≠ a := fun z => by
      rw [z, h] at h1; cases h1
      exact hu _ rfl
    exact ⟨ps, by rw [upd_ne z]; exact h1, h2, h3⟩
  tabO := r.tabO
/-- what was new is known from now on -/
theorem Ste.know (e : Ste θ S H θ' S' H') (n0 : H a = none) (ns : S' a = none) : Ste θ S H θ' (upd S' a o) H' where
  sS := e.sS.trans (Gr.of fun b u h => by
    rw [upd_ne (fun z => by rw [z, ns] at h; cases h)]
    exact h)
  pre := e.pre
  new := e.new
  frz := fun b h k => by
    by_cases z : b = a
    · rw [z]; exact n0
    · rw [upd_ne z] at k
      exact e.frz b h k
  kp := e.kp
  al := e.al
theorem RS.know (r : RS K G θ S H mu) (ns : S a = none) (nt : a ∉ θ) (h : H a = some o) (hu : ∀ ps, o ≠ .tbl ps) : RS K G θ (upd S a o) H mu where
  same := fun b w hb => by
    by_cases z : b = a
    · rw [z, upd_same] at hb; cases hb; rw [z]; exact h
    · rw [upd_ne z] at hb; exact r.same b w hb
  nd := r.nd
  len := r.len
  out := fun b hb => by
    rw [upd_ne (show b ≠ a from fun z => nt (by rw [← z]; exact hb))]
    exact r.out b hb
  obj := fun i w b h1 h2 => (r.obj i w b h1 h2).mono (Gr.of fun b u h => by
    rw [upd_ne (fun z => by rw [z, ns] at h; cases h)]
    exact h) (Pre.refl θ) fun _ z => z
  tabs := fun p hp => by
    obtain ⟨ps, h1, h2, h3⟩ := r.tabs p hp
    refine ⟨ps, h1, h2, fun pos cv hc => ?_⟩
    obtain ⟨c, e1, e2⟩ := h3 pos cv hc
    exact ⟨c, e1, by rw [upd_ne (fun z => by rw [z, ns] at e2; cases e2)]; exact e2⟩
  tabO := fun p hp => by
    obtain ⟨ps, h1, _⟩ := r.tabs p hp
    rw [upd_ne (fun z => by rw [z, h] at h1; cases h1; exact hu _ rfl)]
    exact r.tabO p hp
end
section
variable {X : Cx} {G : GT} {En : Ent} {C0 : Cells} {W : WX} {θ θ' : List Addr} {S S' H H' : Hp} {σ : L2.St} {s s' : DS} {Φ : Phi}
variable {e : Expr} {ia ib ic : IE} {pos : Pos} {a : Addr} {o : HO}
/-- the own lists and dicts stood before -/
theorem Rel.ownThere (R : Rel X G En C0 θ S H s σ) {i : Nat} (hi : i ∈ s.own) {b : Addr} (hb : σ[i]? = some (some (.ref b))) : ∃ o, H b = some o ∧ ∀ ps, o ≠ .tbl ps := by
  obtain ⟨p, a, h1, h2, h3, h4, h5, h6⟩ := R.own i hi
  rw [h2] at hb; cases hb
  exact h6.there
theorem Rel.know (R0 : Rel X G En C0 θ S H s σ) (le : LeS s s') (R : Rel X G En C0 θ' S' H' s' σ) (n0 : H a = none) (ns : S' a = none) (nt : a ∉ θ') (h : H' a = some o) (hu : ∀ ps, o ≠ .tbl ps) : Rel X G En C0 θ' (upd S' a o) H' s' σ where
  rs := R.rs.know ns nt h hu
  en := R.en.know (by
    cases q : En.H a with
    | none => rfl
    | some u => exact absurd n0 (R0.en.al a (by rw [q]; simp))) ns
  c0 := R.c0
  len := R.len
  len2 := R.len2
  slot := fun i p h1 h2 => by
    obtain ⟨v, h3, h4⟩ := R.slot i p h1 h2
    refine ⟨v, h3, RepV.mono (Gr.of fun b u h => ?_) (Pre.refl _) (fun _ _ z => z) h4⟩
    rw [upd_ne (fun z => by rw [z, ns] at h; cases h)]
    exact h
  own := fun i hi => by
    obtain ⟨p, b, h1, h2, h3, h4, h5, h6⟩ := R.own i hi
    obtain ⟨u, hu1, _⟩ := R0.ownThere (i := i) (by rw [← le.2.2]; exact hi) h2
    have hb : b ≠ a := fun z => by rw [z, n0] at hu1; cases hu1
    refine ⟨p, b, h1, h2, by rw [upd_ne hb]; exact h3, h4, h5, h6.mono (Gr.of fun b u h => ?_) (Pre.refl _) (fun _ _ z => z) fun _ z _ => z⟩
    rw [upd_ne (fun z => by rw [z, ns] at h; cases h)]
    exact h
  dis := R.dis
  fxd := R.fxd
/-- a list or dict that was just made -/
def FrA (K : PySem.W.Frag) (G : FT) (C : Cells) (θ : List Addr) (S H0 H : Hp) (p : PV) (a : Addr) : Prop := H0 a = none ∧ S a = none ∧ a ∉ θ ∧ OwnAt K G C θ S H p a
def tFr (X : Cx) (G : GT) (En : Ent) (C0 : Cells) (W : WX) (d : DS → DR PV) : TE := fun σ H Q => ∃ θ S s, Rel X G En C0 θ S H s σ ∧
  PostR X G En C0 W θ S H σ (d s) fun p s' θ' S' H' => ∀ a, FrA X.K G.toFT (CC X C0 σ s'.cap) θ' S' H H' p a → Q (.ref a) H'
theorem OwnAt.rep {K : PySem.W.Frag} {C : Cells} {p : PV} (hS : S a = none) (h : OwnAt K G.toFT C θ S H p a) : ∃ o, H a = some o ∧ (∀ ps, o ≠ .tbl ps) ∧ (∀ φ, o ≠ .ext φ) ∧ RepV K G.toFT C θ (upd S a o) p (.ref a) := by
  have gr : ∀ o, Gr S (upd S a o) := fun o => Gr.of fun b u h => by
    rw [upd_ne (fun z => by rw [z, hS] at h; cases h)]
    exact h
  cases h with
  | lst h r => exact ⟨_, h, fun _ z => (by cases z), fun _ z => (by cases z), .lst upd_same (RepL.mono (gr _) (Pre.refl _) (fun _ _ z => z) r)⟩
  | dct h r => exact ⟨_, h, fun _ z => (by cases z), fun _ z => (by cases z), .dct (.inl upd_same) (RepK.mono (gr _) (Pre.refl _) (fun _ _ z => z) r)⟩
  | dtt h r => exact ⟨_, h, fun _ z => (by cases z), fun _ z => (by cases z), .dtt (.inl upd_same) (RepT.mono (gr _) (Pre.refl _) (fun _ _ z => z) r)⟩
/-- it is known from now on -/
theorem imp_know {d : DS → DR PV} {Q : VK} (g : Grow d) (h : tD X G En C0 W d σ H Q) : tFr X G En C0 W d σ H Q := by
  obtain ⟨θ, S, s, R, h⟩ := h
  refine ⟨θ, S, s, R, ?_⟩
  cases q : d s with
  | ok p s' =>
    rw [q] at h
    intro θ' S' H' e R' a ⟨n0, ns, nt, ow⟩
    obtain ⟨o, ho, hu, _, rv⟩ := ow.rep (G := G) ns
    exact h θ' (upd S' a o) H' (e.know n0 ns) (Rel.know R (g s p s' q) R' n0 ns nt ho hu) (.ref a) rv
  | exc c fs s' => rw [q] at h; exact h
  | bad => rw [q] at h; exact h
theorem sd_know {d : DS → DR PV} (g : Grow d) (h : PE X e (tFr X G En C0 W d)) : PE X e (tD X G En C0 W d) := h.wk fun σ H Q h => imp_know g h
/-- it is shared from now on -/
theorem Rel.share {u : SO} (R0 : Rel X G En C0 θ S H s σ) (le : LeS s s') (R : Rel X G En C0 θ' S' H' s' σ) (e : Ste θ S H θ' S' H') (n0 : H a = none) (ns : S' a = none) (nt : a ∉ θ') (hu : RepO X.K G (θ' ++ [a]) S' H' u a) :
    Ste θ S H (θ' ++ [a]) S' H' ∧ Rel X G En C0 (θ' ++ [a]) S' H' { s' with mu := s'.mu ++ [u] } σ := by
  have pre : Pre θ' (θ' ++ [a]) := ⟨[a], rfl⟩
  have en0 : En.H a = none := by
    cases q : En.H a with
    | none => rfl
    | some u => exact absurd n0 (R0.en.al a (by rw [q]; simp))
  have st : ∀ {θ0 S0 H0}, Ste θ0 S0 H0 θ' S' H' → H0 a = none → Ste θ0 S0 H0 (θ' ++ [a]) S' H' := fun {θ0 S0 H0} e n0 => by
    refine ⟨e.sS, e.pre.trans pre, fun b h k => ?_, e.frz, e.kp, e.al⟩
    rcases List.mem_append.mp h with h | h
    · exact e.new b h k
    · have : b = a := by simpa using h
      rw [this]; exact n0
  refine ⟨st e n0, ?_⟩
  refine ⟨?_, st R.en en0, R.c0, R.len, R.len2, fun i p h1 h2 => ?_, fun i hi => ?_, R.dis, R.fxd⟩
  · refine ⟨R.rs.same, ?_, by simp [R.rs.len], fun b h => ?_, fun i w b h1 h2 => ?_, R.rs.tabs, R.rs.tabO⟩
    · refine List.nodup_append.mpr ⟨R.rs.nd, by simp, fun x hx y hy => ?_⟩
      have : y = a := by simpa using hy
      subst this
      rintro rfl
      exact nt hx
    · rcases List.mem_append.mp h with h | h
      · exact R.rs.out b h
      · have : b = a := by simpa using h
        rw [this]; exact ns
    · rcases getElem?_snoc h2 with h2 | ⟨e2, rfl⟩
      · rcases getElem?_snoc h1 with h1 | ⟨e1, _⟩
        · exact (R.rs.obj i w b h1 h2).mono (Gr.refl _) pre fun _ z => z
        · have := (List.getElem?_eq_some_iff.mp h2).1
          rw [R.rs.len] at this; omega
      · rcases getElem?_snoc h1 with h1 | ⟨_, rfl⟩
        · have := (List.getElem?_eq_some_iff.mp h1).1
          rw [← R.rs.len] at this; omega
        · exact hu
  · obtain ⟨v, h3, h4⟩ := R.slot i p h1 h2
    exact ⟨v, h3, RepV.mono (Gr.refl _) pre (fun _ _ z => z) h4⟩
  · obtain ⟨p, b, h1, h2, h3, h4, h5, h6⟩ := R.own i hi
    obtain ⟨u, hu1, _⟩ := R0.ownThere (i := i) (by rw [← le.2.2]; exact hi) h2
    refine ⟨p, b, h1, h2, h3, fun z => ?_, h5, h6.mono (Gr.refl _) pre (fun _ _ z => z) fun _ z _ => z⟩
    rcases List.mem_append.mp z with z | z
    · exact h4 z
    · have : b = a := by simpa using z
      rw [this, n0] at hu1; cases hu1
theorem sd_sh (h : PE X e (tFr X G En C0 W (ev Φ ia))) : PE X e (tD X G En C0 W (ev Φ (.sh ia))) := h.wk fun σ H Q ⟨θ, S, s, R, h⟩ => by
  refine ⟨θ, S, s, R, ?_⟩
  unfold ev at h
  cases q : ev Φ ia s with
  | ok p s' =>
    rw [q] at h
    intro θ' S' H' e R' a ⟨n0, ns, nt, ow⟩
    have fin : ∀ u, RepO X.K G (θ' ++ [a]) S' H' u a → PostR X G En C0 W θ S H σ (.ok (.obj s'.mu.length) { s' with mu := s'.mu ++ [u] }) (fun p s' θ' S' H' => ∀ v, RepV X.K G.toFT (CC X C0 σ s'.cap) θ' S' p v → Q v H') → Q (.ref a) H' := fun u hu h => by
      obtain ⟨e2, R2⟩ := Rel.share R (ev_grow Φ ia s p s' q) R' e n0 ns nt hu
      refine h _ _ _ e2 R2 _ (.obj ?_)
      rw [← R'.rs.len, List.getElem?_append_right (Nat.le_refl _)]
      simp
    cases ow with
    | lst hl r =>
      simp only [DR.bind] at h
      split at h
      · rename_i hp
        exact fin _ (.lst hl (RepL.mono (Gr.refl _) ⟨[a], rfl⟩ (fun _ _ z => z) (RepL.free r hp))) h
      · exact h.elim
    | dct hl r =>
      simp only [DR.bind] at h
      split at h
      · rename_i hp
        exact fin _ (.dct hl (RepK.mono (Gr.refl _) ⟨[a], rfl⟩ (fun _ _ z => z) (RepK.free r hp))) h
      · exact h.elim
    | dtt hl r => exact h.elim
  | exc c fs s' => rw [q] at h; exact h
  | bad => rw [q] at h; exact h

/-! ### displays -/
theorem none_of (e : Ste θ S H θ' S' H') {a : Addr} (n : H' a = none) : H a = none := by
  cases q : H a with
  | none => rfl
  | some u => exact absurd n (e.al a (by rw [q]; simp))
theorem RS.noS {K : PySem.W.Frag} {mu : List SO} {a : Addr} (r : RS K G θ S H mu) (n : H a = none) : S a = none ∧ a ∉ θ := by
  refine ⟨?_, fun z => ?_⟩
  · cases q : S a with
    | none => rfl
    | some u => rw [r.same a u q] at n; cases n
  · obtain ⟨u, hu, _⟩ := r.there z
    rw [hu] at n; cases n
theorem sf_lst {es : List Expr} {is : IEs} (h : PA X es (tDs X G En C0 W (evs Φ is))) : PE X (.List es pos) (tFr X G En C0 W (ev Φ (.lst is))) :=
  (pe_lst h).wk fun σ H Q ⟨θ, S, s, R, h⟩ => by
    refine ⟨θ, S, s, R, (PostR.bind h).imp fun x s1 θ1 S1 H1 _ e1 R1 h1 v rv => ?_⟩
    split at h1
    · rename_i hz
      rw [rv.length] at hz
      refine ⟨sz hz, fun p np => ?_⟩
      obtain ⟨ns, nt⟩ := R1.rs.noS np
      exact h1 θ1 S1 _ (Ste.junk np) (R1.step (Ste.junk np) (R1.rs.junk np)) p ⟨none_of e1 np, ns, nt, .lst upd_same rv⟩
    · exact h1.elim
theorem RepK.any {K : PySem.W.Frag} {C : Cells} {k : Key} : ∀ {x : List (Key × PV)} {v : List (Key × V)}, RepK K G.toFT C θ S x v → (x.any fun kv => decide (kv.1 = k)) = v.any fun kv => decide (kv.1 = k)
  | _, _, .nil => rfl
  | _, _, .cons _ r => by simp only [List.any_cons, RepK.any r]
theorem RepK.map {K : PySem.W.Frag} {C : Cells} {k : Key} {p : PV} {u : V} (h : RepV K G.toFT C θ S p u) : ∀ {x : List (Key × PV)} {v : List (Key × V)}, RepK K G.toFT C θ S x v →
    RepK K G.toFT C θ S (x.map fun kv => if kv.1 = k then (kv.1, p) else kv) (v.map fun kv => if kv.1 = k then (kv.1, u) else kv)
  | _, _, .nil => .nil
  | _, _, .cons (k := j) q r => by
    simp only [List.map_cons]
    by_cases e : j = k
    · simp only [e, if_true]; exact .cons h (RepK.map h r)
    · simp only [e, if_false]; exact .cons q (RepK.map h r)
theorem RepK.snoc {K : PySem.W.Frag} {C : Cells} {k : Key} {p : PV} {u : V} (h : RepV K G.toFT C θ S p u) : ∀ {x : List (Key × PV)} {v : List (Key × V)}, RepK K G.toFT C θ S x v → RepK K G.toFT C θ S (x ++ [(k, p)]) (v ++ [(k, u)])
  | _, _, .nil => .cons h .nil
  | _, _, .cons q r => .cons q (RepK.snoc h r)
theorem RepK.put {K : PySem.W.Frag} {C : Cells} {k : Key} {p : PV} {u : V} {x : List (Key × PV)} {v : List (Key × V)} (h : RepV K G.toFT C θ S p u) (r : RepK K G.toFT C θ S x v) : RepK K G.toFT C θ S (TL.put k p x) (putK v k u) := by
  unfold TL.put putK
  rw [r.any]
  split
  · exact r.map h
  · exact r.snoc h
theorem RepK.merge {K : PySem.W.Frag} {C : Cells} : ∀ {y : List (Key × PV)} {w : List (Key × V)} {x : List (Key × PV)} {v : List (Key × V)}, RepK K G.toFT C θ S y w → RepK K G.toFT C θ S x v → RepK K G.toFT C θ S (mergeP x y) (mergeK v w)
  | _, _, _, _, .nil, r => r
  | _, _, _, _, .cons (k := k) h q, r => by
    have := RepK.merge q (r.put (k := k) h)
    exact this
/-- the pairs of a display -/
inductive DPs (X : Cx) (G : GT) (En : Ent) (C0 : Cells) (W : WX) (Φ : Phi) : List (Option Expr) → List Expr → IEs → List (TE × TE) → Prop where
  | nil : DPs X G En C0 W Φ [] [] .nil []
  | cons {k v : Expr} {ks vs ik iv is trs} : PE X k (tD X G En C0 W (ev Φ ik)) → PE X v (tD X G En C0 W (ev Φ iv)) → DPs X G En C0 W Φ ks vs is trs →
      DPs X G En C0 W Φ (some k :: ks) (v :: vs) (.cons ik (.cons iv is)) ((tD X G En C0 W (ev Φ ik), tD X G En C0 W (ev Φ iv)) :: trs)
theorem DPs.pps {ks vs is trs} (h : DPs X G En C0 W Φ ks vs is trs) : PPs X pos ks vs trs := by
  induction h with
  | nil => exact pps_nil
  | cons h k _ ih => exact pps_cons h k ih
theorem DPs.len {ks vs is trs} (h : DPs X G En C0 W Φ ks vs is trs) : ks.length = vs.length := by
  induction h with
  | nil => rfl
  | cons h k _ ih => simp [ih]
theorem DPs.all {ks vs is trs} (h : DPs X G En C0 W Φ ks vs is trs) : ks.all (·.isSome) = true := by
  induction h with
  | nil => rfl
  | cons h k _ ih => simp [ih]
theorem DPs.some {ks vs is trs} (h : DPs X G En C0 W Φ ks vs is trs) {ps kvs} (hp : pairsOf ps = some kvs) {s s' : DS} (e : evs Φ is s = .ok ps s') : kvs.length = ks.length := by
  induction h generalizing ps kvs s s' with
  | nil => cases e; cases hp; rfl
  | @cons k v ks vs ik iv is trs _ _ _ ih =>
    unfold evs at e
    cases q : ev Φ ik s with
    | ok x s1 =>
      rw [q] at e
      simp only [DR.bind] at e
      unfold evs at e
      cases q2 : ev Φ iv s1 with
      | ok y s2 =>
        rw [q2] at e
        simp only [DR.bind] at e
        cases q3 : evs Φ is s2 with
        | ok z s3 =>
          rw [q3] at e
          simp only [DR.bind] at e
          cases e
          simp only [pairsOf] at hp
          split at hp
          · rename_i _ _ k1 k2
            cases hp
            simp [ih k2 q3]
          · cases hp
        | _ => rw [q3] at e; cases e
      | _ => rw [q2] at e; cases e
    | _ => rw [q] at e; cases e
theorem RepL.pairs {K : PySem.W.Frag} {C : Cells} : ∀ {ps : List PV} {vs : List V} {kvs : List (Key × PV)}, RepL K G.toFT C θ S ps vs → pairsOf ps = some kvs → ∃ ws : List (Key × V), RepK K G.toFT C θ S kvs ws ∧ vs = ws.flatMap fun kv => [kV kv.1, kv.2]
  | _, _, _, .nil, h => by cases h; exact ⟨[], .nil, rfl⟩
  | _, _, _, .cons _ .nil, h => by cases h
  | _, _, _, .cons h (.cons k r), e => by
    simp only [pairsOf] at e
    split at e
    · rename_i _ _ e1 e2
      cases e
      obtain ⟨ws, r1, r2⟩ := RepL.pairs r e2
      exact ⟨_ :: ws, .cons k r1, by rw [h.key e1, r2]; rfl⟩
    · cases e
theorem PostR.of {α : Type} {r : DR α} {P : α → DS → List Addr → Hp → Hp → Prop} (h : PostR X G En C0 W θ S H σ r P) (e : Ste θ S H θ' S' H') : PostR X G En C0 W θ' S' H' σ r P := by
  cases r with
  | ok a s => exact fun θ2 S2 H2 e2 R => h θ2 S2 H2 (e.trans e2) R
  | exc c fs s => exact fun θ2 S2 H2 cls d e2 R => h θ2 S2 H2 cls d (e.trans e2) R
  | bad => exact h
theorem Rel.rewrite {u : HO} (R0 : Rel X G En C0 θ S H s σ) (le : LeS s s') (R : Rel X G En C0 θ' S' H' s' σ) (n0 : H a = none) (ns : S' a = none) (nt : a ∉ θ') (h : H' a = some u) (hu : ∀ ps, u ≠ .tbl ps) (hx : ∀ φ, u ≠ .ext φ) : Rel X G En C0 θ' S' (upd H' a o) s' σ where
  rs := R.rs.rewrite ns nt h hu hx
  en := R.en.rewrite (none_of R0.en n0) ns nt h
  c0 := R.c0
  len := R.len
  len2 := R.len2
  slot := R.slot
  own := fun i hi => by
    obtain ⟨p, b, h1, h2, h3, h4, h5, h6⟩ := R.own i hi
    obtain ⟨u, hu1, _⟩ := R0.ownThere (i := i) (by rw [← le.2.2]; exact hi) h2
    have hb : b ≠ a := fun z => by rw [z, n0] at hu1; cases hu1
    exact ⟨p, b, h1, h2, h3, h4, h5, h6.mono (Gr.refl _) (Pre.refl _) (fun _ _ z => z) fun o z _ => by rw [upd_ne hb]; exact z⟩
  dis := R.dis
  fxd := R.fxd
theorem DPs.run {ks vs is trs} (h : DPs X G En C0 W Φ ks vs is trs) : ∀ {θ S H s} {Q : List (V × V) → Hp → Prop}, Rel X G En C0 θ S H s σ →
    PostR X G En C0 W θ S H σ (evs Φ is s) (fun xs s' θ' S' H' => ∀ prs : List (V × V), RepL X.K G.toFT (CC X C0 σ s'.cap) θ' S' xs (prs.flatMap fun p => [p.1, p.2]) → Q prs H') → tPairs trs σ H Q := by
  induction h with
  | nil => exact fun {θ S H s Q} R h => h θ S H (Ste.refl _ _ _) R [] .nil
  | @cons k v ks vs ik iv is trs _ _ _ ih =>
    intro θ S H s Q R h
    unfold evs at h
    refine ⟨θ, S, s, R, (PostR.bind h).imp fun x s1 θ1 S1 H1 q1 e1 R1 h1 u ru => ?_⟩
    unfold evs at h1
    refine ⟨θ1, S1, s1, R1, (PostR.bind (PostR.bind h1)).imp fun y s2 θ2 S2 H2 q2 e2 R2 h2 v rv => ?_⟩
    refine ih R2 ((PostR.bind h2).imp fun xs s3 θ3 S3 H3 q3 e3 R3 h3 prs rp => ?_)
    have h4 := h3 θ3 S3 H3 (Ste.refl _ _ _) R3
    have g3 := evs_grow Φ is s2 xs s3 q3
    have g2 := ev_grow Φ iv s1 y s2 q2
    refine h4 θ3 S3 H3 (Ste.refl _ _ _) R3 ((u, v) :: prs) (.cons (RepV.mono (e2.trans e3).sS (e2.trans e3).pre (CC.mono (g2.trans g3).1) ru) (.cons (RepV.mono e3.sS e3.pre (CC.mono g3.1) rv) rp))
theorem sf_dict0 : PE X (.Dict [] [] pos) (tFr X G En C0 W (ev Φ (.dict .nil))) :=
  pe_dnewK.wk fun σ H Q ⟨θ, S, s, R, h⟩ p np => by
    have h := PostR.bind h
    have h1 := h θ S H (Ste.refl _ _ _) R
    obtain ⟨ns, nt⟩ := R.rs.noS np
    exact h1 θ S _ (Ste.junk np) (R.step (Ste.junk np) (R.rs.junk np)) p ⟨np, ns, nt, .dct upd_same .nil⟩
theorem flat_inj {kvs ws : List (V × V)} : (kvs.flatMap fun p => [p.1, p.2]) = (ws.flatMap fun p => [p.1, p.2]) → kvs = ws := by
  induction kvs generalizing ws with
  | nil => cases ws with
    | nil => intro; rfl
    | cons => intro h; simp at h
  | cons a r ih => cases ws with
    | nil => intro h; simp at h
    | cons b r2 =>
      intro h
      simp only [List.flatMap_cons, List.cons_append, List.nil_append, List.cons.injEq] at h
      obtain ⟨h1, h2, h3⟩ := h
      rw [ih h3, Prod.ext h1 h2]
theorem sf_dict {ks vs is trs} (h : DPs X G En C0 W Φ ks vs is trs) (h0 : ks ≠ []) (h15 : ks.length ≤ 15) : PE X (.Dict ks vs pos) (tFr X G En C0 W (ev Φ (.dict is))) :=
  (pe_disp h.pps h.all h.len h0 h15).wk fun σ H Q ⟨θ, S, s, R, hp⟩ p np => by
    have st := Ste.junk (θ := θ) (S := S) (o := .dK []) np
    refine h.run (R.step st (R.rs.junk np)) (((PostR.bind hp).of st).imp fun xs s1 θ1 S1 H1 q1 e1 R1 h1 prs rp => ?_)
    obtain ⟨ns, nt⟩ := R.rs.noS np
    have hp1 : H1 p = some (.dK []) := (e1.kp p _ upd_same nt (fun _ z => by cases z)).elim id fun z => by rw [ns] at z; cases z.1
    have ns1 : S1 p = none := by
      cases q : S1 p with
      | none => rfl
      | some u =>
        have := e1.frz p ns (by rw [q]; simp)
        rw [upd_same] at this; cases this
    have nt1 : p ∉ θ1 := fun z => by
      have := e1.new p z nt
      rw [upd_same] at this; cases this
    refine ⟨hp1, ?_⟩
    unfold ev at hp
    rw [q1] at hp
    simp only [DR.bind] at hp
    clear h1
    cases q : pairsOf xs with
    | none => rw [q] at hp; exact hp.elim
    | some kvs =>
      rw [q] at hp
      simp only [Option.bind_some] at hp
      split at hp
      · rename_i hl
        obtain ⟨ws, r1, r2⟩ := rp.pairs q
        have e : prs = ws.map fun kv => (kV kv.1, kv.2) := flat_inj (by rw [r2, List.flatMap_map])
        refine ⟨ws, e, by rw [← r1.length]; exact hl, ?_⟩
        have e0 : Ste θ S H θ1 S1 H1 := st.trans e1
        have le := evs_grow Φ is s xs s1 q1
        refine hp θ1 S1 _ (Ste.rewrite np e0 ns1 nt1 hp1) (Rel.rewrite R le R1 np ns1 nt1 hp1 (fun _ z => by cases z) (fun _ z => by cases z)) p ⟨np, ns1, nt1, .dct upd_same (RepK.merge r1 .nil)⟩
      · exact hp.elim
end
end TL

set_option linter.all false
set_option maxRecDepth 100000
/-! TLIter: enumerate, zip over lists and tuples in any mix, as iterators of the hand layer. Own work. -/
namespace TL
open PySem PySem.Spec PyProof.Rows L2
/-- a list (true), a tuple (false) -/
def SqK (K : PySem.W.Frag) (k : Bool) (H : Hp) (a : Addr) (xs : List V) : Prop := match k with
  | true => SqL K H a xs
  | false => SqT K H a xs
def SIter (k : Bool) (h : Heap) (it a : Addr) (i : Nat) : Prop := match k with
  | true => h.IsListIter it a i
  | false => h.IsTupleIter it a i
def SIs (k : Bool) (h : Heap) (a : Addr) (its : Array Value) : Prop := match k with
  | true => h.IsList a its
  | false => h.IsTuple a its
def srcO (k : Bool) (a : Addr) : Obj := match k with
  | true => { cls := .type "list_iterator", data := .fields #[.ref a, .int 0 0] }
  | false => { cls := .type "tuple_iterator", data := .fields #[.ref a, .int 0 0] }
theorem begins_src (k : Bool) (a : Addr) (its : Array Value) : Begins (.ref a) (srcO k a) fun h => SIs k h a its := by
  cases k
  · exact begins_tuple a its
  · exact begins_list a its
theorem draws_src {P : Program} {w : World} {A : Around} (k : Bool) (hh : A.handled = none) (it a : Addr) (hne : a ≠ it) (its : Array Value) :
    Draws P w A it [it, a] its.size (fun i v => its[i]? = some v) (fun i h => SIter k h it a i ∧ SIs k h a its) := by
  cases k
  · exact Draws.tuple hh it a hne its
  · exact Draws.list hh it a hne its
theorem SIter.lt {k : Bool} {h : Heap} {it a : Addr} {i : Nat} (x : SIter k h it a i) : ∃ o, h.get? it = some o ∧ ∀ v, o.data ≠ .cell v := by
  cases k <;> (obtain ⟨o, e, _, d⟩ := x; exact ⟨o, e, fun v q => by rw [d] at q; cases q⟩)
theorem SIter.at {k : Bool} {h h' : Heap} {it a : Addr} {i : Nat} (x : SIter k h it a i) (e : ∀ o, h.get? it = some o → h'.get? it = some o) : SIter k h' it a i := by
  cases k <;> (obtain ⟨o, z, c, d⟩ := x; exact ⟨o, e o z, c, d⟩)
theorem SIter.new {k : Bool} {h : Heap} {it a : Addr} (e : h.get? it = some (srcO k a)) : SIter k h it a 0 := by
  cases k <;> exact ⟨_, e, rfl, rfl⟩
theorem SIs.lt {k : Bool} {h : Heap} {a : Addr} {its : Array Value} (x : SIs k h a its) : a < h.objs.size := by
  cases k <;> (obtain ⟨o, z, _⟩ := x; exact Heap.lt_size z)
section
variable {X : Cx} {pins : List (Addr × Obj)} {σ : L2.St} {H : Hp} {s : Shared} {k : Bool} {a : Addr} {xs ys : List V}
theorem inv_srcs (I : Inv X pins σ H s) (h : SqK X.K k H a xs) : ∃ its : List Value, Vals xs its ∧ SIs k s.heap a its.toArray := by
  cases k
  · obtain ⟨its, rv, p, _⟩ := I.tuple h
    exact ⟨its, rv, show s.heap.IsTuple a its.toArray from p⟩
  · obtain ⟨its, rv, p, _⟩ := I.list h
    exact ⟨its, rv, p.isList⟩
theorem inv_src_inj (I : Inv X pins σ H s) (h : SqK X.K k H a xs) (h' : SqK X.K k H a ys) : xs = ys := by
  cases k
  · exact I.tuple_inj h h'
  · exact I.list_inj h h'
end
def ItE (K : PySem.W.Frag) (k : Bool) (a : Addr) : It :=
  ⟨fun i H => ∃ (xs : List V) (x : V), SqK K k H a xs ∧ xs[i]? = some x, fun i H v H' => ∃ T x, v = .ref T ∧ H T = none ∧ H' = upd H T (.tup [.int (i : Nat), x]) ∧ ∀ xs, SqK K k H a xs → xs[i]? = some x,
    fun i H => ∃ xs : List V, SqK K k H a xs ∧ xs.length = i⟩
def ItZ (K : PySem.W.Frag) (k : Bool) (a : Addr) (l : Bool) (b : Addr) : It :=
  ⟨fun i H => ∃ (xs ys : List V) (x y : V), SqK K k H a xs ∧ SqK K l H b ys ∧ xs[i]? = some x ∧ ys[i]? = some y,
    fun i H v H' => ∃ T x y, v = .ref T ∧ H T = none ∧ H' = upd H T (.tup [x, y]) ∧ (∀ xs, SqK K k H a xs → xs[i]? = some x) ∧ ∀ ys, SqK K l H b ys → ys[i]? = some y,
    fun i H => ∃ xs ys : List V, SqK K k H a xs ∧ SqK K l H b ys ∧ min xs.length ys.length = i⟩
def ItW (K : PySem.W.Frag) (k : Bool) (a : Addr) (l : Bool) (b : Addr) (m : Bool) (c : Addr) : It :=
  ⟨fun i H => ∃ (xs ys zs : List V) (x y z : V), SqK K k H a xs ∧ SqK K l H b ys ∧ SqK K m H c zs ∧ xs[i]? = some x ∧ ys[i]? = some y ∧ zs[i]? = some z,
    fun i H v H' => ∃ T x y z, v = .ref T ∧ H T = none ∧ H' = upd H T (.tup [x, y, z]) ∧ (∀ xs, SqK K k H a xs → xs[i]? = some x) ∧ (∀ ys, SqK K l H b ys → ys[i]? = some y) ∧ ∀ zs, SqK K m H c zs → zs[i]? = some z,
    fun i H => ∃ xs ys zs : List V, SqK K k H a xs ∧ SqK K l H b ys ∧ SqK K m H c zs ∧ min (min xs.length ys.length) zs.length = i⟩
theorem toA {its : List Value} {i : Nat} {u : Value} (h : its[i]? = some u) : its.toArray[i]? = some u := by simpa using h
theorem turn_E {P : Program} {w : World} {K : PySem.W.Frag} {elts : List Expr} {kk : Nat} {tpos : Pos} {k : Bool} {a e it : Addr} (hne : a ≠ it) (hei : e ≠ it) (hea : e ≠ a) :
    Turn P w K (.Tuple elts kk tpos) (ItE K k a) [e, it] e (fun i h => (∃ old, IsEnum h e it (0 + ((i : Nat) : Int)) old) ∧ SIter k h it a i) where
  mem := by simp
  obj := fun i h st b hb => by
    obtain ⟨⟨old, he⟩, h2⟩ := st
    have e' : b = e ∨ b = it := by simpa using hb
    rcases e' with z | z
    · rw [z]; exact ⟨_, he, fun v q => nomatch q⟩
    · rw [z]; exact h2.lt
  keep := fun i h h' st kp => let ⟨⟨old, he⟩, hi⟩ := st; ⟨⟨old, kp e (by simp) _ he⟩, hi.at fun o q => kp it (by simp) o q⟩
  item := by
    intro X hP hw hK hc i pins s σ H E I hf st hg
    subst hP hw hK
    obtain ⟨⟨old, he⟩, hit⟩ := st
    obtain ⟨xs, x, hq, hx⟩ := hg
    obtain ⟨its, rv, p⟩ := inv_srcs I hq
    obtain ⟨u, hu, ru⟩ := rv.get hx
    have hil : i < its.toArray.size := by
      have := (List.getElem?_eq_some_iff.mp hu).1
      simpa using this
    have W := GoesN.enumFrom (elts := elts) (x1 := kk) (pos := tpos) 0 (draws_src (P := X.prog) (w := X.w) (A := X.A.in1) k (I.ok.hd hc) it a hne its.toArray) e hei (by simp [hei, hea]) (by simp)
    refine W.goes i s _ E hil ⟨⟨old, he⟩, hit, p⟩ fun v h' tk hY st' hk htk => ?_
    obtain ⟨T, t, xv, ev, hT, hxv, hTup⟩ := hY
    subst ev
    have exv : xv = u := by
      have := toA hu
      rw [hxv] at this
      exact Option.some.inj this
    subst exv
    have new : ObjOk X.prog X.w (upd H T (.tup [.int (i : Nat), x])) h' T (.tup [.int (i : Nat), x]) :=
      ⟨by show 2 ≤ sizeLine; decide, [.int (0 + (i : Int)) t, xv], .cons ⟨t, by rw [Int.zero_add]⟩ (.cons ru .nil), hTup⟩
    have I1 : Inv X pins σ (upd H T (.tup [.int (i : Nat), x])) { s with heap := h', toks := tk } := I.turnedNew (t' := tk) (ch := [e, it]) hk hf hT new
    refine ⟨.ref T, _, I1, rfl, ⟨_, x, rfl, I.hok.fresh hT, rfl, fun ys hy => by rw [inv_src_inj I hy hq]; exact hx⟩, ⟨st'.1, st'.2.1⟩, fun b hb => ?_⟩
    have hb' : b < s.heap.objs.size := by
      have e' : b = e ∨ b = it := by simpa using hb
      rcases e' with z | z
      · rw [z]; exact Heap.lt_size he
      · rw [z]; obtain ⟨_, q, _⟩ := hit.lt; exact Heap.lt_size q
    rw [upd_ne (Nat.ne_of_lt (Nat.lt_of_lt_of_le hb' hT))]
    exact (hf b hb).1
  done := by
    intro X hP hw hK hc i pins s σ H E I hf st hg
    subst hP hw hK
    obtain ⟨⟨old, he⟩, hit⟩ := st
    obtain ⟨xs, hq, hx⟩ := hg
    obtain ⟨its, rv, p⟩ := inv_srcs I hq
    have hl := rv.length
    have W := GoesN.enumFrom (elts := elts) (x1 := kk) (pos := tpos) 0 (draws_src (P := X.prog) (w := X.w) (A := X.A.in1) k (I.ok.hd hc) it a hne its.toArray) e hei (by simp [hei, hea]) (by simp)
    have ei : its.toArray.size = i := by simp; omega
    subst ei
    refine W.stops s (fun s1 => Inv X pins σ H s1) E ⟨⟨old, he⟩, hit, p⟩ fun h' tk hk htk => ?_
    exact I.turnedL (t' := tk) (ch := [e, it]) hk hf
  self := fun A i s Q E st h => let ⟨⟨_, he⟩, _⟩ := st; wpAny_pyIter_enum he h
theorem turn_Z {P : Program} {w : World} {K : PySem.W.Frag} {elts : List Expr} {kk : Nat} {tpos : Pos} {k l : Bool} {a b z TI TO i1 i2 : Addr} (D : ZipSep2 z TI TO i1 i2 [i1, a] [i2, b]) (ha : a ≠ i1) (hb : b ≠ i2) :
    Turn P w K (.Tuple elts kk tpos) (ItZ K k a l b) [z, TI, TO, i1, i2] z (fun i h => IsZip h z TI TO .none ∧ IsTupOf2 h TI (.ref i1) (.ref i2) ∧ (∃ a1 a2, IsTupOf2 h TO a1 a2) ∧ SIter k h i1 a i ∧ SIter l h i2 b i) where
  mem := by simp
  obj := fun i h st c hc => by
    obtain ⟨hz, hTI, ⟨x, y, hTO⟩, h1, h2⟩ := st
    have e' : c = z ∨ c = TI ∨ c = TO ∨ c = i1 ∨ c = i2 := by simpa using hc
    rcases e' with q | q | q | q | q
    · rw [q]; exact ⟨_, hz, fun v q => nomatch q⟩
    · rw [q]; exact ⟨_, hTI, fun v q => nomatch q⟩
    · rw [q]; exact ⟨_, hTO, fun v q => nomatch q⟩
    · rw [q]; exact h1.lt
    · rw [q]; exact h2.lt
  keep := fun i h h' st k => by
    obtain ⟨hz, hTI, ⟨x, y, hTO⟩, h1, h2⟩ := st
    exact ⟨k z (by simp) _ hz, k TI (by simp) _ hTI, ⟨x, y, k TO (by simp) _ hTO⟩, h1.at fun o q => k i1 (by simp) o q, h2.at fun o q => k i2 (by simp) o q⟩
  item := by
    intro X hP hw hK hc i pins s σ H E I hf st hg
    subst hP hw hK
    obtain ⟨hz, hTI, hTO, h1, h2⟩ := st
    obtain ⟨xs, ys, x, y, hqx, hqy, hx, hy⟩ := hg
    obtain ⟨its, rv, p⟩ := inv_srcs I hqx
    obtain ⟨its2, rv2, p2⟩ := inv_srcs I hqy
    obtain ⟨u, hu, ru⟩ := rv.get hx
    obtain ⟨u2, hu2, ru2⟩ := rv2.get hy
    have l1 := (List.getElem?_eq_some_iff.mp hu).1
    have l2 := (List.getElem?_eq_some_iff.mp hu2).1
    have W := GoesN.zip2 (elts := elts) (x1 := kk) (pos := tpos) D (draws_src (P := X.prog) (w := X.w) (A := X.A.in1) k (I.ok.hd hc) i1 a ha its.toArray) (draws_src (P := X.prog) (w := X.w) (A := X.A.in1) l (I.ok.hd hc) i2 b hb its2.toArray)
    refine W.goes i s _ E (by simp; omega) ⟨hz, hTI, hTO, ⟨h1, p⟩, ⟨h2, p2⟩⟩ fun v h' tk hY st' hk htk => ?_
    obtain ⟨T, xv, yv, ev, hT, hxv, hyv, hTup⟩ := hY
    subst ev
    have exv : xv = u := Option.some.inj (hxv.symm.trans (toA hu))
    have eyv : yv = u2 := Option.some.inj (hyv.symm.trans (toA hu2))
    subst exv; subst eyv
    have new : ObjOk X.prog X.w (upd H T (.tup [x, y])) h' T (.tup [x, y]) := ⟨by show 2 ≤ sizeLine; decide, [xv, yv], .cons ru (.cons ru2 .nil), hTup⟩
    have I1 : Inv X pins σ (upd H T (.tup [x, y])) { s with heap := h', toks := tk } := I.turnedNew (t' := tk) (ch := [z, TI, TO, i1, i2])
      (fun b o hb => hk b o fun q => hb (by simp at q ⊢; rcases q with q | q | q | q <;> simp [q])) hf hT new
    refine ⟨.ref T, _, I1, rfl, ⟨_, x, y, rfl, I.hok.fresh hT, rfl, fun ys hy => by rw [inv_src_inj I hy hqx]; exact hx, fun ys' hy' => by rw [inv_src_inj I hy' hqy]; exact hy⟩, ⟨st'.1, st'.2.1, st'.2.2.1, st'.2.2.2.1.1, st'.2.2.2.2.1⟩, fun c hcm => ?_⟩
    obtain ⟨x0, y0, hTO⟩ := hTO
    have hlt : c < s.heap.objs.size := by
      have e' : c = z ∨ c = TI ∨ c = TO ∨ c = i1 ∨ c = i2 := by simpa using hcm
      rcases e' with q | q | q | q | q
      · rw [q]; exact Heap.lt_size hz
      · rw [q]; exact Heap.lt_size hTI
      · rw [q]; exact Heap.lt_size hTO
      · rw [q]; obtain ⟨_, q, _⟩ := h1.lt; exact Heap.lt_size q
      · rw [q]; obtain ⟨_, q, _⟩ := h2.lt; exact Heap.lt_size q
    rw [upd_ne (Nat.ne_of_lt (Nat.lt_of_lt_of_le hlt hT))]
    exact (hf c hcm).1
  done := by
    intro X hP hw hK hc i pins s σ H E I hf st hg
    subst hP hw hK
    obtain ⟨hz, hTI, hTO, h1, h2⟩ := st
    obtain ⟨xs, ys, hqx, hqy, hend⟩ := hg
    obtain ⟨its, rv, p⟩ := inv_srcs I hqx
    obtain ⟨its2, rv2, p2⟩ := inv_srcs I hqy
    have l1 := rv.length
    have l2 := rv2.length
    have W := GoesN.zip2 (elts := elts) (x1 := kk) (pos := tpos) D (draws_src (P := X.prog) (w := X.w) (A := X.A.in1) k (I.ok.hd hc) i1 a ha its.toArray) (draws_src (P := X.prog) (w := X.w) (A := X.A.in1) l (I.ok.hd hc) i2 b hb its2.toArray)
    have ei : min its.toArray.size its2.toArray.size = i := by simp; omega
    subst ei
    refine W.stops s (fun s1 => Inv X pins σ H s1) E ⟨hz, hTI, hTO, ⟨h1, p⟩, ⟨h2, p2⟩⟩ fun h' tk hk htk => ?_
    exact I.turnedL (t' := tk) (ch := [z, TI, TO, i1, i2]) (fun b o hb => hk b o fun q => hb (by simp at q ⊢; rcases q with q | q | q | q <;> simp [q])) hf
  self := fun A i s Q E st h => wpAny_pyIter_zip st.1 h
theorem turn_W {P : Program} {w : World} {K : PySem.W.Frag} {elts : List Expr} {kk : Nat} {tpos : Pos} {k l m : Bool} {a b c z TI TO i1 i2 i3 : Addr} (D : ZipSep3 z TI TO i1 i2 i3 [i1, a] [i2, b] [i3, c]) (ha : a ≠ i1) (hb : b ≠ i2) (hc : c ≠ i3) :
    Turn P w K (.Tuple elts kk tpos) (ItW K k a l b m c) [z, TI, TO, i1, i2, i3] z (fun i h => IsZip h z TI TO .none ∧ IsTupOf3 h TI (.ref i1) (.ref i2) (.ref i3) ∧ (∃ a1 a2 a3, IsTupOf3 h TO a1 a2 a3) ∧ SIter k h i1 a i ∧ SIter l h i2 b i ∧ SIter m h i3 c i) where
  mem := by simp
  obj := fun i h st c hc => by
    obtain ⟨hz, hTI, ⟨x, y, u, hTO⟩, h1, h2, h3⟩ := st
    have e' : c = z ∨ c = TI ∨ c = TO ∨ c = i1 ∨ c = i2 ∨ c = i3 := by simpa using hc
    rcases e' with q | q | q | q | q | q
    · rw [q]; exact ⟨_, hz, fun v q => nomatch q⟩
    · rw [q]; exact ⟨_, hTI, fun v q => nomatch q⟩
    · rw [q]; exact ⟨_, hTO, fun v q => nomatch q⟩
    · rw [q]; exact h1.lt
    · rw [q]; exact h2.lt
    · rw [q]; exact h3.lt
  keep := fun i h h' st k => by
    obtain ⟨hz, hTI, ⟨x, y, u, hTO⟩, h1, h2, h3⟩ := st
    exact ⟨k z (by simp) _ hz, k TI (by simp) _ hTI, ⟨x, y, u, k TO (by simp) _ hTO⟩, h1.at fun o q => k i1 (by simp) o q, h2.at fun o q => k i2 (by simp) o q, h3.at fun o q => k i3 (by simp) o q⟩
  item := by
    intro X hP hw hK hcm i pins s σ H E I hf st hg
    subst hP hw hK
    obtain ⟨hz, hTI, hTO, h1, h2, h3⟩ := st
    obtain ⟨xs, ys, zs, x, y, zz, hqx, hqy, hqz, hx, hy, hzz⟩ := hg
    obtain ⟨its, rv, p⟩ := inv_srcs I hqx
    obtain ⟨its2, rv2, p2⟩ := inv_srcs I hqy
    obtain ⟨its3, rv3, p3⟩ := inv_srcs I hqz
    obtain ⟨u, hu, ru⟩ := rv.get hx
    obtain ⟨u2, hu2, ru2⟩ := rv2.get hy
    obtain ⟨u3, hu3, ru3⟩ := rv3.get hzz
    have l1 := (List.getElem?_eq_some_iff.mp hu).1
    have l2 := (List.getElem?_eq_some_iff.mp hu2).1
    have l3 := (List.getElem?_eq_some_iff.mp hu3).1
    have W := GoesN.zip3 (elts := elts) (x1 := kk) (pos := tpos) D (draws_src (P := X.prog) (w := X.w) (A := X.A.in1) k (I.ok.hd hcm) i1 a ha its.toArray) (draws_src (P := X.prog) (w := X.w) (A := X.A.in1) l (I.ok.hd hcm) i2 b hb its2.toArray) (draws_src (P := X.prog) (w := X.w) (A := X.A.in1) m (I.ok.hd hcm) i3 c hc its3.toArray)
    refine W.goes i s _ E (by simp; omega) ⟨hz, hTI, hTO, ⟨h1, p⟩, ⟨h2, p2⟩, ⟨h3, p3⟩⟩ fun v h' tk hY st' hk htk => ?_
    obtain ⟨T, xv, yv, zv, ev, hT, hxv, hyv, hzv, hTup⟩ := hY
    subst ev
    have exv : xv = u := Option.some.inj (hxv.symm.trans (toA hu))
    have eyv : yv = u2 := Option.some.inj (hyv.symm.trans (toA hu2))
    have ezv : zv = u3 := Option.some.inj (hzv.symm.trans (toA hu3))
    subst exv; subst eyv; subst ezv
    have new : ObjOk X.prog X.w (upd H T (.tup [x, y, zz])) h' T (.tup [x, y, zz]) := ⟨by show 3 ≤ sizeLine; decide, [xv, yv, zv], .cons ru (.cons ru2 (.cons ru3 .nil)), hTup⟩
    have I1 : Inv X pins σ (upd H T (.tup [x, y, zz])) { s with heap := h', toks := tk } := I.turnedNew (t' := tk) (ch := [z, TI, TO, i1, i2, i3])
      (fun b o hb => hk b o fun q => hb (by simp at q ⊢; rcases q with q | q | q | q | q <;> simp [q])) hf hT new
    refine ⟨.ref T, _, I1, rfl, ⟨_, x, y, zz, rfl, I.hok.fresh hT, rfl, fun ys hy => by rw [inv_src_inj I hy hqx]; exact hx, fun ys' hy' => by rw [inv_src_inj I hy' hqy]; exact hy, fun ys' hy' => by rw [inv_src_inj I hy' hqz]; exact hzz⟩,
      ⟨st'.1, st'.2.1, st'.2.2.1, st'.2.2.2.1.1, st'.2.2.2.2.1.1, st'.2.2.2.2.2.1⟩, fun c hcm => ?_⟩
    obtain ⟨x0, y0, z0, hTO⟩ := hTO
    have hlt : c < s.heap.objs.size := by
      have e' : c = z ∨ c = TI ∨ c = TO ∨ c = i1 ∨ c = i2 ∨ c = i3 := by simpa using hcm
      rcases e' with q | q | q | q | q | q
      · rw [q]; exact Heap.lt_size hz
      · rw [q]; exact Heap.lt_size hTI
      · rw [q]; exact Heap.lt_size hTO
      · rw [q]; obtain ⟨_, q, _⟩ := h1.lt; exact Heap.lt_size q
      · rw [q]; obtain ⟨_, q, _⟩ := h2.lt; exact Heap.lt_size q
      · rw [q]; obtain ⟨_, q, _⟩ := h3.lt; exact Heap.lt_size q
    rw [upd_ne (Nat.ne_of_lt (Nat.lt_of_lt_of_le hlt hT))]
    exact (hf c hcm).1
  done := by
    intro X hP hw hK hcm i pins s σ H E I hf st hg
    subst hP hw hK
    obtain ⟨hz, hTI, hTO, h1, h2, h3⟩ := st
    obtain ⟨xs, ys, zs, hqx, hqy, hqz, hend⟩ := hg
    obtain ⟨its, rv, p⟩ := inv_srcs I hqx
    obtain ⟨its2, rv2, p2⟩ := inv_srcs I hqy
    obtain ⟨its3, rv3, p3⟩ := inv_srcs I hqz
    have l1 := rv.length
    have l2 := rv2.length
    have l3 := rv3.length
    have W := GoesN.zip3 (elts := elts) (x1 := kk) (pos := tpos) D (draws_src (P := X.prog) (w := X.w) (A := X.A.in1) k (I.ok.hd hcm) i1 a ha its.toArray) (draws_src (P := X.prog) (w := X.w) (A := X.A.in1) l (I.ok.hd hcm) i2 b hb its2.toArray) (draws_src (P := X.prog) (w := X.w) (A := X.A.in1) m (I.ok.hd hcm) i3 c hc its3.toArray)
    have ei : min (min its.toArray.size its2.toArray.size) its3.toArray.size = i := by simp; omega
    subst ei
    refine W.stops s (fun s1 => Inv X pins σ H s1) E ⟨hz, hTI, hTO, ⟨h1, p⟩, ⟨h2, p2⟩, ⟨h3, p3⟩⟩ fun h' tk hk htk => ?_
    exact I.turnedL (t' := tk) (ch := [z, TI, TO, i1, i2, i3]) (fun b o hb => hk b o fun q => hb (by simp at q ⊢; rcases q with q | q | q | q | q <;> simp [q])) hf
  self := fun A i s Q E st h => wpAny_pyIter_zip st.1 h
end TL

set_option linter.all false
set_option maxRecDepth 100000
set_option maxHeartbeats 1000000
/-! TLZipL: list(zip(a, b)) of lists; several new objects at once. Own work. -/
namespace TL
open PySem PySem.Spec PyProof.Rows L2
def ZSt (h : Heap) (z TI TO i1 i2 l1 l2 S : Addr) (xs ys : Array Value) (i : Nat) : Prop :=
  IsPair h TI (.ref i1) (.ref i2) ∧ h.IsListIter i1 l1 i ∧ h.IsListIter i2 l2 i ∧ h.IsList l1 xs ∧ h.IsList l2 ys ∧
    ((IsZip h z TI TO .none ∧ ∃ a b, IsPair h TO a b) ∨ ∃ T f oT, PySem.IsZipHeld h z TI TO T f ∧ h.get? T = some oT ∧ T ≠ z ∧ T ≠ i1 ∧ T ≠ i2 ∧ T ≠ S)
theorem ZSt.keep {h h' : Heap} {z TI TO i1 i2 l1 l2 S : Addr} {xs ys : Array Value} {i : Nat} (x : ZSt h z TI TO i1 i2 l1 l2 S xs ys i) (hS : S ∉ [z, TI, TO, i1, i2, l1, l2]) (hk : ∀ b o, b ≠ S → h.get? b = some o → h'.get? b = some o) : ZSt h' z TI TO i1 i2 l1 l2 S xs ys i := by
  simp only [List.mem_cons, List.not_mem_nil, or_false, not_or] at hS
  obtain ⟨dz, dTI, dTO, di1, di2, dl1, dl2⟩ := hS
  obtain ⟨hTI, h1, h2, hl1, hl2, hz⟩ := x
  refine ⟨hk _ _ (Ne.symm dTI) hTI, h1.at fun o e => hk _ o (Ne.symm di1) e, h2.at fun o e => hk _ o (Ne.symm di2) e, hl1.at fun o e => hk _ o (Ne.symm dl1) e, hl2.at fun o e => hk _ o (Ne.symm dl2) e, ?_⟩
  rcases hz with ⟨hz, a, b, hTO⟩ | ⟨T, f, oT, hz, hT, r1, r2, r3, r4⟩
  · exact .inl ⟨hk _ _ (Ne.symm dz) hz, a, b, hk _ _ (Ne.symm dTO) hTO⟩
  · exact .inr ⟨T, f, oT, hk _ _ (Ne.symm dz) hz, hk _ _ r4 hT, r1, r2, r3, r4⟩
section
variable {prog : Program} {w : World} {A : Around} {E : Value → Shared → Prop} {s : Shared} {z TI TO i1 i2 l1 l2 S : Addr} {xs ys : Array Value} {i : Nat}
theorem zl_item {x y : Value} {Q : Option Value → Shared → Prop} (D : ZipApart z TI TO i1 i2 l1 l2) (hst : ZSt s.heap z TI TO i1 i2 l1 l2 S xs ys i) (hS : S < s.heap.objs.size) (hx : xs[i]? = some x) (hy : ys[i]? = some y)
    (hQ : ∀ h', ZSt h' z TI TO i1 i2 l1 l2 S xs ys (i + 1) → IsPair h' s.heap.objs.size x y → h'.objs.size = s.heap.objs.size + 1 → (∀ b o, b ∉ [z, TO, i1, i2] → s.heap.get? b = some o → h'.get? b = some o) → Q (some (.ref s.heap.objs.size)) { s with heap := h' }) :
    wpAny (model prog w) A (pyNext (.ref z)) Q E s := by
  obtain ⟨hTI, h1, h2, hl1, hl2, hz⟩ := hst
  have lt : ∀ {c o}, s.heap.get? c = some o → s.heap.objs.size ≠ c := fun e => Nat.ne_of_gt (Heap.lt_size e)
  have n1 : s.heap.objs.size ≠ i1 := let ⟨_, e, _⟩ := h1; lt e
  have n2 : s.heap.objs.size ≠ i2 := let ⟨_, e, _⟩ := h2; lt e
  rcases hz with ⟨hz, a, b, hTO⟩ | ⟨T, f, oT, hz, hT, r1, r2, r3, r4⟩
  · refine wpAny_pyNext_zip_item D hz hTI hTO h1 h2 hl1 hl2 hx hy fun h' a1 a2 a3 a4 a5 a6 hk => ?_
    exact hQ h' ⟨hk _ _ D.TIz D.TITO D.TIi1 D.TIi2 hTI, a3, a4, hl1.at fun o e => hk _ o D.l1z D.l1TO D.l1i1 D.l1i2 e, hl2.at fun o e => hk _ o D.l2z D.l2TO D.l2i1 D.l2i2 e,
      .inr ⟨s.heap.objs.size, false, _, a1, a5, lt hz, n1, n2, Nat.ne_of_gt hS⟩⟩ a5 a6
      fun c o hc e => hk c o (fun x => hc (by simp [x])) (fun x => hc (by simp [x])) (fun x => hc (by simp [x])) (fun x => hc (by simp [x])) e
  · refine PySem.wpAny_pyNext_zip_item_held D hz hT hTI h1 h2 hl1 hl2 hx hy fun h' a1 a3 a4 a5 a6 hk => ?_
    exact hQ h' ⟨hk _ _ D.TIz D.TIi1 D.TIi2 hTI, a3, a4, hl1.at fun o e => hk _ o D.l1z D.l1i1 D.l1i2 e, hl2.at fun o e => hk _ o D.l2z D.l2i1 D.l2i2 e,
      .inr ⟨T, true, oT, a1, hk _ _ r1 r2 r3 hT, r1, r2, r3, r4⟩⟩ a5 a6
      fun c o hc e => hk c o (fun x => hc (by simp [x])) (fun x => hc (by simp [x])) (fun x => hc (by simp [x])) e
theorem zl_done {Q : Option Value → Shared → Prop} (hh : A.handled = none) (D : ZipApart z TI TO i1 i2 l1 l2) (hst : ZSt s.heap z TI TO i1 i2 l1 l2 S xs ys i) (hend : xs[i]? = none ∨ ys[i]? = none)
    (hQ : ∀ h', (∀ b o, b ∉ [z, TO, i1, i2] → s.heap.get? b = some o → h'.get? b = some o) → Q none { s with heap := h' }) : wpAny (model prog w) A (pyNext (.ref z)) Q E s := by
  obtain ⟨hTI, h1, h2, hl1, hl2, hz⟩ := hst
  rcases hz with ⟨hz, a, b, hTO⟩ | ⟨T, f, oT, hz, hT, r1, r2, r3, r4⟩
  · exact wpAny_pyNext_zip_end hh D hz hTI hTO h1 h2 hl1 hl2 hend fun h' hk => hQ h' fun c o hc e => hk c o (fun x => hc (by simp [x])) (fun x => hc (by simp [x])) (fun x => hc (by simp [x])) (fun x => hc (by simp [x])) e
  · exact PySem.wpAny_pyNext_zip_end_held hh D hz hT hTI h1 h2 hl1 hl2 hend fun h' hk => hQ h' fun c o hc e => hk c o (fun x => hc (by simp [x])) (fun x => hc (by simp [x])) (fun x => hc (by simp [x])) e
end
/-- the pairs that came -/
structure ZG (xs ys : Array Value) (lo : Addr) (h : Heap) (as : List Addr) : Prop where
  rise : as.Pairwise (· < ·)
  above : ∀ a ∈ as, lo ≤ a
  pairs : ∀ (j : Nat) (a : Addr), as[j]? = some a → ∃ x y, xs[j]? = some x ∧ ys[j]? = some y ∧ IsPair h a x y
theorem ZG.there {xs ys : Array Value} {lo : Addr} {h : Heap} {as : List Addr} (g : ZG xs ys lo h as) {a : Addr} (ha : a ∈ as) : a < h.objs.size := by
  obtain ⟨j, hj⟩ := List.mem_iff_getElem?.mp ha
  obtain ⟨_, _, _, _, e⟩ := g.pairs j a hj
  exact Heap.lt_size e
section
variable {prog : Program} {w : World} {A : Around} {s : Shared} {R : Result → Shared → Prop} {z TI TO i1 i2 l1 l2 S : Addr} {xs ys : Array Value}
theorem zl_loop (hh : A.handled = none) (D : ZipApart z TI TO i1 i2 l1 l2) (hS7 : S ∉ [z, TI, TO, i1, i2, l1, l2]) (hn : min xs.size ys.size ≤ sizeLine) (res : Value) {h₁ : Heap} (hlo : ∀ b ∈ [z, TO, i1, i2], b < h₁.objs.size) (hSlo : S < h₁.objs.size)
    (hR : ∀ h' tk acc c as, (∀ b o, b ≠ S → b ∉ [z, TO, i1, i2] → h₁.get? b = some o → h'.get? b = some o) → h'.get? S = some { cls := .type "list", dict := none, data := .seq acc c, slots := #[] } → as.length = min xs.size ys.size → ZG xs ys h₁.objs.size h' as →
      acc.toList = as.map Value.ref → R (.ok (.ret res)) { s with heap := h', toks := tk }) :
    ∀ (k i : Nat) (h : Heap) (tk c : Nat) (acc : Array Value) (as : List Addr), min xs.size ys.size - i = k → i ≤ min xs.size ys.size → ZSt h z TI TO i1 i2 l1 l2 S xs ys i → (∀ b o, b ≠ S → b ∉ [z, TO, i1, i2] → h₁.get? b = some o → h.get? b = some o) →
      h.get? S = some { cls := .type "list", dict := none, data := .seq acc c, slots := #[] } → acc.toList = as.map Value.ref → as.length = i → ZG xs ys h₁.objs.size h as → h₁.objs.size ≤ h.objs.size →
      codeAny (model prog w) A (.builtin "list.extend.loop" ⟨[.ref S, .ref z, res], []⟩) R { s with heap := h, toks := tk } := by
  have hS4 : S ∉ [z, TO, i1, i2] := fun m => hS7 (by simp at m ⊢; rcases m with m | m | m | m <;> simp [m])
  intro k
  induction k with
  | zero =>
    intro i h tk c acc as hk hi hst hkeep hS hacc hal hG hIs
    refine codeAny_builtin PySem.F.entry_extend_loop ?_
    rw [Around.under_plainId PySem.F.plain_extend_loop _]
    show wpAny _ A.in1 (pyNext (.ref z) >>= _) _ _ _
    have he : xs[i]? = none ∨ ys[i]? = none := by
      by_cases h1 : i < xs.size
      · exact .inr (Array.getElem?_eq_none (by omega))
      · exact .inl (Array.getElem?_eq_none (by omega))
    refine wpAny_bind (zl_done (s := { s with heap := h, toks := tk }) (A := A.in1) hh D hst he fun h' hk' => ?_)
    refine wpAny_pure (hR h' tk acc c as (fun b o h1 h2 e => hk' b o h2 (hkeep b o h1 h2 e)) (hk' S _ hS4 hS) (by omega) ⟨hG.rise, hG.above, fun j a hj => ?_⟩ hacc)
    obtain ⟨x, y, e1, e2, e3⟩ := hG.pairs j a hj
    exact ⟨x, y, e1, e2, hk' a _ (fun m => absurd (hlo a m) (Nat.not_lt.mpr (hG.above a (List.mem_of_getElem? hj)))) e3⟩
  | succ k ih =>
    intro i h tk c acc as hk hi hst hkeep hS hacc hal hG hIs
    have hx : xs[i]? = some xs[i] := Array.getElem?_eq_getElem (by omega)
    have hy : ys[i]? = some ys[i] := Array.getElem?_eq_getElem (by omega)
    have hsz : acc.size = i := by rw [← Array.length_toList, hacc, List.length_map, hal]
    refine codeAny_builtin PySem.F.entry_extend_loop ?_
    rw [Around.under_plainId PySem.F.plain_extend_loop _]
    show wpAny _ A.in1 (pyNext (.ref z) >>= _) _ _ _
    refine wpAny_bind (zl_item (s := { s with heap := h, toks := tk }) (S := S) D hst (Heap.lt_size hS) hx hy fun h' hst' ht hz hkp => ?_)
    dsimp only at ht hz hkp ⊢
    have hS' := hkp S _ hS4 hS
    have up : ∀ b o, b ≠ S → h'.get? b = some o → (h'.update S (Obj.mapSeq (·.push (Value.ref h.objs.size)))).get? b = some o := fun b o hb e => (Heap.get?_update_other _ _ (Ne.symm hb)).trans e
    have hSl : S < h.objs.size := Heap.lt_size hS
    show wpAny _ A.in1 (updateSeq S (·.push (Value.ref h.objs.size)) >>= _) _ _ _
    refine wpAny_bind ?_
    refine wpAny_updateSeq hS' rfl (wpAny_pure ⟨plainId_quiet PySem.F.plain_extend_loop _, ih (i + 1) _ tk _ (acc.push (Value.ref h.objs.size)) (as ++ [h.objs.size]) (by omega) (by omega) (hst'.keep hS7 up)
      (fun b o h1 h2 e => up b o h1 (hkp b o h2 (hkeep b o h1 h2 e))) (Heap.get?_update_self _ hS' rfl) (by rw [Array.toList_push, hacc, List.map_append]; rfl) (by rw [List.length_append, hal]; rfl) ⟨?_, ?_, ?_⟩ ?_⟩) (by rw [hsz]; omega) (by show (acc.push (Value.ref h.objs.size)).size ≤ sizeLine + 1; rw [Array.size_push, hsz]; omega)
    · refine List.pairwise_append.mpr ⟨hG.rise, List.pairwise_singleton _ _, fun a ha b hb => ?_⟩
      rw [List.mem_singleton.mp hb]
      exact hG.there ha
    · intro a ha
      rcases List.mem_append.mp ha with ha | ha
      · exact hG.above a ha
      · rw [List.mem_singleton.mp ha]; exact hIs
    · intro j b hj
      rcases Nat.lt_trichotomy j as.length with h1 | h1 | h1
      · rw [List.getElem?_append_left h1] at hj
        obtain ⟨x', y', e1, e2, e3⟩ := hG.pairs j b hj
        have hb := hG.above b (List.mem_of_getElem? hj)
        exact ⟨x', y', e1, e2, up b _ (Nat.ne_of_gt (Nat.lt_of_lt_of_le hSlo hb)) (hkp b _ (fun m => absurd (hlo b m) (Nat.not_lt.mpr hb)) e3)⟩
      · subst h1
        have hb : h.objs.size = b := by simpa using hj
        subst hb
        exact ⟨_, _, by rw [hal]; exact hx, by rw [hal]; exact hy, up _ _ (Nat.ne_of_gt hSl) ht⟩
      · have hnone : (as ++ [h.objs.size])[j]? = none := List.getElem?_eq_none (by rw [List.length_append, List.length_singleton]; omega)
        rw [hnone] at hj; cases hj
    · have e : (h'.update S (Obj.mapSeq (·.push (Value.ref h.objs.size)))).get? h.objs.size = _ := up _ _ (Nat.ne_of_gt hSl) ht
      exact Nat.le_of_lt (Nat.lt_of_le_of_lt hIs (Heap.lt_size e))
end
theorem zip_no_len : typeLookup (.type "zip") "__len__" = pure none := by rw [typeLookup_type, builtinLookup_eq_fast]; kernel_rfl
theorem zip_no_hint : typeLookup (.type "zip") "__length_hint__" = pure none := by rw [typeLookup_type, builtinLookup_eq_fast]; kernel_rfl
section
variable {prog : Program} {w : World} {A : Around} {E : Value → Shared → Prop} {s : Shared} {R : Result → Shared → Prop} {z TI TO i1 i2 l1 l2 S : Addr} {xs ys : Array Value}
theorem zl_extend (hh : A.handled = none) (D : ZipApart z TI TO i1 i2 l1 l2) (hS7 : S ∉ [z, TI, TO, i1, i2, l1, l2]) (hn : min xs.size ys.size ≤ sizeLine) (res : Value) (c₀ : Nat) (hst : ZSt s.heap z TI TO i1 i2 l1 l2 S xs ys 0)
    (hlo : ∀ b ∈ [z, TO, i1, i2], b < s.heap.objs.size) (hz0 : ∃ o, s.heap.get? z = some o ∧ o.cls = .type "zip") (hself : ∀ (Q : Value → Shared → Prop) (E : Value → Shared → Prop), Q (.ref z) s → wpAny (model prog w) A.in1 (pyIter (.ref z)) Q E s)
    (hS : s.heap.get? S = some { cls := .type "list", data := .seq #[] c₀ })
    (hR : ∀ h' tk acc c as, (∀ b o, b ≠ S → b ∉ [z, TO, i1, i2] → s.heap.get? b = some o → h'.get? b = some o) → h'.get? S = some { cls := .type "list", dict := none, data := .seq acc c, slots := #[] } → as.length = min xs.size ys.size → ZG xs ys s.heap.objs.size h' as →
      acc.toList = as.map Value.ref → R (.ok (.ret res)) { s with heap := h', toks := tk }) :
    wpAny (model prog w) A.in1 (Builtin.List.listExtendWith (.ref S) (.ref z) res)
      (fun fin s' => match fin with | .done f => R (.ok f) s' | .again c' => c'.quiet = true ∧ codeAny (model prog w) A c' R s') (fun e s' => R (.error e) s') s := by
  have hT : s.TypeIs (.ref z) "zip" := hz0
  have hSz : S ≠ z := fun e => hS7 (by simp [e])
  unfold Builtin.List.listExtendWith
  refine wpAny_bind (wpAny_typeOf hT ?_)
  have h1 : Builtin.List.listSameRef (.ref S) (.ref z) = false := by simp [Builtin.List.listSameRef, hSz]
  have h2 : (Value.type "zip" == Value.type "list") = false := by decide
  have h3 : (Value.type "zip" == Value.type "tuple") = false := by decide
  simp only [h1, h2, h3, Bool.or_false, Bool.false_eq_true, if_false]
  refine wpAny_bind (hself _ _ ?_)
  refine wpAny_bind (wpAny_holding ?_)
  unfold Builtin.List.listLengthHint
  refine wpAny_bind (wpAny_specialOf hT zip_no_len ?_)
  show wpAny _ A.in1 (specialOf (Value.ref z) (Str.ofString "__length_hint__") >>= _) _ _ _
  refine wpAny_bind (wpAny_specialOf hT zip_no_hint ?_)
  refine wpAny_pure ?_
  show wpAny _ A.in1 (rule "list.extend.makes-room" >>= fun _ => Builtin.List.listTouch (.ref S) >>= fun _ =>
    again (.builtin "list.extend.loop" ⟨[.ref S, .ref z, res], []⟩)) _ _ _
  refine wpAny_bind (wpAny_rule ?_)
  refine wpAny_bind ?_
  show wpAny _ A.in1 (updateSeq S (·.push .none) >>= fun _ => updateSeq S (·.pop)) _ _ _
  refine wpAny_bind (wpAny_updateSeq hS rfl ?_)
  have hS₂ := Heap.get?_update_self (Obj.mapSeq (·.push Value.none)) hS rfl
  refine wpAny_updateSeq (hz := by seq_fits) hS₂ rfl ?_
  have hS₃ := Heap.get?_update_self (Obj.mapSeq (·.pop)) hS₂ rfl
  have oth : ∀ b o, b ≠ S → s.heap.get? b = some o → ((s.heap.update S (Obj.mapSeq (·.push Value.none))).update S (Obj.mapSeq (·.pop))).get? b = some o :=
    fun b o hb e => (Heap.get?_update_other _ _ (Ne.symm hb)).trans ((Heap.get?_update_other _ _ (Ne.symm hb)).trans e)
  refine wpAny_pure ⟨plainId_quiet F.plain_extend_loop _, ?_⟩
  have szu : ∀ (f : Obj → Obj) (h : Heap), (h.update S f).objs.size = h.objs.size := fun f h => by simp [Heap.update]
  refine zl_loop (s := s) (h₁ := s.heap) hh D hS7 hn res hlo (Heap.lt_size hS) hR _ 0 _ s.toks _ #[] [] rfl (Nat.zero_le _) (hst.keep hS7 oth) (fun b o h1 _ e => oth b o h1 e) hS₃ rfl rfl ⟨List.Pairwise.nil, (fun _ ha => nomatch ha), (fun j a hj => by simp at hj)⟩ ?_
  show s.heap.objs.size ≤ ((s.heap.update S (Obj.mapSeq (·.push Value.none))).update S (Obj.mapSeq (·.pop))).objs.size
  rw [szu, szu]
  exact Nat.le_refl _
theorem zl_init (hh : A.handled = none) (D : ZipApart z TI TO i1 i2 l1 l2) (hS7 : S ∉ [z, TI, TO, i1, i2, l1, l2]) (hn : min xs.size ys.size ≤ sizeLine) (hst : ZSt s.heap z TI TO i1 i2 l1 l2 S xs ys 0)
    (hlo : ∀ b ∈ [z, TO, i1, i2], b < s.heap.objs.size) (hz0 : IsZip s.heap z TI TO .none)
    (hS : s.heap.get? S = some { cls := .type "list", data := .seq #[] })
    (hR : ∀ h' tk acc c as, (∀ b o, b ≠ S → b ∉ [z, TO, i1, i2] → s.heap.get? b = some o → h'.get? b = some o) → h'.get? S = some { cls := .type "list", dict := none, data := .seq acc c, slots := #[] } → as.length = min xs.size ys.size → ZG xs ys s.heap.objs.size h' as →
      acc.toList = as.map Value.ref → R (.ok (.ret .none)) { s with heap := h', toks := tk }) :
    wpAny (model prog w) A.in1 (Builtin.«list.__init__» ⟨[.ref S, .ref z], []⟩)
      (fun fin s' => match fin with | .done f => R (.ok f) s' | .again c' => c'.quiet = true ∧ codeAny (model prog w) A c' R s') (fun e s' => R (.error e) s') s := by
  show wpAny _ _ (do let old ← Builtin.List.listItems (.ref S); Builtin.List.listUpdate (.ref S) (fun _ => #[]); letGo old.toList.reverse; Builtin.List.listExtendWith (.ref S) (.ref z) .none) _ _ s
  refine wpAny_bind ?_
  unfold Builtin.List.listItems
  refine wpAny_bind (wpAny_seqItems hS rfl (wpAny_pure ?_))
  show wpAny _ _ (updateSeq S (fun _ => #[]) >>= fun _ => letGo (#[] : Array Value).toList.reverse >>= fun _ => Builtin.List.listExtendWith (.ref S) (.ref z) .none) _ _ s
  refine wpAny_bind (wpAny_updateSeq hS rfl ?_)
  have hS₂ := Heap.get?_update_self (Obj.mapSeq (fun _ => (#[] : Array Value))) hS rfl
  have oth : ∀ b o, b ≠ S → s.heap.get? b = some o → (s.heap.update S (Obj.mapSeq (fun _ => (#[] : Array Value)))).get? b = some o :=
    fun b o hb e => (Heap.get?_update_other _ _ (Ne.symm hb)).trans e
  have szu : (s.heap.update S (Obj.mapSeq (fun _ => (#[] : Array Value)))).objs.size = s.heap.objs.size := by simp [Heap.update]
  have hzS : z ≠ S := fun e => hS7 (by simp [e])
  refine wpAny_bind (wpAny_letGo ?_)
  have hz1 : IsZip (s.heap.update S (Obj.mapSeq (fun _ => (#[] : Array Value)))) z TI TO .none := oth _ _ hzS hz0
  refine zl_extend (s := { s with heap := s.heap.update S (Obj.mapSeq (fun _ => (#[] : Array Value))) }) hh D hS7 hn .none _ (hst.keep hS7 oth) (fun b hb => by show b < _; rw [szu]; exact hlo b hb) ⟨_, hz1, rfl⟩ (fun Q E q => wpAny_pyIter_zip hz1 q) hS₂ (fun h' tk acc c as hk hS' hl hG hacc => ?_)
  refine hR h' tk acc c as (fun b o hb hb2 e => hk b o hb hb2 (oth b o hb e)) hS' hl ?_ hacc
  rw [show ({ s with heap := s.heap.update S (Obj.mapSeq (fun _ => (#[] : Array Value))) } : Shared).heap.objs.size = s.heap.objs.size from szu] at hG
  exact hG
theorem zl_call {Q : Value → Shared → Prop} (hh : A.handled = none) (D : ZipApart z TI TO i1 i2 l1 l2) (hn : min xs.size ys.size ≤ sizeLine) (hst : ∀ S, ZSt s.heap z TI TO i1 i2 l1 l2 S xs ys 0) (hlo : ∀ b ∈ [z, TI, TO, i1, i2, l1, l2], b < s.heap.objs.size) (hz0 : IsZip s.heap z TI TO .none)
    (hQ : ∀ h' tk acc c as, (∀ b o, b ∉ [z, TO, i1, i2] → s.heap.get? b = some o → h'.get? b = some o) → h'.get? s.heap.objs.size = some { cls := .type "list", dict := none, data := .seq acc c, slots := #[] } → as.length = min xs.size ys.size → ZG xs ys (s.heap.objs.size + 1) h' as →
      acc.toList = as.map Value.ref → Q (.ref s.heap.objs.size) { s with heap := h', toks := tk }) :
    wpAny (model prog w) A (call (.type "list") [.ref z]) Q E s := by
  refine callType_codes (Q₁ := fun obj s₁ => obj = .ref s.heap.objs.size ∧ s₁ = { s with heap := s.heap.push { cls := .type "list", data := .seq #[] } }) PySem.F.called_list (PySem.F.typeCall_list_1 _) PySem.F.entry_list_init
    (code_list_new _ ⟨rfl, rfl⟩) fun obj s₁ h₁ => ?_
  obtain ⟨rfl, rfl⟩ := h₁
  have hS : (s.heap.push { cls := .type "list", data := .seq #[] }).get? s.heap.objs.size = some { cls := .type "list", data := .seq #[] } := Heap.get?_push_size _ rfl
  have szp : (s.heap.push { cls := .type "list", data := .seq #[] }).objs.size = s.heap.objs.size + 1 := Heap.size_push ..
  have hS7 : s.heap.objs.size ∉ [z, TI, TO, i1, i2, l1, l2] := fun m => absurd (hlo _ m) (Nat.lt_irrefl _)
  refine ⟨⟨_, hS, rfl⟩, PySem.F.args_list_init_2 _ _, zl_init (s := { s with heap := s.heap.push { cls := .type "list", data := .seq #[] } }) (A := A.in1) hh D hS7 hn ((hst _).keep hS7 fun b o _ e => Heap.get?_push_of_some _ e) (fun b hb => ?_) (Heap.get?_push_of_some _ hz0) hS (fun h' tk acc c as hk hS' hl hG hacc => ?_)⟩
  · show b < (s.heap.push { cls := .type "list", data := .seq #[] }).objs.size
    rw [szp]
    exact Nat.lt_succ_of_lt (hlo b (by simp at hb ⊢; rcases hb with hb | hb | hb | hb <;> simp [hb]))
  · rw [show ({ s with heap := s.heap.push { cls := .type "list", data := .seq #[] } } : Shared).heap.objs.size = s.heap.objs.size + 1 from szp] at hG
    exact ⟨rfl, hQ h' tk acc c as (fun b o hb e => hk b o (Nat.ne_of_lt (Heap.lt_size e)) hb (Heap.get?_push_of_some _ e)) hS' hl hG hacc⟩
end
end TL

set_option linter.all false
set_option maxRecDepth 100000
set_option maxHeartbeats 1000000
/-! TLSnd6: built-in functions. Own work. -/
namespace TL
open PySem PySem.Spec PyProof.Rows L2 NdefX
/-- a call's rule serves an operation on contents -/
def CalS (K : PySem.W.Frag) (G : GT) (f : List PV → Option PV) (r : List V → Hp → VK → Prop) : Prop :=
  ∀ (θ : List Addr) (S H : Hp) (mu : List SO) (C : Cells) (ps : List PV) (z : PV) (vs : List V) (Q : VK), f ps = some z → RS K G θ S H mu → RepL K G.toFT C θ S ps vs →
    (∀ S' H' w, Ste θ S H θ S' H' → RS K G θ S' H' mu → RepV K G.toFT C θ S' z w → Q w H') → r vs H Q
theorem CalS.or {K : PySem.W.Frag} {G : GT} {f : List PV → Option PV} {r r' : List V → Hp → VK → Prop} (h : ∀ θ S H mu C ps z vs Q, f ps = some z → RS K G θ S H mu → RepL K G.toFT C θ S ps vs →
    (∀ S' H' w, Ste θ S H θ S' H' → RS K G θ S' H' mu → RepV K G.toFT C θ S' z w → Q w H') → r vs H Q ∨ r' vs H Q) : CalS K G f (fun vs H Q => r vs H Q ∨ r' vs H Q) := h
theorem callR_or {X : Cx} {f : Value} {r r' : List V → Hp → VK → Prop} (h : CallR X f r) (k : CallR X f r') : CallR X f (fun vs H Q => r vs H Q ∨ r' vs H Q) := fun pins s σ H x v Q I a q => q.elim (h pins s σ H x v Q I a) (k pins s σ H x v Q I a)
section
variable {X : Cx} {G : GT} {En : Ent} {C0 : Cells} {W : WX} {θ : List Addr} {S H : Hp} {σ : L2.St} {s : DS} {Φ : Phi}
variable {e : Expr} {es : List Expr} {is : IEs} {pos p : Pos} {x : Str}
theorem imp_cal {f : List PV → Option PV} {r : List V → Hp → VK → Prop} {d : DS → DR (List PV)} {Q : VK} (c : CalS X.K G f r) (h : tD X G En C0 W (fun s => (d s).bind fun xs s => .opt (f xs) s) σ H Q) : tCB r (tDs X G En C0 W d) σ H Q := by
  obtain ⟨θ, S, s, R, h⟩ := h
  refine ⟨θ, S, s, R, (PostR.bind h).imp fun ps s1 θ1 S1 H1 _ e1 R1 h1 vs rv => ?_⟩
  cases q : f ps with
  | none => rw [q] at h1; exact h1.elim
  | some z =>
    rw [q] at h1
    exact c θ1 S1 H1 s1.mu _ ps z vs Q q R1.rs rv (fun S' H' w e2 rs rw' => h1 θ1 S' H' e2 (R1.step e2 rs) w rw')
theorem star_head (hs : ∀ e' ∈ e :: es, ∀ x p, e' ≠ .Starred x p) {env : Env} : starEach (e :: es) env = (false, eval e env) :: starEach es env := star_plain (hs e List.mem_cons_self)
theorem sd_bltB {b : Blt} {id : String} {r : List V → Hp → VK → Prop} (hc : CallR X (.builtin id) r) (c : CalS X.K G (vblt b) r) (hg : Gl X x) (hm : X.mg x = none) (hv : bootBuiltins x = some (.builtin id)) (hn : x ≠ "__name__") (hd : (x == ("__debug__" : Str)) = false)
    (hs : ∀ e' ∈ e :: es, ∀ x p, e' ≠ .Starred x p) (ha : PA X (e :: es) (tDs X G En C0 W (evs Φ is))) : PE X (.Call (.Name x p) (e :: es) [] pos) (tD X G En C0 W (ev Φ (.blt b is))) :=
  (pe_callB hc hg hm hv ha hn hd (star_head hs) (backTo_any fun e' he => hs e' (List.mem_cons_of_mem _ he))).wk fun σ H Q h => imp_cal c h
theorem sd_bltT {b : Blt} {id : String} {r : List V → Hp → VK → Prop} (hc : CallR X (.type id) r) (c : CalS X.K G (vblt b) r) (hg : Gl X x) (hm : X.mg x = none) (hv : bootBuiltins x = some (.type id)) (hn : x ≠ "__name__") (hd : (x == ("__debug__" : Str)) = false)
    (hs : ∀ e' ∈ e :: es, ∀ x p, e' ≠ .Starred x p) (ha : PA X (e :: es) (tDs X G En C0 W (evs Φ is))) : PE X (.Call (.Name x p) (e :: es) [] pos) (tD X G En C0 W (ev Φ (.blt b is))) :=
  (pe_callTy hc hg hm hv ha hn hd (star_head hs) (backTo_any fun e' he => hs e' (List.mem_cons_of_mem _ he))).wk fun σ H Q h => imp_cal c h
end
section
variable {K : PySem.W.Frag} {G : GT} {C : Cells} {θ : List Addr} {S H : Hp}
theorem rep1 {p : PV} {vs : List V} (r : RepL K G.toFT C θ S [p] vs) : ∃ v, vs = [v] ∧ RepV K G.toFT C θ S p v := by
  cases r with
  | cons h r => cases r; exact ⟨_, rfl, h⟩
theorem rep2 {p q : PV} {vs : List V} (r : RepL K G.toFT C θ S [p, q] vs) : ∃ v w, vs = [v, w] ∧ RepV K G.toFT C θ S p v ∧ RepV K G.toFT C θ S q w := by
  cases r with
  | cons h r =>
    obtain ⟨w, rfl, k⟩ := rep1 r
    exact ⟨_, _, rfl, h, k⟩
theorem RepV.seqL {xs : List PV} {v : V} (hS : Same S H) (r : RepV K G.toFT C θ S (.lst xs) v) : ∃ a vs, v = .ref a ∧ SqL K H a vs ∧ RepL K G.toFT C θ S xs vs := by
  obtain ⟨a, vs, rfl, h, r⟩ := r.list hS
  exact ⟨a, vs, rfl, .inl h, r⟩
theorem RepV.seqT {xs : List PV} {v : V} (hS : Same S H) (r : RepV K G.toFT C θ S (.tup xs) v) : ∃ a vs, v = .ref a ∧ SqT K H a vs ∧ RepL K G.toFT C θ S xs vs := by
  obtain ⟨a, vs, rfl, h, r⟩ := r.tuple hS
  exact ⟨a, vs, rfl, SqT.of h, r⟩
theorem cal_len : CalS K G (vblt .len) (fun xs H Q => ∃ p ys, xs = [.ref p] ∧ (SqL K H p ys ∨ SqT K H p ys) ∧ Q (.int ys.length) H) := by
  intro θ S H mu C ps z vs Q e rs r k
  unfold vblt at e
  split at e <;> try (cases e; done)
  all_goals (try contradiction)
  · cases e
    obtain ⟨v, rfl, r1⟩ := rep1 r
    obtain ⟨a, ys, rfl, h, r2⟩ := r1.seqT rs.same
    exact ⟨a, ys, rfl, .inr h, by rw [← r2.length]; exact fin_now rs (.int _) k⟩
  · cases e
    obtain ⟨v, rfl, r1⟩ := rep1 r
    obtain ⟨a, ys, rfl, h, r2⟩ := r1.seqL rs.same
    exact ⟨a, ys, rfl, .inl h, by rw [← r2.length]; exact fin_now rs (.int _) k⟩
  · cases e
    obtain ⟨v, rfl, r1⟩ := rep1 r
    obtain ⟨a, ys, rfl, h, r2⟩ := RdV.scrs rs.same (.inl r1)
    exact ⟨a, ys, rfl, .inl h, by rw [← r2.length]; exact fin_now rs (.int _) k⟩
theorem maxL_mem : ∀ (ns : List Int) (m : Int), maxL m ns ∈ m :: ns ∧ ∀ y ∈ m :: ns, y ≤ maxL m ns
  | [], m => ⟨by simp [maxL], fun y h => by simp at h; subst h; exact Int.le_refl _⟩
  | x :: xs, m => by
    unfold maxL
    by_cases c : m < x
    · rw [if_pos c]
      obtain ⟨h1, h2⟩ := maxL_mem xs x
      refine ⟨List.mem_cons_of_mem _ h1, fun y hy => ?_⟩
      have h0 := h2 _ List.mem_cons_self
      rcases List.mem_cons.mp hy with rfl | hy
      · omega
      · exact h2 _ hy
    · rw [if_neg c]
      obtain ⟨h1, h2⟩ := maxL_mem xs m
      refine ⟨?_, fun y hy => ?_⟩
      · rcases List.mem_cons.mp h1 with h | h
        · rw [h]; simp
        · exact List.mem_cons_of_mem _ (List.mem_cons_of_mem _ h)
      have h0 := h2 _ List.mem_cons_self
      rcases List.mem_cons.mp hy with rfl | hy
      · exact h0
      · rcases List.mem_cons.mp hy with rfl | hy
        · omega
        · exact h2 _ (List.mem_cons_of_mem _ hy)
theorem minL_mem : ∀ (ns : List Int) (m : Int), minL m ns ∈ m :: ns ∧ ∀ y ∈ m :: ns, minL m ns ≤ y
  | [], m => ⟨by simp [minL], fun y h => by simp at h; subst h; exact Int.le_refl _⟩
  | x :: xs, m => by
    unfold minL
    by_cases c : x < m
    · rw [if_pos c]
      obtain ⟨h1, h2⟩ := minL_mem xs x
      refine ⟨List.mem_cons_of_mem _ h1, fun y hy => ?_⟩
      have h0 := h2 _ List.mem_cons_self
      rcases List.mem_cons.mp hy with rfl | hy
      · omega
      · exact h2 _ hy
    · rw [if_neg c]
      obtain ⟨h1, h2⟩ := minL_mem xs m
      refine ⟨?_, fun y hy => ?_⟩
      · rcases List.mem_cons.mp h1 with h | h
        · rw [h]; simp
        · exact List.mem_cons_of_mem _ (List.mem_cons_of_mem _ h)
      have h0 := h2 _ List.mem_cons_self
      rcases List.mem_cons.mp hy with rfl | hy
      · exact h0
      · rcases List.mem_cons.mp hy with rfl | hy
        · omega
        · exact h2 _ (List.mem_cons_of_mem _ hy)
theorem cal_max1 : CalS K G (vblt .max1) (rMaxB K) := by
  intro θ S H mu C ps z vs Q e rs r k
  unfold vblt at e
  split at e <;> try (cases e; done)
  all_goals (try contradiction)
  all_goals (split at e <;> try (cases e; done))
  · rename_i n ns h
    cases e
    obtain ⟨v, rfl, r1⟩ := rep1 r
    obtain ⟨a, ys, rfl, h1, r2⟩ := r1.list rs.same
    have e2 := r2.ints h
    subst e2
    obtain ⟨h3, h4⟩ := maxL_mem ns n
    refine .inl ⟨a, n :: ns, rfl, .inl h1, by simp, fun m hm hy => ?_⟩
    have : m = maxL n ns := Int.le_antisymm (h4 m hm) (hy _ h3)
    subst this
    exact fin_now rs (.int _) k
  · rename_i n ns h
    cases e
    obtain ⟨v, rfl, r1⟩ := rep1 r
    obtain ⟨a, ys, rfl, h1, r2⟩ := r1.tuple rs.same
    have e2 := r2.ints h
    subst e2
    obtain ⟨h3, h4⟩ := maxL_mem ns n
    refine .inr ⟨a, n :: ns, rfl, .inl (.inl h1), by simp, fun m hm hy => ?_⟩
    have : m = maxL n ns := Int.le_antisymm (h4 m hm) (hy _ h3)
    subst this
    exact fin_now rs (.int _) k
theorem cal_min1 : CalS K G (vblt .min1) (rMinB K) := by
  intro θ S H mu C ps z vs Q e rs r k
  unfold vblt at e
  split at e <;> try (cases e; done)
  all_goals (try contradiction)
  all_goals (split at e <;> try (cases e; done))
  · rename_i n ns h
    cases e
    obtain ⟨v, rfl, r1⟩ := rep1 r
    obtain ⟨a, ys, rfl, h1, r2⟩ := r1.list rs.same
    have e2 := r2.ints h
    subst e2
    obtain ⟨h3, h4⟩ := minL_mem ns n
    refine .inl ⟨a, n :: ns, rfl, .inl h1, by simp, fun m hm hy => ?_⟩
    have : m = minL n ns := Int.le_antisymm (hy _ h3) (h4 m hm)
    subst this
    exact fin_now rs (.int _) k
  · rename_i n ns h
    cases e
    obtain ⟨v, rfl, r1⟩ := rep1 r
    obtain ⟨a, ys, rfl, h1, r2⟩ := r1.tuple rs.same
    have e2 := r2.ints h
    subst e2
    obtain ⟨h3, h4⟩ := minL_mem ns n
    refine .inr ⟨a, n :: ns, rfl, .inl (.inl h1), by simp, fun m hm hy => ?_⟩
    have : m = minL n ns := Int.le_antisymm (hy _ h3) (h4 m hm)
    subst this
    exact fin_now rs (.int _) k
theorem cal_max2 : CalS K G (vblt .max2) (fun xs H Q => ∃ i j, xs = [.int i, .int j] ∧ Q (.int (if j > i then j else i)) H) := by
  intro θ S H mu C ps z vs Q e rs r k
  unfold vblt at e
  split at e <;> try (cases e; done)
  all_goals (try contradiction)
  cases e
  obtain ⟨v, w, rfl, r1, r2⟩ := rep2 r
  cases r1; cases r2
  exact ⟨_, _, rfl, fin_now rs (.int _) k⟩
theorem cal_min2 : CalS K G (vblt .min2) (fun xs H Q => ∃ i j, xs = [.int i, .int j] ∧ Q (.int (if j < i then j else i)) H) := by
  intro θ S H mu C ps z vs Q e rs r k
  unfold vblt at e
  split at e <;> try (cases e; done)
  all_goals (try contradiction)
  cases e
  obtain ⟨v, w, rfl, r1, r2⟩ := rep2 r
  cases r1; cases r2
  exact ⟨_, _, rfl, fin_now rs (.int _) k⟩
theorem cal_sum : CalS K G (vblt .sum) (rSumB K) := by
  intro θ S H mu C ps z vs Q e rs r k
  unfold vblt at e
  split at e <;> try (cases e; done)
  all_goals (try contradiction)
  · rename_i xs _
    cases h : intsOf xs with
    | none => rw [h] at e; cases e
    | some ns =>
      rw [h] at e
      cases e
      obtain ⟨v, rfl, r1⟩ := rep1 r
      obtain ⟨a, ys, rfl, h1, r2⟩ := r1.list rs.same
      have e2 := r2.ints h
      subst e2
      exact .inl ⟨a, ns, rfl, .inl h1, fin_now rs (.int _) k⟩
  · rename_i xs _
    cases h : intsOf xs with
    | none => rw [h] at e; cases e
    | some ns =>
      rw [h] at e
      cases e
      obtain ⟨v, rfl, r1⟩ := rep1 r
      obtain ⟨a, ys, rfl, h1, r2⟩ := r1.tuple rs.same
      have e2 := r2.ints h
      subst e2
      exact .inr ⟨a, ns, rfl, .inl (.inl h1), fin_now rs (.int _) k⟩
theorem cal_all : CalS K G (vblt .all) (rAll K) := by
  intro θ S H mu C ps z vs Q e rs r k
  unfold vblt at e
  split at e <;> try (cases e; done)
  all_goals (try contradiction)
  rename_i xs _
  cases h : boolsOf xs with
  | none => rw [h] at e; cases e
  | some ns =>
    rw [h] at e
    cases e
    obtain ⟨v, rfl, r1⟩ := rep1 r
    obtain ⟨a, ys, rfl, h1, r2⟩ := r1.list rs.same
    have e2 := r2.bools h
    subst e2
    exact ⟨a, ns, rfl, .inl h1, fin_now rs (.bl _) k⟩
theorem cal_any : CalS K G (vblt .any) (rAny K) := by
  intro θ S H mu C ps z vs Q e rs r k
  unfold vblt at e
  split at e <;> try (cases e; done)
  all_goals (try contradiction)
  rename_i xs _
  cases h : boolsOf xs with
  | none => rw [h] at e; cases e
  | some ns =>
    rw [h] at e
    cases e
    obtain ⟨v, rfl, r1⟩ := rep1 r
    obtain ⟨a, ys, rfl, h1, r2⟩ := r1.list rs.same
    have e2 := r2.bools h
    subst e2
    exact ⟨a, ns, rfl, .inl h1, fin_now rs (.bl _) k⟩
theorem cal_abs : CalS K G (vblt .abs) (fun xs H Q => ∃ i, xs = [.int i] ∧ Q (.int (if i < 0 then -i else i)) H) := by
  intro θ S H mu C ps z vs Q e rs r k
  unfold vblt at e
  split at e <;> try (cases e; done)
  all_goals (try contradiction)
  cases e
  obtain ⟨v, rfl, r1⟩ := rep1 r
  cases r1
  exact ⟨_, rfl, fin_now rs (.int _) k⟩
theorem cal_int : CalS K G (vblt .int) (fun xs H Q => (∃ i, xs = [.int i] ∧ Q (.int i) H) ∨ ∃ k, xs = [.bl k] ∧ Q (.int (if k then 1 else 0)) H) := by
  intro θ S H mu C ps z vs Q e rs r k
  unfold vblt at e
  split at e <;> try (cases e; done)
  all_goals (try contradiction)
  cases e
  obtain ⟨v, rfl, r1⟩ := rep1 r
  cases r1
  exact .inl ⟨_, rfl, fin_now rs (.int _) k⟩
theorem cal_tuple : CalS K G (vblt .tuple) (fun xs H Q => ∃ p ys, xs = [.ref p] ∧ ((SqL K H p ys ∧ ∀ l, H l = none → Q (.ref l) (upd H l (.tup ys))) ∨ (SqT K H p ys ∧ Q (.ref p) H))) := by
  intro θ S H mu C ps z vs Q e rs r k
  unfold vblt at e
  split at e <;> try (cases e; done)
  all_goals (try contradiction)
  · cases e
    obtain ⟨v, rfl, r1⟩ := rep1 r
    obtain ⟨a, ys, rfl, h, r2⟩ := r1.seqL rs.same
    exact ⟨a, ys, rfl, .inl ⟨h, fun l nl => fin_tup rs nl r2 k⟩⟩
  · cases e
    obtain ⟨v, rfl, r1⟩ := rep1 r
    obtain ⟨a, ys, rfl, h, r2⟩ := r1.seqT rs.same
    exact ⟨a, ys, rfl, .inr ⟨h, fin_now rs r1 k⟩⟩
theorem cal_list : CalS K G (vblt .list) (fun xs H Q => ∃ p ys, xs = [.ref p] ∧ (SqL K H p ys ∨ SqT K H p ys) ∧ ∀ l, H l = none → Q (.ref l) (upd H l (.lst ys))) := by
  intro θ S H mu C ps z vs Q e rs r k
  unfold vblt at e
  split at e <;> try (cases e; done)
  all_goals (try contradiction)
  · cases e
    obtain ⟨v, rfl, r1⟩ := rep1 r
    obtain ⟨a, ys, rfl, h, r2⟩ := r1.seqL rs.same
    exact ⟨a, ys, rfl, .inl h, fun l nl => fin_lst rs nl r2 k⟩
  · cases e
    obtain ⟨v, rfl, r1⟩ := rep1 r
    obtain ⟨a, ys, rfl, h, r2⟩ := r1.seqT rs.same
    exact ⟨a, ys, rfl, .inr h, fun l nl => fin_lst rs nl r2 k⟩
theorem cal_divmod : CalS K G (vblt .divmod) (fun xs H Q => ∃ i j, xs = [.int i, .int j] ∧ CDiv i j ∧ ∀ p, H p = none → Q (.ref p) (upd H p (.tup [.int (i / j), .int (i % j)]))) := by
  intro θ S H mu C ps z vs Q e rs r k
  unfold vblt at e
  split at e <;> try (cases e; done)
  all_goals (try contradiction)
  split at e
  · rename_i hz
    cases e
    obtain ⟨v, w, rfl, r1, r2⟩ := rep2 r
    cases r1; cases r2
    exact ⟨_, _, rfl, hz, fun p np => fin_tup rs np (.cons (.int _) (.cons (.int _) .nil)) k⟩
  · cases e
end
end TL

set_option linter.all false
set_option maxRecDepth 100000
set_option maxHeartbeats 1000000
/-! TLSnd7: isinstance, list(range), list(zip), list(values), sorted(set), dict get. Own work. -/
namespace TL
open PySem PySem.Spec PyProof.Rows L2 NdefX
/-! ### isinstance -/
def tyS : Ty → String
  | .int => "int" | .bool => "bool" | .str => "str" | .tuple => "tuple"
def pvTy : PV → String
  | .non => "NoneType" | .bl _ => "bool" | .int _ => "int" | .str _ => "str" | .tup _ => "tuple" | .lst _ => "list" | _ => "dict"
theorem kit_all (t : Ty) (p : PV) : L2.kitB (pvTy p) (tyS t) = some (isInst t p) := by
  cases t <;> cases p <;> first | rfl | (show L2.kitB _ _ = some _; decide +kernel)
theorem RepV.ty {K : PySem.W.Frag} {G : GT} {C : Cells} {θ : List Addr} {S H : Hp} {p : PV} {v : V} (hS : Same S H) (r : RepV K G.toFT C θ S p v) (h : p.typed = true) : TyX K H v (.type (pvTy p)) := by
  cases r with
  | non => exact .base .non
  | bl b => exact .base (.bl b)
  | int i => exact .base (.int i)
  | str x => exact .base (.str x)
  | tup e r => exact .base (.tup (hS _ _ e))
  | lst e r =>
    exact .base (.lst (hS _ _ e))
  | dct e r =>
    rcases Same.rd hS e with e | ⟨o, e⟩
    · exact .base (.dK e)
    · exact .fDict e
  | _ => simp [PV.typed] at h
section
variable {X : Cx} {G : GT} {En : Ent} {C0 : Cells} {W : WX} {θ : List Addr} {S H : Hp} {σ : L2.St} {s : DS} {Φ : Phi}
variable {a b c : Expr} {ia ib ic : IE} {pos p p2 p3 : Pos}
theorem sd_isi {t : Ty} (hg : Gl X "isinstance") (hm : X.mg "isinstance" = none) (hg2 : Gl X (.ofString (tyS t))) (hm2 : X.mg (.ofString (tyS t)) = none) (hs : ∀ x p, a ≠ .Starred x p) (ha : PE X a (tD X G En C0 W (ev Φ ia))) :
    PE X (.Call (.Name "isinstance" p) [a, .Name (.ofString (tyS t)) p2] [] pos) (tD X G En C0 W (ev Φ (.blt (.isInst t) (.cons ia .nil)))) := by
  have ht : PE X (.Name (.ofString (tyS t)) p2) (tC (.ty (tyS t))) := pe_bltn (v := .ty (tyS t)) (u := .type (tyS t)) hg2 hm2 (by cases t <;> decide +kernel) rfl (by cases t <;> decide) (by cases t <;> decide)
  refine (pe_callB call_isi hg hm boot_isinstance (pa_cons ha (pa_cons ht pa_nil (star_plain fun x p => by simp)) (star_plain hs)) (by decide) (by decide) (star_plain hs) (by rfl)).wk fun σ H Q ⟨θ, S, s, R, h⟩ => ?_
  refine ⟨θ, S, s, R, (PostR.bind (PostR.bind h)).imp fun x s1 θ1 S1 H1 _ e1 R1 h1 u ru => ?_⟩
  have h2 := PostR.bind h1 θ1 S1 H1 (Ste.refl _ _ _) R1
  have h3 := h2 θ1 S1 H1 (Ste.refl _ _ _) R1
  simp only [vblt] at h3
  split at h3
  · rename_i hz
    exact ⟨u, .ty (tyS t), .type (pvTy x), .type (tyS t), isInst t x, rfl, .ty _, ru.ty R1.rs.same hz, kit_ty (kit_all t x), R1.now h3 (.bl _)⟩
  · exact h3.elim

/-! ### list(range(..)) -/
theorem range_rep {K : PySem.W.Frag} {C : Cells} : ∀ (l : List Nat) (lo : Int), RepL K G.toFT C θ S (l.map fun (k : Nat) => .int (lo + (k : Nat))) (l.map fun (k : Nat) => V.int (lo + (k : Nat)))
  | [], _ => .nil
  | _ :: l, lo => .cons (.int _) (range_rep l lo)
theorem rg_ok {i j : Int} (h : IntOk i ∧ IntOk j ∧ j - i ≤ SZ) : RgOk i j := by
  obtain ⟨⟨h1, h2⟩, ⟨h3, h4⟩, h5⟩ := h
  refine ⟨h1, h2, h3, h4, ?_⟩
  have : (SZ : Int) = 100000 := by decide
  omega
theorem sd_lrange1 (hc : X.calm = true) (hg : Gl X "list") (hm : X.mg "list" = none) (hg2 : Gl X "range") (hm2 : X.mg "range" = none) (hs : ∀ x p, a ≠ .Starred x p) (ha : PE X a (tD X G En C0 W (ev Φ ia))) :
    PE X (.Call (.Name "list" p) [.Call (.Name "range" p2) [a] [] p3] [] pos) (tD X G En C0 W (ev Φ (.blt .rangeL1 (.cons ia .nil)))) :=
  (pe_listRg hc hg hm (prg_1 hg2 hm2 ha (star_plain hs)) (star_plain fun x p => by simp)).wk fun σ H Q ⟨θ, S, s, R, h⟩ => by
    refine ⟨θ, S, s, R, (PostR.bind (PostR.bind h)).imp fun x s1 θ1 S1 H1 _ e1 R1 h1 u ru => ?_⟩
    have h2 := PostR.bind h1 θ1 S1 H1 (Ste.refl _ _ _) R1
    have h3 := h2 θ1 S1 H1 (Ste.refl _ _ _) R1
    cases x <;> simp only [vblt] at h3 <;> try (exact h3.elim)
    rename_i j _
    cases ru
    split at h3
    · rename_i hz
      refine ⟨j, rfl, rg_ok ⟨by unfold IntOk; omega, hz.1, by omega⟩, fun q nq => ?_⟩
      have e : rangeI 0 j.toNat = (List.range (j - 0).toNat).map fun (k : Nat) => .int (0 + (k : Nat)) := by rw [Int.sub_zero]; rfl
      rw [e] at h3
      exact fin_lst R1.rs nq (range_rep (List.range (j - 0).toNat) 0) (R1.fin (C := noC) h3)
    · exact h3.elim
theorem sd_lrange2 (hc : X.calm = true) (hg : Gl X "list") (hm : X.mg "list" = none) (hg2 : Gl X "range") (hm2 : X.mg "range" = none) (hs : ∀ x p, a ≠ .Starred x p) (hs2 : ∀ x p, b ≠ .Starred x p) (ha : PE X a (tD X G En C0 W (ev Φ ia))) (hb : PE X b (tD X G En C0 W (ev Φ ib))) :
    PE X (.Call (.Name "list" p) [.Call (.Name "range" p2) [a, b] [] p3] [] pos) (tD X G En C0 W (ev Φ (.blt .rangeL2 (.cons ia (.cons ib .nil))))) :=
  (pe_listRg hc hg hm (prg_2 hg2 hm2 ha hb (star_plain hs) (star_plain hs2) (backTo_any fun e' he => by simp at he; subst he; exact hs2)) (star_plain fun x p => by simp)).wk fun σ H Q ⟨θ, S, s, R, h⟩ => by
    refine ⟨θ, S, s, R, (PostR.bind (PostR.bind h)).imp fun x s1 θ1 S1 H1 _ e1 R1 h1 u ru => ?_⟩
    unfold evs at h1
    refine ⟨θ1, S1, s1, R1, (PostR.bind (PostR.bind h1)).imp fun y s2 θ2 S2 H2 q2 e2 R2 h2 v rv => ?_⟩
    have h3 := PostR.bind h2 θ2 S2 H2 (Ste.refl _ _ _) R2
    have h4 := h3 θ2 S2 H2 (Ste.refl _ _ _) R2
    have h5 := h4 θ2 S2 H2 (Ste.refl _ _ _) R2
    have hx : ∃ i j, x = .int i ∧ y = .int j := by
      cases x <;> simp only [vblt] at h5 <;> try (exact h5.elim)
      cases y <;> simp only at h5 <;> first | (exact h5.elim) | exact ⟨_, _, rfl, rfl⟩
    obtain ⟨i, j, rfl, rfl⟩ := hx
    simp only [vblt] at h5
    cases ru
    cases rv
    split at h5
    · rename_i hz
      refine ⟨i, j, rfl, rfl, rg_ok hz, fun q nq => ?_⟩
      exact fin_lst R2.rs nq (range_rep (List.range (j - i).toNat) i) (R2.fin (C := noC) h5)
    · exact h5.elim
end
end TL

set_option linter.all false
set_option maxRecDepth 100000
set_option maxHeartbeats 1000000
/-! TLSnd8: list(zip), list(values), sorted(set), dict get. Own work. -/
namespace TL
open PySem PySem.Spec PyProof.Rows L2 NdefX
section
variable {X : Cx} {G : GT} {En : Ent} {C0 : Cells} {W : WX} {θ : List Addr} {S H H' : Hp} {σ : L2.St} {s : DS} {Φ : Phi}
variable {a b c : Expr} {ia ib ic : IE} {pos p p2 p3 : Pos}
/-- several new objects -/
theorem laid_many {pins : List (Addr × Obj)} {sh : Shared} {h' : Heap} {tk : Nat} (I : Inv X pins σ H sh) (hk : ∀ b o, sh.heap.get? b = some o → h'.get? b = some o) (kp : ∀ b u, H b = some u → H' b = some u)
    (new : ∀ b u, H' b = some u → H b = some u ∨ (sh.heap.objs.size ≤ b ∧ ObjOk X.prog X.w H' h' b u)) : Inv X pins σ H' { sh with heap := h', toks := tk } := by
  refine I.call' (ch := []) rfl ⟨fun b o q _ _ _ => hk b o q, fun b o q _ _ _ => ⟨o.slots, hk b o q⟩, fun b o q n _ => ?_, fun b o q _ => ⟨o, hk b o q⟩, fun b xs q => kp b _ q, fun b o u q => kp b _ q, fun b ps q => ⟨#[], by rw [kp b _ q]; simp⟩⟩ (fun b u q => ?_) I.bare fun b z => by simp at z
  · cases e : H' b with
    | none => rfl
    | some u =>
      rcases new b u e with z | ⟨z, _⟩
      · rw [n] at z; cases z
      · exact absurd (Heap.lt_size q) (Nat.not_lt.mpr z)
  · rcases new b u q with z | ⟨_, z⟩
    · exact (I.hok b u z).stay (fun d v _ y => hk d v y) (fun d y => kp d _ y) fun d xs y => kp d _ y
    · exact z
/-- all that is new is known -/
def more (S H H' : Hp) : Hp := fun b => match H b with
  | none => H' b
  | some _ => S b
theorem more_new {b : Addr} (h : H b = none) : more S H H' b = H' b := by unfold more; rw [h]
theorem more_old {b : Addr} {o : HO} (h : H b = some o) : more S H H' b = S b := by unfold more; rw [h]
theorem Ste.more {θ : List Addr} (hS : Same S H) (kp : ∀ b u, H b = some u → H' b = some u) : Ste θ S H θ (more S H H') H' where
  sS := Gr.of fun a u h => by rw [more_old (hS a u h)]; exact h
  pre := Pre.refl θ
  new := fun _ h k => absurd h k
  frz := fun a h k => by
    cases e : H a with
    | none => rfl
    | some u => rw [more_old e] at k; exact absurd h k
  kp := fun a u h _ _ => .inl (kp a u h)
  al := fun a h => by
    cases e : H a with
    | none => exact absurd e h
    | some u => rw [kp a u e]; simp
theorem RS.more {K : PySem.W.Frag} {mu : List SO} (r : RS K G θ S H mu) (kp : ∀ b u, H b = some u → H' b = some u) : RS K G θ (more S H H') H' mu := by
  refine r.step (Ste.more r.same kp) (fun a u h => ?_) (fun a h => ?_) (fun q hq => ?_) (fun b u h _ _ => kp b u h)
  · cases e : H a with
    | none => rw [more_new e] at h; exact h
    | some w => rw [more_old e] at h; exact kp a u (r.same a u h)
  · obtain ⟨u, hu, _, _⟩ := r.there h
    rw [hu, kp a u hu]
  · obtain ⟨ps, h1, _⟩ := r.tabs q hq
    rw [h1, kp _ _ h1]
/-! ### list(zip(a, b)) -/
/-- the tuples at their addresses -/
def putZ : Hp → List Addr → List (V × V) → Hp
  | H, a :: as, p :: ps => putZ (upd H a (.tup [p.1, p.2])) as ps
  | H, _, _ => H
theorem putZ_off {b : Addr} : ∀ (as : List Addr) (ps : List (V × V)) (H : Hp), b ∉ as → putZ H as ps b = H b
  | [], _, _, _ => rfl
  | _ :: _, [], _, _ => rfl
  | a :: as, p :: ps, H, h => by
    show putZ (upd H a (.tup [p.1, p.2])) as ps b = H b
    rw [putZ_off as ps _ (fun z => h (List.mem_cons_of_mem _ z)), upd_ne (fun z => h (by rw [z]; exact List.mem_cons_self))]
theorem putZ_at : ∀ (as : List Addr) (ps : List (V × V)) (H : Hp), as.length = ps.length → as.Nodup → ∀ (j : Nat) (t : Addr) (p : V × V), as[j]? = some t → ps[j]? = some p → putZ H as ps t = some (.tup [p.1, p.2])
  | [], [], _, _, _, j, _, _, h, _ => by simp at h
  | [], _ :: _, _, h, _, _, _, _, _, _ => by cases h
  | _ :: _, [], _, h, _, _, _, _, _, _ => by cases h
  | a :: as, q :: ps, H, h, hn, 0, t, p, h1, h2 => by
    have hn' := List.nodup_cons.mp hn
    simp at h1 h2
    subst h1; subst h2
    show putZ (upd H a (.tup [q.1, q.2])) as ps a = some (.tup [q.1, q.2])
    rw [putZ_off as ps _ hn'.1, upd_same]
  | a :: as, q :: ps, H, h, hn, j + 1, t, p, h1, h2 => putZ_at as ps _ (Nat.succ.inj h) (List.nodup_cons.mp hn).2 j t p (by simpa using h1) (by simpa using h2)
def rZipL (K : PySem.W.Frag) : List V → Hp → VK → Prop := fun vs H Q => ∃ a b xs ys, vs = [.ref a, .ref b] ∧ SqL K H a xs ∧ SqL K H b ys ∧ ∀ (H' : Hp) (l : Addr) (ts : List Addr), (∀ b u, H b = some u → H' b = some u) → H l = none → H' l = some (.lst (ts.map V.ref)) →
  ts.length = min xs.length ys.length → (∀ (j : Nat) (t : Addr), ts[j]? = some t → H t = none ∧ ∃ x y, xs[j]? = some x ∧ ys[j]? = some y ∧ H' t = some (.tup [x, y])) → Q (.ref l) H'
theorem pe_listZip {e : List Expr} {ta : TA} (hc : X.calm = true) (hg : Gl X "list") (hm : X.mg "list" = none) (hg2 : Gl X "zip") (hm2 : X.mg "zip" = none) (ha : PA X [a, b] ta) (hs : ∀ x p, a ≠ .Starred x p) (hs2 : ∀ x p, b ≠ .Starred x p) :
    PE X (.Call (.Name "list" p) [.Call (.Name "zip" p2) [a, b] [] p3] [] pos) (tCB (rZipL X.K) ta) := by
  refine ⟨fun pins sh σ H Q I h => ?_⟩
  refine Call_ (ld_blt I hg hm boot_list ?_)
  refine PyProof.Rows.callWith_type1 (PyProof.Rows.args_cons ?_ (star_plain fun x p => by simp)) (star_plain fun x p => by simp) rfl
  refine Call_ (ld_blt I hg2 hm2 PyProof.Rows.boot_zip ?_)
  refine PyProof.Rows.callWith_type1 (thn (ha.run p3 pins sh σ H _ I h) fun us s1 ⟨vs, H1, I1, r1, q1⟩ => ?_) (star_plain hs) (backTo_any fun e' he => by simp at he; subst he; exact hs2)
  obtain ⟨la, lb, xs, ys, e, hqx, hqy, q⟩ := q1
  subst e
  cases r1 with
  | cons r rr => cases rr with
    | cons r' rr =>
      cases rr
      cases r
      cases r'
      obtain ⟨its, rv, p1, hz1⟩ := I1.list hqx
      obtain ⟨its2, rv2, p2', hz2⟩ := I1.list hqy
      have la_lt := p1.lt
      have lb_lt := p2'.lt
      refine call_zip_2 p1.isList p2'.isList fun h1 hz hTI hTO hi1 hi2 hsz hk => PyProof.Rows.args_nil ?_
      have I2 : Inv X pins σ H1 { s1 with heap := h1 } := I1.kept (t' := s1.toks) hk
      have D := PySem.W.ktu_apart s1.heap.objs.size la lb la_lt lb_lt
      generalize hN : s1.heap.objs.size = N at *
      have l1 := rv.length
      have l2 := rv2.length
      have hn : min its.toArray.size its2.toArray.size = min xs.length ys.length := by simp; omega
      refine zl_call (s := { s1 with heap := h1 }) (xs := its.toArray) (ys := its2.toArray) (I.ok.hd hc) D (by rw [hn]; exact Nat.le_trans (Nat.min_le_left _ _) hz1) (fun S => ⟨hTI, hi1, hi2, p1.isList.at fun o e => hk _ _ e, p2'.isList.at fun o e => hk _ _ e, .inl ⟨hz, _, _, hTO⟩⟩) (fun b hb => ?_) hz fun h' tk acc c as hk' hS hl hG hacc => ?_
      · have hb' : b = N + 4 ∨ b = N + 2 ∨ b = N + 3 ∨ b = N ∨ b = N + 1 ∨ b = la ∨ b = lb := by simpa using hb
        show b < h1.objs.size
        rw [hsz]
        rcases hb' with z | z | z | z | z | z | z <;> (rw [z]; first | exact Nat.lt_add_of_pos_right (by decide) | exact Nat.add_lt_add_left (by decide) N | exact Nat.lt_of_lt_of_le (by assumption) (Nat.le_add_right _ _))
      · dsimp only at hS hG hk' ⊢
        have nd : as.Nodup := List.Pairwise.imp (fun {a b} (h : a < b) => Nat.ne_of_lt h) hG.rise
        have hN5 : N ≤ h1.objs.size := by rw [hsz]; exact Nat.le_add_right _ _
        have kall : ∀ b o, s1.heap.get? b = some o → h'.get? b = some o := fun b o e => by
          refine hk' b o (fun m => ?_) (hk b o e)
          have hlt := Heap.lt_size e
          rw [hN] at hlt
          have m' : b = N + 4 ∨ b = N + 3 ∨ b = N ∨ b = N + 1 := by simpa using m
          rcases m' with z | z | z | z <;> (rw [z] at hlt; first | exact absurd hlt (Nat.lt_irrefl _) | exact absurd hlt (Nat.not_lt.mpr (Nat.le_add_right _ _)))
        have hfr : ∀ b, N ≤ b → H1 b = none := fun b hb => I1.hok.fresh (by rw [hN]; exact hb)
        have newS : H1 h1.objs.size = none := hfr _ hN5
        have newT : ∀ t ∈ as, H1 t = none := fun t ht => hfr t (Nat.le_trans (Nat.le_succ_of_le hN5) (hG.above t ht))
        have hSn : h1.objs.size ∉ as := fun z => absurd (hG.above _ z) (Nat.not_le.mpr (Nat.lt_succ_self _))
        generalize hps : xs.zip ys = ps
        have psl : as.length = ps.length := by rw [← hps, List.length_zip, hl, hn]
        have psat : ∀ (j : Nat) (q : V × V), ps[j]? = some q → xs[j]? = some q.1 ∧ ys[j]? = some q.2 := fun j q e => by
          rw [← hps] at e
          exact List.getElem?_zip_eq_some.mp e
        have atZ := putZ_at as ps (upd H1 h1.objs.size (.lst (as.map V.ref))) psl nd
        have off : ∀ b, b ∉ as → b ≠ h1.objs.size → putZ (upd H1 h1.objs.size (.lst (as.map V.ref))) as ps b = H1 b := fun b z1 z2 => by rw [putZ_off as ps _ z1, upd_ne z2]
        have kp : ∀ b u, H1 b = some u → putZ (upd H1 h1.objs.size (.lst (as.map V.ref))) as ps b = some u := fun b u e => by
          rw [off b (fun z => by rw [newT b z] at e; cases e) (fun z => by rw [z, newS] at e; cases e)]
          exact e
        have eS : putZ (upd H1 h1.objs.size (.lst (as.map V.ref))) as ps h1.objs.size = some (.lst (as.map V.ref)) := by rw [putZ_off as ps _ hSn, upd_same]
        have pairs : ∀ (j : Nat) (t : Addr), as[j]? = some t → ∃ x y, xs[j]? = some x ∧ ys[j]? = some y ∧ putZ (upd H1 h1.objs.size (.lst (as.map V.ref))) as ps t = some (.tup [x, y]) := fun j t e => by
          have hj : j < ps.length := by rw [← psl]; exact (List.getElem?_eq_some_iff.mp e).1
          have e2 : ps[j]? = some ps[j] := List.getElem?_eq_getElem hj
          obtain ⟨x1, x2⟩ := psat j _ e2
          exact ⟨_, _, x1, x2, atZ j t _ e e2⟩
        generalize hHZ : putZ (upd H1 h1.objs.size (.lst (as.map V.ref))) as ps = HZ at off kp eS pairs
        have J : Inv X pins σ HZ { s1 with heap := h', toks := tk } := by
          refine laid_many I1 kall kp fun b u e => ?_
          by_cases hb : b ∈ as
          · obtain ⟨j, hj⟩ := List.mem_iff_getElem?.mp hb
            obtain ⟨x, y, ex, ey, et⟩ := pairs j b hj
            rw [et] at e; cases e
            obtain ⟨xv, yv, f1, f2, f3⟩ := hG.pairs j b hj
            refine .inr ⟨by rw [hN]; exact Nat.le_trans (Nat.le_succ_of_le hN5) (hG.above b hb), by show 2 ≤ sizeLine; decide, [xv, yv], ?_, ⟨_, f3, rfl, _, rfl⟩⟩
            obtain ⟨u1, g1, rr1⟩ := rv.get ex
            obtain ⟨u2, g2, rr2⟩ := rv2.get ey
            have e1 : xv = u1 := Option.some.inj (f1.symm.trans (toA g1))
            have e2 : yv = u2 := Option.some.inj (f2.symm.trans (toA g2))
            subst e1; subst e2
            exact .cons rr1 (.cons rr2 .nil)
          · by_cases hb2 : b = h1.objs.size
            · subst hb2
              rw [eS] at e; cases e
              refine .inr ⟨by rw [hN]; exact hN5, by rw [List.length_map, hl, hn]; exact Nat.le_trans (Nat.min_le_left _ _) hz1, acc.toList, c, by rw [hacc]; exact LiI.vals_refs as, ?_⟩
              rw [Array.toArray_toList]
              exact hS
            · exact .inl (by rw [← off b hb hb2]; exact e)
        exact ⟨.ref _, HZ, J, rfl, q HZ _ as kp newS eS (by rw [hl, hn]) fun j t e => ⟨newT t (List.mem_of_getElem? e), pairs j t e⟩⟩
theorem zipP_get : ∀ (xs ys : List PV) (j : Nat) (p : PV), (zipP xs ys)[j]? = some p → ∃ x y, xs[j]? = some x ∧ ys[j]? = some y ∧ p = .tup [x, y]
  | [], _, j, p, h => by simp [zipP] at h
  | _ :: _, [], j, p, h => by simp [zipP] at h
  | x :: xs, y :: ys, 0, p, h => by simp [zipP] at h; exact ⟨x, y, rfl, rfl, h.symm⟩
  | x :: xs, y :: ys, j + 1, p, h => by
    obtain ⟨u, v, h1, h2, h3⟩ := zipP_get xs ys j p (by simpa [zipP] using h)
    exact ⟨u, v, by simpa using h1, by simpa using h2, h3⟩
theorem zipP_len : ∀ (xs ys : List PV), (zipP xs ys).length = min xs.length ys.length
  | [], _ => by simp [zipP]
  | _ :: _, [] => by simp [zipP]
  | x :: xs, y :: ys => by simp [zipP, zipP_len xs ys]
theorem repL_of {K : PySem.W.Frag} {C : Cells} : ∀ {xs : List PV} {vs : List V}, xs.length = vs.length → (∀ (j : Nat) (x : PV) (v : V), xs[j]? = some x → vs[j]? = some v → RepV K G.toFT C θ S x v) → RepL K G.toFT C θ S xs vs
  | [], [], _, _ => .nil
  | [], _ :: _, h, _ => by simp at h
  | _ :: _, [], h, _ => by simp at h
  | x :: xs, v :: vs, h, f => .cons (f 0 x v rfl rfl) (repL_of (by simpa using h) fun j y w h1 h2 => f (j + 1) y w (by simpa using h1) (by simpa using h2))
theorem cal_zipL {K : PySem.W.Frag} : CalS K G (vblt .zipL2) (fun vs H Q => rZipL K vs H Q) := by
  intro θ S H mu C ps z vs Q e rs r k
  unfold vblt at e
  split at e <;> try (cases e; done)
  all_goals (try contradiction)
  rename_i xs ys _
  cases e
  obtain ⟨v, w, rfl, r1, r2⟩ := rep2 r
  obtain ⟨la, us, rfl, h1, q1⟩ := r1.seqL rs.same
  obtain ⟨lb, ws, rfl, h2, q2⟩ := r2.seqL rs.same
  refine ⟨la, lb, us, ws, rfl, h1, h2, fun H' l ts kp nl hl htl hts => ?_⟩
  have st := Ste.more (θ := θ) rs.same kp
  refine k _ H' _ st (rs.more kp) (.lst (by rw [more_new nl]; exact hl) (repL_of (by rw [zipP_len, List.length_map, htl, q1.length, q2.length]) fun j x u e1 e2 => ?_))
  rw [List.getElem?_map] at e2
  cases e3 : ts[j]? with
  | none => rw [e3] at e2; cases e2
  | some t =>
    rw [e3] at e2
    cases e2
    obtain ⟨n1, xv, yv, f1, f2, f3⟩ := hts j t e3
    obtain ⟨x', y', g1, g2, rfl⟩ := zipP_get xs ys j x e1
    obtain ⟨u1, i1, j1⟩ := q1.get g1
    obtain ⟨u2, i2, j2⟩ := q2.get g2
    rw [f1] at i1; cases i1
    rw [f2] at i2; cases i2
    refine .tup (by rw [more_new n1]; exact f3) (.cons (RepV.mono st.sS (Pre.refl _) (fun _ _ z => z) j1) (.cons (RepV.mono st.sS (Pre.refl _) (fun _ _ z => z) j2) .nil))
theorem sd_listZip {is : IEs} (hc : X.calm = true) (hg : Gl X "list") (hm : X.mg "list" = none) (hg2 : Gl X "zip") (hm2 : X.mg "zip" = none) (ha : PA X [a, b] (tDs X G En C0 W (evs Φ is))) (hs : ∀ x p, a ≠ .Starred x p) (hs2 : ∀ x p, b ≠ .Starred x p) :
    PE X (.Call (.Name "list" p) [.Call (.Name "zip" p2) [a, b] [] p3] [] pos) (tD X G En C0 W (ev Φ (.blt .zipL2 is))) :=
  (pe_listZip (e := []) hc hg hm hg2 hm2 ha hs hs2).wk fun σ H Q h => imp_cal cal_zipL h

/-! ### list(d.values()) -/
def rValsL : V → Hp → VK → Prop := fun x H Q => ∃ d kvs, x = .ref d ∧ Rd H d (.dK kvs) ∧ ∀ q, H q = none → Q (.ref q) (upd H q (.lst (kvs.map (·.2))))
theorem kv_snd : ∀ {kvs : List (Key × V)} {vs : List (Key × Value)}, KV kvs vs → Vals (kvs.map (·.2)) (vs.map (·.2))
  | _, _, .nil => .nil
  | _, _, .cons h r => .cons h.2 (kv_snd r)
theorem pe_listVals {te : TE} (hc : X.calm = true) (hg : Gl X "list") (hm : X.mg "list" = none) (he : PE X a te) (hbase : attributeBase a "values" X.env (eval a X.env) = eval a X.env) (hline : (p2.endLine == p3.line) = true) :
    PE X (.Call (.Name "list" p) [.Call (.Attribute a "values" p2) [] [] p3] [] pos) (fun σ H Q => te σ H fun x H1 => rValsL x H1 Q) := by
  refine ⟨fun pins s σ H Q I hq => ?_⟩
  have hs : starEach [.Call (.Attribute a "values" p2) [] [] p3] X.env = (false, eval (.Call (.Attribute a "values" p2) [] [] p3) X.env) :: starEach [] X.env := star_plain fun x p => by simp
  refine wpAny_Call_Name_kw (ld_blt I hg hm boot_list ?_)
  refine PyProof.Rows.callWith_type1 ?_ hs rfl
  rw [hs]
  show wpAny _ _ (spliced ((false, eval (.Call (.Attribute a "values" p2) [] [] p3) X.env) :: backTo pos (starEach [] X.env))) _ _ s
  refine Calls.spliced_cons ?_
  refine wpAny_Call_method (T := "dict") (id := "dict.values") hbase rfl hline F.plainAttrs_dict F.slot_dict_values F.type_dict_values (thn (he.run pins s σ H _ I hq) fun u s1 ⟨x, H1, I1, rx, d, kvs, ex, hd, q⟩ => ?_)
  subst ex
  obtain rfl : u = Value.ref d := rx
  obtain ⟨hz, hs0, vs, kv, hdo⟩ := dk_rd I1.hok hd
  obtain ⟨ep, hat⟩ := hdo.dictAt
  have lk : kvs.length = vs.length := Paired.length kv
  have I2 : Inv X pins σ H1 { s1 with heap := s1.heap.push { cls := .type "dict_values", data := .fields #[.ref d] } } := I1.kept (t' := s1.toks) fun b ob q => Heap.get?_push_of_some _ q
  refine ⟨hdo.typeIs, hdo.mapOf.noDict, ?_⟩
  show wpAny _ _ (callWith p3 (.builtin "dict.values") [.ref d] [] []) _ X.xe s1
  refine method_meetsIn F.slot_dict_values F.entry_dict_values rfl (PySem.evalArgs_none ⟨rfl, hdo.typeIs, F.args_dict_values_1 _, _, meets_dict_values (mixKind X.prog X.w) d hs0, ⟨vs, hdo⟩, ?_⟩)
  refine Calls.spliced_nil ?_
  refine PySem.W.kdl_call (PySem.W.kdl_values (knd := mixKind X.prog X.w) (kvs := vs) (ep := ep)) (I1.ok.hd hc) ⟨⟨_, Heap.get?_push_size _ rfl, rfl, rfl⟩, hat.push _⟩ (by rw [← lk]; exact hz) fun h' tk acc c hk hS hacc => ?_
  have e : acc.toList = vs.map (·.2) := PySem.W.kdl_vals_eq acc.toList (by rw [Array.length_toList]; exact hacc.1) fun j v e => hacc.2 j v (by rw [← Array.getElem?_toList]; exact e)
  refine ⟨.ref _, upd H1 _ (.lst (kvs.map (·.2))), I2.laid hk (Nat.le_refl _) ⟨by rw [List.length_map]; exact hz, acc.toList, c, by rw [e]; exact kv_snd kv, by rw [Array.toArray_toList]; exact hS⟩, rfl, q _ (I2.hok.fresh (Nat.le_refl _))⟩
theorem RepK.snd {K : PySem.W.Frag} {C : Cells} : ∀ {x : List (Key × PV)} {v : List (Key × V)}, RepK K G.toFT C θ S x v → RepL K G.toFT C θ S (x.map (·.2)) (v.map (·.2))
  | _, _, .nil => .nil
  | _, _, .cons h r => .cons h (RepK.snd r)
theorem sd_listVals (hc : X.calm = true) (hg : Gl X "list") (hm : X.mg "list" = none) (he : PE X a (tP X G En C0 W (ev Φ ia))) (hbase : attributeBase a "values" X.env (eval a X.env) = eval a X.env) (hline : (p2.endLine == p3.line) = true) :
    PE X (.Call (.Name "list" p) [.Call (.Attribute a "values" p2) [] [] p3] [] pos) (tD X G En C0 W (ev Φ (.blt .listVals (.cons ia .nil)))) :=
  (pe_listVals hc hg hm he hbase hline).wk fun σ H Q ⟨θ, S, s, R, h⟩ => by
    refine ⟨θ, S, s, R, (PostR.bind (PostR.bind h)).imp fun x s1 θ1 S1 H1 _ e1 R1 h1 u ru => ?_⟩
    have h2 := PostR.bind h1 θ1 S1 H1 (Ste.refl _ _ _) R1
    have h3 := h2 θ1 S1 H1 (Ste.refl _ _ _) R1
    cases x <;> simp only [vblt] at h3 <;> try (exact h3.elim)
    obtain ⟨d, vs, rfl, hr, r⟩ := ru.dcts R1.rs.same
    exact ⟨d, vs, rfl, hr, fun q nq => fin_lst R1.rs nq r.snd (R1.fin (C := noC) h3)⟩

/-! ### sorted(set(t)) -/
def rSetT (K : PySem.W.Frag) (w : World) : List V → Hp → VK → Prop := fun vs H Q => ∃ (l : Addr) (ns : List Int), vs = [.ref l] ∧ SqT K H l (ns.map V.int) ∧ ns.length < 64 ∧ ∀ (p : Addr) (c : Nat), H p = none → c ≤ ns.length → Q (.ref p) (upd H p (SetO w p (fun j => decide (j ∈ ns)) c))
theorem cr_setT (hc : X.calm = true) : CallR X (.type "set") (rSetT X.K X.w) := by
  intro pins s σ H xs us Q I r h
  obtain ⟨l, ns, rfl, hq, hl, q⟩ := h
  rw [Vals.ref1 r]
  obtain ⟨its, rv, pt, hz⟩ := I.tuple hq
  have hi : IntsAre its.toArray.toList ns := by simpa using ints_of_vals rv
  refine call_set_tupI ns (I.ok.hd hc) (show s.heap.IsTuple l its.toArray from pt) hi (by unfold scanBound; omega) fun h' tk c R1 hcn k => ?_
  exact ⟨.ref _, upd H s.heap.objs.size (SetO X.w s.heap.objs.size (fun j => decide (j ∈ ns)) c), I.laid (t' := tk) k (Nat.le_refl _) (setO_new R1), rfl, q _ c (I.hok.fresh (Nat.le_refl _)) hcn⟩
theorem insI_mem {x y : Int} : ∀ {l : List Int}, y ∈ insI x l ↔ y = x ∨ y ∈ l
  | [] => by simp [insI]
  | z :: l => by
    unfold insI
    split
    · simp
    · split
      · rename_i h; subst h; simp
      · simp only [List.mem_cons, insI_mem (l := l)]
        constructor
        · rintro (h | h | h) <;> simp [h]
        · rintro (h | h | h) <;> simp [h]
theorem insI_asc {x : Int} : ∀ {l : List Int}, l.Pairwise (· < ·) → (insI x l).Pairwise (· < ·)
  | [], _ => by simp [insI]
  | z :: l, h => by
    have h1 := List.pairwise_cons.mp h
    unfold insI
    split
    · rename_i c
      refine List.pairwise_cons.mpr ⟨fun y hy => ?_, h⟩
      rcases List.mem_cons.mp hy with rfl | hy
      · exact c
      · exact Int.lt_trans c (h1.1 y hy)
    · split
      · exact h
      · refine List.pairwise_cons.mpr ⟨fun y hy => ?_, insI_asc h1.2⟩
        rcases insI_mem.mp hy with rfl | hy
        · omega
        · exact h1.1 y hy
theorem ascI_mem {y : Int} : ∀ {l : List Int}, y ∈ ascI l ↔ y ∈ l
  | [] => by simp [ascI]
  | x :: l => by simp only [ascI, insI_mem, List.mem_cons, ascI_mem (l := l)]
theorem ascI_asc : ∀ (l : List Int), (ascI l).Pairwise (· < ·)
  | [] => by simp [ascI]
  | x :: l => insI_asc (ascI_asc l)
theorem asc_eq : ∀ {l m : List Int}, l.Pairwise (· < ·) → m.Pairwise (· < ·) → (∀ y, y ∈ l ↔ y ∈ m) → l = m
  | [], [], _, _, _ => rfl
  | [], y :: m, _, _, h => by have := (h y).mpr List.mem_cons_self; cases this
  | x :: l, [], _, _, h => by have := (h x).mp List.mem_cons_self; cases this
  | x :: l, y :: m, h1, h2, h => by
    have a1 := List.pairwise_cons.mp h1
    have a2 := List.pairwise_cons.mp h2
    have e : x = y := by
      rcases List.mem_cons.mp ((h x).mp List.mem_cons_self) with e | hx
      · exact e
      · rcases List.mem_cons.mp ((h y).mpr List.mem_cons_self) with e | hy
        · exact e.symm
        · have := a1.1 y hy
          have := a2.1 x hx
          omega
    subst e
    congr 1
    refine asc_eq a1.2 a2.2 fun z => ⟨fun hz => ?_, fun hz => ?_⟩
    · rcases List.mem_cons.mp ((h z).mp (List.mem_cons_of_mem _ hz)) with e | q
      · have := a1.1 z hz; omega
      · exact q
    · rcases List.mem_cons.mp ((h z).mpr (List.mem_cons_of_mem _ hz)) with e | q
      · have := a2.1 z hz; omega
      · exact q
theorem sd_ssort (hc : X.calm = true) (hg : Gl X "sorted") (hm : X.mg "sorted" = none) (hg2 : Gl X "set") (hm2 : X.mg "set" = none) (hs : ∀ x p, a ≠ .Starred x p) (ha : PE X a (tD X G En C0 W (ev Φ ia))) :
    PE X (.Call (.Name "sorted" p) [.Call (.Name "set" p2) [a] [] p3] [] pos) (tD X G En C0 W (ev Φ (.ssort ia))) := by
  have hset := pe_callTy (p := p2) (pos := p3) (cr_setT hc) hg2 hm2 PyProof.Rows.boot_set (pa_cons ha pa_nil (star_plain hs)) (by decide) (by decide) (star_plain hs) (by rfl)
  refine (pe_callB (p := p) (pos := pos) (cr_sortedSet hc) hg hm PyProof.Rows.boot_sorted (pa_cons hset pa_nil (star_plain fun x p => by simp)) (by decide) (by decide) (star_plain fun x p => by simp) (by rfl)).wk fun σ H Q ⟨θ, S, s, R, h⟩ => ?_
  refine ⟨θ, S, s, R, (PostR.bind h).imp fun x s1 θ1 S1 H1 _ e1 R1 h1 u ru => ?_⟩
  cases x <;> try (exact h1.elim)
  · rename_i xs _
    simp only [tupOf, Option.bind_some] at h1
    cases q : intsOf xs with
    | none => rw [q] at h1; exact h1.elim
    | some ns =>
      rw [q] at h1
      simp only [Option.bind_some] at h1
      split at h1
      · rename_i hl
        obtain ⟨l, vs, rfl, hq, r⟩ := ru.seqT R1.rs.same
        have ev' := r.ints q
        subst ev'
        refine ⟨l, ns, rfl, hq, hl, fun q' c nq hcn => ?_⟩
        refine ⟨q', _, c, rfl, upd_same, by omega, fun ms p0 hp hm hlen hn0 => ?_⟩
        have e : ms = ascI ns := asc_eq hp (ascI_asc ns) fun y => by rw [hm y, ascI_mem]; simp
        subst e
        have st := Ste.junk (θ := θ1) (S := S1) (o := SetO X.w q' (fun j => decide (j ∈ ns)) c) nq
        have R2 := R1.step st (R1.rs.junk nq)
        have rl : RepL X.K G.toFT (CC X C0 σ s1.cap) θ1 S1 ((ascI ns).map PV.int) ((ascI ns).map V.int) := by
          generalize ascI ns = l
          induction l with
          | nil => exact .nil
          | cons a l ih => exact .cons (.int _) ih
        exact fin_lst R2.rs hn0 rl (R2.fin (C := noC) (h1.of st))
      · exact h1.elim

/-! ### dict get -/
theorem sd_dget1 {a e : Expr} {ie : IE} {apos cpos : Pos} (hu : X.A.units + 1 < cLine) (ha : PE X a (tP X G En C0 W (ev Φ ia))) (he : PE X e (tD X G En C0 W (ev Φ ie))) (m : M1 X a "get" apos e cpos) :
    PE X (.Call (.Attribute a "get" apos) [e] [] cpos) (tD X G En C0 W (ev Φ (.dget1 ia ie))) :=
  (pe_dget1 hu ha he m).wk fun σ H Q ⟨θ, S, s, R, h⟩ => by
    refine ⟨θ, S, s, R, (PostR.bind h).imp fun x s1 θ1 S1 H1 _ e1 R1 h1 u ru => ?_⟩
    cases x <;> try (exact h1.elim)
    rename_i kvs _
    obtain ⟨d, vs, rfl, hr, r⟩ := ru.dcts R1.rs.same
    refine ⟨d, rfl, .inl ⟨vs, hr⟩, θ1, S1, s1, R1, (PostR.bind h1).imp fun y s2 θ2 S2 H2 q2 e2 R2 h2 v rv => ?_⟩
    obtain ⟨d', vs2, ed, hr2, r2⟩ := (ru.step e2 (CC.mono (ev_grow Φ ie s1 y s2 q2).1)).dcts R2.rs.same
    cases ed
    cases q : keyOf y with
    | none => rw [q] at h2; exact h2.elim
    | some k =>
      rw [q] at h2
      refine ⟨valV vs2 k, .inl ⟨vs2, k, hr2, rv.key q, rfl⟩, ?_⟩
      rcases r2.look (k := k) with ⟨f1, f2⟩ | ⟨p, w, f1, f2, f3⟩
      · simp only [f1, Option.map_some] at h2
        rw [f2]
        exact R2.now h2 .non
      · simp only [f1, Option.map_some] at h2
        rw [f2]
        exact R2.now h2 f3
theorem sd_dget2 {a e f : Expr} {ie i2 : IE} {apos cpos : Pos} (hu : X.A.units + 1 < cLine) (ha : PE X a (tP X G En C0 W (ev Φ ia))) (he : PE X e (tD X G En C0 W (ev Φ ie))) (hf : PE X f (tD X G En C0 W (ev Φ i2))) (m : M2 X a "get" apos e f cpos) :
    PE X (.Call (.Attribute a "get" apos) [e, f] [] cpos) (tD X G En C0 W (ev Φ (.dget2 ia ie i2))) :=
  (pe_dget2 hu ha he hf m).wk fun σ H Q ⟨θ, S, s, R, h⟩ => by
    refine ⟨θ, S, s, R, (PostR.bind h).imp fun x s1 θ1 S1 H1 _ e1 R1 h1 u ru => ?_⟩
    cases x <;> try (exact h1.elim)
    rename_i kvs _
    obtain ⟨d, vs, rfl, hr, r⟩ := ru.dcts R1.rs.same
    refine ⟨d, rfl, .inl ⟨vs, hr⟩, θ1, S1, s1, R1, (PostR.bind h1).imp fun y s2 θ2 S2 H2 q2 e2 R2 h2 v rv => ?_⟩
    refine ⟨θ2, S2, s2, R2, (PostR.bind h2).imp fun z s3 θ3 S3 H3 q3 e3 R3 h3 w rw' => ?_⟩
    obtain ⟨d', vs2, ed, hr2, r2⟩ := ((ru.step e2 (CC.mono (ev_grow Φ ie s1 y s2 q2).1)).step e3 (CC.mono (ev_grow Φ i2 s2 z s3 q3).1)).dcts R3.rs.same
    cases ed
    cases q : keyOf y with
    | none => rw [q] at h3; exact h3.elim
    | some k =>
      rw [q] at h3
      refine ⟨valV vs2 k, .inl ⟨vs2, k, hr2, rv.key q, rfl⟩, ?_⟩
      rcases r2.look (k := k) with ⟨f1, f2⟩ | ⟨p, w', f1, f2, f3⟩
      · simp only [f1, Option.map_some] at h3
        rw [f2]
        exact R3.now h3 rw'
      · simp only [f1, Option.map_some] at h3
        rw [f2]
        exact R3.now h3 f3
end
end TL

set_option linter.all false
set_option maxRecDepth 100000
set_option maxHeartbeats 1000000
/-! TLSnd9: what is walked. Own work. -/
namespace TL
open PySem PySem.Spec PyProof.Rows L2 NdefX
theorem meets_enum1 {v : Value} {o : Obj} {H : Heap → Prop} (B : Begins v o H) :
    Meets (Builtin.«enumerate.__new__» ⟨[.type "enumerate", v], []⟩) (fun _ R s => H s.heap ∧
      R (.ok (.ret (.ref (s.heap.push o).objs.size))) { s with heap := (s.heap.push o).push { cls := .type "enumerate", data := .fields #[.none, .bool false, .ref s.heap.objs.size, rawInt 0, .none, .none] } }) :=
  .of_wp fun prog w A R s h => by
    obtain ⟨hp, g, d, tk, os⟩ := s; obtain ⟨h1, h⟩ := h
    have hsub := sub_enumerate
    have q1 : ∀ {A' : Around} {E : Value → Shared → Prop} {Q : Value → Shared → Prop}, Q (.ref hp.objs.size) ⟨hp.push o, g, d, tk, os⟩ → wpAny (model prog w) A' (pyIter v) Q E ⟨hp, g, d, tk, os⟩ :=
      fun q => B.iter prog w _ _ ⟨hp, g, d, tk, os⟩ _ h1 q
    wp_walk using q1
    refine wpAny_stack_any fun st => wpAny_pure ?_
    split
    · rename_i c _ _ _ _ _
      cases (c == Value.type "enumerate")
      · wp_walk using q1
        exact ⟨_, rfl, h⟩
      · wp_walk using q1
        exact ⟨_, rfl, h⟩
    · wp_walk using q1
      exact ⟨_, rfl, h⟩
section
variable {prog : Program} {w : World} {A : Around} {E : Value → Shared → Prop} {s : Shared}
theorem enum1_begins {v : Value} {o : Obj} {H : Heap → Prop} {Q : Value → Shared → Prop} (B : Begins v o H) (h1 : H s.heap)
    (h : ∀ h', IsEnum h' (s.heap.objs.size + 1) s.heap.objs.size 0 .none → h'.get? s.heap.objs.size = some o → h'.objs.size = s.heap.objs.size + 2 →
      (∀ b o, s.heap.get? b = some o → h'.get? b = some o) → Q (.ref (s.heap.objs.size + 1)) { s with heap := h' }) :
    wpAny (model prog w) A (call (.type "enumerate") [v]) Q E s := by
  refine callType_new F.called_enumerate (by decide) (F.typeCall_enumerate_1 _) (F.newCall_enumerate_1 _) (fun obj => F.args_object_init_2 obj _) F.entry_enumerate_new
    (meets_enum1 B) ⟨h1, ?_⟩
  have hz : (s.heap.push o).objs.size = s.heap.objs.size + 1 := Heap.size_push ..
  show _ ∧ _
  rw [hz]
  have he : IsEnum ((s.heap.push o).push { cls := .type "enumerate", data := .fields #[.none, .bool false, .ref s.heap.objs.size, rawInt 0, .none, .none] }) (s.heap.objs.size + 1) s.heap.objs.size 0 .none := by
    have := Heap.get?_push_size (s.heap.push o) (o := { cls := .type "enumerate", data := .fields #[.none, .bool false, .ref s.heap.objs.size, rawInt 0, .none, .none] }) rfl
    rw [hz] at this; exact this
  refine ⟨⟨_, he, rfl⟩, h _ he (Heap.get?_push_of_some _ (Heap.get?_push_size _ B.free)) (by rw [Heap.size_push, hz]) fun b o x => Heap.get?_push_of_some _ (Heap.get?_push_of_some _ x)⟩
end
section
variable {X : Cx} {G : GT} {En : Ent} {C0 : Cells} {W : WX} {θ θ' : List Addr} {S S' H H' : Hp} {σ : L2.St} {s : DS} {Φ : Phi}
variable {a b c tg : Expr} {ia ib ic : IE} {pos p p2 p3 tpos : Pos} {elts : List Expr} {kk : Nat}
/-! ### iterators -/
def iE (K : PySem.W.Frag) (ta : TA) : TI := fun σ H R => ta σ H fun vs H1 => ∃ k a xs, vs = [.ref a] ∧ SqK K k H1 a xs ∧ R (ItE K k a) H1
theorem pi_E {ta : TA} (hg : Gl X "enumerate") (hm : X.mg "enumerate" = none) (ha : PA X [a] ta) (hs : ∀ x p, a ≠ .Starred x p) : PI X (.Tuple elts kk tpos) (.Call (.Name "enumerate" p) [a] [] pos) (iE X.K ta) := by
  refine ⟨fun pins s σ H R I h => ?_⟩
  refine Call_ (ld_blt I hg hm boot_enumerate (PyProof.Rows.callWith_type1 (thn (ha.run pos pins s σ H _ I h) fun us s1 ⟨vs, H1, I1, r1, q1⟩ => ?_) (star_plain hs) rfl))
  obtain ⟨k, la, xs, ex, hq, q⟩ := q1
  subst ex
  rw [Vals.ref1 r1]
  obtain ⟨its, rv, pp⟩ := inv_srcs I1 hq
  have hlt := pp.lt
  refine enum1_begins (begins_src k la its.toArray) pp fun h' he hit hsz hk => wpAny_pyIter_enum he ?_
  have I2 : Inv X pins σ H1 { s1 with heap := h' } := I1.kept (t' := s1.toks) hk
  refine ⟨s1.heap.objs.size + 1, [s1.heap.objs.size + 1, s1.heap.objs.size], _, _, H1, rfl, I2, turn_E (k := k) (a := la) (e := s1.heap.objs.size + 1) (it := s1.heap.objs.size) (Nat.ne_of_lt hlt) (Nat.succ_ne_self _) (Nat.ne_of_gt (Nat.lt_succ_of_lt hlt)), ⟨⟨.none, he⟩, .new hit⟩, fun b hb => ?_, q⟩
  have e' : b = s1.heap.objs.size + 1 ∨ b = s1.heap.objs.size := by simpa using hb
  have hle : s1.heap.objs.size ≤ b := by
    rcases e' with z | z
    · rw [z]; exact Nat.le_add_right _ _
    · rw [z]; exact Nat.le_refl _
  exact I1.fpOk hle (I1.hok.fresh hle)
def iZ (K : PySem.W.Frag) (ta : TA) : TI := fun σ H R => ta σ H fun vs H1 => ∃ k a xs l b ys, vs = [.ref a, .ref b] ∧ SqK K k H1 a xs ∧ SqK K l H1 b ys ∧ R (ItZ K k a l b) H1
theorem pi_Z {ta : TA} (hg : Gl X "zip") (hm : X.mg "zip" = none) (ha : PA X [a, b] ta) (hs : ∀ x p, a ≠ .Starred x p) (hs2 : ∀ x p, b ≠ .Starred x p) : PI X (.Tuple elts kk tpos) (.Call (.Name "zip" p) [a, b] [] pos) (iZ X.K ta) := by
  refine ⟨fun pins s σ H R I h => ?_⟩
  refine Call_ (ld_blt I hg hm PyProof.Rows.boot_zip (PyProof.Rows.callWith_type1 (thn (ha.run pos pins s σ H _ I h) fun us s1 ⟨vs, H1, I1, r1, q1⟩ => ?_) (star_plain hs) (backTo_any fun e' he => by simp at he; subst he; exact hs2)))
  obtain ⟨k, la, xs, l, lb, ys, ex, hqx, hqy, q⟩ := q1
  subst ex
  cases r1 with
  | cons r rr => cases rr with
    | cons r' rr =>
      cases rr
      cases r
      cases r'
      obtain ⟨its, rv, p1⟩ := inv_srcs I1 hqx
      obtain ⟨its2, rv2, p2⟩ := inv_srcs I1 hqy
      have la_lt := p1.lt
      have lb_lt := p2.lt
      refine zip_begins2 (begins_src k la its.toArray) (begins_src l lb its2.toArray) p1 p2 fun h' hz hTI hTO h1 h2 hsz hk => wpAny_pyIter_zip hz ?_
      have I2 : Inv X pins σ H1 { s1 with heap := h' } := I1.kept (t' := s1.toks) hk
      have D := zip_sep2 (N := s1.heap.objs.size) (fp1 := [la]) (fp2 := [lb]) (fun b hb => by simp at hb; subst hb; exact la_lt) (fun b hb => by simp at hb; subst hb; exact lb_lt)
      refine ⟨s1.heap.objs.size + 4, [s1.heap.objs.size + 4, s1.heap.objs.size + 2, s1.heap.objs.size + 3, s1.heap.objs.size, s1.heap.objs.size + 1], _, _, H1, rfl, I2, turn_Z (k := k) (l := l) D (Nat.ne_of_lt la_lt) (Nat.ne_of_lt (Nat.lt_succ_of_lt lb_lt)), ⟨hz, hTI, ⟨_, _, hTO⟩, .new h1, .new h2⟩, fun c hcm => ?_, q⟩
      have e' : c = s1.heap.objs.size + 4 ∨ c = s1.heap.objs.size + 2 ∨ c = s1.heap.objs.size + 3 ∨ c = s1.heap.objs.size ∨ c = s1.heap.objs.size + 1 := by simpa using hcm
      have hle : s1.heap.objs.size ≤ c := by
        rcases e' with z | z | z | z | z <;> (rw [z]; first | exact Nat.le_add_right _ _ | exact Nat.le_refl _)
      exact I1.fpOk hle (I1.hok.fresh hle)
def iW (K : PySem.W.Frag) (ta : TA) : TI := fun σ H R => ta σ H fun vs H1 => ∃ k a xs l b ys m c zs, vs = [.ref a, .ref b, .ref c] ∧ SqK K k H1 a xs ∧ SqK K l H1 b ys ∧ SqK K m H1 c zs ∧ R (ItW K k a l b m c) H1
theorem pi_W {ta : TA} (hg : Gl X "zip") (hm : X.mg "zip" = none) (ha : PA X [a, b, c] ta) (hs : ∀ x p, a ≠ .Starred x p) (hs2 : ∀ x p, b ≠ .Starred x p) (hs3 : ∀ x p, c ≠ .Starred x p) : PI X (.Tuple elts kk tpos) (.Call (.Name "zip" p) [a, b, c] [] pos) (iW X.K ta) := by
  refine ⟨fun pins s σ H R I h => ?_⟩
  refine Call_ (ld_blt I hg hm PyProof.Rows.boot_zip (PyProof.Rows.callWith_type1 (thn (ha.run pos pins s σ H _ I h) fun us s1 ⟨vs, H1, I1, r1, q1⟩ => ?_) (star_plain hs) (backTo_any fun e' he => by simp at he; rcases he with he | he <;> subst he <;> assumption)))
  obtain ⟨k, la, xs, l, lb, ys, m, lc, zs, ex, hqx, hqy, hqz, q⟩ := q1
  subst ex
  cases r1 with
  | cons r rr => cases rr with
    | cons r' rr => cases rr with
      | cons r'' rr =>
        cases rr
        cases r
        cases r'
        cases r''
        obtain ⟨its, rv, p1⟩ := inv_srcs I1 hqx
        obtain ⟨its2, rv2, p2⟩ := inv_srcs I1 hqy
        obtain ⟨its3, rv3, p3⟩ := inv_srcs I1 hqz
        have la_lt := p1.lt
        have lb_lt := p2.lt
        have lc_lt := p3.lt
        refine zip_begins3 (begins_src k la its.toArray) (begins_src l lb its2.toArray) (begins_src m lc its3.toArray) p1 p2 p3 fun h' hz hTI hTO h1 h2 h3 hsz hk => wpAny_pyIter_zip hz ?_
        have I2 : Inv X pins σ H1 { s1 with heap := h' } := I1.kept (t' := s1.toks) hk
        have D := zip_sep3 (N := s1.heap.objs.size) (fp1 := [la]) (fp2 := [lb]) (fp3 := [lc]) (fun b hb => by simp at hb; subst hb; exact la_lt) (fun b hb => by simp at hb; subst hb; exact lb_lt) (fun b hb => by simp at hb; subst hb; exact lc_lt)
        refine ⟨s1.heap.objs.size + 5, [s1.heap.objs.size + 5, s1.heap.objs.size + 3, s1.heap.objs.size + 4, s1.heap.objs.size, s1.heap.objs.size + 1, s1.heap.objs.size + 2], _, _, H1, rfl, I2,
          turn_W (k := k) (l := l) (m := m) D (Nat.ne_of_lt la_lt) (Nat.ne_of_lt (Nat.lt_succ_of_lt lb_lt)) (Nat.ne_of_lt (Nat.lt_succ_of_lt (Nat.lt_succ_of_lt lc_lt))), ⟨hz, hTI, ⟨_, _, _, hTO⟩, .new h1, .new h2, .new h3⟩, fun c hcm => ?_, q⟩
        have e' : c = s1.heap.objs.size + 5 ∨ c = s1.heap.objs.size + 3 ∨ c = s1.heap.objs.size + 4 ∨ c = s1.heap.objs.size ∨ c = s1.heap.objs.size + 1 ∨ c = s1.heap.objs.size + 2 := by simpa using hcm
        have hle : s1.heap.objs.size ≤ c := by
          rcases e' with z | z | z | z | z | z <;> (rw [z]; first | exact Nat.le_add_right _ _ | exact Nat.le_refl _)
        exact I1.fpOk hle (I1.hok.fresh hle)

/-! ### readings -/
/-- J gives the items xs -/
structure WkP (K : PySem.W.Frag) (G : GT) (C : Cells) (θ : List Addr) (S : Hp) (J : It) (xs : List PV) : Prop where
  go : ∀ i S2 H2, Gr S S2 → Same S2 H2 → i < xs.length → J.go i H2
  stop : ∀ S2 H2, Gr S S2 → Same S2 H2 → J.stop xs.length H2
  yld : ∀ i θ2 S2 H2 x H3 mu q, Pre θ θ2 → Gr S S2 → RS K G θ2 S2 H2 mu → xs[i]? = some q → J.yld i H2 x H3 → ∃ S3, Ste θ2 S2 H2 θ2 S3 H3 ∧ RS K G θ2 S3 H3 mu ∧ RepV K G.toFT C θ2 S3 q x
def tI (X : Cx) (G : GT) (En : Ent) (C0 : Cells) (W : WX) (d : DS → DR (List PV)) : TI := fun σ H R => ∃ θ S s, Rel X G En C0 θ S H s σ ∧
  PostR X G En C0 W θ S H σ (d s) fun xs s' θ' S' H' => ∀ J, WkP X.K G (CC X C0 σ s'.cap) θ' S' J xs → R J H'
theorem _root_.L2.PI.or {X : Cx} {tg e : Expr} {t t' : TI} (h : PI X tg e t) (k : PI X tg e t') : PI X tg e (fun σ H R => t σ H R ∨ t' σ H R) := ⟨fun pins s σ H R I q => q.elim (h.run pins s σ H R I) (k.run pins s σ H R I)⟩
theorem wk_seq {K : PySem.W.Frag} {C : Cells} {k : Bool} {la : Addr} {xs : List PV} {vs : List V} {J : It} (hJ : J = if k then Itl K la else Itt K la) (h : ∀ S2 H2, Gr S S2 → Same S2 H2 → SqK K k H2 la vs) (r : RepL K G.toFT C θ S xs vs) : WkP K G C θ S J xs := by
  have l := r.length
  subst hJ
  cases k with
  | true =>
    refine ⟨fun i S2 H2 g e hi => ⟨vs, vs[i]'(by omega), h S2 H2 g e, by simp⟩, fun S2 H2 g e => ⟨vs, h S2 H2 g e, by omega⟩, fun i θ2 S2 H2 x H3 mu q hp g rs hq y => ?_⟩
    obtain ⟨u, h1, h2⟩ := r.get hq
    have e := y.2 vs (h S2 H2 g rs.same)
    rw [h1] at e; cases e
    have e3 : H3 = H2 := y.1
    subst e3
    exact ⟨S2, Ste.refl _ _ _, rs, RepV.mono g hp (fun _ _ z => z) h2⟩
  | false =>
    refine ⟨fun i S2 H2 g e hi => ⟨vs, vs[i]'(by omega), h S2 H2 g e, by simp⟩, fun S2 H2 g e => ⟨vs, h S2 H2 g e, by omega⟩, fun i θ2 S2 H2 x H3 mu q hp g rs hq y => ?_⟩
    obtain ⟨u, h1, h2⟩ := r.get hq
    have e := y.2 vs (h S2 H2 g rs.same)
    rw [h1] at e; cases e
    have e3 : H3 = H2 := y.1
    subst e3
    exact ⟨S2, Ste.refl _ _ _, rs, RepV.mono g hp (fun _ _ z => z) h2⟩
/-- a sequence by its contents, for good -/
theorem RepV.srcs {K : PySem.W.Frag} {C : Cells} {x : PV} {xs : List PV} {v : V} (r : RepV K G.toFT C θ S x v) (h : seqOf x = some xs) : ∃ k la vs, v = .ref la ∧ (∀ S2 H2, Gr S S2 → Same S2 H2 → SqK K k H2 la vs) ∧ RepL K G.toFT C θ S xs vs ∧ (k = true ↔ ∃ ys, x = .lst ys) := by
  cases r with
  | tup e r =>
    cases h
    exact ⟨false, _, _, rfl, fun S2 H2 g e2 => SqT.of (e2 _ _ (g.tup e)), r, by simp⟩
  | lst e r =>
    cases h
    exact ⟨true, _, _, rfl, fun S2 H2 g e2 => .inl (.inl (e2 _ _ (g.lst e))), r, by simp⟩
  | _ => cases h
theorem si_val (ha : PE X a (tD X G En C0 W (ev Φ ia))) : PI X tg a (tI X G En C0 W (evI Φ (.val ia))) := by
  refine ⟨fun pins s σ H R I ⟨θ, S, ds, Rl, h⟩ => ?_⟩
  refine thn (ha.run pins s σ H (fun v H1 => ∃ k la vs, v = .ref la ∧ SqK X.K k H1 la vs ∧ ∀ J, J = (if k then Itl X.K la else Itt X.K la) → R J H1) I ⟨θ, S, ds, Rl, (PostR.bind h).imp fun x s1 θ1 S1 H1 _ e1 R1 h1 u ru => ?_⟩) fun u s1 ⟨v, H1, I1, r1, k, la, vs, ev, hq, hR⟩ => ?_
  · cases q : seqOf x with
    | none => rw [q] at h1; exact h1.elim
    | some xs =>
      rw [q] at h1
      obtain ⟨k, la, vs, rfl, hsq, r, _⟩ := ru.srcs q
      refine ⟨k, la, vs, rfl, hsq S1 H1 (Gr.refl _) R1.rs.same, fun J hJ => h1 θ1 S1 H1 (Ste.refl _ _ _) R1 J (wk_seq hJ hsq r)⟩
  · subst ev
    obtain rfl : u = Value.ref la := r1
    obtain ⟨its, rv, pp⟩ := inv_srcs I1 hq
    have hlt := pp.lt
    have one : ∀ h' : Heap, (∀ b o, s1.heap.get? b = some o → h'.get? b = some o) → h'.get? s1.heap.objs.size = some (srcO k la) → PIE X pins σ tg R (.ref s1.heap.objs.size) { s1 with heap := h' } := fun h' hk hit => by
      have I2 : Inv X pins σ H1 { s1 with heap := h' } := I1.kept (t' := s1.toks) hk
      have hle : s1.heap.objs.size ≤ s1.heap.objs.size := Nat.le_refl _
      cases k with
      | true => exact ⟨s1.heap.objs.size, [s1.heap.objs.size], _, _, H1, rfl, I2, turn_list la s1.heap.objs.size, ⟨_, hit, rfl, rfl⟩, fun b hb => by simp at hb; subst hb; exact I1.fpOk hle (I1.hok.fresh hle), hR _ rfl⟩
      | false => exact ⟨s1.heap.objs.size, [s1.heap.objs.size], _, _, H1, rfl, I2, turn_tuple la s1.heap.objs.size, ⟨_, hit, rfl, rfl⟩, fun b hb => by simp at hb; subst hb; exact I1.fpOk hle (I1.hok.fresh hle), hR _ rfl⟩
    exact (begins_src k la its.toArray).iter _ _ _ _ s1 _ pp (one _ (fun b o e => Heap.get?_push_of_some _ e) (Heap.get?_push_size _ (begins_src k la its.toArray).free))
end
end TL

set_option linter.all false
set_option maxRecDepth 100000
set_option maxHeartbeats 1000000
/-! TLSnd10: what is walked: ranges, enumerate, zip, items. Own work. -/
namespace TL
open PySem PySem.Spec PyProof.Rows L2 NdefX
section
variable {X : Cx} {G : GT} {En : Ent} {C0 : Cells} {W : WX} {θ θ' : List Addr} {S S' H H' : Hp} {σ : L2.St} {s : DS} {Φ : Phi}
variable {a b c tg : Expr} {ia ib ic : IE} {pos p p2 p3 tpos : Pos} {elts : List Expr} {kk : Nat}
theorem wk_range {K : PySem.W.Frag} {C : Cells} {f : Nat → Int} {n : Nat} {J : It} (hg : ∀ i H, i < n → J.go i H) (hs : ∀ H, J.stop n H) (hy : ∀ i H x H', J.yld i H x H' → H' = H ∧ x = .int (f i)) : WkP K G C θ S J ((List.range n).map fun i => .int (f i)) := by
  refine ⟨fun i S2 H2 g e hi => hg i H2 (by simpa using hi), fun S2 H2 g e => by simpa using hs H2, fun i θ2 S2 H2 x H3 mu q hp g rs hq y => ?_⟩
  obtain ⟨e1, e2⟩ := hy i H2 x H3 y
  subst e1; subst e2
  have hi : i < n := by
    have := (List.getElem?_eq_some_iff.mp hq).1
    simpa using this
  have e : q = .int (f i) := by
    simp [hi] at hq
    exact hq.symm
  subst e
  exact ⟨S2, Ste.refl _ _ _, rs, .int _⟩
theorem si_range1 (hg : Gl X "range") (hm : X.mg "range" = none) (hs : ∀ x p, a ≠ .Starred x p) (ha : PE X a (tD X G En C0 W (ev Φ ia))) : PI X tg (.Call (.Name "range" p) [a] [] pos) (tI X G En C0 W (evI Φ (.range1 ia))) :=
  (pi_range1 hg hm (pa_cons ha pa_nil (star_plain hs)) (star_plain hs)).wk fun σ H R ⟨θ, S, s, Rl, h⟩ => by
    refine ⟨θ, S, s, Rl, (PostR.bind h).imp fun x s1 θ1 S1 H1 _ e1 R1 h1 u ru => ?_⟩
    cases x <;> try (exact h1.elim)
    cases ru
    simp only at h1
    split at h1
    · rename_i hz
      refine ⟨_, rfl, hz.1.1, hz.1.2, h1 θ1 S1 H1 (Ste.refl _ _ _) R1 _ (wk_range (f := fun i => 0 + (i : Int)) (fun i H hi => hi) (fun H => Nat.le_refl _) (fun i H x H' y => y))⟩
    · exact h1.elim
theorem si_range2 (hg : Gl X "range") (hm : X.mg "range" = none) (hs : ∀ x p, a ≠ .Starred x p) (hs2 : ∀ x p, b ≠ .Starred x p) (ha : PE X a (tD X G En C0 W (ev Φ ia))) (hb : PE X b (tD X G En C0 W (ev Φ ib))) :
    PI X tg (.Call (.Name "range" p) [a, b] [] pos) (tI X G En C0 W (evI Φ (.range2 ia ib))) :=
  (pi_range2 hg hm (pa_cons ha (pa_cons hb pa_nil (star_plain hs2)) (star_plain hs)) (by rw [star_plain hs, star_plain hs2]; rfl) (star_plain hs2)).wk fun σ H R ⟨θ, S, s, Rl, h⟩ => by
    refine ⟨θ, S, s, Rl, (PostR.bind h).imp fun x s1 θ1 S1 H1 _ e1 R1 h1 u ru => ?_⟩
    refine ⟨θ1, S1, s1, R1, (PostR.bind h1).imp fun y s2 θ2 S2 H2 _ e2 R2 h2 v rv => ?_⟩
    have hx : ∃ i j, x = .int i ∧ y = .int j := by
      cases x <;> first | (exact False.elim h2) | (cases y <;> first | exact ⟨_, _, rfl, rfl⟩ | (exact False.elim h2))
    obtain ⟨i, j, rfl, rfl⟩ := hx
    cases ru
    cases rv
    simp only at h2
    split at h2
    · rename_i hz
      refine ⟨_, _, rfl, ⟨hz.1.1, hz.1.2, hz.2.1.1, hz.2.1.2⟩, h2 θ2 S2 H2 (Ste.refl _ _ _) R2 _ (wk_range (f := fun k => i + (k : Int)) (fun i H hi => hi) (fun H => Nat.le_refl _) (fun i H x H' y => y))⟩
    · exact h2.elim
theorem si_range3 (hg : Gl X "range") (hm : X.mg "range" = none) (hs : ∀ x p, a ≠ .Starred x p) (hs2 : ∀ x p, b ≠ .Starred x p) (hs3 : ∀ x p, c ≠ .Starred x p) (ha : PE X a (tD X G En C0 W (ev Φ ia))) (hb : PE X b (tD X G En C0 W (ev Φ ib))) (hc : PE X c (tD X G En C0 W (ev Φ ic))) :
    PI X tg (.Call (.Name "range" p) [a, b, c] [] pos) (tI X G En C0 W (evI Φ (.range3 ia ib ic))) :=
  (pi_range3 hg hm (pa_cons ha (pa_cons hb (pa_cons hc pa_nil (star_plain hs3)) (star_plain hs2)) (star_plain hs)) (star_plain hs) (backTo_any fun e' he => by simp at he; rcases he with he | he <;> subst he <;> assumption)).wk fun σ H R ⟨θ, S, s, Rl, h⟩ => by
    refine ⟨θ, S, s, Rl, (PostR.bind h).imp fun x s1 θ1 S1 H1 _ e1 R1 h1 u ru => ?_⟩
    refine ⟨θ1, S1, s1, R1, (PostR.bind h1).imp fun y s2 θ2 S2 H2 _ e2 R2 h2 v rv => ?_⟩
    refine ⟨θ2, S2, s2, R2, (PostR.bind h2).imp fun z s3 θ3 S3 H3 _ e3 R3 h3 w rw' => ?_⟩
    have hx : ∃ i j k, x = .int i ∧ y = .int j ∧ z = .int k := by
      cases x <;> first | (exact False.elim h3) | (cases y <;> first | (exact False.elim h3) | (cases z <;> first | exact ⟨_, _, _, rfl, rfl, rfl⟩ | (exact False.elim h3)))
    obtain ⟨i, j, k, rfl, rfl, rfl⟩ := hx
    cases ru
    cases rv
    cases rw'
    simp only at h3
    split at h3
    · rename_i hz
      obtain ⟨⟨h4, h5⟩, ⟨h6, h7⟩, h8, h9⟩ := hz
      subst h9
      refine ⟨_, _, _, _, rfl, RgC.neg h4 h5 h6 h7, h3 θ3 S3 H3 (Ste.refl _ _ _) R3 _ (wk_range (f := fun k => i - (k : Int)) (fun i H hi => hi) (fun H => Nat.le_refl _) (fun k H x H' y => ⟨y.1, by rw [y.2]; congr 1; omega⟩))⟩
    · exact h3.elim
theorem enumP_get : ∀ (xs : List PV) (n j : Nat) (p : PV), (enumP n xs)[j]? = some p → ∃ x, xs[j]? = some x ∧ p = .tup [.int ((n + j : Nat) : Int), x]
  | [], n, j, p, h => by simp [enumP] at h
  | x :: xs, n, 0, p, h => by simp [enumP] at h; exact ⟨x, rfl, by rw [← h]; simp⟩
  | x :: xs, n, j + 1, p, h => by
    obtain ⟨u, h1, h2⟩ := enumP_get xs (n + 1) j p (by simpa [enumP] using h)
    exact ⟨u, by simpa using h1, by rw [h2, show n + 1 + j = n + (j + 1) by omega]⟩
theorem enumP_len : ∀ (xs : List PV) (n : Nat), (enumP n xs).length = xs.length
  | [], _ => rfl
  | x :: xs, n => by simp [enumP, enumP_len xs]
theorem zipP3_get : ∀ (xs ys zs : List PV) (j : Nat) (p : PV), (zipP3 xs ys zs)[j]? = some p → ∃ x y z, xs[j]? = some x ∧ ys[j]? = some y ∧ zs[j]? = some z ∧ p = .tup [x, y, z]
  | [], _, _, j, p, h => by simp [zipP3] at h
  | _ :: _, [], _, j, p, h => by simp [zipP3] at h
  | _ :: _, _ :: _, [], j, p, h => by simp [zipP3] at h
  | x :: xs, y :: ys, z :: zs, 0, p, h => by simp [zipP3] at h; exact ⟨x, y, z, rfl, rfl, rfl, h.symm⟩
  | x :: xs, y :: ys, z :: zs, j + 1, p, h => by
    obtain ⟨u, v, w, h1, h2, h3, h4⟩ := zipP3_get xs ys zs j p (by simpa [zipP3] using h)
    exact ⟨u, v, w, by simpa using h1, by simpa using h2, by simpa using h3, h4⟩
theorem zipP3_len : ∀ (xs ys zs : List PV), (zipP3 xs ys zs).length = min (min xs.length ys.length) zs.length
  | [], _, _ => by simp [zipP3]
  | _ :: _, [], _ => by simp [zipP3]
  | _ :: _, _ :: _, [] => by simp [zipP3]
  | x :: xs, y :: ys, z :: zs => by simp only [zipP3, List.length_cons, zipP3_len xs ys zs]; omega
/-- a new tuple that is known for good -/
theorem fin_T {K : PySem.W.Frag} {C : Cells} {mu : List SO} {T : Addr} {xs : List PV} {vs : List V} (rs : RS K G θ S H mu) (n : H T = none) (r : RepL K G.toFT C θ S xs vs) :
    ∃ S3, Ste θ S H θ S3 (upd H T (.tup vs)) ∧ RS K G θ S3 (upd H T (.tup vs)) mu ∧ RepV K G.toFT C θ S3 (.tup xs) (.ref T) := by
  have e := Ste.alloc (θ := θ) (o := .tup vs) rs.same n
  exact ⟨_, e, rs.alloc n, .tup upd_same (RepL.mono e.sS (Pre.refl _) (fun _ _ z => z) r)⟩
theorem si_enum (hg : Gl X "enumerate") (hm : X.mg "enumerate" = none) (hs : ∀ x p, a ≠ .Starred x p) (ha : PE X a (tD X G En C0 W (ev Φ ia))) : PI X (.Tuple elts kk tpos) (.Call (.Name "enumerate" p) [a] [] pos) (tI X G En C0 W (evI Φ (.enum ia))) :=
  (pi_E hg hm (pa_cons ha pa_nil (star_plain hs)) hs).wk fun σ H R ⟨θ, S, s, Rl, h⟩ => by
    refine ⟨θ, S, s, Rl, (PostR.bind h).imp fun x s1 θ1 S1 H1 _ e1 R1 h1 u ru => ?_⟩
    cases q : seqOf x with
    | none => rw [q] at h1; exact h1.elim
    | some xs =>
      rw [q] at h1
      obtain ⟨k, la, vs, rfl, hsq, r, _⟩ := ru.srcs q
      have l := r.length
      refine ⟨k, la, vs, rfl, hsq S1 H1 (Gr.refl _) R1.rs.same, h1 θ1 S1 H1 (Ste.refl _ _ _) R1 _ ⟨fun i S2 H2 g e hi => ?_, fun S2 H2 g e => ⟨vs, hsq S2 H2 g e, by rw [enumP_len]; omega⟩, fun i θ2 S2 H2 x H3 mu q hp g rs hq y => ?_⟩⟩
      · rw [enumP_len] at hi
        exact ⟨vs, vs[i]'(by omega), hsq S2 H2 g e, by simp⟩
      · obtain ⟨x', g1, rfl⟩ := enumP_get xs 0 i q hq
        obtain ⟨T, xv, rfl, nT, rfl, hv⟩ := y
        obtain ⟨u1, i1, j1⟩ := r.get g1
        have e := hv vs (hsq S2 H2 g rs.same)
        rw [i1] at e; cases e
        have e0 : ((0 + i : Nat) : Int) = (i : Int) := by simp
        rw [e0]
        exact fin_T rs nT (.cons (.int _) (.cons (RepV.mono g hp (fun _ _ z => z) j1) .nil))
theorem si_zip2 (hg : Gl X "zip") (hm : X.mg "zip" = none) (hs : ∀ x p, a ≠ .Starred x p) (hs2 : ∀ x p, b ≠ .Starred x p) (ha : PE X a (tD X G En C0 W (ev Φ ia))) (hb : PE X b (tD X G En C0 W (ev Φ ib))) :
    PI X (.Tuple elts kk tpos) (.Call (.Name "zip" p) [a, b] [] pos) (tI X G En C0 W (evI Φ (.zip2 ia ib))) :=
  (pi_Z hg hm (pa_cons ha (pa_cons hb pa_nil (star_plain hs2)) (star_plain hs)) hs hs2).wk fun σ H R ⟨θ, S, s, Rl, h⟩ => by
    refine ⟨θ, S, s, Rl, (PostR.bind h).imp fun x s1 θ1 S1 H1 _ e1 R1 h1 u ru => ?_⟩
    refine ⟨θ1, S1, s1, R1, (PostR.bind h1).imp fun y s2 θ2 S2 H2 q2 e2 R2 h2 v rv => ?_⟩
    have ru' := RepV.mono e2.sS e2.pre (CC.mono (ev_grow Φ ib s1 y s2 q2).1) ru
    cases qx : seqOf x with
    | none => rw [qx] at h2; exact h2.elim
    | some xs =>
      cases qy : seqOf y with
      | none => rw [qx, qy] at h2; exact h2.elim
      | some ys =>
        rw [qx, qy] at h2
        obtain ⟨k, la, vs, rfl, hsq, r, _⟩ := ru'.srcs qx
        obtain ⟨l, lb, ws, rfl, hsq2, r2, _⟩ := rv.srcs qy
        have l1 := r.length
        have l2 := r2.length
        refine ⟨k, la, vs, l, lb, ws, rfl, hsq S2 H2 (Gr.refl _) R2.rs.same, hsq2 S2 H2 (Gr.refl _) R2.rs.same, h2 θ2 S2 H2 (Ste.refl _ _ _) R2 _ ⟨fun i S3 H3 g e hi => ?_, fun S3 H3 g e => ⟨vs, ws, hsq S3 H3 g e, hsq2 S3 H3 g e, by rw [zipP_len]; omega⟩, fun i θ3 S3 H3 x H4 mu q hp g rs hq y => ?_⟩⟩
        · rw [zipP_len] at hi
          exact ⟨vs, ws, vs[i]'(by omega), ws[i]'(by omega), hsq S3 H3 g e, hsq2 S3 H3 g e, by simp, by simp⟩
        · obtain ⟨x', y', g1, g2, rfl⟩ := zipP_get xs ys i q hq
          obtain ⟨T, xv, yv, rfl, nT, rfl, hv, hv2⟩ := y
          obtain ⟨u1, i1, j1⟩ := r.get g1
          obtain ⟨u2, i2, j2⟩ := r2.get g2
          have e := hv vs (hsq S3 H3 g rs.same)
          rw [i1] at e; cases e
          have e := hv2 ws (hsq2 S3 H3 g rs.same)
          rw [i2] at e; cases e
          exact fin_T rs nT (.cons (RepV.mono g hp (fun _ _ z => z) j1) (.cons (RepV.mono g hp (fun _ _ z => z) j2) .nil))
theorem si_zip3 (hg : Gl X "zip") (hm : X.mg "zip" = none) (hs : ∀ x p, a ≠ .Starred x p) (hs2 : ∀ x p, b ≠ .Starred x p) (hs3 : ∀ x p, c ≠ .Starred x p) (ha : PE X a (tD X G En C0 W (ev Φ ia))) (hb : PE X b (tD X G En C0 W (ev Φ ib))) (hc : PE X c (tD X G En C0 W (ev Φ ic))) :
    PI X (.Tuple elts kk tpos) (.Call (.Name "zip" p) [a, b, c] [] pos) (tI X G En C0 W (evI Φ (.zip3 ia ib ic))) :=
  (pi_W hg hm (pa_cons ha (pa_cons hb (pa_cons hc pa_nil (star_plain hs3)) (star_plain hs2)) (star_plain hs)) hs hs2 hs3).wk fun σ H R ⟨θ, S, s, Rl, h⟩ => by
    refine ⟨θ, S, s, Rl, (PostR.bind h).imp fun x s1 θ1 S1 H1 _ e1 R1 h1 u ru => ?_⟩
    refine ⟨θ1, S1, s1, R1, (PostR.bind h1).imp fun y s2 θ2 S2 H2 q2 e2 R2 h2 v rv => ?_⟩
    refine ⟨θ2, S2, s2, R2, (PostR.bind h2).imp fun z s3 θ3 S3 H3 q3 e3 R3 h3 w rw' => ?_⟩
    have ru' := RepV.mono e3.sS e3.pre (CC.mono (ev_grow Φ ic s2 z s3 q3).1) (RepV.mono e2.sS e2.pre (CC.mono (ev_grow Φ ib s1 y s2 q2).1) ru)
    have rv' := RepV.mono e3.sS e3.pre (CC.mono (ev_grow Φ ic s2 z s3 q3).1) rv
    cases qx : seqOf x with
    | none => rw [qx] at h3; exact h3.elim
    | some xs =>
      cases qy : seqOf y with
      | none => rw [qx, qy] at h3; exact h3.elim
      | some ys =>
        cases qz : seqOf z with
        | none => rw [qx, qy, qz] at h3; exact h3.elim
        | some zs =>
          rw [qx, qy, qz] at h3
          obtain ⟨k, la, vs, rfl, hsq, r, _⟩ := ru'.srcs qx
          obtain ⟨l, lb, ws, rfl, hsq2, r2, _⟩ := rv'.srcs qy
          obtain ⟨m, lc, ts, rfl, hsq3, r3, _⟩ := rw'.srcs qz
          have l1 := r.length
          have l2 := r2.length
          have l3 := r3.length
          refine ⟨k, la, vs, l, lb, ws, m, lc, ts, rfl, hsq S3 H3 (Gr.refl _) R3.rs.same, hsq2 S3 H3 (Gr.refl _) R3.rs.same, hsq3 S3 H3 (Gr.refl _) R3.rs.same, h3 θ3 S3 H3 (Ste.refl _ _ _) R3 _
            ⟨fun i S4 H4 g e hi => ?_, fun S4 H4 g e => ⟨vs, ws, ts, hsq S4 H4 g e, hsq2 S4 H4 g e, hsq3 S4 H4 g e, by rw [zipP3_len]; omega⟩, fun i θ4 S4 H4 x H5 mu q hp g rs hq y => ?_⟩⟩
          · rw [zipP3_len] at hi
            exact ⟨vs, ws, ts, vs[i]'(by omega), ws[i]'(by omega), ts[i]'(by omega), hsq S4 H4 g e, hsq2 S4 H4 g e, hsq3 S4 H4 g e, by simp, by simp, by simp⟩
          · obtain ⟨x', y', z', g1, g2, g3, rfl⟩ := zipP3_get xs ys zs i q hq
            obtain ⟨T, xv, yv, zv, rfl, nT, rfl, hv, hv2, hv3⟩ := y
            obtain ⟨u1, i1, j1⟩ := r.get g1
            obtain ⟨u2, i2, j2⟩ := r2.get g2
            obtain ⟨u3, i3, j3⟩ := r3.get g3
            have e := hv vs (hsq S4 H4 g rs.same)
            rw [i1] at e; cases e
            have e := hv2 ws (hsq2 S4 H4 g rs.same)
            rw [i2] at e; cases e
            have e := hv3 ts (hsq3 S4 H4 g rs.same)
            rw [i3] at e; cases e
            exact fin_T rs nT (.cons (RepV.mono g hp (fun _ _ z => z) j1) (.cons (RepV.mono g hp (fun _ _ z => z) j2) (.cons (RepV.mono g hp (fun _ _ z => z) j3) .nil)))
/-! ### d.items() -/
theorem Ste.freeze {d : Addr} {od : Obj} {kvs : List (Key × V)} (hS : Same S H) (h : S d = some (.dK kvs)) : Ste θ S H θ (upd S d (.frz od (.dK kvs))) (upd H d (.frz od (.dK kvs))) where
  sS := fun a o e => by
    by_cases z : a = d
    · rw [z, h] at e; cases e
      exact ⟨_, by rw [z, upd_same], .inr ⟨⟨od, rfl⟩, .inl ⟨_, rfl⟩⟩⟩
    · exact ⟨o, by rw [upd_ne z]; exact e, .refl _⟩
  pre := Pre.refl θ
  new := fun _ h k => absurd h k
  frz := fun a e k => by
    by_cases z : a = d
    · rw [z, h] at e; cases e
    · rw [upd_ne z] at k; exact absurd e k
  kp := fun a o e _ _ => by
    by_cases z : a = d
    · have e2 := hS _ _ h
      rw [z] at e
      rw [e2] at e; cases e
      exact .inr ⟨by rw [z]; exact h, _, by rw [z, upd_same], .inr ⟨⟨od, rfl⟩, .inl ⟨_, rfl⟩⟩⟩
    · exact .inl (by rw [upd_ne z]; exact e)
  al := fun a e => by
    by_cases z : a = d
    · rw [z, upd_same]; simp
    · rw [upd_ne z]; exact e
theorem RS.freeze {K : PySem.W.Frag} {mu : List SO} {d : Addr} {od : Obj} {kvs : List (Key × V)} (r : RS K G θ S H mu) (h : S d = some (.dK kvs)) : RS K G θ (upd S d (.frz od (.dK kvs))) (upd H d (.frz od (.dK kvs))) mu where
  same := Same.upd2 r.same
  nd := r.nd
  len := r.len
  out := fun b hb => by
    rw [upd_ne (fun z => by have := r.out b hb; rw [z, h] at this; cases this)]
    exact r.out b hb
  obj := fun i w b h1 h2 => by
    have hb : b ≠ d := fun z => by
      have := r.out b (List.mem_of_getElem? h2)
      rw [z, h] at this; cases this
    exact ((r.obj i w b h1 h2).mono (Ste.freeze (θ := θ) (od := od) r.same h).sS (Pre.refl θ) fun _ z => z).keep (upd_ne hb)
  tabs := fun p hp => by
    obtain ⟨ps, h1, h2, h3⟩ := r.tabs p hp
    have e2 := r.same _ _ h
    have z : p.1 ≠ d := fun z => by rw [z, e2] at h1; cases h1
    refine ⟨ps, by rw [upd_ne z]; exact h1, h2, fun pos cv hc => ?_⟩
    obtain ⟨c, f1, f2⟩ := h3 pos cv hc
    have z2 : c ≠ d := fun z => by rw [z, h] at f2; cases f2
    exact ⟨c, f1, by rw [upd_ne z2]; exact f2⟩
  tabO := fun p hp => by
    rw [upd_ne (fun z => by have := r.tabO p hp; rw [z, h] at this; cases this)]
    exact r.tabO p hp
/-- a dict that stays as it is from now on -/
theorem pe_freeze {te : TE} (h : PE X a te) : PE X a (fun σ H Q => te σ H fun x H1 => ∃ d kvs, x = .ref d ∧ ((∃ o, H1 d = some (.frz o (.dK kvs)) ∧ Q x H1) ∨ (H1 d = some (.dK kvs) ∧ ∀ od, Q x (upd H1 d (.frz od (.dK kvs)))))) := by
  refine ⟨fun pins s σ H Q I q => ?_⟩
  refine thn (h.run pins s σ H _ I q) fun v s1 ⟨x, H1, I1, r, d, kvs, e, q1⟩ => ?_
  rcases q1 with ⟨o, hd, q⟩ | ⟨hd, q⟩
  · exact ⟨x, H1, I1, r, q⟩
  · obtain ⟨od, I2⟩ := I1.lock hd trivial
    exact ⟨x, _, I2, r, q od⟩
theorem RepK.get {K : PySem.W.Frag} {C : Cells} : ∀ {x : List (Key × PV)} {v : List (Key × V)} {i : Nat} {k : Key} {p : PV}, RepK K G.toFT C θ S x v → x[i]? = some (k, p) → ∃ u, v[i]? = some (k, u) ∧ RepV K G.toFT C θ S p u
  | _, _, _, _, _, .nil, e => by simp at e
  | _, _, 0, _, _, .cons h _, e => by simp at e; obtain ⟨rfl, rfl⟩ := e; exact ⟨_, rfl, h⟩
  | _, _, i + 1, _, _, .cons _ r, e => by
    obtain ⟨u, h1, h2⟩ := RepK.get (i := i) r (by simpa using e)
    exact ⟨u, by simpa using h1, h2⟩
theorem kPV_rep {K : PySem.W.Frag} {C : Cells} (k : Key) : RepV K G.toFT C θ S (kPV k) (kV k) := by
  cases k
  · exact .int _
  · exact .str _
theorem si_items {apos cpos : Pos} (ha : PE X a (tD X G En C0 W (ev Φ ia))) (hbase : attributeBase a "items" X.env (eval a X.env) = eval a X.env) (hline : (apos.endLine == cpos.line) = true) :
    PI X (.Tuple elts kk tpos) (.Call (.Attribute a "items" apos) [] [] cpos) (tI X G En C0 W (evI Φ (.items ia))) :=
  (pi_items (pe_freeze ha) hbase hline).wk fun σ H R ⟨θ, S, s, Rl, h⟩ => by
    refine ⟨θ, S, s, Rl, (PostR.bind h).imp fun x s1 θ1 S1 H1 _ e1 R1 h1 u ru => ?_⟩
    cases x <;> try (exact h1.elim)
    rename_i kvs _
    cases ru with
    | dct hr r =>
      rename_i d vs
      have l := r.length
      have wk : ∀ {S2 o}, S2 d = some (.frz o (.dK vs)) → RepK X.K G.toFT (CC X C0 σ s1.cap) θ1 S2 kvs vs → WkP X.K G (CC X C0 σ s1.cap) θ1 S2 (Iti d o vs) (kvs.map fun kv => .tup [kPV kv.1, kv.2]) := fun {S2 o} hd r => by
        have hd2 : ∀ S3 H3, Gr S2 S3 → Same S3 H3 → H3 d = some (.frz o (.dK vs)) := fun S3 H3 g e => by
          obtain ⟨o', z, k⟩ := g _ _ hd
          rcases k with rfl | ⟨_, k⟩
          · exact e _ _ z
          · rcases k with ⟨_, k⟩ | ⟨_, k⟩ <;> cases k
        refine ⟨fun i S3 H3 g e hi => ⟨hd2 S3 H3 g e, by simpa [l] using hi⟩, fun S3 H3 g e => ⟨hd2 S3 H3 g e, by simp [l]⟩, fun i θ3 S3 H3 x H4 mu q hp g rs hq y => ?_⟩
        obtain ⟨T, k, v, f1, rfl, nT, rfl⟩ := y
        rw [List.getElem?_map] at hq
        cases e3 : kvs[i]? with
        | none => rw [e3] at hq; cases hq
        | some kv =>
          rw [e3] at hq; cases hq
          obtain ⟨k', p'⟩ := kv
          obtain ⟨u', g1, g2⟩ := r.get e3
          rw [f1] at g1; cases g1
          exact fin_T rs nT (.cons (kPV_rep _) (.cons (RepV.mono g hp (fun _ _ z => z) g2) .nil))
      rcases hr with hr | ⟨o, hr⟩
      · refine ⟨d, vs, rfl, .inr ⟨R1.rs.same _ _ hr, fun od => ?_⟩⟩
        have st := Ste.freeze (θ := θ1) (od := od) R1.rs.same hr
        have R2 := R1.step st (R1.rs.freeze hr)
        exact ⟨d, od, vs, rfl, upd_same, h1 θ1 _ _ st R2 _ (wk upd_same (RepK.mono st.sS (Pre.refl _) (fun _ _ z => z) r))⟩
      · refine ⟨d, vs, rfl, .inl ⟨o, R1.rs.same _ _ hr, ?_⟩⟩
        exact ⟨d, o, vs, rfl, R1.rs.same _ _ hr, h1 θ1 S1 H1 (Ste.refl _ _ _) R1 _ (wk hr r)⟩
end
end TL

set_option linter.all false
set_option maxRecDepth 100000
set_option maxHeartbeats 1000000
/-! TLSnd11: targets. Own work. -/
namespace TL
open PySem PySem.Spec PyProof.Rows L2 NdefX
section
variable {X : Cx} {G : GT} {En : Ent} {C0 C C' C'' : Cells} {W : WX} {θ θ' θ'' : List Addr} {S S' S'' H H' H'' : Hp} {σ σ' : L2.St} {s s' : DS} {Φ : Phi}
variable {a b c tg : Expr} {ia ib ic : IE} {pos p p2 p3 tpos : Pos} {elts : List Expr} {kk : Nat}
/-- on and on: what is known stays known -/
structure Fw (θ : List Addr) (S : Hp) (C : Cells) (θ' : List Addr) (S' : Hp) (C' : Cells) : Prop where
  gr : Gr S S'
  pre : Pre θ θ'
  cc : ∀ c v, C c v → C' c v
theorem Fw.refl (θ : List Addr) (S : Hp) (C : Cells) : Fw θ S C θ S C := ⟨Gr.refl S, Pre.refl θ, fun _ _ z => z⟩
theorem Fw.trans (h : Fw θ S C θ' S' C') (k : Fw θ' S' C' θ'' S'' C'') : Fw θ S C θ'' S'' C'' := ⟨h.gr.trans k.gr, h.pre.trans k.pre, fun c v z => k.cc c v (h.cc c v z)⟩
theorem Fw.of (e : Ste θ S H θ' S' H') (le : LeS s s') : Fw θ S (CC X C0 σ s.cap) θ' S' (CC X C0 σ s'.cap) := ⟨e.sS, e.pre, CC.mono le.1⟩
/-- the same, with the heap; nothing of one's own was changed -/
structure Fs (θ : List Addr) (S H : Hp) (C : Cells) (θ' : List Addr) (S' H' : Hp) (C' : Cells) : Prop where
  st : Ste θ S H θ' S' H'
  cc : ∀ c v, C c v → C' c v
theorem Fs.refl (θ : List Addr) (S H : Hp) (C : Cells) : Fs θ S H C θ S H C := ⟨Ste.refl _ _ _, fun _ _ z => z⟩
theorem Fs.trans (h : Fs θ S H C θ' S' H' C') (k : Fs θ' S' H' C' θ'' S'' H'' C'') : Fs θ S H C θ'' S'' H'' C'' := ⟨h.st.trans k.st, fun c v z => k.cc c v (h.cc c v z)⟩
theorem Fs.fw (h : Fs θ S H C θ' S' H' C') : Fw θ S C θ' S' C' := ⟨h.st.sS, h.st.pre, h.cc⟩
theorem Fs.of (e : Ste θ S H θ' S' H') (le : LeS s s') : Fs θ S H (CC X C0 σ s.cap) θ' S' H' (CC X C0 σ s'.cap) := ⟨e, CC.mono le.1⟩
theorem Fw.rep {K : PySem.W.Frag} {x : PV} {v : V} (f : Fw θ S C θ' S' C') (r : RepV K G.toFT C θ S x v) : RepV K G.toFT C' θ' S' x v := RepV.mono f.gr f.pre f.cc r
theorem Fw.reps {K : PySem.W.Frag} {x : List PV} {v : List V} (f : Fw θ S C θ' S' C') (r : RepL K G.toFT C θ S x v) : RepL K G.toFT C' θ' S' x v := RepL.mono f.gr f.pre f.cc r
/-- what follows a step that changes slots T -/
def PostG (X : Cx) (G : GT) (En : Ent) (C0 : Cells) (W : WX) (T : List Nat) (θ : List Addr) (S H : Hp) (s : DS) (σ : L2.St) (r : DR Unit) (Q : L2.St → Hp → Prop) : Prop := match r with
  | .ok _ s' => ∀ θ' S' H' σ', Fs θ S H (CC X C0 σ s.cap) θ' S' H' (CC X C0 σ' s'.cap) → Rel X G En C0 θ' S' H' s' σ' → (∀ j, j ∉ T → σ'[j]? = σ[j]?) → Q σ' H'
  | .exc c fs s' => ∀ θ' S' H' σ' cls d, Rel X G En C0 θ' S' H' s' σ' → RepX X.K G θ' S' c fs cls d H' → W cls d σ' H'
  | .bad => False
def tG (X : Cx) (G : GT) (En : Ent) (C0 : Cells) (W : WX) (T : List Nat) (d : PV → DS → DR Unit) : TG := fun v σ H Q => ∃ θ S s p, Rel X G En C0 θ S H s σ ∧ RepV X.K G.toFT (CC X C0 σ s.cap) θ S p v ∧ PostG X G En C0 W T θ S H s σ (d p s) Q
def tGs (X : Cx) (G : GT) (En : Ent) (C0 : Cells) (W : WX) (T : List Nat) (d : List PV → DS → DR Unit) : TGs := fun vs σ H Q => ∃ θ S s ps, Rel X G En C0 θ S H s σ ∧ RepL X.K G.toFT (CC X C0 σ s.cap) θ S ps vs ∧ PostG X G En C0 W T θ S H s σ (d ps s) Q
theorem _root_.L2.PG.wk {X : Cx} {e : Expr} {t t' : TG} (h : PG X e t) (k : ∀ v σ H Q, t' v σ H Q → t v σ H Q) : PG X e t' := ⟨fun pins s σ H v u Q I r q => h.run pins s σ H v u Q I r (k v σ H Q q)⟩
theorem _root_.L2.PGs.wk {X : Cx} {e : List Expr} {t t' : TGs} (h : PGs X e t) (k : ∀ v σ H Q, t' v σ H Q → t v σ H Q) : PGs X e t' := ⟨fun pins s σ H v u Q I r q => h.run pins s σ H v u Q I r (k v σ H Q q)⟩
theorem CC.set {cap : List Nat} {i : Nat} {w : Option V} (h : i ∉ cap) : ∀ c v, CC X C0 σ cap c v → CC X C0 (σ.set i w) cap c v := fun c v z => by
  rcases z with z | ⟨j, y, h1, h2, h3, h4, h5⟩
  · exact .inl z
  · refine .inr ⟨j, y, h1, h2, h3, h4, ?_⟩
    rw [List.getElem?_set_ne (show i ≠ j from fun z => h (by rw [z]; exact h1))]
    exact h5
theorem OwnAt.fw {K : PySem.W.Frag} {x : PV} {a : Addr} (h : OwnAt K G.toFT C θ S H x a) (c : ∀ a v, C a v → C' a v) : OwnAt K G.toFT C' θ S H x a := h.mono (Gr.refl _) (Pre.refl _) c fun _ z _ => z
/-- a slot is set to a value -/
theorem Rel.setS {i : Nat} {q : PV} {v : V} (R : Rel X G En C0 θ S H s σ) (r : RepV X.K G.toFT (CC X C0 σ s.cap) θ S q v) (hc : i ∉ s.cap) (hi : i < s.loc.length) : Rel X G En C0 θ S H (s.setS i q) (σ.set i (some v)) where
  rs := R.rs
  en := R.en
  c0 := R.c0
  len := by show (s.loc.set i _).length = _; rw [List.length_set]; exact R.len
  len2 := by rw [List.length_set]; exact R.len2
  slot := fun j w h1 h2 => by
    have h1 : (s.loc.set i (some q))[j]? = some (some w) := h1
    have h2 : j ∉ s.own.filter (fun j => decide (j ≠ i)) := h2
    by_cases e : j = i
    · subst e
      rw [List.getElem?_set_self hi] at h1
      cases h1
      refine ⟨v, List.getElem?_set_self (by rw [R.len2, ← R.len]; exact hi), RepV.mono (Gr.refl _) (Pre.refl _) (CC.set hc) r⟩
    · rw [List.getElem?_set_ne (Ne.symm e)] at h1
      obtain ⟨u, h3, h4⟩ := R.slot j w h1 fun z => h2 (List.mem_filter.mpr ⟨z, by simpa using e⟩)
      exact ⟨u, by rw [List.getElem?_set_ne (Ne.symm e)]; exact h3, RepV.mono (Gr.refl _) (Pre.refl _) (CC.set hc) h4⟩
  own := fun j hj => by
    have hj : j ∈ s.own.filter (fun j => decide (j ≠ i)) := hj
    obtain ⟨hj1, hj2⟩ := List.mem_filter.mp hj
    have hj2 : j ≠ i := by simpa using hj2
    obtain ⟨w, a, h1, h2, h3, h4, h5, h6⟩ := R.own j hj1
    refine ⟨w, a, ?_, by rw [List.getElem?_set_ne (Ne.symm hj2)]; exact h2, h3, h4, h5, h6.fw (CC.set hc)⟩
    show (s.loc.set i (some q))[j]? = _
    rw [List.getElem?_set_ne (Ne.symm hj2)]
    exact h1
  dis := fun j k a hj hk e1 e2 => by
    have hj : j ∈ s.own.filter (fun j => decide (j ≠ i)) := hj
    have hk : k ∈ s.own.filter (fun j => decide (j ≠ i)) := hk
    obtain ⟨hj1, hj2⟩ := List.mem_filter.mp hj
    obtain ⟨hk1, hk2⟩ := List.mem_filter.mp hk
    have hj2 : j ≠ i := by simpa using hj2
    have hk2 : k ≠ i := by simpa using hk2
    rw [List.getElem?_set_ne (Ne.symm hj2)] at e1
    rw [List.getElem?_set_ne (Ne.symm hk2)] at e2
    exact R.dis j k a hj1 hk1 e1 e2
  fxd := fun p hp => by
    obtain ⟨h1, h2⟩ := R.fxd p hp
    exact ⟨h1, by rw [List.getElem?_set_ne (fun z => hc (by rw [z]; exact h1))]; exact h2⟩
/-- a slot is set to a list or dict of one's own -/
theorem Rel.setO {i : Nat} {q : PV} {a : Addr} (R : Rel X G En C0 θ S H s σ) (ow : OwnAt X.K G.toFT (CC X C0 σ s.cap) θ S H q a) (n1 : S a = none) (n2 : a ∉ θ) (n3 : En.H a = none) (n4 : ∀ j ∈ s.own, σ[j]? ≠ some (some (.ref a))) (hc : i ∉ s.cap) (hi : i < s.loc.length) :
    Rel X G En C0 θ S H (s.setO i q) (σ.set i (some (.ref a))) where
  rs := R.rs
  en := R.en
  c0 := R.c0
  len := by show (s.loc.set i _).length = _; rw [List.length_set]; exact R.len
  len2 := by rw [List.length_set]; exact R.len2
  slot := fun j w h1 h2 => by
    have h1 : (s.loc.set i (some q))[j]? = some (some w) := h1
    have h2 : j ∉ i :: s.own.filter (fun j => decide (j ≠ i)) := h2
    have e : j ≠ i := fun e => h2 (by rw [e]; exact List.mem_cons_self)
    rw [List.getElem?_set_ne (Ne.symm e)] at h1
    obtain ⟨u, h3, h4⟩ := R.slot j w h1 fun z => h2 (List.mem_cons_of_mem _ (List.mem_filter.mpr ⟨z, by simpa using e⟩))
    exact ⟨u, by rw [List.getElem?_set_ne (Ne.symm e)]; exact h3, RepV.mono (Gr.refl _) (Pre.refl _) (CC.set hc) h4⟩
  own := fun j hj => by
    have hj : j ∈ i :: s.own.filter (fun j => decide (j ≠ i)) := hj
    rcases List.mem_cons.mp hj with e | hj
    · subst e
      exact ⟨q, a, List.getElem?_set_self hi, List.getElem?_set_self (by rw [R.len2, ← R.len]; exact hi), n1, n2, n3, ow.fw (CC.set hc)⟩
    obtain ⟨hj1, hj2⟩ := List.mem_filter.mp hj
    have hj2 : j ≠ i := by simpa using hj2
    obtain ⟨w, a, h1, h2, h3, h4, h5, h6⟩ := R.own j hj1
    refine ⟨w, a, ?_, by rw [List.getElem?_set_ne (Ne.symm hj2)]; exact h2, h3, h4, h5, h6.fw (CC.set hc)⟩
    show (s.loc.set i (some q))[j]? = _
    rw [List.getElem?_set_ne (Ne.symm hj2)]
    exact h1
  dis := fun j k b hj hk e1 e2 => by
    have hj : j ∈ i :: s.own.filter (fun j => decide (j ≠ i)) := hj
    have hk : k ∈ i :: s.own.filter (fun j => decide (j ≠ i)) := hk
    have hi2 : i < σ.length := by rw [R.len2, ← R.len]; exact hi
    have old : ∀ j, j ∈ s.own.filter (fun j => decide (j ≠ i)) → j ∈ s.own ∧ j ≠ i := fun j h => by
      obtain ⟨h1, h2⟩ := List.mem_filter.mp h
      exact ⟨h1, by simpa using h2⟩
    rcases List.mem_cons.mp hj with rfl | hj <;> rcases List.mem_cons.mp hk with hk' | hk
    · exact hk'.symm
    · obtain ⟨k1, k2⟩ := old k hk
      rw [List.getElem?_set_self hi2] at e1
      rw [List.getElem?_set_ne (Ne.symm k2)] at e2
      cases e1
      exact absurd e2 (n4 k k1)
    · obtain ⟨k1, k2⟩ := old j hj
      subst hk'
      rw [List.getElem?_set_self hi2] at e2
      rw [List.getElem?_set_ne (Ne.symm k2)] at e1
      cases e2
      exact absurd e1 (n4 j k1)
    · obtain ⟨j1, j2⟩ := old j hj
      obtain ⟨k1, k2⟩ := old k hk
      rw [List.getElem?_set_ne (Ne.symm j2)] at e1
      rw [List.getElem?_set_ne (Ne.symm k2)] at e2
      exact R.dis j k b j1 k1 e1 e2
  fxd := fun p hp => by
    obtain ⟨h1, h2⟩ := R.fxd p hp
    exact ⟨h1, by rw [List.getElem?_set_ne (fun z => hc (by rw [z]; exact h1))]; exact h2⟩
theorem sg_name {x : Str} {i : Nat} (hN : X.N.Nodup) (hi : X.N[i]? = some x) (hx : Loc X.env.scope x) (hf : X.fn x = true ∨ X.env.scope.names.lookup x = some .local) : PG X (.Name x pos) (tG X G En C0 W [i] (asg Φ (.nm i))) :=
  (pg_name hN hi hx hf).wk fun v σ H Q ⟨θ, S, s, q, R, r, h⟩ => by
    unfold asg at h
    split at h
    · exact h.elim
    · rename_i hc
      split at h
      · rename_i hl
        exact h θ S H _ ⟨Ste.refl _ _ _, CC.set hc⟩ (R.setS r hc hl) fun j hj => List.getElem?_set_ne (by simp at hj; exact Ne.symm hj)
      · exact h.elim
theorem sg_nil : PGs X [] (tGs X G En C0 W [] (asgs Φ .nil)) := pgs_nil.wk fun v σ H Q ⟨θ, S, s, q, R, r, h⟩ => by
  cases r with
  | nil => exact ⟨rfl, h θ S H σ (Fs.refl _ _ _ _) R fun _ _ => rfl⟩
  | cons => exact h.elim
theorem PostG.bind {T T2 T' : List Nat} {d : DR Unit} {f : DS → DR Unit} {Q : L2.St → Hp → Prop} (hT : ∀ j ∈ T, j ∈ T') (hT2 : ∀ j ∈ T2, j ∈ T') (h : PostG X G En C0 W T' θ S H s σ (d.bind fun _ s => f s) Q) (P : L2.St → Hp → Prop)
    (k : ∀ s1 θ' S' H' σ', d = .ok () s1 → Fs θ S H (CC X C0 σ s.cap) θ' S' H' (CC X C0 σ' s1.cap) → Rel X G En C0 θ' S' H' s1 σ' → (∀ j, j ∉ T → σ'[j]? = σ[j]?) → PostG X G En C0 W T2 θ' S' H' s1 σ' (f s1) Q → P σ' H') : PostG X G En C0 W T θ S H s σ d P := by
  cases d with
  | ok u s1 =>
    intro θ' S' H' σ' fw R hj
    refine k s1 θ' S' H' σ' rfl fw R hj ?_
    have h : PostG X G En C0 W T' θ S H s σ (f s1) Q := h
    cases q : f s1 with
    | ok u s2 => rw [q] at h; exact fun θ2 S2 H2 σ2 fw2 R2 hj2 => h θ2 S2 H2 σ2 (fw.trans fw2) R2 fun j hn => (hj2 j fun z => hn (hT2 j z)).trans (hj j fun z => hn (hT j z))
    | exc c fs s2 => rw [q] at h; exact h
    | bad => rw [q] at h; exact h
  | exc c fs s1 => exact h
  | bad => exact h
theorem assign_split {e : Expr} {es : List Expr} {env : Env} (hs : ∀ x p, e ≠ .Starred x p) : assignEach (e :: es) env = (false, assign e env) :: assignEach es env := by
  cases e <;> first | rfl | exact absurd rfl (hs _ _)
theorem sg_cons {e : Expr} {es : List Expr} {t : Tg} {ts : Tgs} (hs : ∀ x p, e ≠ .Starred x p) (h1 : PG X e (tG X G En C0 W (tnm t) (asg Φ t))) (h2 : PGs X es (tGs X G En C0 W (tnms ts) (asgs Φ ts))) : PGs X (e :: es) (tGs X G En C0 W (tnms (.cons t ts)) (asgs Φ (.cons t ts))) :=
  (pgs_cons h1 h2 (by rw [assign_split hs]; rfl)).wk fun v σ H Q ⟨θ, S, s, ps, R, r, h⟩ => by
    cases r with
    | nil => exact h.elim
    | cons hr r =>
      refine ⟨_, _, rfl, θ, S, s, _, R, hr, ?_⟩
      unfold asgs at h
      refine PostG.bind (T' := tnms (.cons t ts)) (T2 := tnms ts) (fun j hj => by simp [tnms]; exact .inl hj) (fun j hj => by simp [tnms]; exact .inr hj) h _ fun s1 θ' S' H' σ' _ fw R' hj h' => ?_
      exact ⟨θ', S', s1, _, R', fw.fw.reps r, h'⟩
theorem assign_len {env : Env} : ∀ {es : List Expr}, (∀ e ∈ es, ∀ x p, e ≠ .Starred x p) → (assignEach es env).length = es.length ∧ (assignEach es env).findIdx? (·.1) = none
  | [], _ => ⟨rfl, rfl⟩
  | e :: es, h => by
    obtain ⟨h1, h2⟩ := assign_len (env := env) (es := es) fun e' he => h e' (List.mem_cons_of_mem _ he)
    rw [assign_split (h e List.mem_cons_self)]
    refine ⟨by simp [h1], ?_⟩
    rw [List.findIdx?_cons, h2]
    rfl
theorem _root_.L2.PG.or {X : Cx} {e : Expr} {t t' : TG} (h : PG X e t) (h' : PG X e t') : PG X e (fun v σ H Q => t v σ H Q ∨ t' v σ H Q) := ⟨fun pins s σ H v u Q I r q => q.elim (h.run pins s σ H v u Q I r) (h'.run pins s σ H v u Q I r)⟩
theorem _root_.L2.PSet.or {X : Cx} {t t' : TSet} (h : PSet X t) (h' : PSet X t') : PSet X (fun o i v H Q => t o i v H Q ∨ t' o i v H Q) := fun pins s σ H o i v ov iv u Q I ro ri rv q => q.elim (h pins s σ H o i v ov iv u Q I ro ri rv) (h' pins s σ H o i v ov iv u Q I ro ri rv)
/-- (a, b, ..) = -/
theorem sg_tup {es : List Expr} {k : Nat} {ts : Tgs} (hc : X.calm = true) (hs : ∀ e ∈ es, ∀ x p, e ≠ .Starred x p) (hl : es.length = lenTs ts)
    (h : PGs X es (tGs X G En C0 W (tnms ts) (asgs Φ ts))) : PG X (.Tuple es k pos) (tG X G En C0 W (tnm (.tp ts)) (asg Φ (.tp ts))) :=
  (PG.or (pg_tup hc h ((assign_len hs).1.trans hl) (assign_len hs).2) (pg_lst hc h ((assign_len hs).1.trans hl) (assign_len hs).2)).wk fun v σ H Q ⟨θ, S, s, p, R, r, h⟩ => by
    unfold asg at h
    split at h
    · rename_i xs
      obtain ⟨a, vs, rfl, hq, rl⟩ := r.seqT R.rs.same
      split at h
      · rename_i hn
        exact .inl ⟨a, vs, rfl, hq, by rw [← rl.length]; exact hn, θ, S, s, xs, R, rl, h⟩
      · exact h.elim
    · rename_i xs
      obtain ⟨a, vs, rfl, hq, rl⟩ := r.list R.rs.same
      split at h
      · rename_i hn
        exact .inr ⟨a, vs, rfl, .inl hq, by rw [← rl.length]; exact hn, θ, S, s, xs, R, rl, h⟩
      · exact h.elim
    · exact h.elim
/-! ### o[i] = v, o shared -/
theorem Ste.setO {K : PySem.W.Frag} {mu : List SO} {a : Addr} {o : HO} {u : HO} (h : a ∈ θ) (hu : H a = some u) : Ste θ S H θ S (upd H a o) where
  sS := Gr.refl S
  pre := Pre.refl θ
  new := fun _ h k => absurd h k
  frz := fun _ h k => absurd h k
  kp := fun b u h1 h2 _ => .inl (by
    rw [upd_ne (fun z => h2 (by rw [z]; exact h))]
    exact h1)
  al := fun b hb => by
    by_cases z : b = a
    · rw [z, upd_same]; simp
    · rw [upd_ne z]; exact hb
theorem RS.setO {K : PySem.W.Frag} {mu : List SO} {n : Nat} {a : Addr} {o : HO} {w : SO} (r : RS K G θ S H mu) (ha : θ[n]? = some a) (hw : RepO K G θ S (upd H a o) w a) : RS K G θ S (upd H a o) (mu.set n w) where
  same := fun b u hb => by
    rw [upd_ne (fun z => by have := r.out a (List.mem_of_getElem? ha); rw [z, this] at hb; cases hb)]
    exact r.same b u hb
  nd := r.nd
  len := by rw [List.length_set]; exact r.len
  out := r.out
  obj := fun i u b h1 h2 => by
    by_cases e : i = n
    · subst e
      rw [ha] at h2; cases h2
      rw [List.getElem?_set_self (by have := (List.getElem?_eq_some_iff.mp ha).1; rw [r.len] at this; exact this)] at h1
      cases h1
      exact hw
    · rw [List.getElem?_set_ne (Ne.symm e)] at h1
      have hb : b ≠ a := fun z => by
        subst z
        have i1 := (List.getElem?_eq_some_iff.mp h2)
        have i2 := (List.getElem?_eq_some_iff.mp ha)
        exact e ((List.getElem?_inj i1.1 r.nd).mp (by rw [h2, ha]))
      exact (r.obj i u b h1 h2).keep (upd_ne hb)
  tabs := fun p hp => by
    obtain ⟨ps, h1, h2, h3⟩ := r.tabs p hp
    obtain ⟨u, hu, hu2, hu3⟩ := r.there (List.mem_of_getElem? ha)
    have z : p.1 ≠ a := fun z => by rw [z, hu] at h1; cases h1; exact hu2 _ rfl
    exact ⟨ps, by rw [upd_ne z]; exact h1, h2, h3⟩
  tabO := r.tabO
theorem asg_sub {env : Env} (hs : ∀ l u st p, b ≠ .Slice l u st p) : ∀ v, assign (.Subscript a b pos) env v = (do
      let ov ← holding [v] (eval a env)
      let iv ← holding [v, ov] (eval b env)
      standAt pos
      holding [v, ov, iv] (setItem ov iv v)
      release [v, ov, iv] []) := by
  intro v
  cases b <;> first | rfl | exact absurd rfl (hs _ _ _ _)
theorem PostG.of {T : List Nat} {r : DR Unit} {Q : L2.St → Hp → Prop} (h : PostG X G En C0 W T θ S H s σ r Q) (fw : Fs θ S H (CC X C0 σ s.cap) θ' S' H' (CC X C0 σ s'.cap)) : PostG X G En C0 W T θ' S' H' s' σ r Q := by
  cases r with
  | ok u s1 => exact fun θ2 S2 H2 σ2 fw2 R2 hj => h θ2 S2 H2 σ2 (fw.trans fw2) R2 hj
  | exc c fs s1 => exact h
  | bad => exact h
theorem PostG.exprs {α : Type} {T : List Nat} {d : DR α} {f : α → DS → DR Unit} {Q : L2.St → Hp → Prop} (h : PostG X G En C0 W T θ S H s σ (d.bind f) Q) : PostR X G En C0 W θ S H σ d fun x s1 θ1 S1 H1 => LeS s s1 → PostG X G En C0 W T θ1 S1 H1 s1 σ (f x s1) Q := by
  cases d with
  | ok x s1 => exact fun θ1 S1 H1 e1 R1 le => PostG.of h (Fs.of e1 le)
  | exc c fs s1 => exact fun θ1 S1 H1 cls dd e1 R1 rx => h θ1 S1 H1 σ cls dd R1 rx
  | bad => exact h
theorem sg_sub (hu : X.A.units + 1 < cLine) (hs : ∀ l u st p, b ≠ .Slice l u st p) (ha : PE X a (tD X G En C0 W (ev Φ ia))) (hb : PE X b (tD X G En C0 W (ev Φ ib))) : PG X (.Subscript a b pos) (tG X G En C0 W [] (asg Φ (.sb ia ib))) :=
  (pg_sub ha hb (PSet.or set_list (set_dict hu)) (asg_sub hs)).wk fun v σ H Q ⟨θ, S, s, q, R, r, h⟩ => by
    unfold asg at h
    refine ⟨θ, S, s, R, (PostG.exprs h).imp fun x s1 θ1 S1 H1 q1 e1 R1 h1 u ru => ?_⟩
    have le1 := ev_grow Φ ia s x s1 q1
    refine ⟨θ1, S1, s1, R1, (PostG.exprs (h1 le1)).imp fun y s2 θ2 S2 H2 q2 e2 R2 h2 w rw' => ?_⟩
    have le2 := ev_grow Φ ib s1 y s2 q2
    have h2 := h2 le2
    have ru' := RepV.mono e2.sS e2.pre (CC.mono le2.1) ru
    have r' := RepV.mono (e1.trans e2).sS (e1.trans e2).pre (CC.mono (le1.trans le2).1) r
    split at h2
    · rename_i n
      split at h2
      · rename_i xs j hm
        split at h2
        · rename_i ys hy
          split at h2
          · rename_i hp
            cases ru' with
            | obj ht =>
              rename_i la
              cases rw'
              obtain ⟨vs, hH, rl⟩ := R2.rs.objL hm ht
              unfold setAt at hy
              cases hj : ixN xs.length j with
              | none => rw [hj] at hy; cases hy
              | some k =>
                rw [hj] at hy; cases hy
                refine .inl ⟨la, vs, j, k, rfl, rfl, hH, by rw [← rl.length]; exact hj, ?_⟩
                have st := Ste.setO (K := X.K) (mu := s2.mu) (S := S2) (o := .lst (vs.set k v)) (List.mem_of_getElem? ht) hH
                have rs := R2.rs.setO ht (o := .lst (vs.set k v)) (w := .lst (xs.set k q)) (.lst upd_same (RepL.set k (RepV.free r' hp) rl))
                exact h2 θ2 S2 _ σ ⟨st, fun _ _ z => z⟩ (R2.step st rs) fun _ _ => rfl
          · exact h2.elim
        · exact h2.elim
      · rename_i kvs hm
        split at h2
        · rename_i k hkk
          split at h2
          · rename_i hz
            obtain ⟨hp, hz⟩ := hz
            cases ru' with
            | obj ht =>
              rename_i la
              obtain ⟨vs, hH, rl⟩ := R2.rs.objD hm ht
              have e := rw'.key hkk
              subst e
              refine .inr ⟨la, _, rfl, .inl ⟨vs, k, hH, rfl, Nat.lt_of_lt_of_le (by rw [← rl.length]; exact hz) (sz (Nat.le_refl _)), rfl⟩, ?_⟩
              have st := Ste.setO (K := X.K) (mu := s2.mu) (S := S2) (o := .dK (putK vs k v)) (List.mem_of_getElem? ht) hH
              have rs := R2.rs.setO ht (o := .dK (putK vs k v)) (w := .dct (put k q kvs)) (.dct upd_same (rl.put (RepV.free r' hp)))
              exact h2 θ2 S2 _ σ ⟨st, fun _ _ z => z⟩ (R2.step st rs) fun _ _ => rfl
          · exact h2.elim
        · exact h2.elim
      · exact h2.elim
    · exact h2.elim
end
end TL

set_option linter.all false
set_option maxRecDepth 100000
set_option maxHeartbeats 1000000
/-! TLSnd12: comprehensions. Own work. -/
namespace TL
open PySem PySem.Spec PyProof.Rows L2 NdefX
section
variable {X : Cx} {G : GT} {En : Ent} {C0 C C' C'' : Cells} {W : WX} {θ θ' θ'' : List Addr} {S S' S'' H H' H'' : Hp} {σ σ' : L2.St} {s s' : DS} {Φ : Phi}
theorem Ste.stays {D : Addr} {o : HO} (e : Ste θ S H θ' S' H') (ns : S D = none) (nt : D ∉ θ) (h : H D = some o) (ht : ∀ ps, o ≠ .tbl ps) : S' D = none ∧ D ∉ θ' ∧ H' D = some o := by
  refine ⟨?_, fun z => ?_, (e.kp D o h nt ht).elim id fun z => by rw [ns] at z; cases z.1⟩
  · cases q : S' D with
    | none => rfl
    | some u => have := e.frz D ns (by rw [q]; simp); rw [h] at this; cases this
  · have := e.new D z nt
    rw [h] at this; cases this
theorem wipe_get : ∀ (vs : List Nat) (j : Nat), (wipe σ vs)[j]? = if j ∈ vs ∧ j < σ.length then some none else σ[j]?
  | [], j => by simp [wipe]
  | v :: vs, j => by
    unfold wipe
    by_cases e : v = j
    · subst e
      by_cases hl : v < σ.length
      · rw [List.getElem?_set_self (by rw [wipe_length]; exact hl)]
        simp [hl]
      · rw [List.getElem?_eq_none (by simp [wipe_length]; omega)]
        simp [hl]
    · rw [List.getElem?_set_ne e, wipe_get vs j]
      simp [Ne.symm e]
theorem wipe_agree {vs : List Nat} (h : ∀ j, j ∉ vs → σ'[j]? = (wipe σ vs)[j]?) (hl : σ'.length = σ.length) : wipe σ' vs = wipe σ vs := by
  apply List.ext_getElem?
  intro j
  rw [wipe_get, wipe_get]
  by_cases hj : j ∈ vs
  · by_cases h2 : j < σ.length
    · rw [if_pos ⟨hj, by omega⟩, if_pos ⟨hj, h2⟩]
    · rw [if_neg (fun z => h2 (by omega)), if_neg (fun z => h2 z.2), List.getElem?_eq_none (by omega), List.getElem?_eq_none (by omega)]
  · rw [if_neg (fun z => hj z.1), if_neg (fun z => hj z.1), h j hj, wipe_get, if_neg (fun z => hj z.1)]
theorem hide_len : ∀ (own : List Nat) (l : List (Option PV)), (hideL own l).length = l.length
  | [], l => by simp [hideL]
  | i :: own, l => by
    have := hide_len own l
    simp only [hideL, List.foldr_cons, List.length_set] at this ⊢
    exact this
theorem hide_get : ∀ (own : List Nat) (l : List (Option PV)) (j : Nat) (p : PV), (hideL own l)[j]? = some (some p) → l[j]? = some (some p) ∧ p.plain = true ∧ j ∉ own
  | [], l, j, p, h => by
    simp only [hideL, List.foldr_nil, List.getElem?_map, Option.map_eq_some_iff] at h
    obtain ⟨o, h1, h2⟩ := h
    cases o with
    | none => cases h2
    | some v =>
      simp only at h2
      split at h2
      · rename_i hp
        cases h2
        exact ⟨h1, hp, by simp⟩
      · cases h2
  | i :: own, l, j, p, h => by
    have h : ((hideL own l).set i none)[j]? = some (some p) := h
    by_cases e : i = j
    · subst e
      by_cases hl : i < (hideL own l).length
      · rw [List.getElem?_set_self hl] at h; cases h
      · rw [List.getElem?_eq_none (by simp; omega)] at h; cases h
    · rw [List.getElem?_set_ne e] at h
      obtain ⟨h1, h2, h3⟩ := hide_get own l j p h
      exact ⟨h1, h2, by simp [Ne.symm e, h3]⟩
theorem hide_keep : ∀ (own : List Nat) (l : List (Option PV)) (j : Nat) (p : PV), l[j]? = some (some p) → p.plain = true → j ∉ own → (hideL own l)[j]? = some (some p)
  | [], l, j, p, h, hp, _ => by
    simp only [hideL, List.foldr_nil, List.getElem?_map, h, Option.map_some, hp, if_true]
  | i :: own, l, j, p, h, hp, hn => by
    show ((hideL own l).set i none)[j]? = some (some p)
    rw [List.getElem?_set_ne (fun z => hn (by rw [z]; exact List.mem_cons_self))]
    exact hide_keep own l j p h hp fun z => hn (List.mem_cons_of_mem _ z)
theorem OwnAt.free {K : PySem.W.Frag} {x : PV} {a : Addr} (h : OwnAt K G.toFT C θ S H x a) (p : x.plain = true) : OwnAt K G.toFT C' θ S H x a := by
  cases h with
  | lst h r => exact .lst h (RepL.free r (by simpa [PV.plain] using p))
  | dct h r => exact .dct h (RepK.free r (by simpa [PV.plain] using p))
  | dtt h r => exact .dtt h (RepT.free r (by simpa [PV.plain] using p))
def noW : WX := fun _ _ _ _ => False
theorem noCapE {Y : Cx} {τ : L2.St} : ∀ c v, CC Y noC τ [] c v → noC c v := fun c v z => z.elim id fun ⟨i, y, h, _⟩ => by cases h
/-- from the def into a comprehension's block -/
theorem Rel.inner {Y : Cx} {own : List Nat} (hK : Y.K = X.K) (hY : Y.N = X.N) (R : Rel X G En C0 θ S H s σ) (ho : s.ownP = true) (hd : ∀ i ∈ own, i ∉ s.own) (hfx : En.fx = []) : Rel Y G En noC θ S H (s.inner own s.mu) (wipe σ own) where
  rs := by rw [hK]; exact R.rs
  en := R.en
  c0 := fun _ _ z => z.elim
  len := by
    show (hideL own s.loc).length = _
    rw [hide_len, R.len, hY]
  len2 := by rw [wipe_length, R.len2, hY]
  slot := fun j p h1 h2 => by
    obtain ⟨h3, h4, h5⟩ := hide_get own s.loc j p h1
    obtain ⟨v, h6, h7⟩ := R.slot j p h3 h2
    refine ⟨v, ?_, ?_⟩
    · rw [wipe_get, if_neg (fun z => h5 z.1)]
      exact h6
    · rw [hK]
      exact RepV.free h7 h4
  own := fun j hj => by
    have hj : j ∈ s.own := hj
    obtain ⟨p, a, h1, h2, h3, h4, h5, h6⟩ := R.own j hj
    have hp : p.plain = true := by
      have := List.all_eq_true.mp ho j hj
      rw [h1] at this
      exact this
    have hn : j ∉ own := fun z => hd j z hj
    refine ⟨p, a, hide_keep own s.loc j p h1 hp hn, ?_, h3, h4, h5, by rw [hK]; exact h6.free hp⟩
    rw [wipe_get, if_neg (fun z => hn z.1)]
    exact h2
  dis := fun j k a hj hk e1 e2 => by
    rw [wipe_get, if_neg (fun z => hd j z.1 hj)] at e1
    rw [wipe_get, if_neg (fun z => hd k z.1 hk)] at e2
    exact R.dis j k a hj hk e1 e2
  fxd := fun p hp => by rw [hfx] at hp; cases hp
/-- from one form of the block to another -/
theorem Rel.across {Y Z : Cx} (hK : Z.K = Y.K) (hY : Z.N = Y.N) (R : Rel Y G En noC θ S H s σ) (hc : s.cap = []) : Rel Z G En noC θ S H s σ where
  rs := by rw [hK]; exact R.rs
  en := R.en
  c0 := fun _ _ z => z.elim
  len := by rw [hY]; exact R.len
  len2 := by rw [hY]; exact R.len2
  slot := fun j p h1 h2 => by
    obtain ⟨v, h3, h4⟩ := R.slot j p h1 h2
    rw [hc] at h4 ⊢
    refine ⟨v, h3, ?_⟩
    rw [hK]
    exact RepV.mono (Gr.refl _) (Pre.refl _) (fun c v z => (noCapE c v z).elim) h4
  own := fun j hj => by
    obtain ⟨p, a, h1, h2, h3, h4, h5, h6⟩ := R.own j hj
    rw [hc] at h6 ⊢
    exact ⟨p, a, h1, h2, h3, h4, h5, by rw [hK]; exact h6.fw fun c v z => (noCapE c v z).elim⟩
  dis := R.dis
  fxd := R.fxd
theorem noCap_ok {α : Type} {r : DR α} {a : α} {s : DS} (h : noCap r = .ok a s) : r = .ok a s ∧ s.cap = [] := by
  cases r with
  | ok b t =>
    simp only [noCap] at h
    split at h
    · cases h; rename_i q; exact ⟨rfl, q⟩
    · cases h
  | exc c fs t => cases h
  | bad => cases h
theorem bind_ok {α β : Type} {r : DR α} {f : α → DS → DR β} {b : β} {s : DS} (h : r.bind f = .ok b s) : ∃ a s1, r = .ok a s1 ∧ f a s1 = .ok b s := by
  cases r with
  | ok a s1 => exact ⟨a, s1, rfl, h⟩
  | exc c fs t => cases h
  | bad => cases h
variable {elt tg iter : Expr} {ifs : List Expr} {scope : Scope} {own0 : List (Str × Nat)} {pos : Pos} {t : Tg} {it : II} {ic ie : IE}
/-- the body of a turn -/
def turnF (Φ : Phi) (t : Tg) (c e : IE) (own : List Nat) (s0 : DS) : PV → List SO → Option (Option PV × List SO) := fun x mu => if x.plain then turnEnd s0.own ((noCap (asg Φ t x (s0.inner own mu))).bind fun _ s => (noCap (ev Φ c s)).bind fun b s => (match b with
      | .bl true => (noCap (ev Φ e s)).bind fun v s => .ok (some v) s
      | .bl false => .ok none s
      | _ => .bad)) else none
def gBk (X : Cx) (G : GT) (En : Ent) (scope : Scope) (Φ : Phi) (t : Tg) : TG := fun v σ H Q => ∀ (sh : Shared) (H0 : Hp) (C : Addr) (cl : List (Str × Addr)) (fp : List Addr), tG (X.blk sh H0 scope (compEnvC scope cl C X.env) fp) G En noC noW (tnm t) (asg Φ t) v σ H Q
def tBk (X : Cx) (G : GT) (En : Ent) (scope : Scope) (Φ : Phi) (c : IE) : TT := fun σ H Q => ∀ (sh : Shared) (H0 : Hp) (C : Addr) (cl : List (Str × Addr)) (fp : List Addr), tT (X.blk sh H0 scope (compEnvC scope cl C X.env) fp) G En noC noW (ev Φ c) σ H Q
def eBk (X : Cx) (G : GT) (En : Ent) (scope : Scope) (Φ : Phi) (e : IE) : TE := fun σ H Q => ∀ (sh : Shared) (H0 : Hp) (C : Addr) (cl : List (Str × Addr)) (fp : List Addr), tD (X.blk sh H0 scope (compEnvC scope cl C X.env) fp) G En noC noW (ev Φ e) σ H Q
theorem imp_comp {own : List Nat} {Q : VK} (hfx : En.fx = []) (h : tFr X G En C0 W (ev Φ (.comp own t it ic ie)) σ H Q) : tLc (tI X G En C0 W (evI Φ it)) (gBk X G En scope Φ t) (tBk X G En scope Φ ic) (eBk X G En scope Φ ie) own σ H Q := by
  obtain ⟨θ, S, s, R, h⟩ := h
  unfold ev at h
  refine ⟨θ, S, s, R, (PostR.bind h).imp fun xs s1 θ1 S1 H1 q1 e1 R1 _ J wk D nD => ?_⟩
  rw [q1] at h
  change PostR X G En C0 W θ S H σ (if s1.ownP = true ∧ (own.all fun i => decide (i ∉ s1.own)) = true ∧ ((tnm t).all fun i => decide (i ∈ own)) = true then (match compL (turnF Φ t ic ie own s1) xs [] s1.mu with
      | some (vs, mu) => DR.ok (PV.lst vs) { s1 with mu := mu }
      | none => DR.bad) else DR.bad) _ at h
  split at h
  · rename_i hcond
    obtain ⟨c1, c2, c3⟩ := hcond
    have c2 : ∀ i ∈ own, i ∉ s1.own := fun i hi => by simpa using List.all_eq_true.mp c2 i hi
    have c3 : ∀ i ∈ tnm t, i ∈ own := fun i hi => by simpa using List.all_eq_true.mp c3 i hi
    cases hq : compL (turnF Φ t ic ie own s1) xs [] s1.mu with
    | none => rw [hq] at h; exact h.elim
    | some r =>
      obtain ⟨vs, muF⟩ := r
      rw [hq] at h
      have h0D := none_of e1 nD
      obtain ⟨nsD, ntD⟩ := R1.rs.noS nD
      have w : Walk J xs.length (fun H => ∃ S2, Gr S1 S2 ∧ Same S2 H) (fun i H x H' => J.yld i H x H') := ⟨fun i H hi ⟨S2, g, e⟩ => wk.go i S2 H g e hi, fun H ⟨S2, g, e⟩ => wk.stop S2 H g e, fun _ _ _ _ _ _ y => y⟩
      refine lc_it (g := gBk X G En scope Φ t) (tt := tBk X G En scope Φ ic) (te := eBk X G En scope Φ ie) (vs := own) (σ := σ) (D := D) (H1 := H1) (Qd := fun H => Q (.ref D) H) w (fun i H' => ∃ θ2 S2 acc us mu, Gr S1 S2 ∧ Pre θ1 θ2 ∧ Ste θ S H θ2 S2 H' ∧ Rel X G En C0 θ2 S2 H' { s1 with mu := mu } σ ∧ S2 D = none ∧ D ∉ θ2 ∧ H' D = some (.lst us) ∧ RepL X.K G.toFT noC θ2 S2 acc us ∧
        compL (turnF Φ t ic ie own s1) (xs.drop i) acc mu = some (vs, muF)) ?_ ?_ ?_ ?_
      · have st := Ste.junk (θ := θ1) (S := S1) (o := .lst []) nD
        exact ⟨θ1, S1, [], [], s1.mu, Gr.refl _, Pre.refl _, e1.trans st, R1.step st (R1.rs.junk nD), nsD, ntD, upd_same, .nil, by simpa using hq⟩
      · rintro i H' _ ⟨θ2, S2, acc, us, mu, g, _, _, R2, _⟩
        exact ⟨S2, g, R2.rs.same⟩
      · rintro i x H' H'' hi ⟨θ2, S2, acc, us, mu, g, pre, e2, R2, ns, nt, hD, ra, hcl⟩ y
        have hx : xs[i]? = some xs[i] := List.getElem?_eq_getElem hi
        rw [List.drop_eq_getElem_cons hi] at hcl
        generalize xs[i] = q at hx hcl
        obtain ⟨S3, e3, rs3, rq⟩ := wk.yld i θ2 S2 H' x H'' mu q pre g R2.rs hx y
        unfold compL at hcl
        cases hf : turnF Φ t ic ie own s1 q mu with
        | none => rw [hf] at hcl; cases hcl
        | some res =>
          obtain ⟨o, mu'⟩ := res
          rw [hf] at hcl
          unfold turnF at hf
          split at hf
          · rename_i hp
            unfold turnEnd at hf
            split at hf
            · rename_i o' sE hrun
              split at hf
              · rename_i hown'
                cases hf
                obtain ⟨⟨⟩, sA, hA, hrun⟩ := bind_ok hrun
                obtain ⟨hA, capA⟩ := noCap_ok hA
                obtain ⟨b, sB, hB, hrun⟩ := bind_ok hrun
                obtain ⟨hB, capB⟩ := noCap_ok hB
                have R3 := R2.step e3 rs3
                obtain ⟨ns3, nt3, hD3⟩ := e3.stays ns nt hD (fun _ z => by cases z)
                intro sh1 H01 C1 cl1 fp1
                have RB := Rel.inner (X := X) (own := own) (Y := X.blk sh1 H01 scope (compEnvC scope cl1 C1 X.env) fp1) rfl rfl R3 c1 c2 hfx
                refine ⟨θ2, S3, _, q, RB, RepV.free rq hp, ?_⟩
                show PostG _ G En noC noW (tnm t) θ2 S3 H'' _ (wipe σ own) (asg Φ t q (s1.inner own mu)) _
                rw [hA]
                intro θ4 S4 H4 σ4 f4 R4 hj
                refine ⟨wipe_agree (fun j hn => hj j fun z => hn (c3 j z)) (R4.len2.trans R1.len2.symm), ?_⟩
                intro sh2 H02 C2 cl2 fp2
                refine ⟨θ4, S4, sA, Rel.across (Y := X.blk sh1 H01 scope (compEnvC scope cl1 C1 X.env) fp1) (Z := X.blk sh2 H02 scope (compEnvC scope cl2 C2 X.env) fp2) rfl rfl R4 capA, ?_⟩
                rw [hB]
                intro θ5 S5 H5 e5 R5
                have leB := ev_grow Φ ic sA b sB hB
                obtain ⟨ns4, nt4, hD4⟩ := f4.st.stays ns3 nt3 hD3 (fun _ z => by cases z)
                obtain ⟨ns5, nt5, hD5⟩ := e5.stays ns4 nt4 hD4 (fun _ z => by cases z)
                have hbb : ∃ k, b = .bl k := by
                  cases b <;> first | exact ⟨_, rfl⟩ | cases hrun
                obtain ⟨k, rfl⟩ := hbb
                refine ⟨k, rfl, ?_⟩
                have e25 : Ste θ2 S2 H' θ5 S5 H5 := (e3.trans f4.st).trans e5
                -- back in the def
                have back : ∀ {θ6 S6 H6 mu6}, Ste θ2 S2 H' θ6 S6 H6 → RS X.K G θ6 S6 H6 mu6 → Rel X G En C0 θ6 S6 H6 { s1 with mu := mu6 } σ := fun {θ6 S6 H6 mu6} e6 rs6 => R2.step e6 rs6
                cases k with
                | false =>
                  simp only [Bool.false_eq_true, if_false]
                  cases hrun
                  exact ⟨θ5, S5, acc, us, _, g.trans e25.sS, pre.trans e25.pre, e2.trans e25, back e25 R5.rs, ns5, nt5, hD5, RepL.mono e25.sS e25.pre (fun _ _ z => z) ra, hcl⟩
                | true =>
                  simp only [if_true]
                  obtain ⟨v, sC, hC, hrun⟩ := bind_ok hrun
                  obtain ⟨hC, capC⟩ := noCap_ok hC
                  cases hrun
                  intro sh3 H03 C3 cl3 fp3
                  refine ⟨θ5, S5, sB, Rel.across (Y := X.blk sh2 H02 scope (compEnvC scope cl2 C2 X.env) fp2) (Z := X.blk sh3 H03 scope (compEnvC scope cl3 C3 X.env) fp3) rfl rfl R5 capB, ?_⟩
                  rw [hC]
                  intro θ6 S6 H6 e6 R6 u ru
                  obtain ⟨ns6, nt6, hD6⟩ := e6.stays ns5 nt5 hD5 (fun _ z => by cases z)
                  simp only at hcl
                  split at hcl
                  · rename_i hl
                    have e26 := e25.trans e6
                    have ra6 := RepL.mono e26.sS e26.pre (fun _ _ z => z) ra
                    rw [capC] at ru
                    have ru : RepV X.K G.toFT noC θ6 S6 v u := RepV.mono (Gr.refl _) (Pre.refl _) (fun c v z => (noCapE c v z).elim) ru
                    have R6' := back e26 R6.rs
                    have e0 := e2.trans e26
                    have leq := evI_grow Φ it s xs s1 q1
                    have le2 : ∀ mu, LeS s { s1 with mu := mu } := fun mu => ⟨leq.1, leq.2.1, leq.2.2⟩
                    have RF := Rel.rewrite (o := .lst (us ++ [u])) R (le2 _) R6' h0D ns6 nt6 hD6 (fun _ z => by cases z) (fun _ z => by cases z)
                    refine ⟨us, hD6, Nat.lt_of_lt_of_le (by rw [← ra.length]; exact hl) (sz (Nat.le_refl _)), θ6, S6, acc ++ [v], us ++ [u], _, g.trans e26.sS, pre.trans e26.pre, Ste.rewrite h0D e0 ns6 nt6 hD6, RF, ns6, nt6, upd_same, ra6.append (.cons ru .nil), hcl⟩
                  · cases hcl
              · cases hf
            · cases hf
          · cases hf
      · rintro H' ⟨θ2, S2, acc, us, mu, g, pre, e2, R2, ns, nt, hD, ra, hcl⟩
        rw [List.drop_length] at hcl
        simp only [compL, Option.some.injEq, Prod.mk.injEq] at hcl
        obtain ⟨rfl, rfl⟩ := hcl
        exact h θ2 S2 H' e2 R2 D ⟨h0D, ns, nt, .lst hD (RepL.mono (Gr.refl _) (Pre.refl _) (noC_le _) ra)⟩
  · exact h.elim
theorem sf_comp (hfx : En.fx = []) (hc : X.calm = true) (hN : X.N.Nodup) (ok : BlkOk X.N X.env.scope scope own0) (hs : ∀ x, foldedSetIterable iter X.env x = pure x) (hi : PI X tg iter (tI X G En C0 W (evI Φ it)))
    (hg : ∀ (sh : Shared) (H0 : Hp) (C : Addr) (cl : List (Str × Addr)) (fp : List Addr), PG (X.blk sh H0 scope (compEnvC scope cl C X.env) fp) tg (tG (X.blk sh H0 scope (compEnvC scope cl C X.env) fp) G En noC noW (tnm t) (asg Φ t)))
    (ht : ∀ (sh : Shared) (H0 : Hp) (C : Addr) (cl : List (Str × Addr)) (fp : List Addr), PTs (X.blk sh H0 scope (compEnvC scope cl C X.env) fp) ifs (tT (X.blk sh H0 scope (compEnvC scope cl C X.env) fp) G En noC noW (ev Φ ic)))
    (he : ∀ (sh : Shared) (H0 : Hp) (C : Addr) (cl : List (Str × Addr)) (fp : List Addr), PE (X.blk sh H0 scope (compEnvC scope cl C X.env) fp) elt (tD (X.blk sh H0 scope (compEnvC scope cl C X.env) fp) G En noC noW (ev Φ ie))) :
    PE X (.ListComp elt [⟨tg, iter, ifs, 0⟩] scope pos) (tFr X G En C0 W (ev Φ (.comp (own0.map (·.2)) t it ic ie))) :=
  (pe_lc (g := gBk X G En scope Φ t) (tt := tBk X G En scope Φ ic) (te := eBk X G En scope Φ ie)
    hc hN hi ok (fun sh H0 C cl fp => (hg sh H0 C cl fp).wk fun v σ H Q h => h sh H0 C cl fp)
    (fun sh H0 C cl fp => ⟨fun pins s σ H Q I h => (ht sh H0 C cl fp).run pins s σ H Q I (h sh H0 C cl fp)⟩) (fun sh H0 C cl fp => (he sh H0 C cl fp).wk fun σ H Q h => h sh H0 C cl fp) hs).wk fun σ H Q h => imp_comp hfx h
end
end TL

set_option linter.all false
set_option maxRecDepth 100000
set_option maxHeartbeats 1000000
/-! TLSnd13: statements. Own work. -/
namespace TL
open PySem PySem.Spec PyProof.Rows L2 NdefX
section
variable {X : Cx} {G : GT} {En : Ent} {C0 C C' C'' : Cells} {W : WX} {θ θ' θ'' : List Addr} {S S' S'' H H' H'' : Hp} {σ σ' : L2.St} {s s' : DS} {Φ : Phi} {Ex : Exc} {D : Ends}
/-- what follows a statement -/
def PostS (X : Cx) (G : GT) (En : Ent) (C0 : Cells) (W : WX) (θ : List Addr) (S : Hp) (s : DS) (σ : L2.St) (r : SR) (D : Ends) : Prop := match r with
  | .nx s' => ∀ θ' S' H' σ', Fw θ S (CC X C0 σ s.cap) θ' S' (CC X C0 σ' s'.cap) → Rel X G En C0 θ' S' H' s' σ' → D.nx σ' H'
  | .brk s' => ∀ θ' S' H' σ', Fw θ S (CC X C0 σ s.cap) θ' S' (CC X C0 σ' s'.cap) → Rel X G En C0 θ' S' H' s' σ' → D.bk σ' H'
  | .cont s' => ∀ θ' S' H' σ', Fw θ S (CC X C0 σ s.cap) θ' S' (CC X C0 σ' s'.cap) → Rel X G En C0 θ' S' H' s' σ' → D.ct σ' H'
  | .ret v s' => ∀ θ' S' H' σ' u, Rel X G En C0 θ' S' H' s' σ' → RepV X.K G.toFT (CC X C0 σ' s'.cap) θ' S' v u → D.rt u H'
  | .exc c fs s' => ∀ θ' S' H' σ' cls d, Rel X G En C0 θ' S' H' s' σ' → RepX X.K G θ' S' c fs cls d H' → W cls d σ' H'
  | .bad => False
def tS (X : Cx) (G : GT) (En : Ent) (C0 : Cells) (W : WX) (d : DS → SR) : TS := fun D σ H => ∃ θ S s, Rel X G En C0 θ S H s σ ∧ PostS X G En C0 W θ S s σ (d s) D
theorem PostS.of {r : SR} (h : PostS X G En C0 W θ S s σ r D) (fw : Fw θ S (CC X C0 σ s.cap) θ' S' (CC X C0 σ' s'.cap)) : PostS X G En C0 W θ' S' s' σ' r D := by
  cases r with
  | nx s1 => exact fun θ2 S2 H2 σ2 fw2 R => h θ2 S2 H2 σ2 (fw.trans fw2) R
  | brk s1 => exact fun θ2 S2 H2 σ2 fw2 R => h θ2 S2 H2 σ2 (fw.trans fw2) R
  | cont s1 => exact fun θ2 S2 H2 σ2 fw2 R => h θ2 S2 H2 σ2 (fw.trans fw2) R
  | ret v s1 => exact h
  | exc c fs s1 => exact h
  | bad => exact h
/-- an expression ahead -/
theorem PostS.exprs {α : Type} {d : DR α} {f : α → DS → SR} (h : PostS X G En C0 W θ S s σ (d.thn f) D) : PostR X G En C0 W θ S H σ d fun x s1 θ1 S1 H1 => LeS s s1 → PostS X G En C0 W θ1 S1 s1 σ (f x s1) D := by
  cases d with
  | ok x s1 => exact fun θ1 S1 H1 e1 R1 le => PostS.of h (Fw.of e1 le)
  | exc c fs s1 => exact fun θ1 S1 H1 cls dd e1 R1 rx => h θ1 S1 H1 σ cls dd R1 rx
  | bad => exact h
/-- the end of an assignment -/
theorem PostS.asgE {T : List Nat} {d : DR Unit} (h : PostS X G En C0 W θ S s σ (d.thn fun _ s => .nx s) D) : PostG X G En C0 W T θ S H s σ d D.nx := by
  cases d with
  | ok x s1 => exact fun θ1 S1 H1 σ1 f R1 _ => h θ1 S1 H1 σ1 f.fw R1
  | exc c fs s1 => exact h
  | bad => exact h
theorem PostS.now (R : Rel X G En C0 θ S H s σ) (h : PostS X G En C0 W θ S s σ (.nx s) D) : D.nx σ H := h θ S H σ (Fw.refl _ _ _) R
variable {a b c tg e elt iter : Expr} {ia ib ic ie : IE} {pos p p2 p3 tpos : Pos} {t : Tg} {it : II}
theorem ss_expr (he : PE X e (tD X G En C0 W (ev Φ ie))) (hs : swapsWith e none pos.line X.env = pure false) : PS X (.Expr e pos) (tS X G En C0 W (ex Φ Ex (.expr ie))) :=
  (ps_expr he hs).wk fun D σ H ⟨θ, S, s, R, h⟩ => by
    refine ⟨θ, S, s, R, (PostS.exprs h).imp fun x s1 θ1 S1 H1 q1 e1 R1 h1 v rv => ?_⟩
    exact PostS.now R1 (h1 (ev_grow Φ ie s x s1 q1))
theorem ss_asg {g : Tg} (he : PE X e (tD X G En C0 W (ev Φ ie))) (hg : PG X tg (tG X G En C0 W (tnm t) (asg Φ t))) (hs : swapsWithSole [tg] e pos.line X.env = pure false) (hw : swappedStores [tg] e X.env = pure none) (hst : ∀ x p, tg ≠ .Starred x p) :
    PS X (.Assign [tg] e pos) (tS X G En C0 W (ex Φ Ex (.asg t ie))) :=
  (ps_asg he hg hs hw (by rw [assign_split hst]; rfl)).wk fun D σ H ⟨θ, S, s, R, h⟩ => by
    refine ⟨θ, S, s, R, (PostS.exprs h).imp fun x s1 θ1 S1 H1 q1 e1 R1 h1 v rv => ?_⟩
    exact ⟨θ1, S1, s1, x, R1, rv, PostS.asgE (h1 (ev_grow Φ ie s x s1 q1))⟩
/-- a new list or dict of one's own -/
theorem imp_own {i : Nat} (h : tS X G En C0 W (ex Φ Ex (.asgO i ie)) D σ H) : tAsg (tFr X G En C0 W (ev Φ ie)) (gName i) D σ H := by
  obtain ⟨θ, S, s, R, h⟩ := h
  refine ⟨θ, S, s, R, (PostS.exprs h).imp fun x s1 θ1 S1 H1 q1 e1 R1 h1 a ⟨n0, ns, nt, ow⟩ => ?_⟩
  have le := ev_grow Φ ie s x s1 q1
  have h1 := h1 le
  split at h1
  · exact h1.elim
  · rename_i hc
    split at h1
    · rename_i hl
      refine h1 θ1 S1 H1 _ ⟨Gr.refl _, Pre.refl _, CC.set hc⟩ (R1.setO ow ns nt (none_of R.en n0) (fun j hj z => ?_) hc hl)
      obtain ⟨u, hu, _⟩ := R.ownThere (i := j) (by rw [← le.2.2]; exact hj) z
      rw [n0] at hu; cases hu
    · exact h1.elim
theorem ss_own {i : Nat} {x : Str} (hN : X.N.Nodup) (hi : X.N[i]? = some x) (hx : Loc X.env.scope x) (he : PE X e (tFr X G En C0 W (ev Φ ie))) (hs : swapsWith e (some (.Name x p)) pos.line X.env = pure false) (hf : X.fn x = true ∨ X.env.scope.names.lookup x = some .local) :
    PS X (.Assign [.Name x p] e pos) (tS X G En C0 W (ex Φ Ex (.asgO i ie))) := (ps_set hN hi hx he hs hf).wk fun D σ H h => imp_own h
theorem ss_ret (he : PE X e (tD X G En C0 W (ev Φ ie))) : PS X (.Return (some e) pos) (tS X G En C0 W (ex Φ Ex (.ret ie))) :=
  (ps_ret he).wk fun D σ H ⟨θ, S, s, R, h⟩ => by
    refine ⟨θ, S, s, R, (PostS.exprs h).imp fun x s1 θ1 S1 H1 q1 e1 R1 h1 v rv => ?_⟩
    exact h1 (ev_grow Φ ie s x s1 q1) θ1 S1 H1 σ v R1 rv
theorem ss_retN : PS X (.Return none pos) (tS X G En C0 W (ex Φ Ex .retN)) := ps_retN.wk fun D σ H ⟨θ, S, s, R, h⟩ => h θ S H σ .non R .non
theorem ss_pass : PS X (.Pass pos) (tS X G En C0 W (ex Φ Ex .pass)) := ps_pass.wk fun D σ H ⟨θ, S, s, R, h⟩ => PostS.now R h
theorem ss_doc {x : Str} {j : Nat} {p' : Pos} : PS X (.Expr (.Constant (.str x) j p) p') (tS X G En C0 W (ex Φ Ex .pass)) := ps_doc.wk fun D σ H ⟨θ, S, s, R, h⟩ => PostS.now R h
theorem ss_break : PS X (.Break pos) (tS X G En C0 W (ex Φ Ex .brk)) := ps_break.wk fun D σ H ⟨θ, S, s, R, h⟩ => h θ S H σ (Fw.refl _ _ _) R
theorem ss_cont : PS X (.Continue pos) (tS X G En C0 W (ex Φ Ex .cont)) := ps_continue.wk fun D σ H ⟨θ, S, s, R, h⟩ => h θ S H σ (Fw.refl _ _ _) R
theorem ss_stuck {st : Stmt} : PS X st (tS X G En C0 W (ex Φ Ex .stuck)) := ⟨fun pins sh σ H D I ⟨θ, S, s, R, h⟩ => h.elim⟩
theorem se_stuck : PE X e (tD X G En C0 W (ev Φ .stuck)) := ⟨fun pins sh σ H Q I ⟨θ, S, s, R, h⟩ => h.elim⟩
variable {l1 l2 l3 : List Stmt} {i1 i2 i3 : ISs}
theorem ss_if (hc : PT X c (tT X G En C0 W (ev Φ ic))) (ha : PSs X l1 (tS X G En C0 W (exs Φ Ex i1))) (hb : PSs X l2 (tS X G En C0 W (exs Φ Ex i2))) : PS X (.If c l1 l2 pos) (tS X G En C0 W (ex Φ Ex (.ite ic i1 i2))) :=
  (ps_if hc ha hb).wk fun D σ H ⟨θ, S, s, R, h⟩ => by
    refine ⟨θ, S, s, R, (PostS.exprs h).imp fun x s1 θ1 S1 H1 q1 e1 R1 h1 => ?_⟩
    have h1 := h1 (ev_grow Φ ic s x s1 q1)
    rcases x with _ | k | _ | _ | _ | _ | _ | _ | _ | _ | _ <;> first | exact h1.elim | skip
    refine ⟨k, rfl, ?_⟩
    cases k with
    | true => exact ⟨θ1, S1, s1, R1, h1⟩
    | false => exact ⟨θ1, S1, s1, R1, h1⟩
theorem ss_nil : PSs X [] (tS X G En C0 W (exs Φ Ex .nil)) := pss_nil.wk fun D σ H ⟨θ, S, s, R, h⟩ => PostS.now R h
theorem PostS.thn {r : SR} {f : DS → SR} (h : PostS X G En C0 W θ S s σ (r.thn f) D) : PostS X G En C0 W θ S s σ r { D with nx := tS X G En C0 W f D } := by
  cases r with
  | nx s1 => exact fun θ1 S1 H1 σ1 fw R1 => ⟨θ1, S1, s1, R1, PostS.of h fw⟩
  | brk s1 => exact h
  | cont s1 => exact h
  | ret v s1 => exact h
  | exc c fs s1 => exact h
  | bad => exact h
theorem ss_cons {st : Stmt} {i : IS} (h1 : PS X st (tS X G En C0 W (ex Φ Ex i))) (h2 : PSs X l2 (tS X G En C0 W (exs Φ Ex i2))) : PSs X (st :: l2) (tS X G En C0 W (exs Φ Ex (.cons i i2))) :=
  (pss_cons h1 h2).wk fun D σ H ⟨θ, S, s, R, h⟩ => ⟨θ, S, s, R, PostS.thn h⟩
/-- a list or dict of one's own stays as it is from now on -/
theorem Rel.frz (R : Rel X G En C0 θ S H s σ) (i : Nat) : ∃ S', Fw θ S (CC X C0 σ s.cap) θ S' (CC X C0 σ s.cap) ∧ Rel X G En C0 θ S' H { s with own := s.own.filter (fun j => decide (j ≠ i)) } σ := by
  by_cases hi : i ∈ s.own
  · obtain ⟨q, a, h1, h2, h3, h4, h5, h6⟩ := R.own i hi
    obtain ⟨o, ho, hu, _, rv⟩ := h6.rep (G := G) h3
    have gr : Gr S (upd S a o) := Gr.of fun b u h => by
      rw [upd_ne (fun z => by rw [z, h3] at h; cases h)]
      exact h
    refine ⟨upd S a o, ⟨gr, Pre.refl _, fun _ _ z => z⟩, R.rs.know h3 h4 ho hu, R.en.know h5 h3, R.c0, R.len, R.len2, fun j w e1 e2 => ?_, fun j hj => ?_, fun j k b hj hk e1 e2 => ?_, R.fxd⟩
    · have e2 : j ∉ s.own.filter (fun j => decide (j ≠ i)) := e2
      by_cases e : j = i
      · subst e
        have e1 : s.loc[j]? = some (some w) := e1
        rw [h1] at e1; cases e1
        exact ⟨_, h2, rv⟩
      · obtain ⟨v, f1, f2⟩ := R.slot j w e1 fun z => e2 (List.mem_filter.mpr ⟨z, by simpa using e⟩)
        exact ⟨v, f1, RepV.mono gr (Pre.refl _) (fun _ _ z => z) f2⟩
    · have hj : j ∈ s.own.filter (fun j => decide (j ≠ i)) := hj
      obtain ⟨j1, j2⟩ := List.mem_filter.mp hj
      have j2 : j ≠ i := by simpa using j2
      obtain ⟨w, b, f1, f2, f3, f4, f5, f6⟩ := R.own j j1
      have hb : b ≠ a := fun z => j2 (R.dis j i a j1 hi (by rw [← z]; exact f2) h2)
      exact ⟨w, b, f1, f2, by rw [upd_ne hb]; exact f3, f4, f5, f6.mono gr (Pre.refl _) (fun _ _ z => z) fun _ z _ => z⟩
    · exact R.dis j k b (List.mem_filter.mp hj).1 (List.mem_filter.mp hk).1 e1 e2
  · have e : s.own.filter (fun j => decide (j ≠ i)) = s.own := List.filter_eq_self.mpr fun j hj => by
      simp only [decide_eq_true_eq]
      rintro rfl
      exact hi hj
    rw [e]
    exact ⟨S, Fw.refl _ _ _, R⟩
theorem ss_frz {i : Nat} (h : PSs X l1 (tS X G En C0 W (exs Φ Ex i1))) : PSs X l1 (tS X G En C0 W (exs Φ Ex (.cons (.frz i) i1))) :=
  h.wk fun D σ H ⟨θ, S, s, R, h⟩ => by
    obtain ⟨S', fw, R'⟩ := R.frz i
    exact ⟨θ, S', _, R', PostS.of h fw⟩
/-! ### for -/
theorem ss_for (hp : PassesOwn (model X.prog X.w) X.A X.env X.xe) (hc : X.calm = true) (hs : ∀ x, foldedSetIterable iter X.env x = pure x) (hi : PI X tg iter (tI X G En C0 W (evI Φ it))) (hg : PG X tg (tG X G En C0 W (tnm t) (asg Φ t))) (hb : PSs X l1 (tS X G En C0 W (exs Φ Ex i1))) :
    PS X (.For tg iter l1 [] pos) (tS X G En C0 W (ex Φ Ex (.for t it i1))) :=
  (ps_for hp hc hi hg hb hs).wk fun D σ H ⟨θ, S, s, R, h⟩ => by
    refine ⟨θ, S, s, R, (PostS.exprs h).imp fun xs s1 θ1 S1 H1 q1 e1 R1 h1 J wk => ?_⟩
    have h1 := h1 (evI_grow Φ it s xs s1 q1)
    have w : Walk J xs.length (fun H => ∃ S2, Gr S1 S2 ∧ Same S2 H) (fun i H x H' => J.yld i H x H') := ⟨fun i H hi ⟨S2, g, e⟩ => wk.go i S2 H g e hi, fun H ⟨S2, g, e⟩ => wk.stop S2 H g e, fun _ _ _ _ _ _ y => y⟩
    refine for_it (g := tG X G En C0 W (tnm t) (asg Φ t)) (tb := tS X G En C0 W (exs Φ Ex i1)) (D := D) w (fun i σ' H' => ∃ θ2 S2 s2, Fw θ1 S1 (CC X C0 σ s1.cap) θ2 S2 (CC X C0 σ' s2.cap) ∧ Rel X G En C0 θ2 S2 H' s2 σ' ∧ PostS X G En C0 W θ2 S2 s2 σ' (loopS (asg Φ t) (exs Φ Ex i1) (xs.drop i) s2) D) ?_ ?_ ?_ ?_
    · exact ⟨θ1, S1, s1, Fw.refl _ _ _, R1, by simpa using h1⟩
    · rintro i σ' H' _ ⟨θ2, S2, s2, fw, R2, _⟩
      exact ⟨S2, fw.gr, R2.rs.same⟩
    · rintro i x σ' H' H'' hi ⟨θ2, S2, s2, fw, R2, h2⟩ y
      have hx : xs[i]? = some xs[i] := List.getElem?_eq_getElem hi
      rw [List.drop_eq_getElem_cons hi] at h2
      generalize xs[i] = q at hx h2
      obtain ⟨S3, e3, rs3, rq⟩ := wk.yld i θ2 S2 H' x H'' s2.mu q fw.pre fw.gr R2.rs hx y
      have R3 := R2.step e3 rs3
      have fw3 : Fw θ2 S2 (CC X C0 σ' s2.cap) θ2 S3 (CC X C0 σ' s2.cap) := ⟨e3.sS, e3.pre, fun _ _ z => z⟩
      refine ⟨θ2, S3, s2, q, R3, RepV.mono (Gr.refl _) (Pre.refl _) fw.cc rq, ?_⟩
      unfold loopS at h2
      cases hA : asg Φ t q s2 with
      | bad => rw [hA] at h2; exact h2.elim
      | exc c fs s3 => rw [hA] at h2; exact h2
      | ok u s3 =>
        rw [hA] at h2
        intro θ4 S4 H4 σ4 f4 R4 _
        refine ⟨θ4, S4, s3, R4, ?_⟩
        have fw4 := (fw3.trans f4.fw)
        have h2 := PostS.of (θ' := θ4) (S' := S4) (s' := s3) (σ' := σ4) h2 fw4
        simp only [DR.thn] at h2
        cases hB : exs Φ Ex i1 s3 with
        | nx s4 =>
          rw [hB] at h2
          exact fun θ5 S5 H5 σ5 fw5 R5 => ⟨θ5, S5, s4, (fw.trans fw4).trans fw5, R5, PostS.of h2 fw5⟩
        | cont s4 =>
          rw [hB] at h2
          exact fun θ5 S5 H5 σ5 fw5 R5 => ⟨θ5, S5, s4, (fw.trans fw4).trans fw5, R5, PostS.of h2 fw5⟩
        | brk s4 => rw [hB] at h2; exact h2
        | ret v s4 => rw [hB] at h2; exact h2
        | exc c fs s4 => rw [hB] at h2; exact h2
        | bad => rw [hB] at h2; exact h2
    · rintro σ' H' ⟨θ2, S2, s2, fw, R2, h2⟩
      rw [List.drop_length] at h2
      exact PostS.now R2 h2
end
end TL

set_option linter.all false
set_option maxRecDepth 100000
set_option maxHeartbeats 1000000
/-! TLSnd14: append, extend, stores into dicts, several names at once. Own work. -/
namespace TL
open PySem PySem.Spec PyProof.Rows L2 NdefX
section
variable {X : Cx} {G : GT} {En : Ent} {C0 C C' C'' : Cells} {W : WX} {θ θ' θ'' : List Addr} {S S' S'' H H' H'' : Hp} {σ σ' : L2.St} {s s' : DS} {Φ : Phi} {Ex : Exc} {D : Ends}
variable {a b c tg e elt iter : Expr} {ia ib ic ie ik iv : IE} {pos p p2 p3 tpos : Pos} {t : Tg} {it : II} {x : Str} {i : Nat} {apos cpos : Pos}
/-- one's own thing is changed -/
theorem Rel.setOwn {q : PV} {la : Addr} {o : HO} (R : Rel X G En C0 θ S H s σ) (hi : i ∈ s.own) (hσ : σ[i]? = some (some (.ref la))) (ow : OwnAt X.K G.toFT (CC X C0 σ s.cap) θ S (upd H la o) q la) :
    Rel X G En C0 θ S (upd H la o) { s with loc := s.loc.set i (some q) } σ := by
  obtain ⟨q0, a0, h1, h2, h3, h4, h5, h6⟩ := R.own i hi
  rw [hσ] at h2; cases h2
  have hu : ∃ u, H la = some u ∧ (∀ ps, u ≠ .tbl ps) ∧ ∀ φ, u ≠ .ext φ := by
    cases h6 with
    | lst h r => exact ⟨_, h, fun _ z => (by cases z), fun _ z => (by cases z)⟩
    | dct h r => exact ⟨_, h, fun _ z => (by cases z), fun _ z => (by cases z)⟩
    | dtt h r => exact ⟨_, h, fun _ z => (by cases z), fun _ z => (by cases z)⟩
  obtain ⟨u, hu, hu2, hu3⟩ := hu
  have hil : i < s.loc.length := (List.getElem?_eq_some_iff.mp h1).1
  refine ⟨R.rs.rewrite h3 h4 hu hu2 hu3, R.en.rewrite h5 h3 h4 hu, R.c0, by simp [R.len], R.len2, fun j w e1 e2 => ?_, fun j hj => ?_, R.dis, R.fxd⟩
  · have hj : j ≠ i := fun z => e2 (by rw [z]; exact hi)
    have e1 : (s.loc.set i (some q))[j]? = some (some w) := e1
    rw [List.getElem?_set_ne (Ne.symm hj)] at e1
    exact R.slot j w e1 e2
  · by_cases e : j = i
    · subst e
      exact ⟨q, la, List.getElem?_set_self hil, hσ, h3, h4, h5, ow⟩
    · obtain ⟨w, b, f1, f2, f3, f4, f5, f6⟩ := R.own j hj
      have hb : b ≠ la := fun z => e (R.dis j i la hj hi (by rw [← z]; exact f2) hσ)
      refine ⟨w, b, ?_, f2, f3, f4, f5, f6.mono (Gr.refl _) (Pre.refl _) (fun _ _ z => z) fun o z _ => by rw [upd_ne hb]; exact z⟩
      show (s.loc.set i (some q))[j]? = _
      rw [List.getElem?_set_ne (Ne.symm e)]
      exact f1
theorem Rel.own2 (R : Rel X G En C0 θ S H s σ) (le : LeS s s') (R' : Rel X G En C0 θ' S' H' s' σ) (hi : i ∈ s.own) {q : PV} (hq : getS s i = some q) : ∃ la, σ[i]? = some (some (.ref la)) ∧ OwnAt X.K G.toFT (CC X C0 σ s.cap) θ S H q la ∧ OwnAt X.K G.toFT (CC X C0 σ s'.cap) θ' S' H' q la ∧ i ∈ s'.own ∧ s'.loc = s.loc := by
  have hl := getS_some hq
  obtain ⟨q0, a0, h1, h2, h3, h4, h5, h6⟩ := R.own i hi
  rw [hl] at h1; cases h1
  have hi' : i ∈ s'.own := by rw [le.2.2]; exact hi
  obtain ⟨q1, a1, g1, g2, g3, g4, g5, g6⟩ := R'.own i hi'
  rw [le.2.1, hl] at g1; cases g1
  rw [h2] at g2; cases g2
  exact ⟨a0, h2, h6, g6, hi', le.2.1⟩
theorem ss_append (hN : X.N[i]? = some x) (hv : Vis X.env.scope x) (hd : (x == ("__debug__" : Str)) = false) (hcd : (x == ("__classdict__" : Str)) = false) (hline : (apos.endLine == cpos.line) = true) (hs : ∀ x p, e ≠ .Starred x p) (he : PE X e (tD X G En C0 W (ev Φ ie))) :
    PS X (.Expr (.Call (.Attribute (.Name x p) "append" apos) [e] [] cpos) pos) (tS X G En C0 W (ex Φ Ex (.app i ie))) :=
  (ps_expr (pe_bm PySem.F.plainAttrs_list PySem.F.slot_list_append PySem.F.type_list_append mt_append (pe_var (pos := p) hN hv hd hcd) (pa_cons he pa_nil (star_plain hs)) (by rfl) (by rw [star_plain hs]; rfl) hline (star_plain hs) (by rfl)) (by rfl)).wk fun D σ H ⟨θ, S, s, R, h⟩ => by
    unfold ex at h
    split at h
    · rename_i xs hq
      split at h
      · rename_i hz
        obtain ⟨hi, hz⟩ := hz
        obtain ⟨la, hσ, ow, _⟩ := R.own2 (LeS.refl s) R hi hq
        refine ⟨_, hσ, ?_, ?_⟩
        · cases ow with
          | lst h r => exact .inl ⟨rfl, _, SqL.of h⟩
        · refine ⟨θ, S, s, R, (PostS.exprs h).imp fun v s1 θ1 S1 H1 q1 e1 R1 h1 u ru => ?_⟩
          have le := ev_grow Φ ie s v s1 q1
          replace h1 := h1 le
          obtain ⟨la', hσ', _, ow1, hi1, hl1⟩ := R.own2 le R1 hi hq
          rw [hσ] at hσ'; cases hσ'
          cases ow1 with
          | lst hl r =>
            refine ⟨la, _, u, rfl, rfl, hl, Nat.lt_of_lt_of_le (by rw [← r.length]; exact hz) (sz (Nat.le_refl _)), ?_⟩
            exact h1 θ1 S1 _ σ (Fw.refl _ _ _) (R1.setOwn hi1 hσ (.lst upd_same (r.append (.cons ru .nil))))
      · exact h.elim
    · exact h.elim
theorem ss_extend (hN : X.N[i]? = some x) (hv : Vis X.env.scope x) (hd : (x == ("__debug__" : Str)) = false) (hcd : (x == ("__classdict__" : Str)) = false) (hline : (apos.endLine == cpos.line) = true) (hs : ∀ x p, e ≠ .Starred x p) (he : PE X e (tD X G En C0 W (ev Φ ie))) :
    PS X (.Expr (.Call (.Attribute (.Name x p) "extend" apos) [e] [] cpos) pos) (tS X G En C0 W (ex Φ Ex (.ext i ie))) :=
  (ps_expr (pe_bm PySem.F.plainAttrs_list PySem.F.slot_list_extend PySem.F.type_list_extend mt_extend (pe_var (pos := p) hN hv hd hcd) (pa_cons he pa_nil (star_plain hs)) (by rfl) (by rw [star_plain hs]; rfl) hline (star_plain hs) (by rfl)) (by rfl)).wk fun D σ H ⟨θ, S, s, R, h⟩ => by
    unfold ex at h
    split at h
    · rename_i xs hq
      split at h
      · rename_i hi
        obtain ⟨la, hσ, ow, _⟩ := R.own2 (LeS.refl s) R hi hq
        refine ⟨_, hσ, ?_, ?_⟩
        · cases ow with
          | lst h r => exact .inl ⟨rfl, _, SqL.of h⟩
        · refine ⟨θ, S, s, R, (PostS.exprs h).imp fun v s1 θ1 S1 H1 q1 e1 R1 h1 u ru => ?_⟩
          have le := ev_grow Φ ie s v s1 q1
          replace h1 := h1 le
          obtain ⟨la', hσ', _, ow1, hi1, hl1⟩ := R.own2 le R1 hi hq
          rw [hσ] at hσ'; cases hσ'
          split at h1
          · rename_i ys _
            split at h1
            · rename_i hz
              cases ow1 with
              | lst hl r =>
                cases ru with
                | lst h2 r2 =>
                  refine ⟨la, _, _, _, rfl, rfl, hl, R1.rs.same _ _ h2, by rw [← r.length, ← r2.length]; exact sz hz, ?_⟩
                  exact h1 θ1 S1 _ σ (Fw.refl _ _ _) (R1.setOwn hi1 hσ (.lst upd_same (r.append r2)))
            · exact h1.elim
          · exact h1.elim
      · exact h.elim
    · exact h.elim
theorem ss_dput (hu : X.A.units + 1 < cLine) (hN : X.N[i]? = some x) (hv : Vis X.env.scope x) (hd : (x == ("__debug__" : Str)) = false) (hcd : (x == ("__classdict__" : Str)) = false) (hk : PE X b (tD X G En C0 W (ev Φ ik))) (he : PE X e (tD X G En C0 W (ev Φ iv)))
    (hs : swapsWith e (some (.Subscript (.Name x p) b p2)) pos.line X.env = pure false) : PS X (.Assign [.Subscript (.Name x p) b p2] e pos) (tS X G En C0 W (ex Φ Ex (.dput i ik iv))) :=
  (ps_dput hu (pe_var (pos := p) hN hv hd hcd) hk he hs).wk fun D σ H ⟨θ, S, s, R, h⟩ => by
    unfold ex at h
    split at h
    · rename_i kvs hq
      split at h
      · rename_i hz
        obtain ⟨hi, hz⟩ := hz
        refine ⟨θ, S, s, R, (PostS.exprs h).imp fun v s1 θ1 S1 H1 q1 e1 R1 h1 u ru => ?_⟩
        have le1 := ev_grow Φ iv s v s1 q1
        obtain ⟨la, hσ, _, _⟩ := R.own2 le1 R1 hi hq
        refine ⟨_, hσ, θ1, S1, s1, R1, (PostS.exprs (h1 le1)).imp fun w s2 θ2 S2 H2 q2 e2 R2 h2 u2 ru2 => ?_⟩
        have le2 := ev_grow Φ ik s1 w s2 q2
        replace h2 := h2 le2
        obtain ⟨la', hσ', _, ow2, hi2, _⟩ := R.own2 (le1.trans le2) R2 hi hq
        rw [hσ] at hσ'; cases hσ'
        split at h2
        · rename_i k hkk
          cases ow2 with
          | dct hl r =>
            have e := ru2.key hkk
            subst e
            refine ⟨la, _, rfl, .inl ⟨_, k, hl, rfl, Nat.lt_of_lt_of_le (by rw [← r.length]; exact hz) (sz (Nat.le_refl _)), rfl⟩, ?_⟩
            exact h2 θ2 S2 _ σ (Fw.refl _ _ _) (R2.setOwn hi2 hσ (.dct upd_same (r.put (RepV.mono e2.sS e2.pre (CC.mono le2.1) ru))))
        · exact h2.elim
      · exact h.elim
    · exact h.elim
end
end TL

set_option linter.all false
set_option maxRecDepth 100000
set_option maxHeartbeats 1000000
/-! TLSnd15: several names at once; comprehensions stored. Own work. -/
namespace TL
open PySem PySem.Spec PyProof.Rows L2 NdefX
section
variable {X : Cx} {G : GT} {En : Ent} {C0 C C' C'' : Cells} {W : WX} {θ θ' θ'' : List Addr} {S S' S'' H H' H'' : Hp} {σ σ' : L2.St} {s s' : DS} {Φ : Phi} {Ex : Exc} {D : Ends}
variable {a b c tg e elt iter : Expr} {ia ib ic ie ik iv : IE} {pos p p2 p3 tpos : Pos} {t : Tg} {it : II} {x : Str} {i : Nat} {apos cpos : Pos}
/-- what is to be stored: values; new things of one's own -/
inductive RepM (K : PySem.W.Frag) (G : FT) (C : Cells) (θ : List Addr) (S H0 H : Hp) : List (Nat × Bool) → List PV → List V → Prop where
  | nil : RepM K G C θ S H0 H [] [] []
  | val {i : Nat} {p : PV} {v : V} {ts ps vs} : RepV K G C θ S p v → RepM K G C θ S H0 H ts ps vs → RepM K G C θ S H0 H ((i, false) :: ts) (p :: ps) (v :: vs)
  | own {i : Nat} {p : PV} {a : Addr} {ts ps vs} : FrA K G C θ S H0 H p a → RepM K G C θ S H0 H ts ps vs → RepM K G C θ S H0 H ((i, true) :: ts) (p :: ps) (.ref a :: vs)
def tM (X : Cx) (G : GT) (En : Ent) (C0 : Cells) (W : WX) (ts : List (Nat × Bool)) (d : DS → DR (List PV)) : TA := fun σ H Q => ∃ θ S s, Rel X G En C0 θ S H s σ ∧
  PostR X G En C0 W θ S H σ (d s) fun ps s' θ' S' H' => ∀ vs, RepM X.K G.toFT (CC X C0 σ s'.cap) θ' S' H H' ts ps vs → Q vs H'
theorem RepM.mono0 {K : PySem.W.Frag} {H0 H1 : Hp} (h : ∀ a, H1 a = none → H0 a = none) : ∀ {ts ps vs}, RepM K G.toFT C θ S H1 H ts ps vs → RepM K G.toFT C θ S H0 H ts ps vs
  | _, _, _, .nil => .nil
  | _, _, _, .val r q => .val r (RepM.mono0 h q)
  | _, _, _, .own ⟨n, a, b, c⟩ q => .own ⟨h _ n, a, b, c⟩ (RepM.mono0 h q)
theorem sm_nil : PA X [] (tM X G En C0 W [] (evs Φ .nil)) := pa_nil.wk fun σ H Q ⟨θ, S, s, R, h⟩ => h θ S H (Ste.refl _ _ _) R [] .nil
variable {es : List Expr} {i1 : IE} {is : IEs} {ts : List (Nat × Bool)}
theorem sm_val (hs : ∀ x p, e ≠ .Starred x p) (he : PE X e (tD X G En C0 W (ev Φ i1))) (hes : PA X es (tM X G En C0 W ts (evs Φ is))) : PA X (e :: es) (tM X G En C0 W ((i, false) :: ts) (evs Φ (.cons i1 is))) :=
  (pa_cons he hes (star_plain hs)).wk fun σ H Q ⟨θ, S, s, R, h⟩ => by
    unfold evs at h
    refine ⟨θ, S, s, R, (PostR.bind h).imp fun x s1 θ1 S1 H1 _ e1 R1 h1 u ru => ?_⟩
    refine ⟨θ1, S1, s1, R1, (PostR.bind h1).imp fun y s2 θ2 S2 H2 q2 e2 R2 h2 v rv => ?_⟩
    exact h2 θ2 S2 H2 (Ste.refl _ _ _) R2 _ (.val (RepV.mono e2.sS e2.pre (CC.mono (evs_grow Φ is s1 y s2 q2).1) ru) (rv.mono0 fun a n => none_of e1 n))
theorem FrA.step {K : PySem.W.Frag} {H0 : Hp} {q : PV} {la : Addr} (h : FrA K G.toFT C θ S H0 H q la) (e : Ste θ S H θ' S' H') (c : ∀ a v, C a v → C' a v) : FrA K G.toFT C' θ' S' H0 H' q la := by
  obtain ⟨h1, h2, h3, h4⟩ := h
  obtain ⟨o, ho, ht⟩ := h4.there
  obtain ⟨f1, f2, f3⟩ := e.stays h2 h3 ho ht
  exact ⟨h1, f1, f2, h4.mono e.sS e.pre c fun o h t => (e.kp la o h h3 t).elim id fun z => by rw [h2] at z; cases z.1⟩
theorem sm_own (hs : ∀ x p, e ≠ .Starred x p) (he : PE X e (tFr X G En C0 W (ev Φ i1))) (hes : PA X es (tM X G En C0 W ts (evs Φ is))) : PA X (e :: es) (tM X G En C0 W ((i, true) :: ts) (evs Φ (.cons i1 is))) :=
  (pa_cons he hes (star_plain hs)).wk fun σ H Q ⟨θ, S, s, R, h⟩ => by
    unfold evs at h
    refine ⟨θ, S, s, R, (PostR.bind h).imp fun x s1 θ1 S1 H1 _ e1 R1 h1 la fr => ?_⟩
    refine ⟨θ1, S1, s1, R1, (PostR.bind h1).imp fun y s2 θ2 S2 H2 q2 e2 R2 h2 v rv => ?_⟩
    exact h2 θ2 S2 H2 (Ste.refl _ _ _) R2 _ (.own (fr.step e2 (CC.mono (evs_grow Φ is s1 y s2 q2).1)) (rv.mono0 fun a n => none_of e1 n))
def setV : List (Nat × Bool) → List V → L2.St → L2.St
  | (i, _) :: ts, v :: vs, σ => setV ts vs (σ.set i (some v))
  | _, _, σ => σ
theorem RepM.fw {K : PySem.W.Frag} {H0 : Hp} (c : ∀ a v, C a v → C' a v) : ∀ {ts ps vs}, RepM K G.toFT C θ S H0 H ts ps vs → RepM K G.toFT C' θ S H0 H ts ps vs
  | _, _, _, .nil => .nil
  | _, _, _, .val r q => .val (RepV.mono (Gr.refl _) (Pre.refl _) c r) (RepM.fw c q)
  | _, _, _, .own ⟨n, a, b, d⟩ q => .own ⟨n, a, b, d.fw c⟩ (RepM.fw c q)
/-- all are set; at most one is one's own -/
theorem Rel.setAll {H0 : Hp} (hEn : ∀ a, H0 a = none → En.H a = none) : ∀ {ts ps vs s s' σ}, RepM X.K G.toFT (CC X C0 σ s.cap) θ S H0 H ts ps vs → Rel X G En C0 θ S H s σ → setAll ts ps s = some s' → (ts.filter (·.2)).length ≤ 1 →
    (∀ j ∈ s.own, ∀ b, σ[j]? = some (some (.ref b)) → (ts.filter (·.2)).length = 1 → H0 b ≠ none) → Fw θ S (CC X C0 σ s.cap) θ S (CC X C0 (setV ts vs σ) s'.cap) ∧ Rel X G En C0 θ S H s' (setV ts vs σ)
  | _, _, _, s, s', σ, .nil, R, h, _, _ => by
    cases h
    exact ⟨Fw.refl _ _ _, R⟩
  | _, _, _, s, s', σ, .val (i := i) (p := p) (v := v) r q, R, h, hn, ho => by
    simp only [TL.setAll, Bool.false_eq_true, if_false] at h
    split at h
    · cases h
    · rename_i hc
      split at h
      · rename_i hl
        have f1 : Fw θ S (CC X C0 σ s.cap) θ S (CC X C0 (σ.set i (some v)) s.cap) := ⟨Gr.refl _, Pre.refl _, CC.set hc⟩
        have R1 := R.setS r hc hl
        obtain ⟨f2, R2⟩ := Rel.setAll (s := s.setS i p) hEn (RepM.fw f1.cc q) R1 h (by simpa using hn) (fun j hj b hb hn1 => by
          have hj : j ∈ s.own.filter (fun j => decide (j ≠ i)) := hj
          obtain ⟨j1, j2⟩ := List.mem_filter.mp hj
          have j2 : j ≠ i := by simpa using j2
          rw [List.getElem?_set_ne (Ne.symm j2)] at hb
          exact ho j j1 b hb (by simpa using hn1))
        exact ⟨f1.trans f2, R2⟩
      · cases h
  | _, _, _, s, s', σ, .own (i := i) (p := p) (a := a) (ts := ts) ⟨n0, n1, n2, ow⟩ q, R, h, hn, ho => by
    simp only [TL.setAll, if_true] at h
    split at h
    · cases h
    · rename_i hc
      split at h
      · rename_i hl
        have hn' : (List.filter (fun x : Nat × Bool => x.2) ts).length = 0 := by
          simp only [List.filter_cons, if_true, List.length_cons] at hn
          exact Nat.le_zero.mp (Nat.le_of_succ_le_succ hn)
        have f1 : Fw θ S (CC X C0 σ s.cap) θ S (CC X C0 (σ.set i (some (.ref a))) s.cap) := ⟨Gr.refl _, Pre.refl _, CC.set hc⟩
        have R1 := R.setO ow n1 n2 (hEn a n0) (fun j hj z => ho j hj a z (by simp only [List.filter_cons, if_true, List.length_cons, hn']) n0) hc hl
        obtain ⟨f2, R2⟩ := Rel.setAll (s := s.setO i p) hEn (RepM.fw f1.cc q) R1 h (by rw [hn']; exact Nat.zero_le _) (fun j hj b hb hn1 => by rw [hn'] at hn1; cases hn1)
        exact ⟨f1.trans f2, R2⟩
      · cases h
theorem imp_par (h : tS X G En C0 W (ex Φ Ex (.par ts is)) D σ H) (hn : (ts.filter (·.2)).length ≤ 1) (Q : List V → Hp → Prop)
    (k : ∀ (vs : List V) (θ' : List Addr) (S' H' : Hp), vs.length = ts.length → (∀ o p, H' p = none → D.nx (setV ts vs σ) (upd H' p o)) → D.nx (setV ts vs σ) H' → Q vs H') : tM X G En C0 W ts (evs Φ is) σ H Q := by
  obtain ⟨θ, S, s, R, h⟩ := h
  unfold ex at h
  refine ⟨θ, S, s, R, (PostS.exprs h).imp fun ps s1 θ1 S1 H1 q1 e1 R1 h1 vs rm => ?_⟩
  have le := evs_grow Φ is s ps s1 q1
  replace h1 := h1 le
  split at h1
  · rename_i s2 hs2
    have len : ∀ {ts ps vs} {C : Cells} {H1 : Hp}, RepM X.K G.toFT C θ1 S1 H H1 ts ps vs → vs.length = ts.length := by
      intro ts ps vs C H1 r
      induction r with
      | nil => rfl
      | val _ _ ih => simp [ih]
      | own _ _ ih => simp [ih]
    have own : ∀ j ∈ s1.own, ∀ b, σ[j]? = some (some (.ref b)) → (ts.filter (·.2)).length = 1 → H b ≠ none := fun j hj b hb _ hb0 => by
      obtain ⟨u, hu, _⟩ := R.ownThere (i := j) (by rw [← le.2.2]; exact hj) hb
      rw [hb0] at hu; cases hu
    refine k vs θ1 S1 H1 (len rm) (fun o p np => ?_) ?_
    · have st := Ste.junk (θ := θ1) (S := S1) (o := o) np
      have R2 := R1.step st (R1.rs.junk np)
      have rm2 : RepM X.K G.toFT (CC X C0 σ s1.cap) θ1 S1 H (upd H1 p o) ts ps vs := by
        have aux : ∀ {ts ps vs}, RepM X.K G.toFT (CC X C0 σ s1.cap) θ1 S1 H H1 ts ps vs → RepM X.K G.toFT (CC X C0 σ s1.cap) θ1 S1 H (upd H1 p o) ts ps vs := by
          intro ts ps vs r
          induction r with
          | nil => exact .nil
          | val r _ ih => exact .val r ih
          | own f _ ih => exact .own (f.step st fun _ _ z => z) ih
        exact aux rm
      obtain ⟨f2, R3⟩ := Rel.setAll (fun a n => none_of R.en n) rm2 R2 hs2 hn own
      exact h1 θ1 S1 _ _ f2 R3
    · obtain ⟨f2, R3⟩ := Rel.setAll (fun a n => none_of R.en n) rm R1 hs2 hn own
      exact h1 θ1 S1 _ _ f2 R3
  · exact h1.elim
/-- swapped stores: two, three names -/
theorem ss_par2 {j : Nat} {y : Str} {is : IEs} {oi oj : Bool} {px py pt : Pos} {kt k2 : Nat} {pt2 : Pos} (hc : X.calm = true) (hN : X.N.Nodup) (hi : X.N[i]? = some x) (hj : X.N[j]? = some y) (hij : i ≠ j)
    (hx : X.env.scope.names.lookup x = some .local) (hy : X.env.scope.names.lookup y = some .local) (ho : (([(i, oi), (j, oj)] : List (Nat × Bool)).filter (·.2)).length ≤ 1) (ha : PA X [a, b] (tM X G En C0 W [(i, oi), (j, oj)] (evs Φ is)))
    (hw : swappedStores [.Tuple [.Name x px, .Name y py] kt pt] (.Tuple [a, b] k2 pt2) X.env = pure (some [x, y]))
    (hs : swapsWithSole [.Tuple [.Name x px, .Name y py] kt pt] (.Tuple [a, b] k2 pt2) pos.line X.env = pure false) :
    PS X (.Assign [.Tuple [.Name x px, .Name y py] kt pt] (.Tuple [a, b] k2 pt2) pos) (tS X G En C0 W (ex Φ Ex (.par [(i, oi), (j, oj)] is))) :=
  (ps_par hc hN hi hj hij hx hy ha hw hs).wk fun D σ H h => imp_par h ho _ fun vs θ' S' H' hl _ q => by
    match vs, hl with
    | [v, w], _ => exact ⟨v, w, rfl, q⟩
theorem ss_par3 {j l : Nat} {y z : Str} {is : IEs} {oi oj ol : Bool} {px py pz pt : Pos} {kt k2 : Nat} {pt2 : Pos} (hc : X.calm = true) (hN : X.N.Nodup) (hi : X.N[i]? = some x) (hj : X.N[j]? = some y) (hl : X.N[l]? = some z) (hij : i ≠ j) (hil : i ≠ l) (hjl : j ≠ l)
    (hx : X.env.scope.names.lookup x = some .local) (hy : X.env.scope.names.lookup y = some .local) (hz : X.env.scope.names.lookup z = some .local) (ho : (([(i, oi), (j, oj), (l, ol)] : List (Nat × Bool)).filter (·.2)).length ≤ 1)
    (ha : PA X [a, b, c] (tM X G En C0 W [(i, oi), (j, oj), (l, ol)] (evs Φ is)))
    (hw : swappedStores [.Tuple [.Name x px, .Name y py, .Name z pz] kt pt] (.Tuple [a, b, c] k2 pt2) X.env = pure (some [x, y, z]))
    (hs : swapsWithSole [.Tuple [.Name x px, .Name y py, .Name z pz] kt pt] (.Tuple [a, b, c] k2 pt2) pos.line X.env = pure false) :
    PS X (.Assign [.Tuple [.Name x px, .Name y py, .Name z pz] kt pt] (.Tuple [a, b, c] k2 pt2) pos) (tS X G En C0 W (ex Φ Ex (.par [(i, oi), (j, oj), (l, ol)] is))) :=
  (ps_par3 hc hN hi hj hl hij hil hjl hx hy hz ha hw hs).wk fun D σ H h => imp_par h ho _ fun vs θ' S' H' hl _ q => by
    match vs, hl with
    | [u, v, w], _ => exact ⟨u, v, w, rfl, q⟩
/-- by a tuple that is made and taken apart -/
def gNames : List (Nat × Bool) → TGs := fun ts vs σ H Q => vs.length = ts.length ∧ Q (setV ts vs σ) H
inductive Nms (X : Cx) : List Expr → List (Nat × Bool) → Prop where
  | nil : Nms X [] []
  | cons {x : Str} {i : Nat} {o : Bool} {p : Pos} {es ts} : X.N[i]? = some x → Loc X.env.scope x → (X.fn x = true ∨ X.env.scope.names.lookup x = some .local) → Nms X es ts → Nms X (.Name x p :: es) ((i, o) :: ts)
theorem Nms.pgs (hN : X.N.Nodup) : ∀ {es ts}, Nms X es ts → PGs X es (gNames ts)
  | _, _, .nil => pgs_nil.wk fun vs σ H Q ⟨h, q⟩ => by
    cases vs with
    | nil => exact ⟨rfl, q⟩
    | cons => simp at h
  | _, _, .cons h1 h2 h3 r => (pgs_cons (pg_name hN h1 h2 h3) (Nms.pgs hN r) (by rw [assign_split (fun x p => by simp)]; rfl)).wk fun vs σ H Q ⟨h, q⟩ => by
    cases vs with
    | nil => simp at h
    | cons v vs => exact ⟨v, vs, rfl, by simpa using h, q⟩
theorem Nms.plain : ∀ {es ts}, Nms X es ts → ∀ e ∈ es, ∀ x p, e ≠ .Starred x p
  | _, _, .nil, e, h => by cases h
  | _, _, .cons _ _ _ r, e, h => by
    rcases List.mem_cons.mp h with rfl | h
    · intro x p; simp
    · exact Nms.plain r e h
theorem Nms.len : ∀ {es ts}, Nms X es ts → es.length = ts.length
  | _, _, .nil => rfl
  | _, _, .cons _ _ _ r => by simp [Nms.len r]
theorem ss_parT {ns vs0 : List Expr} {is : IEs} {pt : Pos} {kt k2 : Nat} {pt2 : Pos} (hc : X.calm = true) (hN : X.N.Nodup) (hn : Nms X ns ts) (ho : (ts.filter (·.2)).length ≤ 1) (hsz : ts.length ≤ 1000) (ha : PA X vs0 (tM X G En C0 W ts (evs Φ is)))
    (hs : swapsWithSole [.Tuple ns kt pt] (.Tuple vs0 k2 pt2) pos.line X.env = pure false) (hw : swappedStores [.Tuple ns kt pt] (.Tuple vs0 k2 pt2) X.env = pure none) :
    PS X (.Assign [.Tuple ns kt pt] (.Tuple vs0 k2 pt2) pos) (tS X G En C0 W (ex Φ Ex (.par ts is))) :=
  (ps_asg (pe_tup ha) (pg_tup hc (hn.pgs hN) (assign_len hn.plain).1 (assign_len hn.plain).2) hs hw (by rw [assign_split (fun x p => by simp)]; rfl)).wk fun D σ H h => imp_par h ho _ fun vs θ' S' H' hl q _ => by
    refine ⟨by rw [hl]; exact Nat.le_trans hsz (sz (by decide)), fun p np => ⟨p, vs, rfl, SqT.of upd_same, by rw [hl, hn.len], by rw [hl], q _ p np⟩⟩
/-- a comprehension, stored -/
theorem ss_setLc {own0 : List (Str × Nat)} {ifs : List Expr} {scope : Scope} {o : Bool} (hfx : En.fx = []) (hc : X.calm = true) (hN : X.N.Nodup) (hi' : X.N[i]? = some x) (hxl : X.env.scope.names.lookup x = some .local)
    (hsw : swapsWith (.ListComp elt [⟨tg, iter, ifs, 0⟩] scope pos) (some (.Name x p)) p2.line X.env = pure true)
    (ok : BlkOk X.N X.env.scope scope own0) (hs : ∀ x, foldedSetIterable iter X.env x = pure x) (hi : PI X tg iter (tI X G En C0 W (evI Φ it)))
    (hg : ∀ (sh : Shared) (H0 : Hp) (C : Addr) (cl : List (Str × Addr)) (fp : List Addr), PG (X.blk sh H0 scope (compEnvC scope cl C X.env) fp) tg (tG (X.blk sh H0 scope (compEnvC scope cl C X.env) fp) G En noC noW (tnm t) (asg Φ t)))
    (ht : ∀ (sh : Shared) (H0 : Hp) (C : Addr) (cl : List (Str × Addr)) (fp : List Addr), PTs (X.blk sh H0 scope (compEnvC scope cl C X.env) fp) ifs (tT (X.blk sh H0 scope (compEnvC scope cl C X.env) fp) G En noC noW (ev Φ ic)))
    (he : ∀ (sh : Shared) (H0 : Hp) (C : Addr) (cl : List (Str × Addr)) (fp : List Addr), PE (X.blk sh H0 scope (compEnvC scope cl C X.env) fp) elt (tD (X.blk sh H0 scope (compEnvC scope cl C X.env) fp) G En noC noW (ev Φ ie))) :
    PS X (.Assign [.Name x p] (.ListComp elt [⟨tg, iter, ifs, 0⟩] scope pos) p2) (tS X G En C0 W (ex Φ Ex (if o then .asgO i (.comp (own0.map (·.2)) t it ic ie) else .asg (.nm i) (.comp (own0.map (·.2)) t it ic ie)))) :=
  (ps_setLc (g := gBk X G En scope Φ t) (tt := tBk X G En scope Φ ic) (te := eBk X G En scope Φ ie) hc hN hi' hxl hsw hi ok (fun sh H0 C cl fp => (hg sh H0 C cl fp).wk fun v σ H Q h => h sh H0 C cl fp)
    (fun sh H0 C cl fp => ⟨fun pins s σ H Q I h => (ht sh H0 C cl fp).run pins s σ H Q I (h sh H0 C cl fp)⟩) (fun sh H0 C cl fp => (he sh H0 C cl fp).wk fun σ H Q h => h sh H0 C cl fp) hs).wk fun D σ H h => by
    cases o with
    | true => exact imp_comp hfx (imp_own h)
    | false =>
      obtain ⟨θ, S, s, R, h⟩ := h
      refine imp_comp hfx (imp_know (ev_grow Φ _) ⟨θ, S, s, R, (PostS.exprs h).imp fun x s1 θ1 S1 H1 q1 e1 R1 h1 v rv => ?_⟩)
      have h2 := PostS.asgE (H := H1) (T := [i]) (h1 (ev_grow Φ _ s x s1 q1))
      unfold asg at h2
      split at h2
      · exact h2.elim
      · rename_i hcap
        split at h2
        · rename_i hl
          exact h2 θ1 S1 H1 _ ⟨Ste.refl _ _ _, CC.set hcap⟩ (R1.setS rv hcap hl) fun j hj => List.getElem?_set_ne (by simp at hj; exact Ne.symm hj)
        · exact h2.elim
end
end TL

set_option linter.all false
set_option maxRecDepth 100000
set_option maxHeartbeats 1000000
/-! TLLam: lambdas as values. Own work. -/
namespace TL
open PySem PySem.Spec PyProof.Rows L2 NdefX LamX
section
variable {K : PySem.W.Frag} {G : GT} {θ : List Addr} {S S1 H H1 : Hp} {mu : List SO}
theorem Ste.grow (g : Gr S S1) (ex : ∀ b o, H b = some o → (∀ ps, o ≠ .tbl ps) → H1 b = some o) (fr : ∀ a, S a = none → S1 a ≠ none → H a = none) (hN : ∀ b, H1 b = none → H b = none) : Ste θ S H θ S1 H1 :=
  ⟨g, Pre.refl θ, fun _ h k => absurd h k, fr, fun a o h _ t => .inl (ex a o h t), fun a h z => h (hN a z)⟩
theorem RS.grow (r : RS K G θ S H mu) (g : Gr S S1) (sm : Same S1 H1) (ex : ∀ b o, H b = some o → (∀ ps, o ≠ .tbl ps) → H1 b = some o) (fr : ∀ a, S a = none → S1 a ≠ none → H a = none) (tb : TabsK G.T S1 H1) : RS K G θ S1 H1 mu where
  same := sm
  nd := r.nd
  len := r.len
  out := fun a h => by
    cases q : S1 a with
    | none => rfl
    | some u =>
      obtain ⟨o, ho, _⟩ := r.there h
      have := fr a (r.out a h) (by rw [q]; simp)
      rw [ho] at this; cases this
  obj := fun i w b h1 h2 => by
    obtain ⟨o, ho, ht, _⟩ := r.there (List.mem_of_getElem? h2)
    exact ((r.obj i w b h1 h2).mono g (Pre.refl θ) fun _ z => z).keep (by rw [ex b o ho ht, ho])
  tabs := tb
  tabO := fun p hp => by
    cases q : S1 p.1 with
    | none => rfl
    | some u =>
      obtain ⟨ps, h1, _⟩ := r.tabs p hp
      have := fr p.1 (r.tabO p hp) (by rw [q]; simp)
      rw [h1] at this; cases this
end
theorem lamO_new {P : Program} {w : World} {H : Hp} {h : Heap} {f : Addr} {o : Obj} (e : h.get? f = some o) : ObjOk P w H h f (LamO f o) := ⟨e, ⟨o, e⟩, fun h1 h2 z st => st _ z⟩
section
variable {X : Cx} {G : GT} {En : Ent} {C0 : Cells} {W : WX} {θ : List Addr} {S H : Hp} {σ : L2.St} {s : DS} {Φ : Phi} {pins : List (Addr × Obj)} {sh : Shared}
variable {T : List NTab} {nm : Nat → Nat → Str} {c P : Addr} {params : Arguments} {body : Expr} {scope : Scope} {pos : Pos}
/-- the lambda's function is made and known -/
theorem lamk_make {E : Value → Shared → Prop} {Q : Value → Shared → Prop} (I : Inv X pins σ H sh) (hS : Same S H) (TB : TabB X.base X.mg c P) (hcode : X.env.code = .ref c)
    (hm : (P, nm) ∈ T) (hn : nm pos.line pos.col = X.env.qual ++ "<lambda>") (hu : ∀ p ∈ T, p.1 = P → p.2 = nm) (hT : TabsK T S H) (hO : ∀ p ∈ T, S p.1 = none) (hdef : defaultsOf params X.env = ([], [])) (hfree : ∀ y ∈ scope.names, y.2 = .free → ∃ c, X.env.cells.lookup y.1 = some c)
    (h : ∀ (f c' : Addr) (pm ctv : Value) (S1 H1 : Hp) (s' : Shared), Inv X pins σ H1 s' → Gr S S1 → Same S1 H1 → (∀ b o, H b = some o → (∀ ps, o ≠ .tbl ps) → H1 b = some o) → (∀ a, S a = none → S1 a ≠ none → H a = none) → (∀ b, H1 b = none → H b = none) → TabsK T S1 H1 →
      S1 f = some (LamO f (PySem.W.kla_obj "<lambda>" (X.env.qual ++ "<lambda>") params body scope (cloFrom X.env.cells scope.names []) pm c' ctv)) → S1 c' = some (CodeO c' (X.env.qual ++ "<lambda>")) → Q (.ref f) s') :
    wpAny (model X.prog X.w) X.A (eval (.Lambda params body scope pos) X.env) Q E sh := by
  obtain ⟨ps, hP, ht, ha⟩ := hT _ hm
  refine PySem.W.kla_eval hdef ?_
  have bP : sh.heap.BuiltinsAt X.mg P := TB.bm.keeps I.bk
  have hP' : sh.heap.get? P = some { cls := .none, data := .fields ps } := I.hok P _ hP
  cases hc : codeAmong pos ps.toList with
  | none =>
    refine PySem.W.kla_makeFunction (mg := X.mg) (c := c) (P := P) (ps := ps) (closure_ok hfree) I.ok.glob (I.mod.glob.keeps I.bk) hcode (TB.code.keeps I.bk) hP' ht hc TB.gP bP fun c' ctv h' tk hx hge hlt hrec htb => ?_
    obtain ⟨c2, oc, vs, t, e2, hoc, hd, hv⟩ := hrec
    cases e2
    have nC : H c' = none := I.hok.fresh hge
    have I1 := inv_table (t' := tk) (more := #[rawInt pos.line, rawInt pos.col, .ref c']) (h' := h') I hP (fun b o hb e => hx b o hb e) htb hge ⟨oc, vs, t, hoc, hd, hv⟩
    have I2 := I1.laid (a := h'.objs.size) (t' := tk) (o := LamO h'.objs.size (PySem.W.kla_obj "<lambda>" (X.env.qual ++ "<lambda>") params body scope (cloFrom X.env.cells scope.names []) ((X.mg "__name__").getD .none) c' ctv))
      (h' := h'.push (PySem.W.kla_obj "<lambda>" (X.env.qual ++ "<lambda>") params body scope (cloFrom X.env.cells scope.names []) ((X.mg "__name__").getD .none) c' ctv)) (fun b u e => Heap.get?_push_of_some _ e) (Nat.le_refl _) (lamO_new (Heap.get?_push_size _ rfl))
    have nF : H h'.objs.size = none := I.hok.fresh (Nat.le_trans hge (Nat.le_of_lt hlt))
    have nPc : P ≠ c' := ne_of_none hP nC
    have nPf : P ≠ h'.objs.size := ne_of_none hP nF
    have ncf : c' ≠ h'.objs.size := Nat.ne_of_lt hlt
    have ncf2 : h'.objs.size ≠ c' := Ne.symm ncf
    generalize hf : h'.objs.size = f at *
    generalize hoF : LamO f _ = oF at *
    have sC : S c' = none := by
      cases q : S c' with
      | none => rfl
      | some u => rw [hS _ _ q] at nC; cases nC
    have sF : S f = none := by
      cases q : S f with
      | none => rfl
      | some u => rw [hS _ _ q] at nF; cases nF
    have sP : S P = none := hO _ hm
    have gr : Gr S (upd (upd S c' (CodeO c' (X.env.qual ++ "<lambda>"))) f oF) := Gr.of fun b u e => by
      rw [upd_ne (fun z => by rw [z, sF] at e; cases e), upd_ne (fun z => by rw [z, sC] at e; cases e)]
      exact e
    refine h f c' ((X.mg "__name__").getD .none) ctv (upd (upd S c' (CodeO c' (X.env.qual ++ "<lambda>"))) f oF) _ _ I2 gr (fun b u e => ?_) (fun b o e n => ?_) (fun b e1 e2 => ?_) (fun b e => ?_) (fun p hp => ?_) (by rw [hoF]; exact upd_same) ?_
    · by_cases b1 : b = f
      · rw [b1, upd_same] at e ⊢; exact e
      · rw [upd_ne b1] at e ⊢
        by_cases b2 : b = c'
        · rw [b2, upd_same] at e ⊢; exact e
        · rw [upd_ne b2] at e ⊢
          rw [upd_ne (fun z => by rw [z, sP] at e; cases e)]
          exact hS _ _ e
    · rw [upd_ne (ne_of_none e nF), upd_ne (ne_of_none e nC), upd_ne (fun z => n ps (Option.some.inj (e.symm.trans (by rw [z]; exact hP))))]
      exact e
    · by_cases b1 : b = f
      · rw [b1]; exact nF
      · rw [upd_ne b1] at e2
        by_cases b2 : b = c'
        · rw [b2]; exact nC
        · rw [upd_ne b2] at e2; exact absurd e1 e2
    · have b1 : b ≠ f := fun z => by rw [z, upd_same] at e; cases e
      rw [upd_ne b1] at e
      have b2 : b ≠ c' := fun z => by rw [z, upd_same] at e; cases e
      rw [upd_ne b2] at e
      have b3 : b ≠ P := fun z => by rw [z, upd_same] at e; cases e
      rw [upd_ne b3] at e
      exact e
    · have eL : (ps ++ #[rawInt pos.line, rawInt pos.col, .ref c']).toList = ps.toList ++ [rawInt pos.line, rawInt pos.col, .ref c'] := by simp
      by_cases hb : p.1 = P
      · rw [hu p hp hb, hb]
        refine ⟨_, by rw [upd_ne nPf, upd_ne nPc, upd_same], by rw [eL]; exact PySem.TriplesOk_snoc _ _ _ _ ht, fun p' cv hcv => ?_⟩
        rw [eL] at hcv
        rcases among_app2 _ ht hcv with z | ⟨z, z1, z2⟩
        · obtain ⟨c0, e1, e2⟩ := ha p' cv z
          exact ⟨c0, e1, gr.ext e2⟩
        · refine ⟨c', z, ?_⟩
          rw [← z1, ← z2]
          show _ = some (CodeO c' (nm pos.line pos.col))
          rw [hn, upd_ne ncf, upd_same]
      · obtain ⟨ps', a1, a2, a3⟩ := hT p hp
        refine ⟨ps', by rw [upd_ne (ne_of_none a1 nF), upd_ne (ne_of_none a1 nC), upd_ne hb]; exact a1, a2, fun p' cv hcv => ?_⟩
        obtain ⟨c0, e1, e2⟩ := a3 p' cv hcv
        exact ⟨c0, e1, gr.ext e2⟩
    · rw [upd_ne ncf, upd_same]
  | some cv =>
    obtain ⟨c', e, hco⟩ := ha pos cv hc
    subst e
    have hco : S c' = some (CodeO c' (nm pos.line pos.col)) := hco
    rw [hn] at hco
    refine PySem.W.kla_makeFunctionHit (mg := X.mg) (c := c) (P := P) (ps := ps) (closure_ok hfree) I.ok.glob (I.mod.glob.keeps I.bk) hcode (TB.code.keeps I.bk) hP' ht hc bP fun ctv h' tk hx hsz => ?_
    have I1 : Inv X pins σ H { sh with heap := h', toks := tk } := I.kept hx
    have nF : H h'.objs.size = none := I1.hok.fresh (Nat.le_refl _)
    have I2 := I1.laid (a := h'.objs.size) (t' := tk) (o := LamO h'.objs.size (PySem.W.kla_obj "<lambda>" (X.env.qual ++ "<lambda>") params body scope (cloFrom X.env.cells scope.names []) ((X.mg "__name__").getD .none) c' ctv))
      (h' := h'.push (PySem.W.kla_obj "<lambda>" (X.env.qual ++ "<lambda>") params body scope (cloFrom X.env.cells scope.names []) ((X.mg "__name__").getD .none) c' ctv)) (fun b u e => Heap.get?_push_of_some _ e) (Nat.le_refl _) (lamO_new (Heap.get?_push_size _ rfl))
    generalize hf : h'.objs.size = f at *
    have st := Ste.alloc (θ := []) (o := LamO f (PySem.W.kla_obj "<lambda>" (X.env.qual ++ "<lambda>") params body scope (cloFrom X.env.cells scope.names []) ((X.mg "__name__").getD .none) c' ctv)) hS nF
    refine h f c' _ ctv _ _ _ I2 st.sS (Same.upd2 hS) (fun b o e n => ?_) st.frz (fun b e => ?_) (fun p hp => ?_) upd_same (st.sS.ext hco)
    · rw [upd_ne (ne_of_none e nF)]; exact e
    · have b1 : b ≠ f := fun z => by rw [z, upd_same] at e; cases e
      rw [upd_ne b1] at e; exact e
    · obtain ⟨ps', a1, a2, a3⟩ := hT p hp
      refine ⟨ps', by rw [upd_ne (ne_of_none a1 nF)]; exact a1, a2, fun p' cv hcv => ?_⟩
      obtain ⟨c0, e1, e2⟩ := a3 p' cv hcv
      exact ⟨c0, e1, st.sS.ext e2⟩
/-- capturing more -/
theorem Rel.capture (R : Rel X G En C0 θ S H s σ) (caps : List Nat) : Rel X G En C0 θ S H { s with cap := caps ++ s.cap } σ where
  rs := R.rs
  en := R.en
  c0 := R.c0
  len := R.len
  len2 := R.len2
  slot := fun i p h n => by
    obtain ⟨v, h1, h2⟩ := R.slot i p h n
    exact ⟨v, h1, RepV.mono (Gr.refl _) (Pre.refl _) (CC.mono fun i hi => List.mem_append_right _ hi) h2⟩
  own := fun i hi => by
    obtain ⟨p, a, h1, h2, h3, h4, h5, h6⟩ := R.own i hi
    exact ⟨p, a, h1, h2, h3, h4, h5, h6.fw (CC.mono fun i hi => List.mem_append_right _ hi)⟩
  dis := R.dis
  fxd := fun p hp => ⟨List.mem_append_right _ (R.fxd p hp).1, (R.fxd p hp).2⟩
theorem capOk_rep {i : Nat} {q : PV} (R : Rel X G En C0 θ S H s σ) (h : capOk s i = some q) : ∃ v, σ[i]? = some (some v) ∧ RepV X.K G.toFT (CC X C0 σ s.cap) θ S q v := by
  unfold capOk at h
  split at h
  · cases h
  · rename_i hn
    split at h
    · cases h
    · rename_i r _
      exact R.slot i q (getS_some h) hn
theorem caps_rep (R : Rel X G En C0 θ S H s σ) : ∀ {is : List Nat} {ps : List PV}, capsOf s is = some ps → ∃ vs : List V, RepL X.K G.toFT (CC X C0 σ s.cap) θ S ps vs ∧ vs.length = is.length ∧ ∀ (j : Nat) (i : Nat) (v : V), is[j]? = some i → vs[j]? = some v → σ[i]? = some (some v)
  | [], ps, h => by cases h; exact ⟨[], .nil, rfl, fun j i v e => by simp at e⟩
  | i :: is, ps, h => by
    simp only [capsOf] at h
    split at h
    · rename_i v vs h1 h2
      cases h
      obtain ⟨u, e1, r1⟩ := capOk_rep R h1
      obtain ⟨us, r2, l, k⟩ := caps_rep R h2
      refine ⟨u :: us, .cons r1 r2, by simp [l], fun j i' w a b => ?_⟩
      cases j with
      | zero => simp at a b; subst a; subst b; exact e1
      | succ j => exact k j i' w (by simpa using a) (by simpa using b)
    · cases h
/-- a lambda as a value: caps are the places of its captured names -/
theorem sd_lam {k : Nat} {caps : List Nat} {fr : List Str} (TB : TabB X.base X.mg c P) (hcode : X.env.code = .ref c) (hm : (P, nm) ∈ G.T) (hn : nm pos.line pos.col = X.env.qual ++ "<lambda>") (hu : ∀ p ∈ G.T, p.1 = P → p.2 = nm) (hdef : defaultsOf params X.env = ([], []))
    (hk : G.lam k = some (("<lambda>" : Str), X.env.qual ++ "<lambda>", params, body, scope, fr)) (hfr : caps.map (X.N[·]?) = fr.map some)
    (hcell : ∀ y ∈ fr, X.env.scope.names.lookup y = some .cell ∨ X.env.scope.names.lookup y = some .free) (hfree : ∀ y, (y, NameKind.free) ∈ scope.names ↔ y ∈ fr) :
    PE X (.Lambda params body scope pos) (tD X G En C0 W (ev Φ (.lam k caps))) := by
  refine ⟨fun pins sh σ H Q I ⟨θ, S, s, R, h⟩ => ?_⟩
  unfold ev at h
  split at h
  · rename_i ps hps
    have hhas : ∀ y, y ∈ fr → ∃ c, X.env.cells.lookup y = some c := fun y hy => by
      rcases hcell y hy with q | q
      · exact I.ok.has _ (.inl q)
      · exact I.ok.has _ (.inr q)
    refine lamk_make I R.rs.same TB hcode hm hn hu R.rs.tabs R.rs.tabO hdef (fun y hy e => hhas y.1 ((hfree y.1).mp (by rw [← e]; exact hy))) fun f c' pm ctv S1 H1 s' I1 g sm ex fr1 hN tb hf hc => ?_
    have st := Ste.grow (θ := θ) g ex fr1 hN
    have rs := R.rs.grow g sm ex fr1 tb
    have R1 := R.step st rs
    have R2 := R1.capture caps
    obtain ⟨vs, rv, lv, at_⟩ := caps_rep R1 (show capsOf { s with mu := s.mu } caps = some ps from hps)
    have lfr : caps.length = fr.length := by
      have := congrArg List.length hfr
      simpa using this
    have cm : ∀ {y c}, (cloFrom X.env.cells scope.names []).lookup y = some c → y ∈ fr ∧ X.env.cells.lookup y = some c := fun {y c} e => by
      rcases cloFrom_mem (PySem.mem_of_lookup e) with hm | ⟨h1, h2⟩
      · cases hm
      · have hy := (hfree y).mp h1
        obtain ⟨c1, e1⟩ := hhas y hy
        refine ⟨hy, ?_⟩
        rw [h2, e1]; rfl
    refine ⟨.ref f, H1, I1, rfl, h θ S1 H1 st R2 (.ref f) (.clo hk hf hc (fun i y v e1 e2 => ?_) (by rw [lv, lfr]) (fun x y a e1 e2 => I.ok.inj x y a (cm e1).2 (cm e2).2) (fun y a e => (cm e).1) (RepL.mono (Gr.refl _) (Pre.refl _) (CC.mono fun i hi => List.mem_append_right _ hi) rv))⟩
    have hy : y ∈ fr := List.mem_of_getElem? e1
    obtain ⟨a, ea⟩ := mem_lookup (cloFrom_has (cells := X.env.cells) (acc := []) ((hfree y).mpr hy))
    refine ⟨a, ea, .inr ?_⟩
    have hi : i < caps.length := by rw [lfr]; exact (List.getElem?_eq_some_iff.mp e1).1
    have ec : caps[i]? = some caps[i] := List.getElem?_eq_getElem hi
    have hN2 : X.N[caps[i]]? = some y := by
      have := congrArg (·[i]?) hfr
      simp only [List.getElem?_map, ec, e1, Option.map_some] at this
      exact Option.some.inj this
    exact ⟨caps[i], y, List.mem_append_left _ (List.getElem_mem hi), hN2, hcell y hy, (cm ea).2, at_ i _ v ec e2⟩
  · exact h.elim
end
end TL

set_option linter.all false
set_option maxRecDepth 100000
/-! TLObj: instances: their fields, methods, properties; how they are made. Own work. -/
namespace TL
open PySem PySem.Spec PyProof.Rows L2 NdefX
section
variable {X : Cx} {G : GT} {En : Ent} {C0 : Cells} {W : WX} {θ θ' : List Addr} {S S' H H' : Hp} {σ : L2.St} {s : DS} {Φ : Phi} {KW : List (Nat × Nat × List Str)}
variable {K : PySem.W.Frag} {C : Cells} {mu : List SO}
theorem insOf_eq {x : PV} {n c : Nat} {fs : List (Str × PV)} (h : insOf mu x = some (n, c, fs)) : x = .obj n ∧ mu[n]? = some (.ins c fs) := by
  unfold insOf at h
  split at h
  · split at h
    · rename_i m c' fs' q
      cases h
      exact ⟨rfl, q⟩
    · cases h
  · cases h
theorem RS.objI {n c : Nat} {x : Addr} {xs : List (Str × PV)} (rs : RS K G θ S H mu) (hm : mu[n]? = some (.ins c xs)) (ht : θ[n]? = some x) : ∃ A dx vs, G.cls c = some A ∧ H x = some (.ins A dx vs) ∧ RepF K G.toFT noC θ S xs vs := by
  have := rs.obj n _ x hm ht
  cases this with
  | ins a b c => exact ⟨_, _, _, a, b, c⟩
theorem RepF.length {G : FT} : ∀ {x : List (Str × PV)} {v : List (Str × V)}, RepF K G C θ S x v → x.length = v.length
  | _, _, .nil => rfl
  | _, _, .cons _ r => by simp [RepF.length r]
theorem RepF.look {G : FT} {f : Str} : ∀ {x : List (Str × PV)} {v : List (Str × V)}, RepF K G C θ S x v → (x.lookup f = none ∧ v.lookup f = none) ∨ ∃ p u, x.lookup f = some p ∧ v.lookup f = some u ∧ RepV K G C θ S p u
  | _, _, .nil => .inl ⟨rfl, rfl⟩
  | _, _, .cons (k := g) (x := p) (v := u) h r => by
    rw [List.lookup_cons, List.lookup_cons]
    cases e : f == g with
    | true => exact .inr ⟨p, u, rfl, rfl, h⟩
    | false => exact RepF.look r
theorem RepF.put {G : FT} {f : Str} {p : PV} {u : V} (h : RepV K G C θ S p u) : ∀ {x : List (Str × PV)} {v : List (Str × V)}, RepF K G C θ S x v → RepF K G C θ S (putA f p x) (putF f u v)
  | _, _, .nil => .cons h .nil
  | _, _, .cons (k := g) (x := q) (v := w) (xs := xs) (vs := vs) hq r => by
    show RepF K G C θ S (if g = f then (g, p) :: xs else (g, q) :: putA f p xs) (if g = f then (g, u) :: vs else (g, w) :: putF f u vs)
    by_cases e : g = f
    · rw [if_pos e, if_pos e]; exact .cons h r
    · rw [if_neg e, if_neg e]; exact .cons hq (RepF.put h r)
theorem unC {p : PV} {v : V} (r : RepV K G.toFT noC θ S p v) : RepV K G.toFT C θ S p v := RepV.mono (Gr.refl _) (Pre.refl _) (fun _ _ z => z.elim) r
variable {a e o : Expr} {ia ie : IE} {is js : IEs} {es : List Expr} {kws : List Keyword} {ks : List Str} {pos apos p2 : Pos} {f m : Str} {cs : List Nat} {k : Nat}
/-- what a class must have for a field to be read or stored -/
def FldOk (K : PySem.W.Frag) (G : GT) (cs : List Nat) (f : Str) : Prop := ∀ c ∈ cs, ∀ A, G.cls c = some A → Cls K A ∧ NoAttr K A f
theorem sd_fld (hc : FldOk X.K G cs f) (hb : attributeBase a f X.env (eval a X.env) = eval a X.env) (ha : PE X a (tD X G En C0 W (ev Φ ia))) : PE X (.Attribute a f pos) (tD X G En C0 W (ev Φ (.fld ia cs f))) :=
  (pe_fld ha hb).wk fun σ H Q ⟨θ, S, s, R, h⟩ => by
    unfold ev at h
    refine ⟨θ, S, s, R, (PostR.bind h).imp fun x s1 θ1 S1 H1 _ e1 R1 h1 v rv => ?_⟩
    split at h1
    · rename_i n c fs hi
      split at h1
      · rename_i hcs
        obtain ⟨rfl, hm⟩ := insOf_eq hi
        cases rv with
        | obj ht =>
          obtain ⟨A, dx, vs, g, hH, rf⟩ := R1.rs.objI hm ht
          obtain ⟨c1, c2⟩ := hc c hcs A g
          rcases rf.look (f := f) with ⟨l1, _⟩ | ⟨p, u, l1, l2, ru⟩
          · rw [l1] at h1; exact h1.elim
          · rw [l1] at h1
            exact ⟨_, A, dx, vs, u, rfl, hH, c1, c2, l2, h1 θ1 S1 H1 (Ste.refl _ _ _) R1 u (unC ru)⟩
      · exact h1.elim
    · exact h1.elim
end
section
variable {X : Cx} {G : GT} {En : Ent} {C0 : Cells} {W : WX} {θ θ' : List Addr} {S S' H H' : Hp} {σ : L2.St} {s : DS} {Φ : Phi} {KW : List (Nat × Nat × List Str)} {Ex : Exc}
variable {a e o : Expr} {ia ie : IE} {is js : IEs} {es : List Expr} {kws : List Keyword} {ks : List Str} {pos apos p2 : Pos} {f m : Str} {cs : List Nat} {k : Nat}
theorem ss_fput (hc : FldOk X.K G cs f) (ha : PE X a (tD X G En C0 W (ev Φ ia))) (he : PE X e (tD X G En C0 W (ev Φ ie))) (hs : swapsWith e (some (.Attribute a f p2)) pos.line X.env = pure false) :
    PS X (.Assign [.Attribute a f p2] e pos) (tS X G En C0 W (ex Φ Ex (.fput ia cs f ie))) :=
  (ps_fld ha he hs).wk fun D σ H ⟨θ, S, s, R, h⟩ => by
    unfold ex at h
    refine ⟨θ, S, s, R, (PostS.exprs h).imp fun v s1 θ1 S1 H1 q1 e1 R1 h1 u ru => ?_⟩
    have le1 := ev_grow Φ ie s v s1 q1
    refine ⟨θ1, S1, s1, R1, (PostS.exprs (h1 le1)).imp fun y s2 θ2 S2 H2 q2 e2 R2 h2 u2 ru2 => ?_⟩
    have le2 := ev_grow Φ ia s1 y s2 q2
    replace h2 := h2 le2
    have ru' := RepV.mono e2.sS e2.pre (CC.mono le2.1) ru
    split at h2
    · rename_i n c fs hi
      split at h2
      · rename_i hq
        obtain ⟨hcs, hp, hz⟩ := hq
        obtain ⟨rfl, hm⟩ := insOf_eq hi
        cases ru2 with
        | obj ht =>
          rename_i la
          obtain ⟨A, dx, vs, g, hH, rf⟩ := R2.rs.objI hm ht
          obtain ⟨c1, c2⟩ := hc c hcs A g
          refine ⟨la, A, dx, vs, rfl, hH, c1, c2, by rw [← rf.length]; exact hz, ?_⟩
          have st := Ste.setO (K := X.K) (mu := s2.mu) (S := S2) (o := .ins A dx (putF f u vs)) (List.mem_of_getElem? ht) hH
          have rs := R2.rs.setO ht (o := .ins A dx (putF f u vs)) (w := .ins c (putA f v fs)) (.ins g upd_same (RepF.put (RepV.free ru' hp) rf))
          exact h2 θ2 S2 _ σ (Fw.refl _ _ _) (R2.step st rs)
      · exact h2.elim
    · exact h2.elim
end
end TL

set_option linter.all false
set_option maxRecDepth 100000
/-! TLTr: from a def's text to the small language. Own work. -/
namespace TL
open PySem PySem.Spec PyProof.Rows L2
/-- what a global name stands for -/
inductive Gv where
  | fn (j : Nat) | int (i : Int) | str (s : Str)
abbrev LamI := Str × Str × Arguments × Expr × Scope × List Str
abbrev Rq := Nat × LamI
/-- a class: its name, whether its instances are exceptions, its __init__, its methods, its properties, the names of its fields -/
structure CD where
  x : Str
  isx : Bool
  ini : Option Nat
  ms : List (Str × Nat)
  ps : List (Str × Nat)
  nf : List Str
def flT (ct : List CD) (f : Str) : List Nat := (ct.zipIdx.filter fun p => p.1.nf.contains f).map (·.2)
def meT (ct : List CD) (m : Str) : List (Nat × Nat) := ct.zipIdx.filterMap fun p => (p.1.ms.lookup m).map fun j => (p.2, j)
def prT (ct : List CD) (m : Str) : List (Nat × Nat) := ct.zipIdx.filterMap fun p => (p.1.ps.lookup m).map fun j => (p.2, j)
def clT (ct : List CD) (x : Str) : Option (Nat × Nat) := ct.zipIdx.findSome? fun p => if p.1.x = x then p.1.ini.map fun j => (p.2, j) else none
/-- a class of errors: its name, the field that its __init__ keeps -/
structure XD where
  x : Str
  f : Option Str
structure CE where
  N : List Str
  sc : Scope
  fnAll : Bool
  bk : Option Scope
  own : List Nat
  gl : List (Str × Gv)
  bl : List Str
  kw : List (Nat × Nat × List Str)
  qual : Str
  lk : List ((Nat × Nat) × Nat)
  sh : Bool
  ct : List CD
  xt : List XD
  sb : List (Str × List Nat)
  oe : Bool
  hot : Bool
  ev : Option Str
  xf : List Str
/-- a translation's result; what it asks of the lambdas -/
abbrev TM (α : Type) := Option (α × List Rq)
def TM.ret {α : Type} (a : α) : TM α := some (a, [])
def TM.bnd {α β : Type} (m : TM α) (f : α → TM β) : TM β := match m with
  | some (a, r) => (match f a with
    | some (b, r') => some (b, r ++ r')
    | none => none)
  | none => none
def TM.lift {α : Type} : Option α → TM α
  | some a => some (a, [])
  | none => none
/-- but if -/
def TM.grd {α : Type} (b : Bool) (m : TM α) : TM α := if b then m else none
def ixOf : List Str → Str → Option Nat
  | [], _ => none
  | y :: ys, x => if y = x then some 0 else (ixOf ys x).map (· + 1)
def visB (sc : Scope) (x : Str) : Bool := match sc.names.lookup x with
  | some .local | some .cell | some .free => true
  | _ => false
def okN (x : Str) : Bool := !(x == ("__debug__" : Str)) && !(x == ("__classdict__" : Str)) && !(x == ("__name__" : Str))
/-- a local name's place -/
def CE.loc (ce : CE) (x : Str) : Option Nat := if visB ce.sc x && okN x then ixOf ce.N x else none
def CE.glob (ce : CE) (x : Str) : Bool := decide (ce.sc.names.lookup x = some .globalImplicit) && okN x
def CE.asgB (ce : CE) (x : Str) : Bool := match ce.sc.names.lookup x with
  | some .local => true
  | some .cell => ce.fnAll || (match ce.bk with
    | some scope => scope.names.lookup x == some .cell
    | none => false)
  | _ => false
/-- a builtin's name, not hidden -/
def CE.blt (ce : CE) (x : Str) : Bool := ce.glob x && ce.bl.contains x
def starB : Expr → Bool
  | .Starred _ _ => true
  | _ => false
def sliceB : Expr → Bool
  | .Slice _ _ _ _ => true
  | _ => false
def bopOf : Operator → Option BOp
  | .Add => some .add | .Sub => some .sub | .Mult => some .mul | .FloorDiv => some .fdiv | .Mod => some .mod | .Pow => some .pow
  | _ => none
def copOf : CmpOp → COp
  | .Eq => .eq | .NotEq => .ne | .Lt => .lt | .LtE => .le | .Gt => .gt | .GtE => .ge | .Is => .is | .IsNot => .isnot | .In => .isin | .NotIn => .notin
def tyOf (x : Str) : Option Ty := if x = "int" then some .int else if x = "bool" then some .bool else if x = "str" then some .str else if x = "tuple" then some .tuple else none
/-- builtins of values: by name and number of arguments -/
def bltOf (x : Str) (n : Nat) : Option Blt :=
  if x = "len" then (if n = 1 then some .len else none) else
  if x = "max" then (if n = 1 then some .max1 else if n = 2 then some .max2 else none) else
  if x = "min" then (if n = 1 then some .min1 else if n = 2 then some .min2 else none) else
  if x = "sum" then (if n = 1 then some .sum else none) else
  if x = "all" then (if n = 1 then some .all else none) else
  if x = "any" then (if n = 1 then some .any else none) else
  if x = "abs" then (if n = 1 then some .abs else none) else
  if x = "int" then (if n = 1 then some .int else none) else
  if x = "tuple" then (if n = 1 then some .tuple else none) else
  if x = "list" then (if n = 1 then some .list else none) else
  if x = "divmod" then (if n = 2 then some .divmod else none) else none
/-- a receiver of a method: a name, a subscript -/
def recvB : Expr → Bool
  | .Name _ _ => true
  | .Subscript _ _ _ => true
  | _ => false
def paramsOf (a : Arguments) : List Str := a.args.map (·.arg)
/-- positional parameters alone -/
def plainArgs (a : Arguments) : Bool := a.posonlyargs.isEmpty && a.vararg.isNone && a.kwonlyargs.isEmpty && a.kw_defaults.isEmpty && a.kwarg.isNone && a.defaults.isEmpty
/-- the names that a scope captures -/
def freesOf (sc : Scope) : List Str := (sc.names.filter fun y => decide (y.2 = .free)).map (·.1)
/-- a block's own names, with their places -/
def blkOwn (N : List Str) (sc : Scope) : List (Str × Nat) := sc.names.filterMap fun y => match y.2 with
  | .local | .cell => (ixOf N y.1).map fun i => (y.1, i)
  | _ => none
def CE.block (ce : CE) (scope : Scope) : CE := { ce with sc := relS scope ce.sc, fnAll := false, bk := some scope, lk := [] }
def allSome {α : Type} : List (Option α) → Option (List α)
  | [] => some []
  | some a :: r => (allSome r).map (a :: ·)
  | none :: _ => none
def kwNames (ks : List Keyword) : Option (List Str) := allSome (ks.map (·.arg))
/-- isinstance's second argument, by class indices -/
def intsE : List Nat → IEs
  | [] => .nil
  | n :: ns => .cons (.int n) (intsE ns)
/-- the name of the error that is handled -/
def CE.isEv (ce : CE) : Expr → Bool
  | .Name x _ => ce.hot && (ce.ev == some x) && (ce.loc x).isSome
  | _ => false
/-- is True, is False -/
def isbOf : COp → Expr → Option (Bool × Bool)
  | .is, .Constant (.bool k) _ _ => some (false, k)
  | .isnot, .Constant (.bool k) _ _ => some (true, k)
  | _, _ => none
/-- xs.append(e), xs.extend(e) of a list of one's own -/
def apOf (ce : CE) : Expr → List Expr → List Keyword → Pos → Option (Nat × Bool × Expr)
  | .Attribute (.Name x _) m apos, [e], [], cpos => if starB e = false ∧ apos.endLine = cpos.line then (match ce.loc x with
    | some i => if ce.own.contains i && m == "append" then some (i, true, e) else if ce.own.contains i && m == "extend" then some (i, false, e) else none
    | none => none) else none
  | _, _, _, _ => none
/-- a class of errors by its name -/
def xcT (xt : List XD) (x : Str) : Option (Nat × Option Str) := xt.zipIdx.findSome? fun p => if p.1.x = x then some (p.2, p.1.f) else none
def IEs.app : IEs → IEs → IEs
  | .nil, ys => ys
  | .cons x xs, ys => .cons x (xs.app ys)
mutual
/-- a value -/
def trE : Nat → CE → Expr → TM IE
  | 0, _, _ => none
  | n + 1, ce, e => match e with
    | .Constant .none _ _ => .ret .non
    | .Constant (.bool b) _ _ => .ret (.bl b)
    | .Constant (.int i) _ _ => .ret (.int i)
    | .Constant (.str s) _ _ => .ret (.str s)
    | .Name x _ => (match ce.loc x with
      | some i => .ret (.var i)
      | none => if ce.glob x then (match ce.gl.lookup x with
        | some (.int i) => .ret (.int i)
        | some (.str s) => .ret (.str s)
        | some (.fn j) => .ret (.lam j [])
        | none => none) else none)
    | .BinOp a op b _ => (match bopOf op with
      | some o => (trE n ce a).bnd fun x => (trE n ce b).bnd fun y => .ret (.bin o x y)
      | none => none)
    | .UnaryOp .USub a _ => (trE n ce a).bnd fun x => .ret (.neg x)
    | .UnaryOp .Not a _ => (trE n ce a).bnd fun x => .ret (.not x)
    | .BoolOp .And vs p => trAnd n ce vs
    | .BoolOp .Or vs p => trOr n ce vs
    | .IfExp c a b _ => (trE n ce c).bnd fun x => (trE n ce a).bnd fun y => (trE n ce b).bnd fun z => .ret (.ite x y z)
    | .Compare a [op] [b] _ => if behindInMarks op b then none else (match copOf op with
      | .isin => (trE n ce a).bnd fun x => (trP n ce b).bnd fun y => .ret (.cmp .isin x y)
      | .notin => (trE n ce a).bnd fun x => (trP n ce b).bnd fun y => .ret (.cmp .notin x y)
      | o => (match isbOf o b with
        | some (neg, k) => (trE n ce a).bnd fun x => .ret (.isB neg x k)
        | none => if ce.oe && (o == .eq || o == .ne) then (trE n ce a).bnd fun x => (trE n ce b).bnd fun y => .ret (.cmpo (o == .ne) x y) else (trE n ce a).bnd fun x => (trE n ce b).bnd fun y => .ret (.cmp o x y)))
    | .Compare a [op, op'] [b, c] _ => if lastMarks [op, op'] [b, c] then none else (trE n ce a).bnd fun x => (trE n ce b).bnd fun y => (trE n ce c).bnd fun z => .ret (.cmp2 (copOf op) (copOf op') x y z)
    | .Tuple (.Starred a _ :: es) _ _ => (trE n ce a).bnd fun x => (trA n ce es).bnd fun xs => .ret (.tupS x xs)
    | .Tuple es _ _ => (trA n ce es).bnd fun xs => .ret (.tup xs)
    | .List es _ => (trA n ce es).bnd fun xs => .ret (.lst xs)
    | .Dict ks vs _ => trF n ce e
    | .ListComp _ _ _ _ => trF n ce e
    | .Subscript a (.Slice lo hi none _) _ => (trP n ce a).bnd fun x => (trO n ce lo).bnd fun l => (trO n ce hi).bnd fun h => .ret (.cut x l.1 l.2 h.1 h.2)
    | .Subscript a i _ => if sliceB i then none else (trP n ce a).bnd fun x => (trE n ce i).bnd fun y => .ret (.sub x y)
    | .Lambda ps body scope pos => (match ce.lk.lookup (pos.line, pos.col), allSome ((freesOf scope).map (ixOf ce.N)) with
      | some k, some caps => if plainArgs ps && (freesOf scope).all (fun y => decide (ce.sc.names.lookup y = some .cell) || decide (ce.sc.names.lookup y = some .free)) then some (.lam k caps, [(k, ("<lambda>", ce.qual ++ "<lambda>", ps, body, scope, freesOf scope))]) else none
      | _, _ => none)
    | .Attribute a f _ => if ce.isEv a then (if ce.xf.contains f then .ret (.call EXF (.cons (.str f) .nil)) else none) else if recvB a then (match prT ce.ct f with
      | [] => (match flT ce.ct f with
        | [] => none
        | cs => (trE n ce a).bnd fun x => .ret (.fld x cs f))
      | ps => TM.grd (!ce.hot) ((trE n ce a).bnd fun x => .ret (.prop x ps))) else none
    | .Call (.Name f _) args kws pos => if ce.hot then (match args with
        | [.Name e _, .Name c _] => if f = "isinstance" ∧ ce.blt f = true ∧ ce.ev = some e ∧ (ce.loc e).isSome = true ∧ kws.isEmpty = true ∧ ce.glob c = true then (match ce.sb.lookup c with
          | some cs => .ret (.call EXI (intsE cs))
          | none => none) else none
        | _ => none) else (match ce.loc f with
      | some i => if kws.isEmpty then (trA n ce args).bnd fun xs => .ret (.callv i xs) else none
      | none => if ce.glob f then (match ce.gl.lookup f with
        | some (.fn j) => if kws.isEmpty then (trA n ce args).bnd fun xs => .ret (.call j xs) else (match kwNames kws with
          | some ks => if ce.kw.contains (j, args.length, ks) && !args.isEmpty then (trA n ce args).bnd fun xs => (trK n ce kws).bnd fun ys => .ret (.call j (xs.app ys)) else none
          | none => none)
        | some _ => none
        | none => (match clT ce.ct f with
          | some (c, j) => (match kwNames kws with
            | some ks => if ks.isEmpty || ce.kw.contains (j, args.length + 1, ks) then (trA n ce args).bnd fun xs => (trK n ce kws).bnd fun ys => .ret (.new c j (xs.app ys)) else none
            | none => none)
          | none => if ce.bl.contains f && kws.isEmpty then trB n ce f args else none)) else none)
    | .Call (.Attribute a m apos) args kws cpos => if recvB a = true ∧ apos.endLine = cpos.line then trC n ce a m args kws else none
    | _ => none
/-- a method called -/
def trC : Nat → CE → Expr → Str → List Expr → List Keyword → TM IE
  | 0, _, _, _, _, _ => none
  | n + 1, ce, a, m, args, kws => match meT ce.ct m with
    | [] => if kws.isEmpty then (match args with
      | [k] => if starB k then none else if m = "get" then (trP n ce a).bnd fun x => (trE n ce k).bnd fun y => .ret (.dget1 x y) else
        if m = "count" then (trE n ce a).bnd fun x => (trE n ce k).bnd fun y => .ret (.lcnt x y) else
        if m = "index" then (trE n ce a).bnd fun x => (trE n ce k).bnd fun y => .ret (.lidx x y) else none
      | [k, d] => if starB k || starB d then none else if m = "get" then (trP n ce a).bnd fun x => (trE n ce k).bnd fun y => (trE n ce d).bnd fun z => .ret (.dget2 x y z) else none
      | _ => none) else none
    | ms => TM.grd (!ce.hot) (match kwNames kws with
      | some ks => if args.length + kws.length < 29 ∧ (ks.isEmpty || ms.all fun p => ce.kw.contains (p.2, args.length + 1, ks)) = true then (trE n ce a).bnd fun o => (trA n ce args).bnd fun xs => (trK n ce kws).bnd fun ys => .ret (.meth o m ms (xs.app ys)) else none
      | none => none)
/-- a builtin called -/
def trB : Nat → CE → Str → List Expr → TM IE
  | 0, _, _, _ => none
  | n + 1, ce, f, args => TM.grd (!ce.hot) (if f = "bool" then (match args with
      | [a] => if starB a then none else (trE n ce a).bnd fun x => .ret (.bool x)
      | _ => none) else match args with
    | [a, .Name t _] => if f = "isinstance" then (match tyOf t with
        | some ty => if ce.blt t && !starB a then (trE n ce a).bnd fun x => .ret (.blt (.isInst ty) (.cons x .nil)) else none
        | none => none) else (match bltOf f 2 with
      | some b => (trA n ce args).bnd fun xs => .ret (.blt b xs)
      | none => none)
    | [.Call (.Name g _) as [] _] => if f = "list" ∧ g = "range" ∧ ce.blt g then (match as with
        | [a] => if starB a then none else (trE n ce a).bnd fun x => .ret (.blt .rangeL1 (.cons x .nil))
        | [a, b] => if starB a || starB b then none else (trE n ce a).bnd fun x => (trE n ce b).bnd fun y => .ret (.blt .rangeL2 (.cons x (.cons y .nil)))
        | _ => none) else if f = "list" ∧ g = "zip" ∧ ce.blt g then (match as with
        | [a, b] => (trA n ce [a, b]).bnd fun xs => .ret (.blt .zipL2 xs)
        | _ => none) else if f = "sorted" ∧ g = "set" ∧ ce.blt g then (match as with
        | [a] => if starB a then none else (trE n ce a).bnd fun x => .ret (.ssort x)
        | _ => none) else (match bltOf f 1 with
      | some b => (trA n ce args).bnd fun xs => .ret (.blt b xs)
      | none => none)
    | [.Call (.Attribute a m apos) [] [] cpos] => if f = "list" ∧ m = "values" ∧ recvB a ∧ apos.endLine = cpos.line then (trP n ce a).bnd fun x => .ret (.blt .listVals (.cons x .nil)) else none
    | _ => (match bltOf f args.length with
      | some b => (trA n ce args).bnd fun xs => .ret (.blt b xs)
      | none => none))
def trAnd : Nat → CE → List Expr → TM IE
  | 0, _, _ => none
  | n + 1, ce, vs => match vs with
    | [a] => trE n ce a
    | a :: r => (trE n ce a).bnd fun x => (trAnd n ce r).bnd fun y => .ret (.and x y)
    | [] => none
def trOr : Nat → CE → List Expr → TM IE
  | 0, _, _ => none
  | n + 1, ce, vs => match vs with
    | [a] => trE n ce a
    | a :: r => (trE n ce a).bnd fun x => (trOr n ce r).bnd fun y => .ret (.or x y)
    | [] => none
/-- a new list or dict -/
def trF : Nat → CE → Expr → TM IE
  | 0, _, _ => none
  | n + 1, ce, e => match e with
    | .List es _ => (trA n ce es).bnd fun xs => .ret (.lst xs)
    | .Dict ks vs _ => if ks.length ≤ 15 then (trD n ce ks vs).bnd fun xs => .ret (.dict xs) else none
    | .ListComp elt [⟨tg, iter, ifs, 0⟩] scope _ => TM.grd (!ce.hot) (if blkC ce.N ce.sc scope (blkOwn ce.N scope) then (trI n ce tg iter).bnd fun it => (trG n (ce.block scope) tg).bnd fun t => (trTs n (ce.block scope) ifs).bnd fun c => (trE n (ce.block scope) elt).bnd fun e =>
        .ret (.comp ((blkOwn ce.N scope).map (·.2)) t it c e) else none)
    | _ => none
/-- a value that is but looked at -/
def trP : Nat → CE → Expr → TM IE
  | 0, _, _ => none
  | n + 1, ce, e => match e with
    | .Name x _ => (match ce.loc x with
      | some i => .ret (.peek i)
      | none => trE n ce e)
    | _ => trE n ce e
def trO : Nat → CE → Option Expr → TM (Bool × IE)
  | 0, _, _ => none
  | n + 1, ce, o => match o with
    | none => .ret (false, .non)
    | some e => (trE n ce e).bnd fun x => .ret (true, x)
def trA : Nat → CE → List Expr → TM IEs
  | 0, _, _ => none
  | n + 1, ce, es => match es with
    | [] => .ret .nil
    | e :: r => if starB e then none else (trE n ce e).bnd fun x => (trA n ce r).bnd fun xs => .ret (.cons x xs)
/-- keywords' values -/
def trK : Nat → CE → List Keyword → TM IEs
  | 0, _, _ => none
  | n + 1, ce, es => match es with
    | [] => .ret .nil
    | ⟨_, e, _⟩ :: r => (trE n ce e).bnd fun x => (trK n ce r).bnd fun xs => .ret (.cons x xs)
def trD : Nat → CE → List (Option Expr) → List Expr → TM IEs
  | 0, _, _, _ => none
  | n + 1, ce, ks, vs => match ks, vs with
    | [], [] => .ret .nil
    | some k :: ks, v :: vs => (trE n ce k).bnd fun x => (trE n ce v).bnd fun y => (trD n ce ks vs).bnd fun xs => .ret (.cons x (.cons y xs))
    | _, _ => none
def trTs : Nat → CE → List Expr → TM IE
  | 0, _, _ => none
  | n + 1, ce, es => match es with
    | [] => .ret (.bl true)
    | [e] => trE n ce e
    | _ => none
/-- what is walked -/
def trI : Nat → CE → Expr → Expr → TM II
  | 0, _, _, _ => none
  | n + 1, ce, tg, e => match e with
    | .Call (.Name f _) args [] _ => if ce.blt f then (if f = "range" then (match args with
        | [a] => if starB a then none else (trE n ce a).bnd fun x => .ret (.range1 x)
        | [a, b] => if starB a || starB b then none else (trE n ce a).bnd fun x => (trE n ce b).bnd fun y => .ret (.range2 x y)
        | [a, b, c] => if starB a || starB b || starB c then none else (trE n ce a).bnd fun x => (trE n ce b).bnd fun y => (trE n ce c).bnd fun z => .ret (.range3 x y z)
        | _ => none) else if f = "enumerate" then (match tg, args with
        | .Tuple _ _ _, [a] => if starB a then none else (trE n ce a).bnd fun x => .ret (.enum x)
        | _, _ => none) else if f = "zip" then (match tg, args with
        | .Tuple _ _ _, [a, b] => if starB a || starB b then none else (trE n ce a).bnd fun x => (trE n ce b).bnd fun y => .ret (.zip2 x y)
        | .Tuple _ _ _, [a, b, c] => if starB a || starB b || starB c then none else (trE n ce a).bnd fun x => (trE n ce b).bnd fun y => (trE n ce c).bnd fun z => .ret (.zip3 x y z)
        | _, _ => none) else (trE n ce e).bnd fun x => .ret (.val x)) else (trE n ce e).bnd fun x => .ret (.val x)
    | .Call (.Attribute a m apos) [] [] cpos => (match tg with
      | .Tuple _ _ _ => if m = "items" ∧ recvB a ∧ apos.endLine = cpos.line then (trE n ce a).bnd fun x => .ret (.items x) else none
      | _ => none)
    | .Set _ _ _ => none
    | _ => (trE n ce e).bnd fun x => .ret (.val x)
def trG : Nat → CE → Expr → TM Tg
  | 0, _, _ => none
  | n + 1, ce, e => match e with
    | .Name x _ => if ce.asgB x then (match ixOf ce.N x with
      | some i => .ret (.nm i)
      | none => none) else none
    | .Tuple es _ _ => TM.grd (!ce.hot) ((trGs n ce es).bnd fun ts => .ret (.tp ts))
    | .Subscript a i _ => if sliceB i then none else (trE n ce a).bnd fun x => (trE n ce i).bnd fun y => .ret (.sb x y)
    | _ => none
def trGs : Nat → CE → List Expr → TM Tgs
  | 0, _, _ => none
  | n + 1, ce, es => match es with
    | [] => .ret .nil
    | e :: r => if starB e then none else (trG n ce e).bnd fun t => (trGs n ce r).bnd fun ts => .ret (.cons t ts)
end
/-! ### statements -/
mutual
/-- the places that are read as values -/
def rdE : IE → List Nat
  | .var i => [i]
  | .bin _ a b => rdE a ++ rdE b
  | .neg a | .not a | .sh a | .ssort a => rdE a
  | .cmp _ a b | .and a b | .or a b | .sub a b | .dget1 a b => rdE a ++ rdE b
  | .cmp2 _ _ a b c | .ite a b c | .dget2 a b c => rdE a ++ rdE b ++ rdE c
  | .tup es | .lst es | .dict es | .call _ es | .callv _ es | .blt _ es => rdEs es
  | .cut a _ lo _ hi => rdE a ++ rdE lo ++ rdE hi
  | .comp _ t it c e => rdT t ++ rdI it ++ rdE c ++ rdE e
  | .lam _ caps => caps
  | .fld a _ _ | .prop a _ | .bool a | .isB _ a _ => rdE a
  | .meth a _ _ es | .tupS a es => rdE a ++ rdEs es
  | .new _ _ es => rdEs es
  | .lcnt a b | .lidx a b | .cmpo _ a b => rdE a ++ rdE b
  | _ => []
def rdEs : IEs → List Nat
  | .nil => []
  | .cons e es => rdE e ++ rdEs es
def rdT : Tg → List Nat
  | .nm _ => []
  | .tp ts => rdTs ts
  | .sb a i => rdE a ++ rdE i
def rdTs : Tgs → List Nat
  | .nil => []
  | .cons t ts => rdT t ++ rdTs ts
def rdI : II → List Nat
  | .val e | .range1 e | .enum e | .items e => rdE e
  | .range2 a b | .zip2 a b => rdE a ++ rdE b
  | .range3 a b c | .zip3 a b c => rdE a ++ rdE b ++ rdE c
end
def rdS : IS → List Nat
  | .expr e | .asgO _ e | .ret e | .app _ e | .ext _ e => rdE e
  | .asg t e => rdT t ++ rdE e
  | .par _ es | .raise _ _ es => rdEs es
  | .ite c _ _ => rdE c
  | .for t it _ => rdT t ++ rdI it
  | .dput _ k v => rdE k ++ rdE v
  | .fput a _ _ v => rdE a ++ rdE v
  | _ => []
/-- what must be fixed ahead of a statement -/
def frzs (own : List Nat) (i : IS) (r : ISs) : ISs := (own.filter fun j => (rdS i).contains j).foldr (fun j r => .cons (.frz j) r) (.cons i r)
def swB (sc : Scope) (e : Expr) (x : Str) (p : Pos) : Bool := match e with
  | .ListComp _ _ scope pos => sc.names.lookup x == some .local && p.line == pos.line && !(scope.names.any fun y => y.1 == x && (y.2 == .local || y.2 == .cell))
  | _ => false
def namesOf : List Expr → Option (List (Str × Pos))
  | [] => some []
  | .Name x p :: r => (namesOf r).map ((x, p) :: ·)
  | _ :: _ => none
/-- whether two or three stores are swapped -/
def swapNow (sc : Scope) (ns : List (Str × Pos)) (vs : List Expr) : Bool :=
  (ns.length == 2 || ns.length == 3) && ns.all (fun n => sc.names.lookup n.1 == some .local && n.2.line == ((ns.head?.map (·.2.line)).getD 0)) && !(vs.all (foldedForSure 8))
def compB : Expr → Bool
  | .ListComp _ _ _ _ | .SetComp _ _ _ _ | .DictComp _ _ _ _ _ => true
  | _ => false
def dispB : Expr → Bool
  | .List _ _ | .Dict _ _ _ => true
  | _ => false
def ownIx (own : List Nat) (e : Expr) (i : Nat) : Bool := own.contains i && (match e with
  | .List _ _ | .Dict _ _ _ | .ListComp _ _ _ _ => true
  | _ => false)
mutual
def trS : Nat → CE → Stmt → TM IS
  | 0, _, _ => none
  | n + 1, ce, st => match st with
    | .Expr (.Constant (.str _) _ _) _ => .ret .pass
    | .Expr (.Call f args kws p) _ => (match apOf ce f args kws p with
        | some (i, true, e) => (trE n ce e).bnd fun v => .ret (.app i v)
        | some (i, false, e) => (trE n ce e).bnd fun v => .ret (.ext i v)
        | none => (trE n ce (.Call f args kws p)).bnd fun v => .ret (.expr v))
    | .Assign [.Name x p] e pos => if ce.asgB x then (match ixOf ce.N x with
        | some i => (match e with
          | .ListComp _ _ _ _ => (trF n ce e).bnd fun v => .ret (if ce.own.contains i then .asgO i v else .asg (.nm i) v)
          | e => if compB e then none else if ownIx ce.own e i then (trF n ce e).bnd fun v => .ret (.asgO i v) else (trE n ce e).bnd fun v => .ret (.asg (.nm i) v))
        | none => none) else none
    | .Assign [.Tuple ns k p] (.Tuple vs k2 p2) pos => (match namesOf ns with
        | some xs => TM.grd (!ce.hot) (if xs.length = vs.length ∧ xs.all (fun x => ce.asgB x.1) then (match allSome (xs.map fun x => ixOf ce.N x.1) with
            | some is => let ts := (is.zip vs).map fun iv => (iv.1, ownIx ce.own iv.2 iv.1)
              if (ts.filter (·.2)).length ≤ 1 ∧ ts.length ≤ 1000 ∧ is.Nodup ∧ (swapNow ce.sc xs vs && vs.all (constantsAlone 8)) = false then (trM n ce (ts.map (·.2)) vs).bnd fun es => .ret (.par ts es) else none
            | none => none) else none)
        | none => (trE n ce (.Tuple vs k2 p2)).bnd fun v => (trG n ce (.Tuple ns k p)).bnd fun t => .ret (.asg t v))
    | .Assign [.Tuple ns k p] e pos => (match e with
        | .ListComp _ _ _ _ => none
        | e => (trE n ce e).bnd fun v => (trG n ce (.Tuple ns k p)).bnd fun t => .ret (.asg t v))
    | .Assign [.Subscript a i p] e pos => if sliceB i then none else (match e with
        | .ListComp _ _ _ _ => none
        | e => (match a with
          | .Name x _ => (match ce.loc x with
            | some j => if ce.own.contains j then (trE n ce i).bnd fun k => (trE n ce e).bnd fun v => .ret (.dput j k v) else (trE n ce a).bnd fun y => (trE n ce i).bnd fun k => (trE n ce e).bnd fun v => .ret (.asg (.sb y k) v)
            | none => none)
          | _ => (trE n ce a).bnd fun y => (trE n ce i).bnd fun k => (trE n ce e).bnd fun v => .ret (.asg (.sb y k) v)))
    | .Assign [.Attribute a f p] e pos => (match flT ce.ct f with
        | [] => .ret .stuck
        | cs => (trE n ce e).bnd fun v => (trE n ce a).bnd fun x => .ret (.fput x cs f v))
    | .Raise (some (.Call (.Name x _) args [] _)) none _ => if ce.hot = true ∨ ce.glob x = false then .ret .stuck else (match xcT ce.xt x with
        | some (c, none) => (match args with
          | [] => .ret (.raise c [] .nil)
          | _ => .ret .stuck)
        | some (c, some f) => (match args with
          | [e] => if starB e then .ret .stuck else (trE n ce e).bnd fun v => .ret (.raise c [f] (.cons v .nil))
          | _ => .ret .stuck)
        | none => .ret .stuck)
    | .Try b [.ExceptHandler (some (.Name xc _)) (some x) (s0 :: su) _] [] [] _ => TM.grd (!ce.hot) (if ce.glob xc = true ∧ ce.sc.names.lookup x = some .local ∧ ce.asgB x = true then (match ce.sb.lookup xc, ixOf ce.N x with
        | some cs, some i => (trSs n ce b).bnd fun ib => (trSs n { ce with hot := true, ev := some x } (s0 :: su)).bnd fun is => .ret (.tryx ib cs (some i) is)
        | _, _ => none) else none)
    | .Return none _ => .ret .retN
    | .Return (some e) _ => if ce.sh && dispB e then (trF n ce e).bnd fun v => .ret (.ret (.sh v)) else (trE n ce e).bnd fun v => .ret (.ret v)
    | .If c a b _ => (trE n ce c).bnd fun v => (trSs n ce a).bnd fun x => (trSs n ce b).bnd fun y => .ret (.ite v x y)
    | .For tg it b [] _ => TM.grd (!ce.hot) ((trI n ce tg it).bnd fun i => (trG n ce tg).bnd fun t => (trSs n ce b).bnd fun x => .ret (.for t i x))
    | .Pass _ => .ret .pass
    | .Break _ => .ret .brk
    | .Continue _ => .ret .cont
    | _ => .ret .stuck
def trSs : Nat → CE → List Stmt → TM ISs
  | 0, _, _ => none
  | n + 1, ce, l => match l with
    | [] => .ret .nil
    | st :: r => (trS n ce st).bnd fun i => (trSs n ce r).bnd fun is => .ret (frzs ce.own i is)
def trM : Nat → CE → List Bool → List Expr → TM IEs
  | 0, _, _, _ => none
  | n + 1, ce, os, es => match os, es with
    | [], [] => .ret .nil
    | o :: os, e :: r => if starB e then none else (if o then trF n ce e else trE n ce e).bnd fun x => (trM n ce os r).bnd fun xs => .ret (.cons x xs)
    | _, _ => none
end
end TL

set_option linter.all false
set_option maxRecDepth 100000
/-! TLDefs: what is asked of classes, of classes of errors, of names of classes. Own work. -/
namespace TL
open PySem PySem.Spec PyProof.Rows L2 NdefX LamX
def cmpB (K : PySem.W.Frag) (C : Addr) : Bool := match K.lookup C with
  | some ⟨.type "type", _, .cls cd, sl⟩ => (match cd.mro, sl.toList with
    | [.ref C', .type "object"], [_, _, _, _, some (.builtin n), _] => C' == C && !cd.hasDel && PySem.W.nsOkIn K cd.ns && PySem.W.nsIn K cd.ns "__eq__" == some none && PySem.W.nsIn K cd.ns "__ne__" == some none
    | _, _ => false)
  | _ => false
def inSp (K : PySem.W.Frag) (C : Addr) (f : Str) : Sp := fun vs H Q _ => ∃ (a : Addr) (v : V), vs = [.ref a, v] ∧ H a = some (exo a C none) ∧ ∀ dx, H dx = none → dx ≠ a → Q .non (upd (upd H dx (exd dx [(f, v)])) a (exo a C (some dx)))
structure ExcS (K : PySem.W.Frag) (D : Addr) : Prop where
  cl : (PySem.W.clsIn K D).isSome = true
  xf : XfC K D
  ha : PySem.W.findIn K (.ref D) "__class__" = some (some (.builtin "object.__class__"))
  hn : PySem.W.specialIn K (.builtin "object.__class__") "__get__" = some (some (.builtin "getset_descriptor.__get__"))
  ht : PySem.W.takesIn K (.builtin "object.__class__") = some true
  hm : PySem.W.mroIn K D (.type "object") = some true
def TrueC (K : PySem.W.Frag) (A : Addr) : Prop := PySem.W.findIn K (.ref A) "__bool__" = some none ∧ PySem.W.findIn K (.ref A) "__len__" = some none
/-- what is known of one class -/
structure ClsD (K : PySem.W.Frag) (mg : Str → Option Value) (G : GT) (cd : CD) (A : Addr) : Prop where
  gl : mg cd.x = some (.ref A)
  cls : Cls K A
  cmp : cmpB K A = true
  tru : TrueC K A
  ini : ∀ j, cd.ini = some j → ∃ f, G.addr j = some f ∧ Mk K A f
  ms : ∀ m j, cd.ms.lookup m = some j → ∃ f, G.addr j = some f ∧ Meth K A m f
  ps : ∀ f j, cd.ps.lookup f = some j → ∃ q g, G.addr j = some g ∧ PropOf K A f q g
  nf : ∀ f ∈ cd.nf, NoAttr K A f
structure CtOk (K : PySem.W.Frag) (mg : Str → Option Value) (G : GT) (ct : List CD) : Prop where
  of : ∀ i A, G.cls i = some A → ∃ cd, ct[i]? = some cd ∧ ClsD K mg G cd A
  to : ∀ i cd, ct[i]? = some cd → ∃ A, G.cls i = some A
/-- what is known of one class of errors -/
structure XcD (K : PySem.W.Frag) (mg : Str → Option Value) (xf : List Str) (xd : XD) (A : Addr) : Prop where
  gl : mg xd.x = some (.ref A)
  es : ExcS K A
  nf : ∀ f ∈ xf, PySem.W.findIn K (.ref A) f = some none
  kp : PySem.W.keepIn K (.ref A) = true
  sb : PySem.W.subIn K (.ref A) (.type "BaseException") = some true
  ty : PySem.W.typeIn K (.ref A) = some (.type "type")
  m0 : xd.f = none → PySem.W.excIn K A He.veBase "ValueError.__new__" = true
  m1 : ∀ f, xd.f = some f → OexC K A ∧ ∃ fI fd, PySem.W.findIn K (.ref A) "__init__" = some (some (.ref fI)) ∧ PySem.W.typeIn K (.ref fI) = some (.type "function") ∧ Binds K fd ["self", f] [] ∧
    ∀ (P : Program) (w : World) (mg : Str → Option Value) (base : Heap), FnOk P w K mg base (L2.CX P w) 1 fI fd ["self", f] (inSp K A f)
structure XtOk (K : PySem.W.Frag) (mg : Str → Option Value) (G : GT) (xf : List Str) (xt : List XD) : Prop where
  of : ∀ i A, G.xcl i = some A → ∃ xd, xt[i]? = some xd ∧ XcD K mg xf xd A
  to : ∀ i xd, xt[i]? = some xd → ∃ A, G.xcl i = some A
/-- a class's name, its own or a built-in's -/
def ClV (mg : Str → Option Value) (x : Str) (cv : Value) : Prop := (∃ B, cv = .ref B ∧ mg x = some cv) ∨ ∃ T, cv = .type T ∧ mg x = none ∧ bootBuiltins x = some cv
/-- which classes of errors are below a class -/
def SbOk (K : PySem.W.Frag) (mg : Str → Option Value) (G : GT) (sb : List (Str × List Nat)) : Prop := ∀ x cs, sb.lookup x = some cs → ∃ cv, ClV mg x cv ∧ ∀ c A, G.xcl c = some A →
  PySem.W.exmOne K (.ref A) cv = some (decide (c ∈ cs)) ∧ PySem.W.kitOne K (.ref A) cv = some (decide (c ∈ cs))
end TL

set_option linter.all false
set_option maxRecDepth 100000
set_option maxHeartbeats 1000000
/-! TLSound: what is translated does what the small language says. Own work. -/
namespace TL
open PySem PySem.Spec PyProof.Rows L2 NdefX LamX
theorem TM.ret_eq {α : Type} {a b : α} {r : List Rq} (h : TM.ret a = some (b, r)) : a = b ∧ r = [] := by
  cases h; exact ⟨rfl, rfl⟩
theorem TM.bnd_eq {α β : Type} {m : TM α} {f : α → TM β} {b : β} {r : List Rq} (h : m.bnd f = some (b, r)) : ∃ a r1 r2, m = some (a, r1) ∧ f a = some (b, r2) ∧ r = r1 ++ r2 := by
  unfold TM.bnd at h
  split at h
  · rename_i a r1
    split at h
    · rename_i b' r2 h2
      cases h
      exact ⟨a, r1, r2, rfl, h2, rfl⟩
    · cases h
  · cases h
theorem TM.grd_eq {α : Type} {b : Bool} {m : TM α} {a : α} {r : List Rq} (h : TM.grd (!b) m = some (a, r)) : b = false ∧ m = some (a, r) := by
  unfold TM.grd at h
  split at h
  · rename_i hb
    exact ⟨by simpa using hb, h⟩
  · cases h
def RqOk (G : GT) (r : List Rq) : Prop := ∀ q ∈ r, G.lam q.1 = some q.2
theorem RqOk.l {G : GT} {r1 r2 : List Rq} (h : RqOk G (r1 ++ r2)) : RqOk G r1 := fun q hq => h q (List.mem_append_left _ hq)
theorem RqOk.r {G : GT} {r1 r2 : List Rq} (h : RqOk G (r1 ++ r2)) : RqOk G r2 := fun q hq => h q (List.mem_append_right _ hq)
def GvOk (X : Cx) (G : GT) (x : Str) : Gv → Prop
  | .fn j => ∃ f, X.mg x = some (.ref f) ∧ G.addr j = some f
  | .int i => ∃ t, X.mg x = some (.int i t)
  | .str s => ∃ t, X.mg x = some (.str s t)
/-- the context stands as the translator was told -/
structure CEok (ce : CE) (X : Cx) (G : GT) : Prop where
  N : X.N = ce.N
  sc : X.env.scope = ce.sc
  fn : ce.fnAll = true → ∀ x, X.fn x = true
  kind : ce.fnAll = true → X.env.scope.kind = .function
  bk : ∀ scope, ce.bk = some scope → ∀ x, X.fn x = (scope.names.lookup x == some .cell)
  gl : ∀ x g, ce.gl.lookup x = some g → GvOk X G x g
  bl : ∀ x, ce.bl.contains x = true → X.mg x = none
  stk : ce.fnAll = true → X.stack = X.env :: X.outer
  frm : ce.fnAll = true → X.env.frame = some X.env.locals
  ct : CtOk X.K X.mg G ce.ct
  xt : XtOk X.K X.mg G ce.xf ce.xt
  sb : SbOk X.K X.mg G ce.sb
  lk : ∀ p k, ce.lk.lookup p = some k → X.env.qual = ce.qual ∧ ∃ c P nm, TabB X.base X.mg c P ∧ X.env.code = .ref c ∧ (P, nm) ∈ G.T ∧ nm p.1 p.2 = X.env.qual ++ "<lambda>" ∧ ∀ q ∈ G.T, q.1 = P → q.2 = nm
/-- the error that is handled, at its slot -/
structure HotS (X : Cx) (G : GT) (En : Ent) (Φ : Phi) (i : Nat) (xs : List Nat) : Prop where
  ex : ∃ (X0 : Cx) (a : Addr) (oe : Obj) (pn : List (Addr × Obj)) (c : Nat) (A : Addr) (d : Option Addr) (fs : List (Str × PV)) (Φ0 : Phi), X = X0.suite a ((a, oe) :: pn) ∧ Zc (.ref A) d oe ∧ (∃ vs, oe.data = .fields vs) ∧ c ∈ xs ∧ G.xcl c = some A ∧ Φ = excF Φ0 c fs ∧ (i, a) ∈ En.fx ∧
    ((fs = [] ∧ d = none) ∨ ∃ dx vs, d = some dx ∧ En.H dx = some (.xd vs) ∧ dx ∉ En.θ ∧ RepF X0.K G.toFT noC En.θ En.S fs vs)
/-- around it all is known -/
structure Amb (X : Cx) (G : GT) (W : WX) (En : Ent) (ce : CE) (k : Nat) (Φ : Phi) : Prop where
  L : ce.hot = false → Lv X.prog X.w X.K X.mg X.base G ce.kw k Φ
  hr : ce.hot = false → Room (2 * k + 2) X.A
  tk : Takes X W
  hc : ce.hot = false → X.calm = true
  hN : X.N.Nodup
  hu : X.A.units + 64 < cLine
  fx : ce.hot = false → En.fx = []
  ht : ce.hot = true → ∃ i n xs, ce.ev = some n ∧ X.N[i]? = some n ∧ HotS X G En Φ i xs
theorem Amb.hrk {X : Cx} {G : GT} {W : WX} {En : Ent} {ce : CE} {k : Nat} {Φ : Phi} (A : Amb X G W En ce k Φ) (h : ce.hot = false) : Room (2 * k + 1) X.A := (A.hr h).mono (Nat.le_succ _)
theorem ixOf_get : ∀ {N : List Str} {x : Str} {i : Nat}, ixOf N x = some i → N[i]? = some x
  | [], _, _, h => by cases h
  | y :: ys, x, i, h => by
    unfold ixOf at h
    split at h
    · rename_i e
      cases h
      simp [e]
    · cases q : ixOf ys x with
      | none => rw [q] at h; cases h
      | some j =>
        rw [q] at h; cases h
        simpa using ixOf_get q
theorem visB_ok {sc : Scope} {x : Str} (h : visB sc x = true) : Vis sc x := by
  unfold visB at h
  split at h
  · rename_i q; exact .inl q
  · rename_i q; exact .inr (.inl q)
  · rename_i q; exact .inr (.inr q)
  · cases h
theorem okN_ok {x : Str} (h : okN x = true) : (x == ("__debug__" : Str)) = false ∧ (x == ("__classdict__" : Str)) = false ∧ x ≠ "__name__" := by
  unfold okN at h
  simp only [Bool.and_eq_true, Bool.not_eq_true'] at h
  refine ⟨h.1.1, h.1.2, fun e => ?_⟩
  have := h.2
  rw [e] at this
  simp at this
section
variable {ce : CE} {X : Cx} {G : GT} {W : WX} {KW : List (Nat × Nat × List Str)} {k : Nat} {Φ : Phi} {x : Str} {i : Nat}
theorem CEok.locOk (E : CEok ce X G) (h : ce.loc x = some i) : X.N[i]? = some x ∧ Vis X.env.scope x ∧ (x == ("__debug__" : Str)) = false ∧ (x == ("__classdict__" : Str)) = false := by
  unfold CE.loc at h
  split at h
  · rename_i q
    simp only [Bool.and_eq_true] at q
    obtain ⟨h1, h2, _⟩ := okN_ok q.2
    exact ⟨by rw [E.N]; exact ixOf_get h, by rw [E.sc]; exact visB_ok q.1, h1, h2⟩
  · cases h
theorem CEok.globOk (E : CEok ce X G) (h : ce.glob x = true) : Gl X x ∧ (x == ("__debug__" : Str)) = false ∧ x ≠ "__name__" := by
  unfold CE.glob at h
  simp only [Bool.and_eq_true, decide_eq_true_eq] at h
  obtain ⟨h1, _, h3⟩ := okN_ok h.2
  refine ⟨?_, h1, h3⟩
  show X.env.scope.names.lookup x = _
  rw [E.sc]
  exact h.1
theorem CEok.bltOk (E : CEok ce X G) (h : ce.blt x = true) : Gl X x ∧ X.mg x = none ∧ (x == ("__debug__" : Str)) = false ∧ x ≠ "__name__" := by
  unfold CE.blt at h
  simp only [Bool.and_eq_true] at h
  obtain ⟨h1, h2, h3⟩ := E.globOk h.1
  exact ⟨h1, E.bl x h.2, h2, h3⟩
theorem CEok.asgOk (E : CEok ce X G) (h : ce.asgB x = true) : Loc X.env.scope x ∧ (X.fn x = true ∨ X.env.scope.names.lookup x = some .local) := by
  unfold CE.asgB at h
  rw [E.sc]
  split at h
  · rename_i q; exact ⟨.inl q, .inr q⟩
  · rename_i q
    refine ⟨.inr q, .inl ?_⟩
    simp only [Bool.or_eq_true] at h
    rcases h with h | h
    · exact E.fn h x
    · split at h
      · rename_i scope hb
        rw [E.bk scope hb x]
        exact h
      · cases h
  · cases h
theorem starB_ok {e : Expr} (h : starB e = false) : ∀ x p, e ≠ .Starred x p := by
  rintro x p rfl
  cases h
theorem sliceB_ok {e : Expr} (h : sliceB e = false) : ∀ a b c d, e ≠ .Slice a b c d := by
  rintro a b c d rfl
  cases h
theorem noSl_ok {e : Expr} (h : sliceB e = false) : NoSl e := by
  intro o i
  cases e <;> first | rfl | cases h
end
end TL

set_option linter.all false
set_option maxRecDepth 100000
set_option maxHeartbeats 1000000
/-! TLSound2: expressions. Own work. -/
namespace TL
open PySem PySem.Spec PyProof.Rows L2 NdefX LamX
def OkE (ce : CE) (e : Expr) (ie : IE) (r : List Rq) : Prop := ∀ (X : Cx) (G : GT) (W : WX) (k : Nat) (Φ : Phi) (En : Ent) (C0 : Cells), Amb X G W En ce k Φ → CEok ce X G → RqOk G r →
  PE X e (tD X G En C0 W (ev Φ ie)) ∧ PT X e (tT X G En C0 W (ev Φ ie))
def OkF (ce : CE) (e : Expr) (ie : IE) (r : List Rq) : Prop := ∀ (X : Cx) (G : GT) (W : WX) (k : Nat) (Φ : Phi) (En : Ent) (C0 : Cells), Amb X G W En ce k Φ → CEok ce X G → RqOk G r → PE X e (tFr X G En C0 W (ev Φ ie))
def OkP (ce : CE) (e : Expr) (ie : IE) (r : List Rq) : Prop := ∀ (X : Cx) (G : GT) (W : WX) (k : Nat) (Φ : Phi) (En : Ent) (C0 : Cells), Amb X G W En ce k Φ → CEok ce X G → RqOk G r → PE X e (tP X G En C0 W (ev Φ ie))
def OkO (ce : CE) (e : Option Expr) (o : Bool × IE) (r : List Rq) : Prop := ∀ (X : Cx) (G : GT) (W : WX) (k : Nat) (Φ : Phi) (En : Ent) (C0 : Cells), Amb X G W En ce k Φ → CEok ce X G → RqOk G r → PO X e (tO X G En C0 W (evO Φ o.1 o.2))
def OkA (ce : CE) (es : List Expr) (is : IEs) (r : List Rq) : Prop := (∀ e ∈ es, ∀ x p, e ≠ .Starred x p) ∧ ∀ (X : Cx) (G : GT) (W : WX) (k : Nat) (Φ : Phi) (En : Ent) (C0 : Cells), Amb X G W En ce k Φ → CEok ce X G → RqOk G r → PA X es (tDs X G En C0 W (evs Φ is))
def OkK (ce : CE) (ks : List Keyword) (is : IEs) (r : List Rq) : Prop := ∀ (X : Cx) (G : GT) (W : WX) (k : Nat) (Φ : Phi) (En : Ent) (C0 : Cells), Amb X G W En ce k Φ → CEok ce X G → RqOk G r → PK X ks (tDs X G En C0 W (evs Φ is))
def OkAnd (op : BoolOp) (ce : CE) (vs : List Expr) (ie : IE) (r : List Rq) : Prop := ∀ (X : Cx) (G : GT) (W : WX) (k : Nat) (Φ : Phi) (En : Ent) (C0 : Cells) (pos : Pos), Amb X G W En ce k Φ → CEok ce X G → RqOk G r →
  PE X (.BoolOp op vs pos) (tD X G En C0 W (ev Φ ie)) ∧ PW X (.BoolOp op vs pos) (tT X G En C0 W (ev Φ ie))
def OkD (ce : CE) (ks : List (Option Expr)) (vs : List Expr) (is : IEs) (r : List Rq) : Prop := ∀ (X : Cx) (G : GT) (W : WX) (k : Nat) (Φ : Phi) (En : Ent) (C0 : Cells), Amb X G W En ce k Φ → CEok ce X G → RqOk G r → ∃ trs, DPs X G En C0 W Φ ks vs is trs
def OkTs (ce : CE) (es : List Expr) (ie : IE) (r : List Rq) : Prop := ∀ (X : Cx) (G : GT) (W : WX) (k : Nat) (Φ : Phi) (En : Ent) (C0 : Cells), Amb X G W En ce k Φ → CEok ce X G → RqOk G r → PTs X es (tT X G En C0 W (ev Φ ie))
def OkI (ce : CE) (tg e : Expr) (it : II) (r : List Rq) : Prop := (∀ (X : Cx) x, foldedSetIterable e X.env x = pure x) ∧ ∀ (X : Cx) (G : GT) (W : WX) (k : Nat) (Φ : Phi) (En : Ent) (C0 : Cells), Amb X G W En ce k Φ → CEok ce X G → RqOk G r → PI X tg e (tI X G En C0 W (evI Φ it))
def OkG (ce : CE) (e : Expr) (t : Tg) (r : List Rq) : Prop := ∀ (X : Cx) (G : GT) (W : WX) (k : Nat) (Φ : Phi) (En : Ent) (C0 : Cells), Amb X G W En ce k Φ → CEok ce X G → RqOk G r → PG X e (tG X G En C0 W (tnm t) (asg Φ t))
def OkGs (ce : CE) (es : List Expr) (ts : Tgs) (r : List Rq) : Prop := (∀ e ∈ es, ∀ x p, e ≠ .Starred x p) ∧ es.length = lenTs ts ∧ ∀ (X : Cx) (G : GT) (W : WX) (k : Nat) (Φ : Phi) (En : Ent) (C0 : Cells), Amb X G W En ce k Φ → CEok ce X G → RqOk G r → PGs X es (tGs X G En C0 W (tnms ts) (asgs Φ ts))
structure Good (n : Nat) : Prop where
  e : ∀ ce e ie r, trE n ce e = some (ie, r) → OkE ce e ie r
  b : ∀ ce f args ie r p pos, trB n ce f args = some (ie, r) → ce.blt f = true → OkE ce (.Call (.Name f p) args [] pos) ie r
  an : ∀ ce vs ie r, trAnd n ce vs = some (ie, r) → OkAnd .And ce vs ie r
  orr : ∀ ce vs ie r, trOr n ce vs = some (ie, r) → OkAnd .Or ce vs ie r
  f : ∀ ce e ie r, trF n ce e = some (ie, r) → OkF ce e ie r
  p : ∀ ce e ie r, trP n ce e = some (ie, r) → OkP ce e ie r
  o : ∀ ce e ie r, trO n ce e = some (ie, r) → OkO ce e ie r
  a : ∀ ce es is r, trA n ce es = some (is, r) → OkA ce es is r
  k : ∀ ce ks is r, trK n ce ks = some (is, r) → OkK ce ks is r
  d : ∀ ce ks vs is r, trD n ce ks vs = some (is, r) → OkD ce ks vs is r
  ts : ∀ ce es ie r, trTs n ce es = some (ie, r) → OkTs ce es ie r
  i : ∀ ce tg e it r, trI n ce tg e = some (it, r) → OkI ce tg e it r
  g : ∀ ce e t r, trG n ce e = some (t, r) → OkG ce e t r
  gs : ∀ ce es ts r, trGs n ce es = some (ts, r) → OkGs ce es ts r
  c : ∀ ce a m args kws ie r apos cpos, trC n ce a m args kws = some (ie, r) → recvB a = true → apos.endLine = cpos.line → OkE ce (.Call (.Attribute a m apos) args kws cpos) ie r
/-- a value's rule serves a test -/
theorem okV {ce : CE} {e : Expr} {ie : IE} {r : List Rq} (he : ∀ env whole, isTrue e env whole = (do let v ← whole; standAt e.pos; holding [v] (truthy v)))
    (h : ∀ (X : Cx) (G : GT) (W : WX) (k : Nat) (Φ : Phi) (En : Ent) (C0 : Cells), Amb X G W En ce k Φ → CEok ce X G → RqOk G r → PE X e (tD X G En C0 W (ev Φ ie))) : OkE ce e ie r := fun X G W k Φ En C0 A E R =>
  have q := h X G W k Φ En C0 A E R
  ⟨q, sdt_val q fun whole => he X.env whole⟩
theorem good_a {n : Nat} (I : Good n) : ∀ ce es is r, trA (n + 1) ce es = some (is, r) → OkA ce es is r := by
  intro ce es is r h
  unfold trA at h
  cases es with
  | nil =>
    obtain ⟨rfl, rfl⟩ := TM.ret_eq h
    exact ⟨fun e he => (by cases he), fun X G W k Φ En C0 A E R => sd_nil⟩
  | cons e es =>
    simp only at h
    split at h
    · cases h
    · rename_i hs
      have hs : starB e = false := by simpa using hs
      obtain ⟨x, r1, r2, h1, k1, rfl⟩ := TM.bnd_eq h
      obtain ⟨y, r3, r4, h2, k2, rfl⟩ := TM.bnd_eq k1
      obtain ⟨rfl, rfl⟩ := TM.ret_eq k2
      obtain ⟨g1, g2⟩ := I.a _ _ _ _ h2
      refine ⟨fun e' he => ?_, fun X G W k Φ En C0 A E R => ?_⟩
      · rcases List.mem_cons.mp he with rfl | he
        · exact starB_ok hs
        · exact g1 e' he
      · exact sd_cons (starB_ok hs) (I.e _ _ _ _ h1 X G W k Φ En C0 A E R.l).1 (g2 X G W k Φ En C0 A E R.r.l)
theorem sk_nil {X : Cx} {G : GT} {W : WX} {Φ : Phi} {En : Ent} {C0 : Cells} : PK X [] (tDs X G En C0 W (evs Φ .nil)) := ⟨fun pos pins s σ H Q I ⟨θ, S, ds, R, h⟩ => pk_nil.run pos pins s σ H Q I (h θ S H (Ste.refl _ _ _) R [] .nil)⟩
theorem sk_cons {X : Cx} {G : GT} {W : WX} {Φ : Phi} {En : Ent} {C0 : Cells} {e : Expr} {es : List Keyword} {i : IE} {is : IEs} {nm : Option Str} {kp : Pos} (he : PE X e (tD X G En C0 W (ev Φ i))) (hes : PK X es (tDs X G En C0 W (evs Φ is))) : PK X (⟨nm, e, kp⟩ :: es) (tDs X G En C0 W (evs Φ (.cons i is))) :=
  ⟨fun pos pins s σ H Q I ⟨θ, S, ds, R, h⟩ => (pk_cons he hes).run pos pins s σ H Q I (⟨θ, S, ds, R, (PostR.bind h).imp fun x s1 θ1 S1 H1 q e1 R1 h1 v rv => ⟨θ1, S1, s1, R1, (PostR.bind h1).imp fun xs s2 θ2 S2 H2 q2 e2 R2 h2 vs rvs => h2 θ2 S2 H2 (Ste.refl _ _ _) R2 (v :: vs) (.cons (RepV.mono e2.sS e2.pre (CC.mono (evs_grow Φ is s1 xs s2 q2).1) rv) rvs)⟩⟩)⟩
theorem good_k {n : Nat} (I : Good n) : ∀ ce ks is r, trK (n + 1) ce ks = some (is, r) → OkK ce ks is r := by
  intro ce ks is r h X G W k Φ En C0 A E R
  unfold trK at h
  cases ks with
  | nil =>
    obtain ⟨rfl, rfl⟩ := TM.ret_eq h
    exact sk_nil
  | cons e es =>
    obtain ⟨nm, e, kp⟩ := e
    simp only at h
    obtain ⟨x, r1, r2, h1, k1, rfl⟩ := TM.bnd_eq h
    obtain ⟨y, r3, r4, h2, k2, rfl⟩ := TM.bnd_eq k1
    obtain ⟨rfl, rfl⟩ := TM.ret_eq k2
    exact sk_cons (I.e _ _ _ _ h1 X G W k Φ En C0 A E R.l).1 (I.k _ _ _ _ h2 X G W k Φ En C0 A E R.r.l)
theorem good_o {n : Nat} (I : Good n) : ∀ ce e o r, trO (n + 1) ce e = some (o, r) → OkO ce e o r := by
  intro ce e o r h X G W k Φ En C0 A E R
  unfold trO at h
  cases e with
  | none =>
    obtain ⟨rfl, rfl⟩ := TM.ret_eq h
    exact so_none
  | some e =>
    obtain ⟨x, r1, r2, h1, k1, rfl⟩ := TM.bnd_eq h
    obtain ⟨rfl, rfl⟩ := TM.ret_eq k1
    exact so_some (I.e _ _ _ _ h1 X G W k Φ En C0 A E R.l).1
theorem good_p {n : Nat} (I : Good n) : ∀ ce e ie r, trP (n + 1) ce e = some (ie, r) → OkP ce e ie r := by
  intro ce e ie r h X G W k Φ En C0 A E R
  have gen : trE n ce e = some (ie, r) → PE X e (tP X G En C0 W (ev Φ ie)) := fun h => sd_pk (I.e _ _ _ _ h X G W k Φ En C0 A E R).1
  unfold trP at h
  split at h
  · rename_i x p
    split at h
    · rename_i i hi
      obtain ⟨rfl, rfl⟩ := TM.ret_eq h
      obtain ⟨h1, h2, h3, h4⟩ := E.locOk hi
      exact sd_peek h1 h2 h3 h4
    · exact gen h
  · exact gen h
theorem good_and {n : Nat} (I : Good n) : ∀ ce vs ie r, trAnd (n + 1) ce vs = some (ie, r) → OkAnd .And ce vs ie r := by
  intro ce vs ie r h X G W k Φ En C0 pos A E R
  unfold trAnd at h
  split at h
  · rename_i a
    obtain ⟨g1, g2⟩ := I.e _ _ _ _ h X G W k Φ En C0 A E R
    exact ⟨sd_one g1, sdw_and1 g2⟩
  · rename_i a rest hne
    obtain ⟨x, r1, r2, h1, k1, rfl⟩ := TM.bnd_eq h
    obtain ⟨y, r3, r4, h2, k2, rfl⟩ := TM.bnd_eq k1
    obtain ⟨rfl, rfl⟩ := TM.ret_eq k2
    cases rest with
    | nil => exact (hne rfl).elim
    | cons b rest =>
      obtain ⟨g1, g2⟩ := I.e _ _ _ _ h1 X G W k Φ En C0 A E R.l
      obtain ⟨g3, g4⟩ := I.an _ _ _ _ h2 X G W k Φ En C0 pos A E R.r.l
      exact ⟨sd_and g1 g3, sdw_and g2 g4⟩
  · cases h
theorem good_or {n : Nat} (I : Good n) : ∀ ce vs ie r, trOr (n + 1) ce vs = some (ie, r) → OkAnd .Or ce vs ie r := by
  intro ce vs ie r h X G W k Φ En C0 pos A E R
  unfold trOr at h
  split at h
  · rename_i a
    obtain ⟨g1, g2⟩ := I.e _ _ _ _ h X G W k Φ En C0 A E R
    exact ⟨sd_one g1, sdw_or1 g2⟩
  · rename_i a rest hne
    obtain ⟨x, r1, r2, h1, k1, rfl⟩ := TM.bnd_eq h
    obtain ⟨y, r3, r4, h2, k2, rfl⟩ := TM.bnd_eq k1
    obtain ⟨rfl, rfl⟩ := TM.ret_eq k2
    cases rest with
    | nil => exact (hne rfl).elim
    | cons b rest =>
      obtain ⟨g1, g2⟩ := I.e _ _ _ _ h1 X G W k Φ En C0 A E R.l
      obtain ⟨g3, g4⟩ := I.orr _ _ _ _ h2 X G W k Φ En C0 pos A E R.r.l
      exact ⟨sd_or g1 g3, sdw_or g2 g4⟩
  · cases h
end TL

set_option linter.all false
set_option maxRecDepth 100000
set_option maxHeartbeats 1000000
/-! TLSound3: displays, targets, comprehensions. Own work. -/
namespace TL
open PySem PySem.Spec PyProof.Rows L2 NdefX LamX
theorem good_d {n : Nat} (I : Good n) : ∀ ce ks vs is r, trD (n + 1) ce ks vs = some (is, r) → OkD ce ks vs is r := by
  intro ce ks vs is r h X G W k Φ En C0 A E R
  unfold trD at h
  split at h
  · obtain ⟨rfl, rfl⟩ := TM.ret_eq h
    exact ⟨_, .nil⟩
  · obtain ⟨x, r1, r2, h1, k1, rfl⟩ := TM.bnd_eq h
    obtain ⟨y, r3, r4, h2, k2, rfl⟩ := TM.bnd_eq k1
    obtain ⟨z, r5, r6, h3, k3, rfl⟩ := TM.bnd_eq k2
    obtain ⟨rfl, rfl⟩ := TM.ret_eq k3
    obtain ⟨trs, g⟩ := I.d _ _ _ _ _ h3 X G W k Φ En C0 A E R.r.r.l
    exact ⟨_, .cons (I.e _ _ _ _ h1 X G W k Φ En C0 A E R.l).1 (I.e _ _ _ _ h2 X G W k Φ En C0 A E R.r.l).1 g⟩
  · cases h
theorem good_ts {n : Nat} (I : Good n) : ∀ ce es ie r, trTs (n + 1) ce es = some (ie, r) → OkTs ce es ie r := by
  intro ce es ie r h X G W k Φ En C0 A E R
  unfold trTs at h
  split at h
  · obtain ⟨rfl, rfl⟩ := TM.ret_eq h
    exact ⟨fun pins s σ H Q I ⟨θ, S, ds, Rl, q⟩ => pts_nil.run pins s σ H Q I (by
      obtain ⟨b, e, q⟩ := q θ S H (Ste.refl _ _ _) Rl
      cases e
      exact q)⟩
  · exact pts_one (I.e _ _ _ _ h X G W k Φ En C0 A E R).2
  · cases h
theorem good_gs {n : Nat} (I : Good n) : ∀ ce es ts r, trGs (n + 1) ce es = some (ts, r) → OkGs ce es ts r := by
  intro ce es ts r h
  unfold trGs at h
  split at h
  · obtain ⟨rfl, rfl⟩ := TM.ret_eq h
    exact ⟨fun e he => (by cases he), rfl, fun X G W k Φ En C0 A E R => sg_nil⟩
  · split at h
    · cases h
    · rename_i e es hs
      have hs : starB e = false := by simpa using hs
      obtain ⟨x, r1, r2, h1, k1, rfl⟩ := TM.bnd_eq h
      obtain ⟨y, r3, r4, h2, k2, rfl⟩ := TM.bnd_eq k1
      obtain ⟨rfl, rfl⟩ := TM.ret_eq k2
      obtain ⟨g1, g2, g3⟩ := I.gs _ _ _ _ h2
      refine ⟨fun e' he => ?_, by simp [lenTs, g2], fun X G W k Φ En C0 A E R => ?_⟩
      · rcases List.mem_cons.mp he with rfl | he
        · exact starB_ok hs
        · exact g1 e' he
      · exact sg_cons (starB_ok hs) (I.g _ _ _ _ h1 X G W k Φ En C0 A E R.l) (g3 X G W k Φ En C0 A E R.r.l)
theorem good_g {n : Nat} (I : Good n) : ∀ ce e t r, trG (n + 1) ce e = some (t, r) → OkG ce e t r := by
  intro ce e t r h X G W k Φ En C0 A E R
  unfold trG at h
  split at h
  · rename_i x p
    split at h
    · rename_i ha
      split at h
      · rename_i i hi
        obtain ⟨rfl, rfl⟩ := TM.ret_eq h
        obtain ⟨h1, h2⟩ := E.asgOk ha
        exact sg_name A.hN (by rw [E.N]; exact ixOf_get hi) h1 h2
      · cases h
    · cases h
  · obtain ⟨hh, h⟩ := TM.grd_eq h
    obtain ⟨x, r1, r2, h1, k1, rfl⟩ := TM.bnd_eq h
    obtain ⟨rfl, rfl⟩ := TM.ret_eq k1
    obtain ⟨g1, g2, g3⟩ := I.gs _ _ _ _ h1
    exact sg_tup (A.hc hh) g1 g2 (g3 X G W k Φ En C0 A E R.l)
  · split at h
    · cases h
    · rename_i hs
      have hs := sliceB_ok (by simpa using hs)
      obtain ⟨x, r1, r2, h1, k1, rfl⟩ := TM.bnd_eq h
      obtain ⟨y, r3, r4, h2, k2, rfl⟩ := TM.bnd_eq k1
      obtain ⟨rfl, rfl⟩ := TM.ret_eq k2
      exact sg_sub (by have := A.hu; omega) hs (I.e _ _ _ _ h1 X G W k Φ En C0 A E R.l).1 (I.e _ _ _ _ h2 X G W k Φ En C0 A E R.r.l).1
  · cases h
theorem amb_blk {X : Cx} {G : GT} {W : WX} {En : Ent} {ce : CE} {k : Nat} {Φ : Phi} (hh : ce.hot = false) (A : Amb X G W En ce k Φ) {sh : Shared} {H0 : Hp} {scope sc : Scope} {cenv : Env} {fp : List Addr} : Amb (X.blk sh H0 scope cenv fp) G noW En (ce.block sc) k Φ := ⟨A.L, A.hr, LamX.takes0, A.hc, A.hN, A.hu, A.fx, fun h => by
  have h : ce.hot = true := h
  rw [hh] at h; cases h⟩
theorem ceok_blk {ce : CE} {X : Cx} {G : GT} (E : CEok ce X G) {sh : Shared} {H0 : Hp} {scope : Scope} {C : Addr} {cl : List (Str × Addr)} {fp : List Addr} : CEok (ce.block scope) (X.blk sh H0 scope (compEnvC scope cl C X.env) fp) G where
  N := E.N
  sc := by
    show relS scope X.env.scope = relS scope ce.sc
    rw [E.sc]
  fn := fun h => by cases h
  kind := fun h => by cases h
  bk := fun s h x => by
    cases h
    rfl
  gl := E.gl
  bl := E.bl
  stk := fun h => by cases h
  frm := fun h => by cases h
  ct := E.ct
  xt := E.xt
  sb := E.sb
  lk := fun p k h => by cases h
theorem good_f {n : Nat} (I : Good n) : ∀ ce e ie r, trF (n + 1) ce e = some (ie, r) → OkF ce e ie r := by
  intro ce e ie r h X G W k Φ En C0 A E R
  unfold trF at h
  split at h
  · obtain ⟨x, r1, r2, h1, k1, rfl⟩ := TM.bnd_eq h
    obtain ⟨rfl, rfl⟩ := TM.ret_eq k1
    exact sf_lst ((I.a _ _ _ _ h1).2 X G W k Φ En C0 A E R.l)
  · split at h
    · rename_i ks vs p hl
      obtain ⟨x, r1, r2, h1, k1, rfl⟩ := TM.bnd_eq h
      obtain ⟨rfl, rfl⟩ := TM.ret_eq k1
      obtain ⟨trs, g⟩ := I.d _ _ _ _ _ h1 X G W k Φ En C0 A E R.l
      cases g with
      | nil => exact sf_dict0
      | cons a b c => exact sf_dict (.cons a b c) (by simp) hl
    · cases h
  · obtain ⟨hh, h⟩ := TM.grd_eq h
    split at h
    · rename_i elt tg iter ifs scope p hb
      obtain ⟨x, r1, r2, h1, k1, rfl⟩ := TM.bnd_eq h
      obtain ⟨y, r3, r4, h2, k2, rfl⟩ := TM.bnd_eq k1
      obtain ⟨z, r5, r6, h3, k3, rfl⟩ := TM.bnd_eq k2
      obtain ⟨w, r7, r8, h4, k4, rfl⟩ := TM.bnd_eq k3
      obtain ⟨rfl, rfl⟩ := TM.ret_eq k4
      obtain ⟨g1, g2⟩ := I.i _ _ _ _ _ h1
      exact sf_comp (A.fx hh) (A.hc hh) A.hN (blkOk_by (by rw [E.N, E.sc]; exact hb)) (fun x => g1 X x) (g2 X G W k Φ En C0 A E R.l)
        (fun sh H0 C cl fp => I.g _ _ _ _ h2 _ G noW k Φ En noC (amb_blk hh A) (ceok_blk E) R.r.l)
        (fun sh H0 C cl fp => I.ts _ _ _ _ h3 _ G noW k Φ En noC (amb_blk hh A) (ceok_blk E) R.r.r.l)
        (fun sh H0 C cl fp => (I.e _ _ _ _ h4 _ G noW k Φ En noC (amb_blk hh A) (ceok_blk E) R.r.r.r.l).1)
    · cases h
  · cases h
end TL

set_option linter.all false
set_option maxRecDepth 100000
set_option maxHeartbeats 2000000
/-! TLSound4: what is walked; builtins. Own work. -/
namespace TL
open PySem PySem.Spec PyProof.Rows L2 NdefX LamX
theorem recv_base {a : Expr} (h : recvB a = true) (m : Str) (env : Env) (w : Sem Value) : attributeBase a m env w = w := by
  cases a <;> first | rfl | cases h
theorem good_i {n : Nat} (I : Good n) : ∀ ce tg e it r, trI (n + 1) ce tg e = some (it, r) → OkI ce tg e it r := by
  intro ce tg e it r h
  have gen : ∀ {it r}, (∀ (X : Cx) x, foldedSetIterable e X.env x = pure x) → ((trE n ce e).bnd fun x => .ret (.val x)) = some (it, r) → OkI ce tg e it r := by
    intro it r hf h
    obtain ⟨x, r1, r2, h1, k1, rfl⟩ := TM.bnd_eq h
    obtain ⟨rfl, rfl⟩ := TM.ret_eq k1
    exact ⟨hf, fun X G W k Φ En C0 A E R => si_val (I.e _ _ _ _ h1 X G W k Φ En C0 A E R.l).1⟩
  unfold trI at h
  split at h
  · rename_i f p args pos
    split at h
    · rename_i hb
      split at h
      · rename_i hf
        subst hf
        split at h
        · rename_i a
          split at h
          · cases h
          · rename_i hs
            have hs : starB a = false := by simpa using hs
            obtain ⟨x, r1, r2, h1, k1, rfl⟩ := TM.bnd_eq h
            obtain ⟨rfl, rfl⟩ := TM.ret_eq k1
            refine ⟨fun _ _ => rfl, fun X G W k Φ En C0 A E R => ?_⟩
            obtain ⟨g1, g2, _⟩ := E.bltOk hb
            exact si_range1 g1 g2 (starB_ok hs) (I.e _ _ _ _ h1 X G W k Φ En C0 A E R.l).1
        · rename_i a b
          split at h
          · cases h
          · rename_i hs
            simp only [Bool.or_eq_true, not_or, Bool.not_eq_true] at hs
            obtain ⟨x, r1, r2, h1, k1, rfl⟩ := TM.bnd_eq h
            obtain ⟨y, r3, r4, h2, k2, rfl⟩ := TM.bnd_eq k1
            obtain ⟨rfl, rfl⟩ := TM.ret_eq k2
            refine ⟨fun _ _ => rfl, fun X G W k Φ En C0 A E R => ?_⟩
            obtain ⟨g1, g2, _⟩ := E.bltOk hb
            exact si_range2 g1 g2 (starB_ok hs.1) (starB_ok hs.2) (I.e _ _ _ _ h1 X G W k Φ En C0 A E R.l).1 (I.e _ _ _ _ h2 X G W k Φ En C0 A E R.r.l).1
        · rename_i a b c
          split at h
          · cases h
          · rename_i hs
            simp only [Bool.or_eq_true, not_or, Bool.not_eq_true] at hs
            obtain ⟨x, r1, r2, h1, k1, rfl⟩ := TM.bnd_eq h
            obtain ⟨y, r3, r4, h2, k2, rfl⟩ := TM.bnd_eq k1
            obtain ⟨z, r5, r6, h3, k3, rfl⟩ := TM.bnd_eq k2
            obtain ⟨rfl, rfl⟩ := TM.ret_eq k3
            refine ⟨fun _ _ => rfl, fun X G W k Φ En C0 A E R => ?_⟩
            obtain ⟨g1, g2, _⟩ := E.bltOk hb
            exact si_range3 g1 g2 (starB_ok hs.1.1) (starB_ok hs.1.2) (starB_ok hs.2) (I.e _ _ _ _ h1 X G W k Φ En C0 A E R.l).1 (I.e _ _ _ _ h2 X G W k Φ En C0 A E R.r.l).1 (I.e _ _ _ _ h3 X G W k Φ En C0 A E R.r.r.l).1
        · cases h
      · split at h
        · rename_i hf
          subst hf
          split at h
          · rename_i a
            split at h
            · cases h
            · rename_i hs
              have hs : starB a = false := by simpa using hs
              obtain ⟨x, r1, r2, h1, k1, rfl⟩ := TM.bnd_eq h
              obtain ⟨rfl, rfl⟩ := TM.ret_eq k1
              refine ⟨fun _ _ => rfl, fun X G W k Φ En C0 A E R => ?_⟩
              obtain ⟨g1, g2, _⟩ := E.bltOk hb
              exact si_enum g1 g2 (starB_ok hs) (I.e _ _ _ _ h1 X G W k Φ En C0 A E R.l).1
          · cases h
        · split at h
          · rename_i hf
            subst hf
            split at h
            · rename_i a b
              split at h
              · cases h
              · rename_i hs
                simp only [Bool.or_eq_true, not_or, Bool.not_eq_true] at hs
                obtain ⟨x, r1, r2, h1, k1, rfl⟩ := TM.bnd_eq h
                obtain ⟨y, r3, r4, h2, k2, rfl⟩ := TM.bnd_eq k1
                obtain ⟨rfl, rfl⟩ := TM.ret_eq k2
                refine ⟨fun _ _ => rfl, fun X G W k Φ En C0 A E R => ?_⟩
                obtain ⟨g1, g2, _⟩ := E.bltOk hb
                exact si_zip2 g1 g2 (starB_ok hs.1) (starB_ok hs.2) (I.e _ _ _ _ h1 X G W k Φ En C0 A E R.l).1 (I.e _ _ _ _ h2 X G W k Φ En C0 A E R.r.l).1
            · rename_i a b c
              split at h
              · cases h
              · rename_i hs
                simp only [Bool.or_eq_true, not_or, Bool.not_eq_true] at hs
                obtain ⟨x, r1, r2, h1, k1, rfl⟩ := TM.bnd_eq h
                obtain ⟨y, r3, r4, h2, k2, rfl⟩ := TM.bnd_eq k1
                obtain ⟨z, r5, r6, h3, k3, rfl⟩ := TM.bnd_eq k2
                obtain ⟨rfl, rfl⟩ := TM.ret_eq k3
                refine ⟨fun _ _ => rfl, fun X G W k Φ En C0 A E R => ?_⟩
                obtain ⟨g1, g2, _⟩ := E.bltOk hb
                exact si_zip3 g1 g2 (starB_ok hs.1.1) (starB_ok hs.1.2) (starB_ok hs.2) (I.e _ _ _ _ h1 X G W k Φ En C0 A E R.l).1 (I.e _ _ _ _ h2 X G W k Φ En C0 A E R.r.l).1 (I.e _ _ _ _ h3 X G W k Φ En C0 A E R.r.r.l).1
            · cases h
          · exact gen (fun _ _ => rfl) h
    · exact gen (fun _ _ => rfl) h
  · split at h
    · split at h
      · rename_i hq
        obtain ⟨rfl, h2, h3⟩ := hq
        obtain ⟨x, r1, r2, h1, k1, rfl⟩ := TM.bnd_eq h
        obtain ⟨rfl, rfl⟩ := TM.ret_eq k1
        refine ⟨fun _ _ => rfl, fun X G W k Φ En C0 A E R => ?_⟩
        exact si_items (I.e _ _ _ _ h1 X G W k Φ En C0 A E R.l).1 (recv_base h2 _ _ _) (by simpa using h3)
      · cases h
    · cases h
  · cases h
  · rename_i hset
    refine gen (fun X x => ?_) h
    cases e <;> first | rfl | exact (hset _ _ _ rfl).elim
end TL

set_option linter.all false
set_option maxRecDepth 100000
set_option maxHeartbeats 2000000
/-! TLSound5: builtins. Own work. -/
namespace TL
open PySem PySem.Spec PyProof.Rows L2 NdefX LamX
theorem blt_any {X : Cx} {G : GT} {En : Ent} {C0 : Cells} {W : WX} {Φ : Phi} {f : Str} {m : Nat} {b : Blt} {e : Expr} {es : List Expr} {is : IEs} {p pos : Pos} (hc : X.calm = true) (h : bltOf f m = some b) (hg : Gl X f) (hm : X.mg f = none)
    (hs : ∀ e' ∈ e :: es, ∀ x p, e' ≠ .Starred x p) (ha : PA X (e :: es) (tDs X G En C0 W (evs Φ is))) : PE X (.Call (.Name f p) (e :: es) [] pos) (tD X G En C0 W (ev Φ (.blt b is))) := by
  unfold bltOf at h
  split at h
  · rename_i hf; subst hf
    split at h
    · cases h; exact sd_bltB call_len_seq cal_len hg hm (by decide +kernel) (by decide) (by decide) hs ha
    · cases h
  split at h
  · rename_i hf; subst hf
    split at h
    · cases h; exact sd_bltB (cr_maxB hc) cal_max1 hg hm (by decide +kernel) (by decide) (by decide) hs ha
    · split at h
      · cases h; exact sd_bltB (call_max2 hc) cal_max2 hg hm (by decide +kernel) (by decide) (by decide) hs ha
      · cases h
  split at h
  · rename_i hf; subst hf
    split at h
    · cases h; exact sd_bltB (cr_minB hc) cal_min1 hg hm (by decide +kernel) (by decide) (by decide) hs ha
    · split at h
      · cases h; exact sd_bltB (call_min2 hc) cal_min2 hg hm (by decide +kernel) (by decide) (by decide) hs ha
      · cases h
  split at h
  · rename_i hf; subst hf
    split at h
    · cases h; exact sd_bltB (cr_sumB hc) cal_sum hg hm (by decide +kernel) (by decide) (by decide) hs ha
    · cases h
  split at h
  · rename_i hf; subst hf
    split at h
    · cases h; exact sd_bltB (cr_all hc) cal_all hg hm (by decide +kernel) (by decide) (by decide) hs ha
    · cases h
  split at h
  · rename_i hf; subst hf
    split at h
    · cases h; exact sd_bltB (cr_any hc) cal_any hg hm (by decide +kernel) (by decide) (by decide) hs ha
    · cases h
  split at h
  · rename_i hf; subst hf
    split at h
    · cases h; exact sd_bltB call_abs cal_abs hg hm (by decide +kernel) (by decide) (by decide) hs ha
    · cases h
  split at h
  · rename_i hf; subst hf
    split at h
    · cases h; exact sd_bltT call_int1 cal_int hg hm (by decide +kernel) (by decide) (by decide) hs ha
    · cases h
  split at h
  · rename_i hf; subst hf
    split at h
    · cases h; exact sd_bltT call_tuple_of cal_tuple hg hm (by decide +kernel) (by decide) (by decide) hs ha
    · cases h
  split at h
  · rename_i hf; subst hf
    split at h
    · cases h; exact sd_bltT call_list_of cal_list hg hm (by decide +kernel) (by decide) (by decide) hs ha
    · cases h
  split at h
  · rename_i hf; subst hf
    split at h
    · cases h; exact sd_bltB call_divmod cal_divmod hg hm (by decide +kernel) (by decide) (by decide) hs ha
    · cases h
  · cases h
end TL

set_option linter.all false
set_option maxRecDepth 100000
set_option maxHeartbeats 4000000
/-! TLSound7: calls with keywords; helpers for any expression. Own work. -/
namespace TL
open PySem PySem.Spec PyProof.Rows L2 NdefX LamX
theorem bopOf_ok {op : Operator} {o : BOp} (h : bopOf op = some o) : op = bop o := by
  cases op <;> simp [bopOf] at h <;> subst h <;> rfl
theorem copOf_ok (op : CmpOp) : op = cop (copOf op) := by cases op <;> rfl
theorem allSome_ok {α : Type} : ∀ {l : List (Option α)} {r : List α}, allSome l = some r → l = r.map some
  | [], r, h => by cases h; rfl
  | some a :: l, r, h => by
    simp only [allSome, Option.map_eq_some_iff] at h
    obtain ⟨r', h1, rfl⟩ := h
    simp [allSome_ok h1]
  | none :: l, r, h => by cases h
theorem nilOf {α : Type} {l : List α} (h : l.isEmpty = true) : l = [] := by cases l <;> first | rfl | cases h
theorem freesOf_ok {sc : Scope} {y : Str} : (y, NameKind.free) ∈ sc.names ↔ y ∈ freesOf sc := by
  unfold freesOf
  simp only [List.mem_map, List.mem_filter, decide_eq_true_eq]
  constructor
  · intro h; exact ⟨(y, .free), ⟨h, rfl⟩, rfl⟩
  · rintro ⟨⟨a, b⟩, ⟨h1, h2⟩, h3⟩
    simp only at h2 h3
    subst h2; subst h3
    exact h1
theorem plainArgs_def {a : Arguments} (h : plainArgs a = true) (env : Env) : defaultsOf a env = ([], []) := by
  unfold plainArgs at h
  simp only [Bool.and_eq_true] at h
  obtain ⟨⟨⟨⟨⟨h1, h2⟩, h3⟩, h4⟩, h5⟩, h6⟩ := h
  obtain ⟨a1, a2, a3, a4, a5, a6, a7⟩ := a
  have e1 := nilOf h4
  have e2 := nilOf h6
  simp only at e1 e2
  subst e1; subst e2
  rfl
theorem evs_app (Φ : Phi) : ∀ (xs ys : IEs) (s : DS), evs Φ (xs.app ys) s = (evs Φ xs s).bind fun as s => (evs Φ ys s).bind fun bs s => .ok (as ++ bs) s
  | .nil, ys, s => by
    show evs Φ ys s = (evs Φ ys s).bind fun bs s => .ok ([] ++ bs) s
    cases h : evs Φ ys s <;> rfl
  | .cons x xs, ys, s => by
    show (ev Φ x s).bind (fun v s => (evs Φ (xs.app ys) s).bind fun vs s => .ok (v :: vs) s) = ((ev Φ x s).bind fun v s => (evs Φ xs s).bind fun vs s => .ok (v :: vs) s).bind _
    cases h : ev Φ x s with
    | ok v s1 =>
      show (evs Φ (xs.app ys) s1).bind (fun vs s => .ok (v :: vs) s) = ((evs Φ xs s1).bind fun vs s => .ok (v :: vs) s).bind _
      rw [evs_app Φ xs ys s1]
      cases h2 : evs Φ xs s1 with
      | ok vs s2 =>
        show ((evs Φ ys s2).bind fun bs s => .ok (vs ++ bs) s).bind (fun vs s => .ok (v :: vs) s) = (evs Φ ys s2).bind fun bs s => .ok (v :: vs ++ bs) s
        cases evs Φ ys s2 <;> rfl
      | exc c fs s2 => rfl
      | bad => rfl
    | exc c fs s1 => rfl
    | bad => rfl
def lenE : IEs → Nat
  | .nil => 0
  | .cons _ es => lenE es + 1
theorem evs_len (Φ : Phi) : ∀ (is : IEs) (s : DS) (ps : List PV) (s' : DS), evs Φ is s = .ok ps s' → ps.length = lenE is
  | .nil, s, ps, s', h => by cases h; rfl
  | .cons e es, s, ps, s', h => by
    have h : (ev Φ e s).bind (fun x s => (evs Φ es s).bind fun xs s => .ok (x :: xs) s) = .ok ps s' := h
    cases h1 : ev Φ e s with
    | ok x s1 =>
      rw [h1] at h
      have h : (evs Φ es s1).bind (fun xs s => .ok (x :: xs) s) = .ok ps s' := h
      cases h2 : evs Φ es s1 with
      | ok xs s2 =>
        rw [h2] at h
        cases h
        simp [lenE, evs_len Φ es s1 xs s' h2]
      | exc c fs s2 => rw [h2] at h; cases h
      | bad => rw [h2] at h; cases h
    | exc c fs s1 => rw [h1] at h; cases h
    | bad => rw [h1] at h; cases h
theorem trA_len {ce : CE} : ∀ (n : Nat) (es : List Expr) (is : IEs) (r : List Rq), trA n ce es = some (is, r) → lenE is = es.length
  | 0, es, is, r, h => by unfold trA at h; cases h
  | n + 1, [], is, r, h => by
    unfold trA at h
    obtain ⟨rfl, rfl⟩ := TM.ret_eq h
    rfl
  | n + 1, e :: es, is, r, h => by
    unfold trA at h
    simp only at h
    split at h
    · cases h
    · obtain ⟨x, r1, r2, h1, k1, rfl⟩ := TM.bnd_eq h
      obtain ⟨y, r3, r4, h2, k2, rfl⟩ := TM.bnd_eq k1
      obtain ⟨rfl, rfl⟩ := TM.ret_eq k2
      simp [lenE, trA_len n es y r3 h2]
theorem trK_len {ce : CE} : ∀ (n : Nat) (es : List Keyword) (is : IEs) (r : List Rq), trK n ce es = some (is, r) → lenE is = es.length
  | 0, es, is, r, h => by unfold trK at h; cases h
  | n + 1, [], is, r, h => by
    unfold trK at h
    obtain ⟨rfl, rfl⟩ := TM.ret_eq h
    rfl
  | n + 1, ⟨nm, e, kp⟩ :: es, is, r, h => by
    unfold trK at h
    simp only at h
    obtain ⟨x, r1, r2, h1, k1, rfl⟩ := TM.bnd_eq h
    obtain ⟨y, r3, r4, h2, k2, rfl⟩ := TM.bnd_eq k1
    obtain ⟨rfl, rfl⟩ := TM.ret_eq k2
    simp [lenE, trK_len n es y r3 h2]
theorem kwNames_len : ∀ {kws : List Keyword} {ks : List Str}, kwNames kws = some ks → ks.length = kws.length
  | [], ks, h => by cases h; rfl
  | ⟨none, e, kp⟩ :: kws, ks, h => by cases h
  | ⟨some x, e, kp⟩ :: kws, ks, h => by
    simp only [kwNames, List.map_cons, allSome, Option.map_eq_some_iff] at h
    obtain ⟨r, h1, rfl⟩ := h
    simp [kwNames_len (kws := kws) h1]
section
variable {X : Cx} {G : GT} {En : Ent} {C0 : Cells} {W : WX} {θ : List Addr} {S H : Hp} {σ : L2.St} {s : DS} {Φ : Phi} {KW : List (Nat × Nat × List Str)}
variable {pos p : Pos} {k : Nat}
theorem zip_len {α β : Type} : ∀ {xs : List α} {ys : List β}, xs.length = ys.length → (xs.zip ys).map (·.1) = xs
  | [], [], _ => rfl
  | x :: xs, y :: ys, h => by simp [zip_len (xs := xs) (ys := ys) (by simpa using h)]
  | [], _ :: _, h => by simp at h
  | _ :: _, [], h => by simp at h
theorem call_atK {j n : Nat} {f : Addr} {ks : List Str} {pins : List (Addr × Obj)} {sh : Shared} {us ws : List Value} {vs zs : List V} {ps : List PV} {Q : VK} (L : Lv X.prog X.w X.K X.mg X.base G KW k Φ) (hr : Room (2 * k + 1) X.A) (tk : Takes X W) (hj : G.addr j = some f)
    (hkw : (j, n, ks) ∈ KW) (hn : us.length = n) (hw : ws.length = ks.length)
    (I : Inv X pins σ H sh) (r : Vals vs us) (r2 : Vals zs ws) (R : Rel X G En C0 θ S H s σ) (rl : RepL X.K G.toFT (CC X C0 σ s.cap) θ S ps (vs ++ zs))
    (h : PostR X G En C0 W θ S H σ (DR.ofF (Φ j ps s.mu) s) fun p s' θ' S' H' => ∀ v, RepV X.K G.toFT (CC X C0 σ s'.cap) θ' S' p v → Q v H') : wpAny (model X.prog X.w) X.A (call (.ref f) us (ks.zip ws)) (EP X pins σ Q) X.xe sh := by
  obtain ⟨hk, fd, pn, hb, F, hl, kb⟩ := L.go j f hj
  by_cases hp : ps.length = pn.length
  · have hlen : us.length + ws.length = pn.length := by
      rw [← hp, rl.length, List.length_append, r.length, r2.length]
    have b0 := kb n ks hkw sh us ws hn hw hlen
    have rr : Vals (vs ++ zs) (us ++ ws) := r.append r2
    exact run_S (args := ⟨us, ks.zip ws⟩) tk I (F X.A X.stack sh H ⟨us, ks.zip ws⟩ (us ++ ws) (vs ++ zs) Q (WE W σ) _ hr I.env0 b0 rr (by rw [← rl.length, hp]) (cells_in I R) ⟨θ, S, s.mu, ps, R.rs, rl, PostR.toF R h⟩)
  · rw [hl ps s.mu hp] at h
    exact h.elim
theorem kwNames_map : ∀ {kws : List Keyword} {ks : List Str} {env : Env}, kwNames kws = some ks → (backToKw pos (keywordEach kws env)).map (·.1) = ks.map some
  | [], ks, env, h => by cases h; rfl
  | ⟨none, e, kp⟩ :: kws, ks, env, h => by cases h
  | ⟨some x, e, kp⟩ :: kws, ks, env, h => by
    simp only [kwNames, List.map_cons, allSome, Option.map_eq_some_iff] at h
    obtain ⟨r, h1, rfl⟩ := h
    have := kwNames_map (kws := kws) (env := env) h1
    unfold backToKw at this ⊢
    show some x :: _ = some x :: _
    exact congrArg _ this
theorem names_filter {α : Type} : ∀ {l : List (Option Str × α)} {ks : List Str}, l.map (·.1) = ks.map some → l.all (·.1.isSome) = true ∧ l.filterMap (·.1) = ks ∧ l.any (·.1.isNone) = false ∧ l.length = ks.length
  | [], [], _ => ⟨rfl, rfl, rfl, rfl⟩
  | (a, b) :: l, k :: ks, h => by
    simp only [List.map_cons, List.cons.injEq] at h
    obtain ⟨h1, h2⟩ := h
    obtain ⟨i1, i2, i3, i4⟩ := names_filter h2
    have h1 : a = some k := h1
    subst h1
    exact ⟨by simp [i1], by simp [i2], by simp [i3], by simp [i4]⟩
  | [], _ :: _, h => by simp at h
  | _ :: _, [], h => by simp at h
/-- f(e, .., k = v, ..) -/
theorem sd_callK {j : Nat} {f : Addr} {x : Str} {e : Expr} {es : List Expr} {kws : List Keyword} {ks : List Str} {is js : IEs} (L : Lv X.prog X.w X.K X.mg X.base G KW k Φ) (hr : Room (2 * k + 1) X.A) (tk : Takes X W) (hj : G.addr j = some f) (hg : Gl X x) (hm : X.mg x = some (.ref f)) (hd : (x == ("__debug__" : Str)) = false)
    (hkw : (j, (e :: es).length, ks) ∈ KW) (hks : kwNames kws = some ks) (hl1 : lenE is = (e :: es).length) (hl2 : lenE js = ks.length)
    (hs : ∀ e' ∈ e :: es, ∀ x p, e' ≠ .Starred x p) (ha : PA X (e :: es) (tDs X G En C0 W (evs Φ is))) (hp : PK X kws (tDs X G En C0 W (evs Φ js))) : PE X (.Call (.Name x p) (e :: es) kws pos) (tD X G En C0 W (ev Φ (.call j (is.app js)))) := by
  refine ⟨fun pins sh σ H Q I ⟨θ, S, s, R, h⟩ => ?_⟩
  have h : PostR X G En C0 W θ S H σ ((evs Φ (is.app js) s).bind fun xs s => DR.ofF (Φ j xs s.mu) s) fun p s' θ' S' H' => ∀ v, RepV X.K G.toFT (CC X C0 σ s'.cap) θ' S' p v → Q v H' := h
  rw [evs_app] at h
  have ea : (((evs Φ is s).bind fun as s => (evs Φ js s).bind fun bs s => .ok (as ++ bs) s).bind fun xs s => DR.ofF (Φ j xs s.mu) s) = (evs Φ is s).bind fun as s => (evs Φ js s).bind fun bs s => DR.ofF (Φ j (as ++ bs) s.mu) s := by
    cases evs Φ is s with
    | ok as s1 =>
      show ((evs Φ js s1).bind fun bs s => .ok (as ++ bs) s).bind _ = (evs Φ js s1).bind fun bs s => DR.ofF (Φ j (as ++ bs) s.mu) s
      cases evs Φ js s1 <;> rfl
    | exc c fs s1 => rfl
    | bad => rfl
  rw [ea] at h
  obtain ⟨n1, n2, n3, n4⟩ := names_filter (kwNames_map (pos := pos) (env := X.env) hks)
  refine wpAny_Call_Name_kw (ld_glob I hg hm ?_ hd)
  refine PySem.W.callWith_KW (h₀ := X.base) I.ok.mod.kin (L.go j f hj).1 n1 (thn (ha.run pos pins sh σ H (fun vs H1 => vs.length = (e :: es).length ∧ ∃ θ1 S1 s1 ps, Rel X G En C0 θ1 S1 H1 s1 σ ∧ RepL X.K G.toFT (CC X C0 σ s1.cap) θ1 S1 ps vs ∧
    PostR X G En C0 W θ1 S1 H1 σ ((evs Φ js s1).bind fun bs s => DR.ofF (Φ j (ps ++ bs) s.mu) s) fun p s' θ' S' H' => ∀ v, RepV X.K G.toFT (CC X C0 σ s'.cap) θ' S' p v → Q v H') I ⟨θ, S, s, R, (PostR.bind h).imp fun ps s1 θ1 S1 H1 q1 e1 R1 h1 v rv => ⟨?_, θ1, S1, s1, ps, R1, rv, h1⟩⟩) fun us s1 ⟨vs, H1, I1, r, lv, θ1, S1, s1', ps, R1, rl, h1⟩ => ?_) ?_ (star_plain (hs e List.mem_cons_self))
  · rw [← rv.length, evs_len Φ is s ps s1 q1, hl1]
  · refine thn (hp.run pos pins s1 σ H1 (fun zs H2 => ∃ θ2 S2 s2 qs, Rel X G En C0 θ2 S2 H2 s2 σ ∧ RepL X.K G.toFT (CC X C0 σ s2.cap) θ2 S2 qs (vs ++ zs) ∧ zs.length = ks.length ∧
      PostR X G En C0 W θ2 S2 H2 σ (DR.ofF (Φ j qs s2.mu) s2) fun p s' θ' S' H' => ∀ v, RepV X.K G.toFT (CC X C0 σ s'.cap) θ' S' p v → Q v H') I1 ⟨θ1, S1, s1', R1, (PostR.bind h1).imp fun qs s2 θ2 S2 H2 q2 e2 R2 h2 zs rz => ⟨θ2, S2, s2, ps ++ qs, R2, (RepL.mono e2.sS e2.pre (CC.mono (evs_grow Φ js s1' qs s2 q2).1) rl).append rz, ?_, h2⟩⟩) fun ws s2 ⟨zs, H2, I2, rz, θ2, S2, s2', qs, R2, rl2, lz, h2⟩ => ⟨I2.kIn, ?_⟩
    · rw [← rz.length, evs_len Φ js s1' qs s2 q2, hl2]
    · rw [n2]
      rw [List.nil_append]
      exact call_atK L hr tk hj hkw (by rw [← r.length, lv]) (by rw [← rz.length, lz]) I2 r rz R2 rl2 h2
  · rw [n3]
    simp [backTo_any (pos := pos) (env := X.env) hs]
end
end TL

set_option linter.all false
set_option maxRecDepth 100000
set_option maxHeartbeats 4000000
/-! TLObj2: methods, properties, instances made. Own work. -/
namespace TL
open PySem PySem.Spec PyProof.Rows L2 NdefX LamX
section
variable {X : Cx} {G : GT} {En : Ent} {C0 : Cells} {W : WX} {θ θ' : List Addr} {S S' H H' : Hp} {σ : L2.St} {s : DS} {Φ : Phi} {KW : List (Nat × Nat × List Str)} {Ex : Exc}
variable {a e o : Expr} {ia ie io : IE} {is js : IEs} {es : List Expr} {kws : List Keyword} {ks : List Str} {pos apos p : Pos} {f m x : Str} {cs : List Nat} {ms : List (Nat × Nat)} {k : Nat} {pins : List (Addr × Obj)} {sh : Shared}
theorem evs_bind {α : Type} (g : List PV → DS → DR α) : (evs Φ (is.app js) s).bind g = (evs Φ is s).bind fun as s => (evs Φ js s).bind fun bs s => g (as ++ bs) s := by
  rw [evs_app]
  cases evs Φ is s with
  | ok as s1 =>
    show ((evs Φ js s1).bind fun bs s => .ok (as ++ bs) s).bind g = (evs Φ js s1).bind fun bs s => g (as ++ bs) s
    cases evs Φ js s1 <;> rfl
  | exc c fs s1 => rfl
  | bad => rfl
/-- arguments and keywords' values, then the call -/
theorem args_run {α : Type} {g : List PV → DS → DR α} {fv : Value} {first : List Value} {P : α → DS → List Addr → Hp → Hp → Prop} {Q : Value → Shared → Prop} (hk : PySem.W.keepIn X.K fv = true) (hs : ∀ e ∈ es, ∀ x p, e ≠ .Starred x p) (hks : kwNames kws = some ks)
    (hl1 : lenE is = es.length) (hl2 : lenE js = ks.length) (ha : PA X es (tDs X G En C0 W (evs Φ is))) (hp : PK X kws (tDs X G En C0 W (evs Φ js))) (I : Inv X pins σ H sh) (R : Rel X G En C0 θ S H s σ)
    (h : PostR X G En C0 W θ S H σ ((evs Φ (is.app js) s).bind g) P)
    (hc : ∀ (us ws : List Value) (vs zs : List V) (sh2 : Shared) (H2 : Hp) (θ2 : List Addr) (S2 : Hp) (s2 : DS) (xs : List PV), Inv X pins σ H2 sh2 → Vals vs us → Vals zs ws → us.length = es.length → ws.length = ks.length → Ste θ S H θ2 S2 H2 → LeS s s2 → Rel X G En C0 θ2 S2 H2 s2 σ →
      RepL X.K G.toFT (CC X C0 σ s2.cap) θ2 S2 xs (vs ++ zs) → PostR X G En C0 W θ2 S2 H2 σ (g xs s2) P → wpAny (model X.prog X.w) X.A (call fv (first ++ us) (ks.zip ws)) Q X.xe sh2) :
    wpAny (model X.prog X.w) X.A (callWith pos fv first (backTo pos (starEach es X.env)) (backToKw pos (keywordEach kws X.env))) Q X.xe sh := by
  rw [evs_bind] at h
  obtain ⟨n1, n2, n3, n4⟩ := names_filter (kwNames_map (pos := pos) (env := X.env) hks)
  have key : ∀ (us : List Value) (vs : List V) (sh1 : Shared) (H1 : Hp) (θ1 : List Addr) (S1 : Hp) (s1 : DS) (ps : List PV), Inv X pins σ H1 sh1 → Vals vs us → us.length = es.length → Ste θ S H θ1 S1 H1 → LeS s s1 → Rel X G En C0 θ1 S1 H1 s1 σ → RepL X.K G.toFT (CC X C0 σ s1.cap) θ1 S1 ps vs →
      PostR X G En C0 W θ1 S1 H1 σ ((evs Φ js s1).bind fun bs s => g (ps ++ bs) s) P →
      wpAny (model X.prog X.w) X.A (evalAll ((backToKw pos (keywordEach kws X.env)).map (·.2))) (fun ws s₂ => X.K.In s₂.heap ∧ wpAny (model X.prog X.w) X.A (call fv (first ++ us) (((backToKw pos (keywordEach kws X.env)).filterMap (·.1)).zip ws)) Q X.xe s₂) X.xe sh1 := by
    intro us vs sh1 H1 θ1 S1 s1 ps I1 r lu e1 le1 R1 rl h1
    refine thn (hp.run pos pins sh1 σ H1 (fun zs H2 => zs.length = ks.length ∧ ∃ θ2 S2 s2 qs, Ste θ S H θ2 S2 H2 ∧ LeS s s2 ∧ Rel X G En C0 θ2 S2 H2 s2 σ ∧ RepL X.K G.toFT (CC X C0 σ s2.cap) θ2 S2 qs (vs ++ zs) ∧ PostR X G En C0 W θ2 S2 H2 σ (g qs s2) P) I1
      ⟨θ1, S1, s1, R1, (PostR.bind h1).imp fun qs s2 θ2 S2 H2 q2 e2 R2 h2 zs rz => ⟨?_, θ2, S2, s2, ps ++ qs, e1.trans e2, le1.trans (evs_grow Φ js s1 qs s2 q2), R2, (RepL.mono e2.sS e2.pre (CC.mono (evs_grow Φ js s1 qs s2 q2).1) rl).append rz, h2⟩⟩) fun ws sh2 ⟨zs, H2, I2, rz, lz, θ2, S2, s2, qs, e2, le2, R2, rl2, h2⟩ => ⟨I2.kIn, ?_⟩
    · rw [← rz.length, evs_len Φ js s1 qs s2 q2, hl2]
    · rw [n2]
      exact hc us ws vs zs sh2 H2 θ2 S2 s2 qs I2 r rz lu (by rw [← rz.length, lz]) e2 le2 R2 rl2 h2
  cases es with
  | nil =>
    refine PySem.W.callWith_KW0 (h₀ := X.base) I.ok.mod.kin hk n1 ?_ (by rw [n3]; rfl)
    cases is with
    | cons _ _ => simp [lenE] at hl1
    | nil =>
      have h : PostR X G En C0 W θ S H σ ((evs Φ js s).bind fun bs s => g ([] ++ bs) s) P := h
      have := key [] [] sh H θ S s [] I .nil rfl (Ste.refl _ _ _) (LeS.refl _) R .nil h
      exact this
  | cons e es =>
    refine PySem.W.callWith_KW (h₀ := X.base) I.ok.mod.kin hk n1 (thn (ha.run pos pins sh σ H (fun vs H1 => vs.length = (e :: es).length ∧ ∃ θ1 S1 s1 ps, Ste θ S H θ1 S1 H1 ∧ LeS s s1 ∧ Rel X G En C0 θ1 S1 H1 s1 σ ∧ RepL X.K G.toFT (CC X C0 σ s1.cap) θ1 S1 ps vs ∧
      PostR X G En C0 W θ1 S1 H1 σ ((evs Φ js s1).bind fun bs s => g (ps ++ bs) s) P) I ⟨θ, S, s, R, (PostR.bind h).imp fun ps s1 θ1 S1 H1 q1 e1 R1 h1 v rv => ⟨?_, θ1, S1, s1, ps, e1, evs_grow Φ is s ps s1 q1, R1, rv, h1⟩⟩) fun us s1 ⟨vs, H1, I1, r, lv, θ1, S1, s1', ps, e1, le1, R1, rl, h1⟩ => ?_) ?_ (star_plain (hs e List.mem_cons_self))
    · rw [← rv.length, evs_len Φ is s ps s1 q1, hl1]
    · exact key us vs s1 H1 θ1 S1 s1' ps I1 r (by rw [← r.length, lv]) e1 le1 R1 rl h1
    · rw [n3]
      simp [backTo_any (pos := pos) (env := X.env) hs]
/-- what a class must have for a method -/
def MetOk (K : PySem.W.Frag) (G : GT) (ms : List (Nat × Nat)) (m : Str) : Prop := ∀ c j, ms.lookup c = some j → ∀ A, G.cls c = some A → ∃ f, G.addr j = some f ∧ Cls K A ∧ Meth K A m f
theorem few_ok {args : List Expr} {env : Env} {n : Nat} (hs : ∀ e ∈ args, ∀ x p, e ≠ .Starred x p) (hks : kwNames kws = some ks) (hn : n < 29) : methodCallForm n (backTo pos (starEach args env)) (backToKw pos (keywordEach kws env)) = true := by
  obtain ⟨n1, n2, n3, n4⟩ := names_filter (kwNames_map (pos := pos) (env := env) hks)
  have h1 : (backTo pos (starEach args env)).all (fun x => !x.1) = true := by
    have := backTo_any (pos := pos) (env := env) hs
    rw [List.all_eq_true]
    intro x hx
    rw [List.any_eq_false] at this
    simpa using this x hx
  unfold methodCallForm
  rw [h1, n1]
  have : n + (if (backToKw pos (keywordEach kws env)).isEmpty then 0 else 1) < 30 := by split <;> omega
  rw [decide_eq_true this]; rfl
theorem meth_eval {args : List Expr} {env : Env} (h : recvB o = true) (hs : ∀ e ∈ args, ∀ x p, e ≠ .Starred x p) (hks : kwNames kws = some ks) (hn : args.length + kws.length < 29) (hl : apos.endLine = pos.line) : ∃ pl : Sem Bool, eval (.Call (.Attribute o m apos) args kws pos) env = (do
      let ov ← eval o env
      standAt apos.atName
      let (f, first) ← holding [ov] (getMethod ov m pl)
      callWith pos f first (backTo pos (starEach args env)) (backToKw pos (keywordEach kws env))) := by
  refine ⟨(do return (← importBound o env).getD true), ?_⟩
  rw [PySem.arm_eval_Call, recv_base h]
  unfold methodCall methodCallPos calleeOf
  rw [few_ok hs hks hn]
  simp [hl]
/-- the call of a def that is known, with keywords or without -/
theorem call_any {j : Nat} {fa : Addr} {us ws : List Value} {vs zs : List V} {ps : List PV} {Q : VK} (L : Lv X.prog X.w X.K X.mg X.base G KW k Φ) (hr : Room (2 * k + 1) X.A) (tk : Takes X W) (hj : G.addr j = some fa) (hkw : ks = [] ∨ (j, us.length, ks) ∈ KW) (hw : ws.length = ks.length)
    (I : Inv X pins σ H sh) (r : Vals vs us) (r2 : Vals zs ws) (R : Rel X G En C0 θ S H s σ) (rl : RepL X.K G.toFT (CC X C0 σ s.cap) θ S ps (vs ++ zs))
    (h : PostR X G En C0 W θ S H σ (DR.ofF (Φ j ps s.mu) s) fun p s' θ' S' H' => ∀ v, RepV X.K G.toFT (CC X C0 σ s'.cap) θ' S' p v → Q v H') : wpAny (model X.prog X.w) X.A (call (.ref fa) us (ks.zip ws)) (EP X pins σ Q) X.xe sh := by
  rcases hkw with rfl | hkw
  · have : ws = [] := by simpa using hw
    subst this
    cases r2
    rw [List.append_nil] at rl
    exact call_at L hr tk hj I r R rl h
  · exact call_atK L hr tk hj hkw rfl hw I r r2 R rl h
theorem sd_meth (L : Lv X.prog X.w X.K X.mg X.base G KW k Φ) (hr : Room (2 * k + 1) X.A) (tk : Takes X W) (hm : MetOk X.K G ms m) (hrec : recvB o = true) (hn : es.length + kws.length < 29) (hl : apos.endLine = pos.line) (hks : kwNames kws = some ks) (hkw : ks = [] ∨ ∀ c j, ms.lookup c = some j → (j, es.length + 1, ks) ∈ KW)
    (hl1 : lenE is = es.length) (hl2 : lenE js = ks.length) (hs : ∀ e ∈ es, ∀ x p, e ≠ .Starred x p) (ho : PE X o (tD X G En C0 W (ev Φ io))) (ha : PA X es (tDs X G En C0 W (evs Φ is))) (hp : PK X kws (tDs X G En C0 W (evs Φ js))) :
    PE X (.Call (.Attribute o m apos) es kws pos) (tD X G En C0 W (ev Φ (.meth io m ms (is.app js)))) := by
  refine ⟨fun pins sh σ H Q I ⟨θ, S, s, R, h⟩ => ?_⟩
  obtain ⟨pl, ht⟩ := meth_eval (o := o) (m := m) (apos := apos) (kws := kws) (pos := pos) (args := es) (env := X.env) hrec hs hks hn hl
  unfold ev at h
  refine PySem.W.methodCall_KW (pl := pl) (thn (ho.run pins sh σ H (fun v H1 => ∃ θ1 S1 s1 p, Rel X G En C0 θ1 S1 H1 s1 σ ∧ RepV X.K G.toFT (CC X C0 σ s1.cap) θ1 S1 p v ∧ PostR X G En C0 W θ1 S1 H1 σ (match insOf s1.mu p with
    | some (n, c, fs) => (match ms.lookup c, fs.lookup m with
      | some f, none => (evs Φ (is.app js) s1).bind fun xs s => DR.ofF (Φ f (.obj n :: xs) s.mu) s
      | _, _ => .bad)
    | none => .bad) fun p s' θ' S' H' => ∀ v, RepV X.K G.toFT (CC X C0 σ s'.cap) θ' S' p v → Q v H') I
      ⟨θ, S, s, R, (PostR.bind h).imp fun p s1 θ1 S1 H1 q1 e1 R1 h1 v rv => ⟨θ1, S1, s1, p, R1, rv, h1⟩⟩) fun u sh1 ⟨v, H1, I1, rx, θ1, S1, s1, p, R1, rv, h1⟩ => ?_) ht
  split at h1
  · rename_i n c fs hi
    split at h1
    · rename_i j l1 l2
      obtain ⟨rfl, hmu⟩ := insOf_eq hi
      cases rv with
      | obj ht =>
        rename_i la
        obtain rfl : u = Value.ref la := rx
        obtain ⟨A, dx, vs, g, hH, rf⟩ := R1.rs.objI hmu ht
        obtain ⟨fa, hja, c1, c2⟩ := hm c j l1 A g
        have l3 : vs.lookup m = none := by
          rcases rf.look (f := m) with ⟨_, l⟩ | ⟨q, w, l, _⟩
          · exact l
          · rw [l2] at l; cases l
        refine getmeth_ok I1 hH c1 c2 l3 ?_
        refine args_run (first := [.ref la]) c2.kp hs hks hl1 hl2 ha hp I1 R1 h1 fun us ws vs zs sh2 H2 θ2 S2 s2 xs I2 r r2 lu lw e2 le2 R2 rl h2 => ?_
        refine call_any (us := .ref la :: us) (vs := .ref la :: vs) (ps := .obj n :: xs) L hr tk hja ?_ lw I2 (.cons rfl r) r2 R2 (.cons (.obj (e2.pre.get ht)) rl) h2
        rcases hkw with h0 | hkw
        · exact .inl h0
        · refine .inr ?_
          have := hkw c j l1
          rw [List.length_cons, lu]
          exact this
    · exact h1.elim
  · exact h1.elim
theorem noX_post {C : Cells} {r : FR} {Q : VK} {E E' : XK} (h : PostF X.K G C θ S H (noX r) Q E) : PostF X.K G C θ S H r Q E' := by
  cases r with
  | ok v mu => exact h
  | exc c fs mu => exact h.elim
  | bad => exact h.elim
theorem never_CX {H' : Hp} {sh2 : Shared} {er : Value} {sh3 : Shared} (I : Inv X pins σ H' sh2) (h : L2.CX X.prog X.w X.stack H' sh2 (fun _ _ _ => False) er sh3) : False := by
  obtain ⟨_, _, _, _, _, _, _, _, _, _, _, _, z⟩ := h
  exact z
theorem prop_at {j n : Nat} {C g b dx q : Addr} {fs : List (Str × V)} {Q : VK} {fl : Bool} (L : Lv X.prog X.w X.K X.mg X.base G KW k Φ) (hr : Room (2 * k + 2) X.A) (tk : Takes X W) (hj : G.addr j = some g) (I : Inv X pins σ H sh) (ea : H b = some (.ins C dx fs)) (c : Cls X.K C)
    (hp : PropOf X.K C f q g) (R : Rel X G En C0 θ S H s σ) (ht : θ[n]? = some b)
    (h : PostR X G En C0 W θ S H σ (DR.ofF (noX (Φ j [.obj n] s.mu)) s) fun p s' θ' S' H' => ∀ v, RepV X.K G.toFT (CC X C0 σ s'.cap) θ' S' p v → Q v H') : wpAny (model X.prog X.w) X.A (getAttr (.ref b) f fl) (EP X pins σ Q) X.xe sh := by
  obtain ⟨hk, fd, pn, hb, F, hl, _⟩ := L.go j g hj
  by_cases hn : [PV.obj n].length = pn.length
  · obtain ⟨mA, O, _, _, _, _⟩ := ins_get I.hok ea
    obtain ⟨od, J, _⟩ := O.look
    obtain ⟨rest, hrec⟩ := hp.rec_
    have I1 := I.tok (sh.toks + 1)
    have hcl : (PySem.W.clsIn X.K C).isSome = true := by
      obtain ⟨cd, hc, _⟩ := PySem.W.any_some c.hd
      rw [hc]
      rfl
    have b0 := hb { sh with toks := sh.toks + 1 } [.ref b] I1.kIn (by simpa using hn)
    rw [List.append_nil] at b0
    refine PySem.W.get_bind I.kIn J (PySem.W.plainGet_of (c.get f)).1 (PySem.W.findObj_data hcl hp.at_ hp.get hp.tak) (PySem.W.plainGet_of (c.get f)).2 (wpAny_call (PySem.W.prop_get (s := { sh with toks := sh.toks + 1 }) I.kIn hrec ?_))
    refine codeAny_mono (F X.A.in1 X.stack { sh with toks := sh.toks + 1 } H ⟨[.ref b], []⟩ [.ref b] [.ref b] Q (fun _ _ _ => False) _ hr.in1 I1.env0.in1 b0 (.cons rfl .nil) (by simpa using hn) (cells_in I1 R) ⟨θ, S, s.mu, [.obj n], R.rs, .cons (.obj ht) .nil, noX_post (PostR.toF R h)⟩) fun r s' hq => ?_
    cases r with
    | error er => exact (never_CX I1 hq).elim
    | ok fl =>
      cases fl with
      | ret u =>
        obtain ⟨v, H', I3, rv, q3⟩ := I1.after hq
        show wpAny _ _ (handedOut u) _ _ _
        rw [PySem.W.handedOut_of (handed_of rv)]
        exact wpAny_pure ⟨v, H', I3, rv, q3⟩
      | next => exact False.elim hq
      | brk => exact False.elim hq
      | cont => exact False.elim hq
  · rw [hl [.obj n] s.mu hn] at h
    exact h.elim
/-- what a class must have for a property -/
def PrpOk (K : PySem.W.Frag) (G : GT) (ms : List (Nat × Nat)) (f : Str) : Prop := ∀ c j, ms.lookup c = some j → ∀ A, G.cls c = some A → ∃ q g, G.addr j = some g ∧ Cls K A ∧ PropOf K A f q g
theorem sd_prop (L : Lv X.prog X.w X.K X.mg X.base G KW k Φ) (hr : Room (2 * k + 2) X.A) (tk : Takes X W) (hm : PrpOk X.K G ms f) (hb : attributeBase a f X.env (eval a X.env) = eval a X.env) (ha : PE X a (tD X G En C0 W (ev Φ ia))) :
    PE X (.Attribute a f pos) (tD X G En C0 W (ev Φ (.prop ia ms))) := by
  refine ⟨fun pins sh σ H Q I ⟨θ, S, s, R, h⟩ => ?_⟩
  unfold ev at h
  refine attr_of hb (thn (ha.run pins sh σ H (fun v H1 => ∃ θ1 S1 s1 p, Rel X G En C0 θ1 S1 H1 s1 σ ∧ RepV X.K G.toFT (CC X C0 σ s1.cap) θ1 S1 p v ∧ PostR X G En C0 W θ1 S1 H1 σ (match insOf s1.mu p with
    | some (n, c, _) => (match ms.lookup c with
      | some f => DR.ofF (noX (Φ f [.obj n] s1.mu)) s1
      | none => .bad)
    | none => .bad) fun p s' θ' S' H' => ∀ v, RepV X.K G.toFT (CC X C0 σ s'.cap) θ' S' p v → Q v H') I
      ⟨θ, S, s, R, (PostR.bind h).imp fun p s1 θ1 S1 H1 q1 e1 R1 h1 v rv => ⟨θ1, S1, s1, p, R1, rv, h1⟩⟩) fun u sh1 ⟨v, H1, I1, rx, θ1, S1, s1, p, R1, rv, h1⟩ => ?_)
  split at h1
  · rename_i n c fs hi
    split at h1
    · rename_i j l1
      obtain ⟨rfl, hmu⟩ := insOf_eq hi
      cases rv with
      | obj ht =>
        rename_i la
        obtain rfl : u = Value.ref la := rx
        obtain ⟨A, dx, vs, g, hH, rf⟩ := R1.rs.objI hmu ht
        obtain ⟨q, g', hja, c1, c2⟩ := hm c j l1 A g
        exact prop_at L hr tk hja I1 hH c1 c2 R1 ht h1
    · exact h1.elim
  · exact h1.elim
/-- what a class must have to be made -/
def NewOk (K : PySem.W.Frag) (mg : Str → Option Value) (G : GT) (c j : Nat) (x : Str) : Prop := ∃ A f, G.cls c = some A ∧ mg x = some (.ref A) ∧ G.addr j = some f ∧ Mk K A f
theorem newF_post {C : Cells} {n : Nat} {la : Addr} {r : FR} {Q : VK} (R : Rel X G En C0 θ S H s σ) (ht : θ'[n]? = some la) (e0 : Ste θ S H θ' S' H')
    (h : PostR X G En C0 W θ S H σ (newF n r s) fun p s' θ' S' H' => ∀ v, RepV X.K G.toFT (CC X C0 σ s'.cap) θ' S' p v → Q v H') : PostF X.K G C θ' S' H' r (fun v H2 => v = .non ∧ Q (.ref la) H2) (WE W σ) := by
  cases r with
  | ok v mu =>
    cases v <;> first | exact h.elim | skip
    intro θ2 S2 H2 v e2 rs2 rv
    cases rv
    exact ⟨rfl, h θ2 S2 H2 (e0.trans e2) (R.step (e0.trans e2) rs2) _ (.obj (e2.pre.get ht))⟩
  | exc c fs mu => exact fun θ2 S2 H2 cls d e2 rs2 rx => h θ2 S2 H2 cls d (e0.trans e2) (R.step (e0.trans e2) rs2) rx
  | bad => exact h.elim
theorem sd_new {c j : Nat} (L : Lv X.prog X.w X.K X.mg X.base G KW k Φ) (hr : Room (2 * k + 2) X.A) (tk : Takes X W) (hm : NewOk X.K X.mg G c j x) (hg : Gl X x) (hd : (x == ("__debug__" : Str)) = false) (hks : kwNames kws = some ks) (hkw : ks = [] ∨ (j, es.length + 1, ks) ∈ KW)
    (hl1 : lenE is = es.length) (hl2 : lenE js = ks.length) (hs : ∀ e ∈ es, ∀ x p, e ≠ .Starred x p) (ha : PA X es (tDs X G En C0 W (evs Φ is))) (hp : PK X kws (tDs X G En C0 W (evs Φ js))) :
    PE X (.Call (.Name x p) es kws pos) (tD X G En C0 W (ev Φ (.new c j (is.app js)))) := by
  obtain ⟨A, fa, gA, hmA, hja, M⟩ := hm
  refine ⟨fun pins sh σ H Q I ⟨θ, S, s, R, h⟩ => ?_⟩
  unfold ev at h
  refine wpAny_Call_Name_kw (ld_glob I hg hmA ?_ hd)
  refine args_run (first := []) M.kp hs hks hl1 hl2 ha hp I R h fun us ws vs zs sh2 H2 θ2 S2 s2 xs I2 r r2 lu lw e2 le2 R2 rl h2 => ?_
  split at h2
  · rename_i hpl
    rw [List.nil_append]
    obtain ⟨hk, fd, pn, hb, F, hl, kb⟩ := L.go j fa hja
    have n1 : H2 sh2.heap.objs.size = none := I2.hok.fresh (Nat.le_refl _)
    have n2 : H2 (sh2.heap.objs.size + 1) = none := I2.hok.fresh (Nat.le_succ _)
    have ne : sh2.heap.objs.size + 1 ≠ sh2.heap.objs.size := Nat.succ_ne_self _
    have I3 := Inv.made (C := A) I2
    have n3 : upd H2 sh2.heap.objs.size (.own (sh2.heap.objs.size + 1)) (sh2.heap.objs.size + 1) = none := by rw [upd_ne ne]; exact n2
    have st := (Ste.junk (θ := θ2) (S := S2) (o := .own (sh2.heap.objs.size + 1)) n1).trans (Ste.junk (o := .ins A sh2.heap.objs.size []) n3)
    have R3 := R2.step st ((R2.rs.junk n1).junk n3)
    obtain ⟨nS, nt⟩ := R2.rs.noS n2
    obtain ⟨e3, R4⟩ := Rel.share (a := sh2.heap.objs.size + 1) (u := .ins c []) R2 (LeS.refl _) R3 st n2 nS nt (.ins gA upd_same .nil)
    have ht : (θ2 ++ [sh2.heap.objs.size + 1])[s2.mu.length]? = some (sh2.heap.objs.size + 1) := by
      rw [← R2.rs.len]
      simp
    by_cases hn : (PV.obj s2.mu.length :: xs).length = pn.length
    · have rl' : RepL X.K G.toFT (CC X C0 σ s2.cap) (θ2 ++ [sh2.heap.objs.size + 1]) S2 (.obj s2.mu.length :: xs) (.ref (sh2.heap.objs.size + 1) :: (vs ++ zs)) := .cons (.obj ht) (RepL.mono (Gr.refl _) ⟨_, rfl⟩ (fun _ _ z => z) rl)
      have rv : Vals (V.ref (sh2.heap.objs.size + 1) :: (vs ++ zs)) (Value.ref (sh2.heap.objs.size + 1) :: (us ++ ws)) := .cons rfl (r.append r2)
      have hlen : (Value.ref (sh2.heap.objs.size + 1) :: us).length + ws.length = pn.length := by
        have e1 := rl'.length
        have e2 := rv.length
        rw [hn] at e1
        simp only [List.length_cons, List.length_append] at e1 e2 ⊢
        omega
      have b0 : BindsTo { sh2 with heap := (sh2.heap.push PySem.W.emptyDict).push (PySem.W.instObj A sh2.heap.objs.size) } fd ⟨.ref (sh2.heap.objs.size + 1) :: us, ks.zip ws⟩ (pn.zip (.ref (sh2.heap.objs.size + 1) :: (us ++ ws))) := by
        rcases hkw with h0 | hkw
        · subst h0
          have : ws = [] := by simpa using lw
          subst this
          have := hb { sh2 with heap := (sh2.heap.push PySem.W.emptyDict).push (PySem.W.instObj A sh2.heap.objs.size) } (.ref (sh2.heap.objs.size + 1) :: us) I3.kIn (by simpa using hlen)
          rw [List.append_nil] at this
          rw [List.append_nil]
          exact this
        · exact kb (es.length + 1) ks hkw _ (.ref (sh2.heap.objs.size + 1) :: us) ws (by simp [lu]) lw hlen
      refine wpAny_call (make_map (f := fa) I2.kIn M.makes M.init (beq_iff_eq.mp M.fn) (codeAny_mono (F _ X.stack _ _ ⟨.ref (sh2.heap.objs.size + 1) :: us, ks.zip ws⟩ (.ref (sh2.heap.objs.size + 1) :: (us ++ ws)) _ (fun v H2 => v = .non ∧ Q (.ref (sh2.heap.objs.size + 1)) H2) (WE W σ) (CC X C0 σ s2.cap) (hr.make A us (ks.zip ws))
        (I3.env0.make A us (ks.zip ws)) b0 rv (by rw [← rl'.length, hn]) (cells_in (s := { s2 with mu := s2.mu ++ [SO.ins c []] }) I3 R4) ⟨_, S2, _, _, R4.rs, rl', ?_⟩) fun r s' hq' => ?_))
      · exact newF_post R2 ht e3 h2
      · cases r with
        | error e => exact passAt tk σ pins _ _ e s' I3 hq'
        | ok fl =>
          cases fl with
          | ret u =>
            obtain ⟨v, H', I4, rv, ev, q3⟩ := I3.after hq'
            subst ev
            exact ⟨rv, ⟨V.ref (sh2.heap.objs.size + 1), H', I4, rfl, q3⟩⟩
          | next => exact False.elim hq'
          | brk => exact False.elim hq'
          | cont => exact False.elim hq'
    · rw [hl _ _ hn] at h2
      exact h2.elim
  · exact h2.elim
end
end TL

set_option linter.all false
set_option maxRecDepth 100000
set_option maxHeartbeats 4000000
/-! TLExc: errors of own classes, raised. Own work. -/
namespace TL
open PySem PySem.Spec PyProof.Rows L2 NdefX LamX
/-- an own class over ValueError, by its object -/
def oexB (K : PySem.W.Frag) (C : Addr) : Bool := match K.lookup C with
  | some ⟨.type "type", _, .cls cd, sl⟩ => (match cd.mro, sl.toList with
    | .ref C' :: bm, [_, _, _, _, some (.builtin n), _] => C' == C && n == "ValueError.__new__" && !cd.hasDel && cd.hasDict && PySem.HandSPX.refsVE bm
    | _, _ => false)
  | _ => false
theorem oexB_ok {K : PySem.W.Frag} {C : Addr} (q : oexB K C = true) : ∃ nm q N bs bm sn sub ab col dd k0 k1 k2 k3 k5, K.lookup C = some (excClassObj nm q C N bs bm true sn sub ab col dd k0 k1 k2 k3 k5 "ValueError.__new__") ∧ PySem.HandSPX.refsVE bm = true := by
  unfold oexB at q
  split at q
  · rename_i dd cd sl ho
    split at q
    · rename_i C' bm k0 k1 k2 k3 n k5 hm hs
      simp only [Bool.and_eq_true, beq_iff_eq, Bool.not_eq_true'] at q
      obtain ⟨⟨⟨⟨rfl, rfl⟩, hdel⟩, hdct⟩, hbm⟩ := q
      obtain ⟨nm, bs, mro, ns, qn, hd, sn, sub, ab, col, del⟩ := cd
      dsimp only at hm hdel hdct
      subst hm hdel hdct
      have hsl : sl = #[k0, k1, k2, k3, some (.builtin "ValueError.__new__"), k5] := by
        obtain ⟨l⟩ := sl
        simp only at hs
        rw [hs]
      subst hsl
      exact ⟨nm, qn, ns, bs, bm, sn, sub, ab, col, dd, k0, k1, k2, k3, k5, ho, hbm⟩
    · cases q
  · cases q
section
variable {X : Cx} {C : Addr} {x : Str} {p pos : Pos}
/-- X(), X an own class over ValueError without an own __init__ -/
theorem pmk_own0 {bmB : List Value} {B newId initId : String} (F : ExcBaseFacts B newId initId bmB) (q : PySem.W.excIn X.K C bmB newId = true) (gC : X.mg x = some (.ref C)) (kC : PySem.W.keepIn X.K (.ref C) = true) (r : Raises X (.ref C)) (hg : Gl X x) (hdb : (x == ("__debug__" : Str)) = false) :
    PMk X (.Call (.Name x p) [] [] pos) (fun _ H Q => Q (.ref C) none H) := by
  intro pins s σ H Q I h
  refine wpAny_Call_Name_kw (ld_glob I hg gC ?_ hdb)
  refine PySem.W.callWith_K0 I.kIn kC ?_
  show wpAny _ _ (call (.ref C) []) _ _ _
  obtain ⟨bm, N, nm, qn, bs, hdct, sn, sub, ab, col, dd, k0, k1, k2, k3, k5, mN, hC, hN, hni, T⟩ := exc_obj I.kIn q
  refine wpAny_call_exc_subT F T hC hN hni (fun h' e hm => ?_) (by show 0 ≤ sizeLine; omega)
  exact mk_of I hm r h (I.hok.gone hm.new)
end
/-- what an __init__ that keeps its argument promises -/
theorem fn_init {CX : CXT} {P : Program} {w : World} {K : PySem.W.Frag} {mg : Str → Option Value} {base : Heap} {k : Nat} {fa C : Addr} {name qual f : Str} {params : Arguments} {body : List Stmt} {scope : Scope} {dV kV doc pm cdv ct oc : Value} {an od : Option Addr}
    {osl : Array (Option Value)} {p1 p2 p3 p4 : Pos} (lk : K.lookup fa = some ⟨oc, od, .func (PySem.W.fnOf name qual params body scope dV kV doc pm an cdv ct), osl⟩) (hcd : PySem.W.codeIn K cdv qual = true) (S : FnScope ["self", f] ["self", f] scope)
    (hb : body = [.Assign [.Attribute (.Name "self" p1) f p2] (.Name f p3) p4]) (hf : (f == ("__debug__" : Str)) = false ∧ (f == ("__classdict__" : Str)) = false) (T : OexC K C) (n : PySem.W.findIn K (.ref C) f = some none) :
    FnOk P w K mg base CX (k + 1) fa (PySem.W.fnOf name qual params body scope dV kV doc pm an cdv ct) ["self", f] (inSp K C f) := by
  refine fn_of lk hcd S (fun vs H Q E h => ?_) (fun A outer s H vs Q E hr h => ?_)
  · obtain ⟨a, v, e, _⟩ := h
    rw [e]
    rfl
  · obtain ⟨a, v, e, ea, q⟩ := h
    subst e
    subst hb
    have vis : ∀ y ∈ (["self", f] : List Str), Vis scope y := fun y hy => (S.par y hy).elim (fun z => .inl z) fun z => .inr (.inl z)
    refine ⟨_, pss_one (ps_ost (pe_var (i := 0) rfl (vis _ (List.Mem.head _)) (by decide) (by decide)) (pe_var (i := 1) rfl (vis _ (.tail _ (List.Mem.head _))) hf.1 hf.2) rfl), ?_⟩
    exact ⟨v, rfl, .ref a, rfl, a, C, rfl, T, n, .inl ⟨ea, q⟩⟩
section
variable {X : Cx} {G : GT} {En : Ent} {C0 : Cells} {W : WX} {θ θ' : List Addr} {S S' H H' : Hp} {σ : L2.St} {s : DS} {Φ : Phi} {KW : List (Nat × Nat × List Str)} {Ex : Exc}
variable {e : Expr} {ie : IE} {x f : Str} {pos p cpos : Pos} {c : Nat}
/-- raise X() -/
theorem ss_raise0 {A : Addr} (hc : X.calm = true) (tk : Takes X W) (gA : G.xcl c = some A) (q : PySem.W.excIn X.K A He.veBase "ValueError.__new__" = true) (gC : X.mg x = some (.ref A)) (kC : PySem.W.keepIn X.K (.ref A) = true) (r : Raises X (.ref A)) (hg : Gl X x) (hdb : (x == ("__debug__" : Str)) = false) :
    PS X (.Raise (some (.Call (.Name x p) [] [] cpos)) none pos) (tS X G En C0 W (ex Φ Ex (.raise c [] .nil))) :=
  (ps_raise hc tk (pmk_own0 PySem.F.excBase_ValueError q gC kC r hg hdb)).wk fun D σ H ⟨θ, S, s, R, h⟩ =>
    h θ S H σ _ _ R ⟨A, gA, rfl, .inl ⟨rfl, rfl⟩⟩
/-- raise X(e) -/
theorem ss_raise1 {A fI : Addr} {fd : FuncData} {k : Nat} (hc : X.calm = true) (tk : Takes X W) (hr : Room (k + 1) X.A) (gA : G.xcl c = some A) (T : OexC X.K A) (iC : PySem.W.findIn X.K (.ref A) "__init__" = some (some (.ref fI))) (tI : PySem.W.typeIn X.K (.ref fI) = some (.type "function"))
    (F1 : FnOk X.prog X.w X.K X.mg X.base (L2.CX X.prog X.w) k fI fd ["self", f] (inSp X.K A f)) (hb : Binds X.K fd ["self", f] []) (hg : Gl X x) (hm : X.mg x = some (.ref A)) (hdb : (x == ("__debug__" : Str)) = false)
    (hs : ∀ y q, e ≠ .Starred y q) (he : PE X e (tD X G En C0 W (ev Φ ie))) : PS X (.Raise (some (.Call (.Name x p) [e] [] cpos)) none pos) (tS X G En C0 W (ex Φ Ex (.raise c [f] (.cons ie .nil)))) :=
  (ps_raise hc tk (pmk_oex (CX := L2.CX X.prog X.w) (ds := []) (dvs := []) T iC tI F1 hr hb .nil (fun pins σ H s e s' I h => (never_CX I h).elim) hg hm (pa_cons he pa_nil (star_plain hs)) hdb (star_plain hs) rfl)).wk fun D σ H ⟨θ, S, s, R, h⟩ => by
    unfold ex at h
    refine ⟨θ, S, s, R, (PostS.exprs (d := ev Φ ie s) (f := fun v s => if plains [v] = true ∧ [v].length = [f].length then .exc c ([f].zip [v]) s else .bad) (by
      have e : (evs Φ (.cons ie .nil) s).thn (fun vs s => if plains vs = true ∧ vs.length = [f].length then SR.exc c ([f].zip vs) s else .bad) = (ev Φ ie s).thn fun v s => if plains [v] = true ∧ [v].length = [f].length then .exc c ([f].zip [v]) s else .bad := by
        show ((ev Φ ie s).bind fun v s => DR.ok [v] s).thn _ = _
        cases ev Φ ie s <;> rfl
      rw [e] at h
      exact h)).imp fun v s1 θ1 S1 H1 q1 e1 R1 h1 u ru => ?_⟩
    have le1 := ev_grow Φ ie s v s1 q1
    replace h1 := h1 le1
    split at h1
    · rename_i hq
      have hpl : v.plain = true := by simpa [plains] using hq.1
      refine ⟨by simp, fun a na => ⟨a, u, rfl, upd_same, fun dx n1 n2 => ⟨rfl, dx, [(f, u)], upd_same, ?_, ?_, ?_⟩⟩⟩
      · rw [upd_ne n2, upd_same]
      · rw [upd_ne n2] at n1; exact n1
      · rw [upd_ne n2] at n1
        have eH : upd (del (upd (upd (upd H1 a (exo a A none)) dx (exd dx [(f, u)])) a (exo a A (some dx))) a) dx (.xd [(f, u)]) = upd H1 dx (.xd [(f, u)]) := by
          funext b
          by_cases e : b = dx
          · rw [e, upd_same, upd_same]
          · rw [upd_ne e, upd_ne e]
            by_cases e2 : b = a
            · rw [e2, del_same, na]
            · rw [del_ne e2, upd_ne e2, upd_ne e, upd_ne e2]
        rw [eH]
        exact h1 θ1 S1 _ σ _ _ (R1.step (Ste.junk n1) (R1.rs.junk n1)) ⟨A, gA, rfl, .inr ⟨dx, [(f, u)], rfl, upd_same, .cons (RepV.free ru hpl) .nil⟩⟩
    · exact h1.elim
end
end TL

set_option linter.all false
set_option maxRecDepth 100000
set_option maxHeartbeats 4000000
/-! TLTry: try, except, what is asked of a caught error. Own work. -/
namespace TL
open PySem PySem.Spec PyProof.Rows L2 NdefX LamX
/-- what a class of errors must have in an except suite -/
def DictAt (d : Option Addr) (H : Hp) : Prop := d = none ∨ ∃ dx vs, d = some dx ∧ H dx = some (.xd vs)
section
variable {X : Cx} {a D : Addr} {oe : Obj} {pn : List (Addr × Obj)} {d : Option Addr} {p p1 p2 pos : Pos} {n C : Str}
/-- isinstance(e, c), e the error that is handled -/
def rIsX (K : PySem.W.Frag) (D a : Addr) (d : Option Addr) : List V → Hp → VK → Prop := fun xs H Q => ∃ (c : V) (cv : Value) (b : Bool), xs = [.ref a, c] ∧ (∀ u, RelV c u → u = cv) ∧ PySem.W.kitOne K (.ref D) cv = some b ∧ DictAt d H ∧ Q (.bl b) H
theorem call_isX (C : ExcS X.K D) (hz : Zc (.ref D) d oe) (hf : ∃ vs, oe.data = .fields vs) : CallR (X.suite a ((a, oe) :: pn)) (.builtin "isinstance") (rIsX X.K D a d) := by
  intro pins s σ H xs us Q I r h
  obtain ⟨c, cv, b, rfl, hcv, e, hd, q⟩ := h
  cases r with
  | cons rx rr =>
    cases rr with
    | cons rt rr =>
      cases rr
      cases rx
      have ec := hcv _ rt
      subst ec
      obtain ⟨hget, _⟩ := I.pin (a, oe) (List.mem_append.mpr (.inl List.mem_cons_self))
      obtain ⟨vs, hv⟩ := hf
      have J : ∃ od, PySem.W.InstAt s.heap a oe D od := by
        rcases hd with rfl | ⟨dx, ws, rfl, hx⟩
        · exact ⟨none, hget, hz.1, (by unfold PySem.W.notCls; rw [hv] <;> rfl), (by rw [hz.2]; trivial)⟩
        · have hx : ObjOk X.prog X.w H s.heap dx (.xd ws) := I.hok dx _ hx
          obtain ⟨mA, hns, hr⟩ := hx
          obtain ⟨od, ho, hl⟩ := lookIn_ns hns
          exact ⟨some od, hget, hz.1, (by unfold PySem.W.notCls; rw [hv] <;> rfl), (by rw [hz.2]; exact ho)⟩
      obtain ⟨od, J⟩ := J
      exact PySem.W.kia_one (PySem.W.kitx_exc C.cl C.xf.ga C.xf.gg C.xf.exC C.ha C.hn C.ht C.hm) I.kIn J e (fun z => nomatch z) fun tk => ⟨.bl b, H, I.kept (t' := tk) fun _ _ z => z, rfl, q⟩
end
section
variable {X : Cx} {G : GT} {En : Ent} {C0 : Cells} {W : WX} {θ θ' : List Addr} {S S' H H' : Hp} {σ : L2.St} {s : DS} {Φ : Phi} {KW : List (Nat × Nat × List Str)} {Ex : Exc}
theorem xd_stays {dx : Addr} {vs : List (Str × V)} (e : Ste θ S H θ' S' H') (h : H dx = some (.xd vs)) (n : dx ∉ θ) : H' dx = some (.xd vs) := by
  rcases e.kp dx _ h n (fun _ z => by cases z) with h | ⟨_, o', h, l⟩
  · exact h
  · rcases l with rfl | ⟨_, z⟩
    · exact h
    · rcases z with ⟨_, z⟩ | ⟨_, z⟩ <;> cases z
theorem evs_ints : ∀ (ns : List Nat) (s : DS), evs Φ (intsE ns) s = .ok (ns.map fun (n : Nat) => .int n) s
  | [], _ => rfl
  | n :: ns, s => by
    show (DR.ok (PV.int n) s).bind (fun x s => (evs Φ (intsE ns) s).bind fun xs s => .ok (x :: xs) s) = _
    show (evs Φ (intsE ns) s).bind (fun xs s => .ok (PV.int n :: xs) s) = _
    rw [evs_ints ns s]
    rfl
theorem any_ints {c : Nat} : ∀ ns : List Nat, ((ns.map fun (n : Nat) => PV.int n).any fun x => match x with
    | .int i => decide (i = (c : Int))
    | _ => false) = decide (c ∈ ns)
  | [] => by simp
  | n :: ns => by
    have := any_ints (c := c) ns
    simp only [List.map_cons, List.any_cons, List.mem_cons]
    rw [this]
    by_cases e : n = c
    · simp [e]
    · have e2 : ¬ ((n : Int) = (c : Int)) := by omega
      simp [e2, Ne.symm e]
theorem excF_i {Φ0 : Phi} {c : Nat} {fs : List (Str × PV)} {xs : List PV} {mu : List SO} : excF Φ0 c fs EXI xs mu = .ok (.bl (xs.any fun x => match x with
    | .int i => decide (i = c)
    | _ => false)) mu := by
  unfold excF
  rw [if_pos rfl]
  all_goals rfl
theorem excF_f {Φ0 : Phi} {c : Nat} {fs : List (Str × PV)} {f : Str} {mu : List SO} : excF Φ0 c fs EXF [.str f] mu = (match fs.lookup f with
      | some v => .ok v mu
      | none => .bad) := by
  unfold excF
  rw [if_neg (by decide), if_pos rfl]
  all_goals rfl
variable {xs cs : List Nat} {i : Nat} {n f : Str} {p p1 p2 pos : Pos} {ec : Expr}
theorem sd_excF (hot : HotS X G En Φ i xs) (hx : ∀ c ∈ xs, ∀ A, G.xcl c = some A → XfC X.K A ∧ PySem.W.findIn X.K (.ref A) f = some none) (hN : X.N[i]? = some n) (hv : Vis X.env.scope n) (hd : (n == ("__debug__" : Str)) = false) (hcd : (n == ("__classdict__" : Str)) = false) :
    PE X (.Attribute (.Name n p) f pos) (tD X G En C0 W (ev Φ (.call EXF (.cons (.str f) .nil)))) := by
  obtain ⟨X0, a, oe, pn, c, A, d, fs, Φ0, rfl, hz, hf, hc, gA, rfl, hfx, hdd⟩ := hot.ex
  obtain ⟨T, hno⟩ := hx c hc A gA
  refine (pe_xf (X := X0) T hno hz hf (pe_var (i := i) hN hv hd hcd) (recv_base rfl _ _ _)).wk fun σ H Q ⟨θ, S, s, R, h⟩ => ?_
  have h : PostR (X0.suite a ((a, oe) :: pn)) G En C0 W θ S H σ (DR.ofF (excF Φ0 c fs EXF [.str f] s.mu) s) fun p s' θ' S' H' => ∀ v, RepV X0.K G.toFT (CC (X0.suite a ((a, oe) :: pn)) C0 σ s'.cap) θ' S' p v → Q v H' := h
  rw [excF_f] at h
  have hσ := (R.fxd _ hfx).2
  cases l : fs.lookup f with
  | none => rw [l] at h; exact h.elim
  | some v =>
    rw [l] at h
    rcases hdd with ⟨rfl, _⟩ | ⟨dx, vs, rfl, hH, hnt, rf⟩
    · cases l
    · rcases rf.look (f := f) with ⟨l1, _⟩ | ⟨q, u, l1, l2, ru⟩
      · rw [l] at l1; cases l1
      · rw [l] at l1; cases l1
        exact ⟨.ref a, hσ, rfl, rfl, dx, vs, u, rfl, xd_stays R.en hH hnt, l2, h θ S H (Ste.refl _ _ _) R u (unC (RepV.mono R.en.sS R.en.pre (fun _ _ z => z) ru))⟩
theorem sd_excIs {cv : V} {cw : Value} (hot : HotS X G En Φ i xs) (hx : ∀ c ∈ xs, ∀ A, G.xcl c = some A → ExcS X.K A ∧ PySem.W.kitOne X.K (.ref A) cw = some (decide (c ∈ cs))) (hcv : ∀ w, RelV cv w → w = cw) (hg : Gl X "isinstance") (hm : X.mg "isinstance" = none) (hec : PE X ec (tC cv)) (hs : ∀ x p, ec ≠ .Starred x p)
    (hN : X.N[i]? = some n) (hv : Vis X.env.scope n) (hd : (n == ("__debug__" : Str)) = false) (hcd : (n == ("__classdict__" : Str)) = false) : PE X (.Call (.Name "isinstance" p) [.Name n p1, ec] [] pos) (tD X G En C0 W (ev Φ (.call EXI (intsE cs)))) := by
  obtain ⟨X0, a, oe, pn, c, A, d, fs, Φ0, rfl, hz, hf, hc, gA, rfl, hfx, hdd⟩ := hot.ex
  obtain ⟨T, hk⟩ := hx c hc A gA
  refine (pe_callB (call_isX (X := X0) T hz hf) hg hm boot_isinstance (pa_cons (pe_var (i := i) hN hv hd hcd) (pa_cons hec pa_nil (star_plain hs)) (star_plain fun x p => by simp)) (by decide) (by decide) (star_plain fun x p => by simp) (by rw [star_plain hs]; rfl)).wk fun σ H Q ⟨θ, S, s, R, h⟩ => ?_
  have h : PostR (X0.suite a ((a, oe) :: pn)) G En C0 W θ S H σ ((evs (excF Φ0 c fs) (intsE cs) s).bind fun xs s => DR.ofF (excF Φ0 c fs EXI xs s.mu) s) fun p s' θ' S' H' => ∀ v, RepV X0.K G.toFT (CC (X0.suite a ((a, oe) :: pn)) C0 σ s'.cap) θ' S' p v → Q v H' := h
  rw [evs_ints] at h
  have h : PostR (X0.suite a ((a, oe) :: pn)) G En C0 W θ S H σ (DR.ofF (excF Φ0 c fs EXI (cs.map fun (n : Nat) => PV.int n) s.mu) s) fun p s' θ' S' H' => ∀ v, RepV X0.K G.toFT (CC (X0.suite a ((a, oe) :: pn)) C0 σ s'.cap) θ' S' p v → Q v H' := h
  rw [excF_i, any_ints] at h
  refine ⟨.ref a, (R.fxd _ hfx).2, cv, cw, decide (c ∈ cs), rfl, hcv, hk, ?_, h θ S H (Ste.refl _ _ _) R _ (.bl _)⟩
  rcases hdd with ⟨_, rfl⟩ | ⟨dx, vs, rfl, hH, hnt, rf⟩
  · exact .inl rfl
  · exact .inr ⟨dx, vs, rfl, xd_stays R.en hH hnt⟩
theorem RS.noXd {K : PySem.W.Frag} {mu : List SO} {dx : Addr} {vs : List (Str × V)} (r : RS K G θ S H mu) (h : H dx = some (.xd vs)) : dx ∉ θ := fun hm => by
  obtain ⟨j, hj, ej⟩ := List.mem_iff_getElem.mp hm
  have hmu : j < mu.length := by rw [← r.len]; exact hj
  have := r.obj j mu[j] dx (List.getElem?_eq_getElem hmu) (by rw [List.getElem?_eq_getElem hj, ej])
  generalize mu[j] = o at this
  cases this with
  | lst q _ => rw [h] at q; cases q
  | dct q _ => rw [h] at q; cases q
  | ins _ q _ => rw [h] at q; cases q
theorem Rel.toTr {pn : List (Addr × Obj)} {xe : Value → Shared → Prop} (R : Rel X G En C0 θ S H s σ) : Rel (X.tr pn xe) G En C0 θ S H s σ := ⟨R.rs, R.en, R.c0, R.len, R.len2, R.slot, R.own, R.dis, R.fxd⟩
theorem Rel.ofTr {pn : List (Addr × Obj)} {xe : Value → Shared → Prop} (R : Rel (X.tr pn xe) G En C0 θ S H s σ) : Rel X G En C0 θ S H s σ := ⟨R.rs, R.en, R.c0, R.len, R.len2, R.slot, R.own, R.dis, R.fxd⟩
theorem Rel.toSu {pn : List (Addr × Obj)} {a : Addr} (R : Rel X G En C0 θ S H s σ) : Rel (X.suite a pn) G En C0 θ S H s σ := ⟨R.rs, R.en, R.c0, R.len, R.len2, R.slot, R.own, R.dis, R.fxd⟩
theorem Rel.ofSu {pn : List (Addr × Obj)} {a : Addr} (R : Rel (X.suite a pn) G En C0 θ S H s σ) : Rel X G En C0 θ S H s σ := ⟨R.rs, R.en, R.c0, R.len, R.len2, R.slot, R.own, R.dis, R.fxd⟩
theorem PostS.toTr {r : SR} {D : Ends} {pn : List (Addr × Obj)} {xe : Value → Shared → Prop} (h : PostS X G En C0 W θ S s σ r D) : PostS (X.tr pn xe) G En C0 W θ S s σ r D := by
  cases r with
  | nx s1 => exact fun θ2 S2 H2 σ2 fw R => h θ2 S2 H2 σ2 fw R.ofTr
  | brk s1 => exact fun θ2 S2 H2 σ2 fw R => h θ2 S2 H2 σ2 fw R.ofTr
  | cont s1 => exact fun θ2 S2 H2 σ2 fw R => h θ2 S2 H2 σ2 fw R.ofTr
  | ret v s1 => exact fun θ2 S2 H2 σ2 u R rv => h θ2 S2 H2 σ2 u R.ofTr rv
  | exc c fs s1 => exact fun θ2 S2 H2 σ2 cls d R rx => h θ2 S2 H2 σ2 cls d R.ofTr rx
  | bad => exact h
theorem PostS.toSu {r : SR} {D : Ends} {pn : List (Addr × Obj)} {a : Addr} (h : PostS X G En C0 W θ S s σ r D) : PostS (X.suite a pn) G En C0 W θ S s σ r D := by
  cases r with
  | nx s1 => exact fun θ2 S2 H2 σ2 fw R => h θ2 S2 H2 σ2 fw R.ofSu
  | brk s1 => exact fun θ2 S2 H2 σ2 fw R => h θ2 S2 H2 σ2 fw R.ofSu
  | cont s1 => exact fun θ2 S2 H2 σ2 fw R => h θ2 S2 H2 σ2 fw R.ofSu
  | ret v s1 => exact fun θ2 S2 H2 σ2 u R rv => h θ2 S2 H2 σ2 u R.ofSu rv
  | exc c fs s1 => exact fun θ2 S2 H2 σ2 cls d R rx => h θ2 S2 H2 σ2 cls d R.ofSu rx
  | bad => exact h
/-- what an except suite asks -/
def tSu (X : Cx) (G : GT) (C0 : Cells) (Φ : Phi) (Ex : Exc) (cs : List Nat) (i : Nat) (isu : ISs) (a : Addr) (cls : Value) (d : Option Addr) : TS := fun D σ H => ∃ (c : Nat) (A : Addr) (fs : List (Str × PV)) (θ : List Addr) (S : Hp) (s : DS), cls = .ref A ∧ c ∈ cs ∧ G.xcl c = some A ∧
  ((fs = [] ∧ d = none) ∨ ∃ dx vs, d = some dx ∧ H dx = some (.xd vs) ∧ dx ∉ θ ∧ RepF X.K G.toFT noC θ S fs vs) ∧ Rel X G ⟨θ, S, H, [(i, a)]⟩ C0 θ S H s σ ∧ PostS X G ⟨θ, S, H, [(i, a)]⟩ C0 (fun _ _ _ _ => False) θ S s σ (exs (excF Φ c fs) Ex isu s) D
theorem ss_tryx {ib isu : ISs} {b0 : Stmt} {body su : List Stmt} {xc : Str} {cv : Value} {np pos' : Pos} (hfx : En.fx = []) (stk : X.stack = X.env :: X.outer) (frm : X.env.frame = some X.env.locals) (hN : X.N.Nodup) (hi : X.N[i]? = some n) (hln : X.env.kindOf n = some .local) (hc : Names X xc cv) (tk : Takes X W)
    (hcs : ∀ c A, G.xcl c = some A → PySem.W.exmOne X.K (.ref A) cv = some (decide (c ∈ cs)))
    (hb : ∀ (W' : WX) (pn : List (Addr × Obj)) (xe : Value → Shared → Prop), Takes (X.tr pn xe) W' → PassesOwn (model X.prog X.w) X.A X.env xe → PSs (X.tr pn xe) body (tS (X.tr pn xe) G En C0 W' (exs Φ Ex ib)))
    (hsu : ∀ (a : Addr) (oe : Obj) (pn : List (Addr × Obj)) (En' : Ent) (Φ' : Phi), HotS (X.suite a ((a, oe) :: pn)) G En' Φ' i cs → PSs (X.suite a ((a, oe) :: pn)) (b0 :: su) (tS (X.suite a ((a, oe) :: pn)) G En' C0 (fun _ _ _ _ => False) (exs Φ' Ex isu))) :
    PS X (.Try body [.ExceptHandler (some (.Name xc np)) (some n) (b0 :: su) pos'] [] [] pos) (tS X G En C0 W (ex Φ Ex (.tryx ib cs (some i) isu))) := by
  refine (ps_try_as (tb := fun W' => tS X G En C0 W' (exs Φ Ex ib)) (ts := tSu X G C0 Φ Ex cs i isu) stk frm hN hi hln hc tk (fun W' pn xe t po => (hb W' pn xe t po).wk fun D σ H ⟨θ, S, s, R, h⟩ => ⟨θ, S, s, R.toTr, PostS.toTr h⟩) (fun a oe cls d pn hz hf => ⟨fun pins sh σ H D I hh => ?_⟩)).wk fun D σ H ⟨θ, S, s, R, h⟩ => ⟨θ, S, s, R, ?_⟩
  · obtain ⟨c, A, fs, θ, S, s, rfl, hcc, gA, hd, R, h⟩ := hh
    exact (hsu a oe pn ⟨θ, S, H, [(i, a)]⟩ (excF Φ c fs) ⟨X, a, oe, pn, c, A, d, fs, Φ, rfl, hz, hf, hcc, gA, rfl, List.mem_singleton.mpr rfl, hd⟩).run pins sh σ H D I ⟨θ, S, s, R.toSu, PostS.toSu h⟩
  · unfold ex at h
    cases q : exs Φ Ex ib s with
    | nx s1 => rw [q] at h; exact h
    | brk s1 => rw [q] at h; exact h
    | cont s1 => rw [q] at h; exact h
    | ret v s1 => rw [q] at h; exact h
    | bad => rw [q] at h; exact h
    | exc c fs s1 =>
      rw [q] at h
      intro θ1 S1 H1 σ1 cls d R1 rx
      obtain ⟨A, gA, rfl, hx⟩ := id rx
      refine ⟨decide (c ∈ cs), hcs c A gA, fun hyes a na => ?_, fun hno => ?_⟩
      · have hcc : c ∈ cs := of_decide_eq_true hyes
        have h : PostS X G En C0 W θ S s σ (if c ∈ cs then (if i ∈ s1.cap ∨ s1.loc.length ≤ i ∨ s1.own ≠ [] then .bad else suEnd (exs (excF Φ c fs) Ex isu { s1 with loc := s1.loc.set i none, cap := i :: s1.cap })) else .exc c fs s1) D := h
        rw [if_pos hcc] at h
        split at h
        · exact h.elim
        · rename_i hq
          simp only [not_or, Nat.not_le, ne_eq, Decidable.not_not] at hq
          obtain ⟨hq1, hq2, hq3⟩ := hq
          have hlen : i < σ1.length := by rw [R1.len2, ← R1.len]; exact hq2
          have ccm : ∀ b v, CC X C0 σ1 s1.cap b v → CC X C0 (σ1.set i (some (.ref a))) (i :: s1.cap) b v := fun b v z => by
            rcases z with z | ⟨j, y, h1, h2, h3, h4, h5⟩
            · exact .inl z
            · refine .inr ⟨j, y, List.mem_cons_of_mem _ h1, h2, h3, h4, ?_⟩
              rw [List.getElem?_set_ne (fun z => hq1 (by rw [z]; exact h1))]
              exact h5
          refine ⟨c, A, fs, θ1, S1, { s1 with loc := s1.loc.set i none, cap := i :: s1.cap }, rfl, hcc, gA, ?_, ⟨R1.rs, Ste.refl _ _ _, R1.c0, by show (s1.loc.set i none).length = _; rw [List.length_set]; exact R1.len, by rw [List.length_set]; exact R1.len2, fun j w e1 e2 => ?_, fun j hj => ?_, fun j k b hj => ?_, fun p hp => ?_⟩, ?_⟩
          · rcases hx with hx | ⟨dx, vs, rfl, hH, rf⟩
            · exact .inl hx
            · exact .inr ⟨dx, vs, rfl, hH, R1.rs.noXd hH, rf⟩
          · have e1 : (s1.loc.set i none)[j]? = some (some w) := e1
            have hj : j ≠ i := fun z => by
              rw [z, List.getElem?_set_self hq2] at e1
              cases e1
            rw [List.getElem?_set_ne (Ne.symm hj)] at e1
            obtain ⟨v, f1, f2⟩ := R1.slot j w e1 e2
            exact ⟨v, by rw [List.getElem?_set_ne (Ne.symm hj)]; exact f1, RepV.mono (Gr.refl _) (Pre.refl _) ccm f2⟩
          · have hj : j ∈ s1.own := hj
            rw [hq3] at hj; cases hj
          · have hj : j ∈ s1.own := hj
            rw [hq3] at hj; cases hj
          · have := List.mem_singleton.mp hp
            subst this
            exact ⟨List.mem_cons_self, List.getElem?_set_self hlen⟩
          · cases q2 : exs (excF Φ c fs) Ex isu { s1 with loc := s1.loc.set i none, cap := i :: s1.cap } with
            | ret v s3 =>
              rw [q2] at h
              intro θ2 S2 H2 σ2 u R2 rv
              refine h θ2 S2 H2 σ2 u ⟨R2.rs, R1.en.trans R2.en, R2.c0, R2.len, R2.len2, R2.slot, fun j hj => ?_, R2.dis, fun p hp => by rw [hfx] at hp; cases hp⟩ rv
              obtain ⟨w, b, f1, f2, f3, f4, f5, f6⟩ := R2.own j hj
              exact ⟨w, b, f1, f2, f3, f4, none_of R1.en f5, f6⟩
            | _ => rw [q2] at h; exact h.elim
      · have hcc : c ∉ cs := of_decide_eq_false hno
        have h : PostS X G En C0 W θ S s σ (if c ∈ cs then (if i ∈ s1.cap ∨ s1.loc.length ≤ i ∨ s1.own ≠ [] then .bad else suEnd (exs (excF Φ c fs) Ex isu { s1 with loc := s1.loc.set i none, cap := i :: s1.cap })) else .exc c fs s1) D := h
        rw [if_neg hcc] at h
        exact h θ1 S1 H1 σ1 _ d R1 rx
end
end TL

set_option linter.all false
set_option maxRecDepth 100000
set_option maxHeartbeats 4000000
/-! TLMore: a starred tuple, list.count, list.index, bool(x), x is True, == of instances. Own work. -/
namespace TL
open PySem PySem.Spec PyProof.Rows L2 NdefX LamX
section
variable {X : Cx} {G : GT} {En : Ent} {C0 : Cells} {W : WX} {θ θ' : List Addr} {S S' H H' : Hp} {σ : L2.St} {s : DS} {Φ : Phi}
variable {a b e : Expr} {ia ib : IE} {is : IEs} {es : List Expr} {pos p apos p2 : Pos}
theorem star_each (es : List Expr) (env : Env) : starEach (.Starred a p :: es) env = (true, eval a env) :: starEach es env := rfl
theorem sd_tupS {k : Nat} (ha : PE X a (tD X G En C0 W (ev Φ ia))) (hes : PA X es (tDs X G En C0 W (evs Φ is))) : PE X (.Tuple (.Starred a p :: es) k pos) (tD X G En C0 W (ev Φ (.tupS ia is))) :=
  (pe_tup (StX.pa_star ha hes (star_each es X.env))).wk fun σ H Q ⟨θ, S, s, R, h⟩ => by
    unfold ev at h
    refine ⟨θ, S, s, R, (PostR.bind h).imp fun x s1 θ1 S1 H1 q1 e1 R1 h1 u ru => ?_⟩
    split at h1
    · rename_i xs
      obtain ⟨q, vs, rfl, hq, rl⟩ := ru.seqT R1.rs.same
      refine ⟨q, vs, rfl, .inl hq, θ1, S1, s1, R1, (PostR.bind h1).imp fun ys s2 θ2 S2 H2 q2 e2 R2 h2 ws rw' => ?_⟩
      split at h2
      · rename_i hz
        have rr := (RepL.mono e2.sS e2.pre (CC.mono (evs_grow Φ is s1 ys s2 q2).1) rl).append rw'
        refine ⟨?_, fun p np => fin_tup R2.rs np rr (R2.fin (C := noC) h2)⟩
        rw [List.length_append, ← rl.length, ← rw'.length]
        exact sz hz
      · exact h2.elim
    · exact h1.elim
/-! ### list.count, list.index -/
def rCntF (K : PySem.W.Frag) : V → List V → Hp → VK → Prop := fun x xs H Q => ∃ (q : Addr) (ys : List V) (y : V), x = .ref q ∧ xs = [y] ∧ SqL K H q ys ∧ flatV y = true ∧ ys.all flatV = true ∧ Q (.int (ys.countP (fun z => eqV z y) : Nat)) H
theorem count_vals {y : V} : ∀ {ys : List V} {us : List Value}, Vals ys us → ys.all flatV = true → us.countP (eqU y) = ys.countP fun z => eqV z y
  | _, _, .nil, _ => rfl
  | z :: ys, u :: us, .cons r t, f => by
    rw [List.all_cons, Bool.and_eq_true] at f
    rw [List.countP_cons, List.countP_cons, count_vals t f.2, eqU_of r f.1]
theorem mt_countF : MtR X "list.count" (rCntF X.K) := by
  intro pins s σ H x xs v us Q I rx rxs h
  obtain ⟨a, ys, y, rfl, rfl, hs, fy, fys, q⟩ := h
  cases rx
  cases rxs with
  | cons ry rt =>
    rename_i uy ut
    cases rt
    obtain ⟨its, rv, ⟨⟨cls, dd, data, sl⟩, n, ho, hc, hdn, hd⟩, hlen⟩ := I.list hs
    simp only at hc hd
    subst hc hd
    refine call_meets PySem.F.slot_list_count ⟨_, ho, rfl⟩ PySem.F.entry_list_count (PySem.F.args_list_count_2 _ _)
      (SeqAt.list_countAt a its.toArray n dd sl uy (eqU y)) ⟨ho, fun u' hu' => mem_eqAt ry fy rv fys u' (by simpa using hu'), ?_⟩
    have e : its.toArray.toList.countP (eqU y) = ys.countP fun z => eqV z y := by
      show its.countP (eqU y) = _
      exact count_vals rv fys
    refine ⟨.int (ys.countP (fun z => eqV z y) : Nat), H, I.tok _, ⟨s.toks, ?_⟩, q⟩
    show Value.int ((its.toArray.toList.countP (eqU y) : Nat) : Int) s.toks = _
    rw [e]
theorem rep_count {K : PySem.W.Frag} {G : FT} {C : Cells} {p : PV} {u : V} (q : RepV K G C θ S p u) (k : p.flat = true) : ∀ {x : List PV} {v : List V}, RepL K G C θ S x v → x.all PV.flat = true → v.countP (fun z => eqV z u) = x.countP fun y => eqP y p
  | _, _, .nil, _ => rfl
  | _, _, .cons h r, z => by
    simp only [List.all_cons, Bool.and_eq_true] at z
    rw [List.countP_cons, List.countP_cons, rep_count q k r z.2, h.eqP q z.1 k]
theorem sd_lcnt (hline : (apos.endLine == pos.line) = true) (hrec : recvB a = true) (hs : ∀ x p, b ≠ .Starred x p) (ha : PE X a (tD X G En C0 W (ev Φ ia))) (hb : PE X b (tD X G En C0 W (ev Φ ib))) :
    PE X (.Call (.Attribute a "count" apos) [b] [] pos) (tD X G En C0 W (ev Φ (.lcnt ia ib))) :=
  (pe_bm PySem.F.plainAttrs_list PySem.F.slot_list_count PySem.F.type_list_count mt_countF ha (pa_cons hb pa_nil (star_plain hs)) (recv_base hrec _ _ _) (by rw [star_plain hs]; rfl) hline (star_plain hs) (by rfl)).wk fun σ H Q ⟨θ, S, s, R, h⟩ => by
    unfold ev at h
    refine ⟨θ, S, s, R, (PostR.bind h).imp fun x s1 θ1 S1 H1 q1 e1 R1 h1 u ru => ?_⟩
    split at h1
    · rename_i xs
      obtain ⟨q, vs, rfl, hq, rl⟩ := ru.list R1.rs.same
      refine ⟨.inl ⟨rfl, _, .inl hq⟩, θ1, S1, s1, R1, (PostR.bind h1).imp fun y s2 θ2 S2 H2 q2 e2 R2 h2 w rw' => ?_⟩
      split at h2
      · rename_i hz
        simp only [Bool.and_eq_true] at hz
        obtain ⟨q', vs', e', hq', rl'⟩ := (RepV.mono e2.sS e2.pre (CC.mono (ev_grow Φ ib s1 y s2 q2).1) ru).list R2.rs.same
        cases e'
        refine ⟨q, vs', w, rfl, rfl, .inl hq', rw'.flat hz.2, rl'.flat hz.1, ?_⟩
        rw [rep_count rw' hz.2 rl' hz.1]
        exact R2.now h2 (.int _)
      · exact h2.elim
    · exact h1.elim
theorem sd_lidx (hline : (apos.endLine == pos.line) = true) (hrec : recvB a = true) (hs : ∀ x p, b ≠ .Starred x p) (ha : PE X a (tD X G En C0 W (ev Φ ia))) (hb : PE X b (tD X G En C0 W (ev Φ ib))) :
    PE X (.Call (.Attribute a "index" apos) [b] [] pos) (tD X G En C0 W (ev Φ (.lidx ia ib))) :=
  (pe_bm PySem.F.plainAttrs_list PySem.F.slot_list_index PySem.F.type_list_index mt_index ha (pa_cons hb pa_nil (star_plain hs)) (recv_base hrec _ _ _) (by rw [star_plain hs]; rfl) hline (star_plain hs) (by rfl)).wk fun σ H Q ⟨θ, S, s, R, h⟩ => by
    unfold ev at h
    refine ⟨θ, S, s, R, (PostR.bind h).imp fun x s1 θ1 S1 H1 q1 e1 R1 h1 u ru => ?_⟩
    split at h1
    · rename_i xs
      obtain ⟨q, vs, rfl, hq, rl⟩ := ru.list R1.rs.same
      refine ⟨.inl ⟨rfl, _, .inl hq⟩, θ1, S1, s1, R1, (PostR.bind h1).imp fun y s2 θ2 S2 H2 q2 e2 R2 h2 w rw' => ?_⟩
      split at h2
      · rename_i hz
        simp only [Bool.and_eq_true] at hz
        obtain ⟨q', vs', e', hq', rl'⟩ := (RepV.mono e2.sS e2.pre (CC.mono (ev_grow Φ ib s1 y s2 q2).1) ru).list R2.rs.same
        cases e'
        cases hf : xs.findIdx? fun x => eqP x y with
        | none => rw [hf] at h2; exact h2.elim
        | some j =>
          rw [hf] at h2
          obtain ⟨hj, hp, hno⟩ := List.findIdx?_eq_some_iff_getElem.mp hf
          obtain ⟨z, hz1, rz⟩ := rl'.get (List.getElem?_eq_getElem hj)
          have fl : ∀ x ∈ xs, x.flat = true := List.all_eq_true.mp hz.1
          refine ⟨q, vs', w, j, z, rfl, rfl, .inl hq', rw'.flat hz.2, rl'.flat hz.1, hz1, ?_, fun m z' hm hz' => ?_, R2.now h2 (.int _)⟩
          · rw [rz.eqP rw' (fl _ (List.getElem_mem hj)) hz.2]
            exact hp
          · obtain ⟨p', hp', rp⟩ := rl'.getV hz'
            have hm' : m < xs.length := by omega
            rw [List.getElem?_eq_getElem hm'] at hp'
            cases hp'
            rw [rp.eqP rw' (fl _ (List.getElem_mem hm')) hz.2]
            simpa using hno m hm
      · exact h2.elim
    · exact h1.elim
/-! ### x is True -/
theorem isB_key {neg k : Bool} {σ : L2.St} {H : Hp} {Q : VK} (h : tD X G En C0 W (ev Φ (.isB neg ia k)) σ H Q) : tD X G En C0 W (ev Φ ia) σ H fun x H1 => ∃ c : Bool, x = .bl c ∧ Q (.bl (if neg then !decide (c = k) else decide (c = k))) H1 := by
  obtain ⟨θ, S, s, R, h⟩ := h
  unfold ev at h
  refine ⟨θ, S, s, R, (PostR.bind h).imp fun x s1 θ1 S1 H1 q1 e1 R1 h1 u ru => ?_⟩
  split at h1
  · rename_i c
    cases ru
    refine ⟨c, rfl, ?_⟩
    have := R1.now h1 (.bl _)
    cases neg <;> cases c <;> cases k <;> exact this
  · exact h1.elim
theorem isB_op {neg k : Bool} {σ : L2.St} {H : Hp} {Q : VK} (h : tD X G En C0 W (ev Φ (.isB neg ia k)) σ H Q) : tD X G En C0 W (ev Φ ia) σ H fun x H1 => ∃ a b, x = .bl a ∧ V.bl k = .bl b ∧ Q (.bl (if neg then !decide (a = b) else decide (a = b))) H1 := by
  obtain ⟨θ, S, s, R, h⟩ := isB_key h
  exact ⟨θ, S, s, R, h.imp fun x s1 θ1 S1 H1 q1 e1 R1 h1 u ru => let ⟨c, e, q⟩ := h1 u ru; ⟨c, k, e, rfl, q⟩⟩
theorem sd_isB {neg k : Bool} {j : _} (ha : PE X a (tD X G En C0 W (ev Φ ia))) (hm : behindInMarks (if neg then .IsNot else .Is) (.Constant (.bool k) j p2) = false) : PE X (.Compare a [if neg then .IsNot else .Is] [.Constant (.bool k) j p2] pos) (tD X G En C0 W (ev Φ (.isB neg ia k))) ∧
    PT X (.Compare a [if neg then .IsNot else .Is] [.Constant (.bool k) j p2] pos) (tT X G En C0 W (ev Φ (.isB neg ia k))) := by
  cases neg with
  | false => exact ⟨(pe_cmpR op_isBl ha (pe_bl (b := k)) hm).wk fun σ H Q h => isB_op h, (pt_cmpR op_isBl ha (pe_bl (b := k)) hm).wk fun σ H Q h => isB_op (tT_tD h)⟩
  | true => exact ⟨(pe_cmpR op_notBl ha (pe_bl (b := k)) hm).wk fun σ H Q h => isB_op h, (pt_cmpR op_notBl ha (pe_bl (b := k)) hm).wk fun σ H Q h => isB_op (tT_tD h)⟩
end
end TL

set_option linter.all false
set_option maxRecDepth 100000
set_option maxHeartbeats 4000000
/-! TLCmp: == and != where instances may stand, bool of an instance. Own work. -/
namespace TL
open PySem PySem.Spec PyProof.Rows L2 NdefX LamX
/-- a class over object alone, without an own == or != -/
theorem cmpI_of {K : PySem.W.Frag} {h : Heap} {C x : Addr} {o : Obj} (X : K.In h) (q : cmpB K C = true) (hx : h.get? x = some o) (hc : o.cls = .ref C) : h.CmpInst x C [.type "object"] := by
  unfold cmpB at q
  split at q
  · rename_i dd cd sl ho
    split at q
    · rename_i C' k0 k1 k2 k3 n k5 hm hs
      simp only [Bool.and_eq_true, beq_iff_eq, Bool.not_eq_true'] at q
      obtain ⟨⟨⟨⟨rfl, hdel⟩, hok⟩, he⟩, hn⟩ := q
      obtain ⟨nm, bs, mro, ns, qn, hd, sn, sub, ab, col, del⟩ := cd
      dsimp only at hm hdel hok he hn
      subst hm hdel
      have hsl : sl = #[k0, k1, k2, k3, some (.builtin n), k5] := by
        obtain ⟨l⟩ := sl
        simp only at hs
        rw [hs]
      subst hsl
      exact ⟨o, nm, qn, ns, bs, hd, sn, sub, ab, col, dd, k0, k1, k2, k3, k5, n, _, hx, hc, X _ _ ho, .of_isNs (PySem.W.isNs_of_in X hok), PySem.W.nsMap_none_of_in X hok he, PySem.W.nsMap_none_of_in X hok hn⟩
    · cases q
  · cases q
section
variable {X : Cx}
def rInsEq (K : PySem.W.Frag) (neg : Bool) : R2 := fun x y H Q => ∃ (a b A1 A2 dx dy : Addr) (fs gs : List (Str × V)), x = .ref a ∧ y = .ref b ∧ H a = some (.ins A1 dx fs) ∧ H b = some (.ins A2 dy gs) ∧ cmpB K A1 = true ∧ cmpB K A2 = true ∧ Q (.bl (if neg then !decide (a = b) else decide (a = b))) H
theorem ins_cmp {pins : List (Addr × Obj)} {σ : L2.St} {H : Hp} {s : Shared} {a A dx : Addr} {fs : List (Str × V)} (I : Inv X pins σ H s) (e : H a = some (.ins A dx fs)) (c : cmpB X.K A = true) : s.heap.CmpInst a A [.type "object"] := by
  obtain ⟨mA, O, _⟩ := ins_get I.hok e
  exact cmpI_of I.kIn c O.obj rfl
theorem op_eqIns (hu : X.A.units + 1 < cLine) : OpR X (compareOp .Eq) (rInsEq X.K false) := by
  intro pins s σ H x y v u Q I rx ry h
  obtain ⟨a, b, A1, A2, dx, dy, fs, gs, rfl, rfl, h1, h2, c1, c2, q⟩ := h
  cases rx; cases ry
  have X1 := ins_cmp I h1 c1
  have X2 := ins_cmp I h2 c2
  have fin : ∀ k : Bool, k = decide (a = b) → EP X pins σ Q (.bool k) s := fun k e => ⟨.bl k, H, I, rfl, by rw [e]; exact q⟩
  obtain ⟨hh, g, d, t, os⟩ := s
  by_cases e : a = b
  · subst e
    exact compareOp_eq_same PySem.F.cmp_object X1 (by omega) (fin true (by simp))
  · exact compareOp_eq_other PySem.F.cmp_object PySem.F.cmp_object X1 X2 e (by omega) (fin false (by simp [e]))
theorem op_neIns (hu : X.A.units + 1 < cLine) : OpR X (compareOp .NotEq) (rInsEq X.K true) := by
  intro pins s σ H x y v u Q I rx ry h
  obtain ⟨a, b, A1, A2, dx, dy, fs, gs, rfl, rfl, h1, h2, c1, c2, q⟩ := h
  cases rx; cases ry
  have X1 := ins_cmp I h1 c1
  have X2 := ins_cmp I h2 c2
  have fin : ∀ k : Bool, k = !decide (a = b) → EP X pins σ Q (.bool k) s := fun k e => ⟨.bl k, H, I, rfl, by rw [e]; exact q⟩
  obtain ⟨hh, g, d, t, os⟩ := s
  by_cases e : a = b
  · subst e
    exact compareOp_ne_same PySem.F.cmp_object X1 hu (fin false (by simp))
  · exact compareOp_ne_other PySem.F.cmp_object PySem.F.cmp_object X1 X2 e hu (fin true (by simp [e]))
end
section
variable {X : Cx} {G : GT} {En : Ent} {C0 : Cells} {W : WX} {θ θ' : List Addr} {S S' H H' : Hp} {σ : L2.St} {s : DS} {Φ : Phi}
variable {a b : Expr} {ia ib : IE} {pos : Pos}
/-- all classes of instances are such -/
def CmpOk (K : PySem.W.Frag) (G : GT) : Prop := ∀ c A, G.cls c = some A → cmpB K A = true
theorem theta_inj {K : PySem.W.Frag} {mu : List SO} {n m : Nat} {x y : Addr} (r : RS K G θ S H mu) (h1 : θ[n]? = some x) (h2 : θ[m]? = some y) : (x = y) ↔ n = m := by
  constructor
  · rintro rfl
    have i1 := (List.getElem?_eq_some_iff.mp h1)
    exact (List.getElem?_inj i1.1 r.nd).mp (by rw [h1, h2])
  · rintro rfl
    rw [h1] at h2; cases h2; rfl
theorem veqM_s {neg : Bool} {mu : List SO} {C : Cells} {x y : PV} {k : Bool} {u v : V} {Q : VK} (hc : CmpOk X.K G) (e : veqM mu x y = some k) (rs : RS X.K G θ S H mu) (rx : RepV X.K G.toFT C θ S x u) (ry : RepV X.K G.toFT C θ S y v)
    (q : Q (.bl (if neg then !k else k)) H) : rCmp X.K (if neg then .ne else .eq) u v H Q ∨ rInsEq X.K neg u v H Q := by
  unfold veqM at e
  split at e
  · rename_i n o m o' h1 h2
    cases e
    obtain ⟨c1, fs⟩ := o
    obtain ⟨c2, gs⟩ := o'
    obtain ⟨rfl, m1⟩ := insOf_eq h1
    obtain ⟨rfl, m2⟩ := insOf_eq h2
    cases rx with
    | obj t1 =>
      cases ry with
      | obj t2 =>
        obtain ⟨A1, dx, vs, g1, e1, _⟩ := rs.objI m1 t1
        obtain ⟨A2, dy, ws, g2, e2, _⟩ := rs.objI m2 t2
        refine .inr ⟨_, _, A1, A2, dx, dy, vs, ws, rfl, rfl, e1, e2, hc _ _ g1, hc _ _ g2, ?_⟩
        rw [show decide (_ = _) = decide (n = m) from decide_eq_decide.mpr (theta_inj rs t1 t2)]
        exact q
  · refine .inl ?_
    cases neg with
    | false => exact cmp_s .eq e rs rx ry q
    | true => exact cmp_s .ne (by show (veq x y).map (!·) = some (!k); rw [e]; rfl) rs rx ry q
theorem cmpo_imp {neg : Bool} {σ : L2.St} {H : Hp} {Q : VK} (hc : CmpOk X.K G) (h : tD X G En C0 W (ev Φ (.cmpo neg ia ib)) σ H Q) : tD X G En C0 W (ev Φ ia) σ H fun x H1 => tD X G En C0 W (ev Φ ib) σ H1 fun y H2 => rCmp X.K (if neg then .ne else .eq) x y H2 Q ∨ rInsEq X.K neg x y H2 Q := by
  obtain ⟨θ, S, s, R, h⟩ := h
  unfold ev at h
  refine ⟨θ, S, s, R, (PostR.bind h).imp fun x s1 θ1 S1 H1 q1 e1 R1 h1 u ru => ?_⟩
  refine ⟨θ1, S1, s1, R1, (PostR.bind h1).imp fun y s2 θ2 S2 H2 q2 e2 R2 h2 v rv => ?_⟩
  have ru' := RepV.mono e2.sS e2.pre (CC.mono (ev_grow Φ ib s1 y s2 q2).1) ru
  cases q : veqM s2.mu x y with
  | none => rw [q] at h2; exact h2.elim
  | some k =>
    rw [q] at h2
    exact veqM_s hc q R2.rs ru' rv (R2.now h2 (.bl _))
theorem sd_cmpo {neg : Bool} (hu : X.A.units + 64 < cLine) (hc : CmpOk X.K G) (hm : behindInMarks (if neg then .NotEq else .Eq) b = false) (ha : PE X a (tD X G En C0 W (ev Φ ia))) (hb : PE X b (tD X G En C0 W (ev Φ ib))) :
    PE X (.Compare a [if neg then .NotEq else .Eq] [b] pos) (tD X G En C0 W (ev Φ (.cmpo neg ia ib))) ∧ PT X (.Compare a [if neg then .NotEq else .Eq] [b] pos) (tT X G En C0 W (ev Φ (.cmpo neg ia ib))) := by
  have op : OpR X (compareOp (if neg then .NotEq else .Eq)) (fun x y H Q => rCmp X.K (if neg then .ne else .eq) x y H Q ∨ rInsEq X.K neg x y H Q) := by
    cases neg with
    | false => exact OpR.or (op_cmp hu .eq) (op_eqIns (by omega))
    | true => exact OpR.or (op_cmp hu .ne) (op_neIns (by omega))
  exact ⟨(pe_cmpR op ha hb hm).wk fun σ H Q h => cmpo_imp hc h, (pt_cmpR op ha hb hm).wk fun σ H Q h => cmpo_imp hc (tT_tD h)⟩
end
end TL

set_option linter.all false
set_option maxRecDepth 100000
set_option maxHeartbeats 4000000
/-! TLBool: bool of an instance. Own work. -/
namespace TL
open PySem PySem.Spec PyProof.Rows L2 NdefX LamX
section
variable {M : Model} {A : Around} {E : Value → Shared → Prop} {s : Shared} {K : PySem.W.Frag} {x C : Addr} {ox : Obj} {od : Option Obj}
theorem truthy_ins {Q : Bool → Shared → Prop} (X : K.In s.heap) (I : PySem.W.InstAt s.heap x ox C od) (h1 : PySem.W.findIn K (.ref C) "__bool__" = some none) (h2 : PySem.W.findIn K (.ref C) "__len__" = some none) (q : Q true s) : wpAny M A (truthy (.ref x)) Q E s := by
  have no : ∀ {n : Str} {Q' : Option Value → Shared → Prop}, PySem.W.findIn K (.ref C) n = some none → Q' none s → wpAny M A (callSpecial? (.ref x) n) Q' E s := fun e q' => by
    unfold callSpecial?
    exact wpAny_bind (wpAny_bind (I.type.here ((PySem.W.looks_findIn X e).here (wpAny_pure q'))))
  unfold truthy
  refine wpAny_bind (no h1 ?_)
  have two := PySem.W.looks_findIn (M := M) X h2
  refine wpAny_bind (wpAny_bind (I.type.here (two.here (wpAny_pure q))))
end
section
variable {X : Cx}
theorem meets_bool_ins {K : PySem.W.Frag} {x C : Addr} {ox : Obj} {od : Option Obj} (h1 : PySem.W.findIn K (.ref C) "__bool__" = some none) (h2 : PySem.W.findIn K (.ref C) "__len__" = some none) :
    Meets (Builtin.«bool.__new__» ⟨[.type "bool", .ref x], []⟩) (fun _ R s => K.In s.heap ∧ PySem.W.InstAt s.heap x ox C od ∧ ∀ tk, R (.ok (.ret (.bool true))) { s with toks := tk }) :=
  Meets.of_wp fun prog w A R s hs => by
    obtain ⟨X, I, hs⟩ := hs
    obtain ⟨hp, g, d, tk, os⟩ := s
    have f1 := F.conv_sub_bool
    repeat (any_goals (first | assumption | (with_reducible refine truthy_ins X I h1 h2 ?_) | wp_step))
    all_goals first | exact ⟨_, rfl, hs _⟩ | exact hs _ | skip
/-- a class whose instances are true -/
theorem call_boolI : CallR X (.type "bool") (fun xs H Q => ((∃ i, xs = [.int i] ∧ Q (.bl (i != 0)) H) ∨ ∃ k, xs = [.bl k] ∧ Q (.bl k) H) ∨ ∃ (a A dx : Addr) (fs : List (Str × V)), xs = [.ref a] ∧ H a = some (.ins A dx fs) ∧ TrueC X.K A ∧ Q (.bl true) H) := by
  intro pins s σ H xs us Q I r h
  rcases h with h | ⟨a, A, dx, fs, rfl, ha, ⟨c1, c2⟩, q⟩
  · exact call_bool1 pins s σ H xs us Q I r h
  · obtain rfl := Vals.ref1 r
    obtain ⟨mA, O, _⟩ := ins_get I.hok ha
    obtain ⟨od, J, _⟩ := O.look
    exact call_bool_1 (meets_bool_ins c1 c2) ⟨I.kIn, J, fun tk => ⟨rfl, .bl true, H, I.tok _, rfl, q⟩⟩
variable {G : GT} {En : Ent} {C0 : Cells} {W : WX} {Φ : Phi} {a : Expr} {ia : IE} {p pos : Pos}
theorem sd_bool (hg : Gl X "bool") (hm : X.mg "bool" = none) (hc : ∀ c A, G.cls c = some A → TrueC X.K A) (hs : ∀ x p, a ≠ .Starred x p) (ha : PE X a (tD X G En C0 W (ev Φ ia))) : PE X (.Call (.Name "bool" p) [a] [] pos) (tD X G En C0 W (ev Φ (.bool ia))) :=
  (pe_callTy call_boolI hg hm (by decide +kernel) (pa_cons ha pa_nil (star_plain hs)) (by decide) (by decide) (star_plain hs) (by rfl)).wk fun σ H Q ⟨θ, S, s, R, h⟩ => by
    unfold ev at h
    refine ⟨θ, S, s, R, (PostR.bind h).imp fun x s1 θ1 S1 H1 q1 e1 R1 h1 u ru => ?_⟩
    split at h1
    · cases ru
      exact .inl (.inr ⟨_, rfl, R1.now h1 (.bl _)⟩)
    · rename_i i
      cases ru
      refine .inl (.inl ⟨i, rfl, ?_⟩)
      have := R1.now h1 (.bl _)
      rw [show (i != 0) = decide (i ≠ 0) from by by_cases e : i = 0 <;> simp [e]]
      exact this
    · cases hi : insOf s1.mu x with
      | none => rw [hi] at h1; exact h1.elim
      | some o =>
        obtain ⟨n, c, fs⟩ := o
        rw [hi] at h1
        obtain ⟨rfl, hm⟩ := insOf_eq hi
        cases ru with
        | obj ht =>
          obtain ⟨A, dx, vs, g, hH, _⟩ := R1.rs.objI hm ht
          exact .inr ⟨_, A, dx, vs, rfl, hH, hc c A g, R1.now h1 (.bl _)⟩
end
end TL

set_option linter.all false
set_option maxRecDepth 100000
set_option maxHeartbeats 4000000
/-! TLCls: a table of classes, what it gives. Own work. -/
namespace TL
open PySem PySem.Spec PyProof.Rows L2 NdefX LamX
section
variable {K : PySem.W.Frag} {mg : Str → Option Value} {G : GT} {ct : List CD} {f m x : Str}
theorem CtOk.fld (O : CtOk K mg G ct) : FldOk K G (flT ct f) f := fun c hc A g => by
  obtain ⟨cd, h1, h2⟩ := O.of c A g
  obtain ⟨⟨cd', i⟩, h3, rfl⟩ := List.mem_map.mp hc
  obtain ⟨h4, h5⟩ := List.mem_filter.mp h3
  have h6 : ct[i]? = some cd' := List.mem_zipIdx_iff_getElem?.mp h4
  have h1 : ct[i]? = some cd := h1
  rw [h6] at h1; cases h1
  exact ⟨h2.cls, h2.nf f (by simpa using h5)⟩
theorem tab_look {g : CD → Option Nat} {c j : Nat} (h : (ct.zipIdx.filterMap fun p => (g p.1).map fun j => (p.2, j)).lookup c = some j) : ∃ cd, ct[c]? = some cd ∧ g cd = some j := by
  have hm : (c, j) ∈ ct.zipIdx.filterMap fun p => (g p.1).map fun j => (p.2, j) := by
    generalize (ct.zipIdx.filterMap fun p => (g p.1).map fun j => (p.2, j)) = l at h
    induction l with
    | nil => cases h
    | cons q l ih =>
      obtain ⟨a, b⟩ := q
      rw [List.lookup_cons] at h
      by_cases e : (c == a) = true
      · simp only [e, Option.some.injEq] at h
        rw [eq_of_beq e, ← h]
        exact List.mem_cons_self
      · simp only [Bool.eq_false_iff.mpr e] at h
        exact List.mem_cons_of_mem _ (ih h)
  obtain ⟨⟨cd, i⟩, h1, h2⟩ := List.mem_filterMap.mp hm
  simp only [Option.map_eq_some_iff, Prod.mk.injEq] at h2
  obtain ⟨j', h3, rfl, rfl⟩ := h2
  exact ⟨cd, List.mem_zipIdx_iff_getElem?.mp h1, h3⟩
theorem CtOk.met (O : CtOk K mg G ct) : MetOk K G (meT ct m) m := fun c j h A g => by
  obtain ⟨cd, h1, h2⟩ := O.of c A g
  obtain ⟨cd', h3, h4⟩ := tab_look (g := fun cd => cd.ms.lookup m) h
  rw [h3] at h1; cases h1
  obtain ⟨fa, h5, h6⟩ := h2.ms m j h4
  exact ⟨fa, h5, h2.cls, h6⟩
theorem CtOk.prp (O : CtOk K mg G ct) : PrpOk K G (prT ct m) m := fun c j h A g => by
  obtain ⟨cd, h1, h2⟩ := O.of c A g
  obtain ⟨cd', h3, h4⟩ := tab_look (g := fun cd => cd.ps.lookup m) h
  rw [h3] at h1; cases h1
  obtain ⟨q, fa, h5, h6⟩ := h2.ps m j h4
  exact ⟨q, fa, h5, h2.cls, h6⟩
theorem CtOk.new {c j : Nat} (O : CtOk K mg G ct) (h : clT ct x = some (c, j)) : NewOk K mg G c j x := by
  obtain ⟨⟨cd, i⟩, h1, h2⟩ := List.exists_of_findSome?_eq_some h
  split at h2
  · rename_i hx
    simp only [Option.map_eq_some_iff, Prod.mk.injEq] at h2
    obtain ⟨j', h3, rfl, rfl⟩ := h2
    have h4 : ct[i]? = some cd := List.mem_zipIdx_iff_getElem?.mp h1
    obtain ⟨A, g⟩ := O.to i cd h4
    obtain ⟨cd', h5, h6⟩ := O.of i A g
    rw [h4] at h5; cases h5
    obtain ⟨fa, h7, h8⟩ := h6.ini j' h3
    exact ⟨A, fa, g, by rw [← hx]; exact h6.gl, h7, h8⟩
  · cases h2
theorem CtOk.cmp (O : CtOk K mg G ct) : CmpOk K G := fun c A g => by
  obtain ⟨cd, _, h⟩ := O.of c A g
  exact h.cmp
theorem CtOk.tru (O : CtOk K mg G ct) : ∀ c A, G.cls c = some A → TrueC K A := fun c A g => by
  obtain ⟨cd, _, h⟩ := O.of c A g
  exact h.tru
end
end TL

set_option linter.all false
set_option maxRecDepth 100000
set_option maxHeartbeats 4000000
/-! TLXcl: a table of classes of errors, what it gives. Own work. -/
namespace TL
open PySem PySem.Spec PyProof.Rows L2 NdefX LamX
section
variable {X : Cx} {G : GT} {En : Ent} {C0 : Cells} {W : WX} {Φ : Phi} {Ex : Exc} {xt : List XD} {xf : List Str} {x : Str} {c k : Nat} {p cpos pos : Pos} {e : Expr} {ie : IE}
theorem XtOk.raise0 (O : XtOk X.K X.mg G xf xt) (h : xt[c]? = some ⟨x, none⟩) (hc : X.calm = true) (tk : Takes X W) (hg : Gl X x) (hdb : (x == ("__debug__" : Str)) = false) :
    PS X (.Raise (some (.Call (.Name x p) [] [] cpos)) none pos) (tS X G En C0 W (ex Φ Ex (.raise c [] .nil))) := by
  obtain ⟨A, gA⟩ := O.to c _ h
  obtain ⟨xd, h1, D⟩ := O.of c A gA
  rw [h] at h1; cases h1
  exact ss_raise0 hc tk gA (D.m0 rfl) D.gl D.kp (raises_own D.sb D.ty) hg hdb
theorem XtOk.raise1 {f : Str} (O : XtOk X.K X.mg G xf xt) (h : xt[c]? = some ⟨x, some f⟩) (hr : Room (2 * k + 2) X.A) (hc : X.calm = true) (tk : Takes X W) (hg : Gl X x) (hdb : (x == ("__debug__" : Str)) = false) (hs : ∀ y q, e ≠ .Starred y q)
    (he : PE X e (tD X G En C0 W (ev Φ ie))) : PS X (.Raise (some (.Call (.Name x p) [e] [] cpos)) none pos) (tS X G En C0 W (ex Φ Ex (.raise c [f] (.cons ie .nil)))) := by
  obtain ⟨A, gA⟩ := O.to c _ h
  obtain ⟨xd, h1, D⟩ := O.of c A gA
  rw [h] at h1; cases h1
  obtain ⟨T, fI, fd, i1, i2, i3, i4⟩ := D.m1 f rfl
  exact ss_raise1 (k := 1) hc tk (hr.mono (by omega)) gA T i1 i2 (i4 _ _ _ _) i3 hg D.gl hdb hs he
end
end TL

set_option linter.all false
set_option maxRecDepth 100000
set_option maxHeartbeats 2000000
/-! TLSound6: builtins by their calls. Own work. -/
namespace TL
open PySem PySem.Spec PyProof.Rows L2 NdefX LamX
theorem tyOf_ok {x : Str} {t : Ty} (h : tyOf x = some t) : x = .ofString (tyS t) := by
  unfold tyOf at h
  split at h
  · rename_i e; cases h; exact e
  split at h
  · rename_i e; cases h; exact e
  split at h
  · rename_i e; cases h; exact e
  split at h
  · rename_i e; cases h; exact e
  · cases h
theorem call_true (f : Expr) (args : List Expr) (kws : List Keyword) (pos : Pos) : ∀ env whole, isTrue (.Call f args kws pos) env whole = (do let v ← whole; standAt (Expr.Call f args kws pos).pos; holding [v] (truthy v)) := fun _ _ => rfl
theorem good_b {n : Nat} (I : Good n) : ∀ ce f args ie r p pos, trB (n + 1) ce f args = some (ie, r) → ce.blt f = true → OkE ce (.Call (.Name f p) args [] pos) ie r := by
  intro ce f args ie r p pos h hb
  refine okV (call_true _ _ _ _) fun X G W k Φ En C0 A E R => ?_
  obtain ⟨hg, hm, _⟩ := E.bltOk hb
  unfold trB at h
  obtain ⟨hh, h'⟩ := TM.grd_eq h
  clear h
  have h := h'
  clear h'
  have hc := A.hc hh
  split at h
  · rename_i hf
    subst hf
    split at h
    · rename_i a
      split at h
      · cases h
      · rename_i hs
        obtain ⟨x, r1, r2, h1, k1, rfl⟩ := TM.bnd_eq h
        obtain ⟨rfl, rfl⟩ := TM.ret_eq k1
        exact sd_bool hg hm E.ct.tru (starB_ok (Bool.eq_false_iff.mpr hs)) (I.e _ _ _ _ h1 X G W k Φ En C0 A E R.l).1
    · cases h
  have any : ∀ {es : List Expr} {b : Blt} {m : Nat} {ie r}, bltOf f m = some b → es ≠ [] → ((trA n ce es).bnd fun xs => .ret (.blt b xs)) = some (ie, r) → RqOk G r → PE X (.Call (.Name f p) es [] pos) (tD X G En C0 W (ev Φ ie)) := by
    intro es b m ie r hbl hne h R
    obtain ⟨x, r1, r2, h1, k1, rfl⟩ := TM.bnd_eq h
    obtain ⟨rfl, rfl⟩ := TM.ret_eq k1
    obtain ⟨g1, g2⟩ := I.a _ _ _ _ h1
    cases es with
    | nil => exact (hne rfl).elim
    | cons e es => exact blt_any hc hbl hg hm g1 (g2 X G W k Φ En C0 A E R.l)
  split at h
  · rename_i a t pt
    split at h
    · rename_i hf
      subst hf
      split at h
      · rename_i ty ht
        split at h
        · rename_i hq
          simp only [Bool.and_eq_true, Bool.not_eq_true'] at hq
          obtain ⟨x, r1, r2, h1, k1, rfl⟩ := TM.bnd_eq h
          obtain ⟨rfl, rfl⟩ := TM.ret_eq k1
          have et := tyOf_ok ht
          subst et
          obtain ⟨hg2, hm2, _⟩ := E.bltOk hq.1
          exact sd_isi hg hm hg2 hm2 (starB_ok hq.2) (I.e _ _ _ _ h1 X G W k Φ En C0 A E R.l).1
        · cases h
      · cases h
    · split at h
      · rename_i b hbl
        exact any hbl (by simp) h R
      · cases h
  · rename_i g pg as pp
    split at h
    · rename_i hq
      obtain ⟨rfl, rfl, hgb⟩ := hq
      obtain ⟨hg2, hm2, _⟩ := E.bltOk hgb
      split at h
      · rename_i a
        split at h
        · cases h
        · rename_i hs
          have hs : starB a = false := by simpa using hs
          obtain ⟨x, r1, r2, h1, k1, rfl⟩ := TM.bnd_eq h
          obtain ⟨rfl, rfl⟩ := TM.ret_eq k1
          exact sd_lrange1 hc hg hm hg2 hm2 (starB_ok hs) (I.e _ _ _ _ h1 X G W k Φ En C0 A E R.l).1
      · rename_i a b
        split at h
        · cases h
        · rename_i hs
          simp only [Bool.or_eq_true, not_or, Bool.not_eq_true] at hs
          obtain ⟨x, r1, r2, h1, k1, rfl⟩ := TM.bnd_eq h
          obtain ⟨y, r3, r4, h2, k2, rfl⟩ := TM.bnd_eq k1
          obtain ⟨rfl, rfl⟩ := TM.ret_eq k2
          exact sd_lrange2 hc hg hm hg2 hm2 (starB_ok hs.1) (starB_ok hs.2) (I.e _ _ _ _ h1 X G W k Φ En C0 A E R.l).1 (I.e _ _ _ _ h2 X G W k Φ En C0 A E R.r.l).1
      · cases h
    · split at h
      · rename_i hq
        obtain ⟨rfl, rfl, hgb⟩ := hq
        obtain ⟨hg2, hm2, _⟩ := E.bltOk hgb
        split at h
        · rename_i a b
          obtain ⟨x, r1, r2, h1, k1, rfl⟩ := TM.bnd_eq h
          obtain ⟨rfl, rfl⟩ := TM.ret_eq k1
          obtain ⟨g1, g2⟩ := I.a _ _ _ _ h1
          exact sd_listZip hc hg hm hg2 hm2 (g2 X G W k Φ En C0 A E R.l) (g1 a (by simp)) (g1 b (by simp))
        · cases h
      · split at h
        · rename_i hq
          obtain ⟨rfl, rfl, hgb⟩ := hq
          obtain ⟨hg2, hm2, _⟩ := E.bltOk hgb
          split at h
          · rename_i a
            split at h
            · cases h
            · rename_i hs
              have hs : starB a = false := by simpa using hs
              obtain ⟨x, r1, r2, h1, k1, rfl⟩ := TM.bnd_eq h
              obtain ⟨rfl, rfl⟩ := TM.ret_eq k1
              exact sd_ssort hc hg hm hg2 hm2 (starB_ok hs) (I.e _ _ _ _ h1 X G W k Φ En C0 A E R.l).1
          · cases h
        · split at h
          · rename_i b hbl
            exact any hbl (by simp) h R
          · cases h
  · rename_i a m apos cpos
    split at h
    · rename_i hq
      obtain ⟨rfl, rfl, h2, h3⟩ := hq
      obtain ⟨x, r1, r2, h1, k1, rfl⟩ := TM.bnd_eq h
      obtain ⟨rfl, rfl⟩ := TM.ret_eq k1
      exact sd_listVals hc hg hm (I.p _ _ _ _ h1 X G W k Φ En C0 A E R.l) (recv_base h2 _ _ _) (by simpa using h3)
    · cases h
  · split at h
    · rename_i b hbl
      refine any hbl (fun e => ?_) h R
      subst e
      simp [bltOf] at hbl
    · cases h
end TL

set_option linter.all false
set_option maxRecDepth 100000
set_option maxHeartbeats 8000000
/-! TLSound8: any expression. Own work. -/
namespace TL
open PySem PySem.Spec PyProof.Rows L2 NdefX LamX
section
variable {X : Cx} {G : GT} {En : Ent} {C0 : Cells} {W : WX} {θ : List Addr} {S H : Hp} {σ : L2.St} {s : DS} {Φ : Phi}
variable {a b c : Expr} {ia ib ic : IE} {pos p : Pos}
theorem sdt_ite (hc : PT X c (tT X G En C0 W (ev Φ ic))) (ha : PT X a (tT X G En C0 W (ev Φ ia))) (hb : PT X b (tT X G En C0 W (ev Φ ib))) : PT X (.IfExp c a b pos) (tT X G En C0 W (ev Φ (.ite ic ia ib))) := by
  refine ⟨fun pins s σ H Q I ⟨θ, S, ds, R, h⟩ => isTrue_IfExp (thn (hc.run pins s σ H (fun d H1 => ∃ θ1 S1 s1, Rel X G En C0 θ1 S1 H1 s1 σ ∧ PostR X G En C0 W θ1 S1 H1 σ (if d = true then ev Φ ia s1 else ev Φ ib s1) fun p s' θ' S' H' => ∃ b, p = .bl b ∧ Q b H') I
    ⟨θ, S, ds, R, (PostR.bind h).imp fun x s1 θ1 S1 H1 _ e1 R1 h1 => ?_⟩) fun d s1 ⟨H1, I1, θ1, S1, s1', R1, q1⟩ => ?_)⟩
  · rcases x with _ | k | _ | _ | _ | _ | _ | _ | _ | _ | _ <;> first | exact h1.elim | skip
    refine ⟨k, rfl, θ1, S1, s1, R1, ?_⟩
    cases k <;> exact h1
  · cases d with
    | true => exact ha.run pins s1 σ H1 Q I1 ⟨θ1, S1, s1', R1, q1⟩
    | false => exact hb.run pins s1 σ H1 Q I1 ⟨θ1, S1, s1', R1, q1⟩
end
theorem m1_of {X : Cx} {a e : Expr} {m : Str} {apos cpos : Pos} (h : recvB a = true) (hs : ∀ x p, e ≠ .Starred x p) (hl : apos.endLine = cpos.line) : M1 X a m apos e cpos where
  base := recv_base h _ _ _
  few := by
    rw [star_plain hs]
    rfl
  line := by simpa using hl
  trees := by
    rw [star_plain hs]
    rfl
theorem m2_of {X : Cx} {a e f : Expr} {m : Str} {apos cpos : Pos} (h : recvB a = true) (hs : ∀ x p, e ≠ .Starred x p) (hs2 : ∀ x p, f ≠ .Starred x p) (hl : apos.endLine = cpos.line) : M2 X a m apos e f cpos where
  base := recv_base h _ _ _
  few := by
    rw [star_plain hs, star_plain hs2]
    rfl
  line := by simpa using hl
  trees := by
    rw [star_plain hs, star_plain hs2]
    rfl
theorem caps_of {N : List Str} : ∀ {fr : List Str} {caps : List Nat}, fr.map (ixOf N) = caps.map some → caps.map (N[·]?) = fr.map some
  | [], [], _ => rfl
  | x :: fr, i :: caps, h => by
    simp only [List.map_cons, List.cons.injEq] at h ⊢
    exact ⟨ixOf_get h.1, caps_of h.2⟩
  | [], _ :: _, h => by simp at h
  | _ :: _, [], h => by simp at h
theorem plainIx_of {b : Expr} (h : sliceB b = false) : PlainIx b := fun o i => by
  cases b <;> first | rfl | cases h
theorem bool_ind {P : Bool → Prop} : ∀ b, P true → P false → P b
  | true, h, _ => h
  | false, _, h => h
theorem isbOf_ok {op : CmpOp} {b : Expr} {neg k : Bool} (h : isbOf (copOf op) b = some (neg, k)) : ∃ j p2, b = .Constant (.bool k) j p2 ∧ cop (copOf op) = if neg = true then .IsNot else .Is := by
  generalize copOf op = o at h
  unfold isbOf at h
  split at h
  · cases h; exact ⟨_, _, rfl, rfl⟩
  · cases h; exact ⟨_, _, rfl, rfl⟩
  · cases h
theorem isEv_ok {ce : CE} {a : Expr} (h : ce.isEv a = true) : ∃ x p i, a = .Name x p ∧ ce.hot = true ∧ ce.ev = some x ∧ ce.loc x = some i := by
  unfold CE.isEv at h
  split at h
  · rename_i x p
    simp only [Bool.and_eq_true, beq_iff_eq] at h
    obtain ⟨i, hi⟩ := Option.isSome_iff_exists.mp h.2
    exact ⟨x, p, i, rfl, h.1.1, h.1.2, hi⟩
  · cases h
theorem kw_or {kw : List (Nat × Nat × List Str)} {j n : Nat} {ks : List Str} (h : (ks.isEmpty || kw.contains (j, n, ks)) = true) : ks = [] ∨ (j, n, ks) ∈ kw := by
  simp only [Bool.or_eq_true, List.contains_iff_mem] at h
  exact h.imp nilOf id
theorem lookup_mem {ms : List (Nat × Nat)} {c j : Nat} (h : ms.lookup c = some j) : (c, j) ∈ ms := by
  induction ms with
  | nil => cases h
  | cons q l ih =>
    obtain ⟨a, b⟩ := q
    rw [List.lookup_cons] at h
    by_cases e : (c == a) = true
    · simp only [e, Option.some.injEq] at h
      rw [eq_of_beq e, ← h]
      exact List.mem_cons_self
    · simp only [Bool.eq_false_iff.mpr e] at h
      exact List.mem_cons_of_mem _ (ih h)
theorem kw_all {kw : List (Nat × Nat × List Str)} {ms : List (Nat × Nat)} {n : Nat} {ks : List Str} (h : (ks.isEmpty || ms.all fun p => kw.contains (p.2, n, ks)) = true) : ks = [] ∨ ∀ c j, ms.lookup c = some j → (j, n, ks) ∈ kw := by
  simp only [Bool.or_eq_true, List.all_eq_true, List.contains_iff_mem] at h
  rcases h with h | h
  · exact .inl (nilOf h)
  · exact .inr fun c j hl => h (c, j) (lookup_mem hl)
theorem good_e {n : Nat} (I : Good n) : ∀ ce e ie r, trE (n + 1) ce e = some (ie, r) → OkE ce e ie r := by
  intro ce e ie r h
  unfold trE at h
  split at h
  · obtain ⟨rfl, rfl⟩ := TM.ret_eq h
    exact okV (fun _ _ => rfl) fun X G W k Φ En C0 A E R => sd_non
  · obtain ⟨rfl, rfl⟩ := TM.ret_eq h
    exact okV (fun _ _ => rfl) fun X G W k Φ En C0 A E R => sd_bl
  · obtain ⟨rfl, rfl⟩ := TM.ret_eq h
    exact okV (fun _ _ => rfl) fun X G W k Φ En C0 A E R => sd_int
  · obtain ⟨rfl, rfl⟩ := TM.ret_eq h
    exact okV (fun _ _ => rfl) fun X G W k Φ En C0 A E R => sd_str
  · -- a name
    rename_i x p
    refine okV (fun _ _ => rfl) fun X G W k Φ En C0 A E R => ?_
    split at h
    · rename_i i hi
      obtain ⟨rfl, rfl⟩ := TM.ret_eq h
      obtain ⟨h1, h2, h3, h4⟩ := E.locOk hi
      exact sd_var h1 h2 h3 h4
    · split at h
      · rename_i hg
        obtain ⟨g1, g2, g3⟩ := E.globOk hg
        split at h
        · rename_i i hl
          obtain ⟨rfl, rfl⟩ := TM.ret_eq h
          obtain ⟨t, ht⟩ := E.gl x _ hl
          exact sd_gint g1 ht g2
        · rename_i i hl
          obtain ⟨rfl, rfl⟩ := TM.ret_eq h
          obtain ⟨t, ht⟩ := E.gl x _ hl
          exact sd_gstr g1 ht g2
        · rename_i j hl
          obtain ⟨rfl, rfl⟩ := TM.ret_eq h
          obtain ⟨f, ht, ha⟩ := E.gl x _ hl
          exact (sd_gfn (Φ := Φ) g1 ht ha g2).wk fun σ H Q ⟨θ, S, s, R, h⟩ => ⟨θ, S, s, R, h⟩
        · cases h
      · cases h
  · -- an operator
    rename_i a op b p
    refine okV (fun _ _ => rfl) fun X G W k Φ En C0 A E R => ?_
    split at h
    · rename_i o ho
      obtain ⟨x, r1, r2, h1, k1, rfl⟩ := TM.bnd_eq h
      obtain ⟨y, r3, r4, h2, k2, rfl⟩ := TM.bnd_eq k1
      obtain ⟨rfl, rfl⟩ := TM.ret_eq k2
      rw [bopOf_ok ho]
      exact sd_bin (I.e _ _ _ _ h1 X G W k Φ En C0 A E R.l).1 (I.e _ _ _ _ h2 X G W k Φ En C0 A E R.r.l).1
    · cases h
  · rename_i a p
    obtain ⟨x, r1, r2, h1, k1, rfl⟩ := TM.bnd_eq h
    obtain ⟨rfl, rfl⟩ := TM.ret_eq k1
    exact okV (fun _ _ => rfl) fun X G W k Φ En C0 A E R => sd_neg (I.e _ _ _ _ h1 X G W k Φ En C0 A E R.l).1
  · rename_i a p
    obtain ⟨x, r1, r2, h1, k1, rfl⟩ := TM.bnd_eq h
    obtain ⟨rfl, rfl⟩ := TM.ret_eq k1
    intro X G W k Φ En C0 A E R
    obtain ⟨g1, g2⟩ := I.e _ _ _ _ h1 X G W k Φ En C0 A E R.l
    exact ⟨sd_not g1, sdt_not g2⟩
  · rename_i vs p
    intro X G W k Φ En C0 A E R
    obtain ⟨g1, g2⟩ := I.an _ _ _ _ h X G W k Φ En C0 p A E R
    exact ⟨g1, g2.pt⟩
  · rename_i vs p
    intro X G W k Φ En C0 A E R
    obtain ⟨g1, g2⟩ := I.orr _ _ _ _ h X G W k Φ En C0 p A E R
    exact ⟨g1, g2.pt⟩
  · rename_i c a b p
    obtain ⟨x, r1, r2, h1, k1, rfl⟩ := TM.bnd_eq h
    obtain ⟨y, r3, r4, h2, k2, rfl⟩ := TM.bnd_eq k1
    obtain ⟨z, r5, r6, h3, k3, rfl⟩ := TM.bnd_eq k2
    obtain ⟨rfl, rfl⟩ := TM.ret_eq k3
    intro X G W k Φ En C0 A E R
    obtain ⟨g1, g2⟩ := I.e _ _ _ _ h1 X G W k Φ En C0 A E R.l
    obtain ⟨g3, g4⟩ := I.e _ _ _ _ h2 X G W k Φ En C0 A E R.r.l
    obtain ⟨g5, g6⟩ := I.e _ _ _ _ h3 X G W k Φ En C0 A E R.r.r.l
    exact ⟨sd_ite g2 g3 g5, sdt_ite g2 g4 g6⟩
  · -- one comparison
    rename_i a op b p
    split at h
    · cases h
    · rename_i hm
      have hm : behindInMarks op b = false := by simpa using hm
      rw [copOf_ok op] at hm ⊢
      split at h
      · rename_i ho
        obtain ⟨x, r1, r2, h1, k1, rfl⟩ := TM.bnd_eq h
        obtain ⟨y, r3, r4, h2, k2, rfl⟩ := TM.bnd_eq k1
        obtain ⟨rfl, rfl⟩ := TM.ret_eq k2
        rw [ho] at hm ⊢
        intro X G W k Φ En C0 A E R
        have g1 := (I.e _ _ _ _ h1 X G W k Φ En C0 A E R.l).1
        have g2 := I.p _ _ _ _ h2 X G W k Φ En C0 A E R.r.l
        exact ⟨sd_in (.inl rfl) A.hu hm g1 g2, sdt_in (.inl rfl) A.hu hm g1 g2⟩
      · rename_i ho
        obtain ⟨x, r1, r2, h1, k1, rfl⟩ := TM.bnd_eq h
        obtain ⟨y, r3, r4, h2, k2, rfl⟩ := TM.bnd_eq k1
        obtain ⟨rfl, rfl⟩ := TM.ret_eq k2
        rw [ho] at hm ⊢
        intro X G W k Φ En C0 A E R
        have g1 := (I.e _ _ _ _ h1 X G W k Φ En C0 A E R.l).1
        have g2 := I.p _ _ _ _ h2 X G W k Φ En C0 A E R.r.l
        exact ⟨sd_in (.inr rfl) A.hu hm g1 g2, sdt_in (.inr rfl) A.hu hm g1 g2⟩
      · split at h
        · rename_i neg kk hib
          obtain ⟨j, p2, rfl, ho⟩ := isbOf_ok hib
          rw [ho] at hm ⊢
          obtain ⟨x, r1, r2, h1, k1, rfl⟩ := TM.bnd_eq h
          obtain ⟨rfl, rfl⟩ := TM.ret_eq k1
          intro X G W k Φ En C0 A E R
          exact sd_isB (I.e _ _ _ _ h1 X G W k Φ En C0 A E R.l).1 hm
        · split at h
          · rename_i hoe
            simp only [Bool.and_eq_true, Bool.or_eq_true, beq_iff_eq] at hoe
            have ho : cop (copOf op) = if (copOf op == .ne) = true then .NotEq else .Eq := by
              rcases hoe.2 with e | e <;> rw [e] <;> rfl
            rw [ho] at hm ⊢
            obtain ⟨x, r1, r2, h1, k1, rfl⟩ := TM.bnd_eq h
            obtain ⟨y, r3, r4, h2, k2, rfl⟩ := TM.bnd_eq k1
            obtain ⟨rfl, rfl⟩ := TM.ret_eq k2
            intro X G W k Φ En C0 A E R
            have g1 := (I.e _ _ _ _ h1 X G W k Φ En C0 A E R.l).1
            have g2 := (I.e _ _ _ _ h2 X G W k Φ En C0 A E R.r.l).1
            exact sd_cmpo A.hu E.ct.cmp hm g1 g2
          · obtain ⟨x, r1, r2, h1, k1, rfl⟩ := TM.bnd_eq h
            obtain ⟨y, r3, r4, h2, k2, rfl⟩ := TM.bnd_eq k1
            obtain ⟨rfl, rfl⟩ := TM.ret_eq k2
            intro X G W k Φ En C0 A E R
            have g1 := (I.e _ _ _ _ h1 X G W k Φ En C0 A E R.l).1
            have g2 := (I.e _ _ _ _ h2 X G W k Φ En C0 A E R.r.l).1
            exact ⟨sd_cmp A.hu hm g1 g2, sdt_cmp A.hu hm g1 g2⟩
  · -- two comparisons
    rename_i a op op' b c p
    split at h
    · cases h
    · rename_i hm
      have hm : lastMarks [op, op'] [b, c] = false := by simpa using hm
      obtain ⟨x, r1, r2, h1, k1, rfl⟩ := TM.bnd_eq h
      obtain ⟨y, r3, r4, h2, k2, rfl⟩ := TM.bnd_eq k1
      obtain ⟨z, r5, r6, h3, k3, rfl⟩ := TM.bnd_eq k2
      obtain ⟨rfl, rfl⟩ := TM.ret_eq k3
      intro X G W k Φ En C0 A E R
      have g1 := (I.e _ _ _ _ h1 X G W k Φ En C0 A E R.l).1
      have g2 := (I.e _ _ _ _ h2 X G W k Φ En C0 A E R.r.l).1
      have g3 := (I.e _ _ _ _ h3 X G W k Φ En C0 A E R.r.r.l).1
      generalize hc1 : copOf op = o1
      generalize hc2 : copOf op' = o2
      have e1 : op = cop o1 := by rw [← hc1]; exact copOf_ok op
      have e2 : op' = cop o2 := by rw [← hc2]; exact copOf_ok op'
      subst e1; subst e2
      exact ⟨sd_cmp2 A.hu hm g1 g2 g3, sdt_cmp2 A.hu hm g1 g2 g3⟩
  · obtain ⟨x, r1, r2, h1, k1, rfl⟩ := TM.bnd_eq h
    obtain ⟨y, r3, r4, h2, k2, rfl⟩ := TM.bnd_eq k1
    obtain ⟨rfl, rfl⟩ := TM.ret_eq k2
    exact okV (fun _ _ => rfl) fun X G W k Φ En C0 A E R => sd_tupS (I.e _ _ _ _ h1 X G W k Φ En C0 A E R.l).1 ((I.a _ _ _ _ h2).2 X G W k Φ En C0 A E R.r.l)
  · obtain ⟨x, r1, r2, h1, k1, rfl⟩ := TM.bnd_eq h
    obtain ⟨rfl, rfl⟩ := TM.ret_eq k1
    exact okV (fun _ _ => rfl) fun X G W k Φ En C0 A E R => sd_tup ((I.a _ _ _ _ h1).2 X G W k Φ En C0 A E R.l)
  · obtain ⟨x, r1, r2, h1, k1, rfl⟩ := TM.bnd_eq h
    obtain ⟨rfl, rfl⟩ := TM.ret_eq k1
    exact okV (fun _ _ => rfl) fun X G W k Φ En C0 A E R => sd_lst ((I.a _ _ _ _ h1).2 X G W k Φ En C0 A E R.l)
  · exact okV (fun _ _ => rfl) fun X G W k Φ En C0 A E R => sd_know (ev_grow Φ ie) (I.f _ _ _ _ h X G W k Φ En C0 A E R)
  · exact okV (fun _ _ => rfl) fun X G W k Φ En C0 A E R => sd_know (ev_grow Φ ie) (I.f _ _ _ _ h X G W k Φ En C0 A E R)
  · -- a slice
    obtain ⟨x, r1, r2, h1, k1, rfl⟩ := TM.bnd_eq h
    obtain ⟨y, r3, r4, h2, k2, rfl⟩ := TM.bnd_eq k1
    obtain ⟨z, r5, r6, h3, k3, rfl⟩ := TM.bnd_eq k2
    obtain ⟨rfl, rfl⟩ := TM.ret_eq k3
    exact okV (fun _ _ => rfl) fun X G W k Φ En C0 A E R => sd_cut (I.p _ _ _ _ h1 X G W k Φ En C0 A E R.l) (I.o _ _ _ _ h2 X G W k Φ En C0 A E R.r.l) (I.o _ _ _ _ h3 X G W k Φ En C0 A E R.r.r.l)
  · -- a subscript
    split at h
    · cases h
    · rename_i hs
      have hs := Bool.eq_false_iff.mpr hs
      obtain ⟨x, r1, r2, h1, k1, rfl⟩ := TM.bnd_eq h
      obtain ⟨y, r3, r4, h2, k2, rfl⟩ := TM.bnd_eq k1
      obtain ⟨rfl, rfl⟩ := TM.ret_eq k2
      refine okV (fun _ _ => rfl) fun X G W k Φ En C0 A E R => ?_
      have hu := A.hu
      exact sd_sub (by omega) (plainIx_of hs) (noSl_ok hs) (I.p _ _ _ _ h1 X G W k Φ En C0 A E R.l) (I.e _ _ _ _ h2 X G W k Φ En C0 A E R.r.l).1
  · -- a lambda
    rename_i ps body scope pos
    split at h
    · rename_i kk caps hk hc
      split at h
      · rename_i hq
        cases h
        simp only [Bool.and_eq_true, List.all_eq_true, Bool.or_eq_true, decide_eq_true_eq] at hq
        refine okV (fun _ _ => rfl) fun X G W k Φ En C0 A E R => ?_
        obtain ⟨hqual, c, P, nm, TB, hcode, hP, hnm, hu⟩ := E.lk _ _ hk
        have hR := R _ (List.mem_singleton.mpr rfl)
        rw [← hqual] at hR
        exact sd_lam TB hcode hP hnm hu (plainArgs_def hq.1 _) hR (by rw [E.N]; exact caps_of (allSome_ok hc)) (fun y hy => by rw [E.sc]; exact hq.2 y hy) fun y => freesOf_ok
      · cases h
    · cases h
  · -- a field, a property
    rename_i a f p
    split at h
    · rename_i hev
      obtain ⟨x, px, i', rfl, hh, hx, hi⟩ := isEv_ok hev
      refine okV (fun _ _ => rfl) fun X G W k Φ En C0 A E R => ?_
      split at h
      · rename_i hxf
        obtain ⟨rfl, rfl⟩ := TM.ret_eq h
        obtain ⟨i, n, xs, h1, h2, h3⟩ := A.ht hh
        rw [hx] at h1
        cases h1
        obtain ⟨_, g2, g3, g4⟩ := E.locOk hi
        refine sd_excF h3 (fun c _ A' gA => ?_) h2 g2 g3 g4
        obtain ⟨xd, _, D⟩ := E.xt.of c A' gA
        exact ⟨D.es.xf, D.nf f (by simpa using hxf)⟩
      · cases h
    · split at h
      · rename_i hrec
        refine okV (fun _ _ => rfl) fun X G W k Φ En C0 A E R => ?_
        split at h
        · split at h
          · cases h
          · rename_i cs hcs
            obtain ⟨x, r1, r2, h1, k1, rfl⟩ := TM.bnd_eq h
            obtain ⟨rfl, rfl⟩ := TM.ret_eq k1
            exact sd_fld E.ct.fld (recv_base hrec _ _ _) (I.e _ _ _ _ h1 X G W k Φ En C0 A E R.l).1
        · obtain ⟨hh, h'⟩ := TM.grd_eq h
          obtain ⟨x, r1, r2, h1, k1, rfl⟩ := TM.bnd_eq h'
          obtain ⟨rfl, rfl⟩ := TM.ret_eq k1
          exact sd_prop (A.L hh) (A.hr hh) A.tk E.ct.prp (recv_base hrec _ _ _) (I.e _ _ _ _ h1 X G W k Φ En C0 A E R.l).1
      · cases h
  · -- a call of a name
    rename_i f p args kws pos
    refine okV (call_true _ _ _ _) fun X G W k Φ En C0 A E R => ?_
    split at h
    · rename_i hh
      split at h
      · rename_i e p1 c p2
        split at h
        · rename_i hq
          obtain ⟨rfl, hb, hev, hloc, hkw, hgc⟩ := hq
          have hk := nilOf hkw
          subst hk
          split at h
          · rename_i cs hcs
            obtain ⟨rfl, rfl⟩ := TM.ret_eq h
            obtain ⟨i, n, xs, h1, h2, h3⟩ := A.ht hh
            rw [hev] at h1
            cases h1
            obtain ⟨i', hi⟩ := Option.isSome_iff_exists.mp hloc
            obtain ⟨_, g2, g3, g4⟩ := E.locOk hi
            obtain ⟨b1, b2, _⟩ := E.bltOk hb
            obtain ⟨c1, c2, c3⟩ := E.globOk hgc
            obtain ⟨cv, hcv, hk⟩ := E.sb c cs hcs
            have hx : ∀ c ∈ xs, ∀ A, G.xcl c = some A → ExcS X.K A ∧ PySem.W.kitOne X.K (.ref A) cv = some (decide (c ∈ cs)) := fun c _ A' gA => by
              obtain ⟨xd, _, D⟩ := E.xt.of c A' gA
              exact ⟨D.es, (hk c A' gA).2⟩
            rcases hcv with ⟨B, rfl, hm⟩ | ⟨T, rfl, hm, hv⟩
            · exact sd_excIs (cv := .ref B) h3 hx (fun w z => z) b1 b2 (pe_glob c1 hm rfl c2) (fun x p => by simp) h2 g2 g3 g4
            · exact sd_excIs (cv := .ty T) h3 hx (fun w z => z) b1 b2 (pe_bltn c1 hm hv rfl c3 c2) (fun x p => by simp) h2 g2 g3 g4
          · cases h
        · cases h
      · cases h
    rename_i hh
    have hh := Bool.eq_false_iff.mpr hh
    split at h
    · rename_i i hi
      split at h
      · rename_i hk
        have hk := nilOf hk
        subst hk
        obtain ⟨x, r1, r2, h1, k1, rfl⟩ := TM.bnd_eq h
        obtain ⟨rfl, rfl⟩ := TM.ret_eq k1
        obtain ⟨g1, g2, g3, g4⟩ := E.locOk hi
        obtain ⟨a1, a2⟩ := I.a _ _ _ _ h1
        have hl := trA_len _ _ _ _ h1
        cases args with
        | nil =>
          cases x with
          | nil => exact calls_fn0 (A.L hh) (A.hrk hh) A.tk g1 g2 g3 g4
          | cons _ _ => simp [lenE] at hl
        | cons e es => exact calls_fn (A.L hh) (A.hrk hh) A.tk g1 g2 g3 g4 a1 (a2 X G W k Φ En C0 A E R.l)
      · cases h
    · split at h
      · rename_i hg
        obtain ⟨g1, g2, g3⟩ := E.globOk hg
        split at h
        · rename_i j hj
          obtain ⟨fa, hm, hja⟩ := E.gl f _ hj
          split at h
          · rename_i hk
            have hk := nilOf hk
            subst hk
            obtain ⟨x, r1, r2, h1, k1, rfl⟩ := TM.bnd_eq h
            obtain ⟨rfl, rfl⟩ := TM.ret_eq k1
            obtain ⟨a1, a2⟩ := I.a _ _ _ _ h1
            have hl := trA_len _ _ _ _ h1
            cases args with
            | nil =>
              cases x with
              | nil => exact sd_call0 (A.L hh) (A.hrk hh) A.tk hja g1 hm g2
              | cons _ _ => simp [lenE] at hl
            | cons e es => exact sd_call (A.L hh) (A.hrk hh) A.tk hja g1 hm g2 a1 (a2 X G W k Φ En C0 A E R.l)
          · split at h
            · rename_i ks hks
              split at h
              · rename_i hq
                simp only [Bool.and_eq_true, Bool.not_eq_true', List.contains_iff_mem] at hq
                obtain ⟨x, r1, r2, h1, k1, rfl⟩ := TM.bnd_eq h
                obtain ⟨y, r3, r4, h2, k2, rfl⟩ := TM.bnd_eq k1
                obtain ⟨rfl, rfl⟩ := TM.ret_eq k2
                obtain ⟨a1, a2⟩ := I.a _ _ _ _ h1
                have hl := trA_len _ _ _ _ h1
                have hl2 := trK_len _ _ _ _ h2
                cases args with
                | nil => exact absurd hq.2 (by simp)
                | cons e es => exact sd_callK (A.L hh) (A.hrk hh) A.tk hja g1 hm g2 hq.1 hks hl (by rw [hl2, kwNames_len hks]) a1 (a2 X G W k Φ En C0 A E R.l) (I.k _ _ _ _ h2 X G W k Φ En C0 A E R.r.l)
              · cases h
            · cases h
        · cases h
        · split at h
          · rename_i c j hct
            split at h
            · rename_i ks hks
              split at h
              · rename_i hq
                obtain ⟨x, r1, r2, h1, k1, rfl⟩ := TM.bnd_eq h
                obtain ⟨y, r3, r4, h2, k2, rfl⟩ := TM.bnd_eq k1
                obtain ⟨rfl, rfl⟩ := TM.ret_eq k2
                obtain ⟨a1, a2⟩ := I.a _ _ _ _ h1
                have hl := trA_len _ _ _ _ h1
                have hl2 := trK_len _ _ _ _ h2
                exact sd_new (A.L hh) (A.hr hh) A.tk (E.ct.new hct) g1 g2 hks (kw_or hq) hl (by rw [hl2, kwNames_len hks]) a1 (a2 X G W k Φ En C0 A E R.l) (I.k _ _ _ _ h2 X G W k Φ En C0 A E R.r.l)
              · cases h
            · cases h
          · split at h
            · rename_i hq
              simp only [Bool.and_eq_true] at hq
              have hk := nilOf hq.2
              subst hk
              exact (I.b _ _ _ _ _ _ _ h (by unfold CE.blt; rw [hg, hq.1]; rfl) X G W k Φ En C0 A E R).1
            · cases h
      · cases h
  · rename_i a m apos args kws cpos
    split at h
    · rename_i hq
      exact I.c _ _ _ _ _ _ _ _ _ h hq.1 hq.2
    · cases h
  · cases h
theorem good_c {n : Nat} (I : Good n) : ∀ ce a m args kws ie r apos cpos, trC (n + 1) ce a m args kws = some (ie, r) → recvB a = true → apos.endLine = cpos.line → OkE ce (.Call (.Attribute a m apos) args kws cpos) ie r := by
  intro ce a m args kws ie r apos cpos h hr hl
  refine okV (call_true _ _ _ _) fun X G W k Φ En C0 A E R => ?_
  have hu := A.hu
  unfold trC at h
  split at h
  · split at h
    · rename_i hk
      have hk := nilOf hk
      subst hk
      split at h
      · rename_i kk
        split at h
        · cases h
        rename_i hs
        have hs := Bool.eq_false_iff.mpr hs
        split at h
        · rename_i hm
          subst hm
          obtain ⟨x, r1, r2, h1, k1, rfl⟩ := TM.bnd_eq h
          obtain ⟨y, r3, r4, h2', k2, rfl⟩ := TM.bnd_eq k1
          obtain ⟨rfl, rfl⟩ := TM.ret_eq k2
          exact sd_dget1 (by omega) (I.p _ _ _ _ h1 X G W k Φ En C0 A E R.l) (I.e _ _ _ _ h2' X G W k Φ En C0 A E R.r.l).1 (m1_of hr (starB_ok hs) hl)
        · split at h
          · rename_i hm
            subst hm
            obtain ⟨x, r1, r2, h1, k1, rfl⟩ := TM.bnd_eq h
            obtain ⟨y, r3, r4, h2', k2, rfl⟩ := TM.bnd_eq k1
            obtain ⟨rfl, rfl⟩ := TM.ret_eq k2
            exact sd_lcnt (by simpa using hl) hr (starB_ok hs) (I.e _ _ _ _ h1 X G W k Φ En C0 A E R.l).1 (I.e _ _ _ _ h2' X G W k Φ En C0 A E R.r.l).1
          · split at h
            · rename_i hm
              subst hm
              obtain ⟨x, r1, r2, h1, k1, rfl⟩ := TM.bnd_eq h
              obtain ⟨y, r3, r4, h2', k2, rfl⟩ := TM.bnd_eq k1
              obtain ⟨rfl, rfl⟩ := TM.ret_eq k2
              exact sd_lidx (by simpa using hl) hr (starB_ok hs) (I.e _ _ _ _ h1 X G W k Φ En C0 A E R.l).1 (I.e _ _ _ _ h2' X G W k Φ En C0 A E R.r.l).1
            · cases h
      · rename_i kk d
        split at h
        · cases h
        rename_i hs
        simp only [Bool.or_eq_true, not_or, Bool.not_eq_true] at hs
        split at h
        · rename_i hm
          subst hm
          obtain ⟨x, r1, r2, h1, k1, rfl⟩ := TM.bnd_eq h
          obtain ⟨y, r3, r4, h2', k2, rfl⟩ := TM.bnd_eq k1
          obtain ⟨z, r5, r6, h3', k3, rfl⟩ := TM.bnd_eq k2
          obtain ⟨rfl, rfl⟩ := TM.ret_eq k3
          exact sd_dget2 (by omega) (I.p _ _ _ _ h1 X G W k Φ En C0 A E R.l) (I.e _ _ _ _ h2' X G W k Φ En C0 A E R.r.l).1 (I.e _ _ _ _ h3' X G W k Φ En C0 A E R.r.r.l).1 (m2_of hr (starB_ok hs.1) (starB_ok hs.2) hl)
        · cases h
      · cases h
    · cases h
  · obtain ⟨hh, h'⟩ := TM.grd_eq h
    split at h'
    · rename_i ks hks
      split at h'
      · rename_i hq
        obtain ⟨o, r1, r2, h1, k1, rfl⟩ := TM.bnd_eq h'
        obtain ⟨x, r3, r4, h2, k2, rfl⟩ := TM.bnd_eq k1
        obtain ⟨y, r5, r6, h3, k3, rfl⟩ := TM.bnd_eq k2
        obtain ⟨rfl, rfl⟩ := TM.ret_eq k3
        obtain ⟨a1, a2⟩ := I.a _ _ _ _ h2
        have hl1 := trA_len _ _ _ _ h2
        have hl2 := trK_len _ _ _ _ h3
        exact sd_meth (A.L hh) (A.hrk hh) A.tk E.ct.met hr hq.1 hl hks (kw_all hq.2) hl1 (by rw [hl2, kwNames_len hks]) a1 (I.e _ _ _ _ h1 X G W k Φ En C0 A E R.l).1 (a2 X G W k Φ En C0 A E R.r.l) (I.k _ _ _ _ h3 X G W k Φ En C0 A E R.r.r.l)
      · cases h'
    · cases h'
theorem good : ∀ n, Good n
  | 0 => by
    refine ⟨?_, ?_, ?_, ?_, ?_, ?_, ?_, ?_, ?_, ?_, ?_, ?_, ?_, ?_, ?_⟩
    · intro ce e ie r h; unfold trE at h; cases h
    · intro ce f args ie r p pos h; unfold trB at h; cases h
    · intro ce e ie r h; unfold trAnd at h; cases h
    · intro ce e ie r h; unfold trOr at h; cases h
    · intro ce e ie r h; unfold trF at h; cases h
    · intro ce e ie r h; unfold trP at h; cases h
    · intro ce e ie r h; unfold trO at h; cases h
    · intro ce e ie r h; unfold trA at h; cases h
    · intro ce e ie r h; unfold trK at h; cases h
    · intro ce ks e ie r h; unfold trD at h; cases h
    · intro ce e ie r h; unfold trTs at h; cases h
    · intro ce tg e ie r h; unfold trI at h; cases h
    · intro ce e ie r h; unfold trG at h; cases h
    · intro ce e ie r h; unfold trGs at h; cases h
    · intro ce a m args kws ie r apos cpos h; unfold trC at h; cases h
  | n + 1 =>
    have I := good n
    ⟨good_e I, good_b I, good_and I, good_or I, good_f I, good_p I, good_o I, good_a I, good_k I, good_d I, good_ts I, good_i I, good_g I, good_gs I, good_c I⟩
end TL

set_option linter.all false
set_option maxRecDepth 100000
set_option maxHeartbeats 4000000
/-! TLStm: statements, helpers. Own work. -/
namespace TL
open PySem PySem.Spec PyProof.Rows L2 NdefX LamX
theorem namesOf_eq : ∀ {ns : List Expr} {xs : List (Str × Pos)}, namesOf ns = some xs → ns = xs.map fun x => .Name x.1 x.2
  | [], xs, h => by cases h; rfl
  | .Name x p :: ns, xs, h => by
    simp only [namesOf, Option.map_eq_some_iff] at h
    obtain ⟨r, h1, rfl⟩ := h
    simp [← namesOf_eq h1]
  | .Constant .. :: ns, xs, h => by cases h
  | .BinOp .. :: ns, xs, h => by cases h
theorem eraseDups2 {a b : Str} (h : a ≠ b) : ([a, b] : List Str).eraseDups.length = 2 := by
  have e : (b == a) = false := by simp [Ne.symm h]
  simp [List.eraseDups_cons, e]
theorem eraseDups3 {a b c : Str} (h : a ≠ b) (h2 : a ≠ c) (h3 : b ≠ c) : ([a, b, c] : List Str).eraseDups.length = 3 := by
  have e : (b == a) = false := by simp [Ne.symm h]
  have e2 : (c == a) = false := by simp [Ne.symm h2]
  have e3 : (c == b) = false := by simp [Ne.symm h3]
  simp [List.eraseDups_cons, e, e2, e3]
/-- the names that swappedStores collects -/
def swNames (env : Env) (ts : List Expr) : List Str := ts.filterMap fun
    | .Name id pos => if env.kindOf id == some .local && pos.line == ((ts.head?.map (·.pos.line)).getD 0) then some id else none
    | _ => none
theorem filterMap_len {α β : Type} (f : α → Option β) : ∀ {l : List α}, (l.filterMap f).length = l.length ↔ ∀ x ∈ l, (f x).isSome = true
  | [] => by simp
  | x :: l => by
    cases h : f x with
    | none =>
      simp only [List.filterMap_cons, h, List.length_cons, List.mem_cons, forall_eq_or_imp, Option.isSome_none]
      have := List.length_filterMap_le f l
      constructor
      · intro z; omega
      · intro z; exact absurd z.1 (by simp)
    | some b =>
      simp only [List.filterMap_cons, h, List.length_cons, List.mem_cons, forall_eq_or_imp, Option.isSome_some, true_and]
      rw [← filterMap_len f (l := l)]
      omega
section
variable {X : Cx} {ns vs : List Expr} {xs : List (Str × Pos)} {env : Env} {k k2 : Nat} {p p2 : Pos}
theorem blk_fun (h : env.scope.kind = .function) : env.blockKind = .function := by
  unfold Env.blockKind
  rw [h]; rfl
theorem head_line {l : List (Str × Pos)} : ((l.map fun x => Expr.Name x.1 x.2).head?.map (·.pos.line)).getD 0 = (l.head?.map (·.2.line)).getD 0 := by
  cases l <;> rfl
theorem star_any (h : ∀ e ∈ vs, starB e = false) : (vs.any fun | .Starred .. => true | _ => false) = false := by
  rw [List.any_eq_false]
  intro e he
  have := h e he
  cases e <;> first | (simp; done) | (cases this)
def swL (l : List (Str × Pos)) : Nat := (l.head?.map (·.2.line)).getD 0
def swF (env : Env) (n : Nat) (x : Str × Pos) : Bool := env.scope.names.lookup x.1 == some .local && x.2.line == n
theorem swapped_eq (hk : env.scope.kind = .function) (hs : ∀ e ∈ vs, starB e = false) :
    swappedStores [.Tuple (xs.map fun x => .Name x.1 x.2) k p] (.Tuple vs k2 p2) env = (if !(xs.length == 2 || xs.length == 3) || vs.length != xs.length then pure none else
      (if (xs.filterMap fun x => if swF env (swL xs) x then some x.1 else none).length != xs.length || (xs.filterMap fun x => if swF env (swL xs) x then some x.1 else none).eraseDups.length != (xs.filterMap fun x => if swF env (swL xs) x then some x.1 else none).length then pure none else
        if vs.all (foldedForSure 8) then pure none else if vs.all (constantsAlone 8) then (do unsupported "assign.tuple-of-constant-expressions:order-of-the-stores"; pure (some (xs.filterMap fun x => if swF env (swL xs) x then some x.1 else none))) else pure (some (xs.filterMap fun x => if swF env (swL xs) x then some x.1 else none)))) := by
  unfold swappedStores
  simp only [blk_fun hk, star_any hs, List.length_map, head_line, bne_self_eq_false, Bool.or_false]
  split
  · rfl
  · split
    · rename_i h
      exact (Bool.false_ne_true ((star_any hs).symm.trans h)).elim
    · rw [List.filterMap_map]
      rfl
theorem namesF_all (h : xs.all (swF env (swL xs)) = true) : (xs.filterMap fun x => if swF env (swL xs) x then some x.1 else none) = xs.map (·.1) := by
  generalize swL xs = n at h ⊢
  induction xs with
  | nil => rfl
  | cons x xs ih =>
    simp only [List.all_cons, Bool.and_eq_true] at h
    simp only [List.filterMap_cons, h.1, if_true, List.map_cons, ih h.2]
theorem swapped_no (hk : env.scope.kind = .function) (hs : ∀ e ∈ vs, starB e = false) (hl : xs.length = vs.length) (h : swapNow env.scope xs vs = false) :
    swappedStores [.Tuple (xs.map fun x => .Name x.1 x.2) k p] (.Tuple vs k2 p2) env = pure none := by
  rw [swapped_eq hk hs]
  split
  · rfl
  · rename_i h1
    simp only [hl, bne_self_eq_false, Bool.or_false, Bool.not_eq_true, Bool.not_eq_false'] at h1
    split
    · rfl
    · rename_i h2
      simp only [Bool.not_eq_true, Bool.or_eq_false_iff, bne_eq_false_iff_eq] at h2
      split
      · rfl
      · rename_i h3
        exfalso
        have a : xs.all (swF env (swL xs)) = true := by
          rw [List.all_eq_true]
          intro x hx
          have := (filterMap_len _).mp h2.1 x hx
          split at this
          · rename_i q; exact q
          · cases this
        have : swapNow env.scope xs vs = true := by
          unfold swapNow
          rw [show (xs.all fun n => env.scope.names.lookup n.1 == some .local && n.2.line == ((xs.head?.map (·.2.line)).getD 0)) = true from a]
          rw [hl, h1]
          simpa using h3
        rw [h] at this
        cases this
theorem swapped_yes (hk : env.scope.kind = .function) (hs : ∀ e ∈ vs, starB e = false) (hl : xs.length = vs.length) (h : swapNow env.scope xs vs = true) (hc : vs.all (constantsAlone 8) = false) (hd : (xs.map (·.1)).eraseDups.length = xs.length) :
    (xs.length = 2 ∨ xs.length = 3) ∧ (∀ x ∈ xs, env.scope.names.lookup x.1 = some .local) ∧ swappedStores [.Tuple (xs.map fun x => .Name x.1 x.2) k p] (.Tuple vs k2 p2) env = pure (some (xs.map (·.1))) := by
  unfold swapNow at h
  simp only [Bool.and_eq_true] at h
  obtain ⟨⟨h1, h2⟩, h3⟩ := h
  have h2 : xs.all (swF env (swL xs)) = true := h2
  refine ⟨by simpa using h1, fun x hx => ?_, ?_⟩
  · have := List.all_eq_true.mp h2 x hx
    simp only [swF, Bool.and_eq_true] at this
    exact eq_of_beq this.1
  · rw [swapped_eq hk hs, namesF_all h2, h1, hl, hc]
    have h3 : vs.all (foldedForSure 8) = false := by simpa using h3
    simp [h3, hd, hl]
theorem sole_no (e : Expr) (he : ∀ a b c d, e ≠ .ListComp a b c d) (l : Nat) (t : Expr) (h : ∀ x p, t ≠ .Name x p) : swapsWith e (some t) l env = pure false := by
  unfold swapsWith
  cases e <;> first | rfl | skip
  all_goals (cases t <;> first | rfl | (exact (h _ _ rfl).elim))
theorem sole_not (e : Expr) (l : Nat) (t : Expr) (h : ∀ x p, t ≠ .Name x p) : swapsWith e (some t) l env = pure false := by
  unfold swapsWith
  cases e <;> first | rfl | (cases t <;> first | rfl | (exact (h _ _ rfl).elim))
theorem sole_plain {e : Expr} (h : compB e = false) (l : Nat) (t : Option Expr) : swapsWith e t l env = pure false := by
  unfold swapsWith
  cases e <;> first | rfl | cases h
theorem sole_comp {a gs sc lp x px} (hk : env.scope.kind = .function) (l : Nat) : swapsWith (.ListComp a gs sc lp) (some (.Name x px)) l env = pure (swB env.scope (.ListComp a gs sc lp) x px) := by
  unfold swapsWith
  simp only [blk_fun hk]
  rfl
theorem single_no (e : Expr) (t : Expr) (h : ∀ ts k p, t ≠ .Tuple ts k p) (h2 : ∀ ts p, t ≠ .List ts p) : swappedStores [t] e env = pure none := by
  unfold swappedStores
  cases t <;> first | rfl | (exact (h _ _ _ rfl).elim) | (exact (h2 _ _ rfl).elim)
theorem tup_no (e : Expr) (ts : List Expr) (h : ∀ ts k p, e ≠ .Tuple ts k p) : swappedStores [.Tuple ts k p] e env = pure none := by
  unfold swappedStores
  cases e <;> first | rfl | (exact (h _ _ _ rfl).elim)
theorem namesOf_none : ∀ {ns : List Expr}, namesOf ns = none → ∃ e ∈ ns, ∀ x p, e ≠ .Name x p
  | [], h => by cases h
  | e :: ns, h => by
    cases e with
    | Name x p =>
      simp only [namesOf, Option.map_eq_none_iff] at h
      obtain ⟨e, he, q⟩ := namesOf_none h
      exact ⟨e, List.mem_cons_of_mem _ he, q⟩
    | _ => exact ⟨_, List.mem_cons_self, fun x p => by simp⟩
theorem tup_none (h : namesOf ns = none) : swappedStores [.Tuple ns k p] (.Tuple vs k2 p2) env = pure none := by
  obtain ⟨e, he, q⟩ := namesOf_none h
  unfold swappedStores
  simp only []
  split
  · rfl
  · split
    · rfl
    · split
      · rfl
      · rename_i h1
        exfalso
        simp only [Bool.not_eq_true, Bool.or_eq_false_iff, bne_eq_false_iff_eq] at h1
        have := (filterMap_len _).mp h1.1 e he
        cases e <;> first | (cases this; done) | (exact q _ _ rfl)
end
end TL

set_option linter.all false
set_option maxRecDepth 100000
set_option maxHeartbeats 8000000
/-! TLStm2: statements. Own work. -/
namespace TL
open PySem PySem.Spec PyProof.Rows L2 NdefX LamX
def OkS (Ex : Exc) (ce : CE) (st : Stmt) (i : IS) (r : List Rq) : Prop := ∀ (X : Cx) (G : GT) (W : WX) (k : Nat) (Φ : Phi) (En : Ent) (C0 : Cells), Amb X G W En ce k Φ → PassesOwn (model X.prog X.w) X.A X.env X.xe → CEok ce X G → RqOk G r → PS X st (tS X G En C0 W (ex Φ Ex i))
def OkSs (Ex : Exc) (ce : CE) (st : List Stmt) (i : ISs) (r : List Rq) : Prop := ∀ (X : Cx) (G : GT) (W : WX) (k : Nat) (Φ : Phi) (En : Ent) (C0 : Cells), Amb X G W En ce k Φ → PassesOwn (model X.prog X.w) X.A X.env X.xe → CEok ce X G → RqOk G r → PSs X st (tS X G En C0 W (exs Φ Ex i))
def OkM (ce : CE) (os : List Bool) (es : List Expr) (is : IEs) (r : List Rq) : Prop := (∀ e ∈ es, starB e = false) ∧ os.length = es.length ∧ ∀ (X : Cx) (G : GT) (W : WX) (k : Nat) (Φ : Phi) (En : Ent) (C0 : Cells), Amb X G W En ce k Φ → CEok ce X G → RqOk G r →
  ∀ ts : List (Nat × Bool), ts.map (·.2) = os → PA X es (tM X G En C0 W ts (evs Φ is))
structure GoodS (Ex : Exc) (n : Nat) : Prop where
  s : ∀ ce st i r, ce.fnAll = true → trS n ce st = some (i, r) → OkS Ex ce st i r
  ss : ∀ ce l is r, ce.fnAll = true → trSs n ce l = some (is, r) → OkSs Ex ce l is r
  m : ∀ ce os es is r, trM n ce os es = some (is, r) → OkM ce os es is r
theorem good_m {Ex : Exc} {n : Nat} (I : GoodS Ex n) : ∀ ce os es is r, trM (n + 1) ce os es = some (is, r) → OkM ce os es is r := by
  intro ce os es is r h
  unfold trM at h
  split at h
  · obtain ⟨rfl, rfl⟩ := TM.ret_eq h
    refine ⟨fun e he => (by cases he), rfl, fun X G W k Φ En C0 A E R ts ht => ?_⟩
    cases ts with
    | nil => exact sm_nil
    | cons _ _ => simp at ht
  · rename_i o os e es
    split at h
    · cases h
    · rename_i hs
      have hs := Bool.eq_false_iff.mpr hs
      obtain ⟨x, r1, r2, h1, k1, rfl⟩ := TM.bnd_eq h
      obtain ⟨y, r3, r4, h2, k2, rfl⟩ := TM.bnd_eq k1
      obtain ⟨rfl, rfl⟩ := TM.ret_eq k2
      obtain ⟨g1, g2, g3⟩ := I.m _ _ _ _ _ h2
      refine ⟨fun e' he => ?_, by simp [g2], fun X G W k Φ En C0 A E R ts ht => ?_⟩
      · rcases List.mem_cons.mp he with rfl | he
        · exact hs
        · exact g1 e' he
      · cases ts with
        | nil => simp at ht
        | cons t ts =>
          obtain ⟨i, o'⟩ := t
          simp only [List.map_cons, List.cons.injEq] at ht
          obtain ⟨rfl, ht⟩ := ht
          have k3 := g3 X G W k Φ En C0 A E R.r.l ts ht
          cases o' with
          | true => exact sm_own (starB_ok hs) ((good n).f _ _ _ _ (by simpa using h1) X G W k Φ En C0 A E R.l) k3
          | false => exact sm_val (starB_ok hs) ((good n).e _ _ _ _ (by simpa using h1) X G W k Φ En C0 A E R.l).1 k3
  · cases h
theorem frz_all {X : Cx} {G : GT} {En : Ent} {C0 : Cells} {W : WX} {Φ : Phi} {Ex : Exc} {l : List Stmt} : ∀ (js : List Nat) {is : ISs}, PSs X l (tS X G En C0 W (exs Φ Ex is)) → PSs X l (tS X G En C0 W (exs Φ Ex (js.foldr (fun j r => .cons (.frz j) r) is)))
  | [], _, h => h
  | j :: js, _, h => ss_frz (frz_all js h)
theorem good_ss {Ex : Exc} {n : Nat} (I : GoodS Ex n) : ∀ ce l is r, ce.fnAll = true → trSs (n + 1) ce l = some (is, r) → OkSs Ex ce l is r := by
  intro ce l is r hf h X G W k Φ En C0 A po E R
  unfold trSs at h
  cases l with
  | nil =>
    obtain ⟨rfl, rfl⟩ := TM.ret_eq h
    exact ss_nil
  | cons st l =>
    simp only at h
    obtain ⟨x, r1, r2, h1, k1, rfl⟩ := TM.bnd_eq h
    obtain ⟨y, r3, r4, h2, k2, rfl⟩ := TM.bnd_eq k1
    obtain ⟨rfl, rfl⟩ := TM.ret_eq k2
    exact frz_all _ (ss_cons (I.s _ _ _ _ hf h1 X G W k Φ En C0 A po E R.l) (I.ss _ _ _ _ hf h2 X G W k Φ En C0 A po E R.r.l))
theorem sole_one {e t : Expr} {env : Env} (h : compB e = false) (l : Nat) (_x : Unit) : swapsWithSole [t] e l env = pure false := sole_plain h l (some t)
theorem sole_oneT {e t : Expr} {env : Env} (h : ∀ x p, t ≠ .Name x p) (l : Nat) : swapsWithSole [t] e l env = pure false := sole_not e l t h
theorem trF_comp : ∀ {n : Nat} {ce : CE} {elt gs sc lp ie r}, trF n ce (.ListComp elt gs sc lp) = some (ie, r) → ∃ m tg iter ifs it t c e r1 r2 r3 r4, ce.hot = false ∧ gs = [⟨tg, iter, ifs, 0⟩] ∧ blkC ce.N ce.sc sc (blkOwn ce.N sc) = true ∧ ie = .comp ((blkOwn ce.N sc).map (·.2)) t it c e ∧ r = r1 ++ (r2 ++ (r3 ++ (r4 ++ []))) ∧
    trI m ce tg iter = some (it, r1) ∧ trG m (ce.block sc) tg = some (t, r2) ∧ trTs m (ce.block sc) ifs = some (c, r3) ∧ trE m (ce.block sc) elt = some (e, r4)
  | 0, ce, elt, gs, sc, lp, ie, r, h => by unfold trF at h; cases h
  | n + 1, ce, elt, gs, sc, lp, ie, r, h => by
    unfold trF at h
    split at h
    · rename_i q; cases q
    · rename_i q; cases q
    · rename_i elt' tg iter ifs scope p q
      cases q
      obtain ⟨hh, h⟩ := TM.grd_eq h
      split at h
      · rename_i hb
        obtain ⟨x, r1, r2, h1, k1, rfl⟩ := TM.bnd_eq h
        obtain ⟨y, r3, r4, h2, k2, rfl⟩ := TM.bnd_eq k1
        obtain ⟨z, r5, r6, h3, k3, rfl⟩ := TM.bnd_eq k2
        obtain ⟨w, r7, r8, h4, k4, rfl⟩ := TM.bnd_eq k3
        obtain ⟨rfl, rfl⟩ := TM.ret_eq k4
        exact ⟨n, tg, iter, ifs, x, y, z, w, r1, r3, r5, r7, hh, rfl, hb, rfl, rfl, h1, h2, h3, h4⟩
      · cases h
    · cases h
theorem swB_local {sc : Scope} {elt gs scope lp} {x : Str} {p : Pos} (h : swB sc (.ListComp elt gs scope lp) x p = true) : sc.names.lookup x = some .local := by
  unfold swB at h
  simp only [Bool.and_eq_true] at h
  exact eq_of_beq h.1.1
theorem ixOf_inj : ∀ {N : List Str} {x y : Str} {i : Nat}, ixOf N x = some i → ixOf N y = some i → x = y := by
  intro N x y i h1 h2
  have a := ixOf_get h1
  have b := ixOf_get h2
  rw [a] at b
  exact Option.some.inj b
theorem good_asgN {Ex : Exc} {n : Nat} {ce : CE} {x : Str} {p pos : Pos} {e : Expr} {i : Nat} {st : IS} {r : List Rq} (hf : ce.fnAll = true) (ha : ce.asgB x = true) (hi : ixOf ce.N x = some i)
    (h : (match e with
          | .ListComp _ _ _ _ => (trF n ce e).bnd fun v => .ret (if ce.own.contains i then IS.asgO i v else .asg (.nm i) v)
          | e => if compB e then none else if ownIx ce.own e i then (trF n ce e).bnd fun v => .ret (.asgO i v) else (trE n ce e).bnd fun v => .ret (.asg (.nm i) v)) = some (st, r)) : OkS Ex ce (.Assign [.Name x p] e pos) st r := by
  intro X G W k Φ En C0 A po E R
  obtain ⟨h1, h2⟩ := E.asgOk ha
  have hN : X.N[i]? = some x := by rw [E.N]; exact ixOf_get hi
  have hG : PG X (.Name x p) (tG X G En C0 W [i] (asg Φ (.nm i))) := sg_name A.hN hN h1 h2
  have hw : swappedStores [.Name x p] e X.env = pure none := single_no e _ (by simp) (by simp)
  have hk := E.kind hf
  split at h
  · rename_i elt gs sc lp
    obtain ⟨v, r1, r2, h3, k1, rfl⟩ := TM.bnd_eq h
    obtain ⟨rfl, rfl⟩ := TM.ret_eq k1
    by_cases hsw : swB X.env.scope (.ListComp elt gs sc lp) x p = true
    · obtain ⟨m, tg, iter, ifs, it, t, c, e, q1, q2, q3, q4, hh, rfl, hb, rfl, rfl, t1, t2, t3, t4⟩ := trF_comp h3
      obtain ⟨g1, g2⟩ := (good m).i _ _ _ _ _ t1
      exact ss_setLc (A.fx hh) (A.hc hh) A.hN hN (swB_local hsw) (by rw [sole_comp hk, hsw]) (blkOk_by (by rw [E.N, E.sc]; exact hb)) (fun x => g1 X x) (g2 X G W k Φ En C0 A E R.l.l)
        (fun sh H0 C cl fp => (good m).g _ _ _ _ t2 _ G noW k Φ En noC (amb_blk hh A) (ceok_blk E) R.l.r.l)
        (fun sh H0 C cl fp => (good m).ts _ _ _ _ t3 _ G noW k Φ En noC (amb_blk hh A) (ceok_blk E) R.l.r.r.l)
        (fun sh H0 C cl fp => ((good m).e _ _ _ _ t4 _ G noW k Φ En noC (amb_blk hh A) (ceok_blk E) R.l.r.r.r.l).1)
    · have hsw := Bool.eq_false_iff.mpr hsw
      have hs : swapsWith (.ListComp elt gs sc lp) (some (.Name x p)) pos.line X.env = pure false := by rw [sole_comp hk, hsw]
      have g := (good n).f _ _ _ _ h3 X G W k Φ En C0 A E R.l
      split
      · exact ss_own A.hN hN h1 g hs h2
      · exact ss_asg (g := .nm i) (sd_know (ev_grow Φ v) g) hG hs hw (by simp)
  · rename_i e' hne
    split at h
    · cases h
    rename_i hcb
    have hs : swapsWith e (some (.Name x p)) pos.line X.env = pure false := sole_plain (Bool.eq_false_iff.mpr hcb) _ _
    split at h
    · obtain ⟨v, r1, r2, h3, k1, rfl⟩ := TM.bnd_eq h
      obtain ⟨rfl, rfl⟩ := TM.ret_eq k1
      exact ss_own A.hN hN h1 ((good n).f _ _ _ _ h3 X G W k Φ En C0 A E R.l) hs h2
    · obtain ⟨v, r1, r2, h3, k1, rfl⟩ := TM.bnd_eq h
      obtain ⟨rfl, rfl⟩ := TM.ret_eq k1
      exact ss_asg (g := .nm i) ((good n).e _ _ _ _ h3 X G W k Φ En C0 A E R.l).1 hG hs hw (by simp)
theorem all_asg {ce : CE} {X : Cx} {G : GT} (E : CEok ce X G) : ∀ {xs : List (Str × Pos)} {is : List Nat} {os : List Bool}, xs.all (fun x => ce.asgB x.1) = true → xs.map (fun x => ixOf ce.N x.1) = is.map some → os.length = is.length → Nms X (xs.map fun x => .Name x.1 x.2) (is.zip os)
  | [], [], [], _, _, _ => .nil
  | x :: xs, i :: is, o :: os, h, h2, h3 => by
    simp only [List.all_cons, Bool.and_eq_true] at h
    simp only [List.map_cons, List.cons.injEq] at h2
    obtain ⟨g1, g2⟩ := E.asgOk h.1
    exact .cons (by rw [E.N]; exact ixOf_get h2.1) g1 g2 (all_asg E h.2 h2.2 (by simpa using h3))
  | [], i :: is, _, _, h, _ => by simp at h
  | _ :: _, [], _, _, h, _ => by simp at h
  | [], [], _ :: _, _, _, h => by simp at h
  | _ :: _, _ :: _, [], _, _, h => by simp at h
theorem names_nd {N : List Str} : ∀ {xs : List (Str × Pos)} {is : List Nat}, xs.map (fun x => ixOf N x.1) = is.map some → is.Nodup → (xs.map (·.1)).Nodup
  | [], [], _, _ => List.nodup_nil
  | x :: xs, i :: is, h, nd => by
    simp only [List.map_cons, List.cons.injEq] at h
    rw [List.nodup_cons] at nd
    simp only [List.map_cons, List.nodup_cons]
    refine ⟨fun hm => nd.1 ?_, names_nd h.2 nd.2⟩
    obtain ⟨y, hy, e⟩ := List.mem_map.mp hm
    have : ixOf N y.1 ∈ is.map some := by rw [← h.2]; exact List.mem_map.mpr ⟨y, hy, rfl⟩
    obtain ⟨j, hj, ej⟩ := List.mem_map.mp this
    rw [e, h.1] at ej
    cases ej
    exact hj
  | [], _ :: _, h, _ => by simp at h
  | _ :: _, [], h, _ => by simp at h
theorem zip_map2 {α β γ : Type} (f : α → β → γ) : ∀ (is : List α) (vs : List β), (is.zip vs).map (fun iv => (iv.1, f iv.1 iv.2)) = is.zip ((is.zip vs).map fun iv => f iv.1 iv.2)
  | [], _ => rfl
  | _ :: _, [] => rfl
  | i :: is, v :: vs => by simp [zip_map2 f is vs]
theorem len2 {α : Type} {l : List α} (h : l.length = 2) : ∃ a b, l = [a, b] := by
  match l, h with
  | [a, b], _ => exact ⟨a, b, rfl⟩
theorem len3 {α : Type} {l : List α} (h : l.length = 3) : ∃ a b c, l = [a, b, c] := by
  match l, h with
  | [a, b, c], _ => exact ⟨a, b, c, rfl⟩
theorem good_par {Ex : Exc} {n : Nat} (I : GoodS Ex n) {ce : CE} {ns vs : List Expr} {k k2 : Nat} {p p2 pos : Pos} {xs : List (Str × Pos)} {is : List Nat} {ts : List (Nat × Bool)} {es : IEs} {r : List Rq} (hf : ce.fnAll = true) (hn : namesOf ns = some xs) (hl : xs.length = vs.length)
    (ha : xs.all (fun x => ce.asgB x.1) = true) (hi : allSome (xs.map fun x => ixOf ce.N x.1) = some is) (hts : ts = (is.zip vs).map fun iv => (iv.1, ownIx ce.own iv.2 iv.1)) (h1 : (ts.filter (·.2)).length ≤ 1) (h2 : ts.length ≤ 1000) (h3 : is.Nodup)
    (h4 : (swapNow ce.sc xs vs && vs.all (constantsAlone 8)) = false) (h5 : trM n ce (ts.map (·.2)) vs = some (es, r)) (hh : ce.hot = false) : OkS Ex ce (.Assign [.Tuple ns k p] (.Tuple vs k2 p2) pos) (.par ts es) r := by
  intro X G W kk Φ En C0 A po E R
  have hk := E.kind hf
  have hi := allSome_ok hi
  rw [namesOf_eq hn]
  obtain ⟨m1, m2, m3⟩ := I.m _ _ _ _ _ h5
  have m3 := m3 X G W kk Φ En C0 A E R ts rfl
  have hil : xs.length = is.length := by simpa using congrArg List.length hi
  have hs : swapsWithSole [.Tuple (xs.map fun x => .Name x.1 x.2) k p] (.Tuple vs k2 p2) pos.line X.env = pure false := sole_one rfl _ ()
  have nms : Nms X (xs.map fun x => .Name x.1 x.2) ts := by
    rw [hts, zip_map2 (fun i v => ownIx ce.own v i)]
    exact all_asg E ha hi (by simp [← hil, hl])
  by_cases hsw : swapNow X.env.scope xs vs = true
  · have hc : vs.all (constantsAlone 8) = false := by
      rw [← E.sc, hsw] at h4
      simpa using h4
    have nd := names_nd hi h3
    have yes := fun hd => swapped_yes (k := k) (k2 := k2) (p := p) (p2 := p2) hk m1 hl hsw hc hd
    have len23 : xs.length = 2 ∨ xs.length = 3 := by
      unfold swapNow at hsw
      simp only [Bool.and_eq_true] at hsw
      simpa using hsw.1.1
    rcases len23 with hl2 | hl3
    · obtain ⟨a, b, rfl⟩ := len2 (hl.symm.trans hl2)
      obtain ⟨i, j, rfl⟩ := len2 (hil.symm.trans hl2)
      obtain ⟨⟨x, px⟩, ⟨y, py⟩, rfl⟩ := len2 hl2
      · have hxy : x ≠ y := fun e => by subst e; simp at nd
        obtain ⟨_, loc, hw⟩ := yes (eraseDups2 hxy)
        simp only [List.map_cons, List.cons.injEq, List.map_nil, and_true] at hi
        have hij : i ≠ j := fun e => by subst e; simp at h3
        subst hts
        exact ss_par2 (A.hc hh) A.hN (by rw [E.N]; exact ixOf_get hi.1) (by rw [E.N]; exact ixOf_get hi.2) hij (loc (x, px) (by simp)) (loc (y, py) (by simp)) h1 m3 hw hs
    · obtain ⟨a, b, c, rfl⟩ := len3 (hl.symm.trans hl3)
      obtain ⟨i, j, l, rfl⟩ := len3 (hil.symm.trans hl3)
      obtain ⟨⟨x, px⟩, ⟨y, py⟩, ⟨z, pz⟩, rfl⟩ := len3 hl3
      · have hxy : x ≠ y := fun e => by subst e; simp at nd
        have hxz : x ≠ z := fun e => by subst e; simp at nd
        have hyz : y ≠ z := fun e => by subst e; simp at nd
        obtain ⟨_, loc, hw⟩ := yes (eraseDups3 hxy hxz hyz)
        simp only [List.map_cons, List.cons.injEq, List.map_nil, and_true] at hi
        have hij : i ≠ j := fun e => by subst e; simp at h3
        have hil : i ≠ l := fun e => by subst e; simp at h3
        have hjl : j ≠ l := fun e => by subst e; simp at h3
        subst hts
        exact ss_par3 (A.hc hh) A.hN (by rw [E.N]; exact ixOf_get hi.1) (by rw [E.N]; exact ixOf_get hi.2.1) (by rw [E.N]; exact ixOf_get hi.2.2) hij hil hjl (loc (x, px) (by simp)) (loc (y, py) (by simp)) (loc (z, pz) (by simp)) h1 m3 hw hs
  · exact ss_parT (A.hc hh) A.hN nms h1 h2 m3 hs (swapped_no hk m1 hl (Bool.eq_false_iff.mpr hsw))
theorem apOf_ok {ce : CE} {f : Expr} {args : List Expr} {kws : List Keyword} {p : Pos} {j : Nat} {b : Bool} {e : Expr} (h : apOf ce f args kws p = some (j, b, e)) :
    ∃ x px apos, f = .Attribute (.Name x px) (if b = true then "append" else "extend") apos ∧ args = [e] ∧ kws = [] ∧ starB e = false ∧ apos.endLine = p.line ∧ ce.loc x = some j := by
  unfold apOf at h
  split at h
  · split at h
    · rename_i hq
      split at h
      · rename_i i hi
        split at h
        · rename_i hm
          simp only [Bool.and_eq_true, beq_iff_eq] at hm
          cases h
          exact ⟨_, _, _, by rw [hm.2]; rfl, rfl, rfl, hq.1, hq.2, hi⟩
        · split at h
          · rename_i hm
            simp only [Bool.and_eq_true, beq_iff_eq] at hm
            cases h
            exact ⟨_, _, _, by rw [hm.2]; rfl, rfl, rfl, hq.1, hq.2, hi⟩
          · cases h
      · cases h
    · cases h
  · cases h
theorem xcT_ok {xt : List XD} {x : Str} {c : Nat} {f : Option Str} (h : xcT xt x = some (c, f)) : xt[c]? = some ⟨x, f⟩ := by
  obtain ⟨⟨xd, i⟩, h1, h2⟩ := List.exists_of_findSome?_eq_some h
  split at h2
  · rename_i hx
    simp only [Option.some.injEq, Prod.mk.injEq] at h2
    obtain ⟨rfl, rfl⟩ := h2
    have h4 : xt[i]? = some xd := List.mem_zipIdx_iff_getElem?.mp h1
    obtain ⟨a, b⟩ := xd
    have hx : a = x := hx
    rw [h4, hx]
  · cases h2
theorem good_s {Ex : Exc} {n : Nat} (I : GoodS Ex n) : ∀ ce st i r, ce.fnAll = true → trS (n + 1) ce st = some (i, r) → OkS Ex ce st i r := by
  intro ce st i r hf h
  unfold trS at h
  split at h
  · obtain ⟨rfl, rfl⟩ := TM.ret_eq h
    exact fun X G W k Φ En C0 A po E R => ss_doc
  · -- a call
    rename_i f args kws p pos
    split at h
    · rename_i j e hap
      obtain ⟨x, px, apos, rfl, rfl, rfl, hs, hl, hj⟩ := apOf_ok hap
      obtain ⟨v, r1, r2, h1, k1, rfl⟩ := TM.bnd_eq h
      obtain ⟨rfl, rfl⟩ := TM.ret_eq k1
      intro X G W k Φ En C0 A po E R
      obtain ⟨g1, g2, g3, g4⟩ := E.locOk hj
      exact ss_append g1 g2 g3 g4 (by simpa using hl) (starB_ok hs) ((good n).e _ _ _ _ h1 X G W k Φ En C0 A E R.l).1
    · rename_i j e hap
      obtain ⟨x, px, apos, rfl, rfl, rfl, hs, hl, hj⟩ := apOf_ok hap
      obtain ⟨v, r1, r2, h1, k1, rfl⟩ := TM.bnd_eq h
      obtain ⟨rfl, rfl⟩ := TM.ret_eq k1
      intro X G W k Φ En C0 A po E R
      obtain ⟨g1, g2, g3, g4⟩ := E.locOk hj
      exact ss_extend g1 g2 g3 g4 (by simpa using hl) (starB_ok hs) ((good n).e _ _ _ _ h1 X G W k Φ En C0 A E R.l).1
    · obtain ⟨v, r1, r2, h1, k1, rfl⟩ := TM.bnd_eq h
      obtain ⟨rfl, rfl⟩ := TM.ret_eq k1
      exact fun X G W k Φ En C0 A po E R => ss_expr ((good n).e _ _ _ _ h1 X G W k Φ En C0 A E R.l).1 (sole_plain rfl _ _)
  · rename_i x p e pos
    split at h
    · rename_i ha
      split at h
      · rename_i j hj
        exact good_asgN hf ha hj h
      · cases h
    · cases h
  · -- several names
    rename_i ns k p vs k2 p2 pos
    split at h
    · rename_i xs hn
      replace h := TM.grd_eq h
      obtain ⟨hh, h⟩ := h
      split at h
      · rename_i hq
        split at h
        · rename_i is hi
          simp only at h
          split at h
          · rename_i hz
            obtain ⟨es, r1, r2, h1, k1, rfl⟩ := TM.bnd_eq h
            obtain ⟨rfl, rfl⟩ := TM.ret_eq k1
            intro X G W kk Φ En C0 A po E R
            exact good_par I hf hn hq.1 hq.2 hi rfl hz.1 hz.2.1 hz.2.2.1 hz.2.2.2 h1 hh X G W kk Φ En C0 A po E R.l
          · cases h
        · cases h
      · cases h
    · rename_i hn
      obtain ⟨v, r1, r2, h1, k1, rfl⟩ := TM.bnd_eq h
      obtain ⟨t, r3, r4, h2, k2', rfl⟩ := TM.bnd_eq k1
      obtain ⟨rfl, rfl⟩ := TM.ret_eq k2'
      exact fun X G W k Φ En C0 A po E R => ss_asg (g := .nm 0) ((good n).e _ _ _ _ h1 X G W k Φ En C0 A E R.l).1 ((good n).g _ _ _ _ h2 X G W k Φ En C0 A E R.r.l) (sole_one rfl _ ()) (tup_none hn) (by simp)
  · rename_i ns k p e pos hne
    split at h
    · cases h
    · rename_i e' hnc
      obtain ⟨v, r1, r2, h1, k1, rfl⟩ := TM.bnd_eq h
      obtain ⟨t, r3, r4, h2, k2', rfl⟩ := TM.bnd_eq k1
      obtain ⟨rfl, rfl⟩ := TM.ret_eq k2'
      exact fun X G W k Φ En C0 A po E R => ss_asg (g := .nm 0) ((good n).e _ _ _ _ h1 X G W k Φ En C0 A E R.l).1 ((good n).g _ _ _ _ h2 X G W k Φ En C0 A E R.r.l) (sole_oneT (by simp) _) (tup_no _ _ (fun ts k p z => hne _ _ _ z)) (by simp)
  · -- a subscript
    rename_i a i' p e pos
    split at h
    · cases h
    · rename_i hs
      have hs := Bool.eq_false_iff.mpr hs
      split at h
      · cases h
      · rename_i e' hnc
        have sub : ∀ {st r}, (trE n ce a).bnd (fun y => (trE n ce i').bnd fun k => (trE n ce e).bnd fun v => .ret (.asg (.sb y k) v)) = some (st, r) → OkS Ex ce (.Assign [.Subscript a i' p] e pos) st r := by
          intro st r h
          obtain ⟨y, r1, r2, h1, k1, rfl⟩ := TM.bnd_eq h
          obtain ⟨k, r3, r4, h2, k2', rfl⟩ := TM.bnd_eq k1
          obtain ⟨v, r5, r6, h3, k3, rfl⟩ := TM.bnd_eq k2'
          obtain ⟨rfl, rfl⟩ := TM.ret_eq k3
          exact fun X G W k Φ En C0 A po E R => ss_asg (g := .nm 0) ((good n).e _ _ _ _ h3 X G W k Φ En C0 A E R.r.r.l).1 (sg_sub (by have := A.hu; omega) (sliceB_ok hs) ((good n).e _ _ _ _ h1 X G W k Φ En C0 A E R.l).1 ((good n).e _ _ _ _ h2 X G W k Φ En C0 A E R.r.l).1) (sole_oneT (by simp) _) (single_no _ _ (by simp) (by simp)) (by simp)
        split at h
        · rename_i x px
          split at h
          · rename_i j hj
            split at h
            · obtain ⟨k, r1, r2, h1, k1, rfl⟩ := TM.bnd_eq h
              obtain ⟨v, r3, r4, h2, k2', rfl⟩ := TM.bnd_eq k1
              obtain ⟨rfl, rfl⟩ := TM.ret_eq k2'
              intro X G W kk Φ En C0 A po E R
              obtain ⟨g1, g2, g3, g4⟩ := E.locOk hj
              have hu := A.hu
              exact ss_dput (by omega) g1 g2 g3 g4 ((good n).e _ _ _ _ h1 X G W kk Φ En C0 A E R.l).1 ((good n).e _ _ _ _ h2 X G W kk Φ En C0 A E R.r.l).1 (sole_not _ _ _ (by simp))
            · exact sub h
          · cases h
        · exact sub h
  · -- a field stored
    rename_i a f p e pos
    split at h
    · obtain ⟨rfl, rfl⟩ := TM.ret_eq h
      exact fun X G W k Φ En C0 A po E R => ss_stuck
    · obtain ⟨v, r1, r2, h1, k1, rfl⟩ := TM.bnd_eq h
      obtain ⟨x, r3, r4, h2, k2', rfl⟩ := TM.bnd_eq k1
      obtain ⟨rfl, rfl⟩ := TM.ret_eq k2'
      exact fun X G W k Φ En C0 A po E R => ss_fput E.ct.fld ((good n).e _ _ _ _ h2 X G W k Φ En C0 A E R.r.l).1 ((good n).e _ _ _ _ h1 X G W k Φ En C0 A E R.l).1 (sole_not _ _ _ (by simp))
  · -- raise
    rename_i x p args cp pos
    split at h
    · obtain ⟨rfl, rfl⟩ := TM.ret_eq h
      exact fun X G W k Φ En C0 A po E R => ss_stuck
    · rename_i hq
      simp only [not_or, Bool.not_eq_true, Bool.not_eq_false] at hq
      obtain ⟨hh, hg⟩ := hq
      split at h
      · rename_i c hx
        split at h
        · obtain ⟨rfl, rfl⟩ := TM.ret_eq h
          intro X G W k Φ En C0 A po E R
          obtain ⟨g1, g2, g3⟩ := E.globOk hg
          exact E.xt.raise0 (xcT_ok hx) (A.hc hh) A.tk g1 g2
        · obtain ⟨rfl, rfl⟩ := TM.ret_eq h
          exact fun X G W k Φ En C0 A po E R => ss_stuck
      · rename_i c f hx
        split at h
        · rename_i e
          split at h
          · obtain ⟨rfl, rfl⟩ := TM.ret_eq h
            exact fun X G W k Φ En C0 A po E R => ss_stuck
          · rename_i hs
            obtain ⟨v, r1, r2, h1, k1, rfl⟩ := TM.bnd_eq h
            obtain ⟨rfl, rfl⟩ := TM.ret_eq k1
            intro X G W k Φ En C0 A po E R
            obtain ⟨g1, g2, g3⟩ := E.globOk hg
            exact E.xt.raise1 (xcT_ok hx) (A.hr hh) (A.hc hh) A.tk g1 g2 (starB_ok (Bool.eq_false_iff.mpr hs)) ((good n).e _ _ _ _ h1 X G W k Φ En C0 A E R.l).1
        · obtain ⟨rfl, rfl⟩ := TM.ret_eq h
          exact fun X G W k Φ En C0 A po E R => ss_stuck
      · obtain ⟨rfl, rfl⟩ := TM.ret_eq h
        exact fun X G W k Φ En C0 A po E R => ss_stuck
  · -- try
    rename_i b xc np x s0 su hp pos
    obtain ⟨hh, h'⟩ := TM.grd_eq h
    split at h'
    · rename_i hq
      obtain ⟨hg, hlx, hax⟩ := hq
      split at h'
      · rename_i cs i hcs hi
        obtain ⟨v, r1, r2, h1, k1, rfl⟩ := TM.bnd_eq h'
        obtain ⟨y, r3, r4, h2, k2', rfl⟩ := TM.bnd_eq k1
        obtain ⟨rfl, rfl⟩ := TM.ret_eq k2'
        intro X G W k Φ En C0 A po E R
        obtain ⟨g1, g2, g3⟩ := E.globOk hg
        obtain ⟨cv, hcv, hk⟩ := E.sb xc cs hcs
        have hN : X.N[i]? = some x := by rw [E.N]; exact ixOf_get hi
        have nm : Names X xc cv := ⟨g1, g2, by
          rcases hcv with ⟨B, rfl, hm⟩ | ⟨T, rfl, hm, hv⟩
          · exact .inl hm
          · exact .inr ⟨hm, hv, g3⟩⟩
        refine ss_tryx (A.fx hh) (E.stk hf) (E.frm hf) A.hN hN ?_ nm A.tk (fun c A' gA => (hk c A' gA).1) (fun W' pn xe tk po' => ?_) (fun a oe pn En' Φ' hot => ?_)
        · show X.env.scope.names.lookup x = _
          rw [E.sc]
          exact hlx
        · exact I.ss _ _ _ _ hf h1 (X.tr pn xe) G W' k Φ En C0 ⟨A.L, A.hr, tk, A.hc, A.hN, A.hu, A.fx, fun z => (by rw [hh] at z; cases z)⟩ po' ⟨E.N, E.sc, E.fn, E.kind, E.bk, E.gl, E.bl, E.stk, E.frm, E.ct, E.xt, E.sb, E.lk⟩ R.l
        · refine I.ss { ce with hot := true, ev := some x } _ _ _ hf h2 (X.suite a ((a, oe) :: pn)) G (fun _ _ _ _ => False) k Φ' En' C0 ⟨fun z => (by cases z), fun z => (by cases z), LamX.takes0, fun z => (by cases z), A.hN, A.hu, fun z => (by cases z), fun _ => ⟨i, x, cs, rfl, hN, hot⟩⟩ .never ⟨E.N, E.sc, E.fn, E.kind, E.bk, E.gl, E.bl, E.stk, E.frm, E.ct, E.xt, E.sb, E.lk⟩ R.r.l
      · cases h'
    · cases h'
  · obtain ⟨rfl, rfl⟩ := TM.ret_eq h
    exact fun X G W k Φ En C0 A po E R => ss_retN
  · split at h
    · obtain ⟨v, r1, r2, h1, k1, rfl⟩ := TM.bnd_eq h
      obtain ⟨rfl, rfl⟩ := TM.ret_eq k1
      exact fun X G W k Φ En C0 A po E R => ss_ret (sd_sh ((good n).f _ _ _ _ h1 X G W k Φ En C0 A E R.l))
    · obtain ⟨v, r1, r2, h1, k1, rfl⟩ := TM.bnd_eq h
      obtain ⟨rfl, rfl⟩ := TM.ret_eq k1
      exact fun X G W k Φ En C0 A po E R => ss_ret ((good n).e _ _ _ _ h1 X G W k Φ En C0 A E R.l).1
  · obtain ⟨v, r1, r2, h1, k1, rfl⟩ := TM.bnd_eq h
    obtain ⟨x, r3, r4, h2, k2', rfl⟩ := TM.bnd_eq k1
    obtain ⟨y, r5, r6, h3, k3, rfl⟩ := TM.bnd_eq k2'
    obtain ⟨rfl, rfl⟩ := TM.ret_eq k3
    exact fun X G W k Φ En C0 A po E R => ss_if ((good n).e _ _ _ _ h1 X G W k Φ En C0 A E R.l).2 (I.ss _ _ _ _ hf h2 X G W k Φ En C0 A po E R.r.l) (I.ss _ _ _ _ hf h3 X G W k Φ En C0 A po E R.r.r.l)
  · replace h := TM.grd_eq h
    obtain ⟨hh, h⟩ := h
    obtain ⟨v, r1, r2, h1, k1, rfl⟩ := TM.bnd_eq h
    obtain ⟨x, r3, r4, h2, k2', rfl⟩ := TM.bnd_eq k1
    obtain ⟨y, r5, r6, h3, k3, rfl⟩ := TM.bnd_eq k2'
    obtain ⟨rfl, rfl⟩ := TM.ret_eq k3
    obtain ⟨g1, g2⟩ := (good n).i _ _ _ _ _ h1
    exact fun X G W k Φ En C0 A po E R => ss_for po (A.hc hh) (fun x => g1 X x) (g2 X G W k Φ En C0 A E R.l) ((good n).g _ _ _ _ h2 X G W k Φ En C0 A E R.r.l) (I.ss _ _ _ _ hf h3 X G W k Φ En C0 A po E R.r.r.l)
  · obtain ⟨rfl, rfl⟩ := TM.ret_eq h
    exact fun X G W k Φ En C0 A po E R => ss_pass
  · obtain ⟨rfl, rfl⟩ := TM.ret_eq h
    exact fun X G W k Φ En C0 A po E R => ss_break
  · obtain ⟨rfl, rfl⟩ := TM.ret_eq h
    exact fun X G W k Φ En C0 A po E R => ss_cont
  · obtain ⟨rfl, rfl⟩ := TM.ret_eq h
    exact fun X G W k Φ En C0 A po E R => ss_stuck
theorem goodS (Ex : Exc) : ∀ n, GoodS Ex n
  | 0 => by
    refine ⟨?_, ?_, ?_⟩
    · intro ce st i r hf h; unfold trS at h; cases h
    · intro ce st i r hf h; unfold trSs at h; cases h
    · intro ce os es is r h; unfold trM at h; cases h
  | n + 1 => ⟨good_s (goodS Ex n), good_ss (goodS Ex n), good_m (goodS Ex n)⟩
end TL

set_option linter.all false
set_option maxRecDepth 100000
set_option maxHeartbeats 4000000
/-! TLFn: defs and lambdas by their bodies; the table. Own work. -/
namespace TL
open PySem PySem.Spec PyProof.Rows L2 NdefX LamX
section
variable {X : Cx} {G : GT} {C : Cells} {θ : List Addr} {S H : Hp} {s : DS} {σ : L2.St} {Q : VK} {E : XK}
theorem ret_rep {cap : List Nat} {v : PV} {u : V} {θ' : List Addr} {S' : Hp} (h : cap = [] ∨ v.plain = true) (r : RepV X.K G.toFT (CC X C σ cap) θ' S' v u) : RepV X.K G.toFT C θ' S' v u := by
  rcases h with h | h
  · subst h
    refine RepV.mono (Gr.refl _) (Pre.refl _) (fun a w z => ?_) r
    rcases z with z | ⟨i, y, hi, _⟩
    · exact z
    · cases hi
  · exact RepV.free r h
/-- from what a call gives to what follows the body -/
theorem endF_post {r : SR} (h : PostF X.K G C θ S H (endF r) Q E) : PostS X G ⟨θ, S, H, []⟩ C (fun cls d _ H => E cls d H) θ S s σ r { nx := fun _ H' => Q .non H', rt := Q } := by
  cases r with
  | nx s' => exact fun θ' S' H' σ' fw R => h θ' S' H' .non R.en R.rs .non
  | brk s' => exact h.elim
  | cont s' => exact h.elim
  | exc c fs s' => exact fun θ' S' H' σ' cls d R rx => h θ' S' H' cls d R.en R.rs rx
  | bad => exact h.elim
  | ret v s' =>
    have h : PostF X.K G C θ S H (if s'.cap = [] ∨ v.plain then .ok v s'.mu else .bad) Q E := h
    split at h
    · rename_i hq
      exact fun θ' S' H' σ' u R rv => h θ' S' H' u R.en R.rs (ret_rep hq rv)
    · exact h.elim
theorem endF_postE {r : DR PV} (h : PostF X.K G C θ S H (endF (r.thn fun v s => .ret v s)) Q E) : PostR X G ⟨θ, S, H, []⟩ C (fun cls d _ H => E cls d H) θ S H σ r fun p s' θ' S' H' => ∀ v, RepV X.K G.toFT (CC X C σ s'.cap) θ' S' p v → Q v H' := by
  cases r with
  | exc c fs s' => exact fun θ' S' H' cls d e R rx => h θ' S' H' cls d R.en R.rs rx
  | bad => exact h.elim
  | ok v s' =>
    have h : PostF X.K G C θ S H (if s'.cap = [] ∨ v.plain then .ok v s'.mu else .bad) Q E := h
    split at h
    · rename_i hq
      exact fun θ' S' H' e R u rv => h θ' S' H' u R.en R.rs (ret_rep hq rv)
    · exact h.elim
end
theorem room_hu {k : Nat} {A : Around} (r : Room k A) : A.units + 64 < cLine := by
  have := r.un
  omega
theorem ret_one (Φ : Phi) (Ex : Exc) (ie : IE) (s : DS) : exs Φ Ex (.cons (.ret ie) .nil) s = (ev Φ ie s).thn fun v s => .ret v s := by
  show ((ev Φ ie s).thn fun v s => SR.ret v s).thn (fun s => SR.nx s) = _
  cases ev Φ ie s <;> rfl
theorem start_get {ps : List PV} {vs : List V} {n i : Nat} {p : PV} {K : PySem.W.Frag} {G : FT} {C : Cells} {θ : List Addr} {S : Hp} (r : RepL K G C θ S ps vs) (l : List (Option V)) (h : (ps.map some ++ List.replicate n none)[i]? = some (some p)) :
    ∃ v, (vs.map some ++ l)[i]? = some (some v) ∧ RepV K G C θ S p v := by
  by_cases hi : i < ps.length
  · rw [List.getElem?_append_left (by simpa using hi), List.getElem?_map] at h
    cases e : ps[i]? with
    | none => rw [e] at h; cases h
    | some q =>
      rw [e] at h
      cases h
      obtain ⟨u, h1, h2⟩ := r.get e
      refine ⟨u, ?_, h2⟩
      rw [List.getElem?_append_left (by rw [List.length_map, ← r.length]; exact hi), List.getElem?_map, h1]
      rfl
  · rw [List.getElem?_append_right (by simpa using hi), List.getElem?_replicate] at h
    split at h <;> cases h
section
variable {P : Program} {w : World} {K : PySem.W.Frag} {mg : Str → Option Value} {base : Heap} {G : GT} {Ex : Exc} {x qual : Str} {st : Stmt} {f : Addr} {fd : FuncData} {N ps : List Str} {ce : CE} {is : ISs} {rq : List Rq} {n k : Nat} {Φ : Phi}
def GvM (mg : Str → Option Value) (G : GT) (x : Str) : Gv → Prop
  | .fn j => ∃ f, mg x = some (.ref f) ∧ G.addr j = some f
  | .int i => ∃ t, mg x = some (.int i t)
  | .str s => ∃ t, mg x = some (.str s t)
/-- the module's names are as the translator was told -/
structure GlOk (K : PySem.W.Frag) (mg : Str → Option Value) (G : GT) (ce : CE) : Prop where
  gl : ∀ x g, ce.gl.lookup x = some g → GvM mg G x g
  bl : ∀ x, ce.bl.contains x = true → mg x = none
  ct : CtOk K mg G ce.ct
  xt : XtOk K mg G ce.xf ce.xt
  sb : SbOk K mg G ce.sb
/-- a def's lambdas: its code object's table -/
def LkOk (base : Heap) (mg : Str → Option Value) (G : GT) (ce : CE) (qual : Str) (fd : FuncData) : Prop := ∀ p kk, ce.lk.lookup p = some kk → ce.qual = qual ++ ".<locals>." ∧ ∃ c P nm, fd.code = .ref c ∧ TabB base mg c P ∧ (P, nm) ∈ G.T ∧ nm p.1 p.2 = ce.qual ++ "<lambda>" ∧ ∀ q ∈ G.T, q.1 = P → q.2 = nm
theorem fnS_def (F : Fun K x qual st f fd) (Sc : FnScope N ps (defScope st)) (hN : ce.N = N) (hsc : ce.sc = defScope st) (hhot : ce.hot = false) (hfn : ce.fnAll = true) (hbk : ce.bk = none) (ht : trSs n ce (defBody st) = some (is, rq)) (gl : GlOk K mg G ce) (lk : LkOk base mg G ce qual fd) (R : RqOk G rq)
    (L : Lv P w K mg base G ce.kw k Φ) : FnS P w K mg base G (k + 1) f fd ps (runF Φ Ex ⟨ps.length, N.length, is⟩) := by
  obtain ⟨oc, od, kV, doc, pm, an, cdv, ct, osl, rfl, lkf, hcd⟩ := F.ex
  intro A outer s H args us vs Q E C hr e0 hb r hl cells ⟨θ, S, mu, pvs, rs, rl, post⟩
  have hpn : ps.length ≤ N.length := by
    have := congrArg List.length Sc.pre
    rw [List.length_take] at this
    omega
  have hpl : pvs.length = ps.length := by rw [rl.length, hl]
  refine run_ofS (N := N) (ps := ps) lkf hcd Sc hr e0 hb r hl fun hr' => ?_
  have am : Amb (cxOf (L2.CX P w) P w K mg base N qual (defScope st) f cdv A outer s H E) G (fun cls d _ H => E cls d H) ⟨θ, S, H, []⟩ ce k Φ := ⟨fun _ => L, fun _ => hr', takes_of rfl rfl rfl rfl, fun _ => rfl, Sc.nd, room_hu hr', fun _ => rfl, fun z => (by rw [hhot] at z; cases z)⟩
  have ok : CEok ce (cxOf (L2.CX P w) P w K mg base N qual (defScope st) f cdv A outer s H E) G := by
    refine ⟨hN.symm, hsc.symm, fun _ _ => rfl, fun _ => Sc.kind, fun scope h => (by rw [hbk] at h; cases h), fun x g h => ?_, gl.bl, fun _ => rfl, fun _ => rfl, gl.ct, gl.xt, gl.sb, fun p kk h => ?_⟩
    · have := gl.gl x g h
      cases g <;> exact this
    · obtain ⟨h1, c, PP, nm, h2, h3, h4, h5, h6⟩ := lk p kk h
      exact ⟨h1.symm, c, PP, nm, h3, h2, h4, h5.trans (by rw [h1]; rfl), h6⟩
  refine ⟨_, (goodS Ex n).ss ce _ is rq hfn ht _ G _ k Φ ⟨θ, S, H, []⟩ C am (passes_of rfl) ok R, θ, S, ⟨pvs.map some ++ List.replicate (N.length - ps.length) none, [], [], mu⟩, ?_, endF_post ?_⟩
  · refine ⟨rs, Ste.refl _ _ _, fun c v h => ?_, ?_, ?_, fun i p h _ => ?_, fun i hi => (by cases hi), fun i j a hi => (by cases hi), fun p hp => (by cases hp)⟩
    · obtain ⟨u, h1, h2, h3⟩ := cells c v h
      exact ⟨u, h1, h2, h3, fun z => nomatch (show c ∈ ([] : List Addr) from z)⟩
    · show _ = N.length
      simp [hpl]; omega
    · show _ = N.length
      unfold L2.start
      simp [hl]; omega
    · obtain ⟨v, h1, h2⟩ := start_get rl (List.replicate (N.length - vs.length) none) h
      exact ⟨v, h1, RepV.mono (Gr.refl _) (Pre.refl _) (fun _ _ z => .inl z) h2⟩
  · unfold runF at post
    rw [if_pos hpl] at post
    exact post
theorem cloS {j : Nat} {nm q : Str} {pa : Arguments} {body : Expr} {sc : Scope} {fr : List Str} {ie : IE} (hj : G.addr j = none) (hl : G.lam j = some (nm, q, pa, body, sc, fr)) (Sc : NScope N (paramsOf pa) fr sc)
    (hb : ∀ (cl : List (Str × Addr)) (pm ctv : Value) (c : Addr) (us : List Value), us.length = (paramsOf pa).length → bindArgs (PySem.W.kla_fn nm q pa body sc cl pm (.ref c) ctv) ⟨us, []⟩ = pure ((paramsOf pa).zip us))
    (hN : ce.N = N) (hsc : ce.sc = sc) (hhot : ce.hot = false) (hfn : ce.fnAll = false) (hbk : ce.bk = none) (hlk : ce.lk = []) (ht : trE n ce body = some (ie, rq)) (gl : GlOk K mg G ce) (R : RqOk G rq) (L : Lv P w K mg base G ce.kw k Φ)
    (A : Around) (outer : List Env) (s : Shared) (H : Hp) (us : List Value) (vs : List V) (Q : VK) (E : XK) (C : Cells) (f : Addr) (caps pvs : List PV) (θ : List Addr) (S : Hp) (mu : List SO) (hr : Room (2 * (k + 1) + 1) A) (e0 : Env0 P w K mg base A outer s H) (r : Vals vs us)
    (cells : CellsIn s H C) (rs : RS K G θ S H mu) (rl : RepL K G.toFT C θ S pvs vs) (rv : RepV K G.toFT C θ S (.fn j caps) (.ref f))
    (post : PostF K G C θ S H (runF Φ Ex ⟨(paramsOf pa).length + fr.length, N.length, .cons (.ret ie) .nil⟩ (pvs ++ caps) mu) Q E) : codeAny (model P w) A (.call (.ref f) ⟨us, []⟩) (CR (L2.CX P w) outer P w H s Q E) s := by
  cases rv with
  | fn h => rw [hj] at h; cases h
  | @clo _ _ c _ ws nm' q' pa' body' sc' fr' cl pm ctv l h1 h2 h3 h4 h5 h6 rc =>
  rw [hl] at l
  cases l
  by_cases hlen : (pvs ++ caps).length = (paramsOf pa).length + fr.length
  · have hcl : caps.length = fr.length := by rw [rc.length, h4]
    have hpl : pvs.length = (paramsOf pa).length := by rw [List.length_append] at hlen; omega
    have hvl : vs.length = (paramsOf pa).length := by rw [← rl.length, hpl]
    have hul : us.length = (paramsOf pa).length := by rw [← r.length, hvl]
    have ho : s.heap.get? f = some (PySem.W.kla_obj nm q pa body sc cl pm c ctv) := (e0.hok f _ (rs.same _ _ h1)).1
    obtain ⟨oc, vc, tq, hoc, hdc, hvc⟩ := (e0.hok c _ (rs.same _ _ h2)).1
    have lim : s.heap.NoLimit := e0.mod.nolimit.keeps fun b o e => (e0.bs b o e).1
    have CA : CellsAt cl fr (ws.map some) s.heap H := by
      refine ⟨by simp [h4], fun y c' hc => ?_, h5, fun i y hi => ?_⟩
      · have hy := h6 y c' hc
        obtain ⟨i, hi⟩ := List.mem_iff_getElem?.mp hy
        have hiw : i < ws.length := by rw [h4]; exact (List.getElem?_eq_some_iff.mp hi).1
        obtain ⟨a, ha, hca⟩ := h3 i y _ hi (List.getElem?_eq_getElem hiw)
        rw [hc] at ha; cases ha
        obtain ⟨u, _, z1, z2⟩ := cells _ _ hca
        exact ⟨z2, _, z1⟩
      · have hiw : i < ws.length := by rw [h4]; exact (List.getElem?_eq_some_iff.mp hi).1
        obtain ⟨a, ha, hca⟩ := h3 i y _ hi (List.getElem?_eq_getElem hiw)
        refine ⟨a, ha, fun v hv => ?_⟩
        rw [List.getElem?_map, List.getElem?_eq_getElem hiw] at hv
        cases hv
        obtain ⟨u, z0, z1, z2⟩ := cells _ _ hca
        exact ⟨u, z0, z1⟩
    refine PySem.W.kla_callFunE hr.depth ho rfl Sc.co Sc.gen rfl ⟨c, oc, vc, tq, rfl, hoc, hdc, hvc⟩ ?_
    rw [hb cl pm ctv c us hul]
    refine wpAny_pure (wpAny_newFunctionEnv Sc.nocell (fun ⟨n, _⟩ hy => Sc.par n (List.of_mem_zip hy).1) (fun h₁ hns hsb => ⟨lim.fresh _ hsb, ?_⟩) Sc.kind)
    have kp : ∀ b o, s.heap.get? b = some o → h₁.get? b = some o := fun b o e => hsb.extBut b o (Nat.ne_of_lt (Heap.lt_size e)) (Heap.get?_push_of_some _ e)
    have hr' := hr.deeper (envF ⟨nm, q, pa, [], sc, cl, c⟩ f s.heap.objs.size)
    have I : Inv (ncx (L2.CX P w) P w K mg base N ⟨nm, q, pa, [], sc, cl, c⟩ f A outer s H E) [] (startF N vs (ws.map some)) H { s with heap := h₁, toks := s.toks + ((paramsOf pa).zip us).length } := inv_startN (F := ⟨nm, q, pa, [], sc, cl, c⟩) Sc hr.hd e0 hvl r CA hns kp
    have am : Amb (ncx (L2.CX P w) P w K mg base N ⟨nm, q, pa, [], sc, cl, c⟩ f A outer s H E) G (fun cls d _ H => E cls d H) ⟨θ, S, H, []⟩ ce k Φ := ⟨fun _ => L, fun _ => hr', takes_of rfl rfl rfl rfl, fun _ => rfl, Sc.nd, room_hu hr', fun _ => rfl, fun z => (by rw [hhot] at z; cases z)⟩
    have ok : CEok ce (ncx (L2.CX P w) P w K mg base N ⟨nm, q, pa, [], sc, cl, c⟩ f A outer s H E) G := by
      refine ⟨hN.symm, hsc.symm, fun h => (by rw [hfn] at h; cases h), fun h => (by rw [hfn] at h; cases h), fun scope h => (by rw [hbk] at h; cases h), fun x g h => ?_, gl.bl, fun h => (by rw [hfn] at h; cases h), fun h => (by rw [hfn] at h; cases h), gl.ct, gl.xt, gl.sb, fun p kk h => (by rw [hlk] at h; cases h)⟩
      have := gl.gl x g h
      cases g <;> exact this
    have pe := (((good n).e ce body ie rq ht) _ G _ k Φ ⟨θ, S, H, []⟩ C am ok R).1
    refine PySem.W.kla_codeExpr (wpAny_mono (pe.run [] _ _ H Q I ⟨θ, S, ⟨(pvs ++ caps).map some ++ List.replicate (N.length - ((paramsOf pa).length + fr.length)) none, [], [], mu⟩, ?_, endF_postE ?_⟩) (fun v s' hq => ?_) fun e s' hq => hq)
    · have hpre := congrArg List.length Sc.pre
      rw [List.length_take, List.length_append] at hpre
      refine ⟨rs, Ste.refl _ _ _, fun c v h => ?_, ?_, ?_, fun i p h _ => ?_, fun i hi => (by cases hi), fun i j a hi => (by cases hi), fun p hp => (by cases hp)⟩
      · obtain ⟨u, z1, z2, z3⟩ := cells c v h
        exact ⟨u, z1, z2, z3, fun z => nomatch (show c ∈ ([] : List Addr) from z)⟩
      · show _ = N.length
        simp only [List.length_append, List.length_map, List.length_replicate]
        rw [List.length_append] at hlen
        omega
      · exact I.len
      · obtain ⟨v, z1, z2⟩ := start_get (rl.append rc) (List.replicate (N.length - vs.length - (ws.map some).length) none) h
        refine ⟨v, ?_, RepV.mono (Gr.refl _) (Pre.refl _) (fun _ _ z => .inl z) z2⟩
        unfold startF
        rw [List.map_append, List.append_assoc] at z1
        exact z1
    · unfold runF at post
      rw [if_pos hlen, ret_one] at post
      exact post
    · obtain ⟨w', H', J', rv, q⟩ := hq
      exact ⟨w', H', J'.os, J'.bare, J'.base, J'.hok, rv, q⟩
  · unfold runF at post
    rw [if_neg hlen] at post
    exact post.elim
/-- what is fixed of a table of defs and lambdas -/
structure TabOk (P : Program) (w : World) (K : PySem.W.Frag) (mg : Str → Option Value) (base : Heap) (G : GT) (KW : List (Nat × Nat × List Str)) (T : List FI) (Ex : Exc) : Prop where
  fns : ∀ j f, G.addr j = some f → PySem.W.keepIn K (.ref f) = true ∧ (∀ h : Heap, K.In h → PySem.W.FnAt f h) ∧ ∃ fd ps, Binds K fd ps [] ∧ (∀ n ks, (j, n, ks) ∈ KW → ∀ (s : Shared) (us ws : List Value), us.length = n → ws.length = ks.length → us.length + ws.length = ps.length → BindsTo s fd ⟨us, ks.zip ws⟩ (ps.zip (us ++ ws))) ∧
    ∃ fi, T[j]? = some fi ∧ fi.np = ps.length ∧ ∀ k Φ, Lv P w K mg base G KW k Φ → FnS P w K mg base G (k + 1) f fd ps (runF Φ Ex fi)
  lams : ∀ j q, G.lam j = some q → G.addr j = none → ∃ fi, T[j]? = some fi ∧ ∀ k Φ, Lv P w K mg base G KW k Φ → ∀ (A : Around) (outer : List Env) (s : Shared) (H : Hp) (us : List Value) (vs : List V) (Q : VK) (E : XK) (C : Cells) (f : Addr) (caps pvs : List PV) (θ : List Addr) (S : Hp) (mu : List SO), Room (2 * (k + 1) + 1) A →
    Env0 P w K mg base A outer s H → Vals vs us → CellsIn s H C → RS K G θ S H mu → RepL K G.toFT C θ S pvs vs → RepV K G.toFT C θ S (.fn j caps) (.ref f) → PostF K G C θ S H (runF Φ Ex fi (pvs ++ caps) mu) Q E → codeAny (model P w) A (.call (.ref f) ⟨us, []⟩) (CR (L2.CX P w) outer P w H s Q E) s
  apart : ∀ j, G.addr j ≠ none → G.lam j = none
theorem lv {KW : List (Nat × Nat × List Str)} {T : List FI} (O : TabOk P w K mg base G KW T Ex) : ∀ k, Lv P w K mg base G KW k (Ph T Ex k)
  | 0 => by
    refine ⟨fun j f h => ?_, fun j f h hp hi => (O.fns j f h).2.1 hp hi, fun A outer s H us vs Q E C j f caps ps θ S mu hj hr e0 r cells rs rl rv post => post.elim, O.apart⟩
    obtain ⟨h1, h2, fd, ps, h3, h4, fi, h5, h6, h7⟩ := O.fns j f h
    refine ⟨h1, fd, ps, h3, ?_, fun _ _ _ => rfl, h4⟩
    intro A outer s H args us vs Q E C hr e0 hb r hl cells ⟨θ, S, mu, pvs, rs, rl, post⟩
    exact post.elim
  | k + 1 => by
    have I := lv O k
    refine ⟨fun j f h => ?_, fun j f h hp hi => (O.fns j f h).2.1 hp hi, fun A outer s H us vs Q E C j f caps ps θ S mu hj hr e0 r cells rs rl rv post => ?_, O.apart⟩
    · obtain ⟨h1, h2, fd, ps, h3, h4, fi, h5, h6, h7⟩ := O.fns j f h
      have e : Ph T Ex (k + 1) j = runF (Ph T Ex k) Ex fi := by
        funext args mu
        show (match T[j]? with
          | some f => runF (Ph T Ex k) Ex f args mu
          | none => .bad) = _
        rw [h5]
      refine ⟨h1, fd, ps, h3, by rw [e]; exact h7 k _ I, fun ps' mu hne => ?_, h4⟩
      rw [e]
      unfold runF
      rw [if_neg (by rw [h6]; exact hne)]
    · have hlam : ∃ q, G.lam j = some q := by
        cases rv with
        | fn h => rw [hj] at h; cases h
        | clo l => exact ⟨_, l⟩
      obtain ⟨q, hq⟩ := hlam
      obtain ⟨fi, h5, h7⟩ := O.lams j q hq hj
      have e : Ph T Ex (k + 1) j = runF (Ph T Ex k) Ex fi := by
        funext args mu
        show (match T[j]? with
          | some f => runF (Ph T Ex k) Ex f args mu
          | none => .bad) = _
        rw [h5]
      rw [e] at post
      exact h7 k _ I A outer s H us vs Q E C f caps ps θ S mu hr e0 r cells rs rl rv post
end
end TL

set_option linter.all false
set_option maxRecDepth 100000
set_option maxHeartbeats 4000000
/-! TLHook: what the head is asked of a table of defs and classes. Own work. -/
namespace TL
open PySem PySem.Spec PyProof.Rows L2 NdefX LamX
/-- where a def stands: a global name, a method, a property's getter -/
inductive Pl where
  | g (x : Str)
  | m (C m : Str)
  | p (C f : Str)
  deriving DecidableEq
/-- the property, its getter -/
def prA (K : PySem.W.Frag) (C : Addr) (f : Str) : Addr × Addr := match PySem.W.findIn K (.ref C) f with
  | some (some (.ref q)) => (match PySem.W.recIn K q "property" with
    | some (.ref g :: _) => (q, g)
    | _ => (q, 0))
  | _ => (0, 0)
def Pl.ad (K : PySem.W.Frag) : Pl → Addr
  | .g x => He.ga K x
  | .m C y => He.ma K (He.ga K C) y
  | .p C y => (prA K (He.ga K C) y).2
/-- a def: its place, its name, qualified name, text, local names, parameters' number, own lists, lambdas, shared display, translation -/
structure DD where
  pl : Pl
  x : Str
  qual : Str
  st : Stmt
  N : List Str
  np : Nat
  own : List Nat
  lk : List ((Nat × Nat) × Nat)
  sh : Bool
  oe : Bool
  is : ISs
structure LD where
  k : Nat
  N : List Str
  ie : IE
/-- an error's class: its name, the field that it keeps with the __init__ of the text -/
structure XDD where
  x : Str
  f : Option (Str × Stmt)
/-- the module's constants, its defs in order, its lambdas, classes, classes of errors; names of classes of errors that are asked for: own or built-in, those below -/
structure TD where
  dds : List DD
  lds : List LD
  cs : List (Str × Gv)
  bl : List Str
  kw : List (Nat × Nat × List Str)
  ct : List CD
  xs : List XDD
  xf : List Str
  sb : List (Str × Option String × List Nat)
def TD.gl (t : TD) : List (Str × Gv) := (t.dds.zipIdx.filterMap fun p => match p.1.pl with
  | Pl.g x => some (x, Gv.fn p.2)
  | _ => none) ++ t.cs
def TD.xt (t : TD) : List XD := t.xs.map fun d => ⟨d.x, d.f.map (·.1)⟩
def TD.sbT (t : TD) : List (Str × List Nat) := t.sb.map fun p => (p.1, p.2.2)
def TD.ce (t : TD) (d : DD) : CE := ⟨d.N, defScope d.st, true, none, d.own, t.gl, t.bl, t.kw, d.qual ++ ".<locals>.", d.lk, d.sh, t.ct, t.xt, t.sbT, d.oe, false, none, t.xf⟩
/-- the context of a lambda's body -/
def TD.cl (t : TD) (N : List Str) (sc : Scope) : CE := ⟨N, sc, false, none, [], t.gl, t.bl, t.kw, "", [], false, t.ct, t.xt, t.sbT, false, false, none, t.xf⟩
/-! ### what is looked at -/
abbrev FnY : Type := Option (Str × Str × Arguments × FuncBody × Scope × Addr × List (Str × Addr) × Value × Addr)
def fnY (K : PySem.W.Frag) (a : Addr) : FnY := match K.lookup a with
  | some o => (match o.data with
    | .func fd => some (fd.name, fd.qualname, fd.params, fd.body, fd.scope, fd.globals, fd.closure, fd.defaults, fd.builtins)
    | _ => none)
  | none => none
def fnVal (x qual : Str) (st : Stmt) : FnY := some (x, qual, defArgs st, .stmts (defBody st), defScope st, mainGlobals, [], .none, builtinsNs)
/-- the code object of a function -/
def fcod (fd : FuncData) : Addr := match fd.code with
  | .ref c => c
  | _ => 0
def codeAt (K : PySem.W.Frag) (a : Addr) : Addr := match K.lookup a with
  | some o => (match o.data with
    | .func fd => fcod fd
    | _ => 0)
  | none => 0
/-! ### facts -/
def prB (K : PySem.W.Frag) (C : Addr) (f : Str) : Bool := decide (PySem.W.findIn K (.ref C) f = some (some (.ref (prA K C f).1))) && (decide (PySem.W.specialIn K (.ref (prA K C f).1) "__get__" = some (some (.builtin "property.__get__"))) && (decide (PySem.W.takesIn K (.ref (prA K C f).1) = some true) &&
  (match PySem.W.recIn K (prA K C f).1 "property" with
  | some (.ref g :: _) => decide (g = (prA K C f).2)
  | _ => false)))
theorem prB_ok {K : PySem.W.Frag} {C : Addr} {f : Str} (h : prB K C f = true) : PropOf K C f (prA K C f).1 (prA K C f).2 := by
  unfold prB at h
  simp only [Bool.and_eq_true, decide_eq_true_eq] at h
  obtain ⟨h1, h2, h3, h4⟩ := h
  refine ⟨h1, h2, h3, ?_⟩
  split at h4
  · rename_i g r q
    have e : g = (prA K C f).2 := of_decide_eq_true h4
    exact ⟨r, by rw [q, e]⟩
  · cases h4
def fnB (K : PySem.W.Frag) (a : Addr) (q : Str) : Bool := PySem.W.keepIn K (.ref a) && match K.lookup a with
  | some o => (match o.data with
    | .func fd => PySem.W.codeIn K fd.code q
    | _ => false)
  | none => false
theorem fnY_fun {K : PySem.W.Frag} {a : Addr} {x q : Str} {st : Stmt} (e : fnY K a = fnVal x q st) (b : fnB K a q = true) : ∃ fd, Fun K x q st a fd ∧ ∀ c, fd.code = .ref c → c = codeAt K a := by
  obtain ⟨kp, b2⟩ := Bool.and_eq_true_iff.mp b
  unfold fnY fnVal at e
  unfold codeAt
  cases hk : K.lookup a with
  | none => rw [hk] at e; cases e
  | some o =>
    rw [hk] at e b2
    simp only at e b2 ⊢
    obtain ⟨oc, od, dt, osl⟩ := o
    cases dt <;> simp only at e b2 ⊢ <;> try (cases e; done)
    rename_i fd
    obtain ⟨z1, z2, z3, z4, z5, z6, z7, z8, z9, z10, z11, z12, cd, z14, z15⟩ := fd
    simp only [Option.some.injEq, Prod.mk.injEq] at e
    obtain ⟨rfl, rfl, rfl, rfl, rfl, rfl, rfl, rfl, rfl⟩ := e
    refine ⟨_, ⟨⟨oc, od, _, _, _, _, cd, _, osl, rfl, hk, b2⟩, kp⟩, fun c h => ?_⟩
    have h : cd = .ref c := h
    subst h
    rfl
def relP (K : PySem.W.Frag) (q : Str × Gv) : Bool := He.Fa.ok K (match q.2 with
  | .fn _ => .glo q.1
  | .int i => .int q.1 i
  | .str s => .str q.1 s)
/-- a class of instances -/
def cdB (K : PySem.W.Frag) (cd : CD) : Bool := He.Fa.ok K (.glo cd.x) && (He.Fa.ok K (.cls cd.x) && (cmpB K (He.ga K cd.x) && (He.Fa.ok K (.noat cd.x "__bool__") && (He.Fa.ok K (.noat cd.x "__len__") && ((cd.ini.isNone || He.Fa.ok K (.mkr cd.x)) &&
  (cd.ms.all (fun p => He.Fa.ok K (.meth cd.x p.1)) && (cd.ps.all (fun p => prB K (He.ga K cd.x) p.1) && cd.nf.all fun f => He.Fa.ok K (.noat cd.x f))))))))
/-- a class of errors -/
def xsB (K : PySem.W.Frag) (C : Addr) : Bool := (PySem.W.clsIn K C).isSome && (xfB K C && (decide (PySem.W.findIn K (.ref C) "__class__" = some (some (.builtin "object.__class__"))) && (decide (PySem.W.specialIn K (.builtin "object.__class__") "__get__" = some (some (.builtin "getset_descriptor.__get__"))) &&
  (decide (PySem.W.takesIn K (.builtin "object.__class__") = some true) && decide (PySem.W.mroIn K C (.type "object") = some true)))))
def xdB (K : PySem.W.Frag) (xf : List Str) (d : XDD) : Bool := He.Fa.ok K (.glo d.x) && (xsB K (He.ga K d.x) && (xf.all (fun f => He.Fa.ok K (.noat d.x f)) && (He.Fa.ok K (.keep d.x) && (decide (PySem.W.subIn K (.ref (He.ga K d.x)) (.type "BaseException") = some true) && (decide (PySem.W.typeIn K (.ref (He.ga K d.x)) = some (.type "type")) &&
  (match d.f with
  | none => PySem.W.excIn K (He.ga K d.x) He.veBase "ValueError.__new__"
  | some _ => oexB K (He.ga K d.x) && (He.eqO (PySem.W.findIn K (.ref (He.ga K d.x)) "__setattr__") (some (some (.builtin "object.__setattr__"))) && (He.eqO (PySem.W.findIn K (.ref (He.ga K d.x)) "__init__") (some (some (.ref (He.ma K (He.ga K d.x) "__init__")))) &&
      PySem.W.isFn K (.ref (He.ma K (He.ga K d.x) "__init__"))))))))))
def sbV (K : PySem.W.Frag) (x : Str) : Option String → Value
  | some T => .type T
  | none => .ref (He.ga K x)
def sbB (K : PySem.W.Frag) (xs : List XDD) (q : Str × Option String × List Nat) : Bool := (match q.2.1 with
  | some _ => He.Fa.ok K (.free q.1)
  | none => He.Fa.ok K (.glo q.1)) && xs.zipIdx.all fun p => decide (PySem.W.exmOne K (.ref (He.ga K p.1.x)) (sbV K q.1 q.2.1) = some (q.2.2.contains p.2)) && decide (PySem.W.kitOne K (.ref (He.ga K p.1.x)) (sbV K q.1 q.2.1) = some (q.2.2.contains p.2))
/-! ### the hook -/
def XDD.ini (d : XDD) : Option Stmt := d.f.map (·.2)
def xiA (K : PySem.W.Frag) (d : XDD) : Addr := He.ma K (He.ga K d.x) "__init__"
def xiB (K : PySem.W.Frag) (d : XDD) : Bool := d.f.isNone || fnB K (xiA K d) (d.x ++ ".__init__")
/-- a def's code object, its table -/
def cY (K : PySem.W.Frag) (d : DD) : Addr × Addr := (codeAt K (d.pl.ad K), He.tabOf K (codeAt K (d.pl.ad K)))
/-- the defs with lambdas -/
def TD.tf (t : TD) : List DD := t.dds.filter fun d => !d.lk.isEmpty
def TD.c1 (t : TD) (K : PySem.W.Frag) : Bool := t.gl.all (relP K) && t.bl.all fun x => He.Fa.ok K (.free x)
def TD.c2 (t : TD) (K : PySem.W.Frag) : Bool := t.dds.all fun d => fnB K (d.pl.ad K) d.qual
def TD.c3 (t : TD) (K : PySem.W.Frag) : Bool := t.ct.all (cdB K) && (t.xs.all (fun d => xdB K t.xf d && xiB K d) && (t.sb.all (sbB K t.xs) && decide ((t.tf.map fun d => (cY K d).2).Nodup)))
def TD.v1 (t : TD) (K : PySem.W.Frag) : List FnY := t.dds.map fun d => fnY K (d.pl.ad K)
def TD.v2 (t : TD) (K : PySem.W.Frag) : List FnY := t.xs.filterMap fun d => d.f.map fun _ => fnY K (xiA K d)
def DD.val (d : DD) : FnY := fnVal d.x d.qual d.st
def XDD.val (d : XDD) : Option FnY := d.f.map fun p => fnVal "__init__" (d.x ++ ".__init__") p.2
def TD.tabB (t : TD) (g : Addr → Option Obj) (K : PySem.W.Frag) : Bool := t.tf.all fun d => PySem.W.codeHdIn K (cY K d).1 (cY K d).2 && match g (cY K d).2 with
  | some o => He.emptyTab o
  | none => false
structure SaysY (t : TD) (h : Heap) (K : PySem.W.Frag) : Prop where
  c1 : t.c1 K = true
  c2 : t.c2 K = true
  c3 : t.c3 K = true
  v1 : t.v1 K = t.dds.map DD.val
  v2 : t.v2 K = t.xs.filterMap XDD.val
  hd : ∀ d ∈ t.tf, PySem.W.codeHdIn K (cY K d).1 (cY K d).2 = true
  out : ∀ d ∈ t.tf, K.lookup (cY K d).2 = none
  empty : ∀ d ∈ t.tf, h.get? (cY K d).2 = some { cls := .none, data := .fields #[] }
/-- the part of the heap that is looked at: what the top made -/
def frY (g : Addr → Option Obj) (n0 n : Nat) : PySem.W.Frag := He.frT g (mainGlobals :: List.range' n0 (n - n0))
abbrev AlY : Type := (Bool × Bool × Bool) × (List FnY × List FnY) × Bool
def obsY (t : TD) (n0 : Nat) (g : Addr → Option Obj) (n : Nat) : AlY := ((t.c1 (frY g n0 n), t.c2 (frY g n0 n), t.c3 (frY g n0 n)), (t.v1 (frY g n0 n), t.v2 (frY g n0 n)), t.tabB g (frY g n0 n))
def valY (t : TD) : AlY := ((true, true, true), (t.dds.map DD.val, t.xs.filterMap XDD.val), true)
theorem saysY_of {t : TD} {n0 n : Nat} {h : Heap} (e : obsY t n0 h.get? n = valY t) : SaysY t h (frY h.get? n0 n) := by
  simp only [obsY, valY, Prod.mk.injEq] at e
  obtain ⟨⟨e1, e2, e3⟩, ⟨e4, e5⟩, e6⟩ := e
  have key := fun d hd => Bool.and_eq_true_iff.mp (List.all_eq_true.mp e6 d hd)
  have tab : ∀ d ∈ t.tf, ∃ o, h.get? (cY (frY h.get? n0 n) d).2 = some o ∧ He.emptyTab o = true := fun d hd => by
    have k2 := (key d hd).2
    split at k2
    · rename_i o q
      exact ⟨o, q, k2⟩
    · cases k2
  refine ⟨e1, e2, e3, e4, e5, fun d hd => (key d hd).1, fun d hd => ?_, fun d hd => ?_⟩
  · obtain ⟨o, a, b⟩ := tab d hd
    exact He.frT_none a b
  · obtain ⟨o, a, b⟩ := tab d hd
    rw [a, He.emptyTab_eq b]
def hookY (t : TD) (n0 : Nat) : PySem.W.Hook where
  α := AlY
  obs := fun s => obsY t n0 s.heap.get? s.heap.objs.size
  val := fun _ => valY t
  says := fun _ h => ∃ K : PySem.W.Frag, K.In h ∧ SaysY t h K
  of := fun _ _ e => ⟨_, He.frT_in, saysY_of e⟩
  keeps := fun _ _ _ ⟨K, k1, c⟩ k => ⟨K, PySem.W.Frag.In.keeps k1 k, { c with empty := fun d hd => k _ _ (c.empty d hd) }⟩
theorem obsY_eq {t : TD} {n0 n : Nat} {g : Addr → Option Obj} {s : Shared} (h : ∀ a, g a = s.heap.get? a) (hn : n = s.heap.objs.size) : obsY t n0 g n = (hookY t n0).obs s := by
  subst hn
  have e : g = s.heap.get? := funext h
  subst e
  rfl
end TL

set_option linter.all false
set_option maxRecDepth 100000
set_option maxHeartbeats 4000000
/-! TLTab: from the head's facts to the law. Own work. -/
namespace TL
open PySem PySem.Spec PyProof.Rows L2 NdefX LamX
/-! ### arguments of plain defs -/
theorem zip_look_some : ∀ {ps : List Str} {us : List Value}, us.length = ps.length → ∀ x ∈ ps, ((ps.zip us).lookup x).isSome = true
  | [], _, _, x, h => by cases h
  | p :: ps, [], hl, _, _ => by simp at hl
  | p :: ps, u :: us, hl, x, h => by
    rw [List.zip_cons_cons, List.lookup_cons]
    by_cases e : x == p
    · simp [e]
    · simp only [e]
      rcases List.mem_cons.mp h with rfl | h
      · simp at e
      · exact zip_look_some (by simpa using hl) x h
theorem fm_congr {α β : Type} {f g : α → Option β} : ∀ {l : List α}, (∀ x ∈ l, f x = g x) → l.filterMap f = l.filterMap g
  | [], _ => rfl
  | x :: l, h => by
    rw [List.filterMap_cons, List.filterMap_cons, h x List.mem_cons_self, fm_congr fun y hy => h y (List.mem_cons_of_mem _ hy)]
theorem zip_filter : ∀ {ps : List Str} {us : List Value}, ps.Nodup → us.length = ps.length → (ps.filterMap fun n => ((ps.zip us).lookup n).map (n, ·)) = ps.zip us
  | [], [], _, _ => rfl
  | [], _ :: _, _, h => by simp at h
  | p :: ps, [], _, h => by simp at h
  | p :: ps, u :: us, nd, hl => by
    rw [List.nodup_cons] at nd
    have ih := zip_filter nd.2 (us := us) (by simpa using hl)
    simp only [List.filterMap_cons, List.zip_cons_cons, List.lookup_cons, beq_self_eq_true, Option.map_some]
    congr 1
    refine Eq.trans (fm_congr fun x hx => ?_) ih
    have : (x == p) = false := by
      simp only [beq_eq_false_iff_ne]
      rintro rfl
      exact nd.1 hx
    simp only [this]
theorem bind_plain {fd : FuncData} {ps : List Str} {us : List Value} (hp : plainArgs fd.params = true) (hps : paramsOf fd.params = ps) (hd : fd.defaults = .none) (nd : ps.Nodup) (hl : us.length = ps.length) : bindArgs fd ⟨us, []⟩ = pure (ps.zip us) := by
  unfold plainArgs at hp
  simp only [Bool.and_eq_true] at hp
  obtain ⟨⟨⟨⟨⟨h1, h2⟩, h3⟩, h4⟩, h5⟩, h6⟩ := hp
  have e1 := List.isEmpty_iff.mp h1
  have e2 := Option.isNone_iff_eq_none.mp h2
  have e3 := List.isEmpty_iff.mp h3
  have e5 := Option.isNone_iff_eq_none.mp h5
  have n0 : (seqItems? Value.none) = pure none := rfl
  have miss : (ps.filter fun n => ((ps.zip us).lookup n).isNone) = [] := by
    rw [List.filter_eq_nil_iff]
    intro x hx
    have := zip_look_some hl x hx
    cases q : (ps.zip us).lookup x <;> simp_all
  have hps' : List.map (fun x => x.arg) fd.params.args = ps := hps
  unfold bindArgs
  simp only [e1, e2, e3, e5, hd, n0, hps', List.map_nil, List.nil_append, List.forIn_nil, pure_bind, Option.getD_none, List.toList_toArray, List.length_nil, Nat.sub_zero, List.drop_nil, hl, gt_iff_lt, Nat.lt_irrefl, false_and, Bool.false_eq_true, if_false, decide_false, Bool.false_and, List.take_length, List.take_of_length_le, Nat.le_refl, miss, List.isEmpty_nil, Bool.not_true, List.drop_length, List.zip_nil_left, List.append_nil, zip_filter nd hl]
/-! ### the table's data -/
def TD.fn (t : TD) : List DD := t.dds
def TD.tr (t : TD) (d : DD) : TM ISs := trSs 300 (t.ce d) (defBody d.st)
def TD.rq (t : TD) (d : DD) : List Rq := match t.tr d with
  | some (_, r) => r
  | none => []
def TD.rqs (t : TD) : List Rq := t.dds.flatMap t.rq
def DD.fi (d : DD) : FI := ⟨d.np, d.N.length, d.is⟩
/-- a lambda's number of parameters, captured ones with them -/
def TD.lnp (t : TD) (l : LD) : Nat := match t.rqs.lookup l.k with
  | some (_, _, pa, _, _, fr) => (paramsOf pa).length + fr.length
  | none => 0
def TD.T (t : TD) (lnp : List Nat) : List FI := t.dds.map DD.fi ++ t.lds.zipWith (fun l n => ⟨n, l.N.length, .cons (.ret l.ie) .nil⟩) lnp
/-- what is checked of a def -/
structure DDok (t : TD) (d : DD) : Prop where
  tr : (t.tr d).map (·.1) = some d.is
  sc : FnScope d.N (d.N.take d.np) (defScope d.st)
  np : d.np ≤ d.N.length
  pa : plainArgs (defArgs d.st) = true
  ps : paramsOf (defArgs d.st) = d.N.take d.np
def LDchk (t : TD) (l : LD) (n : Nat) : Bool := match t.rqs.lookup l.k with
  | some (_, q, pa, body, sc, fr) => nscB l.N (paramsOf pa) fr sc && plainArgs pa && decide ((paramsOf pa).Nodup) && decide ((paramsOf pa).length + fr.length = n)
  | none => false
/-- a lambda's body -/
def LDtr (t : TD) (l : LD) : Prop := ∀ nm q pa body sc fr, t.rqs.lookup l.k = some (nm, q, pa, body, sc, fr) → trE 300 (t.cl l.N sc) body = some (l.ie, [])
/-- the __init__ of an error's class -/
structure XDok (d : XDD) (f : Str) (st : Stmt) : Prop where
  sc : FnScope [("self" : Str), f] [("self" : Str), f] (defScope st)
  pa : plainArgs (defArgs st) = true
  ps : paramsOf (defArgs st) = [("self" : Str), f]
  bd : ∃ p1 p2 p3 p4, defBody st = [.Assign [.Attribute (.Name "self" p1) f p2] (.Name f p3) p4]
  hf : (f == ("__debug__" : Str)) = false ∧ (f == ("__classdict__" : Str)) = false
  nd : [("self" : Str), f].Nodup
/-- the classes' methods stand where they are told -/
def TD.ctC (t : TD) : Bool := t.ct.all fun cd => (match cd.ini with
    | some j => decide ((t.dds[j]?).map (·.pl) = some (.m cd.x "__init__"))
    | none => true) && (cd.ms.all fun p => decide ((t.dds[p.2]?).map (·.pl) = some (.m cd.x p.1))) && cd.ps.all fun p => decide ((t.dds[p.2]?).map (·.pl) = some (.p cd.x p.1))
structure TDok (t : TD) (lnp : List Nat) : Prop where
  dds : ∀ d ∈ t.dds, DDok t d
  csn : t.cs.all (fun p => match p.2 with
    | .fn _ => false
    | _ => true) = true
  ks : t.lds.map (·.k) = (List.range t.lds.length).map (· + t.dds.length)
  nd : (t.rqs.map (·.1)).Nodup
  sub : ∀ k ∈ t.rqs.map (·.1), k ∈ t.lds.map (·.k)
  ln : lnp.length = t.lds.length
  lchk : (t.lds.zip lnp).all (fun l => LDchk t l.1 l.2) = true
  ltr : ∀ l ∈ t.lds, LDtr t l
  kw : ∀ q ∈ t.kw, ∀ d, t.dds[q.1]? = some d → ∀ (kV doc pm : Value) (an : Option Addr) (cdv ct : Value) (us ws : List Value), us.length = q.2.1 → ws.length = q.2.2.length → us.length + ws.length = (d.N.take d.np).length →
    bindArgs (PySem.W.fnOf d.x d.qual (defArgs d.st) (defBody d.st) (defScope d.st) .none kV doc pm an cdv ct) ⟨us, q.2.2.zip ws⟩ = pure ((d.N.take d.np).zip (us ++ ws))
  ctc : t.ctC = true
  xis : ∀ d ∈ t.xs, ∀ f st, d.f = some (f, st) → XDok d f st ∧ t.xf.contains f = true
  sbs : ∀ q ∈ t.sb, ∀ T, q.2.1 = some T → bootBuiltins q.1 = some (.type T)
/-- all that is fixed -/
def TD.G (t : TD) (K : PySem.W.Frag) : GT where
  addr := fun j => (t.dds[j]?).map fun d => d.pl.ad K
  lam := fun j => if j < t.dds.length then none else t.rqs.lookup j
  cls := fun i => (t.ct[i]?).map fun cd => He.ga K cd.x
  xcl := fun i => (t.xs[i]?).map fun d => He.ga K d.x
  T := t.tf.map fun d => ((cY K d).2, fun _ _ => d.qual ++ ".<locals>." ++ "<lambda>")
theorem rq_of {t : TD} {d : DD} (h : (t.tr d).map (·.1) = some d.is) : t.tr d = some (d.is, t.rq d) := by
  unfold TD.rq
  cases q : t.tr d with
  | none => rw [q] at h; cases h
  | some p =>
    rw [q] at h
    obtain ⟨a, b⟩ := p
    cases h
    rfl
theorem nodup_lookup {α β : Type} [BEq α] [LawfulBEq α] : ∀ {l : List (α × β)} {p : α × β}, (l.map (·.1)).Nodup → p ∈ l → l.lookup p.1 = some p.2
  | [], _, _, h => by cases h
  | (a, b) :: l, p, nd, h => by
    simp only [List.map_cons, List.nodup_cons] at nd
    rw [List.lookup_cons]
    rcases List.mem_cons.mp h with rfl | h
    · simp
    · have : (p.1 == a) = false := by
        simp only [beq_eq_false_iff_ne]
        exact fun e => nd.1 (List.mem_map.mpr ⟨p, h, e⟩)
      simp only [this]
      exact nodup_lookup nd.2 h
theorem mem_of_lookup' {α β : Type} [BEq α] [LawfulBEq α] : ∀ {l : List (α × β)} {a : α} {b : β}, l.lookup a = some b → (a, b) ∈ l
  | [], _, _, h => by cases h
  | (c, d) :: l, a, b, h => by
    rw [List.lookup_cons] at h
    by_cases e : (a == c) = true
    · simp only [e, Option.some.injEq] at h
      rw [eq_of_beq e, ← h]
      exact List.mem_cons_self
    · simp only [Bool.eq_false_iff.mpr e] at h
      exact List.mem_cons_of_mem _ (mem_of_lookup' h)
section
variable {P : Program} {w : World} {K : PySem.W.Frag} {mg : Str → Option Value} {base h0 : Heap} {Ex : Exc} {t : TD} {lnp : List Nat}
theorem gl_ok (O : TDok t lnp) (X : K.In base) (G : base.Ns mainGlobals mg) (c : SaysY t h0 K) : ∀ x g, t.gl.lookup x = some g → GvM mg (t.G K) x g := by
  intro x g h
  have hm := mem_of_lookup' h
  have hf : relP K (x, g) = true := List.all_eq_true.mp (Bool.and_eq_true_iff.mp c.c1).1 (x, g) hm
  unfold relP at hf
  cases g with
  | int i => exact He.int_ok X G hf
  | str s => exact He.str_ok X G hf
  | fn j =>
    refine ⟨He.ga K x, He.glo_ok X G hf, ?_⟩
    rcases List.mem_append.mp hm with hm | hm
    · obtain ⟨⟨d, i⟩, h1, h2⟩ := List.mem_filterMap.mp hm
      simp only at h2
      split at h2
      · rename_i y hy
        simp only [Option.some.injEq, Prod.mk.injEq, Gv.fn.injEq] at h2
        obtain ⟨rfl, rfl⟩ := h2
        have h3 := List.mem_zipIdx_iff_getElem?.mp h1
        show (t.dds[i]?).map (fun d => d.pl.ad K) = _
        rw [show t.dds[i]? = some d from h3]
        show some (d.pl.ad K) = _
        rw [hy]
        rfl
      · cases h2
    · have := List.all_eq_true.mp O.csn _ hm
      cases this
theorem bl_ok (X : K.In base) (G : base.Ns mainGlobals mg) (c : SaysY t h0 K) : ∀ x, t.bl.contains x = true → mg x = none := by
  intro x h
  have hx : x ∈ t.bl := by simpa using h
  exact He.free_ok X G (List.all_eq_true.mp (Bool.and_eq_true_iff.mp c.c1).2 x hx)
theorem fun_ok (c : SaysY t h0 K) {d : DD} (h : d ∈ t.dds) : ∃ fd, Fun K d.x d.qual d.st (d.pl.ad K) fd ∧ ∀ cd, fd.code = .ref cd → cd = codeAt K (d.pl.ad K) := by
  have e : fnY K (d.pl.ad K) = d.val := by
    obtain ⟨i, hi, e⟩ := List.mem_iff_getElem.mp h
    have z := congrArg (fun l : List FnY => l[i]?) c.v1
    unfold TD.v1 at z
    simp only [List.getElem?_map, List.getElem?_eq_getElem hi, e, Option.map_some] at z
    exact Option.some.inj z
  exact fnY_fun e (List.all_eq_true.mp c.c2 d h)
theorem pl_at {K : PySem.W.Frag} {j : Nat} {p : Pl} (h : (t.dds[j]?).map (·.pl) = some p) : (t.G K).addr j = some (p.ad K) := by
  show (t.dds[j]?).map (fun d => d.pl.ad K) = _
  cases e : t.dds[j]? with
  | none => rw [e] at h; cases h
  | some d =>
    rw [e] at h
    cases h
    rfl
theorem ct_ok (O : TDok t lnp) (X : K.In base) (G : base.Ns mainGlobals mg) (c : SaysY t h0 K) : CtOk K mg (t.G K) t.ct := by
  refine ⟨fun i A g => ?_, fun i cd h => ⟨He.ga K cd.x, by show (t.ct[i]?).map _ = _; rw [h]; rfl⟩⟩
  have g : (t.ct[i]?).map (fun cd => He.ga K cd.x) = some A := g
  cases e : t.ct[i]? with
  | none => rw [e] at g; cases g
  | some cd =>
    rw [e] at g
    cases g
    refine ⟨cd, rfl, ?_⟩
    have hm : cd ∈ t.ct := List.mem_of_getElem? e
    have hb : cdB K cd = true := List.all_eq_true.mp (Bool.and_eq_true_iff.mp c.c3).1 cd hm
    unfold cdB at hb
    simp only [Bool.and_eq_true, List.all_eq_true] at hb
    obtain ⟨b1, b2, b3, b4, b5, b6, b7, b8, b9⟩ := hb
    have hc := List.all_eq_true.mp O.ctc cd hm
    simp only [Bool.and_eq_true, List.all_eq_true, decide_eq_true_eq] at hc
    obtain ⟨⟨k1, k2⟩, k3⟩ := hc
    refine ⟨He.glo_ok X G b1, He.cls_ok b2, b3, ⟨He.noat_ok b4, He.noat_ok b5⟩, fun j hj => ?_, fun m j hj => ?_, fun f j hj => ?_, fun f hf => He.noat_ok (b9 f hf)⟩
    · rw [hj] at k1 b6
      simp only [Option.isNone_some, Bool.false_or] at b6
      exact ⟨_, pl_at (of_decide_eq_true k1), He.mkr_ok b6⟩
    · exact ⟨_, pl_at (k2 (m, j) (mem_of_lookup' hj)), He.meth_ok (b7 (m, j) (mem_of_lookup' hj))⟩
    · exact ⟨_, _, pl_at (k3 (f, j) (mem_of_lookup' hj)), prB_ok (b8 (f, j) (mem_of_lookup' hj))⟩
theorem fm_at {α β : Type} {f : α → Option β} {g : α → Option β} : ∀ {l : List α}, (∀ x ∈ l, (f x).isSome = (g x).isSome) → l.filterMap f = l.filterMap g → ∀ x ∈ l, f x = g x
  | [], _, _, _, h => by cases h
  | y :: l, hs, e, x, h => by
    have h1 := hs y List.mem_cons_self
    have h2 : ∀ x ∈ l, (f x).isSome = (g x).isSome := fun x hx => hs x (List.mem_cons_of_mem _ hx)
    cases ef : f y with
    | none =>
      cases eg : g y with
      | none =>
        rw [List.filterMap_cons_none ef, List.filterMap_cons_none eg] at e
        rcases List.mem_cons.mp h with rfl | h
        · rw [ef, eg]
        · exact fm_at h2 e x h
      | some b => rw [ef, eg] at h1; cases h1
    | some a =>
      cases eg : g y with
      | none => rw [ef, eg] at h1; cases h1
      | some b =>
        rw [List.filterMap_cons_some ef, List.filterMap_cons_some eg] at e
        simp only [List.cons.injEq] at e
        rcases List.mem_cons.mp h with rfl | h
        · rw [ef, eg, e.1]
        · exact fm_at h2 e.2 x h
theorem xt_ok (O : TDok t lnp) (X : K.In base) (G : base.Ns mainGlobals mg) (c : SaysY t h0 K) : XtOk K mg (t.G K) t.xf t.xt := by
  have get : ∀ i, t.xt[i]? = (t.xs[i]?).map fun d : XDD => (⟨d.x, d.f.map (·.1)⟩ : XD) := fun i => by
    unfold TD.xt
    rw [List.getElem?_map]
  refine ⟨fun i A g => ?_, fun i xd h => ?_⟩
  · have g : (t.xs[i]?).map (fun d => He.ga K d.x) = some A := g
    cases e : t.xs[i]? with
    | none => rw [e] at g; cases g
    | some d =>
      rw [e] at g
      cases g
      refine ⟨⟨d.x, d.f.map (·.1)⟩, by rw [get, e]; rfl, ?_⟩
      have hm : d ∈ t.xs := List.mem_of_getElem? e
      have h3 := (Bool.and_eq_true_iff.mp (Bool.and_eq_true_iff.mp c.c3).2).1
      have hb := Bool.and_eq_true_iff.mp (List.all_eq_true.mp h3 d hm)
      obtain ⟨hx, hi⟩ := hb
      unfold xdB at hx
      simp only [Bool.and_eq_true, List.all_eq_true, decide_eq_true_eq] at hx
      obtain ⟨b1, b2, b3, b4, b5, b6, b7⟩ := hx
      unfold xsB at b2
      simp only [Bool.and_eq_true, decide_eq_true_eq] at b2
      obtain ⟨e1, e2, e3, e4, e5, e6⟩ := b2
      refine ⟨He.glo_ok X G b1, ⟨e1, xfB_ok e2, e3, e4, e5, e6⟩, fun f hf => He.noat_ok (b3 f hf), He.keep_ok b4, b5, b6, fun hn => ?_, fun f hf => ?_⟩
      · have hn : d.f.map (·.1) = none := hn
        cases q : d.f with
        | none => rw [q] at b7; exact b7
        | some p => rw [q] at hn; cases hn
      · have hf : d.f.map (·.1) = some f := hf
        cases q : d.f with
        | none => rw [q] at hf; cases hf
        | some p =>
          obtain ⟨f', st⟩ := p
          rw [q] at hf b7
          have hf : f' = f := Option.some.inj hf
          subst hf
          simp only [Bool.and_eq_true] at b7
          obtain ⟨c1, c2, c3, c4⟩ := b7
          have T : OexC K (He.ga K d.x) := ⟨oexB_ok c1, He.eqO_ok c2, b5, b6, He.keep_ok b4⟩
          obtain ⟨D, hin⟩ := O.xis d hm f' st q
          have hin : f' ∈ t.xf := by simpa using hin
          unfold xiB at hi
          rw [q] at hi
          simp only [Option.isNone_some, Bool.false_or] at hi
          have hv := fm_at (f := fun d : XDD => d.f.map fun _ => fnY K (xiA K d)) (g := XDD.val) (fun x _ => by unfold XDD.val; simp) c.v2 d hm
          unfold XDD.val at hv
          rw [q] at hv
          have hv : fnY K (xiA K d) = _ := Option.some.inj hv
          obtain ⟨fd, F, _⟩ := fnY_fun hv hi
          obtain ⟨oc, od, kV, doc, pm, an, cdv, ct, osl, rfl, lk, hcd⟩ := F.ex
          obtain ⟨p1, p2, p3, p4, bd⟩ := D.bd
          have hbd : ∀ us : List Value, us.length = [("self" : Str), f'].length → bindArgs (PySem.W.fnOf "__init__" (d.x ++ ".__init__") (defArgs st) (defBody st) (defScope st) .none kV doc pm an cdv ct) ⟨us, []⟩ = pure ([("self" : Str), f'].zip us) := fun us hl => bind_plain D.pa D.ps rfl D.nd hl
          refine ⟨T, xiA K d, _, He.eqO_ok c3, beq_iff_eq.mp c4, .all hbd, fun P w mg base => ?_⟩
          exact fn_init (k := 0) lk hcd D.sc bd D.hf T (He.noat_ok (b3 f' hin))
  · rw [get] at h
    cases e : t.xs[i]? with
    | none => rw [e] at h; cases h
    | some d => exact ⟨He.ga K d.x, by show (t.xs[i]?).map _ = _; rw [e]; rfl⟩
theorem sb_ok (O : TDok t lnp) (X : K.In base) (G : base.Ns mainGlobals mg) (c : SaysY t h0 K) : SbOk K mg (t.G K) t.sbT := by
  intro x cs h
  have hm := mem_of_lookup' h
  obtain ⟨q, hq, e⟩ := List.mem_map.mp hm
  obtain ⟨y, o, ns⟩ := q
  have e : (y, ns) = (x, cs) := e
  simp only [Prod.mk.injEq] at e
  obtain ⟨rfl, rfl⟩ := e
  have h3 := (Bool.and_eq_true_iff.mp (Bool.and_eq_true_iff.mp (Bool.and_eq_true_iff.mp c.c3).2).2).1
  have hb : sbB K t.xs (y, o, ns) = true := List.all_eq_true.mp h3 _ hq
  unfold sbB at hb
  obtain ⟨hb1, hb2⟩ := Bool.and_eq_true_iff.mp hb
  refine ⟨sbV K y o, ?_, fun i A g => ?_⟩
  · cases o with
    | some T => exact .inr ⟨T, rfl, He.free_ok X G hb1, O.sbs _ hq T rfl⟩
    | none => exact .inl ⟨_, rfl, He.glo_ok X G hb1⟩
  · have g : (t.xs[i]?).map (fun d => He.ga K d.x) = some A := g
    cases e : t.xs[i]? with
    | none => rw [e] at g; cases g
    | some d =>
      rw [e] at g
      cases g
      have := List.all_eq_true.mp hb2 (d, i) (List.mem_zipIdx_iff_getElem?.mpr e)
      simp only [Bool.and_eq_true, decide_eq_true_eq] at this
      have z : ns.contains i = decide (i ∈ ns) := by
        by_cases q : i ∈ ns <;> simp [q]
      rw [← z]
      exact this
theorem glk_ok {d : DD} (O : TDok t lnp) (X : K.In base) (G : base.Ns mainGlobals mg) (c : SaysY t h0 K) : GlOk K mg (t.G K) (t.ce d) := ⟨gl_ok O X G c, bl_ok X G c, ct_ok O X G c, xt_ok O X G c, sb_ok O X G c⟩
theorem nodup_at {α β : Type} {f : α → β} : ∀ {l : List α} {a b : α}, (l.map f).Nodup → a ∈ l → b ∈ l → f a = f b → a = b
  | [], _, _, _, h, _, _ => by cases h
  | c :: l, a, b, nd, ha, hb, e => by
    simp only [List.map_cons, List.nodup_cons] at nd
    rcases List.mem_cons.mp ha with h1 | h1 <;> rcases List.mem_cons.mp hb with h2 | h2
    · rw [h1, h2]
    · rw [h1] at e; exact (nd.1 (List.mem_map.mpr ⟨b, h2, e.symm⟩)).elim
    · rw [h2] at e; exact (nd.1 (List.mem_map.mpr ⟨a, h1, e⟩)).elim
    · exact nodup_at nd.2 h1 h2 e
theorem rqs_ok (O : TDok t lnp) {d : DD} (h : d ∈ t.dds) : RqOk (t.G K) (t.rq d) := by
  intro q hq
  have hm : q ∈ t.rqs := List.mem_flatMap.mpr ⟨d, h, hq⟩
  show (if q.1 < t.dds.length then none else t.rqs.lookup q.1) = some q.2
  have hk := O.sub q.1 (List.mem_map.mpr ⟨q, hm, rfl⟩)
  rw [O.ks] at hk
  obtain ⟨i, _, e⟩ := List.mem_map.mp hk
  rw [if_neg (by omega)]
  exact nodup_lookup O.nd hm
theorem lk_ok (O : TDok t lnp) (c : SaysY t h0 K) (TB : ∀ p ∈ t.tf.map (cY K), TabB base mg p.1 p.2) {d : DD} (h : d ∈ t.dds) {fd : FuncData} (F : Fun K d.x d.qual d.st (d.pl.ad K) fd) (hc : ∀ cd, fd.code = .ref cd → cd = codeAt K (d.pl.ad K)) : LkOk base mg (t.G K) (t.ce d) d.qual fd := by
  intro p kk hp
  refine ⟨rfl, ?_⟩
  obtain ⟨oc, od, kV, doc, pm, an, cdv, ct, osl, rfl, lk, hcd⟩ := F.ex
  obtain ⟨cd, rfl⟩ := He.codeIn_ref hcd
  have hp : d.lk.lookup p = some kk := hp
  have hne : d.lk.isEmpty = false := by
    cases q : d.lk with
    | nil => rw [q] at hp; cases hp
    | cons _ _ => rfl
  have htf : d ∈ t.tf := List.mem_filter.mpr ⟨h, by simp [hne]⟩
  have hcc := hc cd rfl
  refine ⟨cd, (cY K d).2, fun _ _ => d.qual ++ ".<locals>." ++ "<lambda>", rfl, ?_, List.mem_map.mpr ⟨d, htf, rfl⟩, rfl, fun q hq e => ?_⟩
  · have := TB _ (List.mem_map.mpr ⟨d, htf, rfl⟩)
    rw [hcc]
    exact this
  · obtain ⟨p', hp', rfl⟩ := List.mem_map.mp hq
    have nd : (t.tf.map fun d => (cY K d).2).Nodup := by
      have := (Bool.and_eq_true_iff.mp c.c3).2
      have := (Bool.and_eq_true_iff.mp this).2
      exact of_decide_eq_true (Bool.and_eq_true_iff.mp this).2
    have := nodup_at nd hp' htf e
    subst this
    rfl
theorem dd_binds {d : DD} (D : DDok t d) {fd : FuncData} (F : Fun K d.x d.qual d.st (d.pl.ad K) fd) : Binds K fd (d.N.take d.np) [] ∧ ∀ (s : Shared) (us : List Value), us.length = (d.N.take d.np).length → BindsTo s fd ⟨us, []⟩ ((d.N.take d.np).zip us) := by
  obtain ⟨oc, od, kV, doc, pm, an, cdv, ct, osl, rfl, lk, hcd⟩ := F.ex
  have b : ∀ us : List Value, us.length = (d.N.take d.np).length → bindArgs (PySem.W.fnOf d.x d.qual (defArgs d.st) (defBody d.st) (defScope d.st) .none kV doc pm an cdv ct) ⟨us, []⟩ = pure ((d.N.take d.np).zip us) := fun us hl =>
    bind_plain D.pa D.ps rfl (D.sc.nd.sublist (List.take_sublist _ _)) hl
  exact ⟨.all b, fun s us hl => .of_eq (b us hl)⟩
theorem fi_at {d : DD} {j : Nat} (h : t.dds[j]? = some d) : (t.T lnp)[j]? = some d.fi := by
  have hj : j < t.dds.length := (List.getElem?_eq_some_iff.mp h).1
  unfold TD.T
  rw [List.getElem?_append_left (by simpa using hj), List.getElem?_map, h]
  rfl
theorem tab_ok (O : TDok t lnp) (X : K.In base) (G : base.Ns mainGlobals mg) (c : SaysY t h0 K) (TB : ∀ p ∈ t.tf.map (cY K), TabB base mg p.1 p.2) : TabOk P w K mg base (t.G K) t.kw (t.T lnp) Ex := by
  have gk := fun d => glk_ok (d := d) O X G c
  refine ⟨fun j f hj => ?_, fun j q hq hj => ?_, fun j hj => ?_⟩
  · have hj : (t.dds[j]?).map (fun d => d.pl.ad K) = some f := hj
    cases hd : t.dds[j]? with
    | none => rw [hd] at hj; cases hj
    | some d =>
    rw [hd] at hj
    cases hj
    have hm : d ∈ t.dds := List.mem_of_getElem? hd
    have D := O.dds d hm
    obtain ⟨fd, F, hc⟩ := fun_ok c hm
    obtain ⟨b1, b2⟩ := dd_binds D F
    refine ⟨F.kp, ?_, fd, d.N.take d.np, b1, ?_, d.fi, fi_at hd, ?_, fun k Φ L => ?_⟩
    · obtain ⟨oc, od, kV, doc, pm, an, cdv, ct, osl, rfl, lk, hcd⟩ := F.ex
      exact fun h hi => ⟨_, _, _, _, hi _ _ lk⟩
    · obtain ⟨oc, od, kV, doc, pm, an, cdv, ct, osl, rfl, lk, hcd⟩ := F.ex
      exact fun n ks hk s us ws h1 h2 h3 => .of_eq (O.kw _ hk d hd kV doc pm an cdv ct us ws h1 h2 h3)
    · have := D.np
      show d.np = (d.N.take d.np).length
      rw [List.length_take]
      omega
    · have hnp : d.np = (d.N.take d.np).length := by
        have := D.np
        rw [List.length_take]
        omega
      have := fnS_def (P := P) (w := w) (Ex := Ex) (n := 300) (ce := t.ce d) F D.sc rfl rfl rfl rfl rfl (rq_of D.tr) (gk d) (lk_ok O c TB hm F hc) (rqs_ok O hm) L
      rw [← hnp] at this
      exact this
  · have hge : t.dds.length ≤ j := by
      have hj : (t.dds[j]?).map (fun d => d.pl.ad K) = none := hj
      simpa using hj
    have hq : (if j < t.dds.length then none else t.rqs.lookup j) = some q := hq
    rw [if_neg (by omega)] at hq
    have hk : j ∈ t.lds.map (·.k) := O.sub j (List.mem_map.mpr ⟨_, mem_of_lookup' hq, rfl⟩)
    rw [O.ks] at hk
    obtain ⟨i, hi, e⟩ := List.mem_map.mp hk
    have hi : i < t.lds.length := by simpa using hi
    obtain ⟨nm, q', pa, body, sc, fr⟩ := q
    have hlk : (t.lds[i]).k = j := by
      have := congrArg (fun l : List Nat => l[i]?) O.ks
      simp only [List.getElem?_map, List.getElem?_eq_getElem hi, Option.map_some, List.getElem?_range hi] at this
      rw [← e]
      exact Option.some.inj this
    have hli : i < lnp.length := by rw [O.ln]; exact hi
    have chk := List.all_eq_true.mp O.lchk (t.lds[i], lnp[i]) (List.mem_iff_getElem.mpr ⟨i, by simp [O.ln, hi], by simp⟩)
    unfold LDchk at chk
    rw [hlk, hq] at chk
    simp only [Bool.and_eq_true, decide_eq_true_eq] at chk
    obtain ⟨⟨⟨c1, c2⟩, c3⟩, c4⟩ := chk
    refine ⟨⟨lnp[i], (t.lds[i]).N.length, .cons (.ret (t.lds[i]).ie) .nil⟩, ?_, fun k Φ L A outer s H us vs Q E C f caps pvs θ S mu hr e0 r cells rs rl rv post => ?_⟩
    · unfold TD.T
      rw [List.getElem?_append_right (by simpa using hge)]
      simp only [List.length_map, ← e, Nat.add_sub_cancel]
      rw [List.getElem?_zipWith, List.getElem?_eq_getElem hi, List.getElem?_eq_getElem hli]
    · have tr := O.ltr _ (List.getElem_mem hi) nm q' pa body sc fr (by rw [hlk]; exact hq)
      refine cloS (Ex := Ex) (n := 300) (ce := t.cl (t.lds[i]).N sc) hj (show (if j < t.dds.length then none else t.rqs.lookup j) = _ by rw [if_neg (by omega)]; exact hq) (nscope_by c1) (fun cl pm ctv c us hl => bind_plain c2 rfl rfl c3 hl) rfl rfl rfl rfl rfl rfl tr ⟨gl_ok O X G c, bl_ok X G c, ct_ok O X G c, xt_ok O X G c, sb_ok O X G c⟩ (fun q hq => by cases hq) L A outer s H us vs Q E C f caps pvs θ S mu hr e0 r cells rs rl rv ?_
      rw [c4]
      exact post
  · have hj : (t.dds[j]?).map (fun d => d.pl.ad K) ≠ none := hj
    have : j < t.dds.length := by
      by_cases h : j < t.dds.length
      · exact h
      · exact (hj (by simp; omega)).elim
    show (if j < t.dds.length then none else _) = none
    rw [if_pos this]
theorem fnS_at (O : TDok t lnp) (X : K.In base) (G : base.Ns mainGlobals mg) (c : SaysY t h0 K) (TB : ∀ p ∈ t.tf.map (cY K), TabB base mg p.1 p.2) {d : DD} {j k : Nat} (hd : t.dds[j]? = some d) {fd : FuncData} (F : Fun K d.x d.qual d.st (d.pl.ad K) fd) (hc : ∀ cd, fd.code = .ref cd → cd = codeAt K (d.pl.ad K)) :
    FnS P w K mg base (t.G K) (k + 1) (d.pl.ad K) fd (d.N.take d.np) (Ph (t.T lnp) Ex (k + 1) j) := by
  have hm : d ∈ t.dds := List.mem_of_getElem? hd
  have D := O.dds d hm
  have hnp : d.np = (d.N.take d.np).length := by
    have := D.np
    rw [List.length_take]
    omega
  have := fnS_def (P := P) (w := w) (Ex := Ex) (n := 300) (ce := t.ce d) F D.sc rfl rfl rfl rfl rfl (rq_of D.tr) (glk_ok O X G c) (lk_ok O c TB hm F hc) (rqs_ok O hm) (lv (P := P) (w := w) (Ex := Ex) (tab_ok O X G c TB) k)
  rw [← hnp] at this
  have e : Ph (t.T lnp) Ex (k + 1) j = runF (Ph (t.T lnp) Ex k) Ex d.fi := by
    funext args mu
    show (match (t.T lnp)[j]? with
      | some f => runF (Ph (t.T lnp) Ex k) Ex f args mu
      | none => .bad) = _
    rw [fi_at hd]
  rw [e]
  exact this
theorem rep_ints {C : Cells} {θ : List Addr} {S : Hp} {G : FT} : ∀ ns : List Int, RepL K G C θ S (ns.map .int) (ns.map V.int)
  | [] => .nil
  | n :: ns => .cons (.int n) (rep_ints ns)
/-- what must hold at the script -/
theorem law_start {jl : Nat} {a : Addr} {ns : List Int} {H : Hp} (hT : ∀ p ∈ t.tf.map (cY K), H p.2 = some (.tbl #[])) (nT : ∀ p ∈ t.tf.map (cY K), K.lookup p.2 = none) (hS : SqL K H a (ns.map V.int)) :
    ∃ S, RS K (t.G K) [] S H [] ∧ RepV K (t.G K).toFT noC [] S (.scr (ns.map .int)) (.ref a) := by
  have tb : ∀ {S : Hp}, TabsK (t.G K).T S H := fun {S} p hp => by
    obtain ⟨q, hq, rfl⟩ := List.mem_map.mp hp
    exact ⟨#[], hT _ (List.mem_map.mpr ⟨q, hq, rfl⟩), trivial, fun pos cv hcv => by simp [codeAmong] at hcv⟩
  rcases hS with hS | hS
  · refine ⟨fun b => if b = a then H a else none, ⟨fun b o hb => ?_, List.nodup_nil, rfl, fun b hb => (by cases hb), fun i o b hi => (by simp at hi), tb, fun p hp => ?_⟩, .scr (.inl ?_) (rep_ints ns)⟩
    · have hb : (if b = a then H a else none) = some o := hb
      by_cases e : b = a
      · rw [if_pos e] at hb; rw [e]; exact hb
      · rw [if_neg e] at hb; cases hb
    · obtain ⟨q, hq, rfl⟩ := List.mem_map.mp hp
      have h1 := hT _ (List.mem_map.mpr ⟨q, hq, rfl⟩)
      show (if (cY K q).2 = a then H a else none) = none
      by_cases e : (cY K q).2 = a
      · rw [e] at h1
        rcases hS with z | ⟨o, z⟩ <;> rw [h1] at z <;> cases z
      · rw [if_neg e]
    · rcases hS with z | ⟨o, z⟩
      · exact .inl (by show (if a = a then H a else none) = _; rw [if_pos rfl]; exact z)
      · exact .inr ⟨o, by show (if a = a then H a else none) = _; rw [if_pos rfl]; exact z⟩
  · exact ⟨fun _ => none, ⟨fun b o hb => (by cases hb), List.nodup_nil, rfl, fun b hb => (by cases hb), fun i o b hi => (by simp at hi), tb, fun p hp => rfl⟩, .scr (.inr hS) (rep_ints ns)⟩
/-- the law's promise from what the small language says of it -/
theorem law_at {l : PySem.W.OpenLaw} {jl k : Nat} {dl : DD} {fa : Addr} {h : Heap} (O : TDok t lnp) (hjl : t.dds[jl]? = some dl) (hps : dl.N.take dl.np = [("script" : Str)]) (X : K.In h) (G : h.Ns mainGlobals mg) {xl : Str} (hpl : dl.pl = .g xl) (hfa : mg xl = some (.ref fa)) (c : SaysY t h K)
    (hmain : ∀ ns : List Int, ns.length ≤ 63 → ∃ mu, Ph (t.T lnp) Ex (k + 1) jl [.scr (ns.map .int)] [] = .ok (.bl true) mu) : LawAtS l w K (L2.CX l.prog w) (2 * (k + 1) + 1) 63 "script" mg fa h := by
  have hm : dl ∈ t.dds := List.mem_of_getElem? hjl
  have D := O.dds dl hm
  obtain ⟨fd, F, hc⟩ := fun_ok c hm
  obtain ⟨b1, b2⟩ := dd_binds D F
  have efa : fa = dl.pl.ad K := by
    have hrel : relP K (xl, .fn jl) = true := List.all_eq_true.mp (Bool.and_eq_true_iff.mp c.c1).1 (xl, .fn jl) (List.mem_append_left _ (List.mem_filterMap.mpr ⟨(dl, jl), List.mem_zipIdx_iff_getElem?.mpr hjl, by simp only [hpl]⟩))
    have := hfa.symm.trans (He.glo_ok X G (x := xl) hrel)
    cases this
    rw [hpl]
    rfl
  subst efa
  have nT : ∀ p ∈ t.tf.map (cY K), K.lookup p.2 = none := fun p hp => by
    obtain ⟨q, hq, rfl⟩ := List.mem_map.mp hp
    exact c.out q hq
  refine ⟨fd, t.tf.map (cY K), fun vs H Q E => vs.length = 1 ∧ spF K (t.G K) noC (Ph (t.T lnp) Ex (k + 1) jl) vs H Q E, fun p hp => ?_, nT, fun p hp => ?_, fun s u => ?_, fun H a ns hl _ hT hS => ?_, fun base X' G' TB => ?_⟩
  · obtain ⟨q, hq, rfl⟩ := List.mem_map.mp hp
    exact c.empty q hq
  · obtain ⟨q, hq, rfl⟩ := List.mem_map.mp hp
    exact PySem.W.codeHd_of_K X (c.hd q hq)
  · have := b2 s [u] (by rw [hps]; rfl)
    rw [hps] at this
    exact this
  · obtain ⟨S, rs, rv⟩ := law_start (jl := jl) hT nT hS
    obtain ⟨mu, e⟩ := hmain ns hl
    refine ⟨rfl, [], S, [], [.scr (ns.map .int)], rs, .cons rv .nil, ?_⟩
    rw [e]
    intro θ' S' H' v _ _ rv
    cases rv
    rfl
  · have FS := fnS_at (P := l.prog) (w := w) (Ex := Ex) (k := k) O X' G' c TB hjl F hc
    rw [hps] at FS
    exact ⟨fun vs H Q E h => h.1, fun A outer s H args us vs Q E hr e0 hb r h => FS A outer s H args us vs Q E noC hr e0 hb r h.1 (fun c v z => z.elim) h.2⟩
end
end TL

set_option linter.all false
set_option maxRecDepth 100000
/-! TLHead: the head's run in several parts, each with its own memory. Own work. -/
namespace TL
open PySem PySem.Spec PyProof.Rows L2 PySem.W PySem.Calls
/-- behind the top, f gives a -/
def EndP (p : Program) (w : World) (os : OsState) (M : Nat) {α : Type} (f : PySem.W.SharedT → α) (a : α) : Prop := (HandSHeadRun.endF (HandSHeadRun.stepQ (HandSHeadRun.denQ HandSHeadRun.tabQ) p w) M p w os).map f = some a
theorem EndP.and {p : Program} {w : World} {os : OsState} {M : Nat} {α β : Type} {f : PySem.W.SharedT → α} {g : PySem.W.SharedT → β} {a : α} {b : β} (h : EndP p w os M f a) (k : EndP p w os M g b) : EndP p w os M (fun s => (f s, g s)) (a, b) := by
  obtain ⟨s, hs, hf⟩ := Option.map_eq_some_iff.mp h
  have hg : (HandSHeadRun.endF (HandSHeadRun.stepQ (HandSHeadRun.denQ HandSHeadRun.tabQ) p w) M p w os).map g = some b := k
  rw [hs] at hg
  have hg : g s = b := Option.some.inj hg
  show Option.map _ _ = _
  rw [hs, ← hf, ← hg]
  rfl
noncomputable abbrev seenA (R : PySem.W.OpenRow) (q : Program) (loose : List Str) (s : PySem.W.SharedT) := HandSHeadRun.seenQ q loose (importedModules R.prog.main.body) (fun s => PySem.W.xlAt q [] s && PySem.W.recOk R.toRowW.records s) s.abs
noncomputable abbrev goodA (q : Program) (loose : List Str) := PySem.W.openGood q loose
theorem absN (s : PySem.W.SharedT) : s.n = s.abs.heap.objs.size := (PySem.W.absHeap_size s.tree s.n s.life).symm
theorem run_all {R : PySem.W.OpenRow} {q : Program} {loose : List Str} {w : World} {os : OsState} {M : Nat} {t : TD} {f : PySem.W.SharedT → AlY} 
    (ha : EndP R.prog w os M (fun s => ((HandSHeadRun.looksF R.prog (PySem.W.boot_heap w.params) s.abs, (seenA R q loose s).1), ((seenA R q loose s).2.1, (seenA R q loose s).2.2.1))) ((true, (goodA q loose).1), ((goodA q loose).2.1, (goodA q loose).2.2.1)))
    (hb : EndP R.prog w os M (fun s => (seenA R q loose s).2.2.2) (goodA q loose).2.2.2) (hc : EndP R.prog w os M (fun s => (f s).1) (valY t).1) (hd : EndP R.prog w os M (fun s => (f s).2) (valY t).2) :
    (HandSHeadRun.endF (HandSHeadRun.stepQ (HandSHeadRun.denQ HandSHeadRun.tabQ) R.prog w) M R.prog w os).map (fun s => (HandSHeadRun.looksF R.prog (PySem.W.boot_heap w.params) s.abs, HandSHeadRun.seenQ q loose (importedModules R.prog.main.body) (fun s => PySem.W.xlAt q [] s && PySem.W.recOk R.toRowW.records s) s.abs, f s)) = some (true, PySem.W.openGood q loose, valY t) := by
  obtain ⟨s, hs, h1⟩ := Option.map_eq_some_iff.mp ((ha.and hb).and (hc.and hd))
  rw [hs]
  simp only [Prod.mk.injEq] at h1
  obtain ⟨⟨⟨⟨a1, a2⟩, a3, a4⟩, a5⟩, a6, a7⟩ := h1
  exact congrArg some (Prod.ext a1 (Prod.ext (Prod.ext a2 (Prod.ext a3 (Prod.ext a4 a5))) (Prod.ext a6 a7)))
end TL

set_option linter.all false
set_option maxRecDepth 100000
set_option maxHeartbeats 4000000
/-! TLSim: rewriting rules by which simp runs the small language. Own work. -/
namespace TL
open PySem L2
section
variable {α : Type}
def PV.bc (x : PV) (a b : DR α) : DR α := match x with
  | .bl true => a
  | .bl false => b
  | _ => .bad
def PV.bcS (x : PV) (a b : SR) : SR := match x with
  | .bl true => a
  | .bl false => b
  | _ => .bad
def PV.ic (x : PV) (f : Int → DR α) : DR α := match x with
  | .int i => f i
  | _ => .bad
def PV.dc (x : PV) (f : List (Key × PV) → DR α) : DR α := match x with
  | .dct i => f i
  | _ => .bad
def obc (o : Option Bool) (a b : DR α) : DR α := match o with
  | some true => a
  | some false => b
  | none => .bad
@[simp] theorem bc_bl (p : Bool) (a b : DR α) : (PV.bl p).bc a b = if p then a else b := by cases p <;> rfl
@[simp] theorem bcS_bl (p : Bool) (a b : SR) : (PV.bl p).bcS a b = if p then a else b := by cases p <;> rfl
@[simp] theorem ic_int (i : Int) (f : Int → DR α) : (PV.int i).ic f = f i := rfl
@[simp] theorem dc_dct (i : List (Key × PV)) (f : List (Key × PV) → DR α) : (PV.dct i).dc f = f i := rfl
@[simp] theorem obc_some (p : Bool) (a b : DR α) : obc (some p) a b = if p then a else b := by cases p <;> rfl
@[simp] theorem dbind_ok {β : Type} (a : α) (s : DS) (f : α → DS → DR β) : (DR.ok a s).bind f = f a s := rfl
@[simp] theorem thn_ok (a : α) (s : DS) (f : α → DS → SR) : (DR.ok a s).thn f = f a s := rfl
@[simp] theorem opt_some (a : α) (s : DS) : DR.opt (some a) s = .ok a s := rfl
@[simp] theorem ofF_ok (v : PV) (mu : List SO) (s : DS) : DR.ofF (.ok v mu) s = .ok v { s with mu := mu } := rfl
@[simp] theorem ofF_exc (c : Nat) (fs : List (Str × PV)) (mu : List SO) (s : DS) : DR.ofF (.exc c fs mu) s = .exc c fs { s with mu := mu } := rfl
@[simp] theorem dbind_exc {β : Type} (c : Nat) (fs : List (Str × PV)) (s : DS) (f : α → DS → DR β) : (DR.exc c fs s).bind f = .exc c fs s := rfl
@[simp] theorem thn_exc (c : Nat) (fs : List (Str × PV)) (s : DS) (f : α → DS → SR) : (DR.exc c fs s : DR α).thn f = .exc c fs s := rfl
@[simp] theorem sthn_nx (s : DS) (f : DS → SR) : (SR.nx s).thn f = f s := rfl
@[simp] theorem sthn_ret (v : PV) (s : DS) (f : DS → SR) : (SR.ret v s).thn f = .ret v s := rfl
@[simp] theorem sthn_brk (s : DS) (f : DS → SR) : (SR.brk s).thn f = .brk s := rfl
@[simp] theorem sthn_cont (s : DS) (f : DS → SR) : (SR.cont s).thn f = .cont s := rfl
@[simp] theorem sthn_exc (c : Nat) (fs : List (Str × PV)) (s : DS) (f : DS → SR) : (SR.exc c fs s).thn f = .exc c fs s := rfl
end
section
variable {Φ : Phi} {s : DS}
@[simp] theorem e_non : ev Φ .non s = .ok .non s := rfl
@[simp] theorem e_bl {b : Bool} : ev Φ (.bl b) s = .ok (.bl b) s := rfl
@[simp] theorem e_int {i} : ev Φ (.int i) s = .ok (.int i) s := rfl
@[simp] theorem e_str {i} : ev Φ (.str i) s = .ok (.str i) s := rfl
@[simp] theorem e_var {i} : ev Φ (.var i) s = if i ∈ s.own then .bad else .opt (getS s i) s := rfl
@[simp] theorem e_peek {i} : ev Φ (.peek i) s = .opt (getS s i) s := rfl
@[simp] theorem e_bin {op a b} : ev Φ (.bin op a b) s = (ev Φ a s).bind fun x s => (ev Φ b s).bind fun y s => .opt (vbin op x y) s := rfl
@[simp] theorem e_neg {a} : ev Φ (.neg a) s = (ev Φ a s).bind fun x s => x.ic fun i => .ok (.int (-i)) s := by
  show (ev Φ a s).bind _ = _
  cases ev Φ a s with
  | ok x s => cases x <;> rfl
  | _ => rfl
@[simp] theorem e_cmp {op a b} : ev Φ (.cmp op a b) s = (ev Φ a s).bind fun x s => (ev Φ b s).bind fun y s => .opt ((vcmp op x y).map PV.bl) s := rfl
@[simp] theorem e_cmp2 {op op' a b c} : ev Φ (.cmp2 op op' a b c) s = (ev Φ a s).bind fun x s => (ev Φ b s).bind fun y s => obc (vcmp op x y) ((ev Φ c s).bind fun z s => .opt ((vcmp op' y z).map PV.bl) s) (.ok (.bl false) s) := by
  show (ev Φ a s).bind _ = _
  cases ev Φ a s with
  | ok x s =>
    show (ev Φ b s).bind _ = (ev Φ b s).bind _
    cases ev Φ b s with
    | ok y s =>
      show (match vcmp op x y with
        | some true => (ev Φ c s).bind fun z s => .opt ((vcmp op' y z).map PV.bl) s
        | some false => .ok (.bl false) s
        | none => .bad) = obc (vcmp op x y) _ _
      cases vcmp op x y with
      | none => rfl
      | some q => cases q <;> rfl
    | _ => rfl
  | _ => rfl
@[simp] theorem e_and {a b} : ev Φ (.and a b) s = (ev Φ a s).bind fun x s => x.bc (ev Φ b s) (.ok (.bl false) s) := by
  show (ev Φ a s).bind _ = _
  cases ev Φ a s with
  | ok x s => rcases x with _ | q | _ | _ | _ | _ | _ | _ | _ | _ | _ <;> first | rfl | (cases q <;> rfl)
  | _ => rfl
@[simp] theorem e_or {a b} : ev Φ (.or a b) s = (ev Φ a s).bind fun x s => x.bc (.ok (.bl true) s) (ev Φ b s) := by
  show (ev Φ a s).bind _ = _
  cases ev Φ a s with
  | ok x s => rcases x with _ | q | _ | _ | _ | _ | _ | _ | _ | _ | _ <;> first | rfl | (cases q <;> rfl)
  | _ => rfl
@[simp] theorem e_not {a} : ev Φ (.not a) s = (ev Φ a s).bind fun x s => x.bc (.ok (.bl false) s) (.ok (.bl true) s) := by
  show (ev Φ a s).bind _ = _
  cases ev Φ a s with
  | ok x s => rcases x with _ | q | _ | _ | _ | _ | _ | _ | _ | _ | _ <;> first | rfl | (cases q <;> rfl)
  | _ => rfl
@[simp] theorem e_ite {c a b} : ev Φ (.ite c a b) s = (ev Φ c s).bind fun x s => x.bc (ev Φ a s) (ev Φ b s) := by
  show (ev Φ c s).bind _ = _
  cases ev Φ c s with
  | ok x s => rcases x with _ | q | _ | _ | _ | _ | _ | _ | _ | _ | _ <;> first | rfl | (cases q <;> rfl)
  | _ => rfl
@[simp] theorem e_tup {es} : ev Φ (.tup es) s = (evs Φ es s).bind fun xs s => if xs.length ≤ SZ then .ok (.tup xs) s else .bad := rfl
@[simp] theorem e_lst {es} : ev Φ (.lst es) s = (evs Φ es s).bind fun xs s => if xs.length ≤ SZ then .ok (.lst xs) s else .bad := rfl
@[simp] theorem e_dict {es} : ev Φ (.dict es) s = (evs Φ es s).bind fun xs s => .opt ((pairsOf xs).bind fun kvs => if kvs.length ≤ 15 then some (.dct (mergeP [] kvs)) else none) s := rfl
def PV.shc (x : PV) (s : DS) : DR PV := match x with
    | .lst xs => if plains xs then .ok (.obj s.mu.length) { s with mu := s.mu ++ [.lst xs] } else .bad
    | .dct kvs => if plainK kvs then .ok (.obj s.mu.length) { s with mu := s.mu ++ [.dct kvs] } else .bad
    | _ => .bad
@[simp] theorem shc_lst {xs : List PV} : (PV.lst xs).shc s = if plains xs then .ok (.obj s.mu.length) { s with mu := s.mu ++ [.lst xs] } else .bad := rfl
@[simp] theorem shc_dct {xs : List (Key × PV)} : (PV.dct xs).shc s = if plainK xs then .ok (.obj s.mu.length) { s with mu := s.mu ++ [.dct xs] } else .bad := rfl
@[simp] theorem e_sh {a} : ev Φ (.sh a) s = (ev Φ a s).bind fun x s => x.shc s := by
  show (ev Φ a s).bind _ = _
  cases ev Φ a s with
  | ok x s => cases x <;> rfl
  | _ => rfl
@[simp] theorem e_sub {a i} : ev Φ (.sub a i) s = (ev Φ a s).bind fun x s => (ev Φ i s).bind fun y s => .opt (vsub s.mu x y) s := rfl
def evB (Φ : Phi) (l : Bool) (lo : IE) (s : DS) : DR (Option Int) := if l then (ev Φ lo s).bind fun y s => y.ic fun i => .ok (some i) s else .ok none s
@[simp] theorem evB_f {lo} : evB Φ false lo s = .ok none s := rfl
@[simp] theorem evB_t {lo} : evB Φ true lo s = (ev Φ lo s).bind fun y s => y.ic fun i => .ok (some i) s := rfl
@[simp] theorem e_cut {a l lo h hi} : ev Φ (.cut a l lo h hi) s = (ev Φ a s).bind fun x s => (evB Φ l lo s).bind fun lo s => (evB Φ h hi s).bind fun hi s => .opt (vcut x lo hi) s := by
  have e : ∀ (l : Bool) (lo : IE) (s : DS), (if l then (ev Φ lo s).bind fun y s => (match y with
      | .int i => .ok (some i) s
      | _ => .bad) else .ok none s) = evB Φ l lo s := fun l lo s => by
    unfold evB
    cases l with
    | false => rfl
    | true =>
      show (ev Φ lo s).bind _ = (ev Φ lo s).bind _
      cases ev Φ lo s with
      | ok y s => cases y <;> rfl
      | _ => rfl
  have e2 : ∀ (x : PV), (fun s => (if l then (ev Φ lo s).bind fun y s => (match y with
      | .int i => .ok (some i) s
      | _ => .bad) else .ok none s).bind fun lo s => (if h then (ev Φ hi s).bind fun y s => (match y with
      | .int i => .ok (some i) s
      | _ => .bad) else .ok none s).bind fun hi s => .opt (vcut x lo hi) s) = fun s => (evB Φ l lo s).bind fun lo s => (evB Φ h hi s).bind fun hi s => .opt (vcut x lo hi) s := fun x => by
    funext s
    rw [e]
    refine congrArg (fun F => (evB Φ l lo s).bind F) ?_
    funext y s
    rw [e]
  have e3 : (fun x s => (if l then (ev Φ lo s).bind fun y s => (match y with
      | .int i => .ok (some i) s
      | _ => .bad) else .ok none s).bind fun lo s => (if h then (ev Φ hi s).bind fun y s => (match y with
      | .int i => .ok (some i) s
      | _ => .bad) else .ok none s).bind fun hi s => .opt (vcut x lo hi) s) = fun x s => (evB Φ l lo s).bind fun lo s => (evB Φ h hi s).bind fun hi s => .opt (vcut x lo hi) s := funext e2
  exact congrArg (fun F => (ev Φ a s).bind F) e3
@[simp] theorem e_call {f es} : ev Φ (.call f es) s = (evs Φ es s).bind fun xs s => .ofF (Φ f xs s.mu) s := rfl
def callV (Φ : Phi) (o : Option PV) (es : IEs) (s : DS) : DR PV := match o with
    | some (.fn k caps) => (evs Φ es s).bind fun xs s => .ofF (Φ k (xs ++ caps) s.mu) s
    | _ => .bad
@[simp] theorem callV_fn {k caps es} : callV Φ (some (.fn k caps)) es s = (evs Φ es s).bind fun xs s => .ofF (Φ k (xs ++ caps) s.mu) s := rfl
@[simp] theorem e_callv {i es} : ev Φ (.callv i es) s = callV Φ (getS s i) es s := rfl
@[simp] theorem e_blt {b es} : ev Φ (.blt b es) s = (evs Φ es s).bind fun xs s => .opt (vblt b xs) s := rfl
@[simp] theorem e_ssort {e} : ev Φ (.ssort e) s = (ev Φ e s).bind fun x s => .opt ((tupOf x).bind fun xs => (intsOf xs).bind fun ns => if ns.length < 64 then some (.lst ((ascI ns).map .int)) else none) s := rfl
@[simp] theorem e_dget1 {a k} : ev Φ (.dget1 a k) s = (ev Φ a s).bind fun x s => x.dc fun kvs => (ev Φ k s).bind fun y s => .opt ((keyOf y).map fun k => (look k kvs).getD .non) s := by
  show (ev Φ a s).bind _ = _
  cases ev Φ a s with
  | ok x s => cases x <;> rfl
  | _ => rfl
@[simp] theorem e_dget2 {a k d} : ev Φ (.dget2 a k d) s = (ev Φ a s).bind fun x s => x.dc fun kvs => (ev Φ k s).bind fun y s => (ev Φ d s).bind fun z s => .opt ((keyOf y).map fun k => (look k kvs).getD z) s := by
  show (ev Φ a s).bind _ = _
  cases ev Φ a s with
  | ok x s => cases x <;> rfl
  | _ => rfl
@[simp] theorem e_lam {k caps} : ev Φ (.lam k caps) s = (DR.opt (capsOf s caps) s).bind fun vs s => .ok (.fn k vs) { s with cap := caps ++ s.cap } := by
  show (match capsOf s caps with
    | some vs => DR.ok (PV.fn k vs) { s with cap := caps ++ s.cap }
    | none => .bad) = _
  cases capsOf s caps <;> rfl
def insC {α : Type} (o : Option (Nat × Nat × List (Str × PV))) (f : Nat → Nat → List (Str × PV) → DR α) : DR α := match o with
  | some (n, c, fs) => f n c fs
  | none => .bad
@[simp] theorem insC_some {α : Type} {n c fs} {f : Nat → Nat → List (Str × PV) → DR α} : insC (some (n, c, fs)) f = f n c fs := rfl
@[simp] theorem e_fld {a cs f} : ev Φ (.fld a cs f) s = (ev Φ a s).bind fun x s => insC (insOf s.mu x) fun _ c fs => if c ∈ cs then .opt (fs.lookup f) s else .bad := by
  show (ev Φ a s).bind _ = _
  cases ev Φ a s with
  | ok x s =>
    show (match insOf s.mu x with
      | some (_, c, fs) => if c ∈ cs then DR.opt (fs.lookup f) s else .bad
      | none => .bad) = insC (insOf s.mu x) _
    cases insOf s.mu x <;> rfl
  | _ => rfl
def mC {α : Type} (o : Option Nat) (p : Option PV) (f : Nat → DR α) : DR α := match o, p with
  | some j, none => f j
  | _, _ => .bad
@[simp] theorem mC_ok {α : Type} {j : Nat} {f : Nat → DR α} : mC (some j) none f = f j := rfl
@[simp] theorem e_meth {a m ms es} : ev Φ (.meth a m ms es) s = (ev Φ a s).bind fun x s => insC (insOf s.mu x) fun n c fs => mC (ms.lookup c) (fs.lookup m) fun f => (evs Φ es s).bind fun xs s => .ofF (Φ f (.obj n :: xs) s.mu) s := by
  show (ev Φ a s).bind _ = _
  cases ev Φ a s with
  | ok x s =>
    show (match insOf s.mu x with
      | some (n, c, fs) => (match ms.lookup c, fs.lookup m with
        | some f, none => (evs Φ es s).bind fun xs s => DR.ofF (Φ f (.obj n :: xs) s.mu) s
        | _, _ => .bad)
      | none => .bad) = insC (insOf s.mu x) _
    cases insOf s.mu x with
    | none => rfl
    | some o =>
      obtain ⟨n, c, fs⟩ := o
      show (match ms.lookup c, fs.lookup m with
        | some f, none => (evs Φ es s).bind fun xs s => DR.ofF (Φ f (.obj n :: xs) s.mu) s
        | _, _ => .bad) = mC _ _ _
      cases ms.lookup c <;> cases fs.lookup m <;> rfl
  | _ => rfl
@[simp] theorem e_prop {a ps} : ev Φ (.prop a ps) s = (ev Φ a s).bind fun x s => insC (insOf s.mu x) fun n c _ => mC (ps.lookup c) none fun f => .ofF (noX (Φ f [.obj n] s.mu)) s := by
  show (ev Φ a s).bind _ = _
  cases ev Φ a s with
  | ok x s =>
    show (match insOf s.mu x with
      | some (n, c, _) => (match ps.lookup c with
        | some f => DR.ofF (noX (Φ f [.obj n] s.mu)) s
        | none => .bad)
      | none => .bad) = insC (insOf s.mu x) _
    cases insOf s.mu x with
    | none => rfl
    | some o =>
      obtain ⟨n, c, fs⟩ := o
      show (match ps.lookup c with
        | some f => DR.ofF (noX (Φ f [.obj n] s.mu)) s
        | none => .bad) = mC _ _ _
      cases ps.lookup c <;> rfl
  | _ => rfl
@[simp] theorem noX_ok {v mu} : noX (.ok v mu) = .ok v mu := rfl
@[simp] theorem e_new {c f es} : ev Φ (.new c f es) s = (evs Φ es s).bind fun xs s => if plains xs then newF s.mu.length (Φ f (.obj s.mu.length :: xs) (s.mu ++ [.ins c []])) s else .bad := rfl
@[simp] theorem newF_ok {n mu} : newF n (.ok .non mu) s = .ok (.obj n) { s with mu := mu } := rfl
@[simp] theorem newF_exc {n c fs mu} : newF n (.exc c fs mu) s = .exc c fs { s with mu := mu } := rfl
def PV.tc {α : Type} (x : PV) (f : List PV → DR α) : DR α := match x with
  | .tup xs => f xs
  | _ => .bad
@[simp] theorem tc_tup {α : Type} {xs} {f : List PV → DR α} : (PV.tup xs).tc f = f xs := rfl
def PV.lc {α : Type} (x : PV) (f : List PV → DR α) : DR α := match x with
  | .lst xs => f xs
  | _ => .bad
@[simp] theorem lc_lst {α : Type} {xs} {f : List PV → DR α} : (PV.lst xs).lc f = f xs := rfl
@[simp] theorem e_tupS {a es} : ev Φ (.tupS a es) s = (ev Φ a s).bind fun x s => x.tc fun xs => (evs Φ es s).bind fun ys s => if xs.length + ys.length ≤ SZ then .ok (.tup (xs ++ ys)) s else .bad := by
  show (ev Φ a s).bind _ = _
  cases ev Φ a s with
  | ok x s => cases x <;> rfl
  | _ => rfl
@[simp] theorem e_lcnt {a b} : ev Φ (.lcnt a b) s = (ev Φ a s).bind fun x s => x.lc fun xs => (ev Φ b s).bind fun y s => if xs.all PV.flat && y.flat then .ok (.int (xs.countP fun x => eqP x y)) s else .bad := by
  show (ev Φ a s).bind _ = _
  cases ev Φ a s with
  | ok x s => cases x <;> rfl
  | _ => rfl
@[simp] theorem e_lidx {a b} : ev Φ (.lidx a b) s = (ev Φ a s).bind fun x s => x.lc fun xs => (ev Φ b s).bind fun y s => if xs.all PV.flat && y.flat then .opt ((xs.findIdx? fun x => eqP x y).map fun i => .int (i : Nat)) s else .bad := by
  show (ev Φ a s).bind _ = _
  cases ev Φ a s with
  | ok x s => cases x <;> rfl
  | _ => rfl
def boolV (x : PV) (s : DS) : DR PV := match x with
    | .bl b => .ok (.bl b) s
    | .int i => .ok (.bl (decide (i ≠ 0))) s
    | x => .opt ((insOf s.mu x).map fun _ => .bl true) s
@[simp] theorem boolV_obj {n : Nat} : boolV (.obj n) s = .opt ((insOf s.mu (.obj n)).map fun _ => .bl true) s := rfl
@[simp] theorem boolV_bl {b : Bool} : boolV (.bl b) s = .ok (.bl b) s := rfl
@[simp] theorem e_bool {a} : ev Φ (.bool a) s = (ev Φ a s).bind fun x s => boolV x s := rfl
def PV.bcc {α : Type} (x : PV) (f : Bool → DR α) : DR α := match x with
  | .bl b => f b
  | _ => .bad
@[simp] theorem bcc_bl {α : Type} {b} {f : Bool → DR α} : (PV.bl b).bcc f = f b := rfl
@[simp] theorem e_isB {neg a b} : ev Φ (.isB neg a b) s = (ev Φ a s).bind fun x s => x.bcc fun c => .ok (.bl (if neg then c != b else c == b)) s := by
  show (ev Φ a s).bind _ = _
  cases ev Φ a s with
  | ok x s => cases x <;> rfl
  | _ => rfl
@[simp] theorem e_cmpo {neg a b} : ev Φ (.cmpo neg a b) s = (ev Φ a s).bind fun x s => (ev Φ b s).bind fun y s => .opt ((veqM s.mu x y).map fun b => .bl (if neg then !b else b)) s := rfl
@[simp] theorem es_nil : evs Φ .nil s = .ok [] s := rfl
@[simp] theorem es_cons {e es} : evs Φ (.cons e es) s = (ev Φ e s).bind fun x s => (evs Φ es s).bind fun xs s => .ok (x :: xs) s := rfl
/-! targets -/
@[simp] theorem a_nm {i v} : asg Φ (.nm i) v s = if i ∈ s.cap then .bad else if i < s.loc.length then .ok () (s.setS i v) else .bad := rfl
@[simp] theorem a_tp {ts : Tgs} {xs : List PV} : asg Φ (.tp ts) (.tup xs) s = if xs.length = lenTs ts then asgs Φ ts xs s else .bad := rfl
@[simp] theorem a_tpl {ts : Tgs} {xs : List PV} : asg Φ (.tp ts) (.lst xs) s = if xs.length = lenTs ts then asgs Φ ts xs s else .bad := rfl
@[simp] theorem as_nil : asgs Φ .nil [] s = .ok () s := rfl
@[simp] theorem as_cons {t ts x xs} : asgs Φ (.cons t ts) (x :: xs) s = (asg Φ t x s).bind fun _ s => asgs Φ ts xs s := rfl
def objPut (v x y : PV) (s : DS) : DR Unit := match x, y with
    | .obj n, y => (match s.mu[n]?, y with
      | some (.lst xs), .int j => (match setAt xs j v with
        | some ys => if v.plain then .ok () { s with mu := s.mu.set n (.lst ys) } else .bad
        | none => .bad)
      | some (.dct kvs), y => (match keyOf y with
        | some k => if v.plain ∧ kvs.length < SZ then .ok () { s with mu := s.mu.set n (.dct (put k v kvs)) } else .bad
        | none => .bad)
      | _, _ => .bad)
    | _, _ => .bad
theorem objPut_dct {v y : PV} {n : Nat} {k : Key} {kvs : List (Key × PV)} (h : s.mu[n]? = some (.dct kvs)) (h2 : keyOf y = some k) (h3 : v.plain = true) (h4 : kvs.length < SZ) : objPut v (.obj n) y s = .ok () { s with mu := s.mu.set n (.dct (put k v kvs)) } := by
  unfold objPut
  simp only [h, h2, h3, h4, and_self, if_true]
theorem objPut_ok {v : PV} {n : Nat} {j : Int} {xs ys : List PV} (h : s.mu[n]? = some (.lst xs)) (h2 : setAt xs j v = some ys) (h3 : v.plain = true) : objPut v (.obj n) (.int j) s = .ok () { s with mu := s.mu.set n (.lst ys) } := by
  unfold objPut
  simp [h, h2, h3]
@[simp] theorem a_sb {a i v} : asg Φ (.sb a i) v s = (ev Φ a s).bind fun x s => (ev Φ i s).bind fun y s => objPut v x y s := by
  show (ev Φ a s).bind _ = _
  cases ev Φ a s with
  | ok x s =>
    show (ev Φ i s).bind _ = (ev Φ i s).bind _
    cases ev Φ i s with
    | ok y s => cases x <;> rfl
    | _ => rfl
  | _ => rfl
/-! what is walked -/
@[simp] theorem i_val {e} : evI Φ (.val e) s = (ev Φ e s).bind fun x s => .opt (seqOf x) s := rfl
@[simp] theorem i_range1 {a} : evI Φ (.range1 a) s = (ev Φ a s).bind fun x s => x.ic fun j => if IntOk j ∧ j ≤ SZ then .ok (rangeI 0 j.toNat) s else .bad := by
  show (ev Φ a s).bind _ = _
  cases ev Φ a s with
  | ok x s => cases x <;> rfl
  | _ => rfl
@[simp] theorem i_range2 {a b} : evI Φ (.range2 a b) s = (ev Φ a s).bind fun x s => (ev Φ b s).bind fun y s => x.ic fun i => y.ic fun j => if IntOk i ∧ IntOk j ∧ j - i ≤ SZ then .ok (rangeI i (j - i).toNat) s else .bad := by
  show (ev Φ a s).bind _ = _
  cases ev Φ a s with
  | ok x s =>
    show (ev Φ b s).bind _ = (ev Φ b s).bind _
    cases ev Φ b s with
    | ok y s => cases x <;> cases y <;> rfl
    | _ => rfl
  | _ => rfl
@[simp] theorem i_range3 {a b c} : evI Φ (.range3 a b c) s = (ev Φ a s).bind fun x s => (ev Φ b s).bind fun y s => (ev Φ c s).bind fun z s => x.ic fun i => y.ic fun j => z.ic fun c => if IntOk i ∧ IntOk j ∧ i - j ≤ SZ ∧ c = -1 then .ok ((List.range (i - j).toNat).map fun (k : Nat) => .int (i - (k : Nat))) s else .bad := by
  show (ev Φ a s).bind _ = _
  cases ev Φ a s with
  | ok x s =>
    show (ev Φ b s).bind _ = (ev Φ b s).bind _
    cases ev Φ b s with
    | ok y s =>
      show (ev Φ c s).bind _ = (ev Φ c s).bind _
      cases ev Φ c s with
      | ok z s => cases x <;> cases y <;> cases z <;> rfl
      | _ => rfl
    | _ => rfl
  | _ => rfl
@[simp] theorem i_enum {e} : evI Φ (.enum e) s = (ev Φ e s).bind fun x s => .opt ((seqOf x).map (enumP 0)) s := rfl
@[simp] theorem i_zip2 {a b} : evI Φ (.zip2 a b) s = (ev Φ a s).bind fun x s => (ev Φ b s).bind fun y s => .opt ((seqOf x).bind fun xs => (seqOf y).map fun ys => zipP xs ys) s := by
  show (ev Φ a s).bind _ = _
  cases ev Φ a s with
  | ok x s =>
    show (ev Φ b s).bind _ = (ev Φ b s).bind _
    cases ev Φ b s with
    | ok y s =>
      show (match seqOf x, seqOf y with
        | some xs, some ys => DR.ok (zipP xs ys) s
        | _, _ => .bad) = _
      show _ = DR.opt _ s
      cases seqOf x <;> cases seqOf y <;> rfl
    | _ => rfl
  | _ => rfl
@[simp] theorem i_zip3 {a b c} : evI Φ (.zip3 a b c) s = (ev Φ a s).bind fun x s => (ev Φ b s).bind fun y s => (ev Φ c s).bind fun z s => .opt ((seqOf x).bind fun xs => (seqOf y).bind fun ys => (seqOf z).map fun zs => zipP3 xs ys zs) s := by
  show (ev Φ a s).bind _ = _
  cases ev Φ a s with
  | ok x s =>
    show (ev Φ b s).bind _ = (ev Φ b s).bind _
    cases ev Φ b s with
    | ok y s =>
      show (ev Φ c s).bind _ = (ev Φ c s).bind _
      cases ev Φ c s with
      | ok z s =>
        show (match seqOf x, seqOf y, seqOf z with
          | some xs, some ys, some zs => DR.ok (zipP3 xs ys zs) s
          | _, _, _ => .bad) = _
        show _ = DR.opt _ s
        cases seqOf x <;> cases seqOf y <;> cases seqOf z <;> rfl
      | _ => rfl
    | _ => rfl
  | _ => rfl
@[simp] theorem i_items {e} : evI Φ (.items e) s = (ev Φ e s).bind fun x s => x.dc fun kvs => .ok (kvs.map fun kv => .tup [kPV kv.1, kv.2]) s := by
  show (ev Φ e s).bind _ = _
  cases ev Φ e s with
  | ok x s => cases x <;> rfl
  | _ => rfl
end
section
variable {Φ : Phi} {X : Exc} {s : DS}
@[simp] theorem x_expr {e} : ex Φ X (.expr e) s = (ev Φ e s).thn fun _ s => .nx s := rfl
@[simp] theorem x_asg {t e} : ex Φ X (.asg t e) s = (ev Φ e s).thn fun v s => (asg Φ t v s).thn fun _ s => .nx s := rfl
@[simp] theorem x_asgO {i e} : ex Φ X (.asgO i e) s = (ev Φ e s).thn fun v s => if i ∈ s.cap then .bad else if i < s.loc.length then .nx (s.setO i v) else .bad := rfl
def optS (o : Option DS) : SR := match o with
  | some s => .nx s
  | none => .bad
@[simp] theorem optS_some : optS (some s) = .nx s := rfl
@[simp] theorem x_par {ts es} : ex Φ X (.par ts es) s = (evs Φ es s).thn fun vs s => optS (setAll ts vs s) := by
  show (evs Φ es s).thn _ = _
  cases evs Φ es s with
  | ok vs s =>
    show (match setAll ts vs s with
      | some s => SR.nx s
      | none => .bad) = optS _
    cases setAll ts vs s <;> rfl
  | _ => rfl
@[simp] theorem x_ret {e} : ex Φ X (.ret e) s = (ev Φ e s).thn fun v s => .ret v s := rfl
@[simp] theorem x_retN : ex Φ X .retN s = .ret .non s := rfl
@[simp] theorem x_ite {c a b} : ex Φ X (.ite c a b) s = (ev Φ c s).thn fun x s => x.bcS (exs Φ X a s) (exs Φ X b s) := by
  show (ev Φ c s).thn _ = _
  cases ev Φ c s with
  | ok x s => rcases x with _ | q | _ | _ | _ | _ | _ | _ | _ | _ | _ <;> first | rfl | (cases q <;> rfl)
  | _ => rfl
@[simp] theorem x_for {t it b} : ex Φ X (.for t it b) s = (evI Φ it s).thn fun xs s => loopS (asg Φ t) (exs Φ X b) xs s := rfl
def ownL (s : DS) (i : Nat) (f : List PV → SR) : SR := match getS s i with
  | some (.lst xs) => if i ∈ s.own then f xs else .bad
  | _ => .bad
theorem ownL_ok {i : Nat} {f : List PV → SR} {xs : List PV} (h : getS s i = some (.lst xs)) (h2 : i ∈ s.own) : ownL s i f = f xs := by
  unfold ownL; rw [h]; simp [h2]
def ownD (s : DS) (i : Nat) (f : List (Key × PV) → SR) : SR := match getS s i with
  | some (.dct xs) => if i ∈ s.own then f xs else .bad
  | _ => .bad
theorem ownD_ok {i : Nat} {f : List (Key × PV) → SR} {xs : List (Key × PV)} (h : getS s i = some (.dct xs)) (h2 : i ∈ s.own) : ownD s i f = f xs := by
  unfold ownD; rw [h]; simp [h2]
@[simp] theorem x_app {i e} : ex Φ X (.app i e) s = ownL s i fun xs => if xs.length < SZ then (ev Φ e s).thn fun v s => .nx { s with loc := s.loc.set i (some (.lst (xs ++ [v]))) } else .bad := by
  show (match getS s i with
    | some (.lst xs) => if i ∈ s.own ∧ xs.length < SZ then (ev Φ e s).thn fun v s => SR.nx { s with loc := s.loc.set i (some (.lst (xs ++ [v]))) } else .bad
    | _ => .bad) = _
  unfold ownL
  split
  · by_cases h : i ∈ s.own <;> simp [h]
  · rfl
@[simp] theorem x_dput {i k v} : ex Φ X (.dput i k v) s = ownD s i fun kvs => if kvs.length < SZ then (ev Φ v s).thn fun v s => (ev Φ k s).thn fun k s => (DR.opt (keyOf k) s).thn fun k s => .nx { s with loc := s.loc.set i (some (.dct (put k v kvs))) } else .bad := by
  show (match getS s i with
    | some (.dct kvs) => if i ∈ s.own ∧ kvs.length < SZ then (ev Φ v s).thn fun v s => (ev Φ k s).thn fun k s => (match keyOf k with
      | some k => SR.nx { s with loc := s.loc.set i (some (.dct (put k v kvs))) }
      | none => .bad) else .bad
    | _ => .bad) = _
  unfold ownD
  split
  · rename_i kvs _
    have e : ∀ (v : PV), (fun k s => (match keyOf k with
      | some k => SR.nx { s with loc := s.loc.set i (some (.dct (put k v kvs))) }
      | none => .bad)) = fun k s => (DR.opt (keyOf k) s).thn fun k s => .nx { s with loc := s.loc.set i (some (.dct (put k v kvs))) } := fun v => by
      funext k s
      cases keyOf k <;> rfl
    by_cases h : i ∈ s.own
    · by_cases h2 : kvs.length < SZ
      · simp only [h, h2, and_self, if_true]
        congr 1
        funext v s
        rw [e]
      · simp [h, h2]
    · simp [h]
  · rfl
@[simp] theorem x_raise {c ns es} : ex Φ X (.raise c ns es) s = (evs Φ es s).thn fun vs s => if plains vs ∧ vs.length = ns.length then .exc c (ns.zip vs) s else .bad := rfl
def insS (o : Option (Nat × Nat × List (Str × PV))) (f : Nat → Nat → List (Str × PV) → SR) : SR := match o with
  | some (n, c, fs) => f n c fs
  | none => .bad
@[simp] theorem insS_some {n c fs} {f : Nat → Nat → List (Str × PV) → SR} : insS (some (n, c, fs)) f = f n c fs := rfl
@[simp] theorem x_fput {a cs f e} : ex Φ X (.fput a cs f e) s = (ev Φ e s).thn fun v s => (ev Φ a s).thn fun x s => insS (insOf s.mu x) fun n c fs => if c ∈ cs ∧ v.plain ∧ fs.length < 1000 then .nx { s with mu := s.mu.set n (.ins c (putA f v fs)) } else .bad := by
  show (ev Φ e s).thn _ = _
  cases ev Φ e s with
  | ok v s =>
    show (ev Φ a s).thn _ = (ev Φ a s).thn _
    cases ev Φ a s with
    | ok x s =>
      show (match insOf s.mu x with
        | some (n, c, fs) => if c ∈ cs ∧ v.plain ∧ fs.length < 1000 then SR.nx { s with mu := s.mu.set n (.ins c (putA f v fs)) } else .bad
        | none => .bad) = insS (insOf s.mu x) _
      cases insOf s.mu x <;> rfl
    | _ => rfl
  | _ => rfl
/-- behind a try's body -/
def tryC (Φ : Phi) (X : Exc) (cs : List Nat) (i : Nat) (su : ISs) (r : SR) : SR := match r with
    | .exc c fs s => if c ∈ cs then (if i ∈ s.cap ∨ s.loc.length ≤ i ∨ s.own ≠ [] then .bad else suEnd (exs (excF Φ c fs) X su { s with loc := s.loc.set i none, cap := i :: s.cap })) else .exc c fs s
    | r => r
@[simp] theorem x_tryx {b cs i su} : ex Φ X (.tryx b cs (some i) su) s = tryC Φ X cs i su (exs Φ X b s) := by
  show (match exs Φ X b s with
    | .exc c fs s => if c ∈ cs then (match some i with
        | some i => if i ∈ s.cap ∨ s.loc.length ≤ i ∨ s.own ≠ [] then SR.bad else
          suEnd (exs (excF Φ c fs) X su { s with loc := s.loc.set i none, cap := i :: s.cap })
        | none => if s.own ≠ [] then SR.bad else suEnd (exs (excF Φ c fs) X su s)) else .exc c fs s
    | r => r) = _
  unfold tryC
  cases exs Φ X b s <;> rfl
@[simp] theorem tryC_nx {cs i su} : tryC Φ X cs i su (.nx s) = .nx s := rfl
@[simp] theorem tryC_ret {cs i su v} : tryC Φ X cs i su (.ret v s) = .ret v s := rfl
@[simp] theorem tryC_exc {cs i su c fs} : tryC Φ X cs i su (.exc c fs s) = if c ∈ cs then (if i ∈ s.cap ∨ s.loc.length ≤ i ∨ s.own ≠ [] then .bad else suEnd (exs (excF Φ c fs) X su { s with loc := s.loc.set i none, cap := i :: s.cap })) else .exc c fs s := rfl
@[simp] theorem suEnd_ret {v} : suEnd (.ret v s) = .ret v s := rfl
@[simp] theorem excF_is {Φ : Phi} {c : Nat} {fs : List (Str × PV)} {xs : List PV} {mu : List SO} : excF Φ c fs EXI xs mu = .ok (.bl (xs.any fun x => match x with
    | .int i => decide (i = c)
    | _ => false)) mu := excF_i
@[simp] theorem excF_fld {Φ : Phi} {c : Nat} {fs : List (Str × PV)} {f : Str} {mu : List SO} : excF Φ c fs EXF [.str f] mu = (match fs.lookup f with
      | some v => .ok v mu
      | none => .bad) := excF_f
@[simp] theorem x_pass : ex Φ X .pass s = .nx s := rfl
@[simp] theorem x_frz {i} : ex Φ X (.frz i) s = .nx { s with own := s.own.filter (fun j => decide (j ≠ i)) } := rfl
@[simp] theorem x_brk : ex Φ X .brk s = .brk s := rfl
@[simp] theorem x_cont : ex Φ X .cont s = .cont s := rfl
@[simp] theorem xs_nil : exs Φ X .nil s = .nx s := rfl
@[simp] theorem xs_cons {t ts} : exs Φ X (.cons t ts) s = (ex Φ X t s).thn fun s => exs Φ X ts s := rfl
end
@[simp] theorem endF_ret {v : PV} {s : DS} (h : s.cap = [] ∨ v.plain = true) : endF (.ret v s) = .ok v s.mu := by
  show (if s.cap = [] ∨ v.plain then FR.ok v s.mu else .bad) = _
  rw [if_pos h]
@[simp] theorem endF_nx {s : DS} : endF (.nx s) = .ok .non s.mu := rfl
@[simp] theorem endF_exc {c fs} {s : DS} : endF (.exc c fs s) = .exc c fs s.mu := rfl
@[simp] theorem runF_def {Φ : Phi} {X : Exc} {f : FI} {args : List PV} {mu : List SO} : runF Φ X f args mu = if args.length = f.np then endF (exs Φ X f.body ⟨args.map some ++ List.replicate (f.ns - f.np) none, [], [], mu⟩) else .bad := rfl
@[simp] theorem setS_def {s : DS} {i : Nat} {v : PV} : s.setS i v = { s with loc := s.loc.set i (some v), own := s.own.filter (fun j => decide (j ≠ i)) } := rfl
@[simp] theorem setO_def {s : DS} {i : Nat} {v : PV} : s.setO i v = { s with loc := s.loc.set i (some v), own := i :: s.own.filter (fun j => decide (j ≠ i)) } := rfl
@[simp] theorem getS_def {s : DS} {i : Nat} : getS s i = (s.loc[i]?).bind fun o => o := by
  unfold getS
  cases s.loc[i]? with
  | none => rfl
  | some o => cases o <;> rfl
@[simp] theorem setAll_nil {s : DS} : setAll [] [] s = some s := rfl
@[simp] theorem setAll_f {i : Nat} {ts : List (Nat × Bool)} {v : PV} {vs : List PV} {s : DS} : setAll ((i, false) :: ts) (v :: vs) s = if i ∈ s.cap then none else if i < s.loc.length then setAll ts vs (s.setS i v) else none := rfl
@[simp] theorem setAll_t {i : Nat} {ts : List (Nat × Bool)} {v : PV} {vs : List PV} {s : DS} : setAll ((i, true) :: ts) (v :: vs) s = if i ∈ s.cap then none else if i < s.loc.length then setAll ts vs (s.setO i v) else none := rfl
@[simp] theorem lenTs_nil : lenTs .nil = 0 := rfl
@[simp] theorem lenTs_cons {t : Tg} {ts : Tgs} : lenTs (.cons t ts) = lenTs ts + 1 := rfl
@[simp] theorem tnm_nm {i : Nat} : tnm (.nm i) = [i] := rfl
@[simp] theorem tnm_tp {ts : Tgs} : tnm (.tp ts) = tnms ts := rfl
@[simp] theorem tnms_nil : tnms .nil = [] := rfl
@[simp] theorem tnms_cons {t : Tg} {ts : Tgs} : tnms (.cons t ts) = tnm t ++ tnms ts := rfl
@[simp] theorem SZ_def : SZ = 100000 := rfl
@[simp] theorem inner_def {s : DS} {own : List Nat} {mu : List SO} : s.inner own mu = ⟨hideL own s.loc, s.own, [], mu⟩ := rfl
def hid (o : Option PV) : Option PV := match o with
  | some v => if v.plain then some v else none
  | none => none
@[simp] theorem hid_none : hid none = none := rfl
@[simp] theorem hid_some {v : PV} : hid (some v) = if v.plain then some v else none := rfl
@[simp] theorem hideL_def {own : List Nat} {l : List (Option PV)} : hideL own l = own.foldr (fun i l => l.set i none) (l.map hid) := rfl
@[simp] theorem dnoCap_ok {α : Type} {a : α} {s : DS} : noCap (.ok a s) = if s.cap = [] then .ok a s else .bad := rfl
@[simp] theorem turnEnd_ok {own : List Nat} {o : Option PV} {s : DS} : turnEnd own (.ok o s) = if s.own = own then some (o, s.mu) else none := rfl
@[simp] theorem ownP_def {s : DS} : s.ownP = s.own.all fun i => match s.loc[i]? with
  | some (some v) => v.plain
  | _ => false := rfl
@[simp] theorem capsOf_nil {s : DS} : capsOf s [] = some [] := rfl
@[simp] theorem capsOf_cons {s : DS} {i : Nat} {is : List Nat} : capsOf s (i :: is) = (capOk s i).bind fun v => (capsOf s is).map fun vs => v :: vs := by
  show (match capOk s i, capsOf s is with
  | some v, some vs => some (v :: vs)
  | _, _ => none) = _
  cases capOk s i <;> cases capsOf s is <;> rfl
/-! ### loops -/
theorem loop_nil {t : PV → DS → DR Unit} {b : DS → SR} {s : DS} : loopS t b [] s = .nx s := rfl
theorem loop_cons {t : PV → DS → DR Unit} {b : DS → SR} {x : PV} {xs : List PV} {s s1 s2 : DS} (h1 : t x s = .ok () s1) (h2 : b s1 = .nx s2 ∨ b s1 = .cont s2) : loopS t b (x :: xs) s = loopS t b xs s2 := by
  show (t x s).thn _ = _
  rw [h1]
  show (match b s1 with
    | .nx s => loopS t b xs s
    | .cont s => loopS t b xs s
    | .brk s => .nx s
    | r => r) = _
  rcases h2 with h2 | h2 <;> rw [h2]
theorem loop_ret {t : PV → DS → DR Unit} {b : DS → SR} {x : PV} {xs : List PV} {s s1 s2 : DS} {v : PV} (h1 : t x s = .ok () s1) (h2 : b s1 = .ret v s2) : loopS t b (x :: xs) s = .ret v s2 := by
  show (t x s).thn _ = _
  rw [h1]
  show (match b s1 with
    | .nx s => loopS t b xs s
    | .cont s => loopS t b xs s
    | .brk s => .nx s
    | r => r) = _
  rw [h2]
/-- a loop by its invariant over (items taken, items left) -/
theorem loop_inv {t : PV → DS → DR Unit} {b : DS → SR} (I : List PV → List PV → DS → Prop) : ∀ (todo done : List PV) (s : DS), I done todo s →
    (∀ done x todo s, I done (x :: todo) s → ∃ s1, t x s = .ok () s1 ∧ ∃ s2, (b s1 = .nx s2 ∨ b s1 = .cont s2) ∧ I (done ++ [x]) todo s2) → ∃ s', loopS t b todo s = .nx s' ∧ I (done ++ todo) [] s'
  | [], done, s, h, _ => ⟨s, rfl, by rw [List.append_nil]; exact h⟩
  | x :: todo, done, s, h, st => by
    obtain ⟨s1, h1, s2, h2, h3⟩ := st done x todo s h
    obtain ⟨s', h4, h5⟩ := loop_inv I todo (done ++ [x]) s2 h3 st
    refine ⟨s', by rw [loop_cons h1 h2]; exact h4, ?_⟩
    rw [List.append_assoc] at h5
    exact h5
/-- a loop by its invariant over the turn -/
theorem loop_ix {t : PV → DS → DR Unit} {b : DS → SR} (I : Nat → DS → Prop) (L : List PV) : ∀ (m k : Nat) (s : DS), m + k = L.length → I k s →
    (∀ i x s, L[i]? = some x → I i s → ∃ s1, t x s = .ok () s1 ∧ ∃ s2, (b s1 = .nx s2 ∨ b s1 = .cont s2) ∧ I (i + 1) s2) → ∃ s', loopS t b (L.drop k) s = .nx s' ∧ I L.length s'
  | 0, k, s, hk, h, _ => ⟨s, by rw [List.drop_eq_nil_of_le (by omega)]; rfl, by rw [← hk, Nat.zero_add]; exact h⟩
  | m + 1, k, s, hk, h, st => by
    have hlt : k < L.length := by omega
    rw [List.drop_eq_getElem_cons hlt]
    obtain ⟨s1, h1, s2, h2, h3⟩ := st k L[k] s (List.getElem?_eq_getElem hlt) h
    obtain ⟨s', h4, h5⟩ := loop_ix I L m (k + 1) s2 (by omega) h3 st
    exact ⟨s', by rw [loop_cons h1 h2]; exact h4, h5⟩
theorem loop_at {t : PV → DS → DR Unit} {b : DS → SR} {L : List PV} {s : DS} (I : Nat → DS → Prop) (h : I 0 s)
    (st : ∀ i x s, L[i]? = some x → I i s → ∃ s1, t x s = .ok () s1 ∧ ∃ s2, (b s1 = .nx s2 ∨ b s1 = .cont s2) ∧ I (i + 1) s2) : ∃ s', loopS t b L s = .nx s' ∧ I L.length s' := loop_ix I L L.length 0 s rfl h st
/-- .. of a loop that stands in the goal -/
theorem loop_from {t : PV → DS → DR Unit} {b : DS → SR} {L : List PV} {s : DS} {r : SR} (hr : loopS t b L s = r) (I : Nat → DS → Prop) (h : I 0 s)
    (st : ∀ i x s, L[i]? = some x → I i s → ∃ s1, t x s = .ok () s1 ∧ ∃ s2, (b s1 = .nx s2 ∨ b s1 = .cont s2) ∧ I (i + 1) s2) : ∃ s', r = .nx s' ∧ I L.length s' := by
  subst hr
  exact loop_at I h st
/-- a loop over encoded items by what holds between turns -/
theorem loop_typed0 {γ : Type} {t : PV → DS → DR Unit} {b : DS → SR} {enc : γ → PV} (I : List γ → List γ → DS → Prop) (xs : List γ) : ∀ (todo done : List γ) (s : DS), xs = done ++ todo → I done todo s →
    (∀ done x todo s, xs = done ++ x :: todo → I done (x :: todo) s → ∃ s1, t (enc x) s = .ok () s1 ∧ ∃ s2, (b s1 = .nx s2 ∨ b s1 = .cont s2) ∧ I (done ++ [x]) todo s2) → ∃ s', loopS t b (todo.map enc) s = .nx s' ∧ I xs [] s'
  | [], done, s, hx, h, _ => ⟨s, rfl, by rw [hx, List.append_nil]; exact h⟩
  | x :: todo, done, s, hx, h, st => by
    obtain ⟨s1, h1, s2, h2, h3⟩ := st done x todo s hx h
    obtain ⟨s', h4, h5⟩ := loop_typed0 I xs todo (done ++ [x]) s2 (by rw [hx]; simp) h3 st
    exact ⟨s', by rw [List.map_cons, loop_cons h1 h2]; exact h4, h5⟩
theorem nx_of {X : SR} {P : DS → Prop} (h : ∃ s2, X = .nx s2 ∧ P s2) : ∃ s2, (X = .nx s2 ∨ X = .cont s2) ∧ P s2 := by
  obtain ⟨s2, h1, h2⟩ := h
  exact ⟨s2, .inl h1, h2⟩
theorem loop_typed {γ : Type} {t : PV → DS → DR Unit} {b : DS → SR} {s : DS} {r : SR} {L : List PV} (hr : loopS t b L s = r) (enc : γ → PV) (xs : List γ) (hL : L = xs.map enc) (I : List γ → List γ → DS → Prop) (h : I [] xs s)
    (st : ∀ done x todo s, xs = done ++ x :: todo → I done (x :: todo) s → ∃ s1, t (enc x) s = .ok () s1 ∧ ∃ s2, (b s1 = .nx s2 ∨ b s1 = .cont s2) ∧ I (done ++ [x]) todo s2) : ∃ s', r = .nx s' ∧ I xs [] s' := by
  subst hr; subst hL
  exact loop_typed0 I xs xs [] s rfl h st
/-- a loop over encoded items: state a function of an accumulator -/
theorem loop_acc {γ δ : Type} {t : PV → DS → DR Unit} {b : DS → SR} (enc : γ → PV) (st : δ → DS) (f : δ → γ → δ) (P : δ → Prop) : ∀ (xs : List γ) (a : δ), P a →
    (∀ a x, x ∈ xs → P a → P (f a x) ∧ ∃ s1, t (enc x) (st a) = .ok () s1 ∧ b s1 = .nx (st (f a x))) → loopS t b (xs.map enc) (st a) = .nx (st (xs.foldl f a)) ∧ P (xs.foldl f a)
  | [], a, h, _ => ⟨rfl, h⟩
  | x :: xs, a, h, hs => by
    obtain ⟨h0, s1, h1, h2⟩ := hs a x List.mem_cons_self h
    obtain ⟨h3, h4⟩ := loop_acc enc st f P xs (f a x) h0 fun a y hy => hs a y (List.mem_cons_of_mem _ hy)
    refine ⟨?_, h4⟩
    rw [List.map_cons, loop_cons h1 (.inl h2)]
    exact h3
/-- a loop that may return -/
theorem loop_ret_inv0 {γ : Type} {t : PV → DS → DR Unit} {b : DS → SR} {enc : γ → PV} (I : DS → Prop) (R : PV → DS → Prop) : ∀ (xs : List γ) (s : DS), I s →
    (∀ x s, x ∈ xs → I s → ∃ s1, t (enc x) s = .ok () s1 ∧ ((∃ s2, b s1 = .nx s2 ∧ I s2) ∨ ∃ v s2, b s1 = .ret v s2 ∧ R v s2)) → (∃ s', loopS t b (xs.map enc) s = .nx s' ∧ I s') ∨ ∃ v s', loopS t b (xs.map enc) s = .ret v s' ∧ R v s'
  | [], s, h, _ => .inl ⟨s, rfl, h⟩
  | x :: xs, s, h, st => by
    obtain ⟨s1, h1, h2⟩ := st x s List.mem_cons_self h
    rcases h2 with ⟨s2, h2, h3⟩ | ⟨v, s2, h2, h3⟩
    · rw [List.map_cons, loop_cons h1 (.inl h2)]
      exact loop_ret_inv0 I R xs s2 h3 fun y s hy => st y s (List.mem_cons_of_mem _ hy)
    · rw [List.map_cons, loop_ret h1 h2]
      exact .inr ⟨v, s2, rfl, h3⟩
theorem loop_ret_inv {γ : Type} {t : PV → DS → DR Unit} {b : DS → SR} {s : DS} {r : SR} {L : List PV} (hr : loopS t b L s = r) (enc : γ → PV) (xs : List γ) (hL : L = xs.map enc) (I : DS → Prop) (R : PV → DS → Prop) (h : I s)
    (st : ∀ x s, x ∈ xs → I s → ∃ s1, t (enc x) s = .ok () s1 ∧ ((∃ s2, b s1 = .nx s2 ∧ I s2) ∨ ∃ v s2, b s1 = .ret v s2 ∧ R v s2)) : (∃ s', r = .nx s' ∧ I s') ∨ ∃ v s', r = .ret v s' ∧ R v s' := by
  subst hr; subst hL
  exact loop_ret_inv0 I R xs s h st
/-! ### comprehensions -/
/-- a comprehension that changes shared things -/
theorem compL_inv {f : PV → List SO → Option (Option PV × List SO)} {γ : Type} (enc : γ → PV) (I : List γ → List PV → List SO → Prop) (xs0 : List γ) : ∀ (xs done : List γ) (acc : List PV) (mu : List SO), xs0 = done ++ xs → I done acc mu → acc.length + xs.length ≤ 100000 →
    (∀ done x todo acc mu, xs0 = done ++ x :: todo → I done acc mu → ∃ o mu', f (enc x) mu = some (o, mu') ∧ I (done ++ [x]) (acc ++ o.toList) mu') → ∃ vs mu', compL f (xs.map enc) acc mu = some (vs, mu') ∧ I xs0 vs mu'
  | [], done, acc, mu, hx, h, _, _ => ⟨acc, mu, rfl, by rw [hx, List.append_nil]; exact h⟩
  | x :: xs, done, acc, mu, hx, h, hl, st => by
    obtain ⟨o, mu', h1, h2⟩ := st done x xs acc mu hx h
    simp only [List.length_cons] at hl
    have hx2 : xs0 = (done ++ [x]) ++ xs := by rw [hx]; simp
    cases o with
    | none =>
      obtain ⟨vs, mu2, h3, h4⟩ := compL_inv enc I xs0 xs (done ++ [x]) acc mu' hx2 (by simpa using h2) (by omega) st
      refine ⟨vs, mu2, ?_, h4⟩
      simp only [List.map_cons, compL, h1]
      exact h3
    | some v =>
      obtain ⟨vs, mu2, h3, h4⟩ := compL_inv enc I xs0 xs (done ++ [x]) (acc ++ [v]) mu' hx2 (by simpa using h2) (by simp only [List.length_append, List.length_cons, List.length_nil]; omega) st
      refine ⟨vs, mu2, ?_, h4⟩
      simp only [List.map_cons, compL, h1]
      rw [if_pos (by simp only [SZ_def]; omega)]
      exact h3
theorem compL_map {f : PV → List SO → Option (Option PV × List SO)} {γ : Type} (enc : γ → PV) (g : γ → Option PV) (mu : List SO) : ∀ (xs : List γ) (acc : List PV), (∀ x ∈ xs, f (enc x) mu = some (g x, mu)) → acc.length + xs.length ≤ SZ → compL f (xs.map enc) acc mu = some (acc ++ xs.filterMap g, mu)
  | [], acc, _, _ => by simp [compL]
  | x :: xs, acc, h, hl => by
    have h1 := h x List.mem_cons_self
    simp only [List.length_cons] at hl
    simp only [List.map_cons, compL, h1]
    cases q : g x with
    | none =>
      simp only [List.filterMap_cons, q]
      exact compL_map enc g mu xs acc (fun y hy => h y (List.mem_cons_of_mem _ hy)) (by omega)
    | some v =>
      simp only [List.filterMap_cons, q]
      rw [if_pos (by omega)]
      rw [compL_map enc g mu xs (acc ++ [v]) (fun y hy => h y (List.mem_cons_of_mem _ hy)) (by simp only [List.length_append, List.length_cons, List.length_nil]; omega)]
      simp
/-- a turn -/
def turn (Φ : Phi) (own0 : List Nat) (t : Tg) (c e : IE) (s : DS) (x : PV) : Option (Option PV × List SO) :=
  if x.plain then turnEnd own0 ((noCap (asg Φ t x s)).bind fun _ s => (noCap (ev Φ c s)).bind fun b s => b.bc ((noCap (ev Φ e s)).bind fun v s => .ok (some v) s) (.ok none s)) else none
theorem turn_eq (Φ : Phi) (own0 : List Nat) (t : Tg) (c e : IE) (s : DS) (x : PV) : (if x.plain then turnEnd own0 ((noCap (asg Φ t x s)).bind fun _ s => (noCap (ev Φ c s)).bind fun b s => (match b with
      | .bl true => (noCap (ev Φ e s)).bind fun v s => .ok (some v) s
      | .bl false => .ok none s
      | _ => .bad)) else none) = turn Φ own0 t c e s x := by
  unfold turn
  have e1 : (fun (b : PV) (s : DS) => (match b with
      | .bl true => (noCap (ev Φ e s)).bind fun v s => .ok (some v) s
      | .bl false => .ok none s
      | _ => .bad)) = fun b s => b.bc ((noCap (ev Φ e s)).bind fun v s => .ok (some v) s) (.ok none s) := by
    funext b s
    rcases b with _ | q | _ | _ | _ | _ | _ | _ | _ | _ | _ <;> first | rfl | (cases q <;> rfl)
  exact congrArg (fun F => if x.plain then turnEnd own0 ((noCap (asg Φ t x s)).bind fun _ s => (noCap (ev Φ c s)).bind F) else none) e1
theorem e_comp {Φ : Phi} {s : DS} {own t it c e} : ev Φ (.comp own t it c e) s = (evI Φ it s).bind fun xs s0 => if s0.ownP ∧ own.all (fun i => decide (i ∉ s0.own)) ∧ (tnm t).all (fun i => decide (i ∈ own)) then
    (DR.opt (compL (fun x mu => turn Φ s0.own t c e (s0.inner own mu) x) xs [] s0.mu) s0).bind fun r s0 => .ok (.lst r.1) { s0 with mu := r.2 } else .bad := by
  show (evI Φ it s).bind _ = _
  congr 1
  funext xs s0
  by_cases h : s0.ownP ∧ own.all (fun i => decide (i ∉ s0.own)) ∧ (tnm t).all (fun i => decide (i ∈ own))
  · rw [if_pos h, if_pos h]
    have e1 : (fun x mu => if x.plain then turnEnd s0.own ((noCap (asg Φ t x (s0.inner own mu))).bind fun _ s => (noCap (ev Φ c s)).bind fun b s => (match b with
      | .bl true => (noCap (ev Φ e s)).bind fun v s => .ok (some v) s
      | .bl false => .ok none s
      | _ => .bad)) else none) = fun x mu => turn Φ s0.own t c e (s0.inner own mu) x := by
      funext x mu
      exact turn_eq Φ s0.own t c e _ x
    refine Eq.trans (congrArg (fun F => match compL F xs [] s0.mu with
      | some (vs, mu) => DR.ok (PV.lst vs) { s0 with mu := mu }
      | none => DR.bad) e1) ?_
    cases compL (fun x mu => turn Φ s0.own t c e (s0.inner own mu) x) xs [] s0.mu with
    | none => rfl
    | some r => rfl
  · rw [if_neg h, if_neg h]
/-- a comprehension that changes no shared thing -/
theorem comp_pure {Φ : Phi} {s s0 : DS} {own t it c e} {γ : Type} (enc : γ → PV) (g : γ → Option PV) {xs : List γ} (hi : evI Φ it s = .ok (xs.map enc) s0) (h1 : s0.ownP = true) (h2 : own.all (fun i => decide (i ∉ s0.own)) = true) (h3 : (tnm t).all (fun i => decide (i ∈ own)) = true)
    (hl : xs.length ≤ SZ) (hf : ∀ x ∈ xs, turn Φ s0.own t c e (s0.inner own s0.mu) (enc x) = some (g x, s0.mu)) : ev Φ (.comp own t it c e) s = .ok (.lst (xs.filterMap g)) s0 := by
  rw [e_comp, hi]
  simp only [dbind_ok]
  rw [if_pos ⟨h1, h2, h3⟩]
  rw [compL_map enc g s0.mu xs [] hf (by simp only [List.length_nil]; omega)]
  rfl
/-- .. that stands in the goal: r is what it gives -/
theorem comp_from {Φ : Phi} {s : DS} {own t it c e} {r : DR PV} (hr : ev Φ (.comp own t it c e) s = r) {γ : Type} (enc : γ → PV) (g : γ → Option PV) (xs : List γ) (hi : evI Φ it s = .ok (xs.map enc) s) (h1 : s.ownP = true) (h2 : own.all (fun i => decide (i ∉ s.own)) = true) (h3 : (tnm t).all (fun i => decide (i ∈ own)) = true)
    (hl : xs.length ≤ 100000) (hf : ∀ x ∈ xs, turn Φ s.own t c e (s.inner own s.mu) (enc x) = some (g x, s.mu)) : r = .ok (.lst (xs.filterMap g)) s := by
  rw [← hr]
  exact comp_pure enc g hi h1 h2 h3 hl hf
theorem comp_map {Φ : Phi} {s : DS} {own t it c e} {r : DR PV} (hr : ev Φ (.comp own t it c e) s = r) {γ : Type} (enc : γ → PV) (f : γ → PV) (xs : List γ) (hi : evI Φ it s = .ok (xs.map enc) s) (h1 : s.ownP = true) (h2 : own.all (fun i => decide (i ∉ s.own)) = true) (h3 : (tnm t).all (fun i => decide (i ∈ own)) = true)
    (hl : xs.length ≤ 100000) (hf : ∀ x ∈ xs, turn Φ s.own t c e (s.inner own s.mu) (enc x) = some (some (f x), s.mu)) : r = .ok (.lst (xs.map f)) s := by
  have := comp_from hr enc (fun x => some (f x)) xs hi h1 h2 h3 hl hf
  rw [this]
  simp
theorem comp_inv {Φ : Phi} {s : DS} {own t it c e} {r : DR PV} (hr : ev Φ (.comp own t it c e) s = r) {γ : Type} (enc : γ → PV) (I : List γ → List PV → List SO → Prop) (xs : List γ) {mu : List SO} (hi : evI Φ it s = .ok (xs.map enc) { s with mu := mu }) (h1 : s.ownP = true) (h2 : own.all (fun i => decide (i ∉ s.own)) = true) (h3 : (tnm t).all (fun i => decide (i ∈ own)) = true)
    (hl : xs.length ≤ 100000) (h0 : I [] [] mu) (hf : ∀ done x todo acc mu, xs = done ++ x :: todo → I done acc mu → ∃ o mu', turn Φ s.own t c e (s.inner own mu) (enc x) = some (o, mu') ∧ I (done ++ [x]) (acc ++ o.toList) mu') : ∃ vs mu', r = .ok (.lst vs) { s with mu := mu' } ∧ I xs vs mu' := by
  subst hr
  rw [e_comp, hi]
  simp only [dbind_ok]
  rw [if_pos ⟨h1, h2, h3⟩]
  obtain ⟨vs, mu', h4, h5⟩ := compL_inv (f := fun x mu => turn Φ s.own t c e (s.inner own mu) x) enc I xs xs [] [] mu rfl h0 (by simpa using hl) hf
  refine ⟨vs, mu', ?_, h5⟩
  have h4' : compL (fun x mu' => turn Φ ({ s with mu := mu } : DS).own t c e (({ s with mu := mu } : DS).inner own mu') x) (xs.map enc) [] ({ s with mu := mu } : DS).mu = some (vs, mu') := h4
  rw [h4']
  rfl
@[simp] theorem capOk_def {s : DS} {i : Nat} : capOk s i = if i ∈ s.own then none else match getS s i with
  | some (.fn _ (_ :: _)) => none
  | r => r := rfl
end TL

set_option linter.all false
set_option maxRecDepth 100000
set_option maxHeartbeats 4000000
/-! TLVal: rules for values. Own work. -/
namespace TL
open PySem L2
@[simp] theorem vadd_int (i j : Int) : vbin .add (.int i) (.int j) = some (.int (i + j)) := rfl
@[simp] theorem vsub_int (i j : Int) : vbin .sub (.int i) (.int j) = some (.int (i - j)) := rfl
@[simp] theorem vadd_tup (xs ys : List PV) : vbin .add (.tup xs) (.tup ys) = if xs.length + ys.length ≤ SZ then some (.tup (xs ++ ys)) else none := rfl
@[simp] theorem vadd_lst (xs ys : List PV) : vbin .add (.lst xs) (.lst ys) = if xs.length + ys.length ≤ SZ then some (.lst (xs ++ ys)) else none := rfl
@[simp] theorem vmul_int (i j : Int) : vbin .mul (.int i) (.int j) = if (-(2 ^ 64) < i ∧ i < 2 ^ 64) ∨ (-(2 ^ 64) < j ∧ j < 2 ^ 64) then some (.int (i * j)) else none := rfl
@[simp] theorem vfdiv_int (i j : Int) : vbin .fdiv (.int i) (.int j) = if 0 < j ∧ j < 1073741824 then some (.int (i / j)) else none := rfl
@[simp] theorem vmod_int (i j : Int) : vbin .mod (.int i) (.int j) = if 0 < j then some (.int (i % j)) else none := rfl
@[simp] theorem vpow_int (i j : Int) : vbin .pow (.int i) (.int j) = if 0 ≤ j ∧ j ≤ 1000000 ∧ i.natAbs < 2 ^ 64 then some (.int (i ^ j.toNat)) else none := rfl
@[simp] theorem vlt_int (i j : Int) : vcmp .lt (.int i) (.int j) = some (decide (i < j)) := rfl
@[simp] theorem vle_int (i j : Int) : vcmp .le (.int i) (.int j) = some (decide (i ≤ j)) := rfl
@[simp] theorem vgt_int (i j : Int) : vcmp .gt (.int i) (.int j) = some (decide (j < i)) := rfl
@[simp] theorem vge_int (i j : Int) : vcmp .ge (.int i) (.int j) = some (decide (j ≤ i)) := rfl
@[simp] theorem vis_non (x : PV) : vcmp .is x .non = some (match x with | .non => true | _ => false) := rfl
@[simp] theorem visn_non (x : PV) : vcmp .isnot x .non = some (match x with | .non => false | _ => true) := rfl
@[simp] theorem veq_def (x y : PV) : vcmp .eq x y = veq x y := rfl
@[simp] theorem vne_def (x y : PV) : vcmp .ne x y = (veq x y).map (!·) := rfl
@[simp] theorem vin_def (x y : PV) : vcmp .isin x y = vin x y := rfl
@[simp] theorem vnotin_def (x y : PV) : vcmp .notin x y = (vin x y).map (!·) := rfl
@[simp] theorem veq_int (i j : Int) : veq (.int i) (.int j) = some (decide (i = j)) := by
  show some (PyData.eqv (.int i) (.int j)) = _
  simp only [PyData.eqv]
  by_cases h : i = j <;> simp [h]
@[simp] theorem veq_bl (i j : Bool) : veq (.bl i) (.bl j) = some (i == j) := by
  show some (PyData.eqv (.bool i) (.bool j)) = _
  simp [PyData.eqv]
theorem str_shaped (a : Str) : SeqAt.shaped (.str a) = PyData.strOk a := by
  unfold SeqAt.shaped
  simp [PyData.canLay0, PyData.depth]
@[simp] theorem veq_ss (a b : Str) : veq (.str a) (.str b) = if PyData.strOk a && PyData.strOk b then some (a == b) else none := by
  show (if SeqAt.shaped (.str a) && SeqAt.shaped (.str b) then some (PyData.eqv (.str a) (.str b)) else none) = _
  rw [str_shaped, str_shaped]
  simp only [PyData.eqv]
@[simp] theorem veq_si (a : Str) (i : Int) : veq (.str a) (.int i) = if PyData.strOk a then some false else none := by
  show (if SeqAt.shaped (.str a) && SeqAt.shaped (.int i) then some (PyData.eqv (.str a) (.int i)) else none) = _
  rw [str_shaped, show SeqAt.shaped (.int i) = true from rfl, Bool.and_true]
  simp only [PyData.eqv]
@[simp] theorem veq_is (a : Str) (i : Int) : veq (.int i) (.str a) = if PyData.strOk a then some false else none := by
  show (if SeqAt.shaped (.int i) && SeqAt.shaped (.str a) then some (PyData.eqv (.int i) (.str a)) else none) = _
  rw [str_shaped, show SeqAt.shaped (.int i) = true from rfl, Bool.true_and]
  simp only [PyData.eqv]
@[simp] theorem veq_nn : veq .non .non = some true := rfl
@[simp] theorem veq_ni (i : Int) : veq .non (.int i) = some false := rfl
@[simp] theorem veq_in (i : Int) : veq (.int i) .non = some false := rfl
/-- plain data, so many deep at most -/
def dat : Nat → PV → Bool
  | _, .non | _, .bl _ | _, .int _ => true
  | n + 1, .tup xs => xs.all (dat n)
  | n + 1, .lst xs => xs.all (dat n)
  | _, _ => false
mutual
theorem dat_toD : ∀ (n : Nat) (x : PV), dat n x = true → ∃ d, PV.toD x = some d ∧ d.canLay0 = true ∧ d.depth ≤ n
  | n, .non, _ => ⟨_, rfl, rfl, by simp [PyData.depth]⟩
  | n, .bl b, _ => ⟨_, rfl, rfl, by simp [PyData.depth]⟩
  | n, .int i, _ => ⟨_, rfl, rfl, by simp [PyData.depth]⟩
  | n + 1, .tup xs, h => by
    obtain ⟨ds, h1, h2, h3⟩ := dat_toDs n xs (by simpa [dat] using h)
    exact ⟨.tuple ds, by simp [PV.toD, h1], by simpa [PyData.canLay0] using h2, by simp only [PyData.depth]; omega⟩
  | n + 1, .lst xs, h => by
    obtain ⟨ds, h1, h2, h3⟩ := dat_toDs n xs (by simpa [dat] using h)
    exact ⟨.list ds, by simp [PV.toD, h1], by simpa [PyData.canLay0] using h2, by simp only [PyData.depth]; omega⟩
  | 0, .tup xs, h => by simp [dat] at h
  | 0, .lst xs, h => by simp [dat] at h
  | n, .str _, h => by cases n <;> simp [dat] at h
  | n, .dct _, h => by cases n <;> simp [dat] at h
  | n, .dtt _, h => by cases n <;> simp [dat] at h
  | n, .scr _, h => by cases n <;> simp [dat] at h
  | n, .obj _, h => by cases n <;> simp [dat] at h
  | n, .fn _ _, h => by cases n <;> simp [dat] at h
theorem dat_toDs : ∀ (n : Nat) (xs : List PV), (∀ x ∈ xs, dat n x = true) → ∃ ds, toDs xs = some ds ∧ PyData.canLayAll0 ds = true ∧ PyData.depthAll ds ≤ n
  | n, [], _ => ⟨[], rfl, rfl, by simp [PyData.depthAll]⟩
  | n, x :: xs, h => by
    obtain ⟨d, h1, h2, h3⟩ := dat_toD n x (h x List.mem_cons_self)
    obtain ⟨ds, h4, h5, h6⟩ := dat_toDs n xs fun y hy => h y (List.mem_cons_of_mem _ hy)
    exact ⟨d :: ds, by simp [toDs, h1, h4], by simp [PyData.canLayAll0, h2, h5], by simp only [PyData.depthAll]; omega⟩
end
theorem dat_shaped {n : Nat} {x : PV} (h : dat n x = true) (hn : n ≤ 64) : ∃ d, PV.toD x = some d ∧ SeqAt.shaped d = true := by
  obtain ⟨d, h1, h2, h3⟩ := dat_toD n x h
  exact ⟨d, h1, by unfold SeqAt.shaped; rw [h2]; simp; omega⟩
theorem toDs_len : ∀ {xs : List PV} {ds : List PyData}, toDs xs = some ds → ds.length = xs.length
  | [], ds, h => by cases h; rfl
  | x :: xs, ds, h => by
    unfold toDs at h
    split at h
    · rename_i d ds' h1 h2
      cases h
      simp [toDs_len h2]
    · cases h
/-- against an empty list, tuple -/
theorem veq_lst0 {xs : List PV} (h : dat 60 (.lst xs) = true) : veq (.lst xs) (.lst []) = some xs.isEmpty := by
  obtain ⟨d, h1, h2⟩ := dat_shaped h (by decide)
  have h1' := h1
  simp only [PV.toD, Option.map_eq_some_iff] at h1
  obtain ⟨ds, h3, rfl⟩ := h1
  have hl := toDs_len h3
  unfold veq
  rw [h1']
  show (if (SeqAt.shaped (.list ds) && SeqAt.shaped (.list [])) = true then some (PyData.eqv (.list ds) (.list [])) else none) = _
  rw [h2, show SeqAt.shaped (.list []) = true from rfl]
  cases xs with
  | nil => cases ds with
    | nil => rfl
    | cons _ _ => simp at hl
  | cons _ _ => cases ds with
    | nil => simp at hl
    | cons _ _ => rfl
theorem veq_tup0 {xs : List PV} (h : dat 60 (.tup xs) = true) : veq (.tup xs) (.tup []) = some xs.isEmpty := by
  obtain ⟨d, h1, h2⟩ := dat_shaped h (by decide)
  have h1' := h1
  simp only [PV.toD, Option.map_eq_some_iff] at h1
  obtain ⟨ds, h3, rfl⟩ := h1
  have hl := toDs_len h3
  unfold veq
  rw [h1']
  show (if (SeqAt.shaped (.tuple ds) && SeqAt.shaped (.tuple [])) = true then some (PyData.eqv (.tuple ds) (.tuple [])) else none) = _
  rw [h2, show SeqAt.shaped (.tuple []) = true from rfl]
  cases xs with
  | nil => cases ds with
    | nil => rfl
    | cons _ _ => simp at hl
  | cons _ _ => cases ds with
    | nil => simp at hl
    | cons _ _ => rfl
theorem insOf_at {mu : List SO} {d c : Nat} {fs : List (Str × PV)} (h : mu[d]? = some (.ins c fs)) : insOf mu (.obj d) = some (d, c, fs) := by
  show (match mu[d]? with
    | some (.ins c fs) => some (d, c, fs)
    | _ => none) = _
  rw [h]
/-- a dict of the store read by a text -/
theorem vs_objS {mu : List SO} {n : Nat} {kvs : List (Key × PV)} (h : mu[n]? = some (.dct kvs)) (k : Str) : vsub mu (.obj n) (.str k) = look (.inr k) kvs := by
  show (match mu[n]?, PV.str k with
    | some (.lst xs), .int i => atI xs i
    | some (.dct kvs), k => (keyOf k).bind fun k => look k kvs
    | _, _ => none) = _
  rw [h]
  rfl
@[simp] theorem vs_tup (mu : List SO) (xs : List PV) (i : Int) : vsub mu (.tup xs) (.int i) = atI xs i := rfl
@[simp] theorem vs_lst (mu : List SO) (xs : List PV) (i : Int) : vsub mu (.lst xs) (.int i) = atI xs i := rfl
@[simp] theorem vs_scr (mu : List SO) (xs : List PV) (i : Int) : vsub mu (.scr xs) (.int i) = atI xs i := rfl
theorem vs_obj {mu : List SO} {n : Nat} {xs : List PV} (h : mu[n]? = some (.lst xs)) (i : Int) : vsub mu (.obj n) (.int i) = atI xs i := by
  show (match mu[n]?, PV.int i with
    | some (.lst xs), .int i => atI xs i
    | some (.dct kvs), k => (keyOf k).bind fun k => look k kvs
    | _, _ => none) = _
  rw [h]
def objGet (o : Option SO) (i : Int) : Option PV := match o with
  | some (.lst xs) => atI xs i
  | some (.dct kvs) => look (.inl i) kvs
  | _ => none
@[simp] theorem vs_objI (mu : List SO) (n : Nat) (i : Int) : vsub mu (.obj n) (.int i) = objGet mu[n]? i := by
  show (match mu[n]?, PV.int i with
    | some (.lst xs), .int i => atI xs i
    | some (.dct kvs), k => (keyOf k).bind fun k => look k kvs
    | _, _ => none) = _
  cases mu[n]? with
  | none => rfl
  | some o => cases o <;> rfl
@[simp] theorem objGet_lst (xs : List PV) (i : Int) : objGet (some (.lst xs)) i = atI xs i := rfl
@[simp] theorem objGet_dct (xs : List (Key × PV)) (i : Int) : objGet (some (.dct xs)) i = look (.inl i) xs := rfl
@[simp] theorem setAt3_0 {α : Type} (a b c v : α) : setAt [a, b, c] 0 v = some [v, b, c] := rfl
@[simp] theorem setAt3_1 {α : Type} (a b c v : α) : setAt [a, b, c] 1 v = some [a, v, c] := rfl
@[simp] theorem setAt3_2 {α : Type} (a b c v : α) : setAt [a, b, c] 2 v = some [a, b, v] := rfl
mutual
theorem eqv_refl : ∀ d : PyData, d.canLay0 = true → PyData.eqv d d = true
  | .none, _ => rfl
  | .bool b, _ => by cases b <;> rfl
  | .int i, _ => by simp [PyData.eqv]
  | .str x, _ => by simp [PyData.eqv]
  | .list xs, h => by
    simp only [PyData.eqv]
    exact eqvAll_refl xs (by simpa [PyData.canLay0] using h)
  | .tuple xs, h => by
    simp only [PyData.eqv]
    exact eqvAll_refl xs (by simpa [PyData.canLay0] using h)
  | .dict _, h => by simp [PyData.canLay0] at h
theorem eqvAll_refl : ∀ ds : List PyData, PyData.canLayAll0 ds = true → PyData.eqvAll ds ds = true
  | [], _ => rfl
  | d :: ds, h => by
    simp only [PyData.canLayAll0, Bool.and_eq_true] at h
    simp only [PyData.eqvAll, eqv_refl d h.1, eqvAll_refl ds h.2, Bool.and_self]
end
theorem veq_refl {x : PV} (h : dat 60 x = true) : veq x x = some true := by
  obtain ⟨d, h1, h2⟩ := dat_shaped h (by decide)
  unfold veq
  rw [h1]
  show (if (SeqAt.shaped d && SeqAt.shaped d) = true then some (PyData.eqv d d) else none) = _
  rw [h2]
  simp only [Bool.and_self, if_true]
  rw [eqv_refl d (Bool.and_eq_true_iff.mp h2).1]
section
variable {α : Type}
theorem atI_of {xs : List α} {i : Int} (h0 : 0 ≤ i) : atI xs i = xs[i.toNat]? := by
  unfold atI ixN
  rw [if_pos h0]
  by_cases h : i < xs.length
  · rw [if_pos h]; rfl
  · rw [if_neg h, List.getElem?_eq_none (by omega)]; rfl
@[simp] theorem atI_ofNat (xs : List α) (n : Nat) : atI xs (n : Int) = xs[n]? := by rw [atI_of (by omega)]; simp
@[simp] theorem atI_0 (xs : List α) : atI xs 0 = xs[0]? := atI_of (by decide)
@[simp] theorem atI_1 (xs : List α) : atI xs 1 = xs[1]? := atI_of (by decide)
@[simp] theorem atI_2 (xs : List α) : atI xs 2 = xs[2]? := atI_of (by decide)
theorem atI_m1 (xs : List α) : atI xs (-1) = xs.getLast? := by
  unfold atI ixN
  rw [if_neg (by decide)]
  cases xs with
  | nil => rfl
  | cons x xs =>
    rw [if_pos (by simp only [List.length_cons]; omega)]
    rw [List.getLast?_eq_getElem?]
    show (x :: xs)[_]? = _
    congr 1
    simp only [List.length_cons]; omega
end
@[simp] theorem vc_tup (xs : List PV) (lo hi : Option Int) : vcut (.tup xs) lo hi = some (.tup (cutL xs lo hi)) := rfl
@[simp] theorem vc_lst (xs : List PV) (lo hi : Option Int) : vcut (.lst xs) lo hi = some (.lst (cutL xs lo hi)) := rfl
@[simp] theorem vc_scr (xs : List PV) (lo hi : Option Int) : vcut (.scr xs) lo hi = some (.lst (cutL xs lo hi)) := rfl
@[simp] theorem seqOf_tup (xs : List PV) : seqOf (.tup xs) = some xs := rfl
@[simp] theorem seqOf_lst (xs : List PV) : seqOf (.lst xs) = some xs := rfl
@[simp] theorem tupOf_tup (xs : List PV) : tupOf (.tup xs) = some xs := rfl
@[simp] theorem b_len_tup (xs : List PV) : vblt .len [.tup xs] = some (.int xs.length) := rfl
@[simp] theorem b_len_lst (xs : List PV) : vblt .len [.lst xs] = some (.int xs.length) := rfl
@[simp] theorem b_len_scr (xs : List PV) : vblt .len [.scr xs] = some (.int xs.length) := rfl
@[simp] theorem b_max2 (i j : Int) : vblt .max2 [.int i, .int j] = some (.int (if j > i then j else i)) := rfl
@[simp] theorem b_min2 (i j : Int) : vblt .min2 [.int i, .int j] = some (.int (if j < i then j else i)) := rfl
@[simp] theorem b_abs (i : Int) : vblt .abs [.int i] = some (.int (if i < 0 then -i else i)) := rfl
@[simp] theorem b_int (i : Int) : vblt .int [.int i] = some (.int i) := rfl
@[simp] theorem b_tuple_l (xs : List PV) : vblt .tuple [.lst xs] = some (.tup xs) := rfl
@[simp] theorem b_tuple_t (xs : List PV) : vblt .tuple [.tup xs] = some (.tup xs) := rfl
@[simp] theorem b_list_l (xs : List PV) : vblt .list [.lst xs] = some (.lst xs) := rfl
@[simp] theorem b_list_t (xs : List PV) : vblt .list [.tup xs] = some (.lst xs) := rfl
@[simp] theorem b_divmod (i j : Int) : vblt .divmod [.int i, .int j] = if 0 < j ∧ j < 1073741824 then some (.tup [.int (i / j), .int (i % j)]) else none := rfl
@[simp] theorem b_zipL2 (xs ys : List PV) : vblt .zipL2 [.lst xs, .lst ys] = some (.lst (zipP xs ys)) := rfl
@[simp] theorem b_listVals (kvs : List (Key × PV)) : vblt .listVals [.dct kvs] = some (.lst (kvs.map (·.2))) := rfl
@[simp] theorem b_rangeL1 (j : Int) : vblt .rangeL1 [.int j] = if IntOk j ∧ j ≤ SZ then some (.lst (rangeI 0 j.toNat)) else none := rfl
@[simp] theorem b_rangeL2 (i j : Int) : vblt .rangeL2 [.int i, .int j] = if IntOk i ∧ IntOk j ∧ j - i ≤ SZ then some (.lst (rangeI i (j - i).toNat)) else none := rfl
@[simp] theorem b_ii (i : Int) : vblt (.isInst .int) [.int i] = some (.bl true) := rfl
@[simp] theorem b_ib (i : Int) : vblt (.isInst .bool) [.int i] = some (.bl false) := rfl
@[simp] theorem b_it (i : Int) : vblt (.isInst .tuple) [.int i] = some (.bl false) := rfl
@[simp] theorem b_tt (xs : List PV) : vblt (.isInst .tuple) [.tup xs] = some (.bl true) := rfl
@[simp] theorem b_ti (xs : List PV) : vblt (.isInst .int) [.tup xs] = some (.bl false) := rfl
@[simp] theorem b_tb (xs : List PV) : vblt (.isInst .bool) [.tup xs] = some (.bl false) := rfl
@[simp] theorem b_nt : vblt (.isInst .tuple) [.non] = some (.bl false) := rfl
@[simp] theorem b_ni : vblt (.isInst .int) [.non] = some (.bl false) := rfl
@[simp] theorem b_nb : vblt (.isInst .bool) [.non] = some (.bl false) := rfl
@[simp] theorem b_lt (xs : List PV) : vblt (.isInst .tuple) [.lst xs] = some (.bl false) := rfl
@[simp] theorem b_li (xs : List PV) : vblt (.isInst .int) [.lst xs] = some (.bl false) := rfl
@[simp] theorem b_lb (xs : List PV) : vblt (.isInst .bool) [.lst xs] = some (.bl false) := rfl
theorem intsOf_map : ∀ xs : List Int, intsOf (xs.map .int) = some xs
  | [] => rfl
  | x :: xs => by simp [intsOf, intsOf_map xs]
theorem boolsOf_map : ∀ xs : List Bool, boolsOf (xs.map .bl) = some xs
  | [] => rfl
  | x :: xs => by simp [boolsOf, boolsOf_map xs]
@[simp] theorem b_sum (xs : List Int) : vblt .sum [.lst (xs.map .int)] = some (.int xs.sum) := by
  show (intsOf _).map _ = _
  rw [intsOf_map]; rfl
@[simp] theorem b_sumT (xs : List Int) : vblt .sum [.tup (xs.map .int)] = some (.int xs.sum) := by
  show (intsOf _).map _ = _
  rw [intsOf_map]; rfl
@[simp] theorem b_all (xs : List Bool) : vblt .all [.lst (xs.map .bl)] = some (.bl (xs.all id)) := by
  show (boolsOf _).map _ = _
  rw [boolsOf_map]; rfl
theorem b_max1 (x : Int) (xs : List Int) : vblt .max1 [.lst ((x :: xs).map .int)] = some (.int (maxL x xs)) := by
  show (match intsOf ((x :: xs).map .int) with
    | some (n :: ns) => some (PV.int (maxL n ns))
    | _ => none) = _
  rw [intsOf_map]
theorem b_min1 (x : Int) (xs : List Int) : vblt .min1 [.lst ((x :: xs).map .int)] = some (.int (minL x xs)) := by
  show (match intsOf ((x :: xs).map .int) with
    | some (n :: ns) => some (PV.int (minL n ns))
    | _ => none) = _
  rw [intsOf_map]
@[simp] theorem plain_int (i : Int) : (PV.int i).plain = true := by simp [PV.plain]
@[simp] theorem plain_bl (i : Bool) : (PV.bl i).plain = true := by simp [PV.plain]
@[simp] theorem plain_non : PV.non.plain = true := by simp [PV.plain]
@[simp] theorem plain_obj (i : Nat) : (PV.obj i).plain = true := by simp [PV.plain]
@[simp] theorem plain_tup (xs : List PV) : (PV.tup xs).plain = plains xs := by simp [PV.plain]
@[simp] theorem plain_lst (xs : List PV) : (PV.lst xs).plain = plains xs := by simp [PV.plain]
@[simp] theorem plains_nil : plains [] = true := rfl
@[simp] theorem plains_cons (x : PV) (xs : List PV) : plains (x :: xs) = (x.plain && plains xs) := rfl
@[simp] theorem plains_app : ∀ (xs ys : List PV), plains (xs ++ ys) = (plains xs && plains ys)
  | [], ys => by simp
  | x :: xs, ys => by simp [plains_app xs ys, Bool.and_assoc]
theorem plains_all : ∀ {xs : List PV}, plains xs = xs.all PV.plain
  | [] => rfl
  | x :: xs => by simp [plains_all (xs := xs)]
@[simp] theorem plains_ints (xs : List Int) : plains (xs.map .int) = true := by
  induction xs with
  | nil => rfl
  | cons x xs ih => simp [ih]
@[simp] theorem plain_scr_ints (xs : List Int) : (PV.scr (xs.map .int)).plain = true := by simp [PV.plain]
@[simp] theorem pairsOf_nil : pairsOf [] = some [] := rfl
@[simp] theorem pairsOf_cons (k v : PV) (r : List PV) : pairsOf (k :: v :: r) = (keyOf k).bind fun k => (pairsOf r).map fun kvs => (k, v) :: kvs := by
  show (match keyOf k, pairsOf r with
    | some k, some kvs => some ((k, v) :: kvs)
    | _, _ => none) = _
  cases keyOf k <;> cases pairsOf r <;> rfl
@[simp] theorem keyOf_int (i : Int) : keyOf (.int i) = some (.inl i) := rfl
@[simp] theorem keyOf_str (i : Str) : keyOf (.str i) = some (.inr i) := rfl
@[simp] theorem kPV_l (i : Int) : kPV (.inl i) = .int i := rfl
@[simp] theorem kPV_r (i : Str) : kPV (.inr i) = .str i := rfl
@[simp] theorem mergeP_nil {κ : Type} [DecidableEq κ] (acc : List (κ × PV)) : mergeP acc [] = acc := rfl
@[simp] theorem mergeP_cons {κ : Type} [DecidableEq κ] (acc : List (κ × PV)) (k : κ) (v : PV) (r : List (κ × PV)) : mergeP acc ((k, v) :: r) = mergeP (put k v acc) r := rfl
@[simp] theorem cut_none {α : Type} (xs : List α) : cutL xs none none = xs := by simp [cutL]
theorem cut_to {α : Type} (xs : List α) {i : Int} (h : 0 ≤ i) : cutL xs none (some i) = xs.take i.toNat := by
  simp only [cutL, cutIx, if_pos h, List.drop_zero, Nat.sub_zero]
  rw [Nat.min_def]
  split
  · rfl
  · rename_i h2
    rw [List.take_length, List.take_of_length_le (by omega)]
@[simp] theorem cut_toN {α : Type} (xs : List α) (n : Nat) : cutL xs none (some (n : Int)) = xs.take n := by rw [cut_to _ (by omega)]; simp
theorem cut_from {α : Type} (xs : List α) {i : Int} (h : 0 ≤ i) : cutL xs (some i) none = xs.drop i.toNat := by
  simp only [cutL, cutIx, if_pos h]
  rw [Nat.min_def]
  split
  · rw [List.take_of_length_le (by simp)]
  · rename_i h2
    rw [List.take_of_length_le (by simp), List.drop_length, List.drop_eq_nil_of_le (by omega)]
theorem cut_mid {α : Type} (xs : List α) {i j : Int} (h : 0 ≤ i) (h2 : 0 ≤ j) : cutL xs (some i) (some j) = (xs.take j.toNat).drop i.toNat := by
  simp only [cutL, cutIx, if_pos h, if_pos h2]
  rw [List.drop_take]
  by_cases a : i.toNat ≤ xs.length
  · by_cases b : j.toNat ≤ xs.length
    · rw [Nat.min_eq_left a, Nat.min_eq_left b]
    · rw [Nat.min_eq_left a, Nat.min_eq_right (by omega), List.take_of_length_le (by simp), List.take_of_length_le (by simp; omega)]
  · simp [List.drop_eq_nil_of_le (show xs.length ≤ i.toNat by omega), Nat.min_eq_right (show xs.length ≤ i.toNat by omega)]
end TL

set_option linter.all false
set_option maxRecDepth 100000
set_option maxHeartbeats 4000000
/-! The table of the law. Printed by gen3.py (own work). -/
namespace TL
open PySem PySem.Spec PyProof.Rows L2
def top (i : Nat) : Stmt := PySem.Challenge.pw_towerlooks_k79_whole_days_of_desks.main.body.getD i (.Pass ⟨0, 0, 0, 0⟩)
def cbody : Stmt → List Stmt
  | .ClassDef _ _ _ b _ _ _ _ _ _ _ => b
  | _ => []
def mth (i j : Nat) : Stmt := (cbody (top i)).getD j (.Pass ⟨0, 0, 0, 0⟩)
def blL : List Str := [("abs" : Str), ("all" : Str), ("bool" : Str), ("divmod" : Str), ("enumerate" : Str), ("int" : Str), ("isinstance" : Str), ("len" : Str), ("list" : Str), ("max" : Str), ("min" : Str), ("range" : Str), ("sum" : Str), ("tuple" : Str), ("zip" : Str)]
def csL : List (Str × Gv) := [(("MOST_HOLDS" : Str), .int 60), (("MOST_HOURS" : Str), .int 12), (("MOST_IN_HOUR" : Str), .int 30), (("MOST_LATE" : Str), .int 12), (("BEGINNING" : Str), .int (-1))]
def kwL : List (Nat × Nat × List Str) := [(59, 3, [("start" : Str)]), (67, 1, [("number" : Str)]), (70, 1, [("number" : Str)])]
def ctL : List CD := [⟨("Desk" : Str), false, some 59, [(("check_left" : Str), 65), (("span_now" : Str), 66), (("pump" : Str), 67), (("pump_least" : Str), 68), (("pump_most" : Str), 69), (("use" : Str), 70), (("level" : Str), 71), (("doubt" : Str), 72)], [(("tower" : Str), 60), (("watch" : Str), 61), (("hour" : Str), 62), (("pumped" : Str), 63), (("known_uses" : Str), 64)], [("own_tower" : Str), ("own_watch" : Str), ("start" : Str), ("filled" : Str), ("told" : Str), ("taken" : Str)]⟩]
def xfL : List Str := [("given" : Str)]
def sbN : List (Str × Option String × List Nat) := [(("TowerError" : Str), none, [0, 1, 2]), (("InvalidNumber" : Str), none, [0]), (("OutOfRange" : Str), none, [1]), (("NotPumped" : Str), none, [2]), (("ValueError" : Str), some "ValueError", [0, 1, 2])]
def xsL : List XDD := [⟨("InvalidNumber" : Str), some (("given" : Str), mth 4 0)⟩, ⟨("OutOfRange" : Str), some (("given" : Str), mth 6 0)⟩, ⟨("NotPumped" : Str), none⟩]
abbrev j_is_whole : Nat := 0
abbrev j_is_number : Nat := 1
abbrev j_is_tuple_of : Nat := 2
abbrev j_wrong_at : Nat := 3
abbrev j_wrong_from_one : Nat := 4
abbrev j_is_above_last : Nat := 5
abbrev j_is_hour_form : Nat := 6
abbrev j_is_tower_form : Nat := 7
abbrev j_widths_of : Nat := 8
abbrev j_mosts_of : Nat := 9
abbrev j_pumps_of : Nat := 10
abbrev j_wrong_looks : Nat := 11
abbrev j_is_watch_of : Nat := 12
abbrev j_known_by : Nat := 13
abbrev j_doubts_of : Nat := 14
abbrev j_lacks_behind : Nat := 15
abbrev j_need_of : Nat := 16
abbrev j_needs_of : Nat := 17
abbrev j_spare_of : Nat := 18
abbrev j_do_fit_hours : Nat := 19
abbrev j_is_kept_by : Nat := 20
abbrev j_stretches_of : Nat := 21
abbrev j_level_known : Nat := 22
abbrev j_range_next : Nat := 23
abbrev j_check_number : Nat := 24
abbrev j_check_tower : Nat := 25
abbrev j_check_start_of : Nat := 26
abbrev j_check_watch_of : Nat := 27
abbrev j_check_watch : Nat := 28
abbrev j_check_watched : Nat := 29
abbrev j__law_well : Nat := 30
abbrev j__law_draw : Nat := 31
abbrev j__law_of : Nat := 32
abbrev j__law_same : Nat := 33
abbrev j__law_tower : Nat := 34
abbrev j__law_hours : Nat := 35
abbrev j__law_width : Nat := 36
abbrev j__law_need : Nat := 37
abbrev j__law_known : Nat := 38
abbrev j__law_doubt : Nat := 39
abbrev j__law_too_much : Nat := 40
abbrev j__law_can_keep : Nat := 41
abbrev j__law_watch : Nat := 42
abbrev j__law_range : Nat := 43
abbrev j__law_least_level : Nat := 44
abbrev j__law_kept_tower : Nat := 45
abbrev j__law_fresh : Nat := 46
abbrev j__law_at : Nat := 47
abbrev j__law_told : Nat := 48
abbrev j__law_may : Nat := 49
abbrev j__law_run : Nat := 50
abbrev j__law_deed : Nat := 51
abbrev j__law_call : Nat := 52
abbrev j__law_came : Nat := 53
abbrev j__law_step : Nat := 54
abbrev j__law_is_shown : Nat := 55
abbrev j__law_level : Nat := 56
abbrev j__law_right : Nat := 57
abbrev j_law : Nat := 58
abbrev j_Desk_init : Nat := 59
abbrev j_Desk_tower : Nat := 60
abbrev j_Desk_watch : Nat := 61
abbrev j_Desk_hour : Nat := 62
abbrev j_Desk_pumped : Nat := 63
abbrev j_Desk_known_uses : Nat := 64
abbrev j_Desk_check_left : Nat := 65
abbrev j_Desk_span_now : Nat := 66
abbrev j_Desk_pump : Nat := 67
abbrev j_Desk_pump_least : Nat := 68
abbrev j_Desk_pump_most : Nat := 69
abbrev j_Desk_use : Nat := 70
abbrev j_Desk_level : Nat := 71
abbrev j_Desk_doubt : Nat := 72
abbrev l_is_tower_form_0 : Nat := 73
abbrev l_wrong_looks_0 : Nat := 74
abbrev l__law_step_0 : Nat := 75
abbrev l__law_right_0 : Nat := 76
abbrev l__law_right_1 : Nat := 77
def ir_is_whole : ISs :=
  (.cons (.ret (.and (.blt (.isInst .int) (.cons (.var 0) .nil)) (.not (.blt (.isInst .bool) (.cons (.var 0) .nil)))))
  .nil)
def d_is_whole : DD := ⟨.g ("is_whole" : Str), ("is_whole" : Str), ("is_whole" : Str), top 10, [("value" : Str)], 1, [], [], false, false, ir_is_whole⟩
def ir_is_number : ISs :=
  (.cons (.ite (.or (.not (.call j_is_whole (.cons (.var 0) .nil))) (.and (.cmp .isnot (.var 1) .non) (.cmp .lt (.var 0) (.var 1)))) (.cons (.ret (.bl false))
  .nil) .nil)
  (.cons (.ret (.or (.cmp .is (.var 2) .non) (.cmp .le (.var 0) (.var 2))))
  .nil))
def d_is_number : DD := ⟨.g ("is_number" : Str), ("is_number" : Str), ("is_number" : Str), top 11, [("value" : Str), ("low" : Str), ("high" : Str)], 3, [], [], false, false, ir_is_number⟩
def ir_is_tuple_of : ISs :=
  (.cons (.ret (.and (.blt (.isInst .tuple) (.cons (.var 0) .nil)) (.cmp .eq (.blt .len (.cons (.var 0) .nil)) (.var 1))))
  .nil)
def d_is_tuple_of : DD := ⟨.g ("is_tuple_of" : Str), ("is_tuple_of" : Str), ("is_tuple_of" : Str), top 12, [("value" : Str), ("many" : Str)], 2, [], [], false, false, ir_is_tuple_of⟩
def ir_wrong_at : ISs :=
  (.cons (.ite (.not (.blt (.isInst .tuple) (.cons (.var 0) .nil))) (.cons (.ret (.lst (.cons .non .nil)))
  .nil) .nil)
  (.cons (.for (.tp (.cons (.nm 3) (.cons (.nm 4) .nil))) (.enum (.var 0)) (.cons (.ite (.or (.and (.cmp .isnot (.var 1) .non) (.cmp .ge (.var 3) (.var 1))) (.not (.callv 2 (.cons (.var 4) (.cons (.cut (.peek 0) false .non true (.var 3)) .nil))))) (.cons (.ret (.lst (.cons (.var 3) .nil)))
  .nil) .nil)
  .nil))
  (.cons (.ret (.lst .nil))
  .nil)))
def d_wrong_at : DD := ⟨.g ("wrong_at" : Str), ("wrong_at" : Str), ("wrong_at" : Str), top 13, [("value" : Str), ("most" : Str), ("is_right" : Str), ("at" : Str), ("each" : Str)], 3, [], [], false, false, ir_wrong_at⟩
def ir_wrong_from_one : ISs :=
  (.cons (.ret (.ite (.and (.blt (.isInst .tuple) (.cons (.var 0) .nil)) (.cmp .eq (.var 0) (.tup .nil))) (.lst (.cons .non .nil)) (.call j_wrong_at (.cons (.var 0) (.cons (.var 1) (.cons (.var 2) .nil))))))
  .nil)
def d_wrong_from_one : DD := ⟨.g ("wrong_from_one" : Str), ("wrong_from_one" : Str), ("wrong_from_one" : Str), top 14, [("value" : Str), ("most" : Str), ("is_right" : Str)], 3, [], [], false, false, ir_wrong_from_one⟩
def ir_is_above_last : ISs :=
  (.cons (.ret (.or (.cmp .eq (.var 1) (.tup .nil)) (.cmp .lt (.sub (.peek 1) (.neg (.int 1))) (.var 0))))
  .nil)
def d_is_above_last : DD := ⟨.g ("is_above_last" : Str), ("is_above_last" : Str), ("is_above_last" : Str), top 15, [("value" : Str), ("before" : Str)], 2, [], [], false, false, ir_is_above_last⟩
def ir_is_hour_form : ISs :=
  (.cons (.ite (.or (.not (.call j_is_tuple_of (.cons (.var 0) (.cons (.int 3) .nil)))) (.not (.blt .all (.cons (.comp [1] (.nm 1) (.val (.var 0)) (.bl true) (.call j_is_number (.cons (.var 1) (.cons (.int 0) (.cons (.int 30) .nil))))) .nil)))) (.cons (.ret (.bl false))
  .nil) .nil)
  (.cons (.ret (.cmp .le (.sub (.peek 0) (.int 0)) (.sub (.peek 0) (.int 1))))
  .nil))
def d_is_hour_form : DD := ⟨.g ("is_hour_form" : Str), ("is_hour_form" : Str), ("is_hour_form" : Str), top 20, [("value" : Str), ("each" : Str)], 1, [], [], false, false, ir_is_hour_form⟩
def ir_is_tower_form : ISs :=
  (.cons (.ite (.or (.not (.call j_is_tuple_of (.cons (.var 0) (.cons (.int 2) .nil)))) (.not (.call j_is_number (.cons (.sub (.peek 0) (.int 0)) (.cons (.int 1) (.cons (.int 60) .nil)))))) (.cons (.ret (.bl false))
  .nil) .nil)
  (.cons (.ret (.cmp .eq (.call j_wrong_from_one (.cons (.sub (.peek 0) (.int 1)) (.cons (.int 12) (.cons (.lam l_is_tower_form_0 []) .nil)))) (.lst .nil)))
  .nil))
def d_is_tower_form : DD := ⟨.g ("is_tower_form" : Str), ("is_tower_form" : Str), ("is_tower_form" : Str), top 21, [("value" : Str)], 1, [], [((58, 48), 73)], false, false, ir_is_tower_form⟩
def ir_widths_of : ISs :=
  (.cons (.ret (.comp [1, 2, 3] (.tp (.cons (.nm 1) (.cons (.nm 2) (.cons (.nm 3) .nil)))) (.val (.sub (.peek 0) (.int 1))) (.bl true) (.bin .sub (.var 2) (.var 1))))
  .nil)
def d_widths_of : DD := ⟨.g ("widths_of" : Str), ("widths_of" : Str), ("widths_of" : Str), top 22, [("tower" : Str), ("least" : Str), ("most" : Str), ("_" : Str)], 1, [], [], false, false, ir_widths_of⟩
def ir_mosts_of : ISs :=
  (.cons (.ret (.comp [1, 2] (.tp (.cons (.nm 1) (.cons (.nm 2) (.cons (.nm 1) .nil)))) (.val (.sub (.peek 0) (.int 1))) (.bl true) (.var 2)))
  .nil)
def d_mosts_of : DD := ⟨.g ("mosts_of" : Str), ("mosts_of" : Str), ("mosts_of" : Str), top 23, [("tower" : Str), ("_" : Str), ("most" : Str)], 1, [], [], false, false, ir_mosts_of⟩
def ir_pumps_of : ISs :=
  (.cons (.ret (.comp [1, 2] (.tp (.cons (.nm 1) (.cons (.nm 1) (.cons (.nm 2) .nil)))) (.val (.sub (.peek 0) (.int 1))) (.bl true) (.var 2)))
  .nil)
def d_pumps_of : DD := ⟨.g ("pumps_of" : Str), ("pumps_of" : Str), ("pumps_of" : Str), top 24, [("tower" : Str), ("_" : Str), ("pump" : Str)], 1, [], [], false, false, ir_pumps_of⟩
def ir_wrong_looks : ISs :=
  (.cons (.ret (.call j_wrong_at (.cons (.var 1) (.cons .non (.cons (.lam l_wrong_looks_0 [0]) .nil)))))
  .nil)
def d_wrong_looks : DD := ⟨.g ("wrong_looks" : Str), ("wrong_looks" : Str), ("wrong_looks" : Str), top 28, [("many" : Str), ("value" : Str)], 2, [], [((69, 33), 74)], false, false, ir_wrong_looks⟩
def ir_is_watch_of : ISs :=
  (.cons (.ret (.and (.call j_is_tuple_of (.cons (.var 1) (.cons (.int 2) .nil))) (.and (.call j_is_number (.cons (.sub (.peek 1) (.int 0)) (.cons (.int 0) (.cons (.int 12) .nil)))) (.cmp .eq (.call j_wrong_looks (.cons (.var 0) (.cons (.sub (.peek 1) (.int 1)) .nil))) (.lst .nil)))))
  .nil)
def d_is_watch_of : DD := ⟨.g ("is_watch_of" : Str), ("is_watch_of" : Str), ("is_watch_of" : Str), top 29, [("many" : Str), ("value" : Str)], 2, [], [], false, false, ir_is_watch_of⟩
def ir_known_by : ISs :=
  (.cons (.ret (.blt .max1 (.cons (.bin .add (.lst (.cons (.int 0) .nil)) (.comp [2] (.nm 2) (.val (.sub (.peek 0) (.int 1))) (.cmp .le (.var 2) (.var 1)) (.bin .sub (.var 2) (.sub (.peek 0) (.int 0))))) .nil)))
  .nil)
def d_known_by : DD := ⟨.g ("known_by" : Str), ("known_by" : Str), ("known_by" : Str), top 30, [("watch" : Str), ("hour" : Str), ("look" : Str)], 2, [], [], false, false, ir_known_by⟩
def ir_doubts_of : ISs :=
  (.cons (.asg (.nm 2) (.call j_widths_of (.cons (.var 0) .nil)))
  (.cons (.ret (.comp [3] (.nm 3) (.range1 (.blt .len (.cons (.var 2) .nil))) (.bl true) (.blt .sum (.cons (.cut (.peek 2) true (.call j_known_by (.cons (.var 1) (.cons (.var 3) .nil))) true (.bin .add (.var 3) (.int 1))) .nil))))
  .nil))
def d_doubts_of : DD := ⟨.g ("doubts_of" : Str), ("doubts_of" : Str), ("doubts_of" : Str), top 31, [("tower" : Str), ("watch" : Str), ("widths" : Str), ("hour" : Str)], 2, [], [], false, false, ir_doubts_of⟩
def ir_lacks_behind : ISs :=
  (.cons (.par [(2, true), (3, false)] (.cons (.lst .nil) (.cons (.int 0) .nil)))
  (.cons (.for (.tp (.cons (.nm 4) (.cons (.nm 5) .nil))) (.val (.cut (.blt .zipL2 (.cons (.call j_mosts_of (.cons (.var 0) .nil)) (.cons (.call j_pumps_of (.cons (.var 0) .nil)) .nil))) true (.bin .add (.var 1) (.int 1)) false .non)) (.cons (.asg (.nm 3) (.bin .sub (.bin .add (.var 3) (.var 4)) (.var 5)))
  (.cons (.app 2 (.var 3))
  .nil)))
  (.cons (.frz 2)
  (.cons (.ret (.var 2))
  .nil))))
def d_lacks_behind : DD := ⟨.g ("lacks_behind" : Str), ("lacks_behind" : Str), ("lacks_behind" : Str), top 32, [("tower" : Str), ("hour" : Str), ("found" : Str), ("whole" : Str), ("most" : Str), ("pump" : Str)], 2, [2], [], false, false, ir_lacks_behind⟩
def ir_need_of : ISs :=
  (.cons (.ret (.blt .max1 (.cons (.bin .add (.lst (.cons (.int 0) .nil)) (.call j_lacks_behind (.cons (.var 0) (.cons (.var 1) .nil)))) .nil)))
  .nil)
def d_need_of : DD := ⟨.g ("need_of" : Str), ("need_of" : Str), ("need_of" : Str), top 33, [("tower" : Str), ("hour" : Str)], 2, [], [], false, false, ir_need_of⟩
def ir_needs_of : ISs :=
  (.cons (.ret (.comp [1] (.nm 1) (.range1 (.blt .len (.cons (.sub (.peek 0) (.int 1)) .nil))) (.bl true) (.call j_need_of (.cons (.var 0) (.cons (.var 1) .nil)))))
  .nil)
def d_needs_of : DD := ⟨.g ("needs_of" : Str), ("needs_of" : Str), ("needs_of" : Str), top 34, [("tower" : Str), ("hour" : Str)], 1, [], [], false, false, ir_needs_of⟩
def ir_spare_of : ISs :=
  (.cons (.ret (.comp [2, 3] (.tp (.cons (.nm 2) (.cons (.nm 3) .nil))) (.zip2 (.call j_needs_of (.cons (.var 0) .nil)) (.call j_doubts_of (.cons (.var 0) (.cons (.var 1) .nil)))) (.bl true) (.bin .sub (.bin .sub (.sub (.peek 0) (.int 0)) (.var 2)) (.var 3))))
  .nil)
def d_spare_of : DD := ⟨.g ("spare_of" : Str), ("spare_of" : Str), ("spare_of" : Str), top 35, [("tower" : Str), ("watch" : Str), ("need" : Str), ("doubt" : Str)], 2, [], [], false, false, ir_spare_of⟩
def ir_do_fit_hours : ISs :=
  (.cons (.ret (.cmp .ge (.blt .min1 (.cons (.call j_spare_of (.cons (.var 0) (.cons (.var 1) .nil))) .nil)) (.int 0)))
  .nil)
def d_do_fit_hours : DD := ⟨.g ("do_fit_hours" : Str), ("do_fit_hours" : Str), ("do_fit_hours" : Str), top 36, [("tower" : Str), ("watch" : Str)], 2, [], [], false, false, ir_do_fit_hours⟩
def ir_is_kept_by : ISs :=
  (.cons (.ret (.and (.cmp .ge (.var 2) (.call j_need_of (.cons (.var 0) (.cons (.int (-1)) .nil)))) (.call j_do_fit_hours (.cons (.var 0) (.cons (.var 1) .nil)))))
  .nil)
def d_is_kept_by : DD := ⟨.g ("is_kept_by" : Str), ("is_kept_by" : Str), ("is_kept_by" : Str), top 37, [("tower" : Str), ("watch" : Str), ("start" : Str)], 3, [], [], false, false, ir_is_kept_by⟩
def ir_stretches_of : ISs :=
  (.cons (.ret (.comp [2, 3] (.tp (.cons (.nm 2) (.cons (.nm 3) .nil))) (.zip2 (.call j_needs_of (.cons (.var 0) .nil)) (.call j_doubts_of (.cons (.var 0) (.cons (.var 1) .nil)))) (.bl true) (.tup (.cons (.var 2) (.cons (.bin .sub (.sub (.peek 0) (.int 0)) (.var 3)) .nil)))))
  .nil)
def d_stretches_of : DD := ⟨.g ("stretches_of" : Str), ("stretches_of" : Str), ("stretches_of" : Str), top 38, [("tower" : Str), ("watch" : Str), ("need" : Str), ("doubt" : Str)], 2, [], [], false, false, ir_stretches_of⟩
def ir_level_known : ISs :=
  (.cons (.asg (.nm 5) (.blt .len (.cons (.var 3) .nil)))
  (.cons (.asg (.nm 6) (.call j_known_by (.cons (.var 1) (.cons (.var 5) .nil))))
  (.cons (.ret (.bin .sub (.bin .sub (.bin .add (.var 2) (.blt .sum (.cons (.var 3) .nil))) (.blt .sum (.cons (.cut (.peek 4) false .non true (.var 6)) .nil))) (.blt .sum (.cons (.cut (.call j_mosts_of (.cons (.var 0) .nil)) true (.var 6) true (.var 5)) .nil))))
  .nil)))
def d_level_known : DD := ⟨.g ("level_known" : Str), ("level_known" : Str), ("level_known" : Str), top 39, [("tower" : Str), ("watch" : Str), ("start" : Str), ("pumped" : Str), ("uses" : Str), ("hour" : Str), ("known" : Str)], 5, [], [], false, false, ir_level_known⟩
def ir_range_next : ISs :=
  (.cons (.asg (.nm 5) (.blt .len (.cons (.var 3) .nil)))
  (.cons (.asg (.nm 6) (.bin .sub (.call j_level_known (.cons (.var 0) (.cons (.var 1) (.cons (.var 2) (.cons (.var 3) (.cons (.var 4) .nil)))))) (.sub (.sub (.sub (.peek 0) (.int 1)) (.var 5)) (.int 1))))
  (.cons (.asg (.tp (.cons (.nm 7) (.cons (.nm 8) .nil))) (.sub (.call j_stretches_of (.cons (.var 0) (.cons (.var 1) .nil))) (.var 5)))
  (.cons (.par [(9, false), (10, false)] (.cons (.blt .max2 (.cons (.int 0) (.cons (.bin .sub (.var 7) (.var 6)) .nil))) (.cons (.blt .min2 (.cons (.sub (.sub (.sub (.peek 0) (.int 1)) (.var 5)) (.int 2)) (.cons (.bin .sub (.var 8) (.var 6)) .nil))) .nil)))
  (.cons (.ret (.ite (.and (.cmp .le (.var 9) (.var 10)) (.call j_is_kept_by (.cons (.var 0) (.cons (.var 1) (.cons (.var 2) .nil))))) (.lst (.cons (.tup (.cons (.var 9) (.cons (.var 10) .nil))) .nil)) (.lst .nil)))
  .nil)))))
def d_range_next : DD := ⟨.g ("range_next" : Str), ("range_next" : Str), ("range_next" : Str), top 40, [("tower" : Str), ("watch" : Str), ("start" : Str), ("pumped" : Str), ("uses" : Str), ("hour" : Str), ("behind" : Str), ("low" : Str), ("high" : Str), ("least" : Str), ("most" : Str)], 5, [], [], false, false, ir_range_next⟩
def ir_check_number : ISs :=
  (.cons (.ite (.not (.call j_is_number (.cons (.var 0) (.cons (.var 1) (.cons (.var 2) .nil))))) (.cons (.raise 0 [("given" : Str)] (.cons (.var 0) .nil))
  .nil) .nil)
  .nil)
def d_check_number : DD := ⟨.g ("check_number" : Str), ("check_number" : Str), ("check_number" : Str), top 42, [("value" : Str), ("low" : Str), ("high" : Str)], 3, [], [], false, false, ir_check_number⟩
def ir_check_tower : ISs :=
  (.cons (.ite (.not (.call j_is_tower_form (.cons (.var 0) .nil))) (.cons .stuck
  .nil) .nil)
  .nil)
def d_check_tower : DD := ⟨.g ("check_tower" : Str), ("check_tower" : Str), ("check_tower" : Str), top 43, [("value" : Str)], 1, [], [], false, false, ir_check_tower⟩
def ir_check_start_of : ISs :=
  (.cons (.expr (.call j_check_number (.cons (.var 1) (.cons (.int 0) (.cons (.sub (.peek 0) (.int 0)) .nil)))))
  .nil)
def d_check_start_of : DD := ⟨.g ("check_start_of" : Str), ("check_start_of" : Str), ("check_start_of" : Str), top 44, [("tower" : Str), ("value" : Str)], 2, [], [], false, false, ir_check_start_of⟩
def ir_check_watch_of : ISs :=
  (.cons (.ite (.not (.call j_is_watch_of (.cons (.blt .len (.cons (.sub (.peek 0) (.int 1)) .nil)) (.cons (.var 1) .nil)))) (.cons .stuck
  .nil) .nil)
  .nil)
def d_check_watch_of : DD := ⟨.g ("check_watch_of" : Str), ("check_watch_of" : Str), ("check_watch_of" : Str), top 45, [("tower" : Str), ("value" : Str)], 2, [], [], false, false, ir_check_watch_of⟩
def ir_check_watch : ISs :=
  (.cons (.expr (.call j_check_tower (.cons (.var 0) .nil)))
  (.cons (.expr (.call j_check_watch_of (.cons (.var 0) (.cons (.var 1) .nil))))
  .nil))
def d_check_watch : DD := ⟨.g ("check_watch" : Str), ("check_watch" : Str), ("check_watch" : Str), top 46, [("tower" : Str), ("watch" : Str)], 2, [], [], false, false, ir_check_watch⟩
def ir_check_watched : ISs :=
  (.cons (.expr (.call j_check_watch (.cons (.var 0) (.cons (.var 1) .nil))))
  (.cons (.expr (.call j_check_start_of (.cons (.var 0) (.cons (.var 2) .nil))))
  .nil))
def d_check_watched : DD := ⟨.g ("check_watched" : Str), ("check_watched" : Str), ("check_watched" : Str), top 47, [("tower" : Str), ("watch" : Str), ("start" : Str)], 3, [], [], false, false, ir_check_watched⟩
def ir__law_well : ISs :=
  (.cons (.asg (.nm 2) (.bin .add (.int 130577) (.bin .mul (.int 7013) (.var 1))))
  (.cons (.for (.nm 3) (.val (.cut (.peek 0) false .non true (.int 12))) (.cons (.asg (.nm 2) (.bin .mod (.blt .int (.cons (.bin .add (.bin .add (.bin .mul (.var 2) (.int 45281)) (.bin .mod (.blt .int (.cons (.var 3) .nil)) (.int 2147483549))) (.int 19)) .nil)) (.int 2147483563)))
  .nil))
  (.cons (.asg (.nm 4) (.ite (.cmp .lt (.var 1) (.blt .len (.cons (.var 0) .nil))) (.blt .int (.cons (.sub (.peek 0) (.var 1)) .nil)) (.int 0)))
  (.cons (.asg (.nm 2) (.bin .mod (.blt .int (.cons (.bin .add (.bin .add (.bin .mul (.var 2) (.int 41)) (.bin .mul (.bin .mod (.blt .int (.cons (.var 4) .nil)) (.int 2147483549)) (.int 15031))) (.int 5)) .nil)) (.int 2147483563)))
  (.cons (.ret (.sh (.lst (.cons (.ite (.or (.cmp .lt (.var 4) (.int 0)) (.cmp .ge (.var 4) (.bin .pow (.int 10) (.int 15)))) (.blt .abs (.cons (.var 4) .nil)) (.int 0)) (.cons (.var 2) (.cons (.int 0) .nil))))))
  .nil)))))
def d__law_well : DD := ⟨.g ("_law_well" : Str), ("_law_well" : Str), ("_law_well" : Str), top 51, [("script" : Str), ("lap" : Str), ("stirred" : Str), ("cell" : Str), ("own" : Str)], 2, [], [], true, false, ir__law_well⟩
def ir__law_draw : ISs :=
  (.cons (.ite (.cmp .gt (.sub (.peek 0) (.int 0)) (.int 0)) (.cons (.asg (.tp (.cons (.sb (.var 0) (.int 0)) (.cons (.nm 2) .nil))) (.blt .divmod (.cons (.sub (.peek 0) (.int 0)) (.cons (.var 1) .nil))))
  (.cons (.ret (.var 2))
  .nil)) .nil)
  (.cons (.asg (.sb (.var 0) (.int 2)) (.bin .add (.sub (.peek 0) (.int 2)) (.int 1)))
  (.cons (.asg (.nm 3) (.bin .mod (.blt .int (.cons (.bin .add (.bin .add (.bin .mul (.sub (.peek 0) (.int 1)) (.int 40037)) (.bin .mul (.int 13001) (.sub (.peek 0) (.int 2)))) (.int 7)) .nil)) (.int 2147483563)))
  (.cons (.asg (.sb (.var 0) (.int 1)) (.bin .mod (.blt .int (.cons (.bin .add (.bin .mul (.var 3) (.bin .add (.bin .mod (.blt .int (.cons (.var 3) .nil)) (.int 5009)) (.int 20023))) (.sub (.peek 0) (.int 2))) .nil)) (.int 2147483563)))
  (.cons (.ret (.bin .mod (.blt .int (.cons (.bin .fdiv (.sub (.peek 0) (.int 1)) (.int 1013)) .nil)) (.var 1)))
  .nil)))))
def d__law_draw : DD := ⟨.g ("_law_draw" : Str), ("_law_draw" : Str), ("_law_draw" : Str), top 52, [("well" : Str), ("limit" : Str), ("digit" : Str), ("stir" : Str)], 2, [], [], false, false, ir__law_draw⟩
def ir__law_of : ISs :=
  (.cons (.ret (.sub (.peek 1) (.call j__law_draw (.cons (.var 0) (.cons (.blt .len (.cons (.var 1) .nil)) .nil)))))
  .nil)
def d__law_of : DD := ⟨.g ("_law_of" : Str), ("_law_of" : Str), ("_law_of" : Str), top 53, [("well" : Str), ("some" : Str)], 2, [], [], false, false, ir__law_of⟩
def ir__law_same : ISs :=
  (.cons (.ite (.and (.blt (.isInst .tuple) (.cons (.var 0) .nil)) (.blt (.isInst .tuple) (.cons (.var 1) .nil))) (.cons (.ret (.and (.cmp .eq (.blt .len (.cons (.var 0) .nil)) (.blt .len (.cons (.var 1) .nil))) (.blt .all (.cons (.comp [2] (.nm 2) (.range1 (.blt .len (.cons (.var 0) .nil))) (.bl true) (.call j__law_same (.cons (.sub (.peek 0) (.var 2)) (.cons (.sub (.peek 1) (.var 2)) .nil)))) .nil))))
  .nil) .nil)
  (.cons (.ite (.or (.cmp .ne (.blt (.isInst .bool) (.cons (.var 0) .nil)) (.blt (.isInst .bool) (.cons (.var 1) .nil))) (.cmp .ne (.blt (.isInst .int) (.cons (.var 0) .nil)) (.blt (.isInst .int) (.cons (.var 1) .nil)))) (.cons (.ret (.bl false))
  .nil) .nil)
  (.cons (.ret (.and (.cmp .eq (.blt (.isInst .tuple) (.cons (.var 0) .nil)) (.blt (.isInst .tuple) (.cons (.var 1) .nil))) (.cmp .eq (.var 0) (.var 1))))
  .nil)))
def d__law_same : DD := ⟨.g ("_law_same" : Str), ("_law_same" : Str), ("_law_same" : Str), top 54, [("one" : Str), ("two" : Str), ("k" : Str)], 2, [], [], false, false, ir__law_same⟩
def ir__law_tower : ISs :=
  (.cons (.par [(2, false), (3, false)] (.cons (.tup .nil) (.cons (.call j__law_of (.cons (.var 0) (.cons (.tup (.cons (.int 1) (.cons (.int 2) (.cons (.int 3) .nil)))) .nil))) .nil)))
  (.cons (.for (.nm 4) (.range1 (.bin .add (.int 1) (.call j__law_draw (.cons (.var 0) (.cons (.var 1) .nil))))) (.cons (.asg (.nm 5) (.call j__law_draw (.cons (.var 0) (.cons (.int 3) .nil))))
  (.cons (.asg (.nm 2) (.bin .add (.var 2) (.tup (.cons (.tup (.cons (.var 5) (.cons (.bin .add (.var 5) (.call j__law_draw (.cons (.var 0) (.cons (.bin .add (.var 3) (.int 1)) .nil)))) (.cons (.call j__law_draw (.cons (.var 0) (.cons (.call j__law_of (.cons (.var 0) (.cons (.tup (.cons (.int 2) (.cons (.int 4) (.cons (.int 5) .nil)))) .nil))) .nil))) .nil)))) .nil))))
  .nil)))
  (.cons (.ret (.tup (.cons (.bin .add (.int 1) (.call j__law_draw (.cons (.var 0) (.cons (.call j__law_of (.cons (.var 0) (.cons (.tup (.cons (.int 4) (.cons (.int 8) (.cons (.int 12) .nil)))) .nil))) .nil)))) (.cons (.var 2) .nil))))
  .nil)))
def d__law_tower : DD := ⟨.g ("_law_tower" : Str), ("_law_tower" : Str), ("_law_tower" : Str), top 55, [("well" : Str), ("most" : Str), ("hours" : Str), ("wide" : Str), ("lap" : Str), ("least" : Str)], 2, [], [], false, false, ir__law_tower⟩
def ir__law_hours : ISs :=
  (.cons (.ret (.blt .len (.cons (.sub (.peek 0) (.int 1)) .nil)))
  .nil)
def d__law_hours : DD := ⟨.g ("_law_hours" : Str), ("_law_hours" : Str), ("_law_hours" : Str), top 56, [("tower" : Str)], 1, [], [], false, false, ir__law_hours⟩
def ir__law_width : ISs :=
  (.cons (.ret (.bin .sub (.sub (.sub (.sub (.peek 0) (.int 1)) (.var 1)) (.int 1)) (.sub (.sub (.sub (.peek 0) (.int 1)) (.var 1)) (.int 0))))
  .nil)
def d__law_width : DD := ⟨.g ("_law_width" : Str), ("_law_width" : Str), ("_law_width" : Str), top 57, [("tower" : Str), ("hour" : Str)], 2, [], [], false, false, ir__law_width⟩
def ir__law_need : ISs :=
  (.cons (.par [(2, false), (3, false)] (.cons (.int 0) (.cons (.int 0) .nil)))
  (.cons (.for (.tp (.cons (.nm 4) (.cons (.nm 5) (.cons (.nm 6) .nil)))) (.val (.cut (.sub (.peek 0) (.int 1)) true (.bin .add (.var 1) (.int 1)) false .non)) (.cons (.asg (.nm 3) (.bin .sub (.bin .add (.var 3) (.var 5)) (.var 6)))
  (.cons (.asg (.nm 2) (.blt .max2 (.cons (.var 2) (.cons (.var 3) .nil))))
  .nil)))
  (.cons (.ret (.var 2))
  .nil)))
def d__law_need : DD := ⟨.g ("_law_need" : Str), ("_law_need" : Str), ("_law_need" : Str), top 58, [("tower" : Str), ("hour" : Str), ("found" : Str), ("lack" : Str), ("least" : Str), ("most" : Str), ("pump" : Str)], 2, [], [], false, false, ir__law_need⟩
def ir__law_known : ISs :=
  (.cons (.ret (.blt .max1 (.cons (.bin .add (.lst (.cons (.int 0) .nil)) (.comp [2] (.nm 2) (.val (.sub (.peek 0) (.int 1))) (.cmp .le (.var 2) (.var 1)) (.bin .sub (.var 2) (.sub (.peek 0) (.int 0))))) .nil)))
  .nil)
def d__law_known : DD := ⟨.g ("_law_known" : Str), ("_law_known" : Str), ("_law_known" : Str), top 59, [("watch" : Str), ("hour" : Str), ("at" : Str)], 2, [], [], false, false, ir__law_known⟩
def ir__law_doubt : ISs :=
  (.cons (.ite (.cmp .lt (.var 2) (.int 0)) (.cons (.ret (.int 0))
  .nil) .nil)
  (.cons (.ret (.blt .sum (.cons (.comp [3] (.nm 3) (.range2 (.call j__law_known (.cons (.var 1) (.cons (.var 2) .nil))) (.bin .add (.var 2) (.int 1))) (.bl true) (.call j__law_width (.cons (.var 0) (.cons (.var 3) .nil)))) .nil)))
  .nil))
def d__law_doubt : DD := ⟨.g ("_law_doubt" : Str), ("_law_doubt" : Str), ("_law_doubt" : Str), top 60, [("tower" : Str), ("watch" : Str), ("hour" : Str), ("at" : Str)], 3, [], [], false, false, ir__law_doubt⟩
def ir__law_too_much : ISs :=
  (.cons (.asg (.nm 2) (.blt .rangeL1 (.cons (.call j__law_hours (.cons (.var 0) .nil)) .nil)))
  (.cons (.ret (.comp [3] (.nm 3) (.val (.var 2)) (.cmp .gt (.bin .add (.call j__law_need (.cons (.var 0) (.cons (.var 3) .nil))) (.call j__law_doubt (.cons (.var 0) (.cons (.var 1) (.cons (.var 3) .nil))))) (.sub (.peek 0) (.int 0))) (.var 3)))
  .nil))
def d__law_too_much : DD := ⟨.g ("_law_too_much" : Str), ("_law_too_much" : Str), ("_law_too_much" : Str), top 61, [("tower" : Str), ("watch" : Str), ("every" : Str), ("hour" : Str)], 2, [], [], false, false, ir__law_too_much⟩
def ir__law_can_keep : ISs :=
  (.cons (.ret (.and (.cmp .ge (.var 2) (.call j__law_need (.cons (.var 0) (.cons (.bin .sub (.int 0) (.int 1)) .nil)))) (.cmp .eq (.call j__law_too_much (.cons (.var 0) (.cons (.var 1) .nil))) (.lst .nil))))
  .nil)
def d__law_can_keep : DD := ⟨.g ("_law_can_keep" : Str), ("_law_can_keep" : Str), ("_law_can_keep" : Str), top 62, [("tower" : Str), ("watch" : Str), ("start" : Str)], 3, [], [], false, false, ir__law_can_keep⟩
def ir__law_watch : ISs :=
  (.cons (.asg (.nm 2) (.blt .tuple (.cons (.comp [3] (.nm 3) (.range1 (.call j__law_hours (.cons (.var 1) .nil))) (.cmp .eq (.call j__law_draw (.cons (.var 0) (.cons (.int 2) .nil))) (.int 0)) (.var 3)) .nil)))
  (.cons (.ret (.tup (.cons (.call j__law_of (.cons (.var 0) (.cons (.tup (.cons (.int 0) (.cons (.int 0) (.cons (.int 0) (.cons (.int 1) (.cons (.int 2) .nil)))))) .nil))) (.cons (.var 2) .nil))))
  .nil))
def d__law_watch : DD := ⟨.g ("_law_watch" : Str), ("_law_watch" : Str), ("_law_watch" : Str), top 63, [("well" : Str), ("tower" : Str), ("looks" : Str), ("hour" : Str)], 2, [], [], false, false, ir__law_watch⟩
def ir__law_range : ISs :=
  (.cons (.par [(4, false), (5, false)] (.cons (.call j__law_need (.cons (.var 0) (.cons (.var 2) .nil))) (.cons (.bin .sub (.sub (.peek 0) (.int 0)) (.call j__law_doubt (.cons (.var 0) (.cons (.var 1) (.cons (.var 2) .nil))))) .nil)))
  (.cons (.asg (.nm 6) (.blt .max2 (.cons (.int 0) (.cons (.bin .add (.bin .sub (.var 4) (.var 3)) (.sub (.sub (.sub (.peek 0) (.int 1)) (.var 2)) (.int 1))) .nil))))
  (.cons (.asg (.nm 7) (.blt .min2 (.cons (.sub (.sub (.sub (.peek 0) (.int 1)) (.var 2)) (.int 2)) (.cons (.bin .add (.bin .sub (.var 5) (.var 3)) (.sub (.sub (.sub (.peek 0) (.int 1)) (.var 2)) (.int 1))) .nil))))
  (.cons (.ret (.ite (.cmp .le (.var 6) (.var 7)) (.tup (.cons (.var 6) (.cons (.var 7) .nil))) .non))
  .nil))))
def d__law_range : DD := ⟨.g ("_law_range" : Str), ("_law_range" : Str), ("_law_range" : Str), top 64, [("tower" : Str), ("watch" : Str), ("hour" : Str), ("least" : Str), ("need" : Str), ("room" : Str), ("low" : Str), ("high" : Str)], 4, [], [], false, false, ir__law_range⟩
def ir__law_least_level : ISs :=
  (.cons (.asg (.nm 4) (.blt .sum (.cons (.comp [5] (.nm 5) (.val (.cut (.sub (.peek 0) (.int 1)) true (.blt .len (.cons (.var 3) .nil)) true (.blt .len (.cons (.var 2) .nil)))) (.bl true) (.sub (.peek 5) (.int 1))) .nil)))
  (.cons (.ret (.bin .sub (.bin .sub (.bin .add (.var 1) (.blt .sum (.cons (.var 2) .nil))) (.blt .sum (.cons (.var 3) .nil))) (.var 4)))
  .nil))
def d__law_least_level : DD := ⟨.g ("_law_least_level" : Str), ("_law_least_level" : Str), ("_law_least_level" : Str), top 65, [("tower" : Str), ("start" : Str), ("pumped" : Str), ("known" : Str), ("most" : Str), ("row" : Str)], 4, [], [], false, false, ir__law_least_level⟩
def ir__law_kept_tower : ISs :=
  (.cons (.for (.nm 2) (.range1 (.int 60)) (.cons (.asg (.nm 3) (.call j__law_tower (.cons (.var 0) (.cons (.var 1) .nil))))
  (.cons (.par [(4, false), (5, false)] (.cons (.call j__law_watch (.cons (.var 0) (.cons (.var 3) .nil))) (.cons (.call j__law_draw (.cons (.var 0) (.cons (.bin .add (.sub (.peek 3) (.int 0)) (.int 1)) .nil))) .nil)))
  (.cons (.ite (.call j__law_can_keep (.cons (.var 3) (.cons (.var 4) (.cons (.var 5) .nil)))) (.cons (.ret (.tup (.cons (.var 3) (.cons (.var 4) (.cons (.var 5) .nil)))))
  .nil) .nil)
  .nil))))
  (.cons (.ret (.tup (.cons (.tup (.cons (.int 6) (.cons (.tup (.cons (.tup (.cons (.int 0) (.cons (.int 1) (.cons (.int 2) .nil)))) (.cons (.tup (.cons (.int 1) (.cons (.int 2) (.cons (.int 2) .nil)))) .nil))) .nil))) (.cons (.tup (.cons (.int 0) (.cons (.tup (.cons (.int 1) .nil)) .nil))) (.cons (.int 3) .nil)))))
  .nil))
def d__law_kept_tower : DD := ⟨.g ("_law_kept_tower" : Str), ("_law_kept_tower" : Str), ("_law_kept_tower" : Str), top 66, [("well" : Str), ("most" : Str), ("lap" : Str), ("tower" : Str), ("watch" : Str), ("start" : Str)], 2, [], [], false, false, ir__law_kept_tower⟩
def ir__law_fresh : ISs :=
  (.cons (.ret (.sh (.dict (.cons (.str ("tower" : Str)) (.cons (.var 0) (.cons (.str ("watch" : Str)) (.cons (.var 1) (.cons (.str ("start" : Str)) (.cons (.var 2) (.cons (.str ("uses" : Str)) (.cons (.tup .nil) (.cons (.str ("pumped" : Str)) (.cons (.tup .nil) .nil)))))))))))))
  .nil)
def d__law_fresh : DD := ⟨.g ("_law_fresh" : Str), ("_law_fresh" : Str), ("_law_fresh" : Str), top 67, [("tower" : Str), ("watch" : Str), ("start" : Str)], 3, [], [], true, false, ir__law_fresh⟩
def ir__law_at : ISs :=
  (.cons (.ret (.blt .len (.cons (.sub (.peek 0) (.str ("uses" : Str))) .nil)))
  .nil)
def d__law_at : DD := ⟨.g ("_law_at" : Str), ("_law_at" : Str), ("_law_at" : Str), top 68, [("own" : Str)], 1, [], [], false, false, ir__law_at⟩
def ir__law_told : ISs :=
  (.cons (.ret (.cut (.sub (.peek 0) (.str ("uses" : Str))) false .non true (.call j__law_known (.cons (.sub (.peek 0) (.str ("watch" : Str))) (.cons (.call j__law_at (.cons (.var 0) .nil)) .nil)))))
  .nil)
def d__law_told : DD := ⟨.g ("_law_told" : Str), ("_law_told" : Str), ("_law_told" : Str), top 69, [("own" : Str)], 1, [], [], false, false, ir__law_told⟩
def ir__law_may : ISs :=
  (.cons (.asg (.nm 1) (.call j__law_at (.cons (.var 0) .nil)))
  (.cons (.ite (.cmp .eq (.var 1) (.call j__law_hours (.cons (.sub (.peek 0) (.str ("tower" : Str))) .nil))) (.cons (.ret .non)
  .nil) .nil)
  (.cons (.asg (.nm 2) (.call j__law_least_level (.cons (.sub (.peek 0) (.str ("tower" : Str))) (.cons (.sub (.peek 0) (.str ("start" : Str))) (.cons (.cut (.sub (.peek 0) (.str ("pumped" : Str))) false .non true (.var 1)) (.cons (.call j__law_told (.cons (.var 0) .nil)) .nil))))))
  (.cons (.ret (.call j__law_range (.cons (.sub (.peek 0) (.str ("tower" : Str))) (.cons (.sub (.peek 0) (.str ("watch" : Str))) (.cons (.var 1) (.cons (.var 2) .nil))))))
  .nil))))
def d__law_may : DD := ⟨.g ("_law_may" : Str), ("_law_may" : Str), ("_law_may" : Str), top 70, [("own" : Str), ("hour" : Str), ("least" : Str)], 1, [], [], false, false, ir__law_may⟩
def ir__law_run : ISs :=
  (.cons (.par [(2, false), (3, false)] (.cons (.call j__law_at (.cons (.var 0) .nil)) (.cons (.call j__law_hours (.cons (.sub (.peek 0) (.str ("tower" : Str))) .nil)) .nil)))
  (.cons (.ite (.cmp .eq (.var 2) (.var 3)) (.cons (.ret (.lst (.cons (.str ("range" : Str)) (.cons (.var 3) .nil))))
  .nil) .nil)
  (.cons (.asg (.nm 4) (.cut (.sub (.peek 0) (.str ("pumped" : Str))) false .non true (.var 2)))
  (.cons (.ite (.cmp .eq (.sub (.peek 1) (.int 0)) (.str ("pump" : Str))) (.cons (.asg (.tp (.cons (.nm 5) (.cons (.nm 6) .nil))) (.call j__law_may (.cons (.var 0) .nil)))
  (.cons (.asg (.nm 7) (.ite (.cmp .eq (.sub (.peek 1) (.int 1)) (.str ("least" : Str))) (.var 5) (.ite (.cmp .eq (.sub (.peek 1) (.int 1)) (.str ("most" : Str))) (.var 6) (.sub (.peek 1) (.int 1)))))
  (.cons (.ite (.not (.cmp2 .le .le (.var 5) (.var 7) (.var 6))) (.cons (.ret (.lst (.cons (.str ("number" : Str)) (.cons (.var 7) .nil))))
  .nil) .nil)
  (.cons (.asg (.sb (.var 0) (.str ("pumped" : Str))) (.bin .add (.var 4) (.tup (.cons (.var 7) .nil))))
  (.cons (.ret (.lst (.cons (.str ("told" : Str)) (.cons (.ite (.cmp .eq (.var 7) (.sub (.peek 1) (.int 1))) .non (.var 7)) .nil))))
  .nil))))) .nil)
  (.cons (.asg (.tp (.cons (.nm 8) (.cons (.nm 9) (.cons (.nm 10) .nil)))) (.sub (.sub (.sub (.peek 0) (.str ("tower" : Str))) (.int 1)) (.var 2)))
  (.cons (.ite (.not (.cmp2 .le .le (.var 8) (.sub (.peek 1) (.int 1)) (.var 9))) (.cons (.ret (.lst (.cons (.str ("number" : Str)) (.cons (.sub (.peek 1) (.int 1)) .nil))))
  .nil) .nil)
  (.cons (.ite (.cmp .eq (.blt .len (.cons (.sub (.peek 0) (.str ("pumped" : Str))) .nil)) (.var 2)) (.cons (.ret (.lst (.cons (.str ("pumped" : Str)) (.cons .non .nil))))
  .nil) .nil)
  (.cons (.asg (.sb (.var 0) (.str ("uses" : Str))) (.bin .add (.sub (.peek 0) (.str ("uses" : Str))) (.tup (.cons (.sub (.peek 1) (.int 1)) .nil))))
  (.cons (.ret (.lst (.cons (.str ("told" : Str)) (.cons .non .nil))))
  .nil)))))))))
def d__law_run : DD := ⟨.g ("_law_run" : Str), ("_law_run" : Str), ("_law_run" : Str), top 71, [("own" : Str), ("deed" : Str), ("hour" : Str), ("many" : Str), ("past" : Str), ("low" : Str), ("high" : Str), ("number" : Str), ("least" : Str), ("most" : Str), ("pump" : Str)], 2, [], [], false, false, ir__law_run⟩
def ir__law_deed : ISs :=
  (.cons (.asg (.nm 2) (.call j__law_at (.cons (.var 1) .nil)))
  (.cons (.ite (.cmp .eq (.var 2) (.call j__law_hours (.cons (.sub (.peek 1) (.str ("tower" : Str))) .nil))) (.cons (.ret (.call j__law_of (.cons (.var 0) (.cons (.tup (.cons (.tup (.cons (.str ("pump" : Str)) (.cons (.int 1) .nil))) (.cons (.tup (.cons (.str ("use" : Str)) (.cons (.int 1) .nil))) (.cons (.tup (.cons (.str ("pump" : Str)) (.cons (.str ("least" : Str)) .nil))) (.cons (.tup (.cons (.str ("pump" : Str)) (.cons (.str ("most" : Str)) .nil))) .nil))))) .nil))))
  .nil) .nil)
  (.cons (.asg (.tp (.cons (.nm 3) (.cons (.nm 4) .nil))) (.call j__law_may (.cons (.var 1) .nil)))
  (.cons (.asg (.tp (.cons (.nm 5) (.cons (.nm 6) (.cons (.nm 7) .nil)))) (.sub (.sub (.sub (.peek 1) (.str ("tower" : Str))) (.int 1)) (.var 2)))
  (.cons (.ite (.or (.and (.cmp .eq (.blt .len (.cons (.sub (.peek 1) (.str ("pumped" : Str))) .nil)) (.var 2)) (.cmp .gt (.call j__law_draw (.cons (.var 0) (.cons (.int 9) .nil))) (.int 0))) (.cmp .eq (.call j__law_draw (.cons (.var 0) (.cons (.int 6) .nil))) (.int 0))) (.cons (.asg (.nm 8) (.tup (.cons (.str ("least" : Str)) (.cons (.str ("most" : Str)) (.cons (.var 3) (.cons (.var 4) (.cons (.bin .add (.var 3) (.call j__law_draw (.cons (.var 0) (.cons (.bin .add (.bin .sub (.var 4) (.var 3)) (.int 1)) .nil)))) .nil)))))))
  (.cons (.ret (.tup (.cons (.str ("pump" : Str)) (.cons (.ite (.cmp .gt (.call j__law_draw (.cons (.var 0) (.cons (.int 9) .nil))) (.int 0)) (.call j__law_of (.cons (.var 0) (.cons (.var 8) .nil))) (.call j__law_of (.cons (.var 0) (.cons (.tup (.cons (.bin .add (.var 4) (.int 1)) (.cons (.bin .add (.var 3) (.int 31)) .nil))) .nil)))) .nil))))
  .nil)) .nil)
  (.cons (.ret (.tup (.cons (.str ("use" : Str)) (.cons (.ite (.cmp .gt (.call j__law_draw (.cons (.var 0) (.cons (.int 9) .nil))) (.int 0)) (.bin .add (.var 5) (.call j__law_draw (.cons (.var 0) (.cons (.bin .add (.bin .sub (.var 6) (.var 5)) (.int 1)) .nil)))) (.bin .add (.var 6) (.int 1))) .nil))))
  .nil))))))
def d__law_deed : DD := ⟨.g ("_law_deed" : Str), ("_law_deed" : Str), ("_law_deed" : Str), top 72, [("well" : Str), ("own" : Str), ("hour" : Str), ("low" : Str), ("high" : Str), ("least" : Str), ("most" : Str), ("pump" : Str), ("some" : Str)], 2, [], [], false, false, ir__law_deed⟩
def ir__law_call : ISs :=
  (.cons (.ite (.cmp .eq (.sub (.peek 1) (.int 0)) (.str ("use" : Str))) (.cons (.ret (.meth (.var 0) ("use" : Str) [(0, j_Desk_use)] (.cons (.sub (.peek 1) (.int 1)) .nil)))
  .nil) .nil)
  (.cons (.ite (.cmp .isin (.sub (.peek 1) (.int 1)) (.tup (.cons (.str ("least" : Str)) (.cons (.str ("most" : Str)) .nil)))) (.cons (.ret (.ite (.cmp .eq (.sub (.peek 1) (.int 1)) (.str ("least" : Str))) (.meth (.var 0) ("pump_least" : Str) [(0, j_Desk_pump_least)] .nil) (.meth (.var 0) ("pump_most" : Str) [(0, j_Desk_pump_most)] .nil)))
  .nil) .nil)
  (.cons (.ret (.meth (.var 0) ("pump" : Str) [(0, j_Desk_pump)] (.cons (.sub (.peek 1) (.int 1)) .nil)))
  .nil)))
def d__law_call : DD := ⟨.g ("_law_call" : Str), ("_law_call" : Str), ("_law_call" : Str), top 73, [("desk" : Str), ("deed" : Str)], 2, [], [], false, false, ir__law_call⟩
def ir__law_came : ISs :=
  (.cons (.tryx (.cons (.ret (.lst (.cons (.str ("told" : Str)) (.cons (.callv 0 .nil) .nil))))
  .nil) [0, 1, 2] (some 1) (.cons (.asg (.nm 2) (.lst (.cons (.call EXI (.cons (.int 0) .nil)) (.cons (.call EXI (.cons (.int 1) .nil)) (.cons (.call EXI (.cons (.int 2) .nil)) .nil)))))
  (.cons (.ite (.or (.cmp .ne (.lcnt (.var 2) (.bl true)) (.int 1)) (.not (.call EXI (.cons (.int 0) (.cons (.int 1) (.cons (.int 2) .nil)))))) (.cons (.ret (.lst (.cons (.str ("odd" : Str)) (.cons .non .nil))))
  .nil) .nil)
  (.cons (.asg (.nm 3) (.lidx (.var 2) (.bl true)))
  (.cons (.ret (.lst (.cons (.sub (.lst (.cons (.str ("number" : Str)) (.cons (.str ("range" : Str)) (.cons (.str ("pumped" : Str)) .nil)))) (.var 3)) (.cons (.ite (.cmp .lt (.var 3) (.int 2)) (.call EXF (.cons (.str ("given" : Str)) .nil)) .non) .nil))))
  .nil)))))
  .nil)
def d__law_came : DD := ⟨.g ("_law_came" : Str), ("_law_came" : Str), ("_law_came" : Str), top 74, [("act" : Str), ("e" : Str), ("sorts" : Str), ("at" : Str)], 1, [], [], false, false, ir__law_came⟩
def ir__law_step : ISs :=
  (.cons (.asg (.nm 3) (.call j__law_run (.cons (.var 1) (.cons (.var 2) .nil))))
  (.cons (.asg (.nm 4) (.call j__law_came (.cons (.lam l__law_step_0 [2, 0]) .nil)))
  (.cons (.ret (.and (.cmp .eq (.sub (.peek 4) (.int 0)) (.sub (.peek 3) (.int 0))) (.call j__law_same (.cons (.sub (.peek 4) (.int 1)) (.cons (.sub (.peek 3) (.int 1)) .nil)))))
  .nil)))
def d__law_step : DD := ⟨.g ("_law_step" : Str), ("_law_step" : Str), ("_law_step" : Str), top 75, [("desk" : Str), ("own" : Str), ("deed" : Str), ("due" : Str), ("came" : Str)], 3, [], [((332, 21), 75)], false, false, ir__law_step⟩
def ir__law_is_shown : ISs :=
  (.cons (.asg (.nm 2) (.tup (.cons (.prop (.var 0) [(0, j_Desk_tower)]) (.cons (.prop (.var 0) [(0, j_Desk_watch)]) (.cons (.prop (.var 0) [(0, j_Desk_hour)]) (.cons (.prop (.var 0) [(0, j_Desk_pumped)]) (.cons (.prop (.var 0) [(0, j_Desk_known_uses)]) .nil)))))))
  (.cons (.ret (.call j__law_same (.cons (.var 2) (.cons (.tup (.cons (.sub (.peek 1) (.str ("tower" : Str))) (.cons (.sub (.peek 1) (.str ("watch" : Str))) (.cons (.call j__law_at (.cons (.var 1) .nil)) (.cons (.sub (.peek 1) (.str ("pumped" : Str))) (.cons (.call j__law_told (.cons (.var 1) .nil)) .nil)))))) .nil))))
  .nil))
def d__law_is_shown : DD := ⟨.g ("_law_is_shown" : Str), ("_law_is_shown" : Str), ("_law_is_shown" : Str), top 76, [("desk" : Str), ("own" : Str), ("told" : Str)], 2, [], [], false, false, ir__law_is_shown⟩
def ir__law_level : ISs :=
  (.cons (.ret (.bin .sub (.bin .add (.sub (.peek 0) (.str ("start" : Str))) (.blt .sum (.cons (.cut (.sub (.peek 0) (.str ("pumped" : Str))) false .non true (.call j__law_at (.cons (.var 0) .nil))) .nil))) (.blt .sum (.cons (.sub (.peek 0) (.str ("uses" : Str))) .nil))))
  .nil)
def d__law_level : DD := ⟨.g ("_law_level" : Str), ("_law_level" : Str), ("_law_level" : Str), top 77, [("own" : Str)], 1, [], [], false, false, ir__law_level⟩
def ir__law_right : ISs :=
  (.cons (.asg (.tp (.cons (.nm 1) (.cons (.nm 2) (.cons (.nm 3) .nil)))) (.call j__law_kept_tower (.cons (.var 0) (.cons (.int 5) .nil))))
  (.cons (.par [(4, false), (5, false)] (.cons (.call j__law_fresh (.cons (.var 1) (.cons (.var 2) (.cons (.var 3) .nil)))) (.cons (.new 0 j_Desk_init (.cons (.var 1) (.cons (.var 2) (.cons (.var 3) .nil)))) .nil)))
  (.cons (.ite (.not (.and (.cmpo false (.var 5) (.var 5)) (.and (.cmpo true (.var 5) (.new 0 j_Desk_init (.cons (.var 1) (.cons (.var 2) (.cons (.var 3) .nil))))) (.isB false (.bool (.var 5)) true)))) (.cons (.ret (.bl false))
  .nil) .nil)
  (.cons (.for (.nm 6) (.range1 (.int 15)) (.cons (.ite (.or (.not (.call j__law_step (.cons (.var 5) (.cons (.var 4) (.cons (.call j__law_deed (.cons (.var 0) (.cons (.var 4) .nil))) .nil))))) (.not (.call j__law_is_shown (.cons (.var 5) (.cons (.var 4) .nil))))) (.cons (.ret (.bl false))
  .nil) .nil)
  (.cons (.ite (.not (.cmp2 .le .le (.int 0) (.call j__law_level (.cons (.var 4) .nil)) (.sub (.peek 1) (.int 0)))) (.cons (.ret (.bl false))
  .nil) .nil)
  .nil)))
  (.cons (.par [(5, false), (4, false)] (.cons (.new 0 j_Desk_init (.cons (.var 1) (.cons (.var 2) (.cons (.var 3) .nil)))) (.cons (.call j__law_fresh (.cons (.var 1) (.cons (.var 2) (.cons (.var 3) .nil)))) .nil)))
  (.cons (.par [(7, false), (8, false)] (.cons (.sub (.call j__law_may (.cons (.var 4) .nil)) (.int 0)) (.cons (.sub (.sub (.sub (.peek 1) (.int 1)) (.int 0)) (.int 1)) .nil)))
  (.cons (.asgO 9 (.lst (.cons (.lst (.cons (.tup (.cons (.str ("pump" : Str)) (.cons (.var 7) .nil))) (.cons (.lam l__law_right_0 [5, 7]) .nil))) .nil)))
  (.cons (.app 9 (.lst (.cons (.tup (.cons (.str ("use" : Str)) (.cons (.var 8) .nil))) (.cons (.lam l__law_right_1 [5, 8]) .nil))))
  (.cons (.frz 9)
  (.cons (.for (.tp (.cons (.nm 10) (.cons (.nm 11) .nil))) (.val (.var 9)) (.cons (.asg (.nm 12) (.call j__law_run (.cons (.var 4) (.cons (.var 10) .nil))))
  (.cons (.asg (.nm 13) (.call j__law_came (.cons (.var 11) .nil)))
  (.cons (.ite (.or (.cmpo true (.sub (.peek 13) (.int 0)) (.sub (.peek 12) (.int 0))) (.or (.not (.call j__law_same (.cons (.sub (.peek 13) (.int 1)) (.cons (.sub (.peek 12) (.int 1)) .nil)))) (.not (.call j__law_is_shown (.cons (.var 5) (.cons (.var 4) .nil)))))) (.cons (.ret (.bl false))
  .nil) .nil)
  .nil))))
  (.cons (.ret (.bl true))
  .nil)))))))))))
def d__law_right : DD := ⟨.g ("_law_right" : Str), ("_law_right" : Str), ("_law_right" : Str), top 78, [("well" : Str), ("tower" : Str), ("watch" : Str), ("start" : Str), ("own" : Str), ("desk" : Str), ("lap" : Str), ("low" : Str), ("use" : Str), ("rows" : Str), ("deed" : Str), ("act" : Str), ("due" : Str), ("came" : Str)], 1, [9], [((351, 28), 76), ((352, 31), 77)], false, true, ir__law_right⟩
def ir_law : ISs :=
  (.cons (.asg (.nm 1) (.comp [2] (.nm 2) (.range1 (.int 2)) (.bl true) (.call j__law_well (.cons (.var 0) (.cons (.var 2) .nil)))))
  (.cons (.ret (.blt .all (.cons (.comp [3] (.nm 3) (.range1 (.int 16)) (.bl true) (.call j__law_right (.cons (.sub (.peek 1) (.bin .mod (.blt .int (.cons (.var 3) .nil)) (.int 2))) .nil))) .nil)))
  .nil))
def d_law : DD := ⟨.g ("law" : Str), ("law" : Str), ("law" : Str), top 79, [("script" : Str), ("wells" : Str), ("lap" : Str), ("k" : Str)], 1, [], [], false, false, ir_law⟩
def ir_Desk_init : ISs :=
  (.cons (.expr (.call j_check_watched (.cons (.var 1) (.cons (.var 2) (.cons (.var 3) .nil)))))
  (.cons (.ite (.not (.call j_is_kept_by (.cons (.var 1) (.cons (.var 2) (.cons (.var 3) .nil))))) (.cons .stuck
  .nil) .nil)
  (.cons (.fput (.var 0) [0] ("own_tower" : Str) (.var 1))
  (.cons (.fput (.var 0) [0] ("own_watch" : Str) (.var 2))
  (.cons (.fput (.var 0) [0] ("start" : Str) (.var 3))
  (.cons (.fput (.var 0) [0] ("filled" : Str) (.tup .nil))
  (.cons (.fput (.var 0) [0] ("told" : Str) (.tup .nil))
  (.cons (.fput (.var 0) [0] ("taken" : Str) (.tup .nil))
  .nil))))))))
def d_Desk_init : DD := ⟨.m ("Desk" : Str) ("__init__" : Str), ("__init__" : Str), ("Desk.__init__" : Str), mth 49 0, [("self" : Str), ("tower" : Str), ("watch" : Str), ("start" : Str)], 4, [], [], false, false, ir_Desk_init⟩
def ir_Desk_tower : ISs :=
  (.cons (.ret (.fld (.var 0) [0] ("own_tower" : Str)))
  .nil)
def d_Desk_tower : DD := ⟨.p ("Desk" : Str) ("tower" : Str), ("tower" : Str), ("Desk.tower" : Str), mth 49 1, [("self" : Str)], 1, [], [], false, false, ir_Desk_tower⟩
def ir_Desk_watch : ISs :=
  (.cons (.ret (.fld (.var 0) [0] ("own_watch" : Str)))
  .nil)
def d_Desk_watch : DD := ⟨.p ("Desk" : Str) ("watch" : Str), ("watch" : Str), ("Desk.watch" : Str), mth 49 2, [("self" : Str)], 1, [], [], false, false, ir_Desk_watch⟩
def ir_Desk_hour : ISs :=
  (.cons (.ret (.blt .len (.cons (.fld (.var 0) [0] ("taken" : Str)) .nil)))
  .nil)
def d_Desk_hour : DD := ⟨.p ("Desk" : Str) ("hour" : Str), ("hour" : Str), ("Desk.hour" : Str), mth 49 3, [("self" : Str)], 1, [], [], false, false, ir_Desk_hour⟩
def ir_Desk_pumped : ISs :=
  (.cons (.ret (.bin .add (.fld (.var 0) [0] ("filled" : Str)) (.fld (.var 0) [0] ("told" : Str))))
  .nil)
def d_Desk_pumped : DD := ⟨.p ("Desk" : Str) ("pumped" : Str), ("pumped" : Str), ("Desk.pumped" : Str), mth 49 4, [("self" : Str)], 1, [], [], false, false, ir_Desk_pumped⟩
def ir_Desk_known_uses : ISs :=
  (.cons (.ret (.cut (.fld (.var 0) [0] ("taken" : Str)) false .non true (.call j_known_by (.cons (.fld (.var 0) [0] ("own_watch" : Str)) (.cons (.prop (.var 0) [(0, j_Desk_hour)]) .nil)))))
  .nil)
def d_Desk_known_uses : DD := ⟨.p ("Desk" : Str) ("known_uses" : Str), ("known_uses" : Str), ("Desk.known_uses" : Str), mth 49 5, [("self" : Str)], 1, [], [], false, false, ir_Desk_known_uses⟩
def ir_Desk_check_left : ISs :=
  (.cons (.asg (.nm 1) (.blt .len (.cons (.sub (.fld (.var 0) [0] ("own_tower" : Str)) (.int 1)) .nil)))
  (.cons (.ite (.cmp .eq (.prop (.var 0) [(0, j_Desk_hour)]) (.var 1)) (.cons (.raise 1 [("given" : Str)] (.cons (.var 1) .nil))
  .nil) .nil)
  .nil))
def d_Desk_check_left : DD := ⟨.m ("Desk" : Str) ("check_left" : Str), ("check_left" : Str), ("Desk.check_left" : Str), mth 49 6, [("self" : Str), ("many" : Str)], 1, [], [], false, false, ir_Desk_check_left⟩
def ir_Desk_span_now : ISs :=
  (.cons (.ret (.sub (.call j_range_next (.cons (.fld (.var 0) [0] ("own_tower" : Str)) (.cons (.fld (.var 0) [0] ("own_watch" : Str)) (.cons (.fld (.var 0) [0] ("start" : Str)) (.cons (.fld (.var 0) [0] ("filled" : Str)) (.cons (.fld (.var 0) [0] ("taken" : Str)) .nil)))))) (.int 0)))
  .nil)
def d_Desk_span_now : DD := ⟨.m ("Desk" : Str) ("span_now" : Str), ("span_now" : Str), ("Desk.span_now" : Str), mth 49 7, [("self" : Str)], 1, [], [], false, false, ir_Desk_span_now⟩
def ir_Desk_pump : ISs :=
  (.cons (.expr (.meth (.var 0) ("check_left" : Str) [(0, j_Desk_check_left)] .nil))
  (.cons (.asg (.tp (.cons (.nm 2) (.cons (.nm 3) .nil))) (.meth (.var 0) ("span_now" : Str) [(0, j_Desk_span_now)] .nil))
  (.cons (.expr (.call j_check_number (.cons (.var 1) (.cons (.var 2) (.cons (.var 3) .nil)))))
  (.cons (.fput (.var 0) [0] ("told" : Str) (.tup (.cons (.var 1) .nil)))
  .nil))))
def d_Desk_pump : DD := ⟨.m ("Desk" : Str) ("pump" : Str), ("pump" : Str), ("Desk.pump" : Str), mth 49 8, [("self" : Str), ("number" : Str), ("least" : Str), ("most" : Str)], 2, [], [], false, false, ir_Desk_pump⟩
def ir_Desk_pump_least : ISs :=
  (.cons (.expr (.meth (.var 0) ("check_left" : Str) [(0, j_Desk_check_left)] .nil))
  (.cons (.fput (.var 0) [0] ("told" : Str) (.cut (.meth (.var 0) ("span_now" : Str) [(0, j_Desk_span_now)] .nil) false .non true (.int 1)))
  (.cons (.ret (.sub (.fld (.var 0) [0] ("told" : Str)) (.int 0)))
  .nil)))
def d_Desk_pump_least : DD := ⟨.m ("Desk" : Str) ("pump_least" : Str), ("pump_least" : Str), ("Desk.pump_least" : Str), mth 49 9, [("self" : Str)], 1, [], [], false, false, ir_Desk_pump_least⟩
def ir_Desk_pump_most : ISs :=
  (.cons (.expr (.meth (.var 0) ("check_left" : Str) [(0, j_Desk_check_left)] .nil))
  (.cons (.fput (.var 0) [0] ("told" : Str) (.cut (.meth (.var 0) ("span_now" : Str) [(0, j_Desk_span_now)] .nil) true (.int 1) false .non))
  (.cons (.ret (.sub (.fld (.var 0) [0] ("told" : Str)) (.int 0)))
  .nil)))
def d_Desk_pump_most : DD := ⟨.m ("Desk" : Str) ("pump_most" : Str), ("pump_most" : Str), ("Desk.pump_most" : Str), mth 49 10, [("self" : Str)], 1, [], [], false, false, ir_Desk_pump_most⟩
def ir_Desk_use : ISs :=
  (.cons (.expr (.meth (.var 0) ("check_left" : Str) [(0, j_Desk_check_left)] .nil))
  (.cons (.asg (.tp (.cons (.nm 2) (.cons (.nm 3) (.cons (.nm 4) .nil)))) (.sub (.sub (.fld (.var 0) [0] ("own_tower" : Str)) (.int 1)) (.prop (.var 0) [(0, j_Desk_hour)])))
  (.cons (.expr (.call j_check_number (.cons (.var 1) (.cons (.var 2) (.cons (.var 3) .nil)))))
  (.cons (.ite (.cmp .eq (.fld (.var 0) [0] ("told" : Str)) (.tup .nil)) (.cons (.raise 2 [] .nil)
  .nil) .nil)
  (.cons (.fput (.var 0) [0] ("filled" : Str) (.bin .add (.fld (.var 0) [0] ("filled" : Str)) (.fld (.var 0) [0] ("told" : Str))))
  (.cons (.fput (.var 0) [0] ("told" : Str) (.tup .nil))
  (.cons (.fput (.var 0) [0] ("taken" : Str) (.tupS (.fld (.var 0) [0] ("taken" : Str)) (.cons (.var 1) .nil)))
  .nil)))))))
def d_Desk_use : DD := ⟨.m ("Desk" : Str) ("use" : Str), ("use" : Str), ("Desk.use" : Str), mth 49 11, [("self" : Str), ("number" : Str), ("least" : Str), ("most" : Str), ("_" : Str)], 2, [], [], false, false, ir_Desk_use⟩
def ir_Desk_level : ISs :=
  (.cons (.ret (.bin .sub (.bin .add (.fld (.var 0) [0] ("start" : Str)) (.blt .sum (.cons (.fld (.var 0) [0] ("filled" : Str)) .nil))) (.blt .sum (.cons (.fld (.var 0) [0] ("taken" : Str)) .nil))))
  .nil)
def d_Desk_level : DD := ⟨.m ("Desk" : Str) ("level" : Str), ("level" : Str), ("Desk.level" : Str), mth 49 13, [("self" : Str)], 1, [], [], false, false, ir_Desk_level⟩
def ir_Desk_doubt : ISs :=
  (.cons (.ret (.blt .sum (.cons (.cut (.call j_widths_of (.cons (.fld (.var 0) [0] ("own_tower" : Str)) .nil)) true (.call j_known_by (.cons (.fld (.var 0) [0] ("own_watch" : Str)) (.cons (.prop (.var 0) [(0, j_Desk_hour)]) .nil))) true (.prop (.var 0) [(0, j_Desk_hour)])) .nil)))
  .nil)
def d_Desk_doubt : DD := ⟨.m ("Desk" : Str) ("doubt" : Str), ("doubt" : Str), ("Desk.doubt" : Str), mth 49 14, [("self" : Str)], 1, [], [], false, false, ir_Desk_doubt⟩
def el_is_tower_form_0 : IE := (.call j_is_hour_form (.cons (.var 0) .nil))
def dl_is_tower_form_0 : LD := ⟨73, [("each" : Str), ("_" : Str)], el_is_tower_form_0⟩
def el_wrong_looks_0 : IE := (.and (.call j_is_number (.cons (.var 0) (.cons (.int 0) (.cons (.bin .sub (.var 2) (.int 1)) .nil)))) (.call j_is_above_last (.cons (.var 0) (.cons (.var 1) .nil))))
def dl_wrong_looks_0 : LD := ⟨74, [("each" : Str), ("before" : Str), ("many" : Str)], el_wrong_looks_0⟩
def el__law_step_0 : IE := (.call j__law_call (.cons (.var 1) (.cons (.var 0) .nil)))
def dl__law_step_0 : LD := ⟨75, [("deed" : Str), ("desk" : Str)], el__law_step_0⟩
def el__law_right_0 : IE := (.meth (.var 0) ("pump" : Str) [(0, j_Desk_pump)] (.cons (.var 1) .nil))
def dl__law_right_0 : LD := ⟨76, [("desk" : Str), ("low" : Str)], el__law_right_0⟩
def el__law_right_1 : IE := (.meth (.var 0) ("use" : Str) [(0, j_Desk_use)] (.cons (.var 1) .nil))
def dl__law_right_1 : LD := ⟨77, [("desk" : Str), ("use" : Str)], el__law_right_1⟩
def tdt : TD := ⟨[d_is_whole, d_is_number, d_is_tuple_of, d_wrong_at, d_wrong_from_one, d_is_above_last, d_is_hour_form, d_is_tower_form, d_widths_of, d_mosts_of, d_pumps_of, d_wrong_looks, d_is_watch_of, d_known_by, d_doubts_of, d_lacks_behind, d_need_of, d_needs_of, d_spare_of, d_do_fit_hours, d_is_kept_by, d_stretches_of, d_level_known, d_range_next, d_check_number, d_check_tower, d_check_start_of, d_check_watch_of, d_check_watch, d_check_watched, d__law_well, d__law_draw, d__law_of, d__law_same, d__law_tower, d__law_hours, d__law_width, d__law_need, d__law_known, d__law_doubt, d__law_too_much, d__law_can_keep, d__law_watch, d__law_range, d__law_least_level, d__law_kept_tower, d__law_fresh, d__law_at, d__law_told, d__law_may, d__law_run, d__law_deed, d__law_call, d__law_came, d__law_step, d__law_is_shown, d__law_level, d__law_right, d_law, d_Desk_init, d_Desk_tower, d_Desk_watch, d_Desk_hour, d_Desk_pumped, d_Desk_known_uses, d_Desk_check_left, d_Desk_span_now, d_Desk_pump, d_Desk_pump_least, d_Desk_pump_most, d_Desk_use, d_Desk_level, d_Desk_doubt], [dl_is_tower_form_0, dl_wrong_looks_0, dl__law_step_0, dl__law_right_0, dl__law_right_1], csL, blL, kwL, ctL, xsL, xfL, sbN⟩
def lnpL : List Nat := [2, 3, 2, 2, 2]
theorem ok_is_whole : DDok tdt d_is_whole := ⟨by kernel_rfl, ⟨rfl, rfl, rfl, by decide +kernel, by decide +kernel, by decide +kernel, by decide +kernel⟩, by decide, by decide +kernel, by decide +kernel⟩
theorem ok_is_number : DDok tdt d_is_number := ⟨by kernel_rfl, ⟨rfl, rfl, rfl, by decide +kernel, by decide +kernel, by decide +kernel, by decide +kernel⟩, by decide, by decide +kernel, by decide +kernel⟩
theorem ok_is_tuple_of : DDok tdt d_is_tuple_of := ⟨by kernel_rfl, ⟨rfl, rfl, rfl, by decide +kernel, by decide +kernel, by decide +kernel, by decide +kernel⟩, by decide, by decide +kernel, by decide +kernel⟩
theorem ok_wrong_at : DDok tdt d_wrong_at := ⟨by kernel_rfl, ⟨rfl, rfl, rfl, by decide +kernel, by decide +kernel, by decide +kernel, by decide +kernel⟩, by decide, by decide +kernel, by decide +kernel⟩
theorem ok_wrong_from_one : DDok tdt d_wrong_from_one := ⟨by kernel_rfl, ⟨rfl, rfl, rfl, by decide +kernel, by decide +kernel, by decide +kernel, by decide +kernel⟩, by decide, by decide +kernel, by decide +kernel⟩
theorem ok_is_above_last : DDok tdt d_is_above_last := ⟨by kernel_rfl, ⟨rfl, rfl, rfl, by decide +kernel, by decide +kernel, by decide +kernel, by decide +kernel⟩, by decide, by decide +kernel, by decide +kernel⟩
theorem ok_is_hour_form : DDok tdt d_is_hour_form := ⟨by kernel_rfl, ⟨rfl, rfl, rfl, by decide +kernel, by decide +kernel, by decide +kernel, by decide +kernel⟩, by decide, by decide +kernel, by decide +kernel⟩
theorem ok_is_tower_form : DDok tdt d_is_tower_form := ⟨by kernel_rfl, ⟨rfl, rfl, rfl, by decide +kernel, by decide +kernel, by decide +kernel, by decide +kernel⟩, by decide, by decide +kernel, by decide +kernel⟩
theorem ok_widths_of : DDok tdt d_widths_of := ⟨by kernel_rfl, ⟨rfl, rfl, rfl, by decide +kernel, by decide +kernel, by decide +kernel, by decide +kernel⟩, by decide, by decide +kernel, by decide +kernel⟩
theorem ok_mosts_of : DDok tdt d_mosts_of := ⟨by kernel_rfl, ⟨rfl, rfl, rfl, by decide +kernel, by decide +kernel, by decide +kernel, by decide +kernel⟩, by decide, by decide +kernel, by decide +kernel⟩
theorem ok_pumps_of : DDok tdt d_pumps_of := ⟨by kernel_rfl, ⟨rfl, rfl, rfl, by decide +kernel, by decide +kernel, by decide +kernel, by decide +kernel⟩, by decide, by decide +kernel, by decide +kernel⟩
theorem ok_wrong_looks : DDok tdt d_wrong_looks := ⟨by kernel_rfl, ⟨rfl, rfl, rfl, by decide +kernel, by decide +kernel, by decide +kernel, by decide +kernel⟩, by decide, by decide +kernel, by decide +kernel⟩
theorem ok_is_watch_of : DDok tdt d_is_watch_of := ⟨by kernel_rfl, ⟨rfl, rfl, rfl, by decide +kernel, by decide +kernel, by decide +kernel, by decide +kernel⟩, by decide, by decide +kernel, by decide +kernel⟩
theorem ok_known_by : DDok tdt d_known_by := ⟨by kernel_rfl, ⟨rfl, rfl, rfl, by decide +kernel, by decide +kernel, by decide +kernel, by decide +kernel⟩, by decide, by decide +kernel, by decide +kernel⟩
theorem ok_doubts_of : DDok tdt d_doubts_of := ⟨by kernel_rfl, ⟨rfl, rfl, rfl, by decide +kernel, by decide +kernel, by decide +kernel, by decide +kernel⟩, by decide, by decide +kernel, by decide +kernel⟩
theorem ok_lacks_behind : DDok tdt d_lacks_behind := ⟨by kernel_rfl, ⟨rfl, rfl, rfl, by decide +kernel, by decide +kernel, by decide +kernel, by decide +kernel⟩, by decide, by decide +kernel, by decide +kernel⟩
theorem ok_need_of : DDok tdt d_need_of := ⟨by kernel_rfl, ⟨rfl, rfl, rfl, by decide +kernel, by decide +kernel, by decide +kernel, by decide +kernel⟩, by decide, by decide +kernel, by decide +kernel⟩
theorem ok_needs_of : DDok tdt d_needs_of := ⟨by kernel_rfl, ⟨rfl, rfl, rfl, by decide +kernel, by decide +kernel, by decide +kernel, by decide +kernel⟩, by decide, by decide +kernel, by decide +kernel⟩
theorem ok_spare_of : DDok tdt d_spare_of := ⟨by kernel_rfl, ⟨rfl, rfl, rfl, by decide +kernel, by decide +kernel, by decide +kernel, by decide +kernel⟩, by decide, by decide +kernel, by decide +kernel⟩
theorem ok_do_fit_hours : DDok tdt d_do_fit_hours := ⟨by kernel_rfl, ⟨rfl, rfl, rfl, by decide +kernel, by decide +kernel, by decide +kernel, by decide +kernel⟩, by decide, by decide +kernel, by decide +kernel⟩
theorem ok_is_kept_by : DDok tdt d_is_kept_by := ⟨by kernel_rfl, ⟨rfl, rfl, rfl, by decide +kernel, by decide +kernel, by decide +kernel, by decide +kernel⟩, by decide, by decide +kernel, by decide +kernel⟩
theorem ok_stretches_of : DDok tdt d_stretches_of := ⟨by kernel_rfl, ⟨rfl, rfl, rfl, by decide +kernel, by decide +kernel, by decide +kernel, by decide +kernel⟩, by decide, by decide +kernel, by decide +kernel⟩
theorem ok_level_known : DDok tdt d_level_known := ⟨by kernel_rfl, ⟨rfl, rfl, rfl, by decide +kernel, by decide +kernel, by decide +kernel, by decide +kernel⟩, by decide, by decide +kernel, by decide +kernel⟩
theorem ok_range_next : DDok tdt d_range_next := ⟨by kernel_rfl, ⟨rfl, rfl, rfl, by decide +kernel, by decide +kernel, by decide +kernel, by decide +kernel⟩, by decide, by decide +kernel, by decide +kernel⟩
theorem ok_check_number : DDok tdt d_check_number := ⟨by kernel_rfl, ⟨rfl, rfl, rfl, by decide +kernel, by decide +kernel, by decide +kernel, by decide +kernel⟩, by decide, by decide +kernel, by decide +kernel⟩
theorem ok_check_tower : DDok tdt d_check_tower := ⟨by kernel_rfl, ⟨rfl, rfl, rfl, by decide +kernel, by decide +kernel, by decide +kernel, by decide +kernel⟩, by decide, by decide +kernel, by decide +kernel⟩
theorem ok_check_start_of : DDok tdt d_check_start_of := ⟨by kernel_rfl, ⟨rfl, rfl, rfl, by decide +kernel, by decide +kernel, by decide +kernel, by decide +kernel⟩, by decide, by decide +kernel, by decide +kernel⟩
theorem ok_check_watch_of : DDok tdt d_check_watch_of := ⟨by kernel_rfl, ⟨rfl, rfl, rfl, by decide +kernel, by decide +kernel, by decide +kernel, by decide +kernel⟩, by decide, by decide +kernel, by decide +kernel⟩
theorem ok_check_watch : DDok tdt d_check_watch := ⟨by kernel_rfl, ⟨rfl, rfl, rfl, by decide +kernel, by decide +kernel, by decide +kernel, by decide +kernel⟩, by decide, by decide +kernel, by decide +kernel⟩
theorem ok_check_watched : DDok tdt d_check_watched := ⟨by kernel_rfl, ⟨rfl, rfl, rfl, by decide +kernel, by decide +kernel, by decide +kernel, by decide +kernel⟩, by decide, by decide +kernel, by decide +kernel⟩
theorem ok__law_well : DDok tdt d__law_well := ⟨by kernel_rfl, ⟨rfl, rfl, rfl, by decide +kernel, by decide +kernel, by decide +kernel, by decide +kernel⟩, by decide, by decide +kernel, by decide +kernel⟩
theorem ok__law_draw : DDok tdt d__law_draw := ⟨by kernel_rfl, ⟨rfl, rfl, rfl, by decide +kernel, by decide +kernel, by decide +kernel, by decide +kernel⟩, by decide, by decide +kernel, by decide +kernel⟩
theorem ok__law_of : DDok tdt d__law_of := ⟨by kernel_rfl, ⟨rfl, rfl, rfl, by decide +kernel, by decide +kernel, by decide +kernel, by decide +kernel⟩, by decide, by decide +kernel, by decide +kernel⟩
theorem ok__law_same : DDok tdt d__law_same := ⟨by kernel_rfl, ⟨rfl, rfl, rfl, by decide +kernel, by decide +kernel, by decide +kernel, by decide +kernel⟩, by decide, by decide +kernel, by decide +kernel⟩
theorem ok__law_tower : DDok tdt d__law_tower := ⟨by kernel_rfl, ⟨rfl, rfl, rfl, by decide +kernel, by decide +kernel, by decide +kernel, by decide +kernel⟩, by decide, by decide +kernel, by decide +kernel⟩
theorem ok__law_hours : DDok tdt d__law_hours := ⟨by kernel_rfl, ⟨rfl, rfl, rfl, by decide +kernel, by decide +kernel, by decide +kernel, by decide +kernel⟩, by decide, by decide +kernel, by decide +kernel⟩
theorem ok__law_width : DDok tdt d__law_width := ⟨by kernel_rfl, ⟨rfl, rfl, rfl, by decide +kernel, by decide +kernel, by decide +kernel, by decide +kernel⟩, by decide, by decide +kernel, by decide +kernel⟩
theorem ok__law_need : DDok tdt d__law_need := ⟨by kernel_rfl, ⟨rfl, rfl, rfl, by decide +kernel, by decide +kernel, by decide +kernel, by decide +kernel⟩, by decide, by decide +kernel, by decide +kernel⟩
theorem ok__law_known : DDok tdt d__law_known := ⟨by kernel_rfl, ⟨rfl, rfl, rfl, by decide +kernel, by decide +kernel, by decide +kernel, by decide +kernel⟩, by decide, by decide +kernel, by decide +kernel⟩
theorem ok__law_doubt : DDok tdt d__law_doubt := ⟨by kernel_rfl, ⟨rfl, rfl, rfl, by decide +kernel, by decide +kernel, by decide +kernel, by decide +kernel⟩, by decide, by decide +kernel, by decide +kernel⟩
theorem ok__law_too_much : DDok tdt d__law_too_much := ⟨by kernel_rfl, ⟨rfl, rfl, rfl, by decide +kernel, by decide +kernel, by decide +kernel, by decide +kernel⟩, by decide, by decide +kernel, by decide +kernel⟩
theorem ok__law_can_keep : DDok tdt d__law_can_keep := ⟨by kernel_rfl, ⟨rfl, rfl, rfl, by decide +kernel, by decide +kernel, by decide +kernel, by decide +kernel⟩, by decide, by decide +kernel, by decide +kernel⟩
theorem ok__law_watch : DDok tdt d__law_watch := ⟨by kernel_rfl, ⟨rfl, rfl, rfl, by decide +kernel, by decide +kernel, by decide +kernel, by decide +kernel⟩, by decide, by decide +kernel, by decide +kernel⟩
theorem ok__law_range : DDok tdt d__law_range := ⟨by kernel_rfl, ⟨rfl, rfl, rfl, by decide +kernel, by decide +kernel, by decide +kernel, by decide +kernel⟩, by decide, by decide +kernel, by decide +kernel⟩
theorem ok__law_least_level : DDok tdt d__law_least_level := ⟨by kernel_rfl, ⟨rfl, rfl, rfl, by decide +kernel, by decide +kernel, by decide +kernel, by decide +kernel⟩, by decide, by decide +kernel, by decide +kernel⟩
theorem ok__law_kept_tower : DDok tdt d__law_kept_tower := ⟨by kernel_rfl, ⟨rfl, rfl, rfl, by decide +kernel, by decide +kernel, by decide +kernel, by decide +kernel⟩, by decide, by decide +kernel, by decide +kernel⟩
theorem ok__law_fresh : DDok tdt d__law_fresh := ⟨by kernel_rfl, ⟨rfl, rfl, rfl, by decide +kernel, by decide +kernel, by decide +kernel, by decide +kernel⟩, by decide, by decide +kernel, by decide +kernel⟩
theorem ok__law_at : DDok tdt d__law_at := ⟨by kernel_rfl, ⟨rfl, rfl, rfl, by decide +kernel, by decide +kernel, by decide +kernel, by decide +kernel⟩, by decide, by decide +kernel, by decide +kernel⟩
theorem ok__law_told : DDok tdt d__law_told := ⟨by kernel_rfl, ⟨rfl, rfl, rfl, by decide +kernel, by decide +kernel, by decide +kernel, by decide +kernel⟩, by decide, by decide +kernel, by decide +kernel⟩
theorem ok__law_may : DDok tdt d__law_may := ⟨by kernel_rfl, ⟨rfl, rfl, rfl, by decide +kernel, by decide +kernel, by decide +kernel, by decide +kernel⟩, by decide, by decide +kernel, by decide +kernel⟩
theorem ok__law_run : DDok tdt d__law_run := ⟨by kernel_rfl, ⟨rfl, rfl, rfl, by decide +kernel, by decide +kernel, by decide +kernel, by decide +kernel⟩, by decide, by decide +kernel, by decide +kernel⟩
theorem ok__law_deed : DDok tdt d__law_deed := ⟨by kernel_rfl, ⟨rfl, rfl, rfl, by decide +kernel, by decide +kernel, by decide +kernel, by decide +kernel⟩, by decide, by decide +kernel, by decide +kernel⟩
theorem ok__law_call : DDok tdt d__law_call := ⟨by kernel_rfl, ⟨rfl, rfl, rfl, by decide +kernel, by decide +kernel, by decide +kernel, by decide +kernel⟩, by decide, by decide +kernel, by decide +kernel⟩
theorem ok__law_came : DDok tdt d__law_came := ⟨by kernel_rfl, ⟨rfl, rfl, rfl, by decide +kernel, by decide +kernel, by decide +kernel, by decide +kernel⟩, by decide, by decide +kernel, by decide +kernel⟩
theorem ok__law_step : DDok tdt d__law_step := ⟨by kernel_rfl, ⟨rfl, rfl, rfl, by decide +kernel, by decide +kernel, by decide +kernel, by decide +kernel⟩, by decide, by decide +kernel, by decide +kernel⟩
theorem ok__law_is_shown : DDok tdt d__law_is_shown := ⟨by kernel_rfl, ⟨rfl, rfl, rfl, by decide +kernel, by decide +kernel, by decide +kernel, by decide +kernel⟩, by decide, by decide +kernel, by decide +kernel⟩
theorem ok__law_level : DDok tdt d__law_level := ⟨by kernel_rfl, ⟨rfl, rfl, rfl, by decide +kernel, by decide +kernel, by decide +kernel, by decide +kernel⟩, by decide, by decide +kernel, by decide +kernel⟩
theorem ok__law_right : DDok tdt d__law_right := ⟨by kernel_rfl, ⟨rfl, rfl, rfl, by decide +kernel, by decide +kernel, by decide +kernel, by decide +kernel⟩, by decide, by decide +kernel, by decide +kernel⟩
theorem ok_law : DDok tdt d_law := ⟨by kernel_rfl, ⟨rfl, rfl, rfl, by decide +kernel, by decide +kernel, by decide +kernel, by decide +kernel⟩, by decide, by decide +kernel, by decide +kernel⟩
theorem ok_Desk_init : DDok tdt d_Desk_init := ⟨by kernel_rfl, ⟨rfl, rfl, rfl, by decide +kernel, by decide +kernel, by decide +kernel, by decide +kernel⟩, by decide, by decide +kernel, by decide +kernel⟩
theorem ok_Desk_tower : DDok tdt d_Desk_tower := ⟨by kernel_rfl, ⟨rfl, rfl, rfl, by decide +kernel, by decide +kernel, by decide +kernel, by decide +kernel⟩, by decide, by decide +kernel, by decide +kernel⟩
theorem ok_Desk_watch : DDok tdt d_Desk_watch := ⟨by kernel_rfl, ⟨rfl, rfl, rfl, by decide +kernel, by decide +kernel, by decide +kernel, by decide +kernel⟩, by decide, by decide +kernel, by decide +kernel⟩
theorem ok_Desk_hour : DDok tdt d_Desk_hour := ⟨by kernel_rfl, ⟨rfl, rfl, rfl, by decide +kernel, by decide +kernel, by decide +kernel, by decide +kernel⟩, by decide, by decide +kernel, by decide +kernel⟩
theorem ok_Desk_pumped : DDok tdt d_Desk_pumped := ⟨by kernel_rfl, ⟨rfl, rfl, rfl, by decide +kernel, by decide +kernel, by decide +kernel, by decide +kernel⟩, by decide, by decide +kernel, by decide +kernel⟩
theorem ok_Desk_known_uses : DDok tdt d_Desk_known_uses := ⟨by kernel_rfl, ⟨rfl, rfl, rfl, by decide +kernel, by decide +kernel, by decide +kernel, by decide +kernel⟩, by decide, by decide +kernel, by decide +kernel⟩
theorem ok_Desk_check_left : DDok tdt d_Desk_check_left := ⟨by kernel_rfl, ⟨rfl, rfl, rfl, by decide +kernel, by decide +kernel, by decide +kernel, by decide +kernel⟩, by decide, by decide +kernel, by decide +kernel⟩
theorem ok_Desk_span_now : DDok tdt d_Desk_span_now := ⟨by kernel_rfl, ⟨rfl, rfl, rfl, by decide +kernel, by decide +kernel, by decide +kernel, by decide +kernel⟩, by decide, by decide +kernel, by decide +kernel⟩
theorem ok_Desk_pump : DDok tdt d_Desk_pump := ⟨by kernel_rfl, ⟨rfl, rfl, rfl, by decide +kernel, by decide +kernel, by decide +kernel, by decide +kernel⟩, by decide, by decide +kernel, by decide +kernel⟩
theorem ok_Desk_pump_least : DDok tdt d_Desk_pump_least := ⟨by kernel_rfl, ⟨rfl, rfl, rfl, by decide +kernel, by decide +kernel, by decide +kernel, by decide +kernel⟩, by decide, by decide +kernel, by decide +kernel⟩
theorem ok_Desk_pump_most : DDok tdt d_Desk_pump_most := ⟨by kernel_rfl, ⟨rfl, rfl, rfl, by decide +kernel, by decide +kernel, by decide +kernel, by decide +kernel⟩, by decide, by decide +kernel, by decide +kernel⟩
theorem ok_Desk_use : DDok tdt d_Desk_use := ⟨by kernel_rfl, ⟨rfl, rfl, rfl, by decide +kernel, by decide +kernel, by decide +kernel, by decide +kernel⟩, by decide, by decide +kernel, by decide +kernel⟩
theorem ok_Desk_level : DDok tdt d_Desk_level := ⟨by kernel_rfl, ⟨rfl, rfl, rfl, by decide +kernel, by decide +kernel, by decide +kernel, by decide +kernel⟩, by decide, by decide +kernel, by decide +kernel⟩
theorem ok_Desk_doubt : DDok tdt d_Desk_doubt := ⟨by kernel_rfl, ⟨rfl, rfl, rfl, by decide +kernel, by decide +kernel, by decide +kernel, by decide +kernel⟩, by decide, by decide +kernel, by decide +kernel⟩
theorem dds_ok : ∀ d ∈ tdt.dds, DDok tdt d := by
  intro d h
  have h : d ∈ [d_is_whole, d_is_number, d_is_tuple_of, d_wrong_at, d_wrong_from_one, d_is_above_last, d_is_hour_form, d_is_tower_form, d_widths_of, d_mosts_of, d_pumps_of, d_wrong_looks, d_is_watch_of, d_known_by, d_doubts_of, d_lacks_behind, d_need_of, d_needs_of, d_spare_of, d_do_fit_hours, d_is_kept_by, d_stretches_of, d_level_known, d_range_next, d_check_number, d_check_tower, d_check_start_of, d_check_watch_of, d_check_watch, d_check_watched, d__law_well, d__law_draw, d__law_of, d__law_same, d__law_tower, d__law_hours, d__law_width, d__law_need, d__law_known, d__law_doubt, d__law_too_much, d__law_can_keep, d__law_watch, d__law_range, d__law_least_level, d__law_kept_tower, d__law_fresh, d__law_at, d__law_told, d__law_may, d__law_run, d__law_deed, d__law_call, d__law_came, d__law_step, d__law_is_shown, d__law_level, d__law_right, d_law, d_Desk_init, d_Desk_tower, d_Desk_watch, d_Desk_hour, d_Desk_pumped, d_Desk_known_uses, d_Desk_check_left, d_Desk_span_now, d_Desk_pump, d_Desk_pump_least, d_Desk_pump_most, d_Desk_use, d_Desk_level, d_Desk_doubt] := h
  simp only [List.mem_cons, List.not_mem_nil, or_false] at h
  rcases h with rfl | rfl | rfl | rfl | rfl | rfl | rfl | rfl | rfl | rfl | rfl | rfl | rfl | rfl | rfl | rfl | rfl | rfl | rfl | rfl | rfl | rfl | rfl | rfl | rfl | rfl | rfl | rfl | rfl | rfl | rfl | rfl | rfl | rfl | rfl | rfl | rfl | rfl | rfl | rfl | rfl | rfl | rfl | rfl | rfl | rfl | rfl | rfl | rfl | rfl | rfl | rfl | rfl | rfl | rfl | rfl | rfl | rfl | rfl | rfl | rfl | rfl | rfl | rfl | rfl | rfl | rfl | rfl | rfl | rfl | rfl | rfl | rfl
  · exact ok_is_whole
  · exact ok_is_number
  · exact ok_is_tuple_of
  · exact ok_wrong_at
  · exact ok_wrong_from_one
  · exact ok_is_above_last
  · exact ok_is_hour_form
  · exact ok_is_tower_form
  · exact ok_widths_of
  · exact ok_mosts_of
  · exact ok_pumps_of
  · exact ok_wrong_looks
  · exact ok_is_watch_of
  · exact ok_known_by
  · exact ok_doubts_of
  · exact ok_lacks_behind
  · exact ok_need_of
  · exact ok_needs_of
  · exact ok_spare_of
  · exact ok_do_fit_hours
  · exact ok_is_kept_by
  · exact ok_stretches_of
  · exact ok_level_known
  · exact ok_range_next
  · exact ok_check_number
  · exact ok_check_tower
  · exact ok_check_start_of
  · exact ok_check_watch_of
  · exact ok_check_watch
  · exact ok_check_watched
  · exact ok__law_well
  · exact ok__law_draw
  · exact ok__law_of
  · exact ok__law_same
  · exact ok__law_tower
  · exact ok__law_hours
  · exact ok__law_width
  · exact ok__law_need
  · exact ok__law_known
  · exact ok__law_doubt
  · exact ok__law_too_much
  · exact ok__law_can_keep
  · exact ok__law_watch
  · exact ok__law_range
  · exact ok__law_least_level
  · exact ok__law_kept_tower
  · exact ok__law_fresh
  · exact ok__law_at
  · exact ok__law_told
  · exact ok__law_may
  · exact ok__law_run
  · exact ok__law_deed
  · exact ok__law_call
  · exact ok__law_came
  · exact ok__law_step
  · exact ok__law_is_shown
  · exact ok__law_level
  · exact ok__law_right
  · exact ok_law
  · exact ok_Desk_init
  · exact ok_Desk_tower
  · exact ok_Desk_watch
  · exact ok_Desk_hour
  · exact ok_Desk_pumped
  · exact ok_Desk_known_uses
  · exact ok_Desk_check_left
  · exact ok_Desk_span_now
  · exact ok_Desk_pump
  · exact ok_Desk_pump_least
  · exact ok_Desk_pump_most
  · exact ok_Desk_use
  · exact ok_Desk_level
  · exact ok_Desk_doubt
theorem trl_is_tower_form_0 : LDtr tdt dl_is_tower_form_0 := by
  intro nm q pa body sc fr h
  have e : (tdt.rqs.lookup 73).map (fun x => trE 300 (tdt.cl dl_is_tower_form_0.N x.2.2.2.2.1) x.2.2.2.1) = some (some (el_is_tower_form_0, [])) := by kernel_rfl
  have h : tdt.rqs.lookup 73 = _ := h
  rw [h] at e
  exact Option.some.inj e
theorem trl_wrong_looks_0 : LDtr tdt dl_wrong_looks_0 := by
  intro nm q pa body sc fr h
  have e : (tdt.rqs.lookup 74).map (fun x => trE 300 (tdt.cl dl_wrong_looks_0.N x.2.2.2.2.1) x.2.2.2.1) = some (some (el_wrong_looks_0, [])) := by kernel_rfl
  have h : tdt.rqs.lookup 74 = _ := h
  rw [h] at e
  exact Option.some.inj e
theorem trl__law_step_0 : LDtr tdt dl__law_step_0 := by
  intro nm q pa body sc fr h
  have e : (tdt.rqs.lookup 75).map (fun x => trE 300 (tdt.cl dl__law_step_0.N x.2.2.2.2.1) x.2.2.2.1) = some (some (el__law_step_0, [])) := by kernel_rfl
  have h : tdt.rqs.lookup 75 = _ := h
  rw [h] at e
  exact Option.some.inj e
theorem trl__law_right_0 : LDtr tdt dl__law_right_0 := by
  intro nm q pa body sc fr h
  have e : (tdt.rqs.lookup 76).map (fun x => trE 300 (tdt.cl dl__law_right_0.N x.2.2.2.2.1) x.2.2.2.1) = some (some (el__law_right_0, [])) := by kernel_rfl
  have h : tdt.rqs.lookup 76 = _ := h
  rw [h] at e
  exact Option.some.inj e
theorem trl__law_right_1 : LDtr tdt dl__law_right_1 := by
  intro nm q pa body sc fr h
  have e : (tdt.rqs.lookup 77).map (fun x => trE 300 (tdt.cl dl__law_right_1.N x.2.2.2.2.1) x.2.2.2.1) = some (some (el__law_right_1, [])) := by kernel_rfl
  have h : tdt.rqs.lookup 77 = _ := h
  rw [h] at e
  exact Option.some.inj e
theorem lds_ok : ∀ l ∈ tdt.lds, LDtr tdt l := by
  intro d h
  have h : d ∈ [dl_is_tower_form_0, dl_wrong_looks_0, dl__law_step_0, dl__law_right_0, dl__law_right_1] := h
  simp only [List.mem_cons, List.not_mem_nil, or_false] at h
  rcases h with rfl | rfl | rfl | rfl | rfl
  · exact trl_is_tower_form_0
  · exact trl_wrong_looks_0
  · exact trl__law_step_0
  · exact trl__law_right_0
  · exact trl__law_right_1
theorem kw_0 (kV doc pm : Value) (an : Option Addr) (cdv ct : Value) (us ws : List Value) (h1 : us.length = 3) (h2 : ws.length = 1) : bindArgs (PySem.W.fnOf d_Desk_init.x d_Desk_init.qual (defArgs d_Desk_init.st) (defBody d_Desk_init.st) (defScope d_Desk_init.st) .none kV doc pm an cdv ct) ⟨us, List.zip [("start" : Str)] ws⟩ = pure ((d_Desk_init.N.take d_Desk_init.np).zip (us ++ ws)) := by
  match us, ws, h1, h2 with
  | [_, _, _], [_], _, _ => rfl
theorem kw_1 (kV doc pm : Value) (an : Option Addr) (cdv ct : Value) (us ws : List Value) (h1 : us.length = 1) (h2 : ws.length = 1) : bindArgs (PySem.W.fnOf d_Desk_pump.x d_Desk_pump.qual (defArgs d_Desk_pump.st) (defBody d_Desk_pump.st) (defScope d_Desk_pump.st) .none kV doc pm an cdv ct) ⟨us, List.zip [("number" : Str)] ws⟩ = pure ((d_Desk_pump.N.take d_Desk_pump.np).zip (us ++ ws)) := by
  match us, ws, h1, h2 with
  | [_], [_], _, _ => rfl
theorem kw_2 (kV doc pm : Value) (an : Option Addr) (cdv ct : Value) (us ws : List Value) (h1 : us.length = 1) (h2 : ws.length = 1) : bindArgs (PySem.W.fnOf d_Desk_use.x d_Desk_use.qual (defArgs d_Desk_use.st) (defBody d_Desk_use.st) (defScope d_Desk_use.st) .none kV doc pm an cdv ct) ⟨us, List.zip [("number" : Str)] ws⟩ = pure ((d_Desk_use.N.take d_Desk_use.np).zip (us ++ ws)) := by
  match us, ws, h1, h2 with
  | [_], [_], _, _ => rfl
theorem kws_ok : ∀ q ∈ tdt.kw, ∀ d, tdt.dds[q.1]? = some d → ∀ (kV doc pm : Value) (an : Option Addr) (cdv ct : Value) (us ws : List Value), us.length = q.2.1 → ws.length = q.2.2.length → us.length + ws.length = (d.N.take d.np).length →
    bindArgs (PySem.W.fnOf d.x d.qual (defArgs d.st) (defBody d.st) (defScope d.st) .none kV doc pm an cdv ct) ⟨us, q.2.2.zip ws⟩ = pure ((d.N.take d.np).zip (us ++ ws)) := by
  intro q h d hd kV doc pm an cdv ct us ws h1 h2 _
  have h : q ∈ kwL := h
  simp only [kwL, List.mem_cons, List.not_mem_nil, or_false] at h
  rcases h with rfl | rfl | rfl
  · cases hd; exact kw_0 kV doc pm an cdv ct us ws h1 h2
  · cases hd; exact kw_1 kV doc pm an cdv ct us ws h1 h2
  · cases hd; exact kw_2 kV doc pm an cdv ct us ws h1 h2
theorem xis_ok : ∀ d ∈ tdt.xs, ∀ f st, d.f = some (f, st) → XDok d f st ∧ tdt.xf.contains f = true := by
  intro d h f st e
  have h : d ∈ xsL := h
  simp only [xsL, List.mem_cons, List.not_mem_nil, or_false] at h
  rcases h with rfl | rfl | rfl
  · cases e; exact ⟨⟨⟨rfl, rfl, rfl, by decide +kernel, by decide +kernel, by decide +kernel, by decide +kernel⟩, by decide +kernel, by decide +kernel, ⟨_, _, _, _, rfl⟩, ⟨by decide, by decide⟩, by decide +kernel⟩, by decide +kernel⟩
  · cases e; exact ⟨⟨⟨rfl, rfl, rfl, by decide +kernel, by decide +kernel, by decide +kernel, by decide +kernel⟩, by decide +kernel, by decide +kernel, ⟨_, _, _, _, rfl⟩, ⟨by decide, by decide⟩, by decide +kernel⟩, by decide +kernel⟩
  · cases e
theorem sbs_ok : ∀ q ∈ tdt.sb, ∀ T, q.2.1 = some T → bootBuiltins q.1 = some (.type T) := by
  intro q h T e
  have h : q ∈ sbN := h
  simp only [sbN, List.mem_cons, List.not_mem_nil, or_false] at h
  rcases h with rfl | rfl | rfl | rfl | rfl
  · cases e
  · cases e
  · cases e
  · cases e
  · cases e; decide +kernel
theorem td_ok : TDok tdt lnpL := ⟨dds_ok, by decide +kernel, by decide +kernel, by decide +kernel, by decide +kernel, by decide +kernel, by decide +kernel, lds_ok, kws_ok, by decide +kernel, xis_ok, sbs_ok⟩
end TL

set_option linter.all false
set_option maxRecDepth 100000
set_option maxHeartbeats 8000000
/-! Mirrors of defs that stand in several laws, for this one. Printed by gen5.py (own work). -/
namespace TL
open PySem L2
def exL : Exc := fun _ _ => none
abbrev TT : List FI := tdt.T lnpL
theorem ph {n j : Nat} {args : List PV} {mu : List SO} {fi : FI} (h : TT[j]? = some fi) : Ph TT exL (n + 1) j args mu = runF (Ph TT exL n) exL fi args mu := by
  show (match TT[j]? with
    | some f => runF (Ph TT exL n) exL f args mu
    | none => .bad) = _
  rw [h]
theorem m_is_whole (n : Nat) (i : Int) (mu : List SO) : Ph TT exL (n + 1) j_is_whole [.int i] mu = .ok (.bl true) mu := by
  rw [ph (fi := d_is_whole.fi) rfl]
  simp -implicitDefEqProofs [DD.fi, d_is_whole, ir_is_whole]
theorem m_is_number (n : Nat) (v lo hi : Int) (mu : List SO) : Ph TT exL (n + 2) j_is_number [.int v, .int lo, .int hi] mu = .ok (.bl (decide (lo ≤ v ∧ v ≤ hi))) mu := by
  rw [ph (fi := d_is_number.fi) rfl]
  by_cases h : v < lo
  · simp -implicitDefEqProofs [DD.fi, d_is_number, ir_is_number, m_is_whole, h]
    omega
  · simp -implicitDefEqProofs [DD.fi, d_is_number, ir_is_number, m_is_whole, h]
    omega
theorem m_is_numberN (n : Nat) (v lo : Int) (mu : List SO) : Ph TT exL (n + 2) j_is_number [.int v, .int lo, .non] mu = .ok (.bl (decide (lo ≤ v))) mu := by
  rw [ph (fi := d_is_number.fi) rfl]
  by_cases h : v < lo
  · simp -implicitDefEqProofs [DD.fi, d_is_number, ir_is_number, m_is_whole, h]
  · simp -implicitDefEqProofs [DD.fi, d_is_number, ir_is_number, m_is_whole, h]
    omega
theorem m_is_tuple_of (n : Nat) (xs : List PV) (k : Int) (mu : List SO) : Ph TT exL (n + 1) j_is_tuple_of [.tup xs, .int k] mu = .ok (.bl (decide ((xs.length : Int) = k))) mu := by
  rw [ph (fi := d_is_tuple_of.fi) rfl]
  simp -implicitDefEqProofs [DD.fi, d_is_tuple_of, ir_is_tuple_of]
theorem m_wrong_at (n : Nat) (xs : List PV) (most : PV) (k : Nat) (caps : List PV) (mu : List SO) (hm : most = .non ∨ ∃ m : Int, most = .int m ∧ (xs.length : Int) ≤ m)
    (hf : ∀ i x, xs[i]? = some x → Ph TT exL n k ([x, .tup (xs.take i)] ++ caps) mu = .ok (.bl true) mu) : Ph TT exL (n + 1) j_wrong_at [.tup xs, most, .fn k caps] mu = .ok (.lst []) mu := by
  rw [ph (fi := d_wrong_at.fi) rfl]
  simp -implicitDefEqProofs [DD.fi, d_wrong_at, ir_wrong_at]
  generalize hL : loopS _ _ _ _ = r
  obtain ⟨s', rfl, a, b, rfl⟩ := loop_from hL (fun i s => ∃ a b, s = ⟨[some (.tup xs), some most, some (.fn k caps), a, b], [], [], mu⟩) ⟨none, none, rfl⟩ (fun i x s hx hI => by
      obtain ⟨a, b, rfl⟩ := hI
      obtain ⟨y, hy, rfl⟩ := enumP_get xs 0 i x hx
      have hi : i < xs.length := (List.getElem?_eq_some_iff.mp hy).1
      have hf' := hf i y hy
      simp only [List.cons_append, List.nil_append] at hf'
      refine ⟨_, by simp -implicitDefEqProofs; rfl, ?_⟩
      rcases hm with rfl | ⟨m, rfl, hm⟩
      · exact ⟨_, .inl (by simp -implicitDefEqProofs [hf']; exact ⟨rfl, rfl⟩), _, _, rfl⟩
      · have : ¬ m ≤ (i : Int) := by omega
        exact ⟨_, .inl (by simp -implicitDefEqProofs [hf', this]; exact ⟨rfl, rfl⟩), _, _, rfl⟩)
  simp -implicitDefEqProofs
theorem m_wrong_from_one (n : Nat) (xs : List PV) (m : Int) (k : Nat) (mu : List SO) (h0 : xs ≠ []) (hd : dat 60 (.tup xs) = true) (hm : (xs.length : Int) ≤ m)
    (hf : ∀ i x, xs[i]? = some x → Ph TT exL n k [x, .tup (xs.take i)] mu = .ok (.bl true) mu) : Ph TT exL (n + 2) j_wrong_from_one [.tup xs, .int m, .fn k []] mu = .ok (.lst []) mu := by
  rw [ph (fi := d_wrong_from_one.fi) rfl]
  have e : xs.isEmpty = false := by cases xs <;> simp_all
  simp -implicitDefEqProofs [DD.fi, d_wrong_from_one, ir_wrong_from_one, veq_tup0 hd, e]
  rw [m_wrong_at n xs (.int m) k [] mu (.inr ⟨m, rfl, hm⟩) (by simpa using hf)]
  simp -implicitDefEqProofs
theorem dat_ints (k : Nat) (xs : List Int) : dat (k + 1) (.tup (xs.map .int)) = true := by
  simp only [dat, List.all_map, List.all_eq_true]
  intro x _
  show dat k (.int x) = true
  cases k <;> rfl
theorem dat_intsL (k : Nat) (xs : List Int) : dat (k + 1) (.lst (xs.map .int)) = true := by
  simp only [dat, List.all_map, List.all_eq_true]
  intro x _
  show dat k (.int x) = true
  cases k <;> rfl
theorem m_is_above_last (n : Nat) (v : Int) (b : List Int) (mu : List SO) (h : ∀ l, b.getLast? = some l → l < v) : Ph TT exL (n + 1) j_is_above_last [.int v, .tup (b.map .int)] mu = .ok (.bl true) mu := by
  rw [ph (fi := d_is_above_last.fi) rfl]
  simp -implicitDefEqProofs [DD.fi, d_is_above_last, ir_is_above_last, veq_tup0 (dat_ints 59 b), atI_m1]
  cases q : b.getLast? with
  | none =>
    have : b = [] := by simpa using q
    subst this
    simp -implicitDefEqProofs
  | some l =>
    have hne : b ≠ [] := by rintro rfl; simp -implicitDefEqProofs at q
    have hl := h l q
    simp -implicitDefEqProofs [hne, q, hl]
structure Hr where
  lo : Int
  hi : Int
  pu : Int
def pHr (h : Hr) : PV := .tup [.int h.lo, .int h.hi, .int h.pu]
abbrev Tw := Int × List Hr
def pTw (t : Tw) : PV := .tup [.int t.1, .tup (t.2.map pHr)]
abbrev Wa := Int × List Int
def pWa (w : Wa) : PV := .tup [.int w.1, .tup (w.2.map .int)]
def HrOk (h : Hr) : Prop := 0 ≤ h.lo ∧ h.lo ≤ h.hi ∧ h.hi ≤ 30 ∧ 0 ≤ h.pu ∧ h.pu ≤ 30
structure TwOk (t : Tw) : Prop where
  h1 : 1 ≤ t.1
  h2 : t.1 ≤ 60
  n1 : t.2 ≠ []
  n2 : t.2.length ≤ 12
  hr : ∀ h ∈ t.2, HrOk h
structure WaOk (n : Nat) (w : Wa) : Prop where
  l1 : 0 ≤ w.1
  l2 : w.1 ≤ 12
  asc : w.2.Pairwise (· < ·)
  rg : ∀ l ∈ w.2, 0 ≤ l ∧ l < n
@[simp] theorem plain_hr (h : Hr) : (pHr h).plain = true := by simp -implicitDefEqProofs [pHr]
@[simp] theorem plains_hrs (hs : List Hr) : plains (hs.map pHr) = true := by
  rw [plains_all, List.all_map]
  simp -implicitDefEqProofs
@[simp] theorem plain_tw (t : Tw) : (pTw t).plain = true := by simp -implicitDefEqProofs [pTw]
@[simp] theorem vs_tw0 (mu : List SO) (t : Tw) : vsub mu (pTw t) (.int 0) = some (.int t.1) := rfl
@[simp] theorem vs_tw1 (mu : List SO) (t : Tw) : vsub mu (pTw t) (.int 1) = some (.tup (t.2.map pHr)) := rfl
@[simp] theorem vs_wa0 (mu : List SO) (w : Wa) : vsub mu (pWa w) (.int 0) = some (.int w.1) := rfl
@[simp] theorem vs_wa1 (mu : List SO) (w : Wa) : vsub mu (pWa w) (.int 1) = some (.tup (w.2.map .int)) := rfl
@[simp] theorem vs_hr0 (mu : List SO) (h : Hr) : vsub mu (pHr h) (.int 0) = some (.int h.lo) := rfl
@[simp] theorem vs_hr1 (mu : List SO) (h : Hr) : vsub mu (pHr h) (.int 1) = some (.int h.hi) := rfl
@[simp] theorem vs_hr2 (mu : List SO) (h : Hr) : vsub mu (pHr h) (.int 2) = some (.int h.pu) := rfl
@[simp] theorem plain_wa (w : Wa) : (pWa w).plain = true := by simp -implicitDefEqProofs [pWa]
theorem dat_hrs (k : Nat) (hs : List Hr) : dat (k + 2) (.tup (hs.map pHr)) = true := by
  simp only [dat, List.all_map, List.all_eq_true]
  intro h _
  show dat (k + 1) (pHr h) = true
  have := dat_ints k [h.lo, h.hi, h.pu]
  exact this
theorem m_is_hour_form (n : Nat) (h : Hr) (hh : HrOk h) (mu : List SO) : Ph TT exL (n + 3) j_is_hour_form [pHr h] mu = .ok (.bl true) mu := by
  obtain ⟨h1, h2, h3, h4, h5⟩ := hh
  rw [ph (fi := d_is_hour_form.fi) rfl]
  simp -implicitDefEqProofs [DD.fi, d_is_hour_form, ir_is_hour_form, m_is_tuple_of, pHr]
  generalize hC : ev _ (IE.comp _ _ _ _ _) _ = r
  obtain rfl := comp_map hC PV.int (fun i => .bl (decide (0 ≤ i ∧ i ≤ 30))) [h.lo, h.hi, h.pu] (by simp -implicitDefEqProofs) (by simp -implicitDefEqProofs) (by simp -implicitDefEqProofs) (by simp -implicitDefEqProofs) (by simp -implicitDefEqProofs) (fun i _ => by simp -implicitDefEqProofs [turn, m_is_number])
  have e : vblt .all [.lst [.bl true, .bl true, .bl true]] = some (.bl true) := rfl
  have a1 : h.lo ≤ 30 := by omega
  have a2 : 0 ≤ h.hi := by omega
  simp -implicitDefEqProofs [e, h1, h2, h3, h4, h5, a1, a2]
theorem m_lam_tower (n : Nat) (h : Hr) (x : PV) (hh : HrOk h) (mu : List SO) : Ph TT exL (n + 4) l_is_tower_form_0 [pHr h, x] mu = .ok (.bl true) mu := by
  rw [ph (fi := ⟨2, 2, .cons (.ret el_is_tower_form_0) .nil⟩) rfl]
  simp -implicitDefEqProofs [el_is_tower_form_0, m_is_hour_form _ h hh]
theorem m_is_tower_form (n : Nat) (t : Tw) (ht : TwOk t) (mu : List SO) : Ph TT exL (n + 7) j_is_tower_form [pTw t] mu = .ok (.bl true) mu := by
  rw [ph (fi := d_is_tower_form.fi) rfl]
  have h1 := ht.h1
  have h2 := ht.h2
  have hw := m_wrong_from_one (n + 4) (t.2.map pHr) 12 l_is_tower_form_0 mu (by simp -implicitDefEqProofs [ht.n1]) (dat_hrs 58 t.2) (by have := ht.n2; simp -implicitDefEqProofs; omega) (fun i x hx => by
    rw [List.getElem?_map, Option.map_eq_some_iff] at hx
    obtain ⟨h, hh, rfl⟩ := hx
    exact m_lam_tower n h _ (ht.hr h (List.mem_of_getElem? hh)) mu)
  have v0 := veq_lst0 (xs := []) rfl
  simp -implicitDefEqProofs [DD.fi, d_is_tower_form, ir_is_tower_form, m_is_tuple_of, pTw, m_is_number, h1, h2, hw, v0]
theorem ints_at {xs : List Int} {i : Nat} {x : PV} (h : (xs.map PV.int)[i]? = some x) : ∃ v, xs[i]? = some v ∧ x = .int v := by
  rw [List.getElem?_map, Option.map_eq_some_iff] at h
  obtain ⟨v, h1, rfl⟩ := h
  exact ⟨v, h1, rfl⟩
theorem asc_take {xs : List Int} (h : xs.Pairwise (· < ·)) {i : Nat} {v : Int} (hv : xs[i]? = some v) : ∀ l, (xs.take i).getLast? = some l → l < v := by
  intro l hl
  have hi : i < xs.length := (List.getElem?_eq_some_iff.mp hv).1
  rw [List.getLast?_eq_getElem?, List.length_take, Nat.min_eq_left (by omega), List.getElem?_take] at hl
  split at hl
  · rename_i h1
    have h2 : xs[i] = v := (List.getElem?_eq_some_iff.mp hv).2
    obtain ⟨h3, h4⟩ := List.getElem?_eq_some_iff.mp hl
    rw [← h2, ← h4]
    exact List.pairwise_iff_getElem.mp h _ _ h3 hi h1
  · cases hl
theorem m_lam_looks (n : Nat) (v : Int) (b : List Int) (m : Int) (mu : List SO) (h0 : 0 ≤ v) (h1 : v < m) (h : ∀ l, b.getLast? = some l → l < v) : Ph TT exL (n + 3) l_wrong_looks_0 [.int v, .tup (b.map .int), .int m] mu = .ok (.bl true) mu := by
  rw [ph (fi := ⟨3, 3, .cons (.ret el_wrong_looks_0) .nil⟩) rfl]
  have a : v ≤ m - 1 := by omega
  simp -implicitDefEqProofs [el_wrong_looks_0, m_is_number, m_is_above_last _ v b mu h, h0, a]
theorem m_wrong_looks (n : Nat) (m : Nat) (ls : List Int) (mu : List SO) (h1 : ls.Pairwise (· < ·)) (h2 : ∀ l ∈ ls, 0 ≤ l ∧ l < m) : Ph TT exL (n + 5) j_wrong_looks [.int m, .tup (ls.map .int)] mu = .ok (.lst []) mu := by
  rw [ph (fi := d_wrong_looks.fi) rfl]
  have hw := m_wrong_at (n + 3) (ls.map .int) .non l_wrong_looks_0 [.int m] mu (.inl rfl) (fun i x hx => by
    obtain ⟨v, hv, rfl⟩ := ints_at hx
    have := h2 v (List.mem_of_getElem? hv)
    rw [← List.map_take]
    exact m_lam_looks n v (ls.take i) m mu this.1 this.2 (asc_take h1 hv))
  simp -implicitDefEqProofs [DD.fi, d_wrong_looks, ir_wrong_looks, hw]
theorem m_is_watch_of (n : Nat) (m : Nat) (w : Wa) (mu : List SO) (h : WaOk m w) : Ph TT exL (n + 6) j_is_watch_of [.int m, pWa w] mu = .ok (.bl true) mu := by
  rw [ph (fi := d_is_watch_of.fi) rfl]
  have v0 := veq_lst0 (xs := []) rfl
  simp -implicitDefEqProofs [DD.fi, d_is_watch_of, ir_is_watch_of, pWa, m_is_tuple_of, m_is_number, m_wrong_looks n m w.2 mu h.asc h.rg, h.l1, h.l2, v0]
theorem m_check_number (n : Nat) (v lo hi : Int) (mu : List SO) (h1 : lo ≤ v) (h2 : v ≤ hi) : Ph TT exL (n + 3) j_check_number [.int v, .int lo, .int hi] mu = .ok .non mu := by
  rw [ph (fi := d_check_number.fi) rfl]
  simp -implicitDefEqProofs [DD.fi, d_check_number, ir_check_number, m_is_number, h1, h2]
theorem m_check_numberN (n : Nat) (v lo : Int) (mu : List SO) (h1 : lo ≤ v) : Ph TT exL (n + 3) j_check_number [.int v, .int lo, .non] mu = .ok .non mu := by
  rw [ph (fi := d_check_number.fi) rfl]
  simp -implicitDefEqProofs [DD.fi, d_check_number, ir_check_number, m_is_numberN, h1]
theorem m_check_tower (n : Nat) (t : Tw) (mu : List SO) (h : TwOk t) : Ph TT exL (n + 8) j_check_tower [pTw t] mu = .ok .non mu := by
  rw [ph (fi := d_check_tower.fi) rfl]
  simp -implicitDefEqProofs [DD.fi, d_check_tower, ir_check_tower, m_is_tower_form n t h]
theorem m_check_start_of (n : Nat) (t : Tw) (v : Int) (mu : List SO) (h1 : 0 ≤ v) (h2 : v ≤ t.1) : Ph TT exL (n + 4) j_check_start_of [pTw t, .int v] mu = .ok .non mu := by
  rw [ph (fi := d_check_start_of.fi) rfl]
  simp -implicitDefEqProofs [DD.fi, d_check_start_of, ir_check_start_of, pTw, m_check_number n v 0 t.1 mu h1 h2]
theorem m_check_watch_of (n : Nat) (t : Tw) (w : Wa) (mu : List SO) (hw : WaOk t.2.length w) : Ph TT exL (n + 7) j_check_watch_of [pTw t, pWa w] mu = .ok .non mu := by
  rw [ph (fi := d_check_watch_of.fi) rfl]
  simp -implicitDefEqProofs [DD.fi, d_check_watch_of, ir_check_watch_of, pTw, m_is_watch_of n t.2.length w mu hw]
theorem m_check_watch (n : Nat) (t : Tw) (w : Wa) (mu : List SO) (h : TwOk t) (hw : WaOk t.2.length w) : Ph TT exL (n + 9) j_check_watch [pTw t, pWa w] mu = .ok .non mu := by
  rw [ph (fi := d_check_watch.fi) rfl]
  simp -implicitDefEqProofs [DD.fi, d_check_watch, ir_check_watch, m_check_tower n t mu h, m_check_watch_of (n + 1) t w mu hw]
theorem m_check_watched (n : Nat) (t : Tw) (w : Wa) (v : Int) (mu : List SO) (h : TwOk t) (hw : WaOk t.2.length w) (h1 : 0 ≤ v) (h2 : v ≤ t.1) : Ph TT exL (n + 10) j_check_watched [pTw t, pWa w, .int v] mu = .ok .non mu := by
  rw [ph (fi := d_check_watched.fi) rfl]
  simp -implicitDefEqProofs [DD.fi, d_check_watched, ir_check_watched, m_check_watch n t w mu h hw, m_check_start_of (n + 5) t v mu h1 h2]
def wid (t : Tw) : List Int := t.2.map fun h => h.hi - h.lo
def known (w : Wa) (h : Int) : Int := maxL 0 ((w.2.filter fun l => decide (l ≤ h)).map fun l => l - w.1)
def doubt (t : Tw) (w : Wa) (h : Nat) : Int := (((wid t).take (h + 1)).drop (known w h).toNat).sum
def tot (a : Int) : List Hr → Int
  | [] => a
  | h :: hs => tot (a + h.hi - h.pu) hs
def sums (a : Int) : List Hr → List Int
  | [] => []
  | h :: hs => (a + h.hi - h.pu) :: sums (a + h.hi - h.pu) hs
theorem tot_snoc (x : Hr) : ∀ (hs : List Hr) (a : Int), tot a (hs ++ [x]) = tot a hs + x.hi - x.pu
  | [], a => rfl
  | h :: hs, a => tot_snoc x hs _
theorem sums_snoc (x : Hr) : ∀ (hs : List Hr) (a : Int), sums a (hs ++ [x]) = sums a hs ++ [tot a hs + x.hi - x.pu]
  | [], a => rfl
  | h :: hs, a => by
    show _ :: sums _ (hs ++ [x]) = _
    rw [sums_snoc x hs]; rfl
theorem sums_len : ∀ (hs : List Hr) (a : Int), (sums a hs).length = hs.length
  | [], a => rfl
  | h :: hs, a => by simp -implicitDefEqProofs [sums, sums_len hs]
def need (t : Tw) (k : Nat) : Int := maxL 0 (sums 0 (t.2.drop k))
theorem maxL_ge : ∀ (m : Int) (xs : List Int), m ≤ maxL m xs
  | m, [] => Int.le_refl m
  | m, x :: xs => by
    show m ≤ maxL (if m < x then x else m) xs
    have := maxL_ge (if m < x then x else m) xs
    split at this <;> rename_i h
    · rw [if_pos h]; omega
    · rw [if_neg h]; exact this
theorem known_nonneg (w : Wa) (h : Int) : 0 ≤ known w h := maxL_ge _ _
theorem m_widths_of (n : Nat) (t : Tw) (ht : TwOk t) (mu : List SO) : Ph TT exL (n + 1) j_widths_of [pTw t] mu = .ok (.lst ((wid t).map .int)) mu := by
  rw [ph (fi := d_widths_of.fi) rfl]
  simp -implicitDefEqProofs [DD.fi, d_widths_of, ir_widths_of, pTw]
  generalize hC : ev _ (IE.comp _ _ _ _ _) _ = r
  obtain rfl := comp_map hC pHr (fun h => .int (h.hi - h.lo)) t.2 (by simp -implicitDefEqProofs) (by simp -implicitDefEqProofs) (by simp -implicitDefEqProofs) (by simp -implicitDefEqProofs) (by have := ht.n2; omega) (fun h _ => by simp -implicitDefEqProofs [turn, pHr])
  simp -implicitDefEqProofs [wid]
theorem m_mosts_of (n : Nat) (t : Tw) (ht : TwOk t) (mu : List SO) : Ph TT exL (n + 1) j_mosts_of [pTw t] mu = .ok (.lst (t.2.map fun h => .int h.hi)) mu := by
  rw [ph (fi := d_mosts_of.fi) rfl]
  simp -implicitDefEqProofs [DD.fi, d_mosts_of, ir_mosts_of, pTw]
  generalize hC : ev _ (IE.comp _ _ _ _ _) _ = r
  obtain rfl := comp_map hC pHr (fun h => .int h.hi) t.2 (by simp -implicitDefEqProofs) (by simp -implicitDefEqProofs) (by simp -implicitDefEqProofs) (by simp -implicitDefEqProofs) (by have := ht.n2; omega) (fun h _ => by simp -implicitDefEqProofs [turn, pHr])
  simp -implicitDefEqProofs
theorem m_pumps_of (n : Nat) (t : Tw) (ht : TwOk t) (mu : List SO) : Ph TT exL (n + 1) j_pumps_of [pTw t] mu = .ok (.lst (t.2.map fun h => .int h.pu)) mu := by
  rw [ph (fi := d_pumps_of.fi) rfl]
  simp -implicitDefEqProofs [DD.fi, d_pumps_of, ir_pumps_of, pTw]
  generalize hC : ev _ (IE.comp _ _ _ _ _) _ = r
  obtain rfl := comp_map hC pHr (fun h => .int h.pu) t.2 (by simp -implicitDefEqProofs) (by simp -implicitDefEqProofs) (by simp -implicitDefEqProofs) (by simp -implicitDefEqProofs) (by have := ht.n2; omega) (fun h _ => by simp -implicitDefEqProofs [turn, pHr])
  simp -implicitDefEqProofs
theorem max_cons0 (xs : List Int) : vblt .max1 [.lst (.int 0 :: xs.map .int)] = some (.int (maxL 0 xs)) := b_max1 0 xs
theorem fm_if {α β : Type} (p : α → Prop) [DecidablePred p] (f : α → β) (xs : List α) : xs.filterMap (fun l => if p l then some (f l) else none) = (xs.filter fun l => decide (p l)).map f := by
  induction xs with
  | nil => rfl
  | cons x xs ih =>
    by_cases h : p x <;> simp -implicitDefEqProofs [List.filterMap_cons, h, ih]
theorem m_known_by (n : Nat) (w : Wa) (h : Int) (mu : List SO) (hw : w.2.length ≤ 1000) : Ph TT exL (n + 1) j_known_by [pWa w, .int h] mu = .ok (.int (known w h)) mu := by
  rw [ph (fi := d_known_by.fi) rfl]
  simp -implicitDefEqProofs [DD.fi, d_known_by, ir_known_by, pWa]
  generalize hC : ev _ (IE.comp _ _ _ _ _) _ = r
  obtain rfl := comp_from hC PV.int (fun l => if l ≤ h then some (.int (l - w.1)) else none) w.2 (by simp -implicitDefEqProofs) (by simp -implicitDefEqProofs) (by simp -implicitDefEqProofs) (by simp -implicitDefEqProofs) (by omega) (fun l _ => by
    by_cases hl : l ≤ h <;> simp -implicitDefEqProofs [turn, hl])
  have hlen : (w.2.filter fun l => decide (l ≤ h)).length ≤ w.2.length := List.length_filter_le _ _
  have e := max_cons0 ((w.2.filter fun l => decide (l ≤ h)).map fun l => l - w.1)
  rw [List.map_map] at e
  have e2 : 1 + (w.2.filter fun l => decide (l ≤ h)).length ≤ 100000 := by omega
  simp -implicitDefEqProofs [fm_if, e2, known]
  have e3 : (PV.int ∘ fun l => l - w.1) = fun l => PV.int (l - w.1) := rfl
  rw [e3] at e
  rw [e]
  simp -implicitDefEqProofs
theorem cut_le {α : Type} (xs : List α) (lo hi : Option Int) : (cutL xs lo hi).length ≤ xs.length := by
  simp only [cutL, List.length_take, List.length_drop]
  omega
theorem map_cut {α β : Type} (f : α → β) (xs : List α) (lo hi : Option Int) : cutL (xs.map f) lo hi = (cutL xs lo hi).map f := by
  simp -implicitDefEqProofs [cutL, List.map_take, List.map_drop]
theorem range_enc (m : Nat) : rangeI 0 m = (List.range m).map fun k : Nat => PV.int (k : Int) := by
  simp -implicitDefEqProofs [rangeI]
theorem m_doubts_of (n : Nat) (t : Tw) (w : Wa) (ht : TwOk t) (hw : w.2.length ≤ 1000) (mu : List SO) : Ph TT exL (n + 2) j_doubts_of [pTw t, pWa w] mu = .ok (.lst ((List.range t.2.length).map fun k => .int (doubt t w k))) mu := by
  rw [ph (fi := d_doubts_of.fi) rfl]
  have hl := ht.n2
  have i1 : IntOk (t.2.length : Int) := by unfold IntOk; omega
  have i2 : (t.2.length : Int) ≤ 100000 := by omega
  have hwl : (wid t).length = t.2.length := by simp -implicitDefEqProofs [wid]
  simp -implicitDefEqProofs [DD.fi, d_doubts_of, ir_doubts_of, m_widths_of _ t ht]
  generalize hC : ev _ (IE.comp _ _ _ _ _) _ = r
  obtain rfl := comp_map hC (fun k : Nat => PV.int k) (fun k => .int (doubt t w k)) (List.range t.2.length) (by simp -implicitDefEqProofs [hwl, i1, i2, range_enc]) (by simp -implicitDefEqProofs) (by simp -implicitDefEqProofs) (by simp -implicitDefEqProofs) (by simp -implicitDefEqProofs; omega) (fun k _ => by
    have h1 := known_nonneg w k
    simp -implicitDefEqProofs [turn, m_known_by _ w _ mu hw, map_cut]
    rw [cut_mid _ h1 (by omega)]
    simp -implicitDefEqProofs [doubt])
  simp -implicitDefEqProofs
theorem zip_rows : ∀ hs : List Hr, zipP (hs.map fun h => .int h.hi) (hs.map fun h => .int h.pu) = hs.map fun h => .tup [.int h.hi, .int h.pu]
  | [] => rfl
  | h :: hs => by simp -implicitDefEqProofs [zipP, zip_rows hs]
theorem m_lacks_behind (n : Nat) (t : Tw) (h : Int) (k : Nat) (hk : h + 1 = k) (ht : TwOk t) (mu : List SO) : Ph TT exL (n + 2) j_lacks_behind [pTw t, .int h] mu = .ok (.lst ((sums 0 (t.2.drop k)).map .int)) mu := by
  rw [ph (fi := d_lacks_behind.fi) rfl]
  have hl := ht.n2
  simp -implicitDefEqProofs [DD.fi, d_lacks_behind, ir_lacks_behind, m_mosts_of _ t ht, m_pumps_of _ t ht, zip_rows, map_cut, hk]
  rw [cut_from _ (by omega)]
  generalize hL : loopS _ _ _ _ = r
  obtain ⟨s', rfl, a, b, rfl⟩ := loop_typed hL (fun h : Hr => .tup [.int h.hi, .int h.pu]) (t.2.drop k) (by simp -implicitDefEqProofs) (fun done todo s => ∃ a b, s = ⟨[some (pTw t), some (.int h), some (.lst ((sums 0 done).map .int)), some (.int (tot 0 done)), a, b], [2], [], mu⟩) ⟨none, none, rfl⟩ (fun done x todo s hx hI => by
    obtain ⟨a, b, rfl⟩ := hI
    have hd : done.length < 100000 := by
      have := congrArg List.length hx
      simp -implicitDefEqProofs at this
      omega
    refine ⟨_, by simp -implicitDefEqProofs; rfl, _, .inl (by simp -implicitDefEqProofs [ownL, sums_len, hd]; rfl), some (.int x.hi), some (.int x.pu), ?_⟩
    rw [sums_snoc, tot_snoc]
    simp -implicitDefEqProofs)
  simp -implicitDefEqProofs
theorem m_need_of (n : Nat) (t : Tw) (h : Int) (k : Nat) (hk : h + 1 = k) (ht : TwOk t) (mu : List SO) : Ph TT exL (n + 3) j_need_of [pTw t, .int h] mu = .ok (.int (need t k)) mu := by
  rw [ph (fi := d_need_of.fi) rfl]
  have hl := ht.n2
  have : 1 + (t.2.length - k) ≤ 100000 := by omega
  simp -implicitDefEqProofs [DD.fi, d_need_of, ir_need_of, m_lacks_behind _ t h k hk ht, sums_len, this, max_cons0, need]
theorem m_needs_of (n : Nat) (t : Tw) (ht : TwOk t) (mu : List SO) : Ph TT exL (n + 4) j_needs_of [pTw t] mu = .ok (.lst ((List.range t.2.length).map fun k => .int (need t (k + 1)))) mu := by
  rw [ph (fi := d_needs_of.fi) rfl]
  have hl := ht.n2
  have i1 : IntOk (t.2.length : Int) := by unfold IntOk; omega
  have i2 : (t.2.length : Int) ≤ 100000 := by omega
  simp -implicitDefEqProofs [DD.fi, d_needs_of, ir_needs_of]
  generalize hC : ev _ (IE.comp _ _ _ _ _) _ = r
  obtain rfl := comp_map hC (fun k : Nat => PV.int k) (fun k => .int (need t (k + 1))) (List.range t.2.length) (by simp -implicitDefEqProofs [pTw, i1, i2, range_enc]) (by simp -implicitDefEqProofs) (by simp -implicitDefEqProofs) (by simp -implicitDefEqProofs) (by simp -implicitDefEqProofs; omega) (fun k _ => by
    simp -implicitDefEqProofs [turn, m_need_of _ t k (k + 1) (by omega) ht])
  simp -implicitDefEqProofs
theorem zip_ranges (f g : Nat → PV) : ∀ m : List Nat, zipP (m.map f) (m.map g) = m.map fun k => .tup [f k, g k]
  | [] => rfl
  | k :: m => by simp -implicitDefEqProofs [zipP, zip_ranges f g m]
def spare (t : Tw) (w : Wa) (k : Nat) : Int := t.1 - need t (k + 1) - doubt t w k
theorem m_spare_of (n : Nat) (t : Tw) (w : Wa) (ht : TwOk t) (hw : w.2.length ≤ 1000) (mu : List SO) : Ph TT exL (n + 5) j_spare_of [pTw t, pWa w] mu = .ok (.lst (((List.range t.2.length).map (spare t w)).map .int)) mu := by
  rw [ph (fi := d_spare_of.fi) rfl]
  have hl := ht.n2
  simp -implicitDefEqProofs [DD.fi, d_spare_of, ir_spare_of]
  generalize hC : ev _ (IE.comp _ _ _ _ _) _ = r
  obtain rfl := comp_map hC (fun k : Nat => .tup [.int (need t (k + 1)), .int (doubt t w k)]) (fun k => .int (spare t w k)) (List.range t.2.length) (by simp -implicitDefEqProofs [m_needs_of _ t ht, m_doubts_of _ t w ht hw, zip_ranges]) (by simp -implicitDefEqProofs) (by simp -implicitDefEqProofs) (by simp -implicitDefEqProofs) (by simp -implicitDefEqProofs; omega) (fun k _ => by
    simp -implicitDefEqProofs [turn, spare])
  simp -implicitDefEqProofs
theorem m_stretches_of (n : Nat) (t : Tw) (w : Wa) (ht : TwOk t) (hw : w.2.length ≤ 1000) (mu : List SO) : Ph TT exL (n + 5) j_stretches_of [pTw t, pWa w] mu = .ok (.lst ((List.range t.2.length).map fun k => .tup [.int (need t (k + 1)), .int (t.1 - doubt t w k)])) mu := by
  rw [ph (fi := d_stretches_of.fi) rfl]
  have hl := ht.n2
  simp -implicitDefEqProofs [DD.fi, d_stretches_of, ir_stretches_of]
  generalize hC : ev _ (IE.comp _ _ _ _ _) _ = r
  obtain rfl := comp_map hC (fun k : Nat => .tup [.int (need t (k + 1)), .int (doubt t w k)]) (fun k => .tup [.int (need t (k + 1)), .int (t.1 - doubt t w k)]) (List.range t.2.length) (by simp -implicitDefEqProofs [m_needs_of _ t ht, m_doubts_of _ t w ht hw, zip_ranges]) (by simp -implicitDefEqProofs) (by simp -implicitDefEqProofs) (by simp -implicitDefEqProofs) (by simp -implicitDefEqProofs; omega) (fun k _ => by
    simp -implicitDefEqProofs [turn])
  simp -implicitDefEqProofs
theorem minL_le : ∀ (m : Int) (xs : List Int), minL m xs ≤ m ∧ ∀ x ∈ xs, minL m xs ≤ x
  | m, [] => ⟨Int.le_refl m, fun x h => by cases h⟩
  | m, x :: xs => by
    show minL (if x < m then x else m) xs ≤ m ∧ ∀ y ∈ x :: xs, minL (if x < m then x else m) xs ≤ y
    obtain ⟨h1, h2⟩ := minL_le (if x < m then x else m) xs
    refine ⟨?_, fun y hy => ?_⟩
    · split at h1 <;> rename_i h
      · rw [if_pos h]; omega
      · rw [if_neg h]; exact h1
    · rcases List.mem_cons.mp hy with rfl | hy
      · split at h1 <;> rename_i h
        · rw [if_pos h]; exact h1
        · rw [if_neg h]; omega
      · exact h2 y hy
theorem maxL_le : ∀ (m : Int) (xs : List Int), (∀ x ∈ xs, x ≤ maxL m xs)
  | m, [], x, h => by cases h
  | m, y :: xs, x, h => by
    show x ≤ maxL (if m < y then y else m) xs
    rcases List.mem_cons.mp h with rfl | h
    · have := maxL_ge (if m < x then x else m) xs
      split at this <;> rename_i h
      · rw [if_pos h]; exact this
      · rw [if_neg h]; omega
    · exact maxL_le _ xs x h
/-- whether some rule is safe -/
def Kept (t : Tw) (w : Wa) (v : Int) : Prop := need t 0 ≤ v ∧ ∀ k < t.2.length, need t (k + 1) + doubt t w k ≤ t.1
instance (t : Tw) (w : Wa) (v : Int) : Decidable (Kept t w v) := inferInstanceAs (Decidable (_ ∧ _))
theorem min_ints {xs : List Int} (h : xs ≠ []) : ∃ m, vblt .min1 [.lst (xs.map .int)] = some (.int m) ∧ m ∈ xs ∧ ∀ x ∈ xs, m ≤ x := by
  cases xs with
  | nil => exact (h rfl).elim
  | cons x xs =>
    obtain ⟨h1, h2⟩ := minL_mem xs x
    exact ⟨minL x xs, b_min1 x xs, h1, h2⟩
theorem m_do_fit_hours (n : Nat) (t : Tw) (w : Wa) (ht : TwOk t) (hw : w.2.length ≤ 1000) (mu : List SO) : Ph TT exL (n + 6) j_do_fit_hours [pTw t, pWa w] mu = .ok (.bl (decide (∀ k < t.2.length, need t (k + 1) + doubt t w k ≤ t.1))) mu := by
  rw [ph (fi := d_do_fit_hours.fi) rfl]
  obtain ⟨m, h1, h2, h3⟩ := min_ints (xs := (List.range t.2.length).map (spare t w)) (by simp -implicitDefEqProofs [ht.n1])
  simp only [DD.fi, d_do_fit_hours, ir_do_fit_hours]
  simp -implicitDefEqProofs [m_spare_of _ t w ht hw, -List.map_map, h1]
  constructor
  · intro h k hk
    have := h3 (spare t w k) (List.mem_map.mpr ⟨k, List.mem_range.mpr hk, rfl⟩)
    unfold spare at this
    omega
  · intro h
    obtain ⟨k, hk, e⟩ := List.mem_map.mp h2
    have := h k (List.mem_range.mp hk)
    unfold spare at e
    omega
theorem m_is_kept_by (n : Nat) (t : Tw) (w : Wa) (v : Int) (ht : TwOk t) (hw : w.2.length ≤ 1000) (mu : List SO) : Ph TT exL (n + 7) j_is_kept_by [pTw t, pWa w, .int v] mu = .ok (.bl (decide (Kept t w v))) mu := by
  rw [ph (fi := d_is_kept_by.fi) rfl]
  by_cases h : need t 0 ≤ v
  · simp -implicitDefEqProofs [DD.fi, d_is_kept_by, ir_is_kept_by, m_need_of _ t (-1) 0 (by decide) ht, m_do_fit_hours _ t w ht hw, Kept, h]
  · simp -implicitDefEqProofs [DD.fi, d_is_kept_by, ir_is_kept_by, m_need_of _ t (-1) 0 (by decide) ht, m_do_fit_hours _ t w ht hw, Kept, h]
def lookI (k : Int) : List (Int × Int) → Option Int
  | [] => none
  | (j, v) :: r => if k = j then some v else lookI k r
def putI (k v : Int) (d : List (Int × Int)) : List (Int × Int) :=
  if (d.any fun kv => decide (kv.1 = k)) = true then d.map (fun kv => if kv.1 = k then (kv.1, v) else kv) else d ++ [(k, v)]
def encD (d : List (Int × Int)) : List (Key × PV) := d.map fun q => (.inl q.1, .int q.2)
theorem look_enc (k : Int) : ∀ d : List (Int × Int), look (Sum.inl k : Key) (encD d) = (lookI k d).map .int
  | [] => rfl
  | (j, v) :: r => by
    show (if (Sum.inl k : Key) = .inl j then some (PV.int v) else look (Sum.inl k : Key) (encD r)) = (if k = j then some v else lookI k r).map PV.int
    by_cases h : k = j
    · simp [h]
    · rw [if_neg h, if_neg (by simp [h])]
      exact look_enc k r
theorem put_enc (k v : Int) (d : List (Int × Int)) : put (Sum.inl k : Key) (.int v) (encD d) = encD (putI k v d) := by
  unfold put putI encD
  have e : ((d.map fun q => ((.inl q.1 : Key), PV.int q.2)).any fun kv => decide (kv.1 = (Sum.inl k : Key))) = d.any fun kv => decide (kv.1 = k) := by
    rw [List.any_map]
    congr 1
    funext q
    simp
  rw [e]
  split
  · rw [List.map_map, List.map_map]
    congr 1
    funext q
    by_cases h : q.1 = k <;> simp [h]
  · simp
def addMin (D : List (Int × Int)) (q : Int × Int) : List (Int × Int) := putI q.1 (if (lookI q.1 D).getD q.2 < q.2 then (lookI q.1 D).getD q.2 else q.2) D
theorem putI_keys (k v : Int) (d : List (Int × Int)) : (putI k v d).map (·.1) = if k ∈ d.map (·.1) then d.map (·.1) else d.map (·.1) ++ [k] := by
  unfold putI
  have e : ((d.any fun kv => decide (kv.1 = k)) = true) ↔ k ∈ d.map (·.1) := by
    simp only [List.any_eq_true, decide_eq_true_eq, List.mem_map]
  by_cases h : k ∈ d.map (·.1)
  · rw [if_pos (e.mpr h), if_pos h, List.map_map]
    congr 1
    funext q
    show (if q.1 = k then (q.1, v) else q).1 = q.1
    split <;> rfl
  · rw [if_neg (fun z => h (e.mp z)), if_neg h]
    simp
theorem putI_nodup {k v : Int} {d : List (Int × Int)} (h : (d.map (·.1)).Nodup) : ((putI k v d).map (·.1)).Nodup := by
  rw [putI_keys]
  split
  · exact h
  · rename_i hk
    refine List.nodup_append.mpr ⟨h, by simp, fun a ha b hb => ?_⟩
    rintro rfl
    simp at hb
    subst hb
    exact hk ha
theorem putI_mem {k v : Int} {d : List (Int × Int)} {q : Int × Int} : q ∈ putI k v d ↔ q = (k, v) ∨ (q ∈ d ∧ q.1 ≠ k) := by
  unfold putI
  by_cases h : (d.any fun kv => decide (kv.1 = k)) = true
  · rw [if_pos h]
    simp only [List.mem_map]
    constructor
    · rintro ⟨z, hz, rfl⟩
      by_cases hk : z.1 = k
      · rw [if_pos hk]; exact .inl (by rw [hk])
      · rw [if_neg hk]; exact .inr ⟨hz, hk⟩
    · rintro (rfl | ⟨h1, h2⟩)
      · simp only [List.any_eq_true, decide_eq_true_eq] at h
        obtain ⟨z, hz, hk⟩ := h
        exact ⟨z, hz, by rw [if_pos hk, hk]⟩
      · exact ⟨q, h1, by rw [if_neg h2]⟩
  · rw [if_neg h]
    simp only [List.mem_append, List.mem_singleton]
    constructor
    · rintro (h1 | h1)
      · refine .inr ⟨h1, fun hk => h ?_⟩
        simp only [List.any_eq_true, decide_eq_true_eq]
        exact ⟨q, h1, hk⟩
      · exact .inl h1
    · rintro (h1 | ⟨h1, _⟩)
      · exact .inr h1
      · exact .inl h1
theorem lookI_mem {k v : Int} : ∀ {d : List (Int × Int)}, lookI k d = some v → (k, v) ∈ d
  | (j, u) :: r, h => by
    unfold lookI at h
    split at h
    · rename_i e
      cases h
      rw [e]; exact List.mem_cons_self
    · exact List.mem_cons_of_mem _ (lookI_mem h)
theorem lookI_of {k v : Int} : ∀ {d : List (Int × Int)}, (d.map (·.1)).Nodup → (k, v) ∈ d → lookI k d = some v
  | (j, u) :: r, nd, h => by
    simp only [List.map_cons, List.nodup_cons] at nd
    unfold lookI
    rcases List.mem_cons.mp h with h | h
    · cases h; rw [if_pos rfl]
    · rw [if_neg (fun e => nd.1 (List.mem_map.mpr ⟨(k, v), h, e⟩))]
      exact lookI_of nd.2 h
/-- the least of each key -/
structure MinOf (cs D : List (Int × Int)) : Prop where
  nd : (D.map (·.1)).Nodup
  sub : ∀ q ∈ D, q ∈ cs
  dom : ∀ q ∈ cs, ∃ c, (q.1, c) ∈ D ∧ c ≤ q.2
theorem MinOf.add {cs D : List (Int × Int)} (h : MinOf cs D) (q : Int × Int) : MinOf (cs ++ [q]) (addMin D q) := by
  refine ⟨putI_nodup h.nd, fun z hz => ?_, fun z hz => ?_⟩
  · rcases putI_mem.mp hz with rfl | ⟨h1, _⟩
    · split
      · cases e : lookI q.1 D with
        | none => rename_i hlt; rw [e] at hlt; simp at hlt
        | some g => exact List.mem_append_left _ (h.sub _ (lookI_mem e))
      · exact List.mem_append_right _ (by simp)
    · exact List.mem_append_left _ (h.sub _ h1)
  · rcases List.mem_append.mp hz with hz | hz
    · obtain ⟨c, h1, h2⟩ := h.dom z hz
      by_cases hk : z.1 = q.1
      · rw [hk] at h1 ⊢
        have e := lookI_of h.nd h1
        refine ⟨_, putI_mem.mpr (.inl rfl), ?_⟩
        rw [e]
        simp only [Option.getD_some]
        split <;> omega
      · exact ⟨c, putI_mem.mpr (.inr ⟨h1, hk⟩), h2⟩
    · simp at hz
      subst hz
      refine ⟨_, putI_mem.mpr (.inl rfl), ?_⟩
      split <;> omega
theorem MinOf.fold : ∀ (ds cs D : List (Int × Int)), MinOf cs D → MinOf (cs ++ ds) (ds.foldl addMin D)
  | [], cs, D, h => by simpa using h
  | q :: ds, cs, D, h => by
    have := MinOf.fold ds (cs ++ [q]) (addMin D q) (h.add q)
    simpa using this
structure Stp where
  most : Int
  pump : Int
  low : Int
  high : Int
  price : Int
def candN (s : Stp) (q : Int × Int) (x : Nat) : List (Int × Int) := if s.low ≤ q.1 + x - s.most ∧ q.1 + x - s.most ≤ s.high then [(q.1 + x - s.most, q.2 + x * s.price)] else []
def cands (s : Stp) (q : Int × Int) : List (Int × Int) := (List.range (s.pump + 1).toNat).flatMap (candN s q)
def stepD (s : Stp) (d : List (Int × Int)) : List (Int × Int) := (d.flatMap (cands s)).foldl addMin []
theorem minOf_step (s : Stp) (d : List (Int × Int)) : MinOf (d.flatMap (cands s)) (stepD s d) := by
  have := MinOf.fold (d.flatMap (cands s)) [] [] ⟨List.nodup_nil, fun q h => (by cases h), fun q h => (by cases h)⟩
  simpa [stepD] using this
theorem addMin_len (D : List (Int × Int)) (q : Int × Int) : (addMin D q).length ≤ D.length + 1 := by
  unfold addMin putI
  split <;> simp
theorem fold_len : ∀ (ds D : List (Int × Int)), (ds.foldl addMin D).length ≤ D.length + ds.length
  | [], D => by simp
  | q :: ds, D => by
    have h1 := fold_len ds (addMin D q)
    have h2 := addMin_len D q
    simp only [List.foldl_cons, List.length_cons]
    omega
theorem candN_len (s : Stp) (q : Int × Int) (x : Nat) : (candN s q x).length ≤ 1 := by
  unfold candN; split <;> simp
theorem flat_len {α β : Type} (f : α → List β) (c : Nat) (h : ∀ x, (f x).length ≤ c) : ∀ xs : List α, (xs.flatMap f).length ≤ xs.length * c
  | [] => by simp
  | x :: xs => by
    have h1 := flat_len f c h xs
    have h2 := h x
    simp only [List.flatMap_cons, List.length_append, List.length_cons, Nat.add_mul]
    omega
theorem cands_len (s : Stp) (q : Int × Int) : (cands s q).length ≤ (s.pump + 1).toNat := by
  have := flat_len (candN s q) 1 (candN_len s q) (List.range (s.pump + 1).toNat)
  simpa [cands] using this
def Ok (s : Stp) (L : Int) (x : Int) : Prop := 0 ≤ x ∧ x ≤ s.pump ∧ s.low ≤ L + x - s.most ∧ L + x - s.most ≤ s.high
def Best : List Stp → Int → Int → Prop
  | [], _, v => v = 0
  | s :: ss, L, v => (∃ x u, Ok s L x ∧ Best ss (L + x - s.most) u ∧ v = x * s.price + u) ∧ ∀ x u, Ok s L x → Best ss (L + x - s.most) u → v ≤ x * s.price + u
theorem Best.uniq : ∀ {ss : List Stp} {L v w : Int}, Best ss L v → Best ss L w → v = w
  | [], _, _, _, h1, h2 => h1.trans h2.symm
  | s :: ss, L, v, w, ⟨⟨x, u, a1, a2, a3⟩, b1⟩, ⟨⟨y, z, c1, c2, c3⟩, d1⟩ => by
    have e1 := b1 y z c1 c2
    have e2 := d1 x u a1 a2
    omega
/-- the hours fit one behind another: from a level from lo to hi -/
def Chain : Int → Int → List (Stp × Int) → Prop
  | _, _, [] => True
  | lo, hi, (s, w) :: ss => 0 ≤ s.pump ∧ 0 ≤ s.price ∧ 0 ≤ w ∧ s.low + s.most - s.pump ≤ lo ∧ hi - s.most ≤ s.high ∧ s.low ≤ s.high ∧ Chain s.low (s.high + w) ss
theorem exists_least (P : Nat → Int → Prop) : ∀ n : Nat, (∀ x, x < n → ∀ v w, P x v → P x w → v = w) → (∃ x v, x < n ∧ P x v) → ∃ x v, x < n ∧ P x v ∧ ∀ y u, y < n → P y u → v ≤ u
  | 0, _, ⟨x, v, h, _⟩ => absurd h (Nat.not_lt_zero x)
  | n + 1, hu, h => by
    by_cases hp : ∃ x v, x < n ∧ P x v
    · obtain ⟨x, v, h1, h2, h3⟩ := exists_least P n (fun x hx => hu x (by omega)) hp
      by_cases hn : ∃ u, P n u ∧ u < v
      · obtain ⟨u, h4, h5⟩ := hn
        refine ⟨n, u, by omega, h4, fun y z hy hz => ?_⟩
        by_cases e : y = n
        · subst e
          rw [hu y (by omega) u z h4 hz]
          exact Int.le_refl _
        · have := h3 y z (by omega) hz
          omega
      · refine ⟨x, v, by omega, h2, fun y z hy hz => ?_⟩
        by_cases e : y = n
        · subst e
          by_cases q : z < v
          · exact (hn ⟨z, hz, q⟩).elim
          · omega
        · exact h3 y z (by omega) hz
    · obtain ⟨x, v, h1, h2⟩ := h
      have e : x = n := by
        by_cases e : x < n
        · exact (hp ⟨x, v, e, h2⟩).elim
        · omega
      subst e
      refine ⟨x, v, h1, h2, fun y z hy hz => ?_⟩
      by_cases e : y = x
      · subst e
        rw [hu y hy v z h2 hz]
        exact Int.le_refl _
      · exact (hp ⟨y, z, by omega, hz⟩).elim
theorem best_some : ∀ (ss : List (Stp × Int)) (lo hi L : Int), Chain lo hi ss → lo ≤ L → L ≤ hi → ∃ v, Best (ss.map (·.1)) L v
  | [], _, _, _, _, _, _ => ⟨0, rfl⟩
  | (s, w) :: ss, lo, hi, L, ⟨c1, c2, c3, c4, c5, c6, c7⟩, h1, h2 => by
    have ih := fun L h3 h4 => best_some ss s.low (s.high + w) L c7 h3 h4
    have key : ∃ (x : Nat) (v : Int), x < (s.pump + 1).toNat ∧ ∃ u, Ok s L x ∧ Best (ss.map (·.1)) (L + x - s.most) u ∧ v = x * s.price + u := by
      by_cases hq : s.low ≤ L - s.most
      · obtain ⟨u, hu⟩ := ih (L + (0 : Nat) - s.most) (by omega) (by omega)
        exact ⟨0, _, by omega, u, ⟨by omega, by omega, by omega, by omega⟩, hu, rfl⟩
      · obtain ⟨u, hu⟩ := ih (L + ((s.low - L + s.most).toNat : Nat) - s.most) (by omega) (by omega)
        exact ⟨(s.low - L + s.most).toNat, _, by omega, u, ⟨by omega, by omega, by omega, by omega⟩, hu, rfl⟩
    obtain ⟨x, v, h3, ⟨u, h4, h5, h6⟩, h7⟩ := exists_least (fun x v => ∃ u, Ok s L x ∧ Best (ss.map (·.1)) (L + x - s.most) u ∧ v = x * s.price + u) _ (fun x _ v w ⟨u, _, a1, a2⟩ ⟨z, _, b1, b2⟩ => by rw [a2, b2, a1.uniq b1]) key
    refine ⟨v, show Best (s :: ss.map (·.1)) L v from ⟨⟨x, u, h4, h5, h6⟩, fun y z hy hz => ?_⟩⟩
    have e : ((y.toNat : Nat) : Int) = y := by have := hy.1; omega
    have := h7 y.toNat (y * s.price + z) (by have := hy.2.1; have := hy.1; omega) ⟨z, by rw [e]; exact hy, by rw [e]; exact hz, by rw [e]⟩
    exact this
theorem best_anti : ∀ (ss : List (Stp × Int)) (lo hi L M v w : Int), Chain lo hi ss → lo ≤ L → L ≤ M → M ≤ hi → Best (ss.map (·.1)) L v → Best (ss.map (·.1)) M w → w ≤ v
  | [], _, _, _, _, v, w, _, _, _, _, h1, h2 => by
    have h1 : v = 0 := h1
    have h2 : w = 0 := h2
    omega
  | (s, e) :: ss, lo, hi, L, M, v, w, ⟨c1, c2, c3, c4, c5, c6, c7⟩, h1, h2, h3, hb1, hb2 => by
    have hb1 : Best (s :: ss.map (fun z : Stp × Int => z.1)) L v := hb1
    have hb2 : Best (s :: ss.map (fun z : Stp × Int => z.1)) M w := hb2
    obtain ⟨⟨x, u, a1, a2, a3⟩, _⟩ := hb1
    obtain ⟨_, b⟩ := hb2
    obtain ⟨o1, o2, o3, o4⟩ := a1
    by_cases hx : M - L ≤ x
    · have := b (x - (M - L)) u ⟨by omega, by omega, by omega, by omega⟩ (by rw [show M + (x - (M - L)) - s.most = L + x - s.most by omega]; exact a2)
      have e2 : (x - (M - L)) * s.price ≤ x * s.price := Int.mul_le_mul_of_nonneg_right (by omega) c2
      omega
    · obtain ⟨z, hz⟩ := best_some ss s.low (s.high + e) (M + 0 - s.most) c7 (by omega) (by omega)
      have ih := best_anti ss s.low (s.high + e) (L + x - s.most) (M + 0 - s.most) u z c7 o3 (by omega) (by omega) a2 hz
      have := b 0 z ⟨by omega, by omega, by omega, by omega⟩ hz
      have e2 : 0 ≤ x * s.price := Int.mul_nonneg o1 c2
      omega
/-- the least over a dict -/
def MinOver (d : List (Int × Int)) (ss : List Stp) (v : Int) : Prop := (∃ q u, q ∈ d ∧ Best ss q.1 u ∧ v = q.2 + u) ∧ ∀ q u, q ∈ d → Best ss q.1 u → v ≤ q.2 + u
theorem cand_of {s : Stp} {q z : Int × Int} : z ∈ cands s q ↔ ∃ x, Ok s q.1 x ∧ z = (q.1 + x - s.most, q.2 + x * s.price) := by
  unfold cands
  simp only [List.mem_flatMap, List.mem_range]
  constructor
  · rintro ⟨x, hx, hz⟩
    unfold candN at hz
    split at hz
    · rename_i h
      simp at hz
      exact ⟨x, ⟨by omega, by omega, h.1, h.2⟩, hz⟩
    · cases hz
  · rintro ⟨x, ⟨h1, h2, h3, h4⟩, rfl⟩
    have e : ((x.toNat : Nat) : Int) = x := by omega
    refine ⟨x.toNat, by omega, ?_⟩
    unfold candN
    rw [e, if_pos ⟨h3, h4⟩]
    simp
theorem minOver_step {s : Stp} {ss : List Stp} {d : List (Int × Int)} {v : Int} (he : ∀ q ∈ d, ∃ u, Best (s :: ss) q.1 u) (h : MinOver d (s :: ss) v) : MinOver (stepD s d) ss v := by
  have M := minOf_step s d
  have lower : ∀ q u, q ∈ stepD s d → Best ss q.1 u → v ≤ q.2 + u := by
    intro q u hq hu
    obtain ⟨z, hz, hc⟩ := List.mem_flatMap.mp (M.sub q hq)
    obtain ⟨x, hx, rfl⟩ := cand_of.mp hc
    obtain ⟨y, hy⟩ := he z hz
    have h1 := h.2 z y hz hy
    have h2 := hy.2 x u hx hu
    show v ≤ z.2 + x * s.price + u
    omega
  refine ⟨?_, lower⟩
  obtain ⟨⟨q, u, h1, ⟨⟨x, w, h2, h3, h4⟩, _⟩, h5⟩, _⟩ := h
  obtain ⟨c, h6, h7⟩ := M.dom (q.1 + x - s.most, q.2 + x * s.price) (List.mem_flatMap.mpr ⟨q, h1, cand_of.mpr ⟨x, h2, rfl⟩⟩)
  have h8 := lower _ w h6 h3
  refine ⟨_, w, h6, h3, ?_⟩
  have h7 : c ≤ q.2 + x * s.price := h7
  have h8 : v ≤ c + w := h8
  show v = c + w
  omega
theorem nodup_bound : ∀ (n : Nat) (l : List Int) (a : Int), l.Nodup → (∀ x ∈ l, a ≤ x ∧ x < a + n) → l.length ≤ n
  | 0, l, a, _, h => by
    cases l with
    | nil => simp
    | cons x l => have := h x List.mem_cons_self; omega
  | n + 1, l, a, nd, h => by
    have h1 := nodup_bound n (l.erase (a + n)) a (nd.erase _) (fun x hx => by
      have hm := (nd.mem_erase_iff).mp hx
      have := h x hm.2
      have := hm.1
      omega)
    rw [List.length_erase] at h1
    split at h1 <;> omega
theorem stepD_dom {s : Stp} {d : List (Int × Int)} : ∀ q ∈ stepD s d, s.low ≤ q.1 ∧ q.1 ≤ s.high := by
  intro q hq
  obtain ⟨z, hz, hc⟩ := List.mem_flatMap.mp ((minOf_step s d).sub q hq)
  obtain ⟨x, hx, rfl⟩ := cand_of.mp hc
  exact ⟨hx.2.2.1, hx.2.2.2⟩
theorem stepD_len {s : Stp} {d : List (Int × Int)} (h0 : 0 ≤ s.low) (h1 : s.high ≤ 60) : (stepD s d).length ≤ 61 := by
  have := nodup_bound 61 ((stepD s d).map (·.1)) 0 (minOf_step s d).nd (fun x hx => by
    obtain ⟨q, hq, rfl⟩ := List.mem_map.mp hx
    have := stepD_dom q hq
    omega)
  simpa using this
/-- forward through all hours -/
theorem fold_min : ∀ (ss : List (Stp × Int)) (lo hi : Int) (d : List (Int × Int)) (v : Int), Chain lo hi ss → (∀ q ∈ d, lo ≤ q.1 ∧ q.1 ≤ hi) → MinOver d (ss.map (·.1)) v → MinOver ((ss.map (·.1)).foldl (fun d s => stepD s d) d) [] v
  | [], _, _, d, v, _, _, h => h
  | (s, w) :: ss, lo, hi, d, v, c, hd, h => by
    obtain ⟨c1, c2, c3, c4, c5, c6, c7⟩ := id c
    refine fold_min ss s.low (s.high + w) (stepD s d) v c7 (fun q hq => ?_) (minOver_step (fun q hq => best_some ((s, w) :: ss) lo hi q.1 c (hd q hq).1 (hd q hq).2) h)
    have := stepD_dom q hq
    omega
def hAt (t : Tw) (k : Nat) : Hr := t.2.getD k ⟨0, 0, 0⟩
def PS (t : Tw) (k : Nat) : Int := ((wid t).take k).sum
theorem sum_app (xs ys : List Int) : (xs ++ ys).sum = xs.sum + ys.sum := by
  induction xs with
  | nil => simp
  | cons x xs ih => simp only [List.cons_append, List.sum_cons, ih]; omega
theorem take_drop_sum (xs : List Int) {a b : Nat} (h : a ≤ b) : ((xs.take b).drop a).sum = (xs.take b).sum - (xs.take a).sum := by
  have e := List.take_append_drop a (xs.take b)
  rw [List.take_take, Nat.min_eq_left h] at e
  have := congrArg List.sum e
  rw [sum_app] at this
  omega
theorem hAt_mem {t : Tw} {k : Nat} (h : k < t.2.length) : hAt t k ∈ t.2 ∧ t.2[k]? = some (hAt t k) := by
  unfold hAt
  rw [List.getD_eq_getElem?_getD, List.getElem?_eq_getElem h]
  exact ⟨List.getElem_mem h, rfl⟩
theorem drop_hAt {t : Tw} {k : Nat} (h : k < t.2.length) : t.2.drop k = hAt t k :: t.2.drop (k + 1) := by
  rw [List.drop_eq_getElem_cons h]
  congr 1
  have := (hAt_mem h).2
  rw [List.getElem?_eq_getElem h] at this
  exact Option.some.inj this
theorem PS_succ {t : Tw} {k : Nat} (h : k < t.2.length) : PS t (k + 1) = PS t k + ((hAt t k).hi - (hAt t k).lo) := by
  unfold PS
  rw [List.take_add_one, sum_app]
  congr 1
  have e : (wid t)[k]? = some ((hAt t k).hi - (hAt t k).lo) := by
    unfold wid
    rw [List.getElem?_map, (hAt_mem h).2]
    rfl
  rw [e]
  simp
theorem PS_mono {t : Tw} (ht : TwOk t) {a b : Nat} (h : a ≤ b) : PS t a ≤ PS t b := by
  have e := take_drop_sum (wid t) h
  have : 0 ≤ (((wid t).take b).drop a).sum := by
    have hall : ∀ x ∈ ((wid t).take b).drop a, 0 ≤ x := fun x hx => by
      have := List.mem_of_mem_take (List.mem_of_mem_drop hx)
      obtain ⟨h, hh, rfl⟩ := List.mem_map.mp this
      have := (ht.hr h hh).2.1
      omega
    generalize ((wid t).take b).drop a = l at hall
    induction l with
    | nil => simp
    | cons x xs ih =>
      have h1 := hall x List.mem_cons_self
      have h2 := ih fun y hy => hall y (List.mem_cons_of_mem _ hy)
      simp only [List.sum_cons]; omega
  unfold PS
  omega
theorem known_le {w : Wa} (h0 : 0 ≤ w.1) {h : Int} (hh : 0 ≤ h) : known w h ≤ h := by
  unfold known
  rcases List.mem_cons.mp (maxL_mem ((w.2.filter fun l => decide (l ≤ h)).map fun l => l - w.1) 0).1 with e | e
  · rw [e]; exact hh
  · obtain ⟨l, hl, e2⟩ := List.mem_map.mp e
    have := (List.mem_filter.mp hl).2
    simp at this
    rw [← e2]; omega
theorem known_mono (w : Wa) {a b : Int} (h : a ≤ b) : known w a ≤ known w b := by
  unfold known
  rcases List.mem_cons.mp (maxL_mem ((w.2.filter fun l => decide (l ≤ a)).map fun l => l - w.1) 0).1 with e | e
  · rw [e]; exact maxL_ge _ _
  · obtain ⟨l, hl, e2⟩ := List.mem_map.mp e
    obtain ⟨h1, h2⟩ := List.mem_filter.mp hl
    simp at h2
    rw [← e2]
    exact maxL_le _ _ _ (List.mem_map.mpr ⟨l, List.mem_filter.mpr ⟨h1, by simp; omega⟩, rfl⟩)
theorem doubt_eq {t : Tw} {w : Wa} (h0 : 0 ≤ w.1) (k : Nat) : doubt t w k = PS t (k + 1) - PS t (known w k).toNat := by
  unfold doubt PS
  have := known_le h0 (h := k) (by omega)
  exact take_drop_sum (wid t) (by omega)
theorem sums_shift : ∀ (hs : List Hr) (a : Int), sums a hs = (sums 0 hs).map (a + ·)
  | [], a => rfl
  | h :: hs, a => by
    show (a + h.hi - h.pu) :: sums (a + h.hi - h.pu) hs = _
    rw [sums_shift hs (a + h.hi - h.pu)]
    show _ = ((0 + h.hi - h.pu) :: sums (0 + h.hi - h.pu) hs).map (a + ·)
    rw [sums_shift hs (0 + h.hi - h.pu), List.map_cons, List.map_map]
    congr 1
    · omega
    · refine List.map_congr_left fun x _ => ?_
      simp; omega
theorem need_nonneg (t : Tw) (k : Nat) : 0 ≤ need t k := maxL_ge _ _
theorem need_step {t : Tw} {k : Nat} (h : k < t.2.length) : need t (k + 1) + (hAt t k).hi - (hAt t k).pu ≤ need t k := by
  unfold need
  rw [drop_hAt h]
  show _ ≤ maxL 0 ((0 + (hAt t k).hi - (hAt t k).pu) :: sums (0 + (hAt t k).hi - (hAt t k).pu) (t.2.drop (k + 1)))
  rw [sums_shift _ (0 + (hAt t k).hi - (hAt t k).pu)]
  rcases List.mem_cons.mp (maxL_mem (sums 0 (t.2.drop (k + 1))) 0).1 with e | e
  · rw [e]
    have := maxL_le 0 ((0 + (hAt t k).hi - (hAt t k).pu) :: (sums 0 (t.2.drop (k + 1))).map (0 + (hAt t k).hi - (hAt t k).pu + ·)) _ List.mem_cons_self
    omega
  · have := maxL_le 0 ((0 + (hAt t k).hi - (hAt t k).pu) :: (sums 0 (t.2.drop (k + 1))).map (0 + (hAt t k).hi - (hAt t k).pu + ·)) _ (List.mem_cons_of_mem _ (List.mem_map.mpr ⟨_, e, rfl⟩))
    omega
def stpAt (t : Tw) (w : Wa) (ps : List Int) (k : Nat) : Stp := ⟨(hAt t k).hi, (hAt t k).pu, need t (k + 1), t.1 - doubt t w k, ps.getD k 0⟩
/-- how much may come to be known ahead of the next hour -/
def wideAt (t : Tw) (w : Wa) (k : Nat) : Int := PS t (known w (k + 1 : Nat)).toNat - PS t (known w k).toNat
def chn (t : Tw) (w : Wa) (ps : List Int) (k : Nat) : List (Stp × Int) := ((List.range t.2.length).drop k).map fun k => (stpAt t w ps k, wideAt t w k)
def hiAt (t : Tw) (w : Wa) : Nat → Int
  | 0 => t.1
  | k + 1 => t.1 - doubt t w k + wideAt t w k
theorem wide_nonneg {t : Tw} (ht : TwOk t) (w : Wa) (k : Nat) : 0 ≤ wideAt t w k := by
  have h1 := known_mono w (a := k) (b := (k + 1 : Nat)) (by omega)
  have h2 := PS_mono ht (a := (known w k).toNat) (b := (known w (k + 1 : Nat)).toNat) (by omega)
  unfold wideAt
  omega
theorem hi_step {t : Tw} {w : Wa} (ht : TwOk t) (h0 : 0 ≤ w.1) {k : Nat} (h : k < t.2.length) : hiAt t w k - (hAt t k).hi ≤ t.1 - doubt t w k := by
  have h1 := PS_succ h
  have h2 := (ht.hr _ (hAt_mem h).1).1
  rw [doubt_eq h0]
  cases k with
  | zero =>
    have e : known w ((0 : Nat) : Int) = 0 := by
      have a := known_le h0 (h := ((0 : Nat) : Int)) (by omega)
      have b := known_nonneg w ((0 : Nat) : Int)
      omega
    rw [e]
    have e2 : PS t 0 = 0 := by simp [PS]
    have e3 : (0 : Int).toNat = 0 := rfl
    rw [e3, e2]
    show t.1 - _ ≤ _
    rw [e2] at h1
    omega
  | succ k =>
    show t.1 - doubt t w k + wideAt t w k - _ ≤ _
    rw [doubt_eq h0]
    unfold wideAt
    omega
theorem chain_at {t : Tw} {w : Wa} {ps : List Int} (ht : TwOk t) (h0 : 0 ≤ w.1) (hps : ∀ p ∈ ps, 0 ≤ p) {v : Int} (hk : Kept t w v) : ∀ (m k : Nat), m + k = t.2.length → Chain (need t k) (hiAt t w k) (chn t w ps k)
  | 0, k, e => by
    unfold chn
    rw [List.drop_eq_nil_of_le (by simp; omega)]
    trivial
  | m + 1, k, e => by
    have hk2 : k < t.2.length := by omega
    have ih := chain_at ht h0 hps hk m (k + 1) (by omega)
    have ec : chn t w ps k = (stpAt t w ps k, wideAt t w k) :: chn t w ps (k + 1) := by
      unfold chn
      rw [List.drop_eq_getElem_cons (by simpa using hk2)]
      simp
    rw [ec]
    have hh := ht.hr _ (hAt_mem hk2).1
    refine ⟨hh.2.2.2.1, ?_, wide_nonneg ht w k, need_step hk2, hi_step ht h0 hk2, ?_, ih⟩
    · show 0 ≤ ps.getD k 0
      rw [List.getD_eq_getElem?_getD]
      cases e : ps[k]? with
      | none => simp
      | some p => exact hps p (List.mem_of_getElem? e)
    · have := hk.2 k hk2
      show need t (k + 1) ≤ t.1 - doubt t w k
      omega
def stps (t : Tw) (w : Wa) (ps : List Int) : List Stp := (List.range t.2.length).map (stpAt t w ps)
theorem chn_fst (t : Tw) (w : Wa) (ps : List Int) : (chn t w ps 0).map (·.1) = stps t w ps := by
  unfold chn stps
  rw [List.drop_zero, List.map_map]
  rfl
theorem zip3_rows (t : Tw) (f : Nat → PV) (ps : List Int) (h : ps.length = t.2.length) : zipP3 (t.2.map pHr) ((List.range t.2.length).map f) (ps.map .int) = (List.range t.2.length).map fun k => .tup [pHr (hAt t k), f k, .int (ps.getD k 0)] := by
  apply List.ext_getElem?
  intro k
  by_cases hk : k < t.2.length
  · have hz : k < (zipP3 (t.2.map pHr) ((List.range t.2.length).map f) (ps.map .int)).length := by
      rw [zipP3_len]; simp; omega
    obtain ⟨x, y, z, h1, h2, h3, h4⟩ := zipP3_get _ _ _ k _ (List.getElem?_eq_getElem hz)
    rw [List.getElem?_eq_getElem hz, h4]
    rw [List.getElem?_map, (hAt_mem hk).2] at h1
    rw [List.getElem?_map, List.getElem?_range hk] at h2
    have hp : k < ps.length := by omega
    rw [List.getElem?_map, List.getElem?_eq_getElem hp] at h3
    cases h1; cases h2; cases h3
    rw [List.getElem?_map, List.getElem?_range hk]
    simp [List.getD_eq_getElem?_getD, List.getElem?_eq_getElem hp]
  · rw [List.getElem?_eq_none (by rw [zipP3_len]; simp; omega), List.getElem?_eq_none (by simp; omega)]
theorem PS_le {t : Tw} {w : Wa} (ht : TwOk t) (h0 : 0 ≤ w.1) (k : Nat) : 0 ≤ doubt t w k := by
  rw [doubt_eq h0]
  have := known_le h0 (h := k) (by omega)
  have := PS_mono ht (a := (known w k).toNat) (b := k + 1) (by omega)
  omega
theorem minOver_vals {d : List (Int × Int)} {v : Int} (h : MinOver d [] v) : vblt .min1 [.lst ((encD d).map (·.2))] = some (.int v) := by
  have e : (encD d).map (·.2) = (d.map (·.2)).map PV.int := by
    unfold encD
    rw [List.map_map, List.map_map]
    rfl
  obtain ⟨⟨q, u, h1, h2, h3⟩, h4⟩ := h
  have h2 : u = 0 := h2
  have hne : d.map (·.2) ≠ [] := by
    intro z
    have : q.2 ∈ d.map (·.2) := List.mem_map.mpr ⟨q, h1, rfl⟩
    rw [z] at this
    cases this
  obtain ⟨m, a1, a2, a3⟩ := min_ints hne
  rw [e, a1]
  obtain ⟨z, hz, e2⟩ := List.mem_map.mp a2
  have b1 := h4 z 0 hz rfl
  have b2 := a3 q.2 (List.mem_map.mpr ⟨q, h1, rfl⟩)
  congr 2
  omega
def oPV : Option Int → PV
  | none => .non
  | some i => .int i
theorem looks_len {n : Nat} {w : Wa} (hw : WaOk n w) : w.2.length ≤ n :=
  nodup_bound n w.2 0 (hw.asc.imp fun h => by omega) (fun x hx => by have := hw.rg x hx; omega)
/-- the worst price -/
def Worst (t : Tw) (w : Wa) (v : Int) (ps : List Int) : Option Int → Prop
  | none => ¬ Kept t w v
  | some m => Kept t w v ∧ Best (stps t w ps) v m
theorem veq_l0n (x : PV) (h : dat 59 x = true) : veq (.lst [x]) (.lst []) = some false := veq_lst0 (by simp [dat, h])
theorem wa_more {n : Nat} {w : Wa} (hw : WaOk n w) {h : Int} (h0 : 0 ≤ h) (h1 : h < n) : WaOk n (w.1, ascI (w.2 ++ [h])) :=
  ⟨hw.l1, hw.l2, ascI_asc _, fun l hl => by
    rcases List.mem_append.mp (ascI_mem.mp hl) with hl | hl
    · exact hw.rg l hl
    · simp at hl; subst hl; exact ⟨h0, h1⟩⟩
/-- what a look more is worth -/
def lessV : Option Int → Option Int → PV
  | some a, some b => .int (a - b)
  | none, _ => .non
  | some _, none => .bl false
theorem m_l_hours (n : Nat) (t : Tw) (mu : List SO) : Ph TT exL (n + 1) j__law_hours [pTw t] mu = .ok (.int t.2.length) mu := by
  rw [ph (fi := d__law_hours.fi) rfl]
  simp -implicitDefEqProofs [DD.fi, d__law_hours, ir__law_hours]
theorem m_l_width (n : Nat) (t : Tw) (k : Nat) (hk : k < t.2.length) (mu : List SO) : Ph TT exL (n + 1) j__law_width [pTw t, .int k] mu = .ok (.int ((hAt t k).hi - (hAt t k).lo)) mu := by
  rw [ph (fi := d__law_width.fi) rfl]
  simp -implicitDefEqProofs [DD.fi, d__law_width, ir__law_width, (hAt_mem hk).2]
theorem maxL_snoc (x : Int) : ∀ (xs : List Int) (m : Int), maxL m (xs ++ [x]) = if maxL m xs < x then x else maxL m xs
  | [], m => rfl
  | y :: xs, m => maxL_snoc x xs _
theorem m_l_need (n : Nat) (t : Tw) (h : Int) (k : Nat) (hk : h + 1 = k) (mu : List SO) : Ph TT exL (n + 1) j__law_need [pTw t, .int h] mu = .ok (.int (need t k)) mu := by
  rw [ph (fi := d__law_need.fi) rfl]
  generalize Ph TT exL n = Φ
  simp -implicitDefEqProofs [DD.fi, d__law_need, ir__law_need, map_cut, hk]
  rw [cut_from _ (by omega)]
  generalize hL : loopS _ _ _ _ = r
  obtain ⟨s', rfl, a, b, c, rfl⟩ := loop_typed hL pHr (t.2.drop k) (by simp) (fun done todo s => ∃ a b c, s = ⟨[some (pTw t), some (.int h), some (.int (maxL 0 (sums 0 done))), some (.int (tot 0 done)), a, b, c], [], [], mu⟩) ⟨none, none, none, rfl⟩ (fun done x todo s hx hI => by
    obtain ⟨a, b, c, rfl⟩ := hI
    refine ⟨_, by simp -implicitDefEqProofs [pHr]; rfl, nx_of ?_⟩
    rw [sums_snoc, tot_snoc, maxL_snoc]
    exact ⟨_, by simp -implicitDefEqProofs; rfl, some (.int x.lo), some (.int x.hi), some (.int x.pu), by simp⟩)
  simp -implicitDefEqProofs [need]
theorem m_l_known (n : Nat) (w : Wa) (h : Int) (mu : List SO) (hw : w.2.length ≤ 1000) : Ph TT exL (n + 1) j__law_known [pWa w, .int h] mu = .ok (.int (known w h)) mu := by
  rw [ph (fi := d__law_known.fi) rfl]
  generalize Ph TT exL n = Φ
  simp -implicitDefEqProofs [DD.fi, d__law_known, ir__law_known]
  generalize hC : ev _ (IE.comp _ _ _ _ _) _ = r
  obtain rfl := comp_from hC PV.int (fun l => if l ≤ h then some (.int (l - w.1)) else none) w.2 (by simp -implicitDefEqProofs) (by simp -implicitDefEqProofs) (by simp -implicitDefEqProofs) (by simp -implicitDefEqProofs) (by omega) (fun l _ => by
    by_cases hl : l ≤ h <;> simp -implicitDefEqProofs [turn, hl])
  have hlen : (w.2.filter fun l => decide (l ≤ h)).length ≤ w.2.length := List.length_filter_le _ _
  have e := max_cons0 ((w.2.filter fun l => decide (l ≤ h)).map fun l => l - w.1)
  rw [List.map_map] at e
  have e2 : 1 + (w.2.filter fun l => decide (l ≤ h)).length ≤ 100000 := by omega
  simp -implicitDefEqProofs [fm_if, e2, known]
  have e3 : (PV.int ∘ fun l => l - w.1) = fun l => PV.int (l - w.1) := rfl
  rw [e3] at e
  rw [e]
  simp -implicitDefEqProofs
theorem wid_range (t : Tw) (a b : Nat) (hb : b ≤ t.2.length) : ((List.range (b - a)).map fun k => (hAt t (a + k)).hi - (hAt t (a + k)).lo) = ((wid t).take b).drop a := by
  apply List.ext_getElem?
  intro i
  by_cases hi : i < b - a
  · rw [List.getElem?_map, List.getElem?_range hi, List.getElem?_drop, List.getElem?_take, if_pos (by omega)]
    unfold wid
    rw [List.getElem?_map, (hAt_mem (t := t) (k := a + i) (by omega)).2]
    rfl
  · rw [List.getElem?_eq_none (by simp; omega), List.getElem?_eq_none (by simp [wid]; omega)]
theorem m_l_doubt (n : Nat) (t : Tw) (w : Wa) (k : Nat) (hk : k < t.2.length) (mu : List SO) (ht : TwOk t) (hw : WaOk t.2.length w) : Ph TT exL (n + 2) j__law_doubt [pTw t, pWa w, .int k] mu = .ok (.int (doubt t w k)) mu := by
  have hwl : w.2.length ≤ 1000 := by have := looks_len hw; have := ht.n2; omega
  have h1 := known_nonneg w k
  have h2 := known_le hw.l1 (h := k) (by omega)
  have tl := ht.n2
  rw [ph (fi := d__law_doubt.fi) rfl]
  have c1 := fun mu => m_l_known n w k mu hwl
  have c2 := fun k hk mu => m_l_width n t k hk mu
  generalize Ph TT exL (n + 1) = Φ at c1 c2 ⊢
  have i1 : IntOk (known w k) := by unfold IntOk; omega
  have i2 : IntOk ((k : Int) + 1) := by unfold IntOk; omega
  have i3 : (k : Int) + 1 - known w k ≤ 100000 := by omega
  have i4 : ¬ (k : Int) < 0 := by omega
  have e1 : ((k : Int) + 1 - known w k).toNat = k + 1 - (known w k).toNat := by omega
  simp -implicitDefEqProofs [DD.fi, d__law_doubt, ir__law_doubt, i4]
  generalize hC : ev _ (IE.comp _ _ _ _ _) _ = r
  obtain rfl := comp_map hC (fun j : Nat => .int (known w k + j)) (fun j : Nat => .int ((hAt t ((known w k).toNat + j)).hi - (hAt t ((known w k).toNat + j)).lo)) (List.range (k + 1 - (known w k).toNat)) (by simp -implicitDefEqProofs [c1, i1, i2, i3, rangeI, e1]) (by simp -implicitDefEqProofs) (by simp -implicitDefEqProofs) (by simp -implicitDefEqProofs) (by simp; omega) (fun j hj => by
    have hj : j < k + 1 - (known w k).toNat := by simpa using hj
    have c3 := c2 ((known w k).toNat + j) (by omega) mu
    rw [show (((known w k).toNat + j : Nat) : Int) = known w k + j by omega] at c3
    simp -implicitDefEqProofs [turn, c3])
  have e5 : (List.range (k + 1 - (known w k).toNat)).map (fun j : Nat => PV.int ((hAt t ((known w k).toNat + j)).hi - (hAt t ((known w k).toNat + j)).lo)) = (((wid t).take (k + 1)).drop (known w k).toNat).map PV.int := by
    rw [← wid_range t _ _ (by omega), List.map_map]
    rfl
  rw [e5]
  simp -implicitDefEqProofs [doubt, -List.map_drop, -List.map_take]
theorem m_l_too_much (n : Nat) (t : Tw) (w : Wa) (mu : List SO) (ht : TwOk t) (hw : WaOk t.2.length w) : Ph TT exL (n + 3) j__law_too_much [pTw t, pWa w] mu = .ok (.lst (((List.range t.2.length).filter fun k => decide (need t (k + 1) + doubt t w k > t.1)).map fun k : Nat => .int k)) mu := by
  have tl := ht.n2
  rw [ph (fi := d__law_too_much.fi) rfl]
  have c1 := fun mu => m_l_hours (n + 1) t mu
  have c2 := fun k mu => m_l_need (n + 1) t (k : Nat) (k + 1) rfl mu
  have c3 := fun k hk mu => m_l_doubt n t w k hk mu ht hw
  generalize Ph TT exL (n + 2) = Φ at c1 c2 c3 ⊢
  have i1 : IntOk (t.2.length : Int) := by unfold IntOk; omega
  have i2 : (t.2.length : Int) ≤ 100000 := by omega
  simp -implicitDefEqProofs [DD.fi, d__law_too_much, ir__law_too_much, c1, i1, i2, range_enc]
  generalize hC : ev _ (IE.comp _ _ _ _ _) _ = r
  obtain rfl := comp_from hC (fun k : Nat => .int k) (fun k : Nat => if need t (k + 1) + doubt t w k > t.1 then some (.int k) else none) (List.range t.2.length) (by simp -implicitDefEqProofs) (by simp -implicitDefEqProofs) (by simp -implicitDefEqProofs) (by simp -implicitDefEqProofs) (by simp; omega) (fun k hk => by
    have hk : k < t.2.length := by simpa using hk
    by_cases h : t.1 < need t (k + 1) + doubt t w k <;> simp -implicitDefEqProofs [turn, c2, c3 k hk, h])
  simp -implicitDefEqProofs [fm_if]
theorem dat_nats (k : Nat) (xs : List Nat) : dat (k + 1) (.lst (xs.map fun k : Nat => PV.int k)) = true := by
  simp only [dat, List.all_map, List.all_eq_true]
  intro x _
  show dat k (.int x) = true
  cases k <;> rfl
theorem m_l_can_keep (n : Nat) (t : Tw) (w : Wa) (v : Int) (mu : List SO) (ht : TwOk t) (hw : WaOk t.2.length w) : Ph TT exL (n + 4) j__law_can_keep [pTw t, pWa w, .int v] mu = .ok (.bl (decide (Kept t w v))) mu := by
  rw [ph (fi := d__law_can_keep.fi) rfl]
  have c1 := fun mu => m_l_need (n + 2) t (-1) 0 rfl mu
  have c2 := fun mu => m_l_too_much n t w mu ht hw
  generalize Ph TT exL (n + 3) = Φ at c1 c2 ⊢
  have e := veq_lst0 (dat_nats 59 ((List.range t.2.length).filter fun k => decide (need t (k + 1) + doubt t w k > t.1)))
  by_cases h : need t 0 ≤ v
  · simp -implicitDefEqProofs [DD.fi, d__law_can_keep, ir__law_can_keep, c1, c2, h]
    simp -implicitDefEqProofs at e
    rw [e]
    simp -implicitDefEqProofs [Kept, h]
    rw [Bool.eq_iff_iff, List.isEmpty_iff, List.filter_eq_nil_iff, decide_eq_true_eq]
    constructor
    · intro z k hk
      have := z k (List.mem_range.mpr hk)
      simp at this
      omega
    · intro z k hk
      have := z k (List.mem_range.mp hk)
      simp
      omega
  · simp -implicitDefEqProofs [DD.fi, d__law_can_keep, ir__law_can_keep, c1, c2, h, Kept]
def loN (s : Stp) (L : Int) : Int := if s.low - L + s.most > 0 then s.low - L + s.most else 0
def hiN (s : Stp) (L : Int) : Int := if s.high - L + s.most < s.pump then s.high - L + s.most else s.pump
def allS : List (Option Int) → Option (List Int)
  | [] => some []
  | some a :: r => (allS r).map (a :: ·)
  | none :: _ => none
def laterL (wd : Nat) (B : Int → Option Int) (to : Int) : List (Option Int) := (List.range (wd + 1)).map fun m => B (to + (m : Nat))
def worthAt (s : Stp) (wd : Nat) (B : Int → Option Int) (L x : Int) : Option Int := match allS (laterL wd B (L - s.most + x)) with
  | some (v :: vs) => some (x * s.price + maxL v vs)
  | _ => none
def nums (s : Stp) (L : Int) : List Int := (List.range (hiN s L + 1 - loN s L).toNat).map fun i : Nat => loN s L + i
def leastO : List Int → Option Int
  | [] => none
  | v :: vs => some (minL v vs)
def WL (s : Stp) (wd : Nat) (B : Int → Option Int) (L : Int) : Option Int := if loN s L ≤ hiN s L then leastO ((nums s L).filterMap (worthAt s wd B L)) else none
def stepB (s : Stp) (wd : Nat) (B : Int → Option Int) : Int → Option Int := fun L => if -60 ≤ L ∧ L < 61 then WL s wd B L else none
def rangeV (s : Stp) (L : Int) : PV := if loN s L ≤ hiN s L then .tup [.int (loN s L), .int (hiN s L)] else .non
theorem m_l_range (n : Nat) (t : Tw) (w : Wa) (ps : List Int) (k : Nat) (hk : k < t.2.length) (L : Int) (mu : List SO) (ht : TwOk t) (hw : WaOk t.2.length w) : Ph TT exL (n + 3) j__law_range [pTw t, pWa w, .int k, .int L] mu = .ok (rangeV (stpAt t w ps k) L) mu := by
  rw [ph (fi := d__law_range.fi) rfl]
  have c1 := fun mu => m_l_need (n + 1) t (k : Nat) (k + 1) rfl mu
  have c2 := fun mu => m_l_doubt n t w k hk mu ht hw
  generalize Ph TT exL (n + 2) = Φ at c1 c2 ⊢
  have e1 : (if 0 < need t (k + 1) - L + (hAt t k).hi then need t (k + 1) - L + (hAt t k).hi else 0) = loN (stpAt t w ps k) L := rfl
  have e2 : (if t.1 - doubt t w k - L + (hAt t k).hi < (hAt t k).pu then t.1 - doubt t w k - L + (hAt t k).hi else (hAt t k).pu) = hiN (stpAt t w ps k) L := rfl
  by_cases h : loN (stpAt t w ps k) L ≤ hiN (stpAt t w ps k) L
  · simp -implicitDefEqProofs [DD.fi, d__law_range, ir__law_range, c1, c2, (hAt_mem hk).2, e1, e2, h, rangeV]
  · simp -implicitDefEqProofs [DD.fi, d__law_range, ir__law_range, c1, c2, (hAt_mem hk).2, e1, e2, h, rangeV]
theorem look_put_same {κ : Type} [DecidableEq κ] (k : κ) (v : PV) : ∀ d : List (κ × PV), look k (put k v d) = some v := by
  intro d
  unfold put
  split
  · rename_i h
    induction d with
    | nil => simp at h
    | cons q d ih =>
      obtain ⟨j, u⟩ := q
      by_cases e : j = k
      · subst e; simp [look]
      · have h : (d.any fun kv => decide (kv.1 = k)) = true := by simpa [e] using h
        simp only [List.map_cons, if_neg e, look]
        rw [if_neg (Ne.symm e)]
        exact ih h
  · rename_i h
    induction d with
    | nil => simp [look]
    | cons q d ih =>
      obtain ⟨j, u⟩ := q
      have e : j ≠ k := fun e => h (by simp [e])
      simp only [List.cons_append, look]
      rw [if_neg (Ne.symm e)]
      exact ih (fun z => h (by simp only [List.any_cons, z, Bool.or_true]))
theorem look_map_ne {κ : Type} [DecidableEq κ] {k i : κ} (hne : i ≠ k) (v : PV) : ∀ d : List (κ × PV), look i (d.map fun kv => if kv.1 = k then (kv.1, v) else kv) = look i d
  | [] => rfl
  | (j, u) :: d => by
    by_cases e : j = k
    · subst e
      simp only [List.map_cons, if_true, look]
      rw [if_neg hne, if_neg hne]
      exact look_map_ne hne v d
    · simp only [List.map_cons, if_neg e, look, look_map_ne hne v d]
theorem look_app_ne {κ : Type} [DecidableEq κ] {k i : κ} (hne : i ≠ k) (v : PV) : ∀ d : List (κ × PV), look i (d ++ [(k, v)]) = look i d
  | [] => by simp [look, hne]
  | (j, u) :: d => by simp only [List.cons_append, look, look_app_ne hne v d]
theorem look_put_ne {κ : Type} [DecidableEq κ] {k i : κ} (hne : i ≠ k) (v : PV) (d : List (κ × PV)) : look i (put k v d) = look i d := by
  unfold put
  split
  · exact look_map_ne hne v d
  · exact look_app_ne hne v d
theorem put_len {κ : Type} [DecidableEq κ] (k : κ) (v : PV) (d : List (κ × PV)) : (put k v d).length ≤ d.length + 1 := by
  unfold put
  split <;> simp
theorem plainK_all : ∀ {d : List (Key × PV)}, plainK d = d.all fun q => q.2.plain
  | [] => rfl
  | (k, v) :: d => by simp [plainK, plainK_all (d := d)]
theorem put_plain {k : Key} {v : PV} {d : List (Key × PV)} (h : plainK d = true) (hv : v.plain = true) : plainK (put k v d) = true := by
  rw [plainK_all, List.all_eq_true] at h ⊢
  intro q hq
  unfold put at hq
  split at hq
  · obtain ⟨z, hz, rfl⟩ := List.mem_map.mp hq
    split
    · exact hv
    · exact h z hz
  · rcases List.mem_append.mp hq with hq | hq
    · exact h q hq
    · simp at hq; subst hq; exact hv
@[simp] theorem plain_dct (d : List (Key × PV)) : (PV.dct d).plain = plainK d := by simp [PV.plain]
@[simp] theorem plain_oPV (o : Option Int) : (oPV o).plain = true := by cases o <;> simp [oPV]
structure RepB (d : List (Key × PV)) (B : Int → Option Int) : Prop where
  get : ∀ l : Int, (look (Sum.inl l : Key) d).getD .non = oPV (B l)
  pl : plainK d = true
  len : d.length ≤ 200
theorem allS_none : ∀ {l : List (Option Int)}, allS l = none ↔ none ∈ l
  | [] => by simp [allS]
  | none :: r => by simp [allS]
  | some a :: r => by simp [allS, allS_none (l := r)]
theorem allS_some : ∀ {l : List (Option Int)} {vs : List Int}, allS l = some vs → l = vs.map some
  | [], vs, h => by cases h; rfl
  | none :: r, vs, h => by cases h
  | some a :: r, vs, h => by
    simp only [allS, Option.map_eq_some_iff] at h
    obtain ⟨us, h1, rfl⟩ := h
    simp [allS_some h1]
theorem vin_oPV (l : List (Option Int)) : vin .non (.lst (l.map oPV)) = some (decide (none ∈ l)) := by
  have e : (l.map oPV).all PV.flat = true := by
    rw [List.all_map, List.all_eq_true]
    intro o _
    cases o <;> rfl
  show (if (PV.non.flat && (l.map oPV).all PV.flat) = true then some ((l.map oPV).any fun y => eqP y .non) else none) = _
  rw [e]
  simp only [PV.flat, Bool.and_true, if_true]
  congr 1
  rw [List.any_map, Bool.eq_iff_iff, List.any_eq_true, decide_eq_true_eq]
  constructor
  · rintro ⟨o, ho, h⟩
    cases o with
    | none => exact ho
    | some a => cases h
  · intro h
    exact ⟨none, h, rfl⟩
def B0 : Int → Option Int := fun L => if -60 ≤ L ∧ L < 61 then some 0 else none
def wdAt (t : Tw) (w : Wa) (k : Nat) : Nat := if k + 1 < t.2.length then (wideAt t w k).toNat else 0
def lawB (t : Tw) (w : Wa) (ps : List Int) : Nat → Int → Option Int
  | 0 => B0
  | j + 1 => stepB (stpAt t w ps (t.2.length - 1 - j)) (wdAt t w (t.2.length - 1 - j)) (lawB t w ps j)
theorem range_at {n x : Nat} {d td : List Nat} (h : List.range n = d ++ x :: td) : x = d.length ∧ x < n := by
  have h1 : (List.range n)[d.length]? = some x := by rw [h]; simp
  obtain ⟨h2, h3⟩ := List.getElem?_eq_some_iff.mp h1
  simp at h2 h3
  exact ⟨h3.symm, by omega⟩
theorem repB_put {d : List (Key × PV)} {j : Nat} {W : Int → Option Int} {L : Int} (hL : L = -60 + j) (hlen : d.length ≤ j) (hj : j < 121) (g : ∀ l : Int, (look (Sum.inl l : Key) d).getD .non = oPV (if -60 ≤ l ∧ l < -60 + j then W l else none)) :
    ∀ l : Int, (look (Sum.inl l : Key) (put (Sum.inl L) (oPV (W L)) d)).getD .non = oPV (if -60 ≤ l ∧ l < -60 + (j + 1 : Nat) then W l else none) := by
  intro l
  by_cases e : l = L
  · subst e
    rw [look_put_same, if_pos ⟨by omega, by omega⟩]
    rfl
  · rw [look_put_ne (by simpa using e), g l]
    congr 1
    by_cases h : -60 ≤ l ∧ l < -60 + (j : Int)
    · rw [if_pos h, if_pos ⟨h.1, by omega⟩]
    · rw [if_neg h, if_neg (fun z => h ⟨z.1, by omega⟩)]
theorem repB_skip {d : List (Key × PV)} {j : Nat} {W : Int → Option Int} {L : Int} (hL : L = -60 + j) (hW : W L = none) (g : ∀ l : Int, (look (Sum.inl l : Key) d).getD .non = oPV (if -60 ≤ l ∧ l < -60 + j then W l else none)) :
    ∀ l : Int, (look (Sum.inl l : Key) d).getD .non = oPV (if -60 ≤ l ∧ l < -60 + (j + 1 : Nat) then W l else none) := by
  intro l
  rw [g l]
  congr 1
  by_cases e : l = L
  · subst e
    rw [if_neg (fun z => by omega), if_pos ⟨by omega, by omega⟩, hW]
  · by_cases h : -60 ≤ l ∧ l < -60 + (j : Int)
    · rw [if_pos h, if_pos ⟨h.1, by omega⟩]
    · rw [if_neg h, if_neg (fun z => h ⟨z.1, by omega⟩)]
theorem leastO_min {ws : List Int} (h : ws ≠ []) : vblt .min1 [.lst (ws.map .int)] = some (oPV (leastO ws)) := by
  cases ws with
  | nil => exact (h rfl).elim
  | cons v vs => exact b_min1 v vs
theorem loN_nonneg (s : Stp) (L : Int) : 0 ≤ loN s L := by unfold loN; split <;> omega
theorem hiN_le (s : Stp) (L : Int) : hiN s L ≤ s.pump := by unfold hiN; split <;> omega
theorem PS_le30 {t : Tw} (ht : TwOk t) : ∀ k ≤ t.2.length, PS t k ≤ 30 * k
  | 0, _ => by simp [PS]
  | k + 1, h => by
    have ih := PS_le30 ht k (by omega)
    rw [PS_succ (by omega)]
    have := ht.hr _ (hAt_mem (t := t) (k := k) (by omega)).1
    obtain ⟨a, b, c, _⟩ := this
    omega
theorem wdAt_le {t : Tw} {w : Wa} (ht : TwOk t) (h0 : 0 ≤ w.1) {k : Nat} (hk : k < t.2.length) : wdAt t w k ≤ 400 := by
  unfold wdAt
  split
  · rename_i h
    have h1 := known_le h0 (h := (k + 1 : Nat)) (by omega)
    have h2 := known_nonneg w (k + 1 : Nat)
    have h3 := PS_le30 ht (known w (k + 1 : Nat)).toNat (by omega)
    have h4 := PS_mono ht (a := 0) (b := (known w k).toNat) (by omega)
    have h5 : PS t 0 = 0 := by simp [PS]
    have h6 := ht.n2
    unfold wideAt
    omega
  · omega
theorem ok_iff {s : Stp} {L x : Int} : Ok s L x ↔ loN s L ≤ x ∧ x ≤ hiN s L := by
  unfold Ok loN hiN
  split <;> split <;> omega
theorem nums_mem {s : Stp} {L x : Int} : x ∈ nums s L ↔ Ok s L x := by
  rw [ok_iff]
  unfold nums
  simp only [List.mem_map, List.mem_range]
  constructor
  · rintro ⟨i, hi, rfl⟩; omega
  · intro h; exact ⟨(x - loN s L).toNat, by omega, by omega⟩
theorem allS_map : ∀ vs : List Int, allS (vs.map some) = some vs
  | [] => rfl
  | v :: vs => by simp [allS, allS_map vs]
theorem worth_at {s : Stp} {w : Int} {wd : Nat} {B : Int → Option Int} {ss : List (Stp × Int)} {L x u : Int} (hc : Chain s.low (s.high + w) ss) (hwd : (wd : Int) ≤ w) (hB : ∀ M, s.low ≤ M → M ≤ s.high + wd → ∃ v, B M = some v ∧ Best (ss.map (·.1)) M v) (hx : Ok s L x) (hu : Best (ss.map (·.1)) (L + x - s.most) u) : worthAt s wd B L x = some (x * s.price + u) := by
  obtain ⟨h1, h2, h3, h4⟩ := hx
  have e0 : L - s.most + x = L + x - s.most := by omega
  have key : ∀ m : Nat, m < wd + 1 → ∃ v, B (L + x - s.most + (m : Nat)) = some v ∧ v ≤ u := by
    intro m hm
    obtain ⟨v, h5, h6⟩ := hB (L + x - s.most + (m : Nat)) (by omega) (by omega)
    exact ⟨v, h5, best_anti ss s.low (s.high + w) _ _ u v hc (by omega) (by omega) (by omega) hu h6⟩
  have e1 : laterL wd B (L - s.most + x) = (((List.range (wd + 1)).map fun m : Nat => (B (L + x - s.most + (m : Nat))).getD 0)).map some := by
    unfold laterL
    rw [List.map_map, e0]
    refine List.map_congr_left fun m hm => ?_
    obtain ⟨v, h5, _⟩ := key m (by simpa using hm)
    rw [h5]
    simp [h5]
  unfold worthAt
  rw [e1, allS_map]
  have e2 : (List.range (wd + 1)).map (fun m : Nat => (B (L + x - s.most + (m : Nat))).getD 0) = u :: (List.range wd).map (fun m : Nat => (B (L + x - s.most + ((m + 1 : Nat) : Int))).getD 0) := by
    rw [List.range_succ_eq_map, List.map_cons, List.map_map]
    congr 1
    obtain ⟨v, h5, h6⟩ := hB (L + x - s.most) (by omega) (by omega)
    have : L + x - s.most + ((0 : Nat) : Int) = L + x - s.most := by omega
    rw [this, h5, h6.uniq hu]
    rfl
  rw [e2]
  have hz : ∀ z ∈ (List.range wd).map (fun m : Nat => (B (L + x - s.most + ((m + 1 : Nat) : Int))).getD 0), z ≤ u := by
    intro z hz
    obtain ⟨m, hm, e⟩ := List.mem_map.mp hz
    obtain ⟨v, h5, h6⟩ := key (m + 1) (by have := List.mem_range.mp hm; omega)
    rw [h5] at e
    simp only [Option.getD_some] at e
    omega
  generalize (List.range wd).map (fun m : Nat => (B (L + x - s.most + ((m + 1 : Nat) : Int))).getD 0) = zs at hz
  have e3 : maxL u zs = u := by
    obtain ⟨a, b⟩ := maxL_mem zs u
    have h7 := b u List.mem_cons_self
    rcases List.mem_cons.mp a with a | a
    · exact a
    · have := hz _ a
      omega
  show some (x * s.price + maxL u _) = _
  rw [e3]
theorem WL_best {s : Stp} {w lo hi : Int} {wd : Nat} {B : Int → Option Int} {ss : List (Stp × Int)} (hc : Chain lo hi ((s, w) :: ss)) (hwd : (wd : Int) ≤ w) (hB : ∀ M, s.low ≤ M → M ≤ s.high + wd → ∃ v, B M = some v ∧ Best (ss.map (·.1)) M v) {L : Int} (h1 : lo ≤ L) (h2 : L ≤ hi) :
    ∃ v, WL s wd B L = some v ∧ Best (s :: ss.map (·.1)) L v := by
  obtain ⟨v, hv⟩ := best_some ((s, w) :: ss) lo hi L hc h1 h2
  have hv : Best (s :: ss.map (·.1)) L v := hv
  obtain ⟨c1, c2, c3, c4, c5, c6, c7⟩ := hc
  refine ⟨v, ?_, hv⟩
  obtain ⟨⟨x, u, h3, h4, h5⟩, h6⟩ := hv
  have hlh := ok_iff.mp h3
  unfold WL
  rw [if_pos (by omega)]
  have hmem : ∀ z, z ∈ (nums s L).filterMap (worthAt s wd B L) ↔ ∃ y q, Ok s L y ∧ Best (ss.map (·.1)) (L + y - s.most) q ∧ z = y * s.price + q := by
    intro z
    simp only [List.mem_filterMap]
    constructor
    · rintro ⟨y, hy, hz⟩
      have hy := nums_mem.mp hy
      obtain ⟨q, hq⟩ := best_some ss s.low (s.high + w) (L + y - s.most) c7 hy.2.2.1 (by have := hy.2.2.2; omega)
      rw [worth_at c7 hwd hB hy hq] at hz
      cases hz
      exact ⟨y, q, hy, hq, rfl⟩
    · rintro ⟨y, q, hy, hq, rfl⟩
      exact ⟨y, nums_mem.mpr hy, worth_at c7 hwd hB hy hq⟩
  generalize (nums s L).filterMap (worthAt s wd B L) = ws at hmem
  cases ws with
  | nil => exact absurd ((hmem v).mpr ⟨x, u, h3, h4, h5⟩) (by simp)
  | cons z zs =>
    show some (minL z zs) = some v
    congr 1
    obtain ⟨a, b⟩ := minL_mem zs z
    obtain ⟨y, q, g1, g2, g3⟩ := (hmem _).mp a
    have := h6 y q g1 g2
    have := b v ((hmem v).mpr ⟨x, u, h3, h4, h5⟩)
    omega
theorem chn_cons {t : Tw} {w : Wa} {ps : List Int} {k : Nat} (h : k < t.2.length) : chn t w ps k = (stpAt t w ps k, wideAt t w k) :: chn t w ps (k + 1) := by
  unfold chn
  rw [List.drop_eq_getElem_cons (by simpa using h)]
  simp
theorem hiAt_le {t : Tw} {w : Wa} (ht : TwOk t) (h0 : 0 ≤ w.1) : ∀ k, k ≤ t.2.length → hiAt t w k ≤ t.1
  | 0, _ => Int.le_refl _
  | k + 1, h => by
    show t.1 - doubt t w k + wideAt t w k ≤ t.1
    rw [doubt_eq h0]
    have h1 := known_le h0 (h := (k + 1 : Nat)) (by omega)
    have h2 := known_nonneg w (k + 1 : Nat)
    have h3 := PS_mono ht (a := (known w (k + 1 : Nat)).toNat) (b := k + 1) (by omega)
    unfold wideAt
    omega
theorem lawB_best {t : Tw} {w : Wa} {ps : List Int} (ht : TwOk t) (hw : WaOk t.2.length w) (hps : ∀ p ∈ ps, 0 ≤ p) {v : Int} (hk : Kept t w v) : ∀ j, j < t.2.length → ∀ L, need t (t.2.length - 1 - j) ≤ L → L ≤ hiAt t w (t.2.length - 1 - j) →
    ∃ m, lawB t w ps (j + 1) L = some m ∧ Best ((chn t w ps (t.2.length - 1 - j)).map (·.1)) L m
  | j, hj, L, h1, h2 => by
    generalize hkk : t.2.length - 1 - j = k at *
    have hkn : k < t.2.length := by omega
    have ch := chain_at (ps := ps) ht hw.l1 hps hk (t.2.length - k) k (by omega)
    rw [chn_cons hkn] at ch ⊢
    have hwd : (wdAt t w k : Int) ≤ wideAt t w k := by
      unfold wdAt
      have := wide_nonneg ht w k
      split <;> omega
    have hb := hk.2 k hkn
    have hd0 := PS_le ht hw.l1 k
    have hh2 := ht.h2
    have nn := need_nonneg t (k + 1)
    have hB : ∀ M, need t (k + 1) ≤ M → M ≤ t.1 - doubt t w k + wdAt t w k → ∃ v, lawB t w ps j M = some v ∧ Best ((chn t w ps (k + 1)).map (·.1)) M v := by
      intro M g1 g2
      cases j with
      | zero =>
        have e : k + 1 = t.2.length := by omega
        have e2 : wdAt t w k = 0 := by unfold wdAt; rw [if_neg (by omega)]
        rw [e2] at g2
        refine ⟨0, ?_, ?_⟩
        · show B0 M = some 0
          unfold B0
          rw [if_pos ⟨by omega, by omega⟩]
        · unfold chn
          rw [List.drop_eq_nil_of_le (by simp; omega)]
          rfl
      | succ j =>
        have ih := lawB_best ht hw hps hk j (by omega) M
        rw [show t.2.length - 1 - j = k + 1 by omega] at ih
        refine ih g1 ?_
        show M ≤ t.1 - doubt t w k + wideAt t w k
        omega
    obtain ⟨m, m1, m2⟩ := WL_best ch hwd hB h1 h2
    refine ⟨m, ?_, m2⟩
    show stepB (stpAt t w ps (t.2.length - 1 - j)) (wdAt t w (t.2.length - 1 - j)) (lawB t w ps j) L = some m
    rw [hkk]
    unfold stepB
    have := hiAt_le ht hw.l1 k (by omega)
    have n0 := need_nonneg t k
    rw [if_pos ⟨by omega, by omega⟩]
    exact m1
theorem best_wider : ∀ (ss ss' : List (Stp × Int)) (lo hi L v v' : Int), Chain lo hi ss' → lo ≤ L → L ≤ hi → ss.length = ss'.length → (∀ (i : Nat) (a b : Stp × Int), ss[i]? = some a → ss'[i]? = some b → a.1.most = b.1.most ∧ a.1.pump = b.1.pump ∧ a.1.price = b.1.price ∧ a.1.low = b.1.low ∧ a.1.high ≤ b.1.high) → Best (ss.map (·.1)) L v → Best (ss'.map (·.1)) L v' → v' ≤ v
  | [], [], _, _, _, v, v', _, _, _, _, _, h1, h2 => by
    have h1 : v = 0 := h1
    have h2 : v' = 0 := h2
    omega
  | (s, w) :: ss, (s', w') :: ss', lo, hi, L, v, v', ⟨c1, c2, c3, c4, c5, c6, c7⟩, g1, g2, hl, hr, h1, h2 => by
    obtain ⟨e1, e2, e3, e4, e5⟩ := hr 0 (s, w) (s', w') rfl rfl
    have e1 : s.most = s'.most := e1
    have e2 : s.pump = s'.pump := e2
    have e3 : s.price = s'.price := e3
    have e4 : s.low = s'.low := e4
    have e5 : s.high ≤ s'.high := e5
    have h1 : Best (s :: ss.map (·.1)) L v := h1
    have h2 : Best (s' :: ss'.map (·.1)) L v' := h2
    obtain ⟨⟨x, u, ⟨o1, o2, o3, o4⟩, a2, a3⟩, _⟩ := h1
    obtain ⟨u', hu'⟩ := best_some ss' s'.low (s'.high + w') (L + x - s'.most) c7 (by omega) (by omega)
    have ih := best_wider ss ss' s'.low (s'.high + w') (L + x - s'.most) u u' c7 (by omega) (by omega) (by simpa using hl) (fun i a b ha hb => hr (i + 1) a b ha hb) (by rw [← e1]; exact a2) hu'
    have := h2.2 x u' ⟨o1, by omega, by omega, by omega⟩ hu'
    rw [← e3] at this
    omega
  | [], _ :: _, _, _, _, _, _, _, _, _, hl, _, _, _ => by simp at hl
  | _ :: _, [], _, _, _, _, _, _, _, _, hl, _, _, _ => by simp at hl
/-- a watch by which more is known -/
def Knows (n : Nat) (w w' : Wa) : Prop := ∀ k : Nat, k < n → known w k ≤ known w' k
theorem doubt_anti {t : Tw} {w w' : Wa} (ht : TwOk t) (h0 : 0 ≤ w.1) (h0' : 0 ≤ w'.1) (hk : Knows t.2.length w w') {k : Nat} (h : k < t.2.length) : doubt t w' k ≤ doubt t w k := by
  rw [doubt_eq h0, doubt_eq h0']
  have := hk k h
  have := known_nonneg w k
  have := PS_mono ht (a := (known w k).toNat) (b := (known w' k).toNat) (by omega)
  omega
theorem kept_more {t : Tw} {w w' : Wa} (ht : TwOk t) (h0 : 0 ≤ w.1) (h0' : 0 ≤ w'.1) (hk : Knows t.2.length w w') {v : Int} (h : Kept t w v) : Kept t w' v :=
  ⟨h.1, fun k hk2 => by have := h.2 k hk2; have := doubt_anti ht h0 h0' hk hk2; omega⟩
theorem worst_more {t : Tw} {w w' : Wa} {ps : List Int} {v a b : Int} (ht : TwOk t) (hw : WaOk t.2.length w) (h0 : 0 ≤ w'.1) (hp : ∀ p ∈ ps, 0 ≤ p) (hv : v ≤ t.1) (hk : Knows t.2.length w w') (ha : Worst t w v ps (some a)) (hb : Worst t w' v ps (some b)) : b ≤ a := by
  obtain ⟨a1, a2⟩ := ha
  obtain ⟨b1, b2⟩ := hb
  have ch := chain_at (ps := ps) ht h0 hp b1 t.2.length 0 (by omega)
  rw [← chn_fst] at a2 b2
  refine best_wider (chn t w ps 0) (chn t w' ps 0) _ _ v a b ch b1.1 hv (by simp [chn]) (fun i x y hx hy => ?_) a2 b2
  unfold chn at hx hy
  rw [List.drop_zero, List.getElem?_map] at hx hy
  by_cases hi : i < t.2.length
  · rw [List.getElem?_range hi] at hx hy
    cases hx; cases hy
    have := doubt_anti ht hw.l1 h0 hk hi
    exact ⟨rfl, rfl, rfl, rfl, by show t.1 - doubt t w i ≤ t.1 - doubt t w' i; omega⟩
  · rw [List.getElem?_eq_none (by simp; omega)] at hx
    cases hx
theorem known_bound {w : Wa} {h B : Int} (hB : 0 ≤ B) (hl : ∀ l ∈ w.2, l ≤ h → l - w.1 ≤ B) : known w h ≤ B := by
  unfold known
  rcases List.mem_cons.mp (maxL_mem ((w.2.filter fun l => decide (l ≤ h)).map fun l => l - w.1) 0).1 with e | e
  · rw [e]; exact hB
  · obtain ⟨l, h1, h2⟩ := List.mem_map.mp e
    obtain ⟨h3, h4⟩ := List.mem_filter.mp h1
    rw [← h2]
    exact hl l h3 (by simpa using h4)
theorem known_at {w : Wa} {h l : Int} (hl : l ∈ w.2) (hh : l ≤ h) : l - w.1 ≤ known w h :=
  maxL_le _ _ _ (List.mem_map.mpr ⟨l, List.mem_filter.mpr ⟨hl, by simpa using hh⟩, rfl⟩)
theorem knows_look {n : Nat} {w : Wa} {h : Int} : Knows n w (w.1, ascI (w.2 ++ [h])) := fun k _ =>
  known_bound (known_nonneg _ _) fun l hl hh => known_at (w := (w.1, ascI (w.2 ++ [h]))) (ascI_mem.mpr (List.mem_append_left _ hl)) hh
theorem knows_late {n : Nat} {w : Wa} : Knows n (w.1 + 1, w.2) w := fun k _ =>
  known_bound (known_nonneg _ _) fun l hl hh => by
    have := known_at (w := w) hl hh
    show l - (w.1 + 1) ≤ _
    omega
def WellAt (mu : List SO) (w : Nat) : Prop := ∃ a b c : Int, mu[w]? = some (.lst [.int a, .int b, .int c]) ∧ 0 ≤ a ∧ 0 ≤ b ∧ b < 2147483563 ∧ 0 ≤ c
structure WS (w : Nat) (mu mu' : List SO) : Prop where
  at_ : WellAt mu' w
  len : mu'.length = mu.length
  oth : ∀ i, i ≠ w → mu'[i]? = mu[i]?
theorem WS.trans {w : Nat} {a b c : List SO} (h : WS w a b) (k : WS w b c) : WS w a c := ⟨k.at_, k.len.trans h.len, fun i hi => (k.oth i hi).trans (h.oth i hi)⟩
theorem WS.refl {w : Nat} {a : List SO} (h : WellAt a w) : WS w a a := ⟨h, rfl, fun _ _ => rfl⟩
theorem WS.set {w : Nat} {mu : List SO} {a b c : Int} (hw : w < mu.length) (ha : 0 ≤ a) (hb : 0 ≤ b) (hb2 : b < 2147483563) (hc : 0 ≤ c) : WS w mu (mu.set w (.lst [.int a, .int b, .int c])) :=
  ⟨⟨a, b, c, by rw [List.getElem?_set_self hw], ha, hb, hb2, hc⟩, by simp, fun i hi => List.getElem?_set_ne (Ne.symm hi)⟩
theorem m_draw (n : Nat) (w : Nat) (mu : List SO) (limit : Int) (hw : WellAt mu w) (h0 : 0 < limit) (h1 : limit < 1073741824) : ∃ r mu', Ph TT exL (n + 1) j__law_draw [.obj w, .int limit] mu = .ok (.int r) mu' ∧ 0 ≤ r ∧ r < limit ∧ WS w mu mu' := by
  obtain ⟨a, b, c, hm, ha, hb, hb2, hc⟩ := hw
  have hwl : w < mu.length := (List.getElem?_eq_some_iff.mp hm).1
  have hs : ∀ y, (mu.set w y)[w]? = some y := fun y => List.getElem?_set_self hwl
  rw [ph (fi := d__law_draw.fi) rfl]
  generalize Ph TT exL n = Φ
  by_cases hp : 0 < a
  · refine ⟨a % limit, mu.set w (.lst [.int (a / limit), .int b, .int c]), ?_, Int.emod_nonneg _ (by omega), Int.emod_lt_of_pos _ h0, WS.set hwl (Int.ediv_nonneg ha (by omega)) hb hb2 hc⟩
    simp -implicitDefEqProofs [DD.fi, d__law_draw, ir__law_draw, hm, hp, h0, h1, objPut]
  · have q0 : 0 ≤ (b * 40037 + 13001 * (c + 1) + 7) % 2147483563 := Int.emod_nonneg _ (by decide)
    have q1 : (b * 40037 + 13001 * (c + 1) + 7) % 2147483563 < 2147483563 := Int.emod_lt_of_pos _ (by decide)
    generalize hst : (b * 40037 + 13001 * (c + 1) + 7) % 2147483563 = st at *
    have m1 : (-18446744073709551616 < st ∧ st < 18446744073709551616) := by omega
    have r0 : 0 ≤ (st * (st % 5009 + 20023) + (c + 1)) % 2147483563 := Int.emod_nonneg _ (by decide)
    have r1 : (st * (st % 5009 + 20023) + (c + 1)) % 2147483563 < 2147483563 := Int.emod_lt_of_pos _ (by decide)
    generalize hb' : (st * (st % 5009 + 20023) + (c + 1)) % 2147483563 = b' at *
    refine ⟨b' / 1013 % limit, mu.set w (.lst [.int a, .int b', .int (c + 1)]), ?_, Int.emod_nonneg _ (by omega), Int.emod_lt_of_pos _ h0, WS.set hwl ha r0 r1 (by omega)⟩
    simp -implicitDefEqProofs [DD.fi, d__law_draw, ir__law_draw, hm, hp, h0, h1, objPut, hs, hst, m1, hb']
theorem m_of (n : Nat) (w : Nat) (mu : List SO) (xs : List PV) (hw : WellAt mu w) (h0 : xs ≠ []) (h1 : xs.length < 1000) : ∃ r mu', r ∈ xs ∧ Ph TT exL (n + 2) j__law_of [.obj w, .tup xs] mu = .ok r mu' ∧ WS w mu mu' := by
  have hl : 0 < xs.length := by cases xs <;> simp_all
  obtain ⟨r, mu', e1, r0, r1, ws⟩ := m_draw n w mu xs.length hw (by omega) (by omega)
  have hr : r.toNat < xs.length := by omega
  refine ⟨xs[r.toNat], mu', List.getElem_mem hr, ?_, ws⟩
  rw [ph (fi := d__law_of.fi) rfl]
  generalize Ph TT exL (n + 1) = Φ at e1 ⊢
  simp -implicitDefEqProofs [DD.fi, d__law_of, ir__law_of, e1, atI_of r0, List.getElem?_eq_getElem hr]
theorem m_tower (n : Nat) (w : Nat) (mu : List SO) (most : Int) (hw : WellAt mu w) (h0 : 0 < most) (h1 : most ≤ 12) : ∃ t mu', Ph TT exL (n + 3) j__law_tower [.obj w, .int most] mu = .ok (pTw t) mu' ∧ TwOk t ∧ (t.2.length : Int) ≤ most ∧ t.1 ≤ 12 ∧ WS w mu mu' := by
  obtain ⟨wd, mu1, k1, e1, s1⟩ := m_of n w mu [.int 1, .int 2, .int 3] hw (by simp) (by simp)
  obtain ⟨c, mu2, e2, c0, c1, s2⟩ := m_draw (n + 1) w mu1 most s1.at_ h0 (by omega)
  obtain ⟨wide, rfl, wb⟩ : ∃ i : Int, wd = .int i ∧ 1 ≤ i ∧ i ≤ 3 := by
    simp at k1
    rcases k1 with rfl | rfl | rfl
    · exact ⟨1, rfl, by omega⟩
    · exact ⟨2, rfl, by omega⟩
    · exact ⟨3, rfl, by omega⟩
  have f1 := fun mu xs h a b => m_of n w mu xs h a b
  have f2 := fun mu l h a b => m_draw (n + 1) w mu l h a b
  rw [show (∃ t mu', Ph TT exL (n + 3) j__law_tower [.obj w, .int most] mu = .ok (pTw t) mu' ∧ TwOk t ∧ (t.2.length : Int) ≤ most ∧ t.1 ≤ 12 ∧ WS w mu mu') = (∃ t mu', runF (Ph TT exL (n + 2)) exL d__law_tower.fi [.obj w, .int most] mu = .ok (pTw t) mu' ∧ TwOk t ∧ (t.2.length : Int) ≤ most ∧ t.1 ≤ 12 ∧ WS w mu mu') by rw [ph (fi := d__law_tower.fi) rfl]]
  generalize Ph TT exL (n + 2) = Φ at e1 e2 f1 f2 ⊢
  have i1 : IntOk (1 + c) := by unfold IntOk; omega
  have i2 : 1 + c ≤ 100000 := by omega
  generalize hX : runF Φ exL d__law_tower.fi [.obj w, .int most] mu = rX
  simp -implicitDefEqProofs [DD.fi, d__law_tower, ir__law_tower, e1, e2, i1, i2, range_enc] at hX
  generalize hL : loopS _ _ _ _ = r at hX
  obtain ⟨s', rfl, hs, mu3, a4, a5, hok, hlen, s3, rfl⟩ := loop_typed hL (fun k : Nat => .int (k : Int)) (List.range (1 + c).toNat) rfl (fun done todo st => ∃ (hs : List Hr) (mu3 : List SO) (a4 a5 : Option PV), (∀ h ∈ hs, HrOk h) ∧ hs.length = done.length ∧ WS w mu mu3 ∧ st = ⟨[some (.obj w), some (.int most), some (.tup (hs.map pHr)), some (.int wide), a4, a5], [], [], mu3⟩) ⟨[], mu2, none, none, by simp, rfl, s1.trans s2, rfl⟩ (fun done x todo st hx hI => by
    obtain ⟨hs, mu3, a4, a5, hok, hlen, s3, rfl⟩ := hI
    obtain ⟨y1, y2⟩ := range_at hx
    obtain ⟨l, mu4, e4, l0, l1, s4⟩ := f2 mu3 3 s3.at_ (by decide) (by decide)
    obtain ⟨m, mu5, e5, m0, m1, s5⟩ := f2 mu4 (wide + 1) s4.at_ (by omega) (by omega)
    obtain ⟨pv, mu6, k6, e6, s6⟩ := f1 mu5 [.int 2, .int 4, .int 5] s5.at_ (by simp) (by simp)
    obtain ⟨pl, rfl, pb⟩ : ∃ i : Int, pv = .int i ∧ 2 ≤ i ∧ i ≤ 5 := by
      simp at k6
      rcases k6 with rfl | rfl | rfl
      · exact ⟨2, rfl, by omega⟩
      · exact ⟨4, rfl, by omega⟩
      · exact ⟨5, rfl, by omega⟩
    obtain ⟨p, mu7, e7, p0, p1, s7⟩ := f2 mu6 pl s6.at_ (by omega) (by omega)
    have hl : hs.length + 1 ≤ 100000 := by omega
    refine ⟨_, by simp -implicitDefEqProofs; rfl, nx_of ⟨_, by simp -implicitDefEqProofs [e4, e5, e6, e7, hl] <;> rfl, hs ++ [⟨l, l + m, p⟩], mu7, some (.int x), some (.int l), ?_, by simp [hlen], s3.trans (s4.trans (s5.trans (s6.trans s7))), by simp [pHr]⟩⟩
    intro h hh
    rcases List.mem_append.mp hh with hh | hh
    · exact hok h hh
    · simp at hh
      subst hh
      exact ⟨by omega, by show l ≤ l + m; omega, by show l + m ≤ 30; omega, by omega, by show p ≤ 30; omega⟩)
  obtain ⟨hv, mu8, k8, e8, s8⟩ := f1 mu3 [.int 4, .int 8, .int 12] s3.at_ (by simp) (by simp)
  obtain ⟨hl, rfl, hb⟩ : ∃ i : Int, hv = .int i ∧ 4 ≤ i ∧ i ≤ 12 := by
    simp at k8
    rcases k8 with rfl | rfl | rfl
    · exact ⟨4, rfl, by omega⟩
    · exact ⟨8, rfl, by omega⟩
    · exact ⟨12, rfl, by omega⟩
  obtain ⟨hd, mu9, e9, d0, d1, s9⟩ := f2 mu8 hl s8.at_ (by omega) (by omega)
  simp -implicitDefEqProofs [e8, e9] at hX
  subst hX
  rw [List.length_range] at hlen
  refine ⟨(1 + hd, hs), mu9, rfl, ⟨by show 1 ≤ 1 + hd; omega, by show 1 + hd ≤ 60; omega, by show hs ≠ []; intro z; rw [z] at hlen; simp at hlen; omega, by show hs.length ≤ 12; omega, hok⟩, by show (hs.length : Int) ≤ most; omega, by show 1 + hd ≤ 12; omega, s3.trans (s8.trans s9)⟩
theorem m_watch (n : Nat) (w : Nat) (mu : List SO) (t : Tw) (ht : TwOk t) (hw : WellAt mu w) : ∃ wa mu', Ph TT exL (n + 3) j__law_watch [.obj w, pTw t] mu = .ok (pWa wa) mu' ∧ WaOk t.2.length wa ∧ wa.1 ≤ 2 ∧ WS w mu mu' := by
  have tl := ht.n2
  have f1 := fun mu xs h a b => m_of n w mu xs h a b
  have f2 := fun mu l h a b => m_draw (n + 1) w mu l h a b
  have f3 := fun mu => m_l_hours (n + 1) t mu
  rw [ph (fi := d__law_watch.fi) rfl]
  generalize Ph TT exL (n + 2) = Φ at f1 f2 f3 ⊢
  have i1 : IntOk (t.2.length : Int) := by unfold IntOk; omega
  have i2 : (t.2.length : Int) ≤ 100000 := by omega
  generalize hX : runF Φ exL d__law_watch.fi [.obj w, pTw t] mu = rX
  simp -implicitDefEqProofs [DD.fi, d__law_watch, ir__law_watch] at hX
  generalize hC : ev _ (IE.comp _ _ _ _ _) _ = rC at hX
  obtain ⟨vs, mu1, rfl, ls, rfl, hasc, hsub, s1⟩ := comp_inv hC (fun k : Nat => .int (k : Int)) (fun done vs m => ∃ ls : List Int, vs = ls.map .int ∧ ls.Pairwise (· < ·) ∧ (∀ l ∈ ls, 0 ≤ l ∧ l < done.length) ∧ WS w mu m) (List.range t.2.length) (mu := mu) (by simp -implicitDefEqProofs [f3, i1, i2, range_enc]) (by simp -implicitDefEqProofs) (by simp -implicitDefEqProofs) (by simp -implicitDefEqProofs) (by simp; omega) ⟨[], rfl, .nil, by simp, WS.refl hw⟩ (fun done x todo acc m hx hI => by
    obtain ⟨ls, rfl, hasc, hsub, s1⟩ := hI
    obtain ⟨y1, y2⟩ := range_at hx
    obtain ⟨r, m2, e2, r0, r1, s2⟩ := f2 m 2 s1.at_ (by decide) (by decide)
    by_cases hr : r = 0
    · subst hr
      refine ⟨some (.int x), m2, by simp -implicitDefEqProofs [turn, e2], ls ++ [(x : Int)], by simp, ?_, fun l hl => ?_, s1.trans s2⟩
      · rw [List.pairwise_append]
        refine ⟨hasc, by simp, fun a ha b hb => ?_⟩
        simp at hb
        have := hsub a ha
        omega
      · simp only [List.length_append, List.length_cons, List.length_nil]
        rcases List.mem_append.mp hl with hl | hl
        · have := hsub l hl; omega
        · simp at hl; omega
    · refine ⟨none, m2, by simp -implicitDefEqProofs [turn, e2, hr], ls, by simp, hasc, fun l hl => ?_, s1.trans s2⟩
      have := hsub l hl
      simp only [List.length_append, List.length_cons, List.length_nil]
      omega)
  obtain ⟨lv, mu2, k2, e2, s2⟩ := f1 mu1 [.int 0, .int 0, .int 0, .int 1, .int 2] s1.at_ (by simp) (by simp)
  obtain ⟨late, rfl, lb⟩ : ∃ i : Int, lv = .int i ∧ 0 ≤ i ∧ i ≤ 2 := by
    simp at k2
    rcases k2 with rfl | rfl | rfl
    · exact ⟨0, rfl, by omega⟩
    · exact ⟨1, rfl, by omega⟩
    · exact ⟨2, rfl, by omega⟩
  simp -implicitDefEqProofs [e2] at hX
  subst hX
  refine ⟨(late, ls), mu2, rfl, ⟨lb.1, by show late ≤ 12; omega, hasc, fun l hl => ?_⟩, lb.2, s1.trans s2⟩
  have := hsub l hl
  simpa using this
theorem m_kept_tower (n : Nat) (w : Nat) (mu : List SO) (hw : WellAt mu w) : ∃ t wa v mu', Ph TT exL (n + 5) j__law_kept_tower [.obj w, .int 5] mu = .ok (.tup [pTw t, pWa wa, .int v]) mu' ∧ TwOk t ∧ WaOk t.2.length wa ∧ wa.1 ≤ 2 ∧ 0 ≤ v ∧ v ≤ t.1 ∧ WS w mu mu' := by
  have f1 := fun mu h => m_tower (n + 1) w mu 5 h (by decide) (by decide)
  have f2 := fun mu t ht h => m_watch (n + 1) w mu t ht h
  have f3 := fun mu l h a b => m_draw (n + 3) w mu l h a b
  have f4 := fun t wa v mu ht hwa => m_l_can_keep n t wa v mu ht hwa
  rw [ph (fi := d__law_kept_tower.fi) rfl]
  generalize Ph TT exL (n + 4) = Φ at f1 f2 f3 f4 ⊢
  have i1 : IntOk 60 := by unfold IntOk; omega
  generalize hX : runF Φ exL d__law_kept_tower.fi [.obj w, .int 5] mu = rX
  simp -implicitDefEqProofs [DD.fi, d__law_kept_tower, ir__law_kept_tower, i1] at hX
  generalize hL : loopS _ _ _ _ = r at hX
  rcases loop_ret_inv hL (fun k : Nat => .int (k : Int)) (List.range 60) (range_enc 60) (fun st => ∃ (m : List SO) (a2 a3 a4 a5 : Option PV), WS w mu m ∧ st = ⟨[some (.obj w), some (.int 5), a2, a3, a4, a5], [], [], m⟩)
    (fun r st => ∃ t wa v, r = .tup [pTw t, pWa wa, .int v] ∧ TwOk t ∧ WaOk t.2.length wa ∧ wa.1 ≤ 2 ∧ 0 ≤ v ∧ v ≤ t.1 ∧ st.cap = [] ∧ WS w mu st.mu) ⟨mu, none, none, none, none, WS.refl hw, rfl⟩ (fun x st hx hI => by
      obtain ⟨m, a2, a3, a4, a5, s0, rfl⟩ := hI
      obtain ⟨t, m1, e1, ht, hl, h12, s1⟩ := f1 m s0.at_
      obtain ⟨wa, m2, e2, hwa, hwa2, s2⟩ := f2 m1 t ht s1.at_
      have h2 := ht.h1
      obtain ⟨v, m3, e3, v0, v1, s3⟩ := f3 m2 (t.1 + 1) s2.at_ (by omega) (by have := ht.h2; omega)
      have e4 := f4 t wa v m3 ht hwa
      refine ⟨_, by simp -implicitDefEqProofs; rfl, ?_⟩
      by_cases hk : Kept t wa v
      · exact .inr ⟨.tup [pTw t, pWa wa, .int v], ⟨[some (.obj w), some (.int 5), some (.int x), some (pTw t), some (pWa wa), some (.int v)], [], [], m3⟩, by simp -implicitDefEqProofs [e1, e2, e3, e4, hk], t, wa, v, rfl, ht, hwa, hwa2, v0, by omega, rfl, s0.trans (s1.trans (s2.trans s3))⟩
      · exact .inl ⟨⟨[some (.obj w), some (.int 5), some (.int x), some (pTw t), some (pWa wa), some (.int v)], [], [], m3⟩, by simp -implicitDefEqProofs [e1, e2, e3, e4, hk], m3, some (.int x), some (pTw t), some (pWa wa), some (.int v), s0.trans (s1.trans (s2.trans s3)), rfl⟩) with ⟨s', rfl, m, a2, a3, a4, a5, s0, rfl⟩ | ⟨rv, s', rfl, t, wa, v, rfl, ht, hwa, hwa2, v0, v1, hcap, s0⟩
  · simp -implicitDefEqProofs at hX
    subst hX
    refine ⟨(6, [⟨0, 1, 2⟩, ⟨1, 2, 2⟩]), (0, [1]), 3, m, rfl, ⟨by decide, by decide, by decide, by decide, fun h hh => ?_⟩, ⟨by decide, by decide, by simp, fun l hl => ?_⟩, by decide, by decide, by decide, s0⟩
    · simp at hh
      rcases hh with rfl | rfl <;> (unfold HrOk; decide)
    · simp at hl
      subst hl
      decide
  · simp -implicitDefEqProofs [hcap] at hX
    subst hX
    exact ⟨t, wa, v, _, rfl, ht, hwa, hwa2, v0, v1, s0⟩
def datS : Nat → PV → Bool
  | _, .non | _, .bl _ | _, .int _ => true
  | n + 1, .tup xs => decide (xs.length ≤ 1000) && xs.all (datS n)
  | n + 1, .lst xs => decide (xs.length ≤ 1000) && xs.all (datS n)
  | _, _ => false
theorem datS_dat : ∀ (n : Nat) (x : PV), datS n x = true → dat n x = true
  | n, .non, _ => by cases n <;> rfl
  | n, .bl _, _ => by cases n <;> rfl
  | n, .int _, _ => by cases n <;> rfl
  | n + 1, .tup xs, h => by
    simp only [datS, dat, Bool.and_eq_true, List.all_eq_true] at h ⊢
    exact fun x hx => datS_dat n x (h.2 x hx)
  | n + 1, .lst xs, h => by
    simp only [datS, dat, Bool.and_eq_true, List.all_eq_true] at h ⊢
    exact fun x hx => datS_dat n x (h.2 x hx)
  | 0, .tup xs, h => by simp [datS] at h
  | 0, .lst xs, h => by simp [datS] at h
  | n, .str _, h => by cases n <;> simp [datS] at h
  | n, .dct _, h => by cases n <;> simp [datS] at h
  | n, .dtt _, h => by cases n <;> simp [datS] at h
  | n, .scr _, h => by cases n <;> simp [datS] at h
  | n, .obj _, h => by cases n <;> simp [datS] at h
  | n, .fn _ _, h => by cases n <;> simp [datS] at h
theorem dat_mono : ∀ (n m : Nat) (x : PV), n ≤ m → dat n x = true → dat m x = true
  | n, m, .non, _, _ => by cases m <;> rfl
  | n, m, .bl _, _, _ => by cases m <;> rfl
  | n, m, .int _, _, _ => by cases m <;> rfl
  | n + 1, m + 1, .tup xs, hm, h => by
    simp only [dat, List.all_eq_true] at h ⊢
    exact fun x hx => dat_mono n m x (by omega) (h x hx)
  | n + 1, m + 1, .lst xs, hm, h => by
    simp only [dat, List.all_eq_true] at h ⊢
    exact fun x hx => dat_mono n m x (by omega) (h x hx)
  | n + 1, 0, _, hm, _ => by omega
  | 0, m, .tup xs, _, h => by simp [dat] at h
  | 0, m, .lst xs, _, h => by simp [dat] at h
  | n, m, .str _, _, h => by cases n <;> simp [dat] at h
  | n, m, .dct _, _, h => by cases n <;> simp [dat] at h
  | n, m, .dtt _, _, h => by cases n <;> simp [dat] at h
  | n, m, .scr _, _, h => by cases n <;> simp [dat] at h
  | n, m, .obj _, _, h => by cases n <;> simp [dat] at h
  | n, m, .fn _ _, _, h => by cases n <;> simp [dat] at h
@[simp] theorem b_bt (b : Bool) : vblt (.isInst .tuple) [.bl b] = some (.bl false) := rfl
@[simp] theorem b_bi (b : Bool) : vblt (.isInst .int) [.bl b] = some (.bl true) := rfl
@[simp] theorem b_bb (b : Bool) : vblt (.isInst .bool) [.bl b] = some (.bl true) := rfl
theorem datS_plain : ∀ (n : Nat) (x : PV), datS n x = true → x.plain = true
  | n, .non, _ => by simp
  | n, .bl _, _ => by simp
  | n, .int _, _ => by simp
  | n + 1, .tup xs, h => by
    simp only [datS, Bool.and_eq_true, List.all_eq_true] at h
    rw [plain_tup, plains_all, List.all_eq_true]
    exact fun x hx => datS_plain n x (h.2 x hx)
  | n + 1, .lst xs, h => by
    simp only [datS, Bool.and_eq_true, List.all_eq_true] at h
    rw [plain_lst, plains_all, List.all_eq_true]
    exact fun x hx => datS_plain n x (h.2 x hx)
  | 0, .tup xs, h => by simp [datS] at h
  | 0, .lst xs, h => by simp [datS] at h
  | n, .str _, h => by cases n <;> simp [datS] at h
  | n, .dct _, h => by cases n <;> simp [datS] at h
  | n, .dtt _, h => by cases n <;> simp [datS] at h
  | n, .scr _, h => by cases n <;> simp [datS] at h
  | n, .obj _, h => by cases n <;> simp [datS] at h
  | n, .fn _ _, h => by cases n <;> simp [datS] at h
theorem all_true (n : Nat) : vblt .all [.lst ((List.range n).map fun _ => PV.bl true)] = some (.bl true) := by
  have := b_all ((List.range n).map fun _ => true)
  rw [List.map_map] at this
  refine this.trans ?_
  congr 2
  rw [List.all_map, List.all_eq_true]
  intro x _; rfl
theorem m_same (n : Nat) : ∀ (d : Nat) (x : PV), d ≤ 60 → datS d x = true → ∀ mu, Ph TT exL (n + d + 1) j__law_same [x, x] mu = .ok (.bl true) mu := by
  intro d
  induction d with
  | zero =>
    intro x hd hx mu
    rw [ph (fi := d__law_same.fi) rfl]
    generalize Ph TT exL (n + 0) = Φ
    cases x with
    | non => simp -implicitDefEqProofs [DD.fi, d__law_same, ir__law_same]
    | bl b => simp -implicitDefEqProofs [DD.fi, d__law_same, ir__law_same]
    | int i => simp -implicitDefEqProofs [DD.fi, d__law_same, ir__law_same]
    | _ => simp [datS] at hx
  | succ d ih =>
    intro x hd hx mu
    have pl := datS_plain _ _ hx
    have v := veq_refl (dat_mono (d + 1) 60 x hd (datS_dat _ _ hx))
    rw [ph (fi := d__law_same.fi) rfl]
    have ih := fun x h mu => ih x (by omega) h mu
    rw [show n + (d + 1) = n + d + 1 by omega]
    generalize Ph TT exL (n + d + 1) = Φ at ih ⊢
    cases x with
    | non => simp -implicitDefEqProofs [DD.fi, d__law_same, ir__law_same]
    | bl b => simp -implicitDefEqProofs [DD.fi, d__law_same, ir__law_same]
    | int i => simp -implicitDefEqProofs [DD.fi, d__law_same, ir__law_same]
    | lst xs => simp -implicitDefEqProofs [DD.fi, d__law_same, ir__law_same, v]
    | tup xs =>
      simp only [datS, Bool.and_eq_true, List.all_eq_true, decide_eq_true_eq] at hx
      rw [plain_tup] at pl
      have i1 : IntOk (xs.length : Int) := by unfold IntOk; omega
      have i2 : (xs.length : Int) ≤ 100000 := by omega
      simp -implicitDefEqProofs [DD.fi, d__law_same, ir__law_same]
      generalize hC : ev _ (IE.comp _ _ _ _ _) _ = r
      obtain rfl := comp_map hC (fun k : Nat => .int (k : Int)) (fun _ => .bl true) (List.range xs.length) (by simp -implicitDefEqProofs [i1, i2, range_enc]) (by simp -implicitDefEqProofs) (by simp -implicitDefEqProofs) (by simp -implicitDefEqProofs) (by simp; omega) (fun k hk => by
        have hk : k < xs.length := by simpa using hk
        have e := List.getElem?_eq_getElem hk
        have h2 := ih xs[k] (hx.2 _ (List.getElem_mem hk)) mu
        simp -implicitDefEqProofs [turn, pl, e, h2])
      simp -implicitDefEqProofs [all_true]
    | _ => simp [datS] at hx
theorem WellAt.app {mu : List SO} {w : Nat} (h : WellAt mu w) (x : SO) : WellAt (mu ++ [x]) w := by
  obtain ⟨a, b, c, h1, h2⟩ := h
  refine ⟨a, b, c, ?_, h2⟩
  rw [List.getElem?_append_left (List.getElem?_eq_some_iff.mp h1).1]
  exact h1
theorem m_well (n : Nat) (ns : List Int) (lap : Nat) (mu : List SO) (hl : ns.length ≤ 63) : ∃ x, Ph TT exL (n + 1) j__law_well [.scr (ns.map .int), .int lap] mu = .ok (.obj mu.length) (mu ++ [x]) ∧ WellAt (mu ++ [x]) mu.length := by
  rw [ph (fi := d__law_well.fi) rfl]
  generalize Ph TT exL n = Φ
  generalize hX : runF Φ exL d__law_well.fi [.scr (ns.map .int), .int lap] mu = rX
  simp -implicitDefEqProofs [DD.fi, d__law_well, ir__law_well, map_cut] at hX
  generalize hL : loopS _ _ _ _ = r at hX
  obtain ⟨s', rfl, st2, a3, rfl⟩ := loop_typed hL PV.int (cutL ns none (some 12)) (by simp) (fun done todo s => ∃ (i : Int) (a3 : Option PV), s = ⟨[some (.scr (ns.map .int)), some (.int lap), some (.int i), a3, none], [], [], mu⟩) ⟨_, none, rfl⟩ (fun done x todo s hx hI => by
    obtain ⟨i, a3, rfl⟩ := hI
    exact ⟨_, by simp -implicitDefEqProofs; rfl, nx_of ⟨_, by simp -implicitDefEqProofs; rfl, _, some (.int x), rfl⟩⟩)
  have key : ∀ own : Int, ∃ a b : Int, 0 ≤ a ∧ 0 ≤ b ∧ b < 2147483563 ∧ (if own < 0 then (if own < 0 then -own else own) else if 1000000000000000 ≤ own then (if own < 0 then -own else own) else 0) = a ∧ (st2 * 41 + own % 2147483549 * 15031 + 5) % 2147483563 = b := fun own =>
    ⟨_, _, by split <;> (try split) <;> (try split) <;> omega, Int.emod_nonneg _ (by decide), Int.emod_lt_of_pos _ (by decide), rfl, rfl⟩
  have fin : ∀ a b : Int, 0 ≤ a → 0 ≤ b → b < 2147483563 → WellAt (mu ++ [.lst [.int a, .int b, .int 0]]) mu.length := fun a b h1 h2 h3 => ⟨a, b, 0, by simp, h1, h2, h3, by decide⟩
  by_cases hq : lap < ns.length
  · have hq' : (lap : Int) < ns.length := by omega
    obtain ⟨a, b, h1, h2, h3, h4, h5⟩ := key ns[lap]
    simp -implicitDefEqProofs [hq', List.getElem?_eq_getElem hq] at hX
    by_cases c1 : ns[lap] < 0
    · simp -implicitDefEqProofs [c1, h5] at hX h4
      subst hX; subst h4
      exact ⟨_, rfl, fin _ _ h1 h2 h3⟩
    · by_cases c2 : 1000000000000000 ≤ ns[lap]
      · simp -implicitDefEqProofs [c1, c2, h5] at hX h4
        subst hX; subst h4
        exact ⟨_, rfl, fin _ _ h1 h2 h3⟩
      · simp -implicitDefEqProofs [c1, c2, h5] at hX h4
        subst hX; subst h4
        exact ⟨_, rfl, fin _ _ h1 h2 h3⟩
  · have hq' : ¬ (lap : Int) < ns.length := by omega
    obtain ⟨a, b, h1, h2, h3, h4, h5⟩ := key 0
    simp -implicitDefEqProofs at h4 h5
    simp -implicitDefEqProofs [hq', h5] at hX
    subst hX
    exact ⟨_, rfl, fin _ _ (by decide) h2 h3⟩
theorem Worst.uniq {t : Tw} {w : Wa} {v : Int} {ps : List Int} {o o' : Option Int} (h : Worst t w v ps o) (h' : Worst t w v ps o') : o = o' := by
  cases o with
  | none =>
    cases o' with
    | none => rfl
    | some b => exact (h h'.1).elim
  | some a =>
    cases o' with
    | none => exact (h' h.1).elim
    | some b => rw [h.2.uniq h'.2]
theorem datS_oPV (o : Option Int) (n : Nat) : datS n (oPV o) = true := by cases o <;> cases n <;> rfl
end TL

set_option linter.all false
set_option maxRecDepth 100000
set_option maxHeartbeats 8000000
/-! TLN79a: levels of a led tower; what may be pumped. Own work. -/
namespace TL
open PySem L2
def pL (xs : List Int) : PV := .tup (xs.map .int)
@[simp] theorem plain_pL (xs : List Int) : (pL xs).plain = true := by
  unfold pL
  rw [plain_tup, plains_all, List.all_map]
  simp
/-- most less used, hour by hour -/
def spares (t : Tw) (us : List Int) : List Int := List.zipWith (fun h u => h.hi - u) t.2 us
/-- the least level ahead of the hour behind those that are over -/
def LL (t : Tw) (w : Wa) (v : Int) (fl us : List Int) : Int :=
  v + fl.sum - (us.take (known w us.length).toNat).sum - (((t.2.map (·.hi)).take us.length).drop (known w us.length).toNat).sum
theorem sum_take_drop (xs : List Int) (m : Nat) : (xs.take m).sum + (xs.drop m).sum = xs.sum := by
  rw [← sum_app, List.take_append_drop]
theorem spares_sum (t : Tw) : ∀ (us : List Int) (m : Nat), us.length ≤ t.2.length → m ≤ us.length → ((spares t us).take m).sum = ((t.2.map (·.hi)).take m).sum - (us.take m).sum := by
  obtain ⟨a, hs⟩ := t
  unfold spares
  show ∀ (us : List Int) (m : Nat), us.length ≤ hs.length → m ≤ us.length → ((List.zipWith (fun h u => h.hi - u) hs us).take m).sum = ((hs.map (·.hi)).take m).sum - (us.take m).sum
  induction hs with
  | nil => intro us m h1 h2; cases us with
    | nil => simp
    | cons _ _ => simp at h1
  | cons h hs ih =>
    intro us m h1 h2
    cases us with
    | nil => simp at h2; subst h2; simp
    | cons u us =>
      cases m with
      | zero => simp
      | succ m =>
        simp only [List.zipWith_cons_cons, List.map_cons, List.take_succ_cons, List.sum_cons]
        rw [ih us m (by simpa using h1) (by simpa using h2)]
        omega
theorem LL_eq {t : Tw} {w : Wa} (h0 : 0 ≤ w.1) (v : Int) (fl us : List Int) (hu : us.length ≤ t.2.length) :
    LL t w v fl us = v + fl.sum - ((t.2.map (·.hi)).take us.length).sum + ((spares t us).take (known w us.length).toNat).sum := by
  have kl : (known w us.length).toNat ≤ us.length := by
    have := known_le (w := w) h0 (h := us.length) (by omega)
    omega
  unfold LL
  rw [spares_sum t us _ hu kl, take_drop_sum _ kl]
  omega
/-- uses within their bounds -/
def UsOk (t : Tw) (us : List Int) : Prop := us.length ≤ t.2.length ∧ ∀ k, k < us.length → (hAt t k).lo ≤ us.getD k 0 ∧ us.getD k 0 ≤ (hAt t k).hi
theorem spares_at {t : Tw} {us : List Int} {k : Nat} (h : k < us.length) (h2 : us.length ≤ t.2.length) : (spares t us)[k]? = some ((hAt t k).hi - us.getD k 0) := by
  unfold spares
  rw [List.getElem?_zipWith, (hAt_mem (by omega : k < t.2.length)).2, List.getElem?_eq_getElem h]
  simp [List.getD, List.getElem?_eq_getElem h]
theorem spares_len {t : Tw} {us : List Int} (h : us.length ≤ t.2.length) : (spares t us).length = us.length := by
  unfold spares
  rw [List.length_zipWith]
  omega
/-- spares lie between 0 and the widths -/
theorem spares_between {t : Tw} (ht : TwOk t) {us : List Int} (hu : UsOk t us) : ∀ (d m : Nat), m + d ≤ us.length →
    0 ≤ ((spares t us).take (m + d)).sum - ((spares t us).take m).sum ∧ ((spares t us).take (m + d)).sum - ((spares t us).take m).sum ≤ PS t (m + d) - PS t m
  | 0, m, _ => by simp
  | d + 1, m, h => by
    have ih := spares_between ht hu d m (by omega)
    have hk : m + d < us.length := by omega
    have e1 : ((spares t us).take (m + (d + 1))).sum = ((spares t us).take (m + d)).sum + ((hAt t (m + d)).hi - us.getD (m + d) 0) := by
      rw [show m + (d + 1) = m + d + 1 by omega, List.take_add_one, spares_at hk hu.1, Option.toList_some, sum_app]
      simp
    have e2 := PS_succ (t := t) (k := m + d) (by have := hu.1; omega)
    have := hu.2 (m + d) hk
    rw [e1, show m + (d + 1) = m + d + 1 by omega, e2]
    omega
/-- what holds ahead of an hour -/
structure LdOk (t : Tw) (w : Wa) (v : Int) (fl us : List Int) : Prop where
  len : fl.length = us.length
  uo : UsOk t us
  lo : need t us.length ≤ LL t w v fl us
  hi : LL t w v fl us ≤ hiAt t w us.length
theorem LdOk.init {t : Tw} {w : Wa} {v : Int} (hk : Kept t w v) (hv : v ≤ t.1) : LdOk t w v [] [] := by
  refine ⟨rfl, ⟨by simp, fun k hk => by simp at hk⟩, ?_, ?_⟩
  · have : LL t w v [] [] = v := by unfold LL; simp
    rw [this]
    exact hk.1
  · have : LL t w v [] [] = v := by unfold LL; simp
    rw [this]
    exact hv
theorem LdOk.next {t : Tw} {w : Wa} {v : Int} {fl us : List Int} {x u : Int} (ht : TwOk t) (h0 : 0 ≤ w.1) (L : LdOk t w v fl us) (hk : us.length < t.2.length) {ps : List Int} (hx : Ok (stpAt t w ps us.length) (LL t w v fl us) x)
    (hu : (hAt t us.length).lo ≤ u ∧ u ≤ (hAt t us.length).hi) : LdOk t w v (fl ++ [x]) (us ++ [u]) := by
  have hus : UsOk t (us ++ [u]) := by
    refine ⟨by simp; omega, fun k h => ?_⟩
    simp only [List.length_append, List.length_cons, List.length_nil] at h
    by_cases e : k < us.length
    · have := L.uo.2 k e
      rw [show (us ++ [u]).getD k 0 = us.getD k 0 by simp [List.getD, List.getElem?_append_left e]]
      exact this
    · have e2 : k = us.length := by omega
      subst e2
      rw [show (us ++ [u]).getD us.length 0 = u by simp [List.getD]]
      exact hu
  have hl : (us ++ [u]).length = us.length + 1 := by simp
  have k1 := known_le (w := w) h0 (h := (us.length : Int)) (by omega)
  have k2 := known_le (w := w) h0 (h := ((us.length + 1 : Nat) : Int)) (by omega)
  have km := known_mono w (a := (us.length : Int)) (b := ((us.length + 1 : Nat) : Int)) (by omega)
  have kn := known_nonneg w us.length
  have e1 := LL_eq h0 v fl us L.uo.1 (t := t)
  have e2 := LL_eq h0 v (fl ++ [x]) (us ++ [u]) hus.1 (t := t)
  rw [hl] at e2
  have e3 : ((t.2.map (·.hi)).take (us.length + 1)).sum = ((t.2.map (·.hi)).take us.length).sum + (hAt t us.length).hi := by
    rw [List.take_add_one, List.getElem?_map, (hAt_mem hk).2]
    simp [sum_app]
  have e4 : ∀ m, m ≤ us.length → ((spares t (us ++ [u])).take m).sum = ((spares t us).take m).sum := fun m hm => by
    rw [spares_sum t _ _ hus.1 (by omega), spares_sum t _ _ L.uo.1 hm, List.take_append_of_le_length hm]
  have b := spares_between ht hus ((known w ((us.length + 1 : Nat) : Int)).toNat - (known w (us.length : Int)).toNat) (known w (us.length : Int)).toNat (by rw [hl]; omega)
  rw [show (known w (us.length : Int)).toNat + ((known w ((us.length + 1 : Nat) : Int)).toNat - (known w (us.length : Int)).toNat) = (known w ((us.length + 1 : Nat) : Int)).toNat by omega, e4 (known w (us.length : Int)).toNat (by omega)] at b
  have e5 : LL t w v (fl ++ [x]) (us ++ [u]) = LL t w v fl us + x - (hAt t us.length).hi + (((spares t (us ++ [u])).take (known w ((us.length + 1 : Nat) : Int)).toNat).sum - ((spares t us).take (known w (us.length : Int)).toNat).sum) := by
    rw [e1, e2, e3, sum_app]
    simp
    omega
  obtain ⟨x0, x1, x2, x3⟩ := hx
  have x2 : need t (us.length + 1) ≤ LL t w v fl us + x - (hAt t us.length).hi := x2
  have x3 : LL t w v fl us + x - (hAt t us.length).hi ≤ t.1 - doubt t w us.length := x3
  refine ⟨by simp [L.len], hus, ?_, ?_⟩
  · rw [hl, e5]
    omega
  · rw [hl, e5]
    show _ ≤ t.1 - doubt t w us.length + wideAt t w us.length
    unfold wideAt
    omega
/-- some number may be pumped -/
theorem LdOk.may {t : Tw} {w : Wa} {v : Int} {fl us : List Int} (ht : TwOk t) (h0 : 0 ≤ w.1) (hkp : Kept t w v) (L : LdOk t w v fl us) (hk : us.length < t.2.length) : loN (stpAt t w [] us.length) (LL t w v fl us) ≤ hiN (stpAt t w [] us.length) (LL t w v fl us) := by
  have a := need_step hk
  have b := hi_step (w := w) ht h0 hk
  have l := L.lo
  have h := L.hi
  have c := hkp.2 us.length hk
  have hr := ht.hr _ (hAt_mem hk).1
  obtain ⟨r1, r2, r3, r4, r5⟩ := hr
  have d := need_nonneg t (us.length + 1)
  have e : (stpAt t w [] us.length).low = need t (us.length + 1) := rfl
  have e2 : (stpAt t w [] us.length).high = t.1 - doubt t w us.length := rfl
  have e3 : (stpAt t w [] us.length).most = (hAt t us.length).hi := rfl
  have e4 : (stpAt t w [] us.length).pump = (hAt t us.length).pu := rfl
  unfold loN hiN
  rw [e, e2, e3, e4]
  split <;> split <;> omega
/-- the level itself -/
theorem LdOk.level {t : Tw} {w : Wa} {v : Int} {fl us : List Int} (ht : TwOk t) (h0 : 0 ≤ w.1) (L : LdOk t w v fl us) : 0 ≤ v + fl.sum - us.sum ∧ v + fl.sum - us.sum ≤ t.1 := by
  have e := LL_eq h0 v fl us L.uo.1 (t := t)
  have k1 := known_le (w := w) h0 (h := (us.length : Int)) (by omega)
  have kn := known_nonneg w us.length
  have s := spares_sum t us us.length L.uo.1 (Nat.le_refl _)
  rw [List.take_length] at s
  have b := spares_between ht L.uo (us.length - (known w (us.length : Int)).toNat) (known w (us.length : Int)).toNat (by omega)
  rw [show (known w (us.length : Int)).toNat + (us.length - (known w (us.length : Int)).toNat) = us.length by omega] at b
  have l := L.lo
  have h := L.hi
  have d := need_nonneg t us.length
  refine ⟨by omega, ?_⟩
  cases hn : us.length with
  | zero =>
    have : us = [] := List.eq_nil_of_length_eq_zero hn
    subst this
    have : hiAt t w 0 = t.1 := rfl
    have e0 : LL t w v fl [] = v + fl.sum := by unfold LL; simp
    simp
    simp at h
    omega
  | succ k =>
    rw [hn] at h b e s k1 kn
    have h : LL t w v fl us ≤ t.1 - doubt t w k + wideAt t w k := h
    have de := doubt_eq (t := t) h0 k
    unfold wideAt at h
    omega
end TL

set_option linter.all false
set_option maxRecDepth 100000
set_option maxHeartbeats 8000000
/-! TLN79b: the desk's methods, the law's own desk. Own work. -/
namespace TL
open PySem L2
@[simp] theorem vs_pL_len (xs : List Int) : vblt .len [pL xs] = some (.int xs.length) := by
  show some (PV.int ((xs.map PV.int).length : Nat)) = _
  simp
@[simp] theorem sum_pL (xs : List Int) : vblt .sum [pL xs] = some (.int xs.sum) := b_sumT xs
@[simp] theorem add_pL (xs ys : List Int) : vbin .add (pL xs) (pL ys) = if xs.length + ys.length ≤ 100000 then some (pL (xs ++ ys)) else none := by
  show (if (xs.map PV.int).length + (ys.map PV.int).length ≤ SZ then some (PV.tup (xs.map PV.int ++ ys.map PV.int)) else none) = _
  simp [pL]
@[simp] theorem cut_pL (xs : List Int) (lo hi : Option Int) : vcut (pL xs) lo hi = some (pL (cutL xs lo hi)) := by
  show some (PV.tup (cutL (xs.map PV.int) lo hi)) = _
  rw [map_cut]; rfl
@[simp] theorem at_pL (mu : List SO) (xs : List Int) (i : Int) : vsub mu (pL xs) (.int i) = (atI xs i).map .int := by
  show atI (xs.map PV.int) i = _
  unfold atI
  simp only [List.length_map]
  cases ixN xs.length i with
  | none => rfl
  | some j => simp
theorem cut_upto {α : Type} (xs : List α) (i : Int) (h : 0 ≤ i) : cutL xs none (some i) = xs.take i.toNat := by
  unfold cutL cutIx
  simp only [if_pos h, List.drop_zero, Nat.sub_zero]
  by_cases e : i.toNat ≤ xs.length
  · rw [Nat.min_eq_left e]
  · rw [Nat.min_eq_right (by omega), List.take_length, List.take_of_length_le (by omega)]
theorem cut_both {α : Type} (xs : List α) (i j : Int) (hi : 0 ≤ i) (hj : 0 ≤ j) (hl : j ≤ xs.length) : cutL xs (some i) (some j) = (xs.take j.toNat).drop i.toNat := by
  unfold cutL cutIx
  simp only [if_pos hi, if_pos hj]
  rw [Nat.min_eq_left (by omega : j.toNat ≤ xs.length)]
  by_cases e : i.toNat ≤ xs.length
  · rw [Nat.min_eq_left e, List.drop_take]
  · rw [Nat.min_eq_right (by omega)]
    simp
    omega
theorem m_level_known (n : Nat) (t : Tw) (w : Wa) (v : Int) (fl us : List Int) (mu : List SO) (ht : TwOk t) (hw : WaOk t.2.length w) (hl : fl.length = us.length) (hn : us.length ≤ t.2.length) :
    Ph TT exL (n + 2) j_level_known [pTw t, pWa w, .int v, pL fl, pL us] mu = .ok (.int (LL t w v fl us)) mu := by
  have wl := looks_len hw
  have tl := ht.n2
  have k1 := known_le (w := w) hw.l1 (h := (us.length : Int)) (by omega)
  have kn := known_nonneg w us.length
  rw [ph (fi := d_level_known.fi) rfl]
  have c1 := fun mu => m_known_by n w us.length mu (by omega)
  have c2 := fun mu => m_mosts_of n t ht mu
  generalize Ph TT exL (n + 1) = Φ at c1 c2 ⊢
  obtain ⟨Y, e1, e2⟩ : ∃ Y : List Int, cutL (t.2.map fun h => PV.int h.hi) (some (known w us.length)) (some (us.length : Int)) = Y.map .int ∧ Y = ((t.2.map (·.hi)).take us.length).drop (known w us.length).toNat := by
    refine ⟨_, ?_, rfl⟩
    rw [show (t.2.map fun h => PV.int h.hi) = (t.2.map (·.hi)).map PV.int by simp, map_cut, cut_both _ _ _ kn (by omega) (by simp; omega), Int.toNat_natCast]
  simp -implicitDefEqProofs [DD.fi, d_level_known, ir_level_known, hl, c1, c2, cut_upto _ _ kn, e1]
  rw [e2]
  rfl
theorem m_range_next (n : Nat) (t : Tw) (w : Wa) (v : Int) (fl us : List Int) (mu : List SO) (ht : TwOk t) (hw : WaOk t.2.length w) (hk : Kept t w v) (L : LdOk t w v fl us) (hn : us.length < t.2.length) :
    Ph TT exL (n + 8) j_range_next [pTw t, pWa w, .int v, pL fl, pL us] mu = .ok (.lst [.tup [.int (loN (stpAt t w [] us.length) (LL t w v fl us)), .int (hiN (stpAt t w [] us.length) (LL t w v fl us))]]) mu := by
  have wl := looks_len hw
  have tl := ht.n2
  rw [ph (fi := d_range_next.fi) rfl]
  have c1 := fun mu => m_level_known (n + 5) t w v fl us mu ht hw L.len (by omega)
  have c2 := fun mu => m_stretches_of (n + 2) t w ht (by omega) mu
  have c3 := fun mu => m_is_kept_by n t w v ht (by omega) mu
  generalize Ph TT exL (n + 7) = Φ at c1 c2 c3 ⊢
  have m := L.may ht hw.l1 hk hn
  have e1 : (if LL t w v fl us - (hAt t us.length).hi < need t (us.length + 1) then need t (us.length + 1) - (LL t w v fl us - (hAt t us.length).hi) else 0) = loN (stpAt t w [] us.length) (LL t w v fl us) := by
    unfold loN stpAt
    simp only
    split <;> split <;> omega
  have e2 : (if t.1 - doubt t w us.length - (LL t w v fl us - (hAt t us.length).hi) < (hAt t us.length).pu then t.1 - doubt t w us.length - (LL t w v fl us - (hAt t us.length).hi) else (hAt t us.length).pu) = hiN (stpAt t w [] us.length) (LL t w v fl us) := by
    unfold hiN stpAt
    simp only
    split <;> split <;> omega
  simp -implicitDefEqProofs [DD.fi, d_range_next, ir_range_next, L.len, c1, c2, c3, (hAt_mem hn).2, List.getElem?_range hn, e1, e2, m, hk]
theorem m_l_least (n : Nat) (t : Tw) (w : Wa) (v : Int) (fl us : List Int) (mu : List SO) (ht : TwOk t) (hw : WaOk t.2.length w) (hl : fl.length = us.length) (hn : us.length ≤ t.2.length) :
    Ph TT exL (n + 1) j__law_least_level [pTw t, .int v, pL fl, pL (us.take (known w us.length).toNat)] mu = .ok (.int (LL t w v fl us)) mu := by
  have wl := looks_len hw
  have tl := ht.n2
  have k1 := known_le (w := w) hw.l1 (h := (us.length : Int)) (by omega)
  have kn := known_nonneg w us.length
  rw [ph (fi := d__law_least_level.fi) rfl]
  obtain ⟨Z, hZ⟩ : ∃ Z, Z = us.take (known w us.length).toNat := ⟨_, rfl⟩
  have e0 : (Z.length : Int) = known w us.length := by
    rw [hZ, List.length_take]
    omega
  rw [← hZ]
  have e1 : cutL (t.2.map pHr) (some (known w us.length)) (some (us.length : Int)) = ((t.2.take us.length).drop (known w us.length).toNat).map pHr := by
    rw [map_cut, cut_both _ _ _ kn (by omega) (by omega)]
    simp
  simp -implicitDefEqProofs only [DD.fi, d__law_least_level, ir__law_least_level, runF_def, List.length_cons, List.length_nil, if_true, xs_cons, x_asg, e_blt, es_cons, Nat.reduceAdd, Nat.reduceSub]
  generalize hC : ev _ (IE.comp _ _ _ _ _) _ = r
  obtain rfl := comp_map hC pHr (fun h => .int h.hi) ((t.2.take us.length).drop (known w us.length).toNat) (by simp -implicitDefEqProofs [hl, e0, e1]) (by simp -implicitDefEqProofs) (by simp -implicitDefEqProofs) (by simp -implicitDefEqProofs) (by simp; omega) (fun h _ => by simp -implicitDefEqProofs [turn])
  obtain ⟨Y, e2, e3⟩ : ∃ Y : List Int, (((t.2.take us.length).drop (known w us.length).toNat).map fun h => PV.int h.hi) = Y.map .int ∧ Y = ((t.2.map (·.hi)).take us.length).drop (known w us.length).toNat := ⟨_, by simp [List.map_drop, List.map_take, Function.comp_def], rfl⟩
  rw [e2]
  simp -implicitDefEqProofs
  rw [e3, hZ]
  rfl
end TL

set_option linter.all false
set_option maxRecDepth 100000
set_option maxHeartbeats 8000000
/-! TLN79c: the desk's methods, the law's own desk, over the store. Own work. -/
namespace TL
open PySem L2
def toL : Option Int → List Int
  | none => []
  | some x => [x]
/-- a desk's state -/
structure Dk where
  t : Tw
  w : Wa
  v : Int
  fl : List Int
  to : Option Int
  us : List Int
abbrev Dk.k (D : Dk) : Nat := D.us.length
abbrev Dk.n (D : Dk) : Nat := D.t.2.length
abbrev Dk.L (D : Dk) : Int := LL D.t D.w D.v D.fl D.us
abbrev Dk.s (D : Dk) : Stp := stpAt D.t D.w [] D.us.length
abbrev Dk.lo (D : Dk) : Int := loN D.s D.L
abbrev Dk.hi (D : Dk) : Int := hiN D.s D.L
structure DkOk (D : Dk) : Prop where
  t : TwOk D.t
  w : WaOk D.t.2.length D.w
  kp : Kept D.t D.w D.v
  v0 : 0 ≤ D.v
  v1 : D.v ≤ D.t.1
  ld : LdOk D.t D.w D.v D.fl D.us
  to : ∀ x, D.to = some x → D.us.length < D.t.2.length ∧ D.lo ≤ x ∧ x ≤ D.hi
def ownF (D : Dk) : List (Key × PV) := [(.inr "tower", pTw D.t), (.inr "watch", pWa D.w), (.inr "start", .int D.v), (.inr "uses", pL D.us), (.inr "pumped", pL (D.fl ++ toL D.to))]
def deskF (D : Dk) : List (Str × PV) := [("own_tower", pTw D.t), ("own_watch", pWa D.w), ("start", .int D.v), ("filled", pL D.fl), ("told", pL (toL D.to)), ("taken", pL D.us)]
theorem of_tower (D : Dk) : look (.inr "tower" : Key) (ownF D) = some (pTw D.t) := rfl
theorem of_watch (D : Dk) : look (.inr "watch" : Key) (ownF D) = some (pWa D.w) := rfl
theorem of_start (D : Dk) : look (.inr "start" : Key) (ownF D) = some (.int D.v) := rfl
theorem of_uses (D : Dk) : look (.inr "uses" : Key) (ownF D) = some (pL D.us) := rfl
theorem of_pumped (D : Dk) : look (.inr "pumped" : Key) (ownF D) = some (pL (D.fl ++ toL D.to)) := rfl
theorem df_tower (D : Dk) : (deskF D).lookup ("own_tower" : Str) = some (pTw D.t) := rfl
theorem df_watch (D : Dk) : (deskF D).lookup ("own_watch" : Str) = some (pWa D.w) := rfl
theorem df_start (D : Dk) : (deskF D).lookup ("start" : Str) = some (.int D.v) := rfl
theorem df_filled (D : Dk) : (deskF D).lookup ("filled" : Str) = some (pL D.fl) := rfl
theorem df_told (D : Dk) : (deskF D).lookup ("told" : Str) = some (pL (toL D.to)) := rfl
theorem df_taken (D : Dk) : (deskF D).lookup ("taken" : Str) = some (pL D.us) := rfl
theorem dm_1 (D : Dk) : (deskF D).lookup ("check_left" : Str) = none := rfl
theorem dm_2 (D : Dk) : (deskF D).lookup ("span_now" : Str) = none := rfl
theorem dm_3 (D : Dk) : (deskF D).lookup ("pump" : Str) = none := rfl
theorem dm_4 (D : Dk) : (deskF D).lookup ("pump_least" : Str) = none := rfl
theorem dm_5 (D : Dk) : (deskF D).lookup ("pump_most" : Str) = none := rfl
theorem dm_6 (D : Dk) : (deskF D).lookup ("use" : Str) = none := rfl
theorem df_len (D : Dk) : (deskF D).length = 6 := rfl
theorem of_len (D : Dk) : (ownF D).length = 5 := rfl
theorem df_put_told (D : Dk) (x : Option Int) : putA ("told" : Str) (pL (toL x)) (deskF D) = deskF { D with to := x } := rfl
theorem df_put_filled (D : Dk) (fl : List Int) : putA ("filled" : Str) (pL fl) (deskF D) = deskF { D with fl := fl } := rfl
theorem df_put_taken (D : Dk) (us : List Int) : putA ("taken" : Str) (pL us) (deskF D) = deskF { D with us := us } := rfl
theorem of_put_uses (D : Dk) (us : List Int) : put (.inr "uses" : Key) (pL us) (ownF D) = ownF { D with us := us } := rfl
theorem of_put_pumped (D : Dk) (pm : List Int) : put (.inr "pumped" : Key) (pL pm) (ownF D) = [(.inr "tower", pTw D.t), (.inr "watch", pWa D.w), (.inr "start", .int D.v), (.inr "uses", pL D.us), (.inr "pumped", pL pm)] := rfl
/-- the desk stands at d -/
abbrev DAt (mu : List SO) (d : Nat) (D : Dk) : Prop := mu[d]? = some (.ins 0 (deskF D))
abbrev OAt (mu : List SO) (o : Nat) (D : Dk) : Prop := mu[o]? = some (.dct (ownF D))
theorem m_D_hour (n d : Nat) (D : Dk) (mu : List SO) (h : DAt mu d D) : Ph TT exL (n + 1) j_Desk_hour [.obj d] mu = .ok (.int D.k) mu := by
  rw [ph (fi := d_Desk_hour.fi) rfl]
  simp -implicitDefEqProofs [DD.fi, d_Desk_hour, ir_Desk_hour, insOf_at h, df_taken]
theorem m_D_tower (n d : Nat) (D : Dk) (mu : List SO) (h : DAt mu d D) : Ph TT exL (n + 1) j_Desk_tower [.obj d] mu = .ok (pTw D.t) mu := by
  rw [ph (fi := d_Desk_tower.fi) rfl]
  simp -implicitDefEqProofs [DD.fi, d_Desk_tower, ir_Desk_tower, insOf_at h, df_tower]
theorem m_D_watch (n d : Nat) (D : Dk) (mu : List SO) (h : DAt mu d D) : Ph TT exL (n + 1) j_Desk_watch [.obj d] mu = .ok (pWa D.w) mu := by
  rw [ph (fi := d_Desk_watch.fi) rfl]
  simp -implicitDefEqProofs [DD.fi, d_Desk_watch, ir_Desk_watch, insOf_at h, df_watch]
theorem toL_len (o : Option Int) : (toL o).length ≤ 1 := by cases o <;> simp [toL]
theorem dk_small {D : Dk} (O : DkOk D) : D.fl.length ≤ 12 ∧ D.us.length ≤ 12 ∧ D.fl.length + (toL D.to).length ≤ 13 := by
  have a := O.ld.len
  have b := O.ld.uo.1
  have c := O.t.n2
  have d := toL_len D.to
  omega
theorem m_D_pumped (n d : Nat) (D : Dk) (mu : List SO) (h : DAt mu d D) (O : DkOk D) : Ph TT exL (n + 1) j_Desk_pumped [.obj d] mu = .ok (pL (D.fl ++ toL D.to)) mu := by
  have sm := dk_small O
  have e : D.fl.length + (toL D.to).length ≤ 100000 := by omega
  rw [ph (fi := d_Desk_pumped.fi) rfl]
  simp -implicitDefEqProofs [DD.fi, d_Desk_pumped, ir_Desk_pumped, insOf_at h, df_filled, df_told, e]
theorem m_D_known (n d : Nat) (D : Dk) (mu : List SO) (h : DAt mu d D) (O : DkOk D) : Ph TT exL (n + 2) j_Desk_known_uses [.obj d] mu = .ok (pL (D.us.take (known D.w D.k).toNat)) mu := by
  have wl := looks_len O.w
  have tl := O.t.n2
  rw [ph (fi := d_Desk_known_uses.fi) rfl]
  have c1 := m_D_hour n d D mu h
  have c2 := fun mu => m_known_by n D.w D.k mu (by omega)
  generalize Ph TT exL (n + 1) = Φ at c1 c2 ⊢
  simp -implicitDefEqProofs [DD.fi, d_Desk_known_uses, ir_Desk_known_uses, insOf_at h, df_taken, df_watch, c1, c2, cut_upto _ _ (known_nonneg _ _)]
theorem m_D_left (n d : Nat) (D : Dk) (mu : List SO) (h : DAt mu d D) (hk : D.k < D.n) : Ph TT exL (n + 2) j_Desk_check_left [.obj d] mu = .ok .non mu := by
  rw [ph (fi := d_Desk_check_left.fi) rfl]
  have c1 := m_D_hour n d D mu h
  generalize Ph TT exL (n + 1) = Φ at c1 ⊢
  have : ¬ ((D.k : Int) = (D.n : Int)) := by omega
  simp -implicitDefEqProofs [DD.fi, d_Desk_check_left, ir_Desk_check_left, insOf_at h, df_tower, c1, this]
theorem m_D_over (n d : Nat) (D : Dk) (mu : List SO) (h : DAt mu d D) (hk : D.k = D.n) : Ph TT exL (n + 2) j_Desk_check_left [.obj d] mu = .exc 1 [("given", .int D.n)] mu := by
  rw [ph (fi := d_Desk_check_left.fi) rfl]
  have c1 := m_D_hour n d D mu h
  generalize Ph TT exL (n + 1) = Φ at c1 ⊢
  have : ((D.k : Int) = (D.n : Int)) := by omega
  simp -implicitDefEqProofs [DD.fi, d_Desk_check_left, ir_Desk_check_left, insOf_at h, df_tower, c1, this, plains]
theorem m_D_span (n d : Nat) (D : Dk) (mu : List SO) (h : DAt mu d D) (O : DkOk D) (hk : D.k < D.n) : Ph TT exL (n + 9) j_Desk_span_now [.obj d] mu = .ok (.tup [.int D.lo, .int D.hi]) mu := by
  rw [ph (fi := d_Desk_span_now.fi) rfl]
  have c1 := fun mu => m_range_next n D.t D.w D.v D.fl D.us mu O.t O.w O.kp O.ld hk
  generalize Ph TT exL (n + 8) = Φ at c1 ⊢
  simp -implicitDefEqProofs [DD.fi, d_Desk_span_now, ir_Desk_span_now, insOf_at h, df_tower, df_watch, df_start, df_filled, df_taken, c1]
theorem m_check_bad (n : Nat) (v lo hi : Int) (mu : List SO) (h : ¬ (lo ≤ v ∧ v ≤ hi)) : Ph TT exL (n + 3) j_check_number [.int v, .int lo, .int hi] mu = .exc 0 [("given", .int v)] mu := by
  rw [ph (fi := d_check_number.fi) rfl]
  simp -implicitDefEqProofs [DD.fi, d_check_number, ir_check_number, m_is_number, h, plains]
/-- pump(x) -/
theorem m_D_pump (n d : Nat) (D : Dk) (x : Int) (mu : List SO) (h : DAt mu d D) (O : DkOk D) (hk : D.k < D.n) (hx : D.lo ≤ x ∧ x ≤ D.hi) : Ph TT exL (n + 10) j_Desk_pump [.obj d, .int x] mu = .ok .non (mu.set d (.ins 0 (deskF { D with to := some x }))) := by
  rw [ph (fi := d_Desk_pump.fi) rfl]
  have c1 := m_D_left (n + 7) d D mu h hk
  have c2 := m_D_span n d D mu h O hk
  have c3 := fun mu => m_check_number (n + 6) x D.lo D.hi mu hx.1 hx.2
  generalize Ph TT exL (n + 9) = Φ at c1 c2 c3 ⊢
  have e := df_put_told D (some x)
  have e2 : PV.tup [.int x] = pL (toL (some x)) := rfl
  simp -implicitDefEqProofs [DD.fi, d_Desk_pump, ir_Desk_pump, insOf_at h, dm_1, dm_2, c1, c2, c3, e2, e, df_len]
theorem m_D_pumpX (n d : Nat) (D : Dk) (x : Int) (mu : List SO) (h : DAt mu d D) (O : DkOk D) (hk : D.k < D.n) (hx : ¬ (D.lo ≤ x ∧ x ≤ D.hi)) : Ph TT exL (n + 10) j_Desk_pump [.obj d, .int x] mu = .exc 0 [("given", .int x)] mu := by
  rw [ph (fi := d_Desk_pump.fi) rfl]
  have c1 := m_D_left (n + 7) d D mu h hk
  have c2 := m_D_span n d D mu h O hk
  have c3 := fun mu => m_check_bad (n + 6) x D.lo D.hi mu hx
  generalize Ph TT exL (n + 9) = Φ at c1 c2 c3 ⊢
  simp -implicitDefEqProofs [DD.fi, d_Desk_pump, ir_Desk_pump, insOf_at h, dm_1, dm_2, c1, c2, c3, df_len]
theorem m_D_pumpO (n d : Nat) (D : Dk) (x : PV) (mu : List SO) (h : DAt mu d D) (hk : D.k = D.n) : Ph TT exL (n + 3) j_Desk_pump [.obj d, x] mu = .exc 1 [("given", .int D.n)] mu := by
  rw [ph (fi := d_Desk_pump.fi) rfl]
  have c1 := m_D_over n d D mu h hk
  generalize Ph TT exL (n + 2) = Φ at c1 ⊢
  simp -implicitDefEqProofs [DD.fi, d_Desk_pump, ir_Desk_pump, insOf_at h, dm_1, c1]
theorem insOf_set {mu : List SO} {d c : Nat} {fs : List (Str × PV)} (h : d < mu.length) : insOf (mu.set d (.ins c fs)) (.obj d) = some (d, c, fs) := insOf_at (List.getElem?_set_self h)
theorem DAt.lt {mu : List SO} {d : Nat} {D : Dk} (h : DAt mu d D) : d < mu.length := (List.getElem?_eq_some_iff.mp h).1
theorem m_D_least (n d : Nat) (D : Dk) (mu : List SO) (h : DAt mu d D) (O : DkOk D) (hk : D.k < D.n) : Ph TT exL (n + 10) j_Desk_pump_least [.obj d] mu = .ok (.int D.lo) (mu.set d (.ins 0 (deskF { D with to := some D.lo }))) := by
  rw [ph (fi := d_Desk_pump_least.fi) rfl]
  have c1 := m_D_left (n + 7) d D mu h hk
  have c2 := m_D_span n d D mu h O hk
  generalize Ph TT exL (n + 9) = Φ at c1 c2 ⊢
  have e := df_put_told D (some D.lo)
  have e2 : PV.tup (cutL [PV.int D.lo, PV.int D.hi] none (some 1)) = pL (toL (some D.lo)) := rfl
  have r0 : ∀ mu, vsub mu (pL (toL (some D.lo))) (.int 0) = some (.int D.lo) := fun _ => rfl
  simp -implicitDefEqProofs [DD.fi, d_Desk_pump_least, ir_Desk_pump_least, insOf_at h, dm_1, dm_2, c1, c2, e2, e, df_len, insOf_set h.lt, df_told, r0]
theorem m_D_most (n d : Nat) (D : Dk) (mu : List SO) (h : DAt mu d D) (O : DkOk D) (hk : D.k < D.n) : Ph TT exL (n + 10) j_Desk_pump_most [.obj d] mu = .ok (.int D.hi) (mu.set d (.ins 0 (deskF { D with to := some D.hi }))) := by
  rw [ph (fi := d_Desk_pump_most.fi) rfl]
  have c1 := m_D_left (n + 7) d D mu h hk
  have c2 := m_D_span n d D mu h O hk
  generalize Ph TT exL (n + 9) = Φ at c1 c2 ⊢
  have e := df_put_told D (some D.hi)
  have e2 : PV.tup (cutL [PV.int D.lo, PV.int D.hi] (some 1) none) = pL (toL (some D.hi)) := rfl
  have r0 : ∀ mu, vsub mu (pL (toL (some D.hi))) (.int 0) = some (.int D.hi) := fun _ => rfl
  simp -implicitDefEqProofs [DD.fi, d_Desk_pump_most, ir_Desk_pump_most, insOf_at h, dm_1, dm_2, c1, c2, e2, e, df_len, insOf_set h.lt, df_told, r0]
theorem m_D_leastO (n d : Nat) (D : Dk) (mu : List SO) (h : DAt mu d D) (hk : D.k = D.n) : Ph TT exL (n + 3) j_Desk_pump_least [.obj d] mu = .exc 1 [("given", .int D.n)] mu := by
  rw [ph (fi := d_Desk_pump_least.fi) rfl]
  have c1 := m_D_over n d D mu h hk
  generalize Ph TT exL (n + 2) = Φ at c1 ⊢
  simp -implicitDefEqProofs [DD.fi, d_Desk_pump_least, ir_Desk_pump_least, insOf_at h, dm_1, c1]
theorem m_D_mostO (n d : Nat) (D : Dk) (mu : List SO) (h : DAt mu d D) (hk : D.k = D.n) : Ph TT exL (n + 3) j_Desk_pump_most [.obj d] mu = .exc 1 [("given", .int D.n)] mu := by
  rw [ph (fi := d_Desk_pump_most.fi) rfl]
  have c1 := m_D_over n d D mu h hk
  generalize Ph TT exL (n + 2) = Φ at c1 ⊢
  simp -implicitDefEqProofs [DD.fi, d_Desk_pump_most, ir_Desk_pump_most, insOf_at h, dm_1, c1]
/-- use(u) -/
theorem m_D_useO (n d : Nat) (D : Dk) (x : PV) (mu : List SO) (h : DAt mu d D) (hk : D.k = D.n) : Ph TT exL (n + 3) j_Desk_use [.obj d, x] mu = .exc 1 [("given", .int D.n)] mu := by
  rw [ph (fi := d_Desk_use.fi) rfl]
  have c1 := m_D_over n d D mu h hk
  generalize Ph TT exL (n + 2) = Φ at c1 ⊢
  simp -implicitDefEqProofs [DD.fi, d_Desk_use, ir_Desk_use, insOf_at h, dm_1, c1]
theorem hr_tp (ts : Tgs) (x : Hr) (Φ : Phi) (s : DS) : asg Φ (.tp ts) (pHr x) s = asg Φ (.tp ts) (.tup [.int x.lo, .int x.hi, .int x.pu]) s := rfl
theorem m_D_useX (n d : Nat) (D : Dk) (u : Int) (mu : List SO) (h : DAt mu d D) (hk : D.k < D.n) (hu : ¬ ((hAt D.t D.k).lo ≤ u ∧ u ≤ (hAt D.t D.k).hi)) : Ph TT exL (n + 4) j_Desk_use [.obj d, .int u] mu = .exc 0 [("given", .int u)] mu := by
  rw [ph (fi := d_Desk_use.fi) rfl]
  have c1 := m_D_left (n + 1) d D mu h hk
  have c2 := m_D_hour (n + 2) d D mu h
  have c3 := fun mu => m_check_bad n u (hAt D.t D.k).lo (hAt D.t D.k).hi mu hu
  generalize Ph TT exL (n + 3) = Φ at c1 c2 c3 ⊢
  simp -implicitDefEqProofs [DD.fi, d_Desk_use, ir_Desk_use, insOf_at h, dm_1, c1, c2, c3, df_tower, (hAt_mem hk).2, hr_tp]
theorem m_D_useN (n d : Nat) (D : Dk) (u : Int) (mu : List SO) (h : DAt mu d D) (hk : D.k < D.n) (hu : (hAt D.t D.k).lo ≤ u ∧ u ≤ (hAt D.t D.k).hi) (ht : D.to = none) : Ph TT exL (n + 4) j_Desk_use [.obj d, .int u] mu = .exc 2 [] mu := by
  rw [ph (fi := d_Desk_use.fi) rfl]
  have c1 := m_D_left (n + 1) d D mu h hk
  have c2 := m_D_hour (n + 2) d D mu h
  have c3 := fun mu => m_check_number n u (hAt D.t D.k).lo (hAt D.t D.k).hi mu hu.1 hu.2
  generalize Ph TT exL (n + 3) = Φ at c1 c2 c3 ⊢
  have e : veq (pL (toL D.to)) (.tup []) = some true := by rw [ht]; rfl
  simp -implicitDefEqProofs [DD.fi, d_Desk_use, ir_Desk_use, insOf_at h, dm_1, c1, c2, c3, df_tower, (hAt_mem hk).2, hr_tp, df_told, e, plains]
theorem m_D_use (n d : Nat) (D : Dk) (u x : Int) (mu : List SO) (h : DAt mu d D) (O : DkOk D) (hk : D.k < D.n) (hu : (hAt D.t D.k).lo ≤ u ∧ u ≤ (hAt D.t D.k).hi) (ht : D.to = some x) :
    Ph TT exL (n + 4) j_Desk_use [.obj d, .int u] mu = .ok .non (mu.set d (.ins 0 (deskF { D with fl := D.fl ++ [x], to := none, us := D.us ++ [u] }))) := by
  have sm := dk_small O
  rw [ph (fi := d_Desk_use.fi) rfl]
  have c1 := m_D_left (n + 1) d D mu h hk
  have c2 := m_D_hour (n + 2) d D mu h
  have c3 := fun mu => m_check_number n u (hAt D.t D.k).lo (hAt D.t D.k).hi mu hu.1 hu.2
  generalize Ph TT exL (n + 3) = Φ at c1 c2 c3 ⊢
  have e : veq (pL [x]) (pL (toL none)) = some false := veq_tup0 (dat_ints 59 [x])
  have e1 : D.fl.length ≤ 99999 := by omega
  have e2 : D.us.length ≤ 99999 := by omega
  have e3 := df_put_filled D (D.fl ++ [x])
  have e4 := df_put_told { D with fl := D.fl ++ [x] } none
  have e5 := df_put_taken { D with fl := D.fl ++ [x], to := none } (D.us ++ [u])
  have e6 : pL (toL D.to) = pL [x] := by rw [ht]; rfl
  have e7 : PV.tup [] = pL (toL none) := rfl
  have e8 : ∀ (f : List PV → DR PV), (pL D.us).tc f = f (D.us.map .int) := fun f => rfl
  have e9 : PV.tup (D.us.map .int ++ [.int u]) = pL (D.us ++ [u]) := by simp [pL]
  simp -implicitDefEqProofs [DD.fi, d_Desk_use, ir_Desk_use, insOf_at h, insOf_set h.lt, dm_1, c1, c2, c3, df_tower, (hAt_mem hk).2, hr_tp, df_told, df_filled, df_taken, e, e1, e2, e3, e4, e5, e6, e7, e8, e9, df_len, plains]
end TL

set_option linter.all false
set_option maxRecDepth 100000
set_option maxHeartbeats 8000000
/-! TLN79d: what the law's own desk tells; what the desk tells. Own work. -/
namespace TL
open PySem L2
inductive Deed
  | pump (x : Int)
  | least
  | most
  | use (u : Int)
def pDeed : Deed → PV
  | .pump x => .tup [.str "pump", .int x]
  | .least => .tup [.str "pump", .str "least"]
  | .most => .tup [.str "pump", .str "most"]
  | .use u => .tup [.str "use", .int u]
/-- what a deed tells, and the desk behind it -/
def act (D : Dk) (d : Deed) : Str × PV × Dk :=
  if D.k = D.n then ("range", .int D.n, D)
  else match d with
    | .pump x => if D.lo ≤ x ∧ x ≤ D.hi then ("told", .non, { D with to := some x }) else ("number", .int x, D)
    | .least => ("told", .int D.lo, { D with to := some D.lo })
    | .most => ("told", .int D.hi, { D with to := some D.hi })
    | .use u => if (hAt D.t D.k).lo ≤ u ∧ u ≤ (hAt D.t D.k).hi then (match D.to with
        | none => ("pumped", .non, D)
        | some x => ("told", .non, { D with fl := D.fl ++ [x], to := none, us := D.us ++ [u] })) else ("number", .int u, D)
theorem DkOk.lt {D : Dk} (O : DkOk D) (h : D.k ≠ D.n) : D.k < D.n := by
  have := O.ld.uo.1
  show D.us.length < D.t.2.length
  have h : D.us.length ≠ D.t.2.length := h
  omega
theorem DkOk.lohi {D : Dk} (O : DkOk D) (h : D.k < D.n) : D.lo ≤ D.hi := O.ld.may O.t O.w.l1 O.kp h
theorem act_ok {D : Dk} (O : DkOk D) (d : Deed) : DkOk (act D d).2.2 := by
  unfold act
  split
  · exact O
  rename_i hn
  have hk := O.lt hn
  have lh := O.lohi hk
  have set : ∀ x, D.lo ≤ x ∧ x ≤ D.hi → DkOk { D with to := some x } := fun x hx => ⟨O.t, O.w, O.kp, O.v0, O.v1, O.ld, fun y hy => by
    cases hy
    exact ⟨hk, hx.1, hx.2⟩⟩
  cases d with
  | pump x =>
    simp only
    split
    · rename_i h; exact set x h
    · exact O
  | least => exact set _ ⟨Int.le_refl _, lh⟩
  | most => exact set _ ⟨lh, Int.le_refl _⟩
  | use u =>
    simp only
    split
    · rename_i hu
      cases q : D.to with
      | none => exact O
      | some x =>
        obtain ⟨_, x1, x2⟩ := O.to x q
        refine ⟨O.t, O.w, O.kp, O.v0, O.v1, ?_, fun y hy => by cases hy⟩
        refine O.ld.next O.t O.w.l1 hk (ps := []) (ok_iff.mpr ⟨x1, x2⟩) hu
    · exact O
/-! ### texts -/
theorem ok_pump : PyData.strOk ("pump" : Str) = true := by decide +kernel
theorem ok_use : PyData.strOk ("use" : Str) = true := by decide +kernel
theorem ok_least : PyData.strOk ("least" : Str) = true := by decide +kernel
theorem ok_most : PyData.strOk ("most" : Str) = true := by decide +kernel
theorem ok_told : PyData.strOk ("told" : Str) = true := by decide +kernel
theorem ok_number : PyData.strOk ("number" : Str) = true := by decide +kernel
theorem ok_range : PyData.strOk ("range" : Str) = true := by decide +kernel
theorem ok_pumped : PyData.strOk ("pumped" : Str) = true := by decide +kernel
theorem eq_up : (("use" : Str) == ("pump" : Str)) = false := by decide +kernel
theorem eq_pu : (("pump" : Str) == ("use" : Str)) = false := by decide +kernel
theorem eq_ml : (("most" : Str) == ("least" : Str)) = false := by decide +kernel
theorem eq_lm : (("least" : Str) == ("most" : Str)) = false := by decide +kernel
/-! ### the law's own side -/
theorem m_l_at (n o : Nat) (D : Dk) (mu : List SO) (h : OAt mu o D) : Ph TT exL (n + 1) j__law_at [.obj o] mu = .ok (.int D.k) mu := by
  rw [ph (fi := d__law_at.fi) rfl]
  simp -implicitDefEqProofs [DD.fi, d__law_at, ir__law_at, vs_objS h, of_uses]
theorem m_l_told (n o : Nat) (D : Dk) (mu : List SO) (h : OAt mu o D) (O : DkOk D) : Ph TT exL (n + 2) j__law_told [.obj o] mu = .ok (pL (D.us.take (known D.w D.k).toNat)) mu := by
  have wl := looks_len O.w
  have tl := O.t.n2
  rw [ph (fi := d__law_told.fi) rfl]
  have c1 := m_l_at n o D mu h
  have c2 := fun mu => m_l_known n D.w D.k mu (by omega)
  generalize Ph TT exL (n + 1) = Φ at c1 c2 ⊢
  simp -implicitDefEqProofs [DD.fi, d__law_told, ir__law_told, vs_objS h, of_uses, of_watch, c1, c2, cut_upto _ _ (known_nonneg _ _)]
theorem fl_cut {D : Dk} (O : DkOk D) : cutL (D.fl ++ toL D.to) none (some (D.k : Int)) = D.fl := by
  rw [cut_upto _ _ (by omega), Int.toNat_natCast, show D.k = D.fl.length from O.ld.len.symm]
  simp
theorem m_l_may (n o : Nat) (D : Dk) (mu : List SO) (h : OAt mu o D) (O : DkOk D) (hk : D.k < D.n) : Ph TT exL (n + 4) j__law_may [.obj o] mu = .ok (.tup [.int D.lo, .int D.hi]) mu := by
  have ne : ¬ ((D.k : Int) = (D.n : Int)) := by omega
  rw [ph (fi := d__law_may.fi) rfl]
  have c1 := m_l_at (n + 2) o D mu h
  have c2 := m_l_told (n + 1) o D mu h O
  have c3 := fun mu => m_l_hours (n + 2) D.t mu
  have c4 := fun mu => m_l_least (n + 2) D.t D.w D.v D.fl D.us mu O.t O.w O.ld.len O.ld.uo.1
  have c5 := fun mu => m_l_range n D.t D.w [] D.k hk D.L mu O.t O.w
  generalize Ph TT exL (n + 3) = Φ at c1 c2 c3 c4 c5 ⊢
  have e : rangeV (stpAt D.t D.w [] D.k) D.L = .tup [.int D.lo, .int D.hi] := if_pos (O.lohi hk)
  rw [e] at c5
  simp -implicitDefEqProofs [DD.fi, d__law_may, ir__law_may, vs_objS h, of_uses, of_watch, of_tower, of_start, of_pumped, c1, c2, c3, ne, fl_cut O, c4, c5]
theorem m_l_level (n o : Nat) (D : Dk) (mu : List SO) (h : OAt mu o D) (O : DkOk D) : Ph TT exL (n + 2) j__law_level [.obj o] mu = .ok (.int (D.v + D.fl.sum - D.us.sum)) mu := by
  rw [ph (fi := d__law_level.fi) rfl]
  have c1 := m_l_at n o D mu h
  generalize Ph TT exL (n + 1) = Φ at c1 ⊢
  simp -implicitDefEqProofs [DD.fi, d__law_level, ir__law_level, vs_objS h, of_uses, of_start, of_pumped, c1, fl_cut O]
theorem of_put_to (D : Dk) (x : Int) : put (.inr "pumped" : Key) (pL (D.fl ++ [x])) (ownF D) = ownF { D with to := some x } := rfl
theorem of_put_use (D : Dk) (u x : Int) (h : D.to = some x) : put (.inr "uses" : Key) (pL (D.us ++ [u])) (ownF D) = ownF { D with fl := D.fl ++ [x], to := none, us := D.us ++ [u] } := by
  rw [of_put_uses]
  unfold ownF
  simp only [h, toL, List.append_nil]
theorem own_put {o : Nat} {D : Dk} {mu : List SO} (h : OAt mu o D) (s : DS) (v : PV) (k : Str) (hs : s.mu = mu) (hv : v.plain = true) : objPut v (.obj o) (.str k) s = .ok () { s with mu := mu.set o (.dct (put (.inr k) v (ownF D))) } := by
  subst hs
  exact objPut_dct h rfl hv (by rw [of_len]; decide)
theorem set_same {α : Type} {xs : List α} {i : Nat} {x : α} (h : xs[i]? = some x) : xs.set i x = xs := by
  obtain ⟨h1, rfl⟩ := List.getElem?_eq_some_iff.mp h
  exact List.set_getElem_self h1
theorem m_l_run (n o : Nat) (D : Dk) (d : Deed) (mu : List SO) (h : OAt mu o D) (O : DkOk D) : Ph TT exL (n + 5) j__law_run [.obj o, pDeed d] mu = .ok (.lst [.str (act D d).1, (act D d).2.1]) (mu.set o (.dct (ownF (act D d).2.2))) := by
  have sm := dk_small O
  rw [ph (fi := d__law_run.fi) rfl]
  have c1 := m_l_at (n + 3) o D mu h
  have c2 := fun mu => m_l_hours (n + 3) D.t mu
  by_cases hn : D.k = D.n
  · have ne : ((D.k : Int) = (D.n : Int)) := by omega
    have e : act D d = (("range" : Str), PV.int D.n, D) := if_pos hn
    rw [e, set_same h]
    generalize Ph TT exL (n + 4) = Φ at c1 c2 ⊢
    simp -implicitDefEqProofs [DD.fi, d__law_run, ir__law_run, vs_objS h, of_tower, c1, c2, ne]
  have ne : ¬ ((D.k : Int) = (D.n : Int)) := by omega
  have hk := O.lt hn
  have lh := O.lohi hk
  have c3 := m_l_may n o D mu h O hk
  generalize Ph TT exL (n + 4) = Φ at c1 c2 c3 ⊢
  have e : act D d = (match d with
    | .pump x => if D.lo ≤ x ∧ x ≤ D.hi then ("told", .non, { D with to := some x }) else ("number", .int x, D)
    | .least => ("told", .int D.lo, { D with to := some D.lo })
    | .most => ("told", .int D.hi, { D with to := some D.hi })
    | .use u => if (hAt D.t D.k).lo ≤ u ∧ u ≤ (hAt D.t D.k).hi then (match D.to with
        | none => ("pumped", .non, D)
        | some x => ("told", .non, { D with fl := D.fl ++ [x], to := none, us := D.us ++ [u] })) else ("number", .int u, D)) := if_neg hn
  rw [e]
  clear e
  have e2 : D.fl.length ≤ 99999 := by omega
  have e3 : D.us.length ≤ 99999 := by omega
  have a1 : ∀ x : Int, vbin .add (pL D.fl) (.tup [.int x]) = some (pL (D.fl ++ [x])) := fun x => by
    have := add_pL D.fl [x]
    rw [if_pos (by simp; omega)] at this
    exact this
  have a2 : ∀ x : Int, vbin .add (pL D.us) (.tup [.int x]) = some (pL (D.us ++ [x])) := fun x => by
    have := add_pL D.us [x]
    rw [if_pos (by simp; omega)] at this
    exact this
  cases d with
  | pump x =>
    by_cases hx : D.lo ≤ x ∧ x ≤ D.hi
    · simp -implicitDefEqProofs [DD.fi, d__law_run, ir__law_run, vs_objS h, of_tower, of_pumped, fl_cut O, c1, c2, c3, ne, pDeed, ok_pump, ok_least, ok_most, hx, a1, own_put h, of_put_to]
    · by_cases hl : D.lo ≤ x
      · have hh : ¬ x ≤ D.hi := fun z => hx ⟨hl, z⟩
        simp -implicitDefEqProofs [DD.fi, d__law_run, ir__law_run, vs_objS h, of_tower, of_pumped, fl_cut O, c1, c2, c3, ne, pDeed, ok_pump, ok_least, ok_most, hl, hh, set_same h]
      · simp -implicitDefEqProofs [DD.fi, d__law_run, ir__law_run, vs_objS h, of_tower, of_pumped, fl_cut O, c1, c2, c3, ne, pDeed, ok_pump, ok_least, ok_most, hl, set_same h]
  | least => simp -implicitDefEqProofs [DD.fi, d__law_run, ir__law_run, vs_objS h, of_tower, of_pumped, fl_cut O, c1, c2, c3, ne, pDeed, ok_pump, ok_least, ok_most, lh, a1, own_put h, of_put_to]
  | most => simp -implicitDefEqProofs [DD.fi, d__law_run, ir__law_run, vs_objS h, of_tower, of_pumped, fl_cut O, c1, c2, c3, ne, pDeed, ok_pump, ok_least, ok_most, eq_ml, lh, a1, own_put h, of_put_to]
  | use u =>
    have hq := (hAt_mem hk).2
    by_cases hu : (hAt D.t D.k).lo ≤ u ∧ u ≤ (hAt D.t D.k).hi
    · cases q : D.to with
      | none =>
        simp -implicitDefEqProofs [DD.fi, d__law_run, ir__law_run, vs_objS h, of_tower, of_pumped, of_uses, q, fl_cut O, c1, c2, c3, ne, pDeed, ok_pump, ok_use, eq_up, hu, hq, hr_tp, set_same h, O.ld.len, toL]
      | some x =>
        have nl : ¬ ((D.us.length : Int) + 1 = (D.k : Int)) := by
          show ¬ ((D.us.length : Int) + 1 = (D.us.length : Int))
          omega
        simp -implicitDefEqProofs [nl, DD.fi, d__law_run, ir__law_run, vs_objS h, of_tower, of_pumped, of_uses, q, fl_cut O, c1, c2, c3, ne, pDeed, ok_pump, ok_use, eq_up, hu, hq, hr_tp, a2, own_put h, of_put_use D u x q, O.ld.len, toL]
    · by_cases hl : (hAt D.t D.k).lo ≤ u
      · have hh : ¬ u ≤ (hAt D.t D.k).hi := fun z => hu ⟨hl, z⟩
        simp -implicitDefEqProofs [DD.fi, d__law_run, ir__law_run, vs_objS h, of_tower, of_pumped, fl_cut O, c1, c2, c3, ne, pDeed, ok_pump, ok_use, eq_up, hl, hh, hq, hr_tp, set_same h]
      · simp -implicitDefEqProofs [DD.fi, d__law_run, ir__law_run, vs_objS h, of_tower, of_pumped, fl_cut O, c1, c2, c3, ne, pDeed, ok_pump, ok_use, eq_up, hl, hq, hr_tp, set_same h]
@[simp] theorem plain_str (k : Str) : (PV.str k).plain = true := by simp [PV.plain]
theorem plain_deed (d : Deed) : (pDeed d).plain = true := by cases d <;> simp [pDeed]
theorem m_l_deed (n o w : Nat) (D : Dk) (mu : List SO) (h : OAt mu o D) (hw : WellAt mu w) (O : DkOk D) : ∃ d mu', Ph TT exL (n + 5) j__law_deed [.obj w, .obj o] mu = .ok (pDeed d) mu' ∧ WS w mu mu' := by
  rw [ph (fi := d__law_deed.fi) rfl]
  have c1 := m_l_at (n + 3) o D mu h
  have c2 := fun mu => m_l_hours (n + 3) D.t mu
  have f1 := fun mu xs h a b => m_of (n + 2) w mu xs h a b
  have f2 := fun mu l h a b => m_draw (n + 3) w mu l h a b
  by_cases hn : D.k = D.n
  · have ne : ((D.k : Int) = (D.n : Int)) := by omega
    generalize Ph TT exL (n + 4) = Φ at c1 c2 f1 f2 ⊢
    obtain ⟨r, mu1, k1, k2, s1⟩ := f1 mu [pDeed (.pump 1), pDeed (.use 1), pDeed .least, pDeed .most] hw (by simp) (by simp)
    obtain ⟨d, rfl⟩ : ∃ d, r = pDeed d := by
      simp at k1
      rcases k1 with rfl | rfl | rfl | rfl <;> exact ⟨_, rfl⟩
    simp only [pDeed] at k2
    exact ⟨d, mu1, by simp -implicitDefEqProofs [DD.fi, d__law_deed, ir__law_deed, vs_objS h, of_tower, c1, c2, ne, k2, pDeed], s1⟩
  have ne : ¬ ((D.k : Int) = (D.n : Int)) := by omega
  have hk := O.lt hn
  have lh := O.lohi hk
  have hq := hAt_mem hk
  have hr := O.t.hr _ hq.1
  obtain ⟨r1, r2, r3, r4, r5⟩ := hr
  have b1 : 0 ≤ D.lo := loN_nonneg _ _
  have b2 : D.hi ≤ (hAt D.t D.k).pu := hiN_le D.s D.L
  have c3 := m_l_may n o D mu h O hk
  generalize Ph TT exL (n + 4) = Φ at c1 c2 c3 f1 f2 ⊢
  -- a deed that pumps
  have tp : ∀ m, WellAt m w → ∃ r1 m1 r2 m2 v d m3, Φ j__law_draw [.obj w, .int (D.hi - D.lo + 1)] m = .ok (.int r1) m1 ∧ Φ j__law_draw [.obj w, .int 9] m1 = .ok (.int r2) m2 ∧
      ((0 < r2 ∧ Φ j__law_of [.obj w, .tup [.str "least", .str "most", .int D.lo, .int D.hi, .int (D.lo + r1)]] m2 = .ok v m3) ∨ (¬ 0 < r2 ∧ Φ j__law_of [.obj w, .tup [.int (D.hi + 1), .int (D.lo + 31)]] m2 = .ok v m3)) ∧ pDeed d = .tup [.str "pump", v] ∧ WS w m m3 := fun m hm => by
    obtain ⟨r1, m1, k1, _, _, s1⟩ := f2 m (D.hi - D.lo + 1) hm (by omega) (by omega)
    obtain ⟨r2, m2, k2, _, _, s2⟩ := f2 m1 9 s1.at_ (by decide) (by decide)
    by_cases h2 : 0 < r2
    · obtain ⟨v, m3, k3, k4, s3⟩ := f1 m2 [.str "least", .str "most", .int D.lo, .int D.hi, .int (D.lo + r1)] s2.at_ (by simp) (by simp)
      obtain ⟨d, hd⟩ : ∃ d, pDeed d = .tup [.str "pump", v] := by
        simp at k3
        rcases k3 with rfl | rfl | rfl | rfl | rfl
        · exact ⟨.least, rfl⟩
        · exact ⟨.most, rfl⟩
        · exact ⟨.pump D.lo, rfl⟩
        · exact ⟨.pump D.hi, rfl⟩
        · exact ⟨.pump (D.lo + r1), rfl⟩
      exact ⟨r1, m1, r2, m2, v, d, m3, k1, k2, .inl ⟨h2, k4⟩, hd, s1.trans (s2.trans s3)⟩
    · obtain ⟨v, m3, k3, k4, s3⟩ := f1 m2 [.int (D.hi + 1), .int (D.lo + 31)] s2.at_ (by simp) (by simp)
      obtain ⟨d, hd⟩ : ∃ d, pDeed d = .tup [.str "pump", v] := by
        simp at k3
        rcases k3 with rfl | rfl
        · exact ⟨.pump (D.hi + 1), rfl⟩
        · exact ⟨.pump (D.lo + 31), rfl⟩
      exact ⟨r1, m1, r2, m2, v, d, m3, k1, k2, .inr ⟨h2, k4⟩, hd, s1.trans (s2.trans s3)⟩
  -- a deed that uses
  have tu : ∀ m, WellAt m w → ∃ r1 m1 r2 m2 u m3, Φ j__law_draw [.obj w, .int 9] m = .ok (.int r1) m1 ∧
      ((0 < r1 ∧ Φ j__law_draw [.obj w, .int ((hAt D.t D.k).hi - (hAt D.t D.k).lo + 1)] m1 = .ok (.int r2) m2 ∧ u = (hAt D.t D.k).lo + r2 ∧ m3 = m2) ∨ (¬ 0 < r1 ∧ u = (hAt D.t D.k).hi + 1 ∧ m3 = m1)) ∧ WS w m m3 := fun m hm => by
    obtain ⟨r1, m1, k1, _, _, s1⟩ := f2 m 9 hm (by decide) (by decide)
    by_cases h2 : 0 < r1
    · obtain ⟨r2, m2, k2, _, _, s2⟩ := f2 m1 ((hAt D.t D.k).hi - (hAt D.t D.k).lo + 1) s1.at_ (by omega) (by omega)
      exact ⟨r1, m1, r2, m2, _, _, k1, .inl ⟨h2, k2, rfl, rfl⟩, s1.trans s2⟩
    · exact ⟨r1, m1, 0, m1, _, _, k1, .inr ⟨h2, rfl, rfl⟩, s1⟩
  have fin : ∀ (r : FR), (∃ d v mu', pDeed d = .tup [.str "pump", v] ∧ r = .ok (.tup [.str "pump", v]) mu' ∧ WS w mu mu') ∨ (∃ u mu', r = .ok (.tup [.str "use", .int u]) mu' ∧ WS w mu mu') → ∃ d mu', r = .ok (pDeed d) mu' ∧ WS w mu mu' := fun r hr => by
    rcases hr with ⟨d, v, mu', h1, h2, h3⟩ | ⟨u, mu', h1, h2⟩
    · exact ⟨d, mu', by rw [h1]; exact h2, h3⟩
    · exact ⟨.use u, mu', h1, h2⟩
  apply fin
  have hl : (((D.fl ++ toL D.to).length : Nat) : Int) = (D.us.length : Int) + ((toL D.to).length : Int) := by
    rw [List.length_append, O.ld.len]
    omega
  obtain ⟨r6, m6, k6, _, _, s6⟩ := f2 mu 6 hw (by decide) (by decide)
  obtain ⟨r9, m9, k9, _, _, s9⟩ := f2 mu 9 hw (by decide) (by decide)
  obtain ⟨r96, m96, k96, _, _, s96⟩ := f2 m9 6 s9.at_ (by decide) (by decide)
  cases q : D.to with
  | some x =>
    have nl : ¬ ((D.us.length : Int) + 1 = (D.k : Int)) := by
      show ¬ ((D.us.length : Int) + 1 = (D.us.length : Int))
      omega
    by_cases h6 : r6 = 0
    · left
      obtain ⟨r1, m1, r2, m2, v, d, m3, t1, t2, t3, t4, t5⟩ := tp m6 s6.at_
      refine ⟨d, v, m3, t4, ?_, s6.trans t5⟩
      rcases t3 with ⟨t3, t6⟩ | ⟨t3, t6⟩ <;> simp -implicitDefEqProofs [DD.fi, d__law_deed, ir__law_deed, vs_objS h, of_tower, of_pumped, c1, c2, c3, ne, q, toL, O.ld.len, nl, k6, h6, hq.2, hr_tp, t1, t2, t3, t6]
    · right
      obtain ⟨r1, m1, r2, m2, u, m3, t1, t2, t3⟩ := tu m6 s6.at_
      refine ⟨u, m3, ?_, s6.trans t3⟩
      rcases t2 with ⟨t2, t4, t5, t6⟩ | ⟨t2, t5, t6⟩
      · subst t5; subst t6
        simp -implicitDefEqProofs [DD.fi, d__law_deed, ir__law_deed, vs_objS h, of_tower, of_pumped, c1, c2, c3, ne, q, toL, O.ld.len, nl, k6, h6, hq.2, hr_tp, t1, t2, t4]
      · subst t5; subst t6
        simp -implicitDefEqProofs [DD.fi, d__law_deed, ir__law_deed, vs_objS h, of_tower, of_pumped, c1, c2, c3, ne, q, toL, O.ld.len, nl, k6, h6, hq.2, hr_tp, t1, t2]
  | none =>
    by_cases h9 : 0 < r9
    · left
      obtain ⟨r1, m1, r2, m2, v, d, m3, t1, t2, t3, t4, t5⟩ := tp m9 s9.at_
      refine ⟨d, v, m3, t4, ?_, s9.trans t5⟩
      rcases t3 with ⟨t3, t6⟩ | ⟨t3, t6⟩ <;> simp -implicitDefEqProofs [DD.fi, d__law_deed, ir__law_deed, vs_objS h, of_tower, of_pumped, c1, c2, c3, ne, q, toL, O.ld.len, k9, h9, hq.2, hr_tp, t1, t2, t3, t6]
    · by_cases h6 : r96 = 0
      · left
        obtain ⟨r1, m1, r2, m2, v, d, m3, t1, t2, t3, t4, t5⟩ := tp m96 s96.at_
        refine ⟨d, v, m3, t4, ?_, s9.trans (s96.trans t5)⟩
        rcases t3 with ⟨t3, t6⟩ | ⟨t3, t6⟩ <;> simp -implicitDefEqProofs [DD.fi, d__law_deed, ir__law_deed, vs_objS h, of_tower, of_pumped, c1, c2, c3, ne, q, toL, O.ld.len, k9, h9, k96, h6, hq.2, hr_tp, t1, t2, t3, t6]
      · right
        obtain ⟨r1, m1, r2, m2, u, m3, t1, t2, t3⟩ := tu m96 s96.at_
        refine ⟨u, m3, ?_, s9.trans (s96.trans t3)⟩
        rcases t2 with ⟨t2, t4, t5, t6⟩ | ⟨t2, t5, t6⟩
        · subst t5; subst t6
          simp -implicitDefEqProofs [DD.fi, d__law_deed, ir__law_deed, vs_objS h, of_tower, of_pumped, c1, c2, c3, ne, q, toL, O.ld.len, k9, h9, k96, h6, hq.2, hr_tp, t1, t2, t4]
        · subst t5; subst t6
          simp -implicitDefEqProofs [DD.fi, d__law_deed, ir__law_deed, vs_objS h, of_tower, of_pumped, c1, c2, c3, ne, q, toL, O.ld.len, k9, h9, k96, h6, hq.2, hr_tp, t1, t2]
end TL

set_option linter.all false
set_option maxRecDepth 100000
set_option maxHeartbeats 8000000
/-! TLN79e: a deed called, a step of the law. Own work. -/
namespace TL
open PySem L2
def D0 (t : Tw) (w : Wa) (v : Int) : Dk := ⟨t, w, v, [], none, []⟩
theorem D0_ok {t : Tw} {w : Wa} {v : Int} (ht : TwOk t) (hw : WaOk t.2.length w) (hk : Kept t w v) (v0 : 0 ≤ v) (v1 : v ≤ t.1) : DkOk (D0 t w v) := ⟨ht, hw, hk, v0, v1, LdOk.init hk v1, fun x h => by cases h⟩
theorem m_l_fresh (n : Nat) (t : Tw) (w : Wa) (v : Int) (mu : List SO) : Ph TT exL (n + 1) j__law_fresh [pTw t, pWa w, .int v] mu = .ok (.obj mu.length) (mu ++ [.dct (ownF (D0 t w v))]) := by
  rw [ph (fi := d__law_fresh.fi) rfl]
  have e : ∀ a b c d e : PV, mergeP ([] : List (Key × PV)) [(.inr "tower", a), (.inr "watch", b), (.inr "start", c), (.inr "uses", d), (.inr "pumped", e)] = [(.inr "tower", a), (.inr "watch", b), (.inr "start", c), (.inr "uses", d), (.inr "pumped", e)] := fun _ _ _ _ _ => rfl
  simp -implicitDefEqProofs only [DD.fi, d__law_fresh, ir__law_fresh, runF_def, List.length_cons, List.length_nil, if_true, xs_cons, x_ret, e_sh, e_dict, es_cons, Nat.reduceAdd, Nat.reduceSub]
  have e2 : ∀ a b c d e : PV, plainK [((.inr "tower" : Key), a), (.inr "watch", b), (.inr "start", c), (.inr "uses", d), (.inr "pumped", e)] = plains [a, b, c, d, e] := fun a b c d e => rfl
  simp -implicitDefEqProofs [-mergeP_cons, e, e2]
  rfl
theorem ins_app (mu : List SO) (c : Nat) (fs : List (Str × PV)) : insOf (mu ++ [.ins c fs]) (.obj mu.length) = some (mu.length, c, fs) := insOf_at (by simp)
theorem set_app (mu : List SO) (x y : SO) : (mu ++ [x]).set mu.length y = mu ++ [y] := by
  rw [List.set_append_right _ _ (Nat.le_refl _)]
  simp
theorem m_D_init (n : Nat) (t : Tw) (w : Wa) (v : Int) (mu : List SO) (ht : TwOk t) (hw : WaOk t.2.length w) (hk : Kept t w v) (v0 : 0 ≤ v) (v1 : v ≤ t.1) :
    Ph TT exL (n + 11) j_Desk_init [.obj mu.length, pTw t, pWa w, .int v] (mu ++ [.ins 0 []]) = .ok .non (mu ++ [.ins 0 (deskF (D0 t w v))]) := by
  have wl := looks_len hw
  have tl := ht.n2
  rw [ph (fi := d_Desk_init.fi) rfl]
  have c1 := fun mu => m_check_watched n t w v mu ht hw v0 v1
  have c2 := fun mu => m_is_kept_by (n + 3) t w v ht (by omega) mu
  generalize Ph TT exL (n + 10) = Φ at c1 c2 ⊢
  have p1 : ∀ a : PV, putA ("own_tower" : Str) a ([] : List (Str × PV)) = ([("own_tower", a)] : List (Str × PV)) := fun _ => rfl
  have p2 : ∀ a b : PV, putA ("own_watch" : Str) b ([("own_tower", a)] : List (Str × PV)) = ([("own_tower", a), ("own_watch", b)] : List (Str × PV)) := fun _ _ => rfl
  have p3 : ∀ a b c : PV, putA ("start" : Str) c ([("own_tower", a), ("own_watch", b)] : List (Str × PV)) = ([("own_tower", a), ("own_watch", b), ("start", c)] : List (Str × PV)) := fun _ _ _ => rfl
  have p4 : ∀ a b c d : PV, putA ("filled" : Str) d ([("own_tower", a), ("own_watch", b), ("start", c)] : List (Str × PV)) = ([("own_tower", a), ("own_watch", b), ("start", c), ("filled", d)] : List (Str × PV)) := fun _ _ _ _ => rfl
  have p5 : ∀ a b c d e : PV, putA ("told" : Str) e ([("own_tower", a), ("own_watch", b), ("start", c), ("filled", d)] : List (Str × PV)) = ([("own_tower", a), ("own_watch", b), ("start", c), ("filled", d), ("told", e)] : List (Str × PV)) := fun _ _ _ _ _ => rfl
  have p6 : ∀ a b c d e f : PV, putA ("taken" : Str) f ([("own_tower", a), ("own_watch", b), ("start", c), ("filled", d), ("told", e)] : List (Str × PV)) = ([("own_tower", a), ("own_watch", b), ("start", c), ("filled", d), ("told", e), ("taken", f)] : List (Str × PV)) := fun _ _ _ _ _ _ => rfl
  simp -implicitDefEqProofs [DD.fi, d_Desk_init, ir_Desk_init, c1, c2, hk, ins_app, set_app, p1, p2, p3, p4, p5, p6]
  rfl
/-- how a call of a deed ends -/
def outc (D : Dk) (dd : Deed) (mu : List SO) : FR :=
  if D.k = D.n then .exc 1 [("given", .int D.n)] mu
  else match dd with
    | .pump x => if D.lo ≤ x ∧ x ≤ D.hi then .ok .non mu else .exc 0 [("given", .int x)] mu
    | .least => .ok (.int D.lo) mu
    | .most => .ok (.int D.hi) mu
    | .use u => if (hAt D.t D.k).lo ≤ u ∧ u ≤ (hAt D.t D.k).hi then (match D.to with
        | none => .exc 2 [] mu
        | some _ => .ok .non mu) else .exc 0 [("given", .int u)] mu
theorem v1 (x : Int) : vin (.int x) (.tup [.str "least", .str "most"]) = some false := rfl
theorem v2 : vin (.str "least") (.tup [.str "least", .str "most"]) = some true := by decide +kernel
theorem v3 : vin (.str "most") (.tup [.str "least", .str "most"]) = some true := by decide +kernel
theorem m_l_call (n d : Nat) (D : Dk) (dd : Deed) (mu : List SO) (h : DAt mu d D) (O : DkOk D) : Ph TT exL (n + 11) j__law_call [.obj d, pDeed dd] mu = outc D dd (mu.set d (.ins 0 (deskF (act D dd).2.2))) := by
  rw [ph (fi := d__law_call.fi) rfl]
  by_cases hn : D.k = D.n
  · have c1 := fun x mu h => m_D_pumpO (n + 7) d D x mu h hn
    have c2 := m_D_leastO (n + 7) d D mu h hn
    have c3 := m_D_mostO (n + 7) d D mu h hn
    have c4 := fun x mu h => m_D_useO (n + 7) d D x mu h hn
    generalize Ph TT exL (n + 10) = Φ at c1 c2 c3 c4 ⊢
    have e : act D dd = (("range" : Str), PV.int D.n, D) := if_pos hn
    have e2 : ∀ mu, outc D dd mu = .exc 1 [("given", .int D.n)] mu := fun _ => if_pos hn
    rw [e, e2, set_same h]
    cases dd <;> simp -implicitDefEqProofs [DD.fi, d__law_call, ir__law_call, pDeed, ok_pump, ok_use, ok_least, ok_most, eq_pu, eq_ml, eq_lm, insOf_at h, dm_3, dm_4, dm_5, dm_6, c1 _ _ h, c2, c3, c4 _ _ h, v1, v2, v3]
  have hk := O.lt hn
  have c1 := fun x hx => m_D_pump n d D x mu h O hk hx
  have c2 := fun x hx => m_D_pumpX n d D x mu h O hk hx
  have c3 := m_D_least n d D mu h O hk
  have c4 := m_D_most n d D mu h O hk
  have c5 := fun u hu => m_D_useX (n + 6) d D u mu h hk hu
  have c6 := fun u hu ht => m_D_useN (n + 6) d D u mu h hk hu ht
  have c7 := fun u x hu ht => m_D_use (n + 6) d D u x mu h O hk hu ht
  generalize Ph TT exL (n + 10) = Φ at c1 c2 c3 c4 c5 c6 c7 ⊢
  cases dd with
  | pump x =>
    by_cases hx : D.lo ≤ x ∧ x ≤ D.hi
    · have e : act D (.pump x) = (("told" : Str), PV.non, { D with to := some x }) := (if_neg hn).trans (if_pos hx)
      have e2 : ∀ mu, outc D (.pump x) mu = .ok .non mu := fun _ => (if_neg hn).trans (if_pos hx)
      rw [e, e2]
      simp -implicitDefEqProofs [DD.fi, d__law_call, ir__law_call, pDeed, ok_pump, ok_use, ok_least, ok_most, eq_pu, insOf_at h, dm_3, c1 x hx, v1, v2, v3]
    · have e : act D (.pump x) = (("number" : Str), PV.int x, D) := (if_neg hn).trans (if_neg hx)
      have e2 : ∀ mu, outc D (.pump x) mu = .exc 0 [("given", .int x)] mu := fun _ => (if_neg hn).trans (if_neg hx)
      rw [e, e2, set_same h]
      simp -implicitDefEqProofs [DD.fi, d__law_call, ir__law_call, pDeed, ok_pump, ok_use, ok_least, ok_most, eq_pu, insOf_at h, dm_3, c2 x hx, v1, v2, v3]
  | least =>
    have e : act D .least = (("told" : Str), PV.int D.lo, { D with to := some D.lo }) := if_neg hn
    have e2 : ∀ mu, outc D .least mu = .ok (.int D.lo) mu := fun _ => if_neg hn
    rw [e, e2]
    simp -implicitDefEqProofs [DD.fi, d__law_call, ir__law_call, pDeed, ok_pump, ok_use, ok_least, ok_most, eq_pu, insOf_at h, dm_4, c3, v1, v2, v3]
  | most =>
    have e : act D .most = (("told" : Str), PV.int D.hi, { D with to := some D.hi }) := if_neg hn
    have e2 : ∀ mu, outc D .most mu = .ok (.int D.hi) mu := fun _ => if_neg hn
    rw [e, e2]
    simp -implicitDefEqProofs [DD.fi, d__law_call, ir__law_call, pDeed, ok_pump, ok_use, ok_least, ok_most, eq_pu, eq_ml, insOf_at h, dm_5, c4, v1, v2, v3]
  | use u =>
    by_cases hu : (hAt D.t D.k).lo ≤ u ∧ u ≤ (hAt D.t D.k).hi
    · cases q : D.to with
      | none =>
        have e : act D (.use u) = (("pumped" : Str), PV.non, D) := (if_neg hn).trans ((if_pos hu).trans (by rw [q]))
        have e2 : ∀ mu, outc D (.use u) mu = .exc 2 [] mu := fun _ => (if_neg hn).trans ((if_pos hu).trans (by rw [q]))
        rw [e, e2, set_same h]
        simp -implicitDefEqProofs [DD.fi, d__law_call, ir__law_call, pDeed, ok_pump, ok_use, ok_least, ok_most, insOf_at h, dm_6, c6 u hu q]
      | some x =>
        have e : act D (.use u) = (("told" : Str), PV.non, { D with fl := D.fl ++ [x], to := none, us := D.us ++ [u] }) := (if_neg hn).trans ((if_pos hu).trans (by rw [q]))
        have e2 : ∀ mu, outc D (.use u) mu = .ok .non mu := fun _ => (if_neg hn).trans ((if_pos hu).trans (by rw [q]))
        rw [e, e2]
        simp -implicitDefEqProofs [DD.fi, d__law_call, ir__law_call, pDeed, ok_pump, ok_use, ok_least, ok_most, insOf_at h, dm_6, c7 u x hu q]
    · have e : act D (.use u) = (("number" : Str), PV.int u, D) := (if_neg hn).trans (if_neg hu)
      have e2 : ∀ mu, outc D (.use u) mu = .exc 0 [("given", .int u)] mu := fun _ => (if_neg hn).trans (if_neg hu)
      rw [e, e2, set_same h]
      simp -implicitDefEqProofs [DD.fi, d__law_call, ir__law_call, pDeed, ok_pump, ok_use, ok_least, ok_most, insOf_at h, dm_6, c5 u hu]
theorem m_lam_step (n d : Nat) (D : Dk) (dd : Deed) (mu : List SO) (h : DAt mu d D) (O : DkOk D) : Ph TT exL (n + 12) l__law_step_0 [pDeed dd, .obj d] mu = outc D dd (mu.set d (.ins 0 (deskF (act D dd).2.2))) := by
  rw [ph (fi := ⟨2, 2, .cons (.ret el__law_step_0) .nil⟩) rfl]
  have c := m_l_call n d D dd mu h O
  generalize Ph TT exL (n + 11) = Φ at c ⊢
  generalize outc D dd (mu.set d (.ins 0 (deskF (act D dd).2.2))) = r at c ⊢
  simp -implicitDefEqProofs [el__law_step_0, c]
  cases r <;> rfl
@[simp] theorem flat_bl (b : Bool) : (PV.bl b).flat = true := rfl
@[simp] theorem eqP_bl (a b : Bool) : eqP (.bl a) (.bl b) = (a == b) := rfl
theorem fx0 : List.findIdx? (fun x => eqP x (.bl true)) [.bl true, .bl false, .bl false] = some 0 := rfl
theorem fx1 : List.findIdx? (fun x => eqP x (.bl true)) [.bl false, .bl true, .bl false] = some 1 := rfl
theorem fx2 : List.findIdx? (fun x => eqP x (.bl true)) [.bl false, .bl false, .bl true] = some 2 := rfl
/-- what comes of a call -/
theorem m_came_ok (n k : Nat) (caps : List PV) (mu mu' : List SO) (v : PV) (h : Ph TT exL n k caps mu = .ok v mu') : Ph TT exL (n + 1) j__law_came [.fn k caps] mu = .ok (.lst [.str "told", v]) mu' := by
  rw [ph (fi := d__law_came.fi) rfl]
  generalize Ph TT exL n = Φ at h ⊢
  simp -implicitDefEqProofs [fx0, fx1, fx2, DD.fi, d__law_came, ir__law_came, h]
theorem m_came_0 (n k : Nat) (caps : List PV) (mu mu' : List SO) (x : Int) (h : Ph TT exL n k caps mu = .exc 0 [("given", .int x)] mu') : Ph TT exL (n + 1) j__law_came [.fn k caps] mu = .ok (.lst [.str "number", .int x]) mu' := by
  rw [ph (fi := d__law_came.fi) rfl]
  generalize Ph TT exL n = Φ at h ⊢
  have e : ([("given", .int x)] : List (Str × PV)).lookup ("given" : Str) = some (.int x) := rfl
  simp -implicitDefEqProofs [fx0, fx1, fx2, DD.fi, d__law_came, ir__law_came, h, e]
theorem m_came_1 (n k : Nat) (caps : List PV) (mu mu' : List SO) (x : Int) (h : Ph TT exL n k caps mu = .exc 1 [("given", .int x)] mu') : Ph TT exL (n + 1) j__law_came [.fn k caps] mu = .ok (.lst [.str "range", .int x]) mu' := by
  rw [ph (fi := d__law_came.fi) rfl]
  generalize Ph TT exL n = Φ at h ⊢
  have e : ([("given", .int x)] : List (Str × PV)).lookup ("given" : Str) = some (.int x) := rfl
  simp -implicitDefEqProofs [fx0, fx1, fx2, DD.fi, d__law_came, ir__law_came, h, e]
theorem m_came_2 (n k : Nat) (caps : List PV) (mu mu' : List SO) (h : Ph TT exL n k caps mu = .exc 2 [] mu') : Ph TT exL (n + 1) j__law_came [.fn k caps] mu = .ok (.lst [.str "pumped", .non]) mu' := by
  rw [ph (fi := d__law_came.fi) rfl]
  generalize Ph TT exL n = Φ at h ⊢
  simp -implicitDefEqProofs [fx0, fx1, fx2, DD.fi, d__law_came, ir__law_came, h]
theorem m_came (n k : Nat) (caps : List PV) (D : Dk) (dd : Deed) (mu mu' : List SO) (h : Ph TT exL n k caps mu = outc D dd mu') : Ph TT exL (n + 1) j__law_came [.fn k caps] mu = .ok (.lst [.str (act D dd).1, (act D dd).2.1]) mu' := by
  unfold outc at h
  unfold act
  split at h
  · rename_i hn
    rw [if_pos hn]
    exact m_came_1 n k caps mu mu' _ h
  rename_i hn
  rw [if_neg hn]
  cases dd with
  | pump x =>
    simp only at h ⊢
    split at h
    · rename_i hx
      rw [if_pos hx]
      exact m_came_ok n k caps mu mu' _ h
    · rename_i hx
      rw [if_neg hx]
      exact m_came_0 n k caps mu mu' _ h
  | least => exact m_came_ok n k caps mu mu' _ h
  | most => exact m_came_ok n k caps mu mu' _ h
  | use u =>
    simp only at h ⊢
    split at h
    · rename_i hx
      rw [if_pos hx]
      cases q : D.to with
      | none =>
        rw [q] at h
        exact m_came_2 n k caps mu mu' h
      | some x =>
        rw [q] at h
        exact m_came_ok n k caps mu mu' _ h
    · rename_i hx
      rw [if_neg hx]
      exact m_came_0 n k caps mu mu' _ h
theorem act_dat (D : Dk) (dd : Deed) : datS 1 (act D dd).2.1 = true := by
  unfold act
  split
  · rfl
  · cases dd with
    | pump x => simp only; split <;> rfl
    | least => rfl
    | most => rfl
    | use u =>
      simp only
      split
      · cases D.to <;> rfl
      · rfl
theorem act_ok1 (D : Dk) (dd : Deed) : PyData.strOk (act D dd).1 = true := by
  unfold act
  split
  · exact ok_range
  · cases dd with
    | pump x => simp only; split <;> first | exact ok_told | exact ok_number
    | least => exact ok_told
    | most => exact ok_told
    | use u =>
      simp only
      split
      · cases D.to <;> first | exact ok_told | exact ok_pumped
      · exact ok_number
/-- a step of the law -/
theorem m_l_step (n d o : Nat) (D : Dk) (dd : Deed) (mu : List SO) (h : DAt mu d D) (h2 : OAt mu o D) (O : DkOk D) :
    Ph TT exL (n + 14) j__law_step [.obj d, .obj o, pDeed dd] mu = .ok (.bl true) ((mu.set o (.dct (ownF (act D dd).2.2))).set d (.ins 0 (deskF (act D dd).2.2))) := by
  have ne : o ≠ d := by
    rintro rfl
    have := h.symm.trans h2
    cases this
  have hd : DAt (mu.set o (.dct (ownF (act D dd).2.2))) d D := by
    show (mu.set _ _)[d]? = _
    rw [List.getElem?_set_ne ne]
    exact h
  rw [ph (fi := d__law_step.fi) rfl]
  have c1 := m_l_run (n + 8) o D dd mu h2 O
  have c2 := m_came (n + 12) l__law_step_0 [pDeed dd, .obj d] D dd _ _ (m_lam_step n d D dd _ hd O)
  have c3 := fun mu => m_same (n + 11) 1 (act D dd).2.1 (by decide) (act_dat D dd) mu
  have p1 := plain_deed dd
  have k1 := act_ok1 D dd
  generalize Ph TT exL (n + 13) = Φ at c1 c2 c3 ⊢
  generalize hd : pDeed dd = pd at c1 c2 p1 ⊢
  obtain ⟨xs, rfl⟩ : ∃ xs, pd = .tup xs := by
    subst hd
    cases dd <;> exact ⟨_, rfl⟩
  simp -implicitDefEqProofs [DD.fi, d__law_step, ir__law_step, c1, c2, c3, k1]
theorem m_l_is_shown (n d o : Nat) (D : Dk) (mu : List SO) (h : DAt mu d D) (h2 : OAt mu o D) (O : DkOk D) : Ph TT exL (n + 6) j__law_is_shown [.obj d, .obj o] mu = .ok (.bl true) mu := by
  have sm := dk_small O
  have wl := looks_len O.w
  have tl := O.t.n2
  rw [ph (fi := d__law_is_shown.fi) rfl]
  have c1 := m_D_tower (n + 4) d D mu h
  have c2 := m_D_watch (n + 4) d D mu h
  have c3 := m_D_hour (n + 4) d D mu h
  have c4 := m_D_pumped (n + 4) d D mu h O
  have c5 := m_D_known (n + 3) d D mu h O
  have c6 := m_l_at (n + 4) o D mu h2
  have c7 := m_l_told (n + 3) o D mu h2 O
  have dl : ∀ (k : Nat) (xs : List Int), xs.length ≤ 1000 → datS (k + 1) (pL xs) = true := fun k xs hx => by
    simp only [pL, datS, List.length_map, List.all_map, Bool.and_eq_true, decide_eq_true_eq, List.all_eq_true]
    refine ⟨hx, fun x _ => ?_⟩
    cases k <;> rfl
  have dt : datS 3 (pTw D.t) = true := by
    simp only [pTw, datS, List.all_cons, List.all_nil, List.length_cons, List.length_nil, List.length_map, List.all_map, Bool.and_eq_true, decide_eq_true_eq, List.all_eq_true]
    refine ⟨by decide, trivial, ⟨by omega, fun x _ => ?_⟩, trivial⟩
    rfl
  have dw : datS 2 (pWa D.w) = true := by
    have := dl 0 D.w.2 (by omega)
    simp only [pL, datS, Bool.and_eq_true, decide_eq_true_eq] at this
    simp only [pWa, datS, List.all_cons, List.all_nil, List.length_cons, List.length_nil, Bool.and_eq_true, decide_eq_true_eq]
    exact ⟨by decide, trivial, this, trivial⟩
  have c8 := fun mu => m_same n 4 (.tup [pTw D.t, pWa D.w, .int D.k, pL (D.fl ++ toL D.to), pL (D.us.take (known D.w D.k).toNat)]) (by decide) (by
    have a := dl 2 (D.fl ++ toL D.to) (by rw [List.length_append]; omega)
    have b := dl 2 (D.us.take (known D.w D.k).toNat) (by rw [List.length_take]; omega)
    have dw' : datS 3 (pWa D.w) = true := by
      have := dl 1 D.w.2 (by omega)
      simp only [pL, datS, Bool.and_eq_true, decide_eq_true_eq] at this
      simp only [pWa, datS, List.all_cons, List.all_nil, List.length_cons, List.length_nil, Bool.and_eq_true, decide_eq_true_eq]
      exact ⟨by decide, trivial, this, trivial⟩
    show (decide _ && List.all [pTw D.t, pWa D.w, .int D.k, pL (D.fl ++ toL D.to), pL (D.us.take (known D.w D.k).toNat)] (datS 3)) = true
    simp only [List.all_cons, List.all_nil, dt, dw', a, b, Bool.and_true]
    rfl) mu
  generalize Ph TT exL (n + 5) = Φ at c1 c2 c3 c4 c5 c6 c7 c8 ⊢
  simp -implicitDefEqProofs [DD.fi, d__law_is_shown, ir__law_is_shown, insOf_at h, vs_objS h2, of_tower, of_watch, of_pumped, c1, c2, c3, c4, c5, c6, c7, c8]
end TL

set_option linter.all false
set_option maxRecDepth 100000
set_option maxHeartbeats 8000000
/-! TLN79f: days of desks. Own work. -/
namespace TL
open PySem L2
theorem m_kept_tower2 (n : Nat) (w : Nat) (mu : List SO) (hw : WellAt mu w) : ∃ t wa v mu', Ph TT exL (n + 5) j__law_kept_tower [.obj w, .int 5] mu = .ok (.tup [pTw t, pWa wa, .int v]) mu' ∧ TwOk t ∧ WaOk t.2.length wa ∧ wa.1 ≤ 2 ∧ 0 ≤ v ∧ v ≤ t.1 ∧ Kept t wa v ∧ WS w mu mu' := by
  have f1 := fun mu h => m_tower (n + 1) w mu 5 h (by decide) (by decide)
  have f2 := fun mu t ht h => m_watch (n + 1) w mu t ht h
  have f3 := fun mu l h a b => m_draw (n + 3) w mu l h a b
  have f4 := fun t wa v mu ht hwa => m_l_can_keep n t wa v mu ht hwa
  rw [ph (fi := d__law_kept_tower.fi) rfl]
  generalize Ph TT exL (n + 4) = Φ at f1 f2 f3 f4 ⊢
  have i1 : IntOk 60 := by unfold IntOk; omega
  generalize hX : runF Φ exL d__law_kept_tower.fi [.obj w, .int 5] mu = rX
  simp -implicitDefEqProofs [DD.fi, d__law_kept_tower, ir__law_kept_tower, i1] at hX
  generalize hL : loopS _ _ _ _ = r at hX
  rcases loop_ret_inv hL (fun k : Nat => .int (k : Int)) (List.range 60) (range_enc 60) (fun st => ∃ (m : List SO) (a2 a3 a4 a5 : Option PV), WS w mu m ∧ st = ⟨[some (.obj w), some (.int 5), a2, a3, a4, a5], [], [], m⟩)
    (fun r st => ∃ t wa v, r = .tup [pTw t, pWa wa, .int v] ∧ TwOk t ∧ WaOk t.2.length wa ∧ wa.1 ≤ 2 ∧ 0 ≤ v ∧ v ≤ t.1 ∧ Kept t wa v ∧ st.cap = [] ∧ WS w mu st.mu) ⟨mu, none, none, none, none, WS.refl hw, rfl⟩ (fun x st hx hI => by
      obtain ⟨m, a2, a3, a4, a5, s0, rfl⟩ := hI
      obtain ⟨t, m1, e1, ht, hl, h12, s1⟩ := f1 m s0.at_
      obtain ⟨wa, m2, e2, hwa, hwa2, s2⟩ := f2 m1 t ht s1.at_
      have h2 := ht.h1
      obtain ⟨v, m3, e3, v0, v1, s3⟩ := f3 m2 (t.1 + 1) s2.at_ (by omega) (by have := ht.h2; omega)
      have e4 := f4 t wa v m3 ht hwa
      refine ⟨_, by simp -implicitDefEqProofs; rfl, ?_⟩
      by_cases hk : Kept t wa v
      · exact .inr ⟨.tup [pTw t, pWa wa, .int v], ⟨[some (.obj w), some (.int 5), some (.int x), some (pTw t), some (pWa wa), some (.int v)], [], [], m3⟩, by simp -implicitDefEqProofs [e1, e2, e3, e4, hk], t, wa, v, rfl, ht, hwa, hwa2, v0, by omega, hk, rfl, s0.trans (s1.trans (s2.trans s3))⟩
      · exact .inl ⟨⟨[some (.obj w), some (.int 5), some (.int x), some (pTw t), some (pWa wa), some (.int v)], [], [], m3⟩, by simp -implicitDefEqProofs [e1, e2, e3, e4, hk], m3, some (.int x), some (pTw t), some (pWa wa), some (.int v), s0.trans (s1.trans (s2.trans s3)), rfl⟩) with ⟨s', rfl, m, a2, a3, a4, a5, s0, rfl⟩ | ⟨rv, s', rfl, t, wa, v, rfl, ht, hwa, hwa2, v0, v1, hkp, hcap, s0⟩
  · simp -implicitDefEqProofs at hX
    subst hX
    refine ⟨(6, [⟨0, 1, 2⟩, ⟨1, 2, 2⟩]), (0, [1]), 3, m, rfl, ⟨by decide, by decide, by decide, by decide, fun h hh => ?_⟩, ⟨by decide, by decide, by simp, fun l hl => ?_⟩, by decide, by decide, by decide, by decide +kernel, s0⟩
    · simp at hh
      rcases hh with rfl | rfl <;> (unfold HrOk; decide)
    · simp at hl
      subst hl
      decide
  · simp -implicitDefEqProofs [hcap] at hX
    subst hX
    exact ⟨t, wa, v, _, rfl, ht, hwa, hwa2, v0, v1, hkp, s0⟩
theorem m_lam_pump (n d : Nat) (D : Dk) (x : Int) (mu : List SO) (h : DAt mu d D) (O : DkOk D) : Ph TT exL (n + 11) l__law_right_0 [.obj d, .int x] mu = outc D (.pump x) (mu.set d (.ins 0 (deskF (act D (.pump x)).2.2))) := by
  rw [ph (fi := ⟨2, 2, .cons (.ret el__law_right_0) .nil⟩) rfl]
  by_cases hn : D.k = D.n
  · have c1 := fun x mu h => m_D_pumpO (n + 7) d D x mu h hn
    generalize Ph TT exL (n + 10) = Φ at c1 ⊢
    have e : act D (.pump x) = (("range" : Str), PV.int D.n, D) := if_pos hn
    have e2 : ∀ mu, outc D (.pump x) mu = .exc 1 [("given", .int D.n)] mu := fun _ => if_pos hn
    rw [e, e2, set_same h]
    simp -implicitDefEqProofs [el__law_right_0, insOf_at h, dm_3, c1 _ _ h]
  have hk := O.lt hn
  have c1 := fun x hx => m_D_pump n d D x mu h O hk hx
  have c2 := fun x hx => m_D_pumpX n d D x mu h O hk hx
  generalize Ph TT exL (n + 10) = Φ at c1 c2 ⊢
  by_cases hx : D.lo ≤ x ∧ x ≤ D.hi
  · have e : act D (.pump x) = (("told" : Str), PV.non, { D with to := some x }) := (if_neg hn).trans (if_pos hx)
    have e2 : ∀ mu, outc D (.pump x) mu = .ok .non mu := fun _ => (if_neg hn).trans (if_pos hx)
    rw [e, e2]
    simp -implicitDefEqProofs [el__law_right_0, insOf_at h, dm_3, c1 x hx]
  · have e : act D (.pump x) = (("number" : Str), PV.int x, D) := (if_neg hn).trans (if_neg hx)
    have e2 : ∀ mu, outc D (.pump x) mu = .exc 0 [("given", .int x)] mu := fun _ => (if_neg hn).trans (if_neg hx)
    rw [e, e2, set_same h]
    simp -implicitDefEqProofs [el__law_right_0, insOf_at h, dm_3, c2 x hx]
theorem m_lam_use (n d : Nat) (D : Dk) (u : Int) (mu : List SO) (h : DAt mu d D) (O : DkOk D) : Ph TT exL (n + 11) l__law_right_1 [.obj d, .int u] mu = outc D (.use u) (mu.set d (.ins 0 (deskF (act D (.use u)).2.2))) := by
  rw [ph (fi := ⟨2, 2, .cons (.ret el__law_right_1) .nil⟩) rfl]
  by_cases hn : D.k = D.n
  · have c1 := fun x mu h => m_D_useO (n + 7) d D x mu h hn
    generalize Ph TT exL (n + 10) = Φ at c1 ⊢
    have e : act D (.use u) = (("range" : Str), PV.int D.n, D) := if_pos hn
    have e2 : ∀ mu, outc D (.use u) mu = .exc 1 [("given", .int D.n)] mu := fun _ => if_pos hn
    rw [e, e2, set_same h]
    simp -implicitDefEqProofs [el__law_right_1, insOf_at h, dm_6, c1 _ _ h]
  have hk := O.lt hn
  have c5 := fun u hu => m_D_useX (n + 6) d D u mu h hk hu
  have c6 := fun u hu ht => m_D_useN (n + 6) d D u mu h hk hu ht
  have c7 := fun u x hu ht => m_D_use (n + 6) d D u x mu h O hk hu ht
  generalize Ph TT exL (n + 10) = Φ at c5 c6 c7 ⊢
  by_cases hu : (hAt D.t D.k).lo ≤ u ∧ u ≤ (hAt D.t D.k).hi
  · cases q : D.to with
    | none =>
      have e : act D (.use u) = (("pumped" : Str), PV.non, D) := (if_neg hn).trans ((if_pos hu).trans (by rw [q]))
      have e2 : ∀ mu, outc D (.use u) mu = .exc 2 [] mu := fun _ => (if_neg hn).trans ((if_pos hu).trans (by rw [q]))
      rw [e, e2, set_same h]
      simp -implicitDefEqProofs [el__law_right_1, insOf_at h, dm_6, c6 u hu q]
    | some x =>
      have e : act D (.use u) = (("told" : Str), PV.non, { D with fl := D.fl ++ [x], to := none, us := D.us ++ [u] }) := (if_neg hn).trans ((if_pos hu).trans (by rw [q]))
      have e2 : ∀ mu, outc D (.use u) mu = .ok .non mu := fun _ => (if_neg hn).trans ((if_pos hu).trans (by rw [q]))
      rw [e, e2]
      simp -implicitDefEqProofs [el__law_right_1, insOf_at h, dm_6, c7 u x hu q]
  · have e : act D (.use u) = (("number" : Str), PV.int u, D) := (if_neg hn).trans (if_neg hu)
    have e2 : ∀ mu, outc D (.use u) mu = .exc 0 [("given", .int u)] mu := fun _ => (if_neg hn).trans (if_neg hu)
    rw [e, e2, set_same h]
    simp -implicitDefEqProofs [el__law_right_1, insOf_at h, dm_6, c5 u hu]
theorem act_t (D : Dk) (dd : Deed) : (act D dd).2.2.t = D.t := by
  unfold act
  split
  · rfl
  · cases dd with
    | pump x => simp only; split <;> rfl
    | least => rfl
    | most => rfl
    | use u =>
      simp only
      split
      · cases D.to <;> rfl
      · rfl
/-- the store grows; of what there was the well alone may change -/
structure WG (w : Nat) (mu mu' : List SO) : Prop where
  at_ : WellAt mu' w
  len : mu.length ≤ mu'.length
  oth : ∀ i, i < mu.length → i ≠ w → mu'[i]? = mu[i]?
theorem WS.g {w : Nat} {a b : List SO} (h : WS w a b) : WG w a b := ⟨h.at_, by rw [h.len]; exact Nat.le_refl _, fun i _ hn => h.oth i hn⟩
theorem WG.trans {w : Nat} {a b c : List SO} (h : WG w a b) (k : WG w b c) : WG w a c := ⟨k.at_, Nat.le_trans h.len k.len, fun i hi hn => (k.oth i (Nat.lt_of_lt_of_le hi h.len) hn).trans (h.oth i hi hn)⟩
theorem WellAt.lt {w : Nat} {mu : List SO} (h : WellAt mu w) : w < mu.length := by
  obtain ⟨_, _, _, h1, _⟩ := h
  exact (List.getElem?_eq_some_iff.mp h1).1
theorem WG.app {w : Nat} {a b : List SO} (h : WG w a b) (x : SO) : WG w a (b ++ [x]) := ⟨h.at_.app x, by simp; have := h.len; omega, fun i hi hn => by
  rw [List.getElem?_append_left (Nat.lt_of_lt_of_le hi h.len)]
  exact h.oth i hi hn⟩
theorem WG.set {w : Nat} {a b : List SO} (h : WG w a b) {i : Nat} (hi : a.length ≤ i) (hw : i ≠ w) (x : SO) : WG w a (b.set i x) := by
  refine ⟨?_, by rw [List.length_set]; exact h.len, fun j hj hn => ?_⟩
  · obtain ⟨p, q, r, h1, h2⟩ := h.at_
    exact ⟨p, q, r, by rw [List.getElem?_set_ne hw]; exact h1, h2⟩
  · rw [List.getElem?_set_ne (by omega)]
    exact h.oth j hj hn
theorem veqM_ins {mu : List SO} {x y : PV} {a b c d : Nat} {f g : List (Str × PV)} (h1 : insOf mu x = some (a, b, f)) (h2 : insOf mu y = some (c, d, g)) : veqM mu x y = some (decide (a = c)) := by
  unfold veqM
  rw [h1, h2]
theorem veqM_str (mu : List SO) (a b : Str) : veqM mu (.str a) (.str b) = veq (.str a) (.str b) := rfl
/-- the desk and the law's own one stand in the store -/
structure Both (w : Nat) (mu0 m : List SO) (d o : Nat) (D : Dk) : Prop where
  g : WG w mu0 m
  d1 : mu0.length ≤ d
  o1 : mu0.length ≤ o
  dne : d ≠ w
  one : o ≠ w
  dat : DAt m d D
  oat : OAt m o D
  ok : DkOk D
theorem Both.ne {w : Nat} {mu0 m : List SO} {d o : Nat} {D : Dk} (B : Both w mu0 m d o D) : o ≠ d := by
  rintro rfl
  have := B.dat.symm.trans B.oat
  cases this
theorem Both.ws {w : Nat} {mu0 m m' : List SO} {d o : Nat} {D : Dk} (B : Both w mu0 m d o D) (s : WS w m m') : Both w mu0 m' d o D :=
  ⟨B.g.trans s.g, B.d1, B.o1, B.dne, B.one, (s.oth d B.dne).trans B.dat, (s.oth o B.one).trans B.oat, B.ok⟩
theorem Both.step {w : Nat} {mu0 m : List SO} {d o : Nat} {D D' : Dk} (B : Both w mu0 m d o D) (h : DkOk D') : Both w mu0 ((m.set o (.dct (ownF D'))).set d (.ins 0 (deskF D'))) d o D' := by
  have l1 := B.dat.lt
  have l2 : o < m.length := (List.getElem?_eq_some_iff.mp B.oat).1
  refine ⟨(B.g.set B.o1 B.one _).set B.d1 B.dne _, B.d1, B.o1, B.dne, B.one, ?_, ?_, h⟩
  · show (_ : List SO)[d]? = _
    rw [List.getElem?_set_self (by rw [List.length_set]; exact l1)]
  · show (_ : List SO)[o]? = _
    rw [List.getElem?_set_ne (Ne.symm B.ne), List.getElem?_set_self l2]
theorem m_right (n : Nat) (w : Nat) (mu : List SO) (hw : WellAt mu w) : ∃ mu', Ph TT exL (n + 15) j__law_right [.obj w] mu = .ok (.bl true) mu' ∧ WG w mu mu' := by
  obtain ⟨t, wa, v, mu1, e1, ht, hwa, hwa2, v0, v1, hkp, s1⟩ := m_kept_tower2 (n + 9) w mu hw
  have f1 := fun m => m_l_fresh (n + 13) t wa v m
  have f2 := fun m => m_D_init (n + 3) t wa v m ht hwa hkp v0 v1
  have O0 := D0_ok ht hwa hkp v0 v1
  have f3 := fun d o D dd m h h2 O => m_l_step n d o D dd m h h2 O
  have f4 := fun o D m h hw O => m_l_deed (n + 9) o w D m h hw O
  have f5 := fun d o D m h h2 O => m_l_is_shown (n + 8) d o D m h h2 O
  have f6 := fun o D m h O => m_l_level (n + 12) o D m h O
  have f7 := fun o D m h O hk => m_l_may (n + 10) o D m h O hk
  have f8 := fun o D dd m h O => m_l_run (n + 9) o D dd m h O
  have f9 := fun d D x m m' (h : Ph TT exL (n + 13) l__law_right_0 [.obj d, .int x] m = outc D (.pump x) m') => m_came (n + 13) l__law_right_0 [.obj d, .int x] D (.pump x) m m' h
  have f9 := fun d D x m h O => f9 d D x m _ (m_lam_pump (n + 2) d D x m h O)
  have f10 := fun d D u m h O => m_came (n + 13) l__law_right_1 [.obj d, .int u] D (.use u) m _ (m_lam_use (n + 2) d D u m h O)
  have f11 := fun D dd m => m_same (n + 12) 1 (act D dd).2.1 (by decide) (act_dat D dd) m
  rw [ph (fi := d__law_right.fi) rfl]
  generalize Ph TT exL (n + 14) = Φ at e1 f1 f2 f3 f4 f5 f6 f7 f8 f9 f10 f11 ⊢
  generalize hX : runF Φ exL d__law_right.fi [.obj w] mu = rX
  have wlt := hw.lt
  -- the first desk
  obtain ⟨m2, k2, hm2⟩ : ∃ m2, Φ j__law_fresh [pTw t, pWa wa, .int v] mu1 = .ok (.obj mu1.length) m2 ∧ m2 = mu1 ++ [.dct (ownF (D0 t wa v))] := ⟨_, f1 mu1, rfl⟩
  obtain ⟨m3, k3, hm3⟩ : ∃ m3, Φ j_Desk_init [.obj m2.length, pTw t, pWa wa, .int v] (m2 ++ [.ins 0 []]) = .ok .non m3 ∧ m3 = m2 ++ [.ins 0 (deskF (D0 t wa v))] := ⟨_, f2 m2, rfl⟩
  obtain ⟨m4, k4, hm4⟩ : ∃ m4, Φ j_Desk_init [.obj m3.length, pTw t, pWa wa, .int v] (m3 ++ [.ins 0 []]) = .ok .non m4 ∧ m4 = m3 ++ [.ins 0 (deskF (D0 t wa v))] := ⟨_, f2 m3, rfl⟩
  have l2 : m2.length = mu1.length + 1 := by rw [hm2]; simp
  have l3 : m3.length = mu1.length + 2 := by rw [hm3]; simp [l2]
  have B4 : Both w mu m4 m2.length mu1.length (D0 t wa v) := by
    have g := s1.g
    have l1 := s1.len
    refine ⟨?_, by omega, by omega, by omega, by omega, ?_, ?_, O0⟩
    · rw [hm4, hm3, hm2]
      exact ((g.app _).app _).app _
    · show m4[m2.length]? = _
      rw [hm4, hm3, List.getElem?_append_left (by simp)]
      simp
    · show m4[mu1.length]? = _
      rw [hm4, List.getElem?_append_left (by omega), hm3, List.getElem?_append_left (by omega), hm2]
      simp
  have q1 : insOf m3 (.obj m2.length) = some (m2.length, 0, deskF (D0 t wa v)) := by rw [hm3]; exact ins_app _ _ _
  have q2 : insOf m4 (.obj m2.length) = some (m2.length, 0, deskF (D0 t wa v)) := insOf_at B4.dat
  have q3 : insOf m4 (.obj m3.length) = some (m3.length, 0, deskF (D0 t wa v)) := by rw [hm4]; exact ins_app _ _ _
  have q4 : ¬ (m2.length = m3.length) := by omega
  have i15 : IntOk 15 := by unfold IntOk; omega
  simp -implicitDefEqProofs [DD.fi, d__law_right, ir__law_right, e1, k2, k3, veqM_ins q1 q1, k4, veqM_ins q2 q3, q4, q2, i15] at hX
  generalize hL : loopS _ _ _ _ = r at hX
  obtain ⟨s', rfl, m5, D5, a6, B5, rfl⟩ := loop_typed hL (fun k : Nat => .int (k : Int)) (List.range 15) (range_enc 15) (fun _ _ s => ∃ (m : List SO) (D : Dk) (a6 : Option PV), (Both w mu m m2.length mu1.length D ∧ D.t = t) ∧ s = ⟨[some (.obj w), some (pTw t), some (pWa wa), some (.int v), some (.obj mu1.length), some (.obj m2.length), a6, none, none, none, none, none, none, none], [], [], m⟩) ⟨m4, D0 t wa v, none, ⟨B4, rfl⟩, rfl⟩ (fun done x todo s hx hI => by
    obtain ⟨m, D, a6, ⟨B, hDt⟩, rfl⟩ := hI
    obtain ⟨dd, m', k5, ws⟩ := f4 mu1.length D m B.oat B.g.at_ B.ok
    have B' := B.ws ws
    have k6 := f3 m2.length mu1.length D dd m' B'.dat B'.oat B'.ok
    have B2 := B'.step (act_ok B'.ok dd)
    have k7 := f5 m2.length mu1.length _ _ B2.dat B2.oat B2.ok
    obtain ⟨Lv, k8, lv1, lv2⟩ : ∃ Lv : Int, Φ j__law_level [.obj mu1.length] ((m'.set mu1.length (.dct (ownF (act D dd).2.2))).set m2.length (.ins 0 (deskF (act D dd).2.2))) = .ok (.int Lv) ((m'.set mu1.length (.dct (ownF (act D dd).2.2))).set m2.length (.ins 0 (deskF (act D dd).2.2))) ∧ 0 ≤ Lv ∧ Lv ≤ t.1 := by
      have lv := B2.ok.ld.level B2.ok.t B2.ok.w.l1
      rw [act_t, hDt] at lv
      exact ⟨_, f6 mu1.length _ _ B2.oat B2.ok, lv.1, lv.2⟩
    exact ⟨_, by simp -implicitDefEqProofs; rfl, nx_of ⟨_, by simp -implicitDefEqProofs [k5, k6, k7, k8, lv1, lv2]; rfl, _, _, _, ⟨B2, by rw [act_t, hDt]⟩, rfl⟩⟩)
  -- the second desk
  obtain ⟨m6, k6, hm6⟩ : ∃ m6, Φ j_Desk_init [.obj m5.length, pTw t, pWa wa, .int v] (m5 ++ [.ins 0 []]) = .ok .non m6 ∧ m6 = m5 ++ [.ins 0 (deskF (D0 t wa v))] := ⟨_, f2 m5, rfl⟩
  obtain ⟨m7, k7, hm7⟩ : ∃ m7, Φ j__law_fresh [pTw t, pWa wa, .int v] m6 = .ok (.obj m6.length) m7 ∧ m7 = m6 ++ [.dct (ownF (D0 t wa v))] := ⟨_, f1 m6, rfl⟩
  have B7 : Both w mu m7 m5.length m6.length (D0 t wa v) := by
    have g := B5.1.g
    have l1 := g.len
    have l6 : m6.length = m5.length + 1 := by rw [hm6]; simp
    refine ⟨?_, by omega, by omega, by omega, by omega, ?_, ?_, O0⟩
    · rw [hm7, hm6]
      exact (g.app _).app _
    · show m7[m5.length]? = _
      rw [hm7, List.getElem?_append_left (by omega), hm6]
      simp
    · show m7[m6.length]? = _
      rw [hm7]
      simp
  have n1 : 0 < t.2.length := List.length_pos_iff.mpr ht.n1
  have k8 := f7 m6.length (D0 t wa v) m7 B7.oat O0 n1
  have k9 := (hAt_mem n1).2
  have at1 : ∀ (mu : List SO) (a b : Int), vsub mu (.tup [.int a, .int b]) (.int 0) = some (.int a) := fun _ _ _ => rfl
  generalize (D0 t wa v).lo = lo at k8
  generalize (D0 t wa v).hi = hi at k8
  simp -implicitDefEqProofs [k6, k7, k8, k9, ownL] at hX
  generalize hL : loopS _ _ _ _ = r at hX
  obtain ⟨s', rfl, m8, D8, a10, a11, a12, a13, B8, rfl⟩ := loop_from hL (fun _ s => ∃ (m : List SO) (D : Dk) (a10 a11 a12 a13 : Option PV), Both w mu m m5.length m6.length D ∧ s = ⟨[some (.obj w), some (pTw t), some (pWa wa), some (.int v), some (.obj m6.length), some (.obj m5.length), a6, some (.int lo), some (.int (hAt t 0).hi),
      some (.lst [.lst [pDeed (.pump lo), .fn l__law_right_0 [.obj m5.length, .int lo]], .lst [pDeed (.use (hAt t 0).hi), .fn l__law_right_1 [.obj m5.length, .int (hAt t 0).hi]]]), a10, a11, a12, a13], [], [5, 8, 5, 7], m⟩) ⟨m7, D0 t wa v, none, none, none, none, B7, rfl⟩ (fun i x s hx hI => by
    obtain ⟨m, D, a10, a11, a12, a13, B, rfl⟩ := hI
    have go : ∀ (dd : Deed) (k : Nat) (a : PV), (∀ D m, DAt m m5.length D → DkOk D → Φ j__law_came [.fn k [.obj m5.length, a]] m = .ok (.lst [.str (act D dd).1, (act D dd).2.1]) (m.set m5.length (.ins 0 (deskF (act D dd).2.2)))) → x = .lst [pDeed dd, .fn k [.obj m5.length, a]] →
        ∃ m', Φ j__law_run [.obj m6.length, pDeed dd] m = .ok (.lst [.str (act D dd).1, (act D dd).2.1]) (m.set m6.length (.dct (ownF (act D dd).2.2))) ∧
          Φ j__law_came [.fn k [.obj m5.length, a]] (m.set m6.length (.dct (ownF (act D dd).2.2))) = .ok (.lst [.str (act D dd).1, (act D dd).2.1]) m' ∧ Φ j__law_is_shown [.obj m5.length, .obj m6.length] m' = .ok (.bl true) m' ∧ Both w mu m' m5.length m6.length (act D dd).2.2 := fun dd k a hc _ => by
      have B2 := B.step (act_ok B.ok dd)
      refine ⟨_, f8 _ D dd m B.oat B.ok, hc D _ ?_ B.ok, f5 _ _ _ _ B2.dat B2.oat B2.ok, B2⟩
      show (m.set _ _)[m5.length]? = _
      rw [List.getElem?_set_ne B.ne]
      exact B.dat
    have sok : ∀ dd, PyData.strOk (act D dd).1 = true := fun dd => act_ok1 D dd
    rcases i with _ | _ | i
    · have hx : x = .lst [pDeed (.pump lo), .fn l__law_right_0 [.obj m5.length, .int lo]] := by simpa [pDeed] using hx.symm
      obtain ⟨m', k1, k2, k3, B2⟩ := go (.pump lo) l__law_right_0 (.int lo) (fun D m h O => f9 m5.length D lo m h O) hx
      subst hx
      exact ⟨_, by simp -implicitDefEqProofs; rfl, nx_of ⟨_, by simp -implicitDefEqProofs [k1, k2, k3, veqM_str, sok, f11]; exact ⟨rfl, rfl, rfl, rfl⟩, _, _, _, _, _, _, B2, rfl⟩⟩
    · have hx : x = .lst [pDeed (.use (hAt t 0).hi), .fn l__law_right_1 [.obj m5.length, .int (hAt t 0).hi]] := by simpa [pDeed] using hx.symm
      obtain ⟨m', k1, k2, k3, B2⟩ := go (.use (hAt t 0).hi) l__law_right_1 (.int (hAt t 0).hi) (fun D m h O => f10 m5.length D _ m h O) hx
      subst hx
      exact ⟨_, by simp -implicitDefEqProofs; rfl, nx_of ⟨_, by simp -implicitDefEqProofs [k1, k2, k3, veqM_str, sok, f11]; exact ⟨rfl, rfl, rfl, rfl⟩, _, _, _, _, _, _, B2, rfl⟩⟩
    · simp at hx)
  simp -implicitDefEqProofs at hX
  subst hX
  exact ⟨_, rfl, B8.g⟩
theorem m_law (n : Nat) (ns : List Int) (hl : ns.length ≤ 63) : ∃ mu, Ph TT exL (n + 16) j_law [.scr (ns.map .int)] [] = .ok (.bl true) mu := by
  have f1 := fun lap mu => m_well (n + 14) ns lap mu hl
  have f2 := fun w mu h => m_right n w mu h
  rw [ph (fi := d_law.fi) rfl]
  generalize Ph TT exL (n + 15) = Φ at f1 f2 ⊢
  have i2 : IntOk 2 := by unfold IntOk; omega
  have i16 : IntOk 16 := by unfold IntOk; omega
  generalize hX : runF Φ exL d_law.fi [.scr (ns.map .int)] [] = rX
  simp -implicitDefEqProofs [DD.fi, d_law, ir_law] at hX
  generalize hC : ev _ (IE.comp _ _ _ _ _) _ = rC at hX
  obtain ⟨vs, mu1, rfl, hvs, hml, hmw⟩ := comp_inv hC (fun k : Nat => .int (k : Int)) (fun done vs m => vs = (List.range done.length).map (fun k => PV.obj k) ∧ m.length = done.length ∧ ∀ i, i < done.length → WellAt m i) (List.range 2) (mu := []) (by simp -implicitDefEqProofs [i2, range_enc]) (by simp -implicitDefEqProofs) (by simp -implicitDefEqProofs) (by simp -implicitDefEqProofs) (by simp) ⟨rfl, rfl, fun i hi => by simp at hi⟩ (fun done x todo acc m hx hI => by
    obtain ⟨rfl, hml, hmw⟩ := hI
    obtain ⟨y1, y2⟩ := range_at hx
    obtain ⟨z, e, hz⟩ := f1 x m
    refine ⟨some (.obj m.length), m ++ [z], by simp -implicitDefEqProofs [turn, e], ?_, by simp [hml], fun i hi => ?_⟩
    · simp [List.range_succ, hml]
    · simp only [List.length_append, List.length_cons, List.length_nil] at hi
      by_cases q : i = m.length
      · rw [q]; exact hz
      · exact (hmw i (by omega)).app z)
  have hvs : vs = [.obj 0, .obj 1] := hvs
  subst hvs
  simp -implicitDefEqProofs at hX
  generalize hC2 : ev _ (IE.comp _ _ _ _ _) _ = rC2 at hX
  obtain ⟨vs, mu2, rfl, hvs, hml2⟩ := comp_inv hC2 (fun k : Nat => .int (k : Int)) (fun done vs m => vs = (List.range done.length).map (fun _ => PV.bl true) ∧ ∀ i, i < 2 → WellAt m i) (List.range 16) (mu := mu1) (by simp -implicitDefEqProofs [i16, range_enc]) (by simp -implicitDefEqProofs) (by simp -implicitDefEqProofs) (by simp -implicitDefEqProofs) (by simp) ⟨rfl, fun i hi => hmw i (by simpa using hi)⟩ (fun done x todo acc m hx hI => by
    obtain ⟨rfl, hmw⟩ := hI
    have h2 : x % 2 < 2 := Nat.mod_lt _ (by decide)
    obtain ⟨q, e2, h2⟩ : ∃ q : Nat, (x : Int) % 2 = q ∧ q < 2 := ⟨x % 2, by omega, h2⟩
    obtain ⟨m2, e, ws⟩ := f2 q m (hmw _ h2)
    have e3 : ([PV.obj 0, PV.obj 1] : List PV)[q]? = some (.obj q) := by
      rcases (show q = 0 ∨ q = 1 by omega) with h | h <;> rw [h] <;> rfl
    refine ⟨some (.bl true), m2, by simp -implicitDefEqProofs [turn, e2, e3, e], by simp [List.range_succ], fun i hi => ?_⟩
    by_cases z : i = q
    · rw [z]; exact ws.at_
    · obtain ⟨a, b, c, h1, h3⟩ := hmw i hi
      exact ⟨a, b, c, by rw [ws.oth i (hmw i hi).lt z]; exact h1, h3⟩)
  subst hvs
  simp -implicitDefEqProofs [all_true] at hX
  subst hX
  exact ⟨_, rfl⟩
end TL

set_option Elab.async false
set_option linter.all false
set_option maxRecDepth 100000
set_option maxHeartbeats 0
/-! The head of the law. Printed by gen4.py (own work). -/
namespace TL
open PySem PySem.Spec PyProof.Rows L2
def loose : List Str := ([("_wall" : Str), ("TowerError" : Str), ("InvalidTower" : Str), ("InvalidNumber" : Str), ("InvalidWatch" : Str), ("OutOfRange" : Str), ("NotKept" : Str), ("NotPumped" : Str), ("is_whole" : Str), ("is_number" : Str), ("is_tuple_of" : Str), ("wrong_at" : Str), ("wrong_from_one" : Str), ("is_above_last" : Str), ("MOST_HOLDS" : Str), ("MOST_HOURS" : Str), ("MOST_IN_HOUR" : Str), ("is_hour_form" : Str), ("is_tower_form" : Str), ("widths_of" : Str), ("mosts_of" : Str), ("pumps_of" : Str), ("MOST_LATE" : Str), ("BEGINNING" : Str), ("wrong_looks" : Str), ("is_watch_of" : Str), ("known_by" : Str), ("doubts_of" : Str), ("lacks_behind" : Str), ("need_of" : Str)] : List Str) ++ ([("needs_of" : Str), ("spare_of" : Str), ("do_fit_hours" : Str), ("is_kept_by" : Str), ("stretches_of" : Str), ("level_known" : Str), ("range_next" : Str), ("check_number" : Str), ("check_tower" : Str), ("check_start_of" : Str), ("check_watch_of" : Str), ("check_watch" : Str), ("check_watched" : Str), ("Desk" : Str), ("_law_well" : Str), ("_law_draw" : Str), ("_law_of" : Str), ("_law_same" : Str), ("_law_tower" : Str), ("_law_hours" : Str), ("_law_width" : Str), ("_law_need" : Str), ("_law_known" : Str), ("_law_doubt" : Str), ("_law_too_much" : Str), ("_law_can_keep" : Str), ("_law_watch" : Str), ("_law_range" : Str), ("_law_least_level" : Str), ("_law_kept_tower" : Str)] : List Str) ++ ([("_law_fresh" : Str), ("_law_at" : Str), ("_law_told" : Str), ("_law_may" : Str), ("_law_run" : Str), ("_law_deed" : Str), ("_law_call" : Str), ("_law_came" : Str), ("_law_step" : Str), ("_law_is_shown" : Str), ("_law_level" : Str), ("_law_right" : Str)] : List Str)
abbrev R : PySem.W.OpenRow := PySem.W.OpenLaw.row PySem.Challenge.rw_towerlooks_k79_whole_days_of_desks
abbrev RV : Program := PySem.W.view R.prog [79]
abbrev hk : PySem.W.Hook := hookY tdt 0
def ob (s : PySem.W.SharedT) : AlY := obsY tdt 0 (HandSHeadRun.getT s) s.n
theorem ob_eq (s : PySem.W.SharedT) : ob s = hk.obs s.abs := obsY_eq (HandSHeadRun.getT_eq s) (absN s)
theorem run_a (w : World) (os : OsState) : EndP R.prog w os 6000 (fun s => ((HandSHeadRun.looksF R.prog (PySem.W.boot_heap w.params) s.abs, (seenA R RV loose s).1), ((seenA R RV loose s).2.1, (seenA R RV loose s).2.2.1))) ((true, (goodA RV loose).1), ((goodA RV loose).2.1, (goodA RV loose).2.2.1)) := by
  unfold EndP
  kernel_rfl
theorem run_b (w : World) (os : OsState) : EndP R.prog w os 6000 (fun s => (seenA R RV loose s).2.2.2) (goodA RV loose).2.2.2 := by
  unfold EndP
  kernel_rfl
theorem run_c (w : World) (os : OsState) : EndP R.prog w os 6000 (fun s => (ob s).1) (valY tdt).1 := by
  unfold EndP
  kernel_rfl
theorem run_d (w : World) (os : OsState) : EndP R.prog w os 6000 (fun s => (ob s).2) (valY tdt).2 := by
  unfold EndP
  kernel_rfl
theorem run (w : World) : HandSHeadRun.RunEq R RV hk ob 6000 loose w := fun os => run_all (run_a w os) (run_b w os) (run_c w os) (run_d w os)
end TL

namespace TL
open PySem L2
theorem main_law : ∀ ns : List Int, ns.length ≤ 63 → ∃ mu, Ph (tdt.T lnpL) exL (29 + 1) j_law [.scr (ns.map .int)] [] = .ok (.bl true) mu := fun ns hl => m_law 14 ns hl
end TL
open PySem PySem.W PySem.Calls PyProof.Rows
set_option maxRecDepth 100000 in
set_option maxHeartbeats 0 in
theorem PySem.Challenge.cw_towerlooks_k79_whole_days_of_desks_holds : PySem.Challenge.rw_towerlooks_k79_whole_days_of_desks.Holds := by
  w_on; o_law
  refine HandSHeadRun.head_any (r := OpenLaw.row PySem.Challenge.rw_towerlooks_k79_whole_days_of_desks) (q := view (OpenLaw.row PySem.Challenge.rw_towerlooks_k79_whole_days_of_desks).prog [79]) (H := TL.hk) (ob := TL.ob) (M := 6000) (loose := TL.loose) (d := HandSHeadRun.topDef (OpenLaw.row PySem.Challenge.rw_towerlooks_k79_whole_days_of_desks).prog 79) (kwd := []) TL.ob_eq
    (by kernel_rfl) (fun s => by kernel_rfl) TL.run (by kernel_rfl) (by kernel_rfl) (by kernel_rfl) (by rfl) (by first | assumption | decide +kernel) (by decide +kernel) ⟨rfl, rfl, rfl, rfl, rfl, by decide +kernel⟩ ?hw ?hc
  case hw => w_witness2
  case hc =>
    refine LamX.walk_ofTsE (l := PySem.Challenge.rw_towerlooks_k79_whole_days_of_desks) (n := 63) (k := 61) (x := "script") (CX := fun w => L2.CX (PySem.Challenge.rw_towerlooks_k79_whole_days_of_desks).prog w) rfl (by decide) (by kernel_rfl) ⟨rfl, by decide, by decide⟩ ?F (fun w H s e s' z => ?hX)
    case hX =>
      obtain ⟨_, _, _, _, _, _, _, _, _, _, _, _, z⟩ := z
      exact z
    case F =>
      intro w mg fa h Y G hmg0
      obtain ⟨K, KX, c⟩ := Y
      have hmg : mg ("law" : PySem.Str) = some (.ref fa) := by
        have e : (HandSHeadRun.topDef (OpenLaw.row PySem.Challenge.rw_towerlooks_k79_whole_days_of_desks).prog 79).name = ("law" : PySem.Str) := by kernel_rfl
        rw [← e]
        exact hmg0
      exact ⟨K, KX, TL.law_at (l := PySem.Challenge.rw_towerlooks_k79_whole_days_of_desks) (t := TL.tdt) (lnp := TL.lnpL) (Ex := TL.exL) (jl := TL.j_law) (k := 29) (dl := TL.d_law) TL.td_ok rfl rfl KX G rfl hmg c TL.main_law⟩

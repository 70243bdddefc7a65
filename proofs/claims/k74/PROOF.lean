import PyProof.Rows.All
import PyProof.ReprReads
import PyProof.EqLayable
import KE.SortData
import HandS.ForMost
import HandS.ForExc
import HandS.Wide
import HandS.WideBits
import HandS.TupAny
import HandS.TupMul
import HandS.TupLe
import HandS.Style
import HandS.Deep
import HandS.Steps
import HandS.SetFor
import HandS.Zip
import HandS.TupSets
import KE.DataIsa
import PyProof.ReprRoads
import KE.KSortedM
import HandS.Conv
import HandS.Iter
import KE.GoesMore
import KE.GoesZip
import KE.GoesEnum
import HandS.TryOnly
import HandS.Comp
import HandS.ExcOwn
import HandS.More
import HandS.WordsExc
import HandS.Ends
import HandS.Codes
import PySem.Challenge.RW_equalsums_k74_whole_main_threes
set_option Elab.async false
set_option linter.all false
set_option maxRecDepth 100000
set_option autoImplicit false
set_option  maxHeartbeats  4000000 -- mi
/-! MiCore: a small language of values (no heap) with its meaning: plain Lean. -/
namespace Mi
open PySem
abbrev D := PyData
/-- the drawing pot: great cells, the mixed number, the count of draws -/
structure Pot where
  c : List Int
  m : Int
  t : Int
abbrev Pt := Option Pot
inductive Xc where
  | many (n : Int)
  | unfit
inductive R (α : Type) where
  | ok (a : α) (p : Pt)
  | er (x : Xc) (p : Pt)
  | bad
def R.bind {α β : Type} : R α → (α → Pt → R β) → R β
  | .ok a p, f => f a p
  | .er x p, _ => .er x p
  | .bad, _ => .bad
@[simp] theorem bind_ok {α β : Type} (a : α) (p : Pt) (f : α → Pt → R β) : (R.ok a p).bind f = f a p := rfl
@[simp] theorem bind_er {α β : Type} (x : Xc) (p : Pt) (f : α → Pt → R β) : (R.er x p).bind f = .er x p := rfl
@[simp] theorem bind_bad {α β : Type} (f : α → Pt → R β) : (R.bad).bind f = .bad := rfl
/-- no exception passes -/
def R.noE {α : Type} : R α → R α
  | .er _ _ => .bad
  | r => r
@[simp] theorem noE_ok {α : Type} (a : α) (p : Pt) : (R.ok a p).noE = .ok a p := rfl
@[simp] theorem noE_bad {α : Type} : (R.bad : R α).noE = .bad := rfl
def R.lift {α : Type} (o : Option α) (p : Pt) : R α := match o with
  | some a => .ok a p
  | none => .bad
@[simp] theorem lift_some {α : Type} (a : α) (p : Pt) : R.lift (some a) p = .ok a p := rfl
@[simp] theorem lift_none {α : Type} (p : Pt) : (R.lift none p : R α) = .bad := rfl

inductive Bop where
  | add | sub | mul | fdiv | mod | pow | shl | shr | band | bor | bxor
  deriving DecidableEq
inductive Cop where
  | eq | ne | lt | le | gt | ge | isN | isntN | is | isnt | inn | nin
  deriving DecidableEq
inductive F1 where
  | len | sum | min | max | sorted | tuple | list | int | abs | all | any | repr | lenset | sortset
  deriving DecidableEq
inductive F2 where
  | min | max | count | index
  deriving DecidableEq
inductive Ty where
  | int | bool | tuple | list | str | dict
  deriving DecidableEq

def lim : Nat := 4000000
/-- an int of less than 30,000 bits -/
def sm (i : Int) : Bool := decide (i.natAbs.log2 < 30000)
/-- a divisor -/
def dv (j : Int) : Bool := decide (0 < j) && decide (j.natAbs.log2 < 9000)

def rep {α : Type} : Nat → List α → List α
  | 0, _ => []
  | n + 1, l => l ++ rep n l

def bop : Bop → D → D → Option D
  | .add, .int i, .int j => some (.int (i + j))
  | .add, .tuple a, .tuple b => if a.length + b.length ≤ lim then some (.tuple (a ++ b)) else none
  | .add, .list a, .list b => if a.length + b.length ≤ lim then some (.list (a ++ b)) else none
  | .sub, .int i, .int j => some (.int (i - j))
  | .mul, .int i, .int j => if sm i && sm j then some (.int (i * j)) else none
  | .mul, .list a, .int k => if -1000000 ≤ k ∧ k ≤ 1000000 ∧ a.length * k.toNat ≤ lim then some (.list (rep k.toNat a)) else none
  | .mul, .tuple a, .int k => if 2 ≤ k ∧ k ≤ 1000 ∧ 0 < a.length ∧ a.length ≤ 1000 then some (.tuple (rep k.toNat a)) else none
  | .fdiv, .int i, .int j => if dv j then some (.int (i / j)) else none
  | .mod, .int i, .int j => if 0 < j then some (.int (i % j)) else none
  | .pow, .int i, .int j => if 0 ≤ j ∧ j ≤ 20000 ∧ i.natAbs < 2 ^ 64 then some (.int (i ^ j.toNat)) else none
  | .shl, .int i, .int j => if 0 ≤ j ∧ j ≤ 20000 ∧ i.natAbs < 2 ^ 64 then some (.int (i * 2 ^ j.toNat)) else none
  | .shr, .int i, .int j => if 0 ≤ j then some (.int (i / 2 ^ j.toNat)) else none
  | _, _, _ => none

def shp (d : D) : Bool := SeqAt.shaped d
/-- == of two values -/
def eqD : D → D → Option Bool
  | .int i, .int j => some (decide (i = j))
  | .str x, .str y => some (decide (x = y))
  | a, b => if shp a && shp b then some (PyData.eqv a b) else none
def memD (a : D) (ds : List D) : Option Bool := if shp a && ds.all shp then some (ds.any fun z => PyData.eqv z a) else none

def isNoneD : D → Bool
  | .none => true
  | _ => false
def cop : Cop → D → D → Option Bool
  | .eq, a, b => eqD a b
  | .ne, a, b => (eqD a b).map (!·)
  | .lt, .int i, .int j => some (decide (i < j))
  | .le, .int i, .int j => some (decide (i ≤ j))
  | .gt, .int i, .int j => some (decide (j < i))
  | .ge, .int i, .int j => some (decide (j ≤ i))
  | .isN, a, .none => some (isNoneD a)
  | .isntN, a, .none => some (!isNoneD a)
  | .is, .bool a, .bool b => some (a == b)
  | .isnt, .bool a, .bool b => some (!(a == b))
  | .inn, a, .list ds => memD a ds
  | .inn, a, .tuple ds => memD a ds
  | .nin, a, .list ds => (memD a ds).map (!·)
  | .nin, a, .tuple ds => (memD a ds).map (!·)
  | _, _, _ => none

def asInt : D → Option Int
  | .int i => some i
  | _ => none
def asInts : List D → Option (List Int)
  | [] => some []
  | d :: ds => match d, asInts ds with
    | .int i, some l => some (i :: l)
    | _, _ => none
def asBools : List D → Option (List Bool)
  | [] => some []
  | d :: ds => match d, asBools ds with
    | .bool i, some l => some (i :: l)
    | _, _ => none
def sumI : List Int → Int
  | [] => 0
  | x :: xs => x + sumI xs
def minI : List Int → Option Int
  | [] => none
  | x :: xs => match minI xs with
    | none => some x
    | some m => some (if x ≤ m then x else m)
def maxI : List Int → Option Int
  | [] => none
  | x :: xs => match maxI xs with
    | none => some x
    | some m => some (if m ≤ x then x else m)
def items : D → Option (List D)
  | .list ds => some ds
  | .tuple ds => some ds
  | _ => none
/-! the weight of a value's text -/
mutual
def wD : D → Nat
  | .none | .bool _ => 5
  | .int i => if i.natAbs.log2 < 1920 then i.natAbs.log2 + 3 else 20000000
  | .str x => (reprText x).length
  | .list ds | .tuple ds => 3 + wDs ds
  | .dict _ => 20000000
def wDs : List D → Nat
  | [] => 0
  | d :: ds => wD d + 2 + wDs ds
end
def lightD (d : D) : Bool := decide (wD d ≤ 16000000) && decide (d.depth ≤ 60)
/-- ints without repetition, first ones kept -/
def dedI : List Int → List Int
  | [] => []
  | x :: xs => x :: (dedI xs).filter (fun y => decide (y ≠ x))
def insI (x : Int) : List Int → List Int
  | [] => [x]
  | y :: ys => if x ≤ y then x :: y :: ys else y :: insI x ys
def sortI : List Int → List Int
  | [] => []
  | x :: xs => insI x (sortI xs)
def isIntD : D → Bool
  | .int _ => true
  | _ => false
def isTup1 : D → Bool
  | .tuple (_ :: _) => true
  | _ => false
/-- lists of tuples that can be sorted -/
def srtOk (ds : List D) : Bool := ds.all isTup1 && ds.all fun d => d.depth ≤ 40 && ds.all fun e => PySem.W.alike d e
def sortD (ds : List D) : Option (List D) :=
  if ds.length ≤ lim then
    match asInts ds with
    | some l => some ((sortI l).map .int)
    | none => if srtOk ds then some (ds.mergeSort (PySem.W.dataLe false id)) else none
  else none

def f1 : F1 → D → Option D
  | .len, .list ds => some (.int ds.length)
  | .len, .tuple ds => some (.int ds.length)
  | .sum, .list ds => (asInts ds).map fun l => .int (sumI l)
  | .sum, .tuple ds => (asInts ds).map fun l => .int (sumI l)
  | .min, .list ds => ((asInts ds).bind minI).map .int
  | .min, .tuple ds => ((asInts ds).bind minI).map .int
  | .max, .list ds => ((asInts ds).bind maxI).map .int
  | .max, .tuple ds => ((asInts ds).bind maxI).map .int
  | .sorted, .list ds => (sortD ds).map .list
  | .sorted, .tuple ds => (sortD ds).map .list
  | .tuple, .list ds => some (.tuple ds)
  | .tuple, .tuple ds => some (.tuple ds)
  | .list, .list ds => some (.list ds)
  | .list, .tuple ds => some (.list ds)
  | .int, .int i => some (.int i)
  | .int, .bool b => some (.int (if b then 1 else 0))
  | .abs, .int i => some (.int (if i < 0 then -i else i))
  | .all, .list ds => (asBools ds).map fun l => .bool (l.all id)
  | .any, .list ds => (asBools ds).map fun l => .bool (l.any id)
  | .repr, d => if lightD d then some (.str d.shown) else none
  | .lenset, .list ds => (asInts ds).bind fun l => if l.length ≤ 4000 then some (.int (dedI l).length) else none
  | .lenset, .tuple ds => (asInts ds).bind fun l => if l.length ≤ 4000 then some (.int (dedI l).length) else none
  | .sortset, .list ds => (asInts ds).map fun l => .list ((sortI (dedI l)).map .int)
  | .sortset, .tuple ds => (asInts ds).map fun l => .list ((sortI (dedI l)).map .int)
  | _, _ => none
def countD (d : D) : List D → Nat
  | [] => 0
  | x :: xs => (if PyData.eqv x d then 1 else 0) + countD d xs
def indexD (d : D) : List D → Option Nat
  | [] => none
  | x :: xs => if PyData.eqv x d then some 0 else (indexD d xs).map (· + 1)
def f2 : F2 → D → D → Option D
  | .min, .int i, .int j => some (.int (if j < i then j else i))
  | .max, .int i, .int j => some (.int (if j > i then j else i))
  | .count, a, d => (items a).bind fun ds => if shp d && ds.all shp then some (.int (countD d ds)) else none
  | .index, a, d => (items a).bind fun ds => if shp d && ds.all shp then (indexD d ds).map fun k => .int (k : Nat) else none
  | _, _, _ => none
def isTy : Ty → D → Bool
  | .int, .int _ => true
  | .int, .bool _ => true
  | .bool, .bool _ => true
  | .tuple, .tuple _ => true
  | .list, .list _ => true
  | .str, .str _ => true
  | .dict, .dict _ => true
  | _, _ => false
/-- an index of a row of n -/
def ixN (n : Nat) (i : Int) : Option Nat :=
  if 0 ≤ i then (if i < n then some i.toNat else none)
  else if 0 ≤ i + n then some (i + n).toNat else none
def ixD (d i : D) : Option D := match items d, i with
  | some ds, .int i => (ixN ds.length i).bind fun k => ds[k]?
  | _, _ => none
/-- a bound of a slice -/
def clN (n dflt : Nat) : D → Option Nat
  | .none => some dflt
  | .int i => some (if i < 0 then (if i + n < 0 then 0 else (i + n).toNat) else if (n : Int) < i then n else i.toNat)
  | _ => none
def cut (ds : List D) (lo hi : D) : Option (List D) :=
  (clN ds.length 0 lo).bind fun l => (clN ds.length ds.length hi).map fun h => (ds.drop l).take (h - l)
def slD (d lo hi : D) : Option D := match d with
  | .list ds => (cut ds lo hi).map .list
  | .tuple ds => (cut ds lo hi).map .tuple
  | _ => none
def revD : D → Option D
  | .list ds => some (.list ds.reverse)
  | .tuple ds => some (.tuple ds.reverse)
  | _ => none
def rngL (lo : Int) : Nat → List D
  | 0 => []
  | n + 1 => .int lo :: rngL (lo + 1) n
def rngS (lo c : Int) : Nat → List D
  | 0 => []
  | n + 1 => .int lo :: rngS (lo + c) c n
/-- the turns of range(a, b, c) -/
def rngN (a b c : Int) : Nat := if 0 < c then ((b - a + c - 1) / c).toNat else ((a - b + -c - 1) / -c).toNat
def enumL (i : Int) : List D → List D
  | [] => []
  | d :: ds => .tuple [.int i, d] :: enumL (i + 1) ds
def zipL : List D → List D → List D
  | a :: as, b :: bs => .tuple [a, b] :: zipL as bs
  | _, _ => []
/-- range's bounds -/
def rb (i : Int) : Bool := decide (-1000000000000 ≤ i) && decide (i ≤ 1000000000000)

inductive SV where
  | no
  | sh (d : D)
  | ow (ds : List D)
  | o2 (dss : List (List D))
  | po
abbrev Env := List SV
mutual
inductive Tg where
  | nm (i : Nat)
  | tp (ts : Tgs)
inductive Tgs where
  | nil
  | cons (t : Tg) (ts : Tgs)
end
mutual
def bindT : Tg → D → Env → Option Env
  | .nm i, d, ρ => some (ρ.set i (.sh d))
  | .tp ts, .tuple ds, ρ => bindTs ts ds ρ
  | .tp ts, .list ds, ρ => bindTs ts ds ρ
  | _, _, _ => none
def bindTs : Tgs → List D → Env → Option Env
  | .nil, [], ρ => some ρ
  | .cons t ts, d :: ds, ρ => (bindT t d ρ).bind fun ρ' => bindTs ts ds ρ'
  | _, _, _ => none
end
def wipes (ρ : Env) : List Nat → Env
  | [] => ρ
  | i :: is => (wipes ρ is).set i .no

mutual
inductive Ex where
  | var (i : Nat)
  | bor (i : Nat)
  | c (d : D)
  | glob (x : Str) (d : D)
  | bin (o : Bop) (a b : Ex)
  | neg (a : Ex)
  | not (a : Ex)
  | cmp (o : Cop) (a b : Ex)
  | chn (o o' : Cop) (a b c : Ex)
  | and (a b : Ex)
  | or (a b : Ex)
  | ife (t a b : Ex)
  | tup (es : Exs)
  | lst (es : Exs)
  | idx (a i : Ex)
  | sli (a lo hi : Ex)
  | rev (a : Ex)
  | cal (k : Nat) (es : Exs)
  | calP (k i : Nat) (es : Exs)
  | calK (k : Nat) (es : Exs) (ix : List Nat)
  | fn1 (f : F1) (a : Ex)
  | fn2 (f : F2) (a b : Ex)
  | isi (t : Ty) (a : Ex)
  | lstR (tup : Bool) (it : It)
  | comp (own : List Nat) (tg : Tg) (it : It) (cond : Option' ) (elt : Ex)
inductive Option' where
  | non
  | som (e : Ex)
inductive Exs where
  | nil
  | cons (e : Ex) (es : Exs)
inductive It where
  | ex (e : Ex)
  | rng1 (a : Ex)
  | rng2 (a b : Ex)
  | rng3 (a b c : Ex)
  | enum (e : Ex)
  | zip (a b : Ex)
end
abbrev Fn := List D → Pt → R D
def badF : Fn := fun _ _ => .bad
def compL (f : D → Pt → R (Option D)) : List D → Pt → R (List D)
  | [], p => .ok [] p
  | x :: xs, p => (f x p).bind fun o p1 => (compL f xs p1).bind fun ds p2 => .ok (match o with | some d => d :: ds | none => ds) p2
def asB : D → Option Bool
  | .bool b => some b
  | _ => none
mutual
def ev (F : List Fn) : Ex → Env → Pt → R D
  | .var i, ρ, p => match ρ[i]? with
    | some (.sh d) => .ok d p
    | _ => .bad
  | .bor i, ρ, p => match ρ[i]? with
    | some (.sh d) => .ok d p
    | some (.ow ds) => .ok (.list ds) p
    | _ => .bad
  | .c d, _, p => .ok d p
  | .glob _ d, _, p => .ok d p
  | .bin o a b, ρ, p => (ev F a ρ p).bind fun x p => (ev F b ρ p).bind fun y p => .lift (bop o x y) p
  | .neg a, ρ, p => (ev F a ρ p).bind fun x p => .lift ((asInt x).map fun i => .int (-i)) p
  | .not a, ρ, p => (ev F a ρ p).bind fun x p => .lift ((asB x).map fun b => .bool (!b)) p
  | .cmp o a b, ρ, p => (ev F a ρ p).bind fun x p => (ev F b ρ p).bind fun y p => .lift ((cop o x y).map .bool) p
  | .chn o o' a b c, ρ, p => (ev F a ρ p).bind fun x p => (ev F b ρ p).bind fun y p => match cop o x y with
    | some true => (ev F c ρ p).bind fun z p => .lift ((cop o' y z).map .bool) p
    | some false => .ok (.bool false) p
    | none => .bad
  | .and a b, ρ, p => (ev F a ρ p).bind fun x p => match x with
    | .bool true => ev F b ρ p
    | .bool false => .ok (.bool false) p
    | _ => .bad
  | .or a b, ρ, p => (ev F a ρ p).bind fun x p => match x with
    | .bool false => ev F b ρ p
    | .bool true => .ok (.bool true) p
    | _ => .bad
  | .ife t a b, ρ, p => (ev F t ρ p).bind fun x p => match x with
    | .bool true => ev F a ρ p
    | .bool false => ev F b ρ p
    | _ => .bad
  | .tup es, ρ, p => (evs F es ρ p).bind fun ds p => .ok (.tuple ds) p
  | .lst es, ρ, p => (evs F es ρ p).bind fun ds p => .ok (.list ds) p
  | .idx a i, ρ, p => (ev F a ρ p).bind fun x p => (ev F i ρ p).bind fun y p => .lift (ixD x y) p
  | .sli a lo hi, ρ, p => (ev F a ρ p).bind fun x p => (ev F lo ρ p).bind fun y p => (ev F hi ρ p).bind fun z p => .lift (slD x y z) p
  | .rev a, ρ, p => (ev F a ρ p).bind fun x p => .lift (revD x) p
  | .cal k es, ρ, p => (evs F es ρ p).bind fun ds p => F.getD k badF ds p
  | .calP k i es, ρ, p => match ρ[i]? with
    | some .po => (evs F es ρ p).bind fun ds p => F.getD k badF ds p
    | _ => .bad
  | .calK k es ix, ρ, p => (evs F es ρ p).bind fun ds p => F.getD k badF (ix.map fun j => ds.getD j .none) p
  | .fn1 f a, ρ, p => (ev F a ρ p).bind fun x p => .lift (f1 f x) p
  | .fn2 f a b, ρ, p => (ev F a ρ p).bind fun x p => (ev F b ρ p).bind fun y p => .lift (f2 f x y) p
  | .isi t a, ρ, p => (ev F a ρ p).bind fun x p => .ok (.bool (isTy t x)) p
  | .lstR tup it, ρ, p => (evI F it ρ p).bind fun ds p => if ds.length ≤ lim then .ok (if tup then .tuple ds else .list ds) p else .bad
  | .comp own tg it cond elt, ρ, p => (evI F it ρ p).bind fun ds p =>
      if ds.length ≤ lim then (compL (fun d p => match bindT tg d (wipes ρ own) with
        | some ρ' => R.noE ((evO F cond ρ' p).bind fun b p => match b with
          | some (.bool false) => .ok none p
          | some (.bool true) => (ev F elt ρ' p).bind fun y p => .ok (some y) p
          | none => (ev F elt ρ' p).bind fun y p => .ok (some y) p
          | some _ => .bad)
        | none => .bad) ds p).bind fun l p => .ok (.list l) p else .bad
def evO (F : List Fn) : Option' → Env → Pt → R (Option D)
  | .non, _, p => .ok none p
  | .som e, ρ, p => (ev F e ρ p).bind fun x p => .ok (some x) p
def evs (F : List Fn) : Exs → Env → Pt → R (List D)
  | .nil, _, p => .ok [] p
  | .cons e es, ρ, p => (ev F e ρ p).bind fun x p => (evs F es ρ p).bind fun xs p => .ok (x :: xs) p
def evI (F : List Fn) : It → Env → Pt → R (List D)
  | .ex e, ρ, p => (ev F e ρ p).bind fun x p => .lift (items x) p
  | .rng1 a, ρ, p => (ev F a ρ p).bind fun x p => match x with
    | .int i => if rb i then .ok (rngL 0 i.toNat) p else .bad
    | _ => .bad
  | .rng2 a b, ρ, p => (ev F a ρ p).bind fun x p => (ev F b ρ p).bind fun y p => match x, y with
    | .int i, .int j => if rb i && rb j then .ok (rngL i (j - i).toNat) p else .bad
    | _, _ => .bad
  | .rng3 a b c, ρ, p => (ev F a ρ p).bind fun x p => (ev F b ρ p).bind fun y p => (ev F c ρ p).bind fun z p => match x, y, z with
    | .int i, .int j, .int c => if rb i && rb j && (c == 2 || c == -1 || c == -2) then .ok (rngS i c (rngN i j c)) p else .bad
    | _, _, _ => .bad
  | .enum e, ρ, p => (ev F e ρ p).bind fun x p => .lift ((items x).map (enumL 0)) p
  | .zip a b, ρ, p => (ev F a ρ p).bind fun x p => (ev F b ρ p).bind fun y p => .lift ((items x).bind fun l => (items y).map fun m => zipL l m) p
end

/-! statements -/
inductive Out where
  | nx (ρ : Env)
  | rt (d : D)
  | bk (ρ : Env)
  | ct (ρ : Env)
mutual
inductive Sm where
  | set (i : Nat) (e : Ex)
  | own (i : Nat) (e : Ex)
  | par (is : List (Nat × Bool)) (es : Exs)
  | unp (tg : Tgs) (e : Ex)
  | app (i : Nat) (e : Ex)
  | ext (i : Nat) (e : Ex)
  | pop (j i : Nat) (k : Ex)
  | appPop (j i : Nat) (k : Ex)
  | put (i : Nat) (k e : Ex)
  | put2 (i : Nat) (k : Ex) (i' : Nat) (k' : Ex) (e e' : Ex)
  | own2 (i : Nat) (own : List Nat) (tg : Tg) (it : It)
  | app2 (i : Nat) (k e : Ex)
  | frz (i : Nat)
  | drop (e : Ex)
  | ret (e : Ex)
  | rseM (x : Ex)
  | rseU
  | pas
  | brk
  | cnt
  | iff (c : Ex) (a b : Sms)
  | whl (c : Ex) (body : Sms) (kill : List Nat)
  | forr (tg : Tg) (it : It) (body : Sms) (kill : List Nat)
  | tryr (e : Ex) (many unfit : Option' )
inductive Sms where
  | nil
  | cons (s : Sm) (r : Sms)
end
def fuel : Nat := 1000000000000
/-- stores from the left -/
def setAll : List (Nat × Bool) → List D → Env → Option Env
  | [], [], ρ => some ρ
  | (i, o) :: is, d :: ds, ρ => match o, d with
    | true, .list l => setAll is ds (ρ.set i (.ow l))
    | true, _ => none
    | false, d => setAll is ds (ρ.set i (.sh d))
  | _, _, _ => none
def getO (ρ : Env) (i : Nat) : Option (List D) := match ρ[i]? with
  | some (.ow l) => some l
  | _ => none
def ixI (n : Nat) : D → Option Nat
  | .int i => ixN n i
  | .none => ixN n (-1)
  | _ => none
def whlL (c : Env → Pt → R D) (b : Env → Pt → R Out) (kill : List Nat) : Nat → Env → Pt → R Out
  | 0, _, _ => .bad
  | n + 1, ρ, p => (c (wipes ρ kill) p).bind fun x p => match x with
    | .bool true => (b (wipes ρ kill) p).bind fun o p => match o with
      | .nx ρ' => whlL c b kill n ρ' p
      | .ct ρ' => whlL c b kill n ρ' p
      | .bk ρ' => .ok (.nx (wipes ρ' kill)) p
      | .rt d => .ok (.rt d) p
    | .bool false => .ok (.nx (wipes ρ kill)) p
    | _ => .bad
def forL (tg : Tg) (b : Env → Pt → R Out) (kill : List Nat) : List D → Env → Pt → R Out
  | [], ρ, p => .ok (.nx (wipes ρ kill)) p
  | d :: ds, ρ, p => match bindT tg d (wipes ρ kill) with
    | none => .bad
    | some ρ1 => (b ρ1 p).bind fun o p => match o with
      | .nx ρ' => forL tg b kill ds ρ' p
      | .ct ρ' => forL tg b kill ds ρ' p
      | .bk ρ' => .ok (.nx (wipes ρ' kill)) p
      | .rt d => .ok (.rt d) p
def nxO (o : Option Env) (p : Pt) : R Out := match o with
  | some ρ => .ok (.nx ρ) p
  | none => .bad
mutual
def run (F : List Fn) : Sm → Env → Pt → R Out
  | .set i e, ρ, p => (ev F e ρ p).bind fun d p => .ok (.nx (ρ.set i (.sh d))) p
  | .own i e, ρ, p => (ev F e ρ p).bind fun d p => match d with
    | .list l => .ok (.nx (ρ.set i (.ow l))) p
    | _ => .bad
  | .par is es, ρ, p => (evs F es ρ p).bind fun ds p => nxO (setAll is ds ρ) p
  | .unp tg e, ρ, p => (ev F e ρ p).bind fun d p => nxO (bindT (.tp tg) d ρ) p
  | .app i e, ρ, p => match getO ρ i with
    | some l => (ev F e ρ p).bind fun d p => if l.length < lim then .ok (.nx (ρ.set i (.ow (l ++ [d])))) p else .bad
    | none => .bad
  | .ext i e, ρ, p => match getO ρ i with
    | some l => (ev F e ρ p).bind fun d p => match d with
      | .list m => if l.length + m.length ≤ lim then .ok (.nx (ρ.set i (.ow (l ++ m)))) p else .bad
      | _ => .bad
    | none => .bad
  | .pop j i k, ρ, p => match getO ρ i with
    | some l => (ev F k ρ p).bind fun d p => match ixI l.length d with
      | some m => match l[m]? with
        | some x => .ok (.nx ((ρ.set i (.ow (l.eraseIdx m))).set j (.sh x))) p
        | none => .bad
      | none => .bad
    | none => .bad
  | .appPop j i k, ρ, p => match getO ρ i, getO ρ j with
    | some l, some q => (ev F k ρ p).bind fun d p => match ixI l.length d with
      | some m => match l[m]? with
        | some x => if q.length < lim ∧ i ≠ j then .ok (.nx ((ρ.set i (.ow (l.eraseIdx m))).set j (.ow (q ++ [x])))) p else .bad
        | none => .bad
      | none => .bad
    | _, _ => .bad
  | .put i k e, ρ, p => match getO ρ i with
    | some l => (ev F e ρ p).bind fun d p => (ev F k ρ p).bind fun j p => match j with
      | .int z => match ixN l.length z with
        | some m => .ok (.nx (ρ.set i (.ow (l.set m d)))) p
        | none => .bad
      | _ => .bad
    | none => .bad
  | .put2 i k i' k' e e', ρ, p => (ev F e ρ p).bind fun d p => (ev F e' ρ p).bind fun d' p => (ev F k ρ p).bind fun j p => match getO ρ i with
    | some l => match ixI l.length j with
      | some m => (ev F k' (ρ.set i (.ow (l.set m d))) p).bind fun j' p => match getO (ρ.set i (.ow (l.set m d))) i' with
        | some l' => match ixI l'.length j' with
          | some m' => .ok (.nx ((ρ.set i (.ow (l.set m d))).set i' (.ow (l'.set m' d')))) p
          | none => .bad
        | none => .bad
      | none => .bad
    | none => .bad
  | .own2 i _ _ it, ρ, p => (evI F it ρ p).bind fun ds p => .ok (.nx (ρ.set i (.o2 (ds.map fun _ => [])))) p
  | .app2 i k e, ρ, p => (ev F k ρ p).bind fun j p => (ev F e ρ p).bind fun d p => match ρ[i]? with
    | some (.o2 l) => match ixI l.length j with
      | some m => match l[m]? with
        | some q => if q.length < lim then .ok (.nx (ρ.set i (.o2 (l.set m (q ++ [d]))))) p else .bad
        | none => .bad
      | none => .bad
    | _ => .bad
  | .frz i, ρ, p => match ρ[i]? with
    | some (.ow l) => .ok (.nx (ρ.set i (.sh (.list l)))) p
    | some (.o2 l) => .ok (.nx (ρ.set i (.sh (.list (l.map .list))))) p
    | _ => .ok (.nx ρ) p
  | .drop e, ρ, p => (ev F e ρ p).bind fun _ p => .ok (.nx ρ) p
  | .ret e, ρ, p => (ev F e ρ p).bind fun d p => .ok (.rt d) p
  | .rseM e, ρ, p => (ev F e ρ p).bind fun d p => match d with
    | .int n => .er (.many n) p
    | _ => .bad
  | .rseU, _, p => .er .unfit p
  | .pas, ρ, p => .ok (.nx ρ) p
  | .brk, ρ, p => .ok (.bk ρ) p
  | .cnt, ρ, p => .ok (.ct ρ) p
  | .iff c a b, ρ, p => (ev F c ρ p).bind fun d p => match d with
    | .bool true => runs F a ρ p
    | .bool false => runs F b ρ p
    | _ => .bad
  | .whl c b kill, ρ, p => whlL (ev F c) (runs F b) kill fuel ρ p
  | .forr tg it b kill, ρ, p => (evI F it ρ p).bind fun ds p => forL tg (runs F b) kill ds ρ p
  | .tryr e many unfit, ρ, p => match ev F e ρ p with
    | .ok d p => .ok (.rt d) p
    | .er (.many n) p => match many with
      | .som h => (ev F h [.sh (.int n)] p).bind fun d p => .ok (.rt d) p
      | .non => .er (.many n) p
    | .er .unfit p => match unfit with
      | .som h => (ev F h [] p).bind fun d p => .ok (.rt d) p
      | .non => .er .unfit p
    | .bad => .bad
def runs (F : List Fn) : Sms → Env → Pt → R Out
  | .nil, ρ, p => .ok (.nx ρ) p
  | .cons s r, ρ, p => (run F s ρ p).bind fun o p => match o with
    | .nx ρ' => runs F r ρ' p
    | .bk ρ' => .ok (.bk ρ') p
    | .ct ρ' => .ok (.ct ρ') p
    | .rt d => .ok (.rt d) p
end
/-- a def: n slots, its body -/
def fn (F : List Fn) (n : Nat) (b : Sms) : Fn := fun ds p => (runs F b (ds.map .sh ++ List.replicate (n - ds.length) .no) p).bind fun o p => match o with
  | .rt d => .ok d p
  | .nx _ => .ok .none p
  | _ => .bad
/-- a def whose first parameter is the pot -/
def fnP (F : List Fn) (n : Nat) (b : Sms) : Fn := fun ds p => (runs F b (.po :: (ds.map .sh ++ List.replicate (n - (ds.length + 1)) .no)) p).bind fun o p => match o with
  | .rt d => .ok d p
  | .nx _ => .ok .none p
  | _ => .bad
/-! lists of syntax, short -/
def ES : List Ex → Exs
  | [] => .nil
  | e :: es => .cons e (ES es)
def TS : List Tg → Tgs
  | [] => .nil
  | e :: es => .cons e (TS es)
def SS : List Sm → Sms
  | [] => .nil
  | e :: es => .cons e (SS es)
end Mi

namespace Mi
open PySem
/-! the drawing pots of the laws, exactly -/
def cellOf (c : Int) : Int := 2 * (if c < 0 then -c else c) + (if c < 0 then 1 else 0)
/-- the pot that is a list -/
def pot1 (l : List Int) : Pot :=
  let cs := (l.take 63).map cellOf
  { c := cs.filter (fun c => decide (c > 1000000000000)), m := cs.foldl (fun m c => (m * 69069 + c + 11) % 4294967291) (19591 + 71 * l.length), t := 0 }
def drw1 (n : Int) (p : Pot) : Int × Pot :=
  if n < 2 then (0, p)
  else match p.c.getLast? with
    | some x => (x % n, { p with c := p.c.dropLast ++ (if x ≥ n then [x / n] else []) })
    | none =>
      let t := p.t + 1
      let a := (p.m + t * 2654435761) % 4294967279
      let b := (a * a + t * 40503 + 5) % 4294967231
      let c := (b * b + p.m) % 4294967291
      (c / 256 % n, { p with t := t })
/-- the pot that is a dict -/
def pot2 (l : List Int) : Pot :=
  let cs := (l.take 61).map cellOf
  { c := cs.filter (fun c => decide (c ≥ 10000000000000000)), m := cs.foldl (fun m c => (m * 69069 + c + 13) % 4294967291) (19591 + 3 * l.length), t := 0 }
def drw2 (n : Int) (p : Pot) : Int × Pot :=
  match p.c with
    | x :: r => (x % n, { p with c := (if x ≥ n then [x / n] else []) ++ r })
    | [] =>
      let t := p.t + 1
      let a := (p.m * 48271 + t * t * 17 + 7919 * t) % 4294967279
      let b := (a * 69621 + a / 65536) % 4294967291
      (b / 1024 % n, { p with t := t, m := b })
/-- the greatest number drawn below -/
def drwLim : Int := 2 ^ 400
def drwF (drw : Int → Pot → Int × Pot) (lo : Int) : Fn := fun ds p => match ds, p with
  | [.int n], some q => if lo ≤ n ∧ n ≤ drwLim then .ok (.int (drw n q).1) (some (drw n q).2) else .bad
  | _, _ => .bad
def m__law_of : Fn := drwF drw1 0
def m__law_draw : Fn := drwF drw2 1
/-- a law: its pot stands in slot 1 -/
def fnLaw (pot : List Int → Pot) (F : List Fn) (n : Nat) (b : Sms) (l : List Int) : R D :=
  (runs F b (.no :: .po :: List.replicate (n - 2) .no) (some (pot l))).bind fun o p => match o with
    | .rt d => .ok d p
    | .nx _ => .ok .none p
    | _ => .bad
end Mi

/-! MiRel: how values stand in the heap; steps. -/
namespace Mi
open PySem L2

mutual
/-- a value that stands for data, by objects of G or of the written part -/
inductive Rp (K : PySem.W.Frag) (G : Hp) : V → D → Prop where
  | non : Rp K G .non .none
  | bl (b : Bool) : Rp K G (.bl b) (.bool b)
  | int (i : Int) : Rp K G (.int i) (.int i)
  | str (x : Str) : Rp K G (.str x) (.str x)
  | lst {a : Addr} {xs : List V} {ds : List D} : G a = some (.lst xs) → RpL K G xs ds → Rp K G (.ref a) (.list ds)
  | tup {a : Addr} {xs : List V} {ds : List D} : SqT K G a xs → RpL K G xs ds → Rp K G (.ref a) (.tuple ds)
  | dic {a : Addr} : G a = some (.dK []) → Rp K G (.ref a) (.dict [])
inductive RpL (K : PySem.W.Frag) (G : Hp) : List V → List D → Prop where
  | nil : RpL K G [] []
  | cons {v : V} {vs : List V} {d : D} {ds : List D} : Rp K G v d → RpL K G vs ds → RpL K G (v :: vs) (d :: ds)
end

theorem Same.sqT {K : PySem.W.Frag} {H H' : Hp} {a : Addr} {xs : List V} (e : Same H H') (h : SqT K H a xs) : SqT K H' a xs := by
  rcases h with (h | ⟨o, h⟩) | h
  · exact .inl (.inl (e _ _ h))
  · exact .inl (.inr ⟨o, e _ _ h⟩)
  · exact .inr h
mutual
theorem Rp.mono {K : PySem.W.Frag} {G G' : Hp} (s : Same G G') : ∀ {v : V} {d : D}, Rp K G v d → Rp K G' v d
  | _, _, .non => .non
  | _, _, .bl b => .bl b
  | _, _, .int i => .int i
  | _, _, .str x => .str x
  | _, _, .lst h r => .lst (s _ _ h) (RpL.mono s r)
  | _, _, .tup h r => .tup (Same.sqT s h) (RpL.mono s r)
  | _, _, .dic h => .dic (s _ _ h)
theorem RpL.mono {K : PySem.W.Frag} {G G' : Hp} (s : Same G G') : ∀ {vs : List V} {ds : List D}, RpL K G vs ds → RpL K G' vs ds
  | _, _, .nil => .nil
  | _, _, .cons h r => .cons (Rp.mono s h) (RpL.mono s r)
end
section
variable {K : PySem.W.Frag} {G : Hp}
theorem RpL.length : ∀ {vs : List V} {ds : List D}, RpL K G vs ds → vs.length = ds.length
  | _, _, .nil => rfl
  | _, _, .cons _ r => by rw [List.length_cons, List.length_cons, RpL.length r]
theorem RpL.append : ∀ {vs ws : List V} {ds es : List D}, RpL K G vs ds → RpL K G ws es → RpL K G (vs ++ ws) (ds ++ es)
  | _, _, _, _, .nil, s => s
  | _, _, _, _, .cons h r, s => .cons h (RpL.append r s)
theorem RpL.get : ∀ {vs : List V} {ds : List D} {i : Nat} {d : D}, RpL K G vs ds → ds[i]? = some d → ∃ v, vs[i]? = some v ∧ Rp K G v d
  | _, _, i, _, .nil, e => by simp at e
  | _, _, 0, _, .cons h _, e => by simp at e; subst e; exact ⟨_, rfl, h⟩
  | _, _, i + 1, d, .cons _ r, e => by
    obtain ⟨v, h1, h2⟩ := RpL.get (i := i) (d := d) r (by simpa using e)
    exact ⟨v, by simpa using h1, h2⟩
theorem RpL.getV : ∀ {vs : List V} {ds : List D} {i : Nat} {v : V}, RpL K G vs ds → vs[i]? = some v → ∃ d, ds[i]? = some d ∧ Rp K G v d
  | _, _, i, _, .nil, e => by simp at e
  | _, _, 0, _, .cons h _, e => by simp at e; subst e; exact ⟨_, rfl, h⟩
  | _, _, i + 1, d, .cons _ r, e => by
    obtain ⟨v, h1, h2⟩ := RpL.getV (i := i) (v := d) r (by simpa using e)
    exact ⟨v, by simpa using h1, h2⟩
theorem RpL.take : ∀ {vs : List V} {ds : List D} (n : Nat), RpL K G vs ds → RpL K G (vs.take n) (ds.take n)
  | _, _, 0, _ => .nil
  | _, _, _ + 1, .nil => .nil
  | _, _, n + 1, .cons h r => .cons h (RpL.take n r)
theorem RpL.drop : ∀ {vs : List V} {ds : List D} (n : Nat), RpL K G vs ds → RpL K G (vs.drop n) (ds.drop n)
  | _, _, 0, r => r
  | _, _, _ + 1, .nil => .nil
  | _, _, n + 1, .cons _ r => RpL.drop n r
theorem RpL.set {v : V} {d : D} (h : Rp K G v d) : ∀ {vs : List V} {ds : List D} (n : Nat), RpL K G vs ds → RpL K G (vs.set n v) (ds.set n d)
  | _, _, _, .nil => .nil
  | _, _, 0, .cons _ r => .cons h r
  | _, _, n + 1, .cons q r => .cons q (RpL.set h n r)
theorem RpL.eraseIdx : ∀ {vs : List V} {ds : List D} (n : Nat), RpL K G vs ds → RpL K G (vs.eraseIdx n) (ds.eraseIdx n)
  | _, _, _, .nil => .nil
  | _, _, 0, .cons _ r => r
  | _, _, n + 1, .cons q r => .cons q (RpL.eraseIdx n r)
theorem RpL.reverse : ∀ {vs : List V} {ds : List D}, RpL K G vs ds → RpL K G vs.reverse ds.reverse
  | _, _, .nil => .nil
  | _, _, .cons h r => by
    rw [List.reverse_cons, List.reverse_cons]
    exact RpL.append (RpL.reverse r) (.cons h .nil)
theorem RpL.rep {vs : List V} {ds : List D} (r : RpL K G vs ds) : ∀ n : Nat, RpL K G (Mi.rep n vs) (Mi.rep n ds)
  | 0 => .nil
  | n + 1 => RpL.append r (RpL.rep r n)
theorem RpL.ints : ∀ (l : List Int), RpL K G (l.map V.int) (l.map PyData.int)
  | [] => .nil
  | x :: xs => .cons (.int x) (RpL.ints xs)
/-- what stands for ints is their list -/
theorem RpL.asInts : ∀ {vs : List V} {ds : List D} {l : List Int}, RpL K G vs ds → Mi.asInts ds = some l → vs = l.map V.int
  | _, _, l, .nil, e => by
    simp only [Mi.asInts, Option.some.injEq] at e
    subst e; rfl
  | _, _, l, .cons (d := d) (ds := ds) h r, e => by
    unfold Mi.asInts at e
    split at e
    · rename_i i l' hd hl
      cases e
      cases h
      rw [RpL.asInts r hl]
      rfl
    · cases e
theorem RpL.asBools : ∀ {vs : List V} {ds : List D} {l : List Bool}, RpL K G vs ds → Mi.asBools ds = some l → vs = l.map V.bl
  | _, _, l, .nil, e => by
    simp only [Mi.asBools, Option.some.injEq] at e
    subst e; rfl
  | _, _, l, .cons (d := d) (ds := ds) h r, e => by
    unfold Mi.asBools at e
    split at e
    · rename_i i l' hd hl
      cases e
      cases h
      rw [RpL.asBools r hl]
      rfl
    · cases e
end
theorem asInts_eq : ∀ {ds : List D} {l : List Int}, Mi.asInts ds = some l → ds = l.map PyData.int
  | [], l, e => by
    simp only [Mi.asInts, Option.some.injEq] at e
    subst e; rfl
  | d :: ds, l, e => by
    unfold Mi.asInts at e
    split at e
    · rename_i i l' hl
      cases e
      rw [asInts_eq hl]
      rfl
    · cases e
mutual
theorem Rp.dp {K : PySem.W.Frag} {G : Hp} : ∀ {v : V} {d : D}, d.canLay0 = true → Rp K G v d → Dp K G v d
  | _, _, _, .non => .non
  | _, _, _, .bl b => .bl b
  | _, _, _, .int i => .int i
  | _, _, _, .str x => .str x
  | _, _, c, .lst h r => .lst (SqL.of h) (RpL.dp (by simpa [PyData.canLay0] using c) r)
  | _, _, c, .tup h r => .tup h (RpL.dp (by simpa [PyData.canLay0] using c) r)
  | _, _, c, .dic h => by simp [PyData.canLay0] at c
theorem RpL.dp {K : PySem.W.Frag} {G : Hp} : ∀ {vs : List V} {ds : List D}, PyData.canLayAll0 ds = true → RpL K G vs ds → DpAll K G vs ds
  | _, _, _, .nil => .nil
  | _ :: _, d :: ds, c, .cons h r => by
    have c' : d.canLay0 = true ∧ PyData.canLayAll0 ds = true := by simpa [PyData.canLayAll0] using c
    exact .cons (Rp.dp c'.1 h) (RpL.dp c'.2 r)
end

/-! the pot's place -/
structure Pr where
  p : Addr
  c : Addr
/-- a pot's kind: how it stands -/
structure PK where
  at_ : Hp → Pr → Pot → Prop
  keep : ∀ {H H' : Hp} {q : Pr} {s : Pot}, at_ H q s → H' q.p = H q.p → H' q.c = H q.c → at_ H' q s
  there : ∀ {H : Hp} {q : Pr} {s : Pot}, at_ H q s → H q.p ≠ none ∧ H q.c ≠ none
/-- the law's surroundings -/
structure Cn where
  K : PySem.W.Frag
  pk : PK
  cM : Addr
  cU : Addr
def Pr.has (pr : Option Pr) (a : Addr) : Prop := ∃ q, pr = some q ∧ (a = q.p ∨ a = q.c)
def PtR (C : Cn) (pr : Option Pr) (G H : Hp) (pt : Pt) : Prop := match pr, pt with
  | some q, some s => C.pk.at_ H q s ∧ G q.p = none ∧ G q.c = none
  | none, none => True
  | _, _ => False
/-- from G, H to G', H' -/
structure Stp (C : Cn) (pr : Option Pr) (G H G' H' : Hp) (pt' : Pt) : Prop where
  sG : Same G G'
  sH : ∀ a o, H a = some o → ¬ Pr.has pr a → H' a = some o
  new : ∀ a o, G' a = some o → G a = some o ∨ H a = none
  same : Same G' H'
  pot : PtR C pr G' H' pt'
section
variable {C : Cn} {pr : Option Pr} {G H G' H' G'' H'' : Hp} {pt pt' pt'' : Pt}
theorem PtR.there {a : Addr} (h : PtR C pr G H pt) (ha : Pr.has pr a) : H a ≠ none ∧ G a = none := by
  obtain ⟨q, e, ha⟩ := ha
  subst e
  cases pt with
  | none => exact h.elim
  | some s =>
    obtain ⟨h1, h2, h3⟩ := h
    obtain ⟨t1, t2⟩ := C.pk.there h1
    rcases ha with rfl | rfl
    · exact ⟨t1, h2⟩
    · exact ⟨t2, h3⟩
theorem Stp.refl (s : Same G H) (p : PtR C pr G H pt) : Stp C pr G H G H pt := ⟨Same.refl _, fun _ _ e _ => e, fun _ _ e => .inl e, s, p⟩
theorem Stp.back (s : Stp C pr G H G' H' pt') (p : PtR C pr G H pt) {a : Addr} (h : H' a = none) : H a = none := by
  cases e : H a with
  | none => rfl
  | some o =>
    by_cases hp : Pr.has pr a
    · exact absurd h (s.pot.there hp).1
    · rw [s.sH a o e hp] at h; cases h
theorem Stp.trans (p : PtR C pr G H pt) (a : Stp C pr G H G' H' pt') (b : Stp C pr G' H' G'' H'' pt'') : Stp C pr G H G'' H'' pt'' :=
  ⟨a.sG.trans b.sG, fun x o e n => b.sH x o (a.sH x o e n) n, fun x o e => by
    rcases b.new x o e with e | e
    · exact a.new x o e
    · exact .inr (a.back p e), b.same, b.pot⟩
/-- a new object, of the ground -/
theorem Stp.lay {q : Addr} {o : HO} (s : Same G H) (p : PtR C pr G H pt) (n : H q = none) : Stp C pr G H (upd G q o) (upd H q o) pt := by
  have gn : G q = none := s.free n
  refine ⟨fun b u e => by rw [upd_ne (ne_of_none e gn)]; exact e, fun b u e _ => by rw [upd_ne (ne_of_none e n)]; exact e, fun b u e => ?_, fun b u e => ?_, ?_⟩
  · by_cases hb : b = q
    · subst hb; exact .inr n
    · rw [upd_ne hb] at e; exact .inl e
  · by_cases hb : b = q
    · subst hb; rw [upd_same] at e ⊢; exact e
    · rw [upd_ne hb] at e ⊢; exact s _ _ e
  · cases pr with
    | none => cases pt with
      | none => trivial
      | some _ => exact p
    | some r => cases pt with
      | none => exact p
      | some t =>
        obtain ⟨h1, h2, h3⟩ := p
        obtain ⟨t1, t2⟩ := C.pk.there h1
        have n1 : r.p ≠ q := fun e => t1 (e ▸ n)
        have n2 : r.c ≠ q := fun e => t2 (e ▸ n)
        exact ⟨C.pk.keep h1 (upd_ne n1) (upd_ne n2), by rw [upd_ne n1]; exact h2, by rw [upd_ne n2]; exact h3⟩
/-- a new object, not of the ground -/
theorem Stp.layH {q : Addr} {o : HO} (s : Same G H) (p : PtR C pr G H pt) (n : H q = none) : Stp C pr G H G (upd H q o) pt := by
  refine ⟨Same.refl _, fun b u e _ => by rw [upd_ne (ne_of_none e n)]; exact e, fun b u e => .inl e, fun b u e => by rw [upd_ne (ne_of_none (s _ _ e) n)]; exact s _ _ e, ?_⟩
  cases pr with
  | none => cases pt with
    | none => trivial
    | some _ => exact p
  | some r => cases pt with
    | none => exact p
    | some t =>
      obtain ⟨h1, h2, h3⟩ := p
      obtain ⟨t1, t2⟩ := C.pk.there h1
      exact ⟨C.pk.keep h1 (upd_ne fun e => t1 (e ▸ n)) (upd_ne fun e => t2 (e ▸ n)), h2, h3⟩
/-- what is new and tracked becomes ground -/
theorem Stp.frz {q : Addr} {o : HO} (s : Stp C pr G H G' H' pt') (p : PtR C pr G H pt) (n : H q = none) (g : G' q = none) (h : H' q = some o) : Stp C pr G H (upd G' q o) H' pt' := by
  refine ⟨fun b u e => by
    have := s.sG b u e
    rw [upd_ne (ne_of_none this g)]; exact this, s.sH, fun b u e => ?_, fun b u e => ?_, ?_⟩
  · by_cases hb : b = q
    · subst hb; exact .inr n
    · rw [upd_ne hb] at e; exact s.new b u e
  · by_cases hb : b = q
    · subst hb; rw [upd_same] at e; cases e; exact h
    · rw [upd_ne hb] at e; exact s.same _ _ e
  · have ht : ∀ a, Pr.has pr a → a ≠ q := fun a ha e => (p.there ha).1 (e ▸ n)
    have := s.pot
    cases pr with
    | none => cases pt' with
      | none => trivial
      | some _ => exact this
    | some r => cases pt' with
      | none => exact this
      | some t =>
        obtain ⟨h1, h2, h3⟩ := this
        exact ⟨h1, by rw [upd_ne (ht r.p ⟨r, rfl, .inl rfl⟩)]; exact h2, by rw [upd_ne (ht r.c ⟨r, rfl, .inr rfl⟩)]; exact h3⟩
end

/-! slots -/
def SlR (C : Cn) (pr : Option Pr) (fp : List Addr) (G H : Hp) (v : Option (Option V)) : Option SV → Prop
  | some (.sh d) => ∃ x, v = some (some x) ∧ Rp C.K G x d
  | some (.ow ds) => ∃ p xs, v = some (some (.ref p)) ∧ p ∈ fp ∧ H p = some (.lst xs) ∧ RpL C.K G xs ds
  | some (.o2 dss) => ∃ (p : Addr) (qs : List Addr), v = some (some (.ref p)) ∧ (∀ a ∈ p :: qs, a ∈ fp) ∧ (p :: qs).Nodup ∧ H p = some (.lst (qs.map V.ref)) ∧
      Paired (fun q ds => ∃ xs, H q = some (.lst xs) ∧ RpL C.K G xs ds) qs dss
  | some .po => ∃ q, pr = some q ∧ v = some (some (.ref q.p))
  | some .no => True
  | none => True
structure Rel (C : Cn) (pr : Option Pr) (fps : Nat → List Addr) (G H : Hp) (σ : St) (ρ : Env) (pt : Pt) : Prop where
  same : Same G H
  len : σ.length = ρ.length
  slot : ∀ i : Nat, SlR C pr (fps i) G H σ[i]? ρ[i]?
  dis : ∀ (i j : Nat) (a : Addr), a ∈ fps i → a ∈ fps j → i = j
  fre : ∀ (i : Nat) (a : Addr), a ∈ fps i → H a ≠ none ∧ G a = none ∧ ¬ Pr.has pr a
  pot : PtR C pr G H pt
section
variable {C : Cn} {pr : Option Pr} {fps : Nat → List Addr} {G H G' H' : Hp} {σ : St} {ρ : Env} {pt pt' : Pt}
theorem Paired.mapR {α β : Type} {F F' : α → β → Prop} : ∀ {l : List α} {m : List β}, Paired F l m → (∀ a b, a ∈ l → F a b → F' a b) → Paired F' l m
  | _, _, .nil, _ => .nil
  | _, _, .cons r t, f => .cons (f _ _ List.mem_cons_self r) (Paired.mapR t fun a b h => f a b (List.mem_cons_of_mem _ h))
theorem SlR.step {fp : List Addr} {v : Option (Option V)} {s : Option SV} (x : Stp C pr G H G' H' pt') (hf : ∀ a ∈ fp, ¬ Pr.has pr a) (h : SlR C pr fp G H v s) : SlR C pr fp G' H' v s := by
  cases s with
  | none => trivial
  | some s =>
    cases s with
    | no => trivial
    | sh d => obtain ⟨y, e, r⟩ := h; exact ⟨y, e, r.mono x.sG⟩
    | ow ds =>
      obtain ⟨p, xs, e, hp, e2, r⟩ := h
      exact ⟨p, xs, e, hp, x.sH _ _ e2 (hf p hp), r.mono x.sG⟩
    | o2 dss =>
      obtain ⟨p, qs, e, hp, nd, e2, r⟩ := h
      exact ⟨p, qs, e, hp, nd, x.sH _ _ e2 (hf p (hp p List.mem_cons_self)), Paired.mapR r fun a b ha ⟨xs, h1, h2⟩ => ⟨xs, x.sH _ _ h1 (hf a (hp a (List.mem_cons_of_mem _ ha))), h2.mono x.sG⟩⟩
    | po => exact h
theorem Rel.step (R : Rel C pr fps G H σ ρ pt) (x : Stp C pr G H G' H' pt') : Rel C pr fps G' H' σ ρ pt' :=
  ⟨x.same, R.len, fun i => (R.slot i).step x fun a ha => (R.fre i a ha).2.2, R.dis, fun i a ha => by
    obtain ⟨h1, h2, h3⟩ := R.fre i a ha
    refine ⟨?_, ?_, h3⟩
    · cases e : H a with
      | none => exact absurd e h1
      | some o => rw [x.sH a o e h3]; simp
    · cases e : G' a with
      | none => rfl
      | some o =>
        rcases x.new a o e with q | q
        · rw [h2] at q; cases q
        · exact absurd q h1, x.pot⟩
end
end Mi

/-! MiOps: readings by meaning; operators. -/
namespace Mi
open PySem L2

/-- an exception that stands for x -/
def XcR (C : Cn) (x : Xc) (c : Value) (dx : Option Addr) (H : Hp) : Prop := match x with
  | .many n => c = .ref C.cM ∧ ∃ d, dx = some d ∧ H d = some (.xd [("limit", .int n)])
  | .unfit => c = .ref C.cU
abbrev Mn (α : Type) := Mi.Env → Pt → R α
def erW (C : Cn) (W : WX) (pr : Option Pr) (G H : Hp) (σ : St) (x : Xc) (pt' : Pt) : Prop :=
  ∀ c dx G' H', Stp C pr G H G' H' pt' → XcR C x c dx H' → W c dx σ H'
/-- lent: shared, or a list that a slot owns -/
def Bp (C : Cn) (pr : Option Pr) (G H : Hp) (v : V) (d : D) : Prop :=
  Rp C.K G v d ∨ ∃ p xs ds, v = .ref p ∧ d = .list ds ∧ ¬ Pr.has pr p ∧ H p = some (.lst xs) ∧ RpL C.K G xs ds
/-- a list is new, anything else is shared -/
def Fs (C : Cn) (H G' H' : Hp) (v : V) : D → Prop
  | .list ds => ∃ p xs, v = .ref p ∧ H p = none ∧ G' p = none ∧ H' p = some (.lst xs) ∧ RpL C.K G' xs ds
  | d => Rp C.K G' v d
/-- what is wanted of a result -/
def R.sat {α : Type} (r : R α) (P : α → Pt → Prop) (E : Xc → Pt → Prop) : Prop := match r with
  | .ok a p => P a p
  | .er x p => E x p
  | .bad => False
theorem sat_bind {α β : Type} {r : R α} {f : α → Pt → R β} {P : β → Pt → Prop} {E : Xc → Pt → Prop} (h : (r.bind f).sat P E) : r.sat (fun a p => (f a p).sat P E) E := by
  cases r with
  | ok a p => exact h
  | er x p => exact h
  | bad => exact h
theorem R.sat.mono {α : Type} {r : R α} {P P' : α → Pt → Prop} {E E' : Xc → Pt → Prop} (h : r.sat P E) (hp : ∀ a p, P a p → P' a p) (he : ∀ x p, E x p → E' x p) : r.sat P' E' := by
  cases r with
  | ok a p => exact hp a p h
  | er x p => exact he x p h
  | bad => exact h
theorem sat_lift {α : Type} {o : Option α} {p : Pt} {P : α → Pt → Prop} {E : Xc → Pt → Prop} (h : (R.lift o p).sat P E) : ∃ a, o = some a ∧ P a p := by
  cases o with
  | none => exact h.elim
  | some a => exact ⟨a, rfl, h⟩
/-- the reading of an expression: E shared, Bo lent, Fr new -/
def tE (C : Cn) (W : WX) (f : Mn D) : L2.TE := fun σ H Q => ∃ pr fps G ρ pt, Rel C pr fps G H σ ρ pt ∧ (f ρ pt).sat (fun d pt' => ∀ v G' H', Stp C pr G H G' H' pt' → Rp C.K G' v d → Q v H') (erW C W pr G H σ)
def tBo (C : Cn) (W : WX) (f : Mn D) : L2.TE := fun σ H Q => ∃ pr fps G ρ pt, Rel C pr fps G H σ ρ pt ∧ (f ρ pt).sat (fun d pt' => ∀ v G' H', Stp C pr G H G' H' pt' → Bp C pr G' H' v d → Q v H') (erW C W pr G H σ)
def tFr (C : Cn) (W : WX) (f : Mn D) : L2.TE := fun σ H Q => ∃ pr fps G ρ pt, Rel C pr fps G H σ ρ pt ∧ (f ρ pt).sat (fun d pt' => ∀ v G' H', Stp C pr G H G' H' pt' → Fs C H G' H' v d → Q v H') (erW C W pr G H σ)
def tEs (C : Cn) (W : WX) (f : Mn (List D)) : L2.TA := fun σ H Q => ∃ pr fps G ρ pt, Rel C pr fps G H σ ρ pt ∧ (f ρ pt).sat (fun ds pt' => ∀ vs G' H', Stp C pr G H G' H' pt' → RpL C.K G' vs ds → Q vs H') (erW C W pr G H σ)
/-- a test -/
def tTs (C : Cn) (W : WX) (f : Mn D) : L2.TT := fun σ H Q => ∃ pr fps G ρ pt, Rel C pr fps G H σ ρ pt ∧ (f ρ pt).sat (fun d pt' => ∃ b, d = .bool b ∧ ∀ G' H', Stp C pr G H G' H' pt' → Q b H') (erW C W pr G H σ)

theorem PE.imp {X : Cx} {e : Expr} {t t' : L2.TE} (h : PE X e t) (i : ∀ σ H Q, t' σ H Q → t σ H Q) : PE X e t' := ⟨fun pins s σ H Q I q => h.run pins s σ H Q I (i σ H Q q)⟩
theorem PT.imp {X : Cx} {e : Expr} {t t' : L2.TT} (h : PT X e t) (i : ∀ σ H Q, t' σ H Q → t σ H Q) : PT X e t' := ⟨fun pins s σ H Q I q => h.run pins s σ H Q I (i σ H Q q)⟩
theorem PA.imp {X : Cx} {e : List Expr} {t t' : L2.TA} (h : PA X e t) (i : ∀ σ H Q, t' σ H Q → t σ H Q) : PA X e t' := ⟨fun pos pins s σ H Q I q => h.run pos pins s σ H Q I (i σ H Q q)⟩
theorem PS.imp {X : Cx} {e : Stmt} {t t' : L2.TS} (h : PS X e t) (i : ∀ D σ H, t' D σ H → t D σ H) : PS X e t' := ⟨fun pins s σ H D I q => h.run pins s σ H D I (i D σ H q)⟩
theorem PSs.imp {X : Cx} {e : List Stmt} {t t' : L2.TS} (h : PSs X e t) (i : ∀ D σ H, t' D σ H → t D σ H) : PSs X e t' := ⟨fun pins s σ H D I q => h.run pins s σ H D I (i D σ H q)⟩

section
variable {C : Cn} {W : WX} {pr : Option Pr} {G H G' H' G'' H'' : Hp} {pt pt' pt'' : Pt} {v : V} {d : D} {X : Cx} {e : Expr} {f : Mn D}
theorem Bp.step (h : Bp C pr G H v d) (s : Stp C pr G H G' H' pt') : Bp C pr G' H' v d := by
  rcases h with h | ⟨p, xs, ds, e1, e2, n, e3, r⟩
  · exact .inl (h.mono s.sG)
  · exact .inr ⟨p, xs, ds, e1, e2, n, s.sH _ _ e3 n, r.mono s.sG⟩
theorem Bp.list {ds : List D} (h : Bp C pr G H v (.list ds)) (s : Same G H) : ∃ p xs, v = .ref p ∧ H p = some (.lst xs) ∧ RpL C.K G xs ds := by
  rcases h with h | ⟨p, xs, ds', e1, e2, n, e3, r⟩
  · cases h with
    | lst h1 r => exact ⟨_, _, rfl, s _ _ h1, r⟩
  · cases e2
    exact ⟨p, xs, e1, e3, r⟩
theorem Bp.rp (h : Bp C pr G H v d) (n : ∀ ds, d ≠ .list ds) : Rp C.K G v d := by
  rcases h with h | ⟨p, xs, ds', e1, e2, _⟩
  · exact h
  · exact absurd e2 (n ds')
theorem PE.bo (h : PE X e (tE C W f)) : PE X e (tBo C W f) := PE.imp h fun σ H Q ⟨pr, fps, G, ρ, pt, R, q⟩ => ⟨pr, fps, G, ρ, pt, R, q.mono (fun d p q v G' H' s r => q v G' H' s (.inl r)) fun _ _ q => q⟩
theorem PE.fr (h : PE X e (tFr C W f)) : PE X e (tE C W f) := PE.imp h fun σ H Q ⟨pr, fps, G, ρ, pt, R, q⟩ => ⟨pr, fps, G, ρ, pt, R, q.mono (fun d p q v G' H' s r => by
  cases d with
  | list ds =>
    obtain ⟨p, xs, rfl, n, g, h', rl⟩ := r
    exact q _ (upd G' p (.lst xs)) H' (s.frz R.pot n g h') (.lst upd_same (rl.mono fun b u e => by rw [upd_ne (ne_of_none e g)]; exact e))
  | _ => exact q v G' H' s r) fun _ _ q => q⟩
theorem erW.after {σ : St} {x : Xc} (h : erW C W pr G H σ x pt'') (p : PtR C pr G H pt) (s : Stp C pr G H G' H' pt') : erW C W pr G' H' σ x pt'' :=
  fun c dx G2 H2 s2 r => h c dx G2 H2 (s.trans p s2) r
theorem Fs.flat (n : ∀ ds, d ≠ .list ds) (h : Rp C.K G' v d) : Fs C H G' H' v d := by
  cases d with
  | list ds => exact absurd rfl (n ds)
  | _ => exact h
end

/-! ### two expressions and a rule -/
/-- a rule by data: lent in, new out -/
def rD (C : Cn) (g : D → D → Option D) : R2 := fun x y H Q => ∃ pr G pt dx dy d, Same G H ∧ PtR C pr G H pt ∧ Bp C pr G H x dx ∧ Bp C pr G H y dy ∧ g dx dy = some d ∧
  ∀ v G' H', Stp C pr G H G' H' pt → Fs C H G' H' v d → Q v H'
theorem Fs.back {C : Cn} {pr : Option Pr} {G H G1 H1 G' H' : Hp} {pt p1 : Pt} {v : V} {d : D} (p : PtR C pr G H pt) (s : Stp C pr G H G1 H1 p1) (h : Fs C H1 G' H' v d) : Fs C H G' H' v d := by
  cases d with
  | list ds =>
    obtain ⟨q, xs, e1, n, g3, h3, rl⟩ := h
    exact ⟨q, xs, e1, s.back p n, g3, h3, rl⟩
  | _ => exact h
theorem two {C : Cn} {W : WX} {fa fb : Mn D} {g : D → D → Option D} {σ : St} {H : Hp} {Q : VK}
    (h : tFr C W (fun ρ p => (fa ρ p).bind fun x p => (fb ρ p).bind fun y p => .lift (g x y) p) σ H Q) : tOp (rD C g) (tBo C W fa) (tBo C W fb) σ H Q := by
  obtain ⟨pr, fps, G, ρ, pt, R, q⟩ := h
  refine ⟨pr, fps, G, ρ, pt, R, (sat_bind q).mono (fun dx p1 q x G1 H1 s1 bx => ?_) fun _ _ q => q⟩
  refine ⟨pr, fps, G1, ρ, p1, R.step s1, (sat_bind q).mono (fun dy p2 q y G2 H2 s2 b2 => ?_) fun _ _ q => q.after R.pot s1⟩
  obtain ⟨d, eg, q⟩ := sat_lift q
  exact ⟨pr, G2, p2, dx, dy, d, s2.same, s2.pot, bx.step s2, b2, eg, fun v G3 H3 s3 r => q v G3 H3 (s1.trans R.pot (s2.trans s1.pot s3)) (.back R.pot s1 (.back s1.pot s2 r))⟩

section
variable {C : Cn} {W : WX} {X : Cx} {a b : Expr} {fa fb : Mn D} {pos : Pos}
theorem OpR.imp {f : Value → Value → Sem Value} {r r' : R2} (h : OpR X f r) (i : ∀ x y H Q, r' x y H Q → r x y H Q) : OpR X f r' :=
  fun pins s σ H x y v u Q I rx ry q => h pins s σ H x y v u Q I rx ry (i _ _ _ _ q)
theorem pe_bin {op : Operator} {g : D → D → Option D} (ho : OpR X (binaryOp op) (rD C g)) (ha : PE X a (tBo C W fa)) (hb : PE X b (tBo C W fb)) :
    PE X (.BinOp a op b pos) (tFr C W (fun ρ p => (fa ρ p).bind fun x p => (fb ρ p).bind fun y p => .lift (g x y) p)) := PE.imp (pe_op ho ha hb) fun _ _ _ h => two h
theorem pe_cmp2 {op : CmpOp} {g : D → D → Option D} (ho : OpR X (compareOp op) (rD C g)) (ha : PE X a (tBo C W fa)) (hb : PE X b (tBo C W fb)) (hm : behindInMarks op b = false) :
    PE X (.Compare a [op] [b] pos) (tFr C W (fun ρ p => (fa ρ p).bind fun x p => (fb ρ p).bind fun y p => .lift (g x y) p)) := PE.imp (pe_cmpR ho ha hb hm) fun _ _ _ h => two h
end

/-! ### operators on data -/
/-- what an operator's rule gives: data of dx, dy, a value for d -/
structure Ask (C : Cn) (g : D → D → Option D) (dx dy d : D) (x y : V) (H : Hp) (Q : VK) : Prop where
  ex : ∃ pr G pt, Same G H ∧ PtR C pr G H pt ∧ Bp C pr G H x dx ∧ Bp C pr G H y dy ∧ ∀ v G' H', Stp C pr G H G' H' pt → Fs C H G' H' v d → Q v H'
theorem op_cases {C : Cn} {X : Cx} {f : Value → Value → Sem Value} {g : D → D → Option D}
    (h : ∀ dx dy d, g dx dy = some d → ∃ r : R2, OpR X f r ∧ ∀ x y H Q, Ask C g dx dy d x y H Q → r x y H Q) : OpR X f (rD C g) := by
  intro pins s σ H x y v u Q I rx ry q
  obtain ⟨pr, G, pt, dx, dy, d, s1, p1, bx, b2, e, k⟩ := q
  obtain ⟨r, ho, i⟩ := h dx dy d e
  exact ho pins s σ H x y v u Q I rx ry (i x y H Q ⟨pr, G, pt, s1, p1, bx, b2, k⟩)
section
variable {C : Cn} {g : D → D → Option D} {dx dy d : D} {x y : V} {H : Hp} {Q : VK}
theorem Ask.ints {i j : Int} (h : Ask C g (.int i) (.int j) d x y H Q) : x = .int i ∧ y = .int j := by
  obtain ⟨pr, G, pt, _, _, bx, b2, _⟩ := h.ex
  have r1 := bx.rp (fun _ => nofun)
  have r2 := b2.rp (fun _ => nofun)
  cases r1; cases r2
  exact ⟨rfl, rfl⟩
/-- the answer has no object -/
theorem Ask.put {v : V} (h : Ask C g dx dy d x y H Q) (r : ∀ G, Rp C.K G v d) (n : ∀ ds, d ≠ .list ds) : Q v H := by
  obtain ⟨pr, G, pt, s, p, bx, b2, k⟩ := h.ex
  exact k v G H (.refl s p) (Fs.flat n (r G))
end
theorem rep_flat {α : Type} (l : List α) : ∀ n, (List.replicate n l).flatten = Mi.rep n l
  | 0 => rfl
  | n + 1 => by rw [List.replicate_succ, List.flatten_cons, rep_flat l n]; rfl
theorem lim_line : lim ≤ sizeLine := by decide
theorem rep_length {α : Type} (l : List α) : ∀ n, (Mi.rep n l).length = l.length * n
  | 0 => rfl
  | n + 1 => by show (l ++ Mi.rep n l).length = _; rw [List.length_append, rep_length l n, Nat.mul_succ, Nat.add_comm]

section
variable {C : Cn} {X : Cx}
theorem int_op {f : Value → Value → Sem Value} {g : D → D → Option D} {i j k : Int} {P : Int → Int → Prop} {h : Int → Int → Int} (ho : OpR X f (rI P fun i j => .int (h i j))) (hp : P i j) (e : h i j = k) :
    ∃ r : R2, OpR X f r ∧ ∀ x y H Q, Ask C g (.int i) (.int j) (.int k) x y H Q → r x y H Q :=
  ⟨_, ho, fun x y H Q a => ⟨i, j, a.ints.1, a.ints.2, hp, a.put (fun _ => by show Rp _ _ (V.int (h i j)) _; rw [e]; exact .int k) (fun _ => nofun)⟩⟩
theorem int_op0 {f : Value → Value → Sem Value} {g : D → D → Option D} {i j k : Int} {h : Int → Int → Int} (ho : OpR X f (rI0 fun i j => .int (h i j))) (e : h i j = k) :
    ∃ r : R2, OpR X f r ∧ ∀ x y H Q, Ask C g (.int i) (.int j) (.int k) x y H Q → r x y H Q :=
  ⟨_, ho, fun x y H Q a => ⟨i, j, a.ints.1, a.ints.2, a.put (fun _ => by show Rp _ _ (V.int (h i j)) _; rw [e]; exact .int k) (fun _ => nofun)⟩⟩
theorem int_opB {f : Value → Value → Sem Value} {g : D → D → Option D} {i j : Int} {k : Bool} {h : Int → Int → Bool} (ho : OpR X f (rI0 fun i j => .bl (h i j))) (e : h i j = k) :
    ∃ r : R2, OpR X f r ∧ ∀ x y H Q, Ask C g (.int i) (.int j) (.bool k) x y H Q → r x y H Q :=
  ⟨_, ho, fun x y H Q a => ⟨i, j, a.ints.1, a.ints.2, a.put (fun _ => by show Rp _ _ (V.bl (h i j)) _; rw [e]; exact .bl k) (fun _ => nofun)⟩⟩
theorem od_add (hK : X.K = C.K) : OpR X (binaryOp .Add) (rD C (bop .add)) := op_cases fun dx dy d e => by
  cases dx <;> cases dy <;> simp only [bop, reduceCtorEq, Option.some.injEq, Option.ite_none_right_eq_some] at e
  case int.int i j => subst e; exact int_op0 op_add rfl
  case tuple.tuple a b =>
    obtain ⟨hz, rfl⟩ := e
    refine ⟨_, op_catA, fun x y H Q q => ?_⟩
    obtain ⟨pr, G, pt, s, p, bx, b2, k⟩ := q.ex
    have r1 := bx.rp (fun _ => nofun)
    have r2 := b2.rp (fun _ => nofun)
    cases r1 with
    | tup h1 l1 =>
      cases r2 with
      | tup h2 l2 =>
        refine ⟨_, _, _, _, rfl, rfl, by rw [hK]; exact Same.sqT s h1, by rw [hK]; exact Same.sqT s h2, ?_, fun e => ?_, fun n e => ?_, fun n1 n2 p' np => ?_⟩
        · rw [l1.length, l2.length]; exact Nat.le_trans hz lim_line
        · refine k _ G H (.refl s p) (Rp.tup h2 ?_)
          subst e
          cases l1
          exact l2
        · refine k _ G H (.refl s p) (Rp.tup h1 ?_)
          subst e
          cases l2
          rw [List.append_nil]
          exact l1
        · have gn : G p' = none := s.free np
          exact k _ _ _ (Stp.lay s p np) (Rp.tup (SqT.of upd_same) ((l1.append l2).mono fun b u e => by rw [upd_ne (ne_of_none e gn)]; exact e))
  case list.list a b =>
    obtain ⟨hz, rfl⟩ := e
    refine ⟨_, op_cat, fun x y H Q q => ?_⟩
    obtain ⟨pr, G, pt, s, p, bx, b2, k⟩ := q.ex
    obtain ⟨a1, xs, rfl, h1, l1⟩ := bx.list s
    obtain ⟨a2, ys, rfl, h2, l2⟩ := b2.list s
    refine ⟨a1, a2, xs, ys, rfl, rfl, h1, h2, by rw [l1.length, l2.length]; exact Nat.le_trans hz lim_line, fun p' np => ?_⟩
    exact k _ _ _ (Stp.layH s p np) ⟨p', _, rfl, np, s.free np, upd_same, l1.append l2⟩
theorem od_sub : OpR X (binaryOp .Sub) (rD C (bop .sub)) := op_cases fun dx dy d e => by
  cases dx <;> cases dy <;> simp only [bop, reduceCtorEq, Option.some.injEq] at e
  case int.int i j => subst e; exact int_op0 op_sub rfl
theorem sm_log {i j : Int} (h : (sm i && sm j) = true) : CMulW i j := by
  simp only [sm, Bool.and_eq_true, decide_eq_true_eq] at h
  unfold CMulW
  omega
theorem od_mul (hK : X.K = C.K) : OpR X (binaryOp .Mult) (rD C (bop .mul)) := op_cases fun dx dy d e => by
  cases dx <;> cases dy <;> simp only [bop, reduceCtorEq, Option.some.injEq, Option.ite_none_right_eq_some] at e
  case int.int i j =>
    obtain ⟨hc, rfl⟩ := e
    exact int_op op_mulW (sm_log hc) rfl
  case list.int a i =>
    obtain ⟨⟨h0, h1, h2⟩, rfl⟩ := e
    refine ⟨_, op_rep, fun x y H Q q => ?_⟩
    obtain ⟨pr, G, pt, s, p, bx, b2, k⟩ := q.ex
    obtain ⟨a1, xs, rfl, h3, l1⟩ := bx.list s
    have r2 := b2.rp (fun _ => nofun)
    cases r2
    refine ⟨a1, i, xs, rfl, rfl, h3, by omega, by omega, by rw [l1.length]; exact Nat.le_trans h2 lim_line, fun p' np => ?_⟩
    exact k _ _ _ (Stp.layH s p np) ⟨p', _, rfl, np, s.free np, by rw [upd_same, rep_flat], l1.rep _⟩
  case tuple.int a i =>
    obtain ⟨⟨h0, h1, h2, h3⟩, rfl⟩ := e
    refine ⟨_, op_repT, fun x y H Q q => ?_⟩
    obtain ⟨pr, G, pt, s, p, bx, b2, k⟩ := q.ex
    have r1 := bx.rp (fun _ => nofun)
    have r2 := b2.rp (fun _ => nofun)
    cases r2
    cases r1 with
    | tup h4 l1 =>
      have ll := l1.length
      refine ⟨_, i, _, rfl, rfl, by rw [hK]; exact Same.sqT s h4, fun e => by rw [e] at ll; simp at ll; omega, h0, h1, by rw [ll]; exact h3, fun p' np => ?_⟩
      have gn : G p' = none := s.free np
      exact k _ _ _ (Stp.lay s p np) (Rp.tup (SqT.of (by rw [upd_same, rep_flat])) ((l1.rep _).mono fun b u e => by rw [upd_ne (ne_of_none e gn)]; exact e))
theorem od_fdiv : OpR X (binaryOp .FloorDiv) (rD C (bop .fdiv)) := op_cases fun dx dy d e => by
  cases dx <;> cases dy <;> simp only [bop, reduceCtorEq, Option.some.injEq, Option.ite_none_right_eq_some] at e
  case int.int i j =>
    obtain ⟨hc, rfl⟩ := e
    simp only [dv, Bool.and_eq_true, decide_eq_true_eq] at hc
    exact int_op op_fdivW hc rfl
theorem od_mod : OpR X (binaryOp .Mod) (rD C (bop .mod)) := op_cases fun dx dy d e => by
  cases dx <;> cases dy <;> simp only [bop, reduceCtorEq, Option.some.injEq, Option.ite_none_right_eq_some] at e
  case int.int i j =>
    obtain ⟨hc, rfl⟩ := e
    exact int_op op_mod hc rfl
theorem od_pow : OpR X (binaryOp .Pow) (rD C (bop .pow)) := op_cases fun dx dy d e => by
  cases dx <;> cases dy <;> simp only [bop, reduceCtorEq, Option.some.injEq, Option.ite_none_right_eq_some] at e
  case int.int i j =>
    obtain ⟨⟨h1, h2, h3⟩, rfl⟩ := e
    exact int_op op_pow ⟨h1, by omega, h3⟩ rfl
theorem od_shl : OpR X (binaryOp .LShift) (rD C (bop .shl)) := op_cases fun dx dy d e => by
  cases dx <;> cases dy <;> simp only [bop, reduceCtorEq, Option.some.injEq, Option.ite_none_right_eq_some] at e
  case int.int i j =>
    obtain ⟨⟨h1, h2, h3⟩, rfl⟩ := e
    exact int_op op_shl ⟨h1, by omega, h3⟩ rfl
theorem od_shr : OpR X (binaryOp .RShift) (rD C (bop .shr)) := op_cases fun dx dy d e => by
  cases dx <;> cases dy <;> simp only [bop, reduceCtorEq, Option.some.injEq, Option.ite_none_right_eq_some] at e
  case int.int i j =>
    obtain ⟨h1, rfl⟩ := e
    exact int_op op_shr h1 rfl
end
end Mi

/-! MiCalls: comparisons, built-ins. -/
namespace Mi
open PySem L2

/-! ### what stands for data is read as data -/
section
variable {X : Cx} {pins : List (Addr × Obj)} {σ : St} {H : Hp} {s : Shared}
mutual
theorem rp_reads (I : Inv X pins σ H s) : ∀ {v : V} {d : D} {u : Value}, Rp X.K H v d → RelV v u → ∃ as, Reads s.heap u d as
  | _, _, _, .non, r => by cases r; exact ⟨_, .none⟩
  | _, _, _, .bl b, r => by cases r; exact ⟨_, .bool b⟩
  | _, _, _, .int i, r => by obtain ⟨t, rfl⟩ := r; exact ⟨_, .int i t⟩
  | _, _, _, .str x, r => by obtain ⟨t, rfl⟩ := r; exact ⟨_, .str x t⟩
  | _, _, _, .lst h l, r => by
    cases r
    obtain ⟨its, rv, ⟨o, n, ho, hc, _, hd⟩, _⟩ := I.list (SqL.of h)
    obtain ⟨as, hr⟩ := rpl_reads I l rv
    exact ⟨_, .list ho hc hd hr⟩
  | _, _, _, .tup h l, r => by
    cases r
    obtain ⟨its, rv, ⟨o, ho, hc, n, hd⟩, _⟩ := I.tuple h
    obtain ⟨as, hr⟩ := rpl_reads I l rv
    exact ⟨_, .tuple ho hc hd hr⟩
  | _, _, _, .dic h, r => by
    cases r
    obtain ⟨_, _, vs, kv, o, es, ep, h1, h2, h3, h4, h5, h6⟩ := I.hok _ _ h
    cases kv
    have e : es.toList = [] := by
      cases q : es.toList with
      | nil => rfl
      | cons a b => rw [q] at h5; cases h5
    refine ⟨_, .dict (as := []) (bs := []) h1 h2.1 h3 ?_ ?_⟩
    · rw [e]; exact .nil
    · rw [e]; exact .nil
theorem rpl_reads (I : Inv X pins σ H s) : ∀ {vs : List V} {ds : List D} {us : List Value}, RpL X.K H vs ds → Vals vs us → ∃ as, ReadsAll s.heap us ds as
  | _, _, _, .nil, r => by cases r; exact ⟨_, .nil⟩
  | _, _, _, .cons h l, r => by
    cases r with
    | cons r1 r2 =>
      obtain ⟨as, q1⟩ := rp_reads I h r1
      obtain ⟨bs, q2⟩ := rpl_reads I l r2
      exact ⟨_, .cons q1 q2⟩
end
theorem bp_reads {C : Cn} {pr : Option Pr} {G : Hp} {v : V} {d : D} {u : Value} (hK : X.K = C.K) (I : Inv X pins σ H s) (sm : Same G H) (h : Bp C pr G H v d) (r : RelV v u) : ∃ as, Reads s.heap u d as := by
  rcases h with h | ⟨p, xs, ds, rfl, rfl, _, hp, l⟩
  · exact rp_reads I (hK ▸ h.mono sm) r
  · exact rp_reads I (.lst hp (hK ▸ l.mono sm)) r
end

/-! ### comparisons -/
section
variable {C : Cn} {X : Cx}
/-- an operator with a bool for an answer, by what is read -/
theorem op_bool (hK : X.K = C.K) {f : Value → Value → Sem Value} {g : D → D → Option Bool}
    (h : ∀ dx dy b, g dx dy = some b → ∀ (s : Shared) (v u : Value) as bs (Q : Value → Shared → Prop), Reads s.heap v dx as → Reads s.heap u dy bs → (∀ tk, Q (.bool b) { s with toks := tk }) → wpAny (model X.prog X.w) X.A (f v u) Q X.xe s) :
    OpR X f (rD C fun a b => (g a b).map .bool) := by
  intro pins s σ H x y v u Q I rx ry q
  obtain ⟨pr, G, pt, dx, dy, d, s1, p1, bx, b2, e, k⟩ := q
  have e : (g dx dy).map PyData.bool = some d := e
  cases eg : g dx dy with
  | none => rw [eg] at e; cases e
  | some b =>
    rw [eg] at e
    cases e
    obtain ⟨as, r1⟩ := bp_reads hK I s1 bx rx
    obtain ⟨bs, r2⟩ := bp_reads hK I s1 b2 ry
    exact h dx dy b eg s v u as bs _ r1 r2 fun tk => ⟨.bl b, H, I.tok tk, rfl, k _ G H (.refl s1 p1) (.bl b)⟩
theorem eqD_eqv {a b : D} {k : Bool} (h : eqD a b = some k) : (∃ x y, a = .str x ∧ b = .str y ∧ decide (x = y) = k) ∨ (SeqAt.shaped a = true ∧ SeqAt.shaped b = true ∧ PyData.eqv a b = k) := by
  have gen : ∀ {a b : D}, (if shp a && shp b then some (PyData.eqv a b) else none) = some k → SeqAt.shaped a = true ∧ SeqAt.shaped b = true ∧ PyData.eqv a b = k := fun {a b} h => by
    simp only [Option.ite_none_right_eq_some, Option.some.injEq, Bool.and_eq_true, shp] at h
    exact ⟨h.1.1, h.1.2, h.2⟩
  cases a <;> cases b <;> first
    | exact .inr (gen h)
    | (simp only [eqD, Option.some.injEq] at h
       exact .inl ⟨_, _, rfl, rfl, h⟩)
    | (simp only [eqD, Option.some.injEq] at h
       refine .inr ⟨by simp [SeqAt.shaped, PyData.canLay0, PyData.depth], by simp [SeqAt.shaped, PyData.canLay0, PyData.depth], ?_⟩
       rw [← h]
       simp only [PyData.eqv]
       rw [Bool.beq_eq_decide_eq])
theorem oc_eq (hK : X.K = C.K) (hu : X.A.units + 64 < cLine) : OpR X (compareOp .Eq) (rD C fun a b => (cop .eq a b).map .bool) := op_bool hK fun dx dy b e s v u as bs Q r1 r2 q => by
  rcases eqD_eqv (show eqD dx dy = some b from e) with ⟨x, y, rfl, rfl, rfl⟩ | ⟨h1, h2, rfl⟩
  · cases r1; cases r2
    refine PyProof.Rows.eq_str ?_
    rw [Bool.beq_eq_decide_eq]
    exact q s.toks
  · exact SeqAt.compareEq_shaped r1 r2 h1 h2 hu (q s.toks)
theorem oc_ne (hK : X.K = C.K) (hu : X.A.units + 64 < cLine) : OpR X (compareOp .NotEq) (rD C fun a b => (cop .ne a b).map .bool) := op_bool hK fun dx dy b e s v u as bs Q r1 r2 q => by
  have e : (eqD dx dy).map (!·) = some b := e
  obtain ⟨k, e1, rfl⟩ := Option.map_eq_some_iff.mp e
  rcases eqD_eqv e1 with ⟨x, y, rfl, rfl, rfl⟩ | ⟨h1, h2, rfl⟩
  · cases r1; cases r2
    refine PyProof.Rows.ne_str ?_
    rw [bne, Bool.beq_eq_decide_eq]
    exact q s.toks
  · exact SeqAt.compareNe_shaped r1 r2 h1 h2 hu (q s.toks)
theorem oc_int (hK : X.K = C.K) {o : Cop} {op : CmpOp} {p : Int → Int → Bool} (hg : ∀ dx dy b, cop o dx dy = some b → ∃ i j, dx = .int i ∧ dy = .int j ∧ p i j = b)
    (rule : ∀ (i j : Int) (t u : Tok) (s : Shared) (Q : Value → Shared → Prop), Q (.bool (p i j)) s → wpAny (model X.prog X.w) X.A (compareOp op (.int i t) (.int j u)) Q X.xe s) : OpR X (compareOp op) (rD C fun a b => (cop o a b).map .bool) :=
  op_bool hK fun dx dy b e s v u as bs Q r1 r2 q => by
    obtain ⟨i, j, rfl, rfl, rfl⟩ := hg dx dy b e
    cases r1; cases r2
    exact rule i j _ _ s _ (q s.toks)
theorem oc_lt (hK : X.K = C.K) : OpR X (compareOp .Lt) (rD C fun a b => (cop .lt a b).map .bool) := oc_int hK (p := fun i j => decide (i < j)) (fun dx dy b e => by
  cases dx <;> cases dy <;> simp only [cop, reduceCtorEq, Option.some.injEq] at e; exact ⟨_, _, rfl, rfl, e⟩) fun _ _ _ _ _ _ h => PyProof.Rows.lt_int h
theorem oc_le (hK : X.K = C.K) : OpR X (compareOp .LtE) (rD C fun a b => (cop .le a b).map .bool) := oc_int hK (p := fun i j => decide (i ≤ j)) (fun dx dy b e => by
  cases dx <;> cases dy <;> simp only [cop, reduceCtorEq, Option.some.injEq] at e; exact ⟨_, _, rfl, rfl, e⟩) fun _ _ _ _ _ _ h => PyProof.Rows.le_int h
theorem oc_gt (hK : X.K = C.K) : OpR X (compareOp .Gt) (rD C fun a b => (cop .gt a b).map .bool) := oc_int hK (p := fun i j => decide (j < i)) (fun dx dy b e => by
  cases dx <;> cases dy <;> simp only [cop, reduceCtorEq, Option.some.injEq] at e; exact ⟨_, _, rfl, rfl, e⟩) fun _ _ _ _ _ _ h => PyProof.Rows.gt_int h
theorem oc_ge (hK : X.K = C.K) : OpR X (compareOp .GtE) (rD C fun a b => (cop .ge a b).map .bool) := oc_int hK (p := fun i j => decide (j ≤ i)) (fun dx dy b e => by
  cases dx <;> cases dy <;> simp only [cop, reduceCtorEq, Option.some.injEq] at e; exact ⟨_, _, rfl, rfl, e⟩) fun _ _ _ _ _ _ h => PyProof.Rows.ge_int h
theorem reads_isN {h : Heap} {v : Value} {d : D} {as : List Addr} (r : Reads h v d as) : (v == Value.none) = isNoneD d := by cases r <;> rfl
theorem oc_isN (hK : X.K = C.K) : OpR X (compareOp .Is) (rD C fun a b => (cop .isN a b).map .bool) := op_bool hK fun dx dy b e s v u as bs Q r1 r2 q => by
  cases dy <;> simp only [cop, reduceCtorEq, Option.some.injEq] at e
  cases r2
  refine PyProof.Rows.is_none_gen ?_
  rw [reads_isN r1, e]
  exact q s.toks
theorem oc_isntN (hK : X.K = C.K) : OpR X (compareOp .IsNot) (rD C fun a b => (cop .isntN a b).map .bool) := op_bool hK fun dx dy b e s v u as bs Q r1 r2 q => by
  cases dy <;> simp only [cop, reduceCtorEq, Option.some.injEq] at e
  cases r2
  refine PyProof.Rows.isnot_none_gen ?_
  rw [reads_isN r1, e]
  exact q s.toks
theorem all_shp {ds : List D} (h : ds.all shp = true) : PyData.canLayAll0 ds = true := by
  induction ds with
  | nil => simp [PyData.canLayAll0]
  | cons d ds ih =>
    simp only [List.all_cons, Bool.and_eq_true] at h
    simp only [PyData.canLayAll0, Bool.and_eq_true]
    exact ⟨SeqAt.canLay_of_shaped h.1, ih h.2⟩
theorem memD_of {a : D} {ds : List D} {k : Bool} (h : memD a ds = some k) : SeqAt.shaped a = true ∧ PyData.canLayAll0 ds = true ∧ (ds.any fun z => PyData.eqv z a) = k := by
  unfold memD at h
  simp only [Option.ite_none_right_eq_some, Option.some.injEq, Bool.and_eq_true] at h
  exact ⟨h.1.1, all_shp h.1.2, h.2⟩
theorem oc_in (hK : X.K = C.K) (hu : X.A.units + 65 < cLine) : OpR X (compareOp .In) (rD C fun a b => (cop .inn a b).map .bool) := op_bool hK fun dx dy b e s v u as bs Q r1 r2 q => by
  cases dy <;> simp only [cop, reduceCtorEq] at e
  case list ds =>
    obtain ⟨h1, h2, rfl⟩ := memD_of e
    exact SeqAt.in_list_reads r2 r1 (by simpa [PyData.canLay0] using h2) (SeqAt.canLay_of_shaped h1) (PyProof.Rows.room_in_shaped h1 hu) (q s.toks)
  case tuple ds =>
    obtain ⟨h1, h2, rfl⟩ := memD_of e
    exact SeqAt.in_tuple_reads r2 r1 (by simpa [PyData.canLay0] using h2) (SeqAt.canLay_of_shaped h1) (PyProof.Rows.room_in_shaped h1 hu) (q s.toks)
theorem oc_nin (hK : X.K = C.K) (hu : X.A.units + 65 < cLine) : OpR X (compareOp .NotIn) (rD C fun a b => (cop .nin a b).map .bool) := op_bool hK fun dx dy b e s v u as bs Q r1 r2 q => by
  cases dy <;> simp only [cop, reduceCtorEq] at e
  case list ds =>
    obtain ⟨k, e1, rfl⟩ := Option.map_eq_some_iff.mp e
    obtain ⟨h1, h2, rfl⟩ := memD_of e1
    exact SeqAt.notIn_list_reads r2 r1 (by simpa [PyData.canLay0] using h2) (SeqAt.canLay_of_shaped h1) (PyProof.Rows.room_in_shaped h1 hu) (q s.toks)
  case tuple ds =>
    obtain ⟨k, e1, rfl⟩ := Option.map_eq_some_iff.mp e
    obtain ⟨h1, h2, rfl⟩ := memD_of e1
    exact SeqAt.notIn_tuple_reads r2 r1 (by simpa [PyData.canLay0] using h2) (SeqAt.canLay_of_shaped h1) (PyProof.Rows.room_in_shaped h1 hu) (q s.toks)
theorem oc_is (hK : X.K = C.K) : OpR X (compareOp .Is) (rD C fun a b => (cop .is a b).map .bool) := by
  intro pins s σ H x y v u Q I rx ry q
  obtain ⟨pr, G, pt, dx, dy, d, s1, p1, bx, b2, e, k⟩ := q
  cases dx <;> cases dy <;> simp only [cop, reduceCtorEq, Option.map_none, Option.map_some, Option.some.injEq] at e
  cases bx.rp (fun _ => nofun)
  cases b2.rp (fun _ => nofun)
  subst e
  refine op_is_bl pins s σ H _ _ v u Q I rx ry ⟨_, _, rfl, rfl, k _ G H (.refl s1 p1) ?_⟩
  rw [Bool.beq_eq_decide_eq]
  exact .bl _
theorem oc_isnt (hK : X.K = C.K) : OpR X (compareOp .IsNot) (rD C fun a b => (cop .isnt a b).map .bool) := by
  intro pins s σ H x y v u Q I rx ry q
  obtain ⟨pr, G, pt, dx, dy, d, s1, p1, bx, b2, e, k⟩ := q
  cases dx <;> cases dy <;> simp only [cop, reduceCtorEq, Option.map_none, Option.map_some, Option.some.injEq] at e
  cases bx.rp (fun _ => nofun)
  cases b2.rp (fun _ => nofun)
  subst e
  refine op_isnot_bl pins s σ H _ _ v u Q I rx ry ⟨_, _, rfl, rfl, k _ G H (.refl s1 p1) ?_⟩
  rw [Bool.beq_eq_decide_eq]
  exact .bl _
end
end Mi

/-! MiFn: built-ins of one argument. -/
namespace Mi
open PySem L2
/-- a rule of one argument by data -/
def rC (C : Cn) (g : D → Option D) : List V → Hp → VK → Prop := fun vs H Q => ∃ x pr G pt dx d, vs = [x] ∧ Same G H ∧ PtR C pr G H pt ∧ Bp C pr G H x dx ∧ g dx = some d ∧ ∀ v G' H', Stp C pr G H G' H' pt → Fs C H G' H' v d → Q v H'
structure Ask1 (C : Cn) (dx d : D) (x : V) (H : Hp) (Q : VK) : Prop where
  ex : ∃ pr G pt, Same G H ∧ PtR C pr G H pt ∧ Bp C pr G H x dx ∧ ∀ v G' H', Stp C pr G H G' H' pt → Fs C H G' H' v d → Q v H'
section
variable {C : Cn} {X : Cx} {W : WX}
theorem CallR.imp {f : Value} {r r' : List V → Hp → VK → Prop} (h : CallR X f r) (i : ∀ vs H Q, r' vs H Q → r vs H Q) : CallR X f r' :=
  fun pins s σ H xs us Q I rx q => h pins s σ H xs us Q I rx (i _ _ _ q)
theorem call_cases {f : Value} {g : D → Option D} (h : ∀ dx d, g dx = some d → ∃ r : List V → Hp → VK → Prop, CallR X f r ∧ ∀ x H Q, Ask1 C dx d x H Q → r [x] H Q) : CallR X f (rC C g) := by
  intro pins s σ H vs us Q I rv q
  obtain ⟨x, pr, G, pt, dx, d, rfl, s1, p1, bx, e, k⟩ := q
  obtain ⟨r, hr, i⟩ := h dx d e
  exact hr pins s σ H [x] us Q I rv (i x H Q ⟨pr, G, pt, s1, p1, bx, k⟩)
theorem one {fa : Mn D} {g : D → Option D} {σ : St} {H : Hp} {Q : VK} (h : tFr C W (fun ρ p => (fa ρ p).bind fun x p => .lift (g x) p) σ H Q) : tCB (rC C g) (tCons (tBo C W fa) tNil) σ H Q := by
  obtain ⟨pr, fps, G, ρ, pt, R, q⟩ := h
  refine ⟨pr, fps, G, ρ, pt, R, (sat_bind q).mono (fun dx p1 q x G1 H1 s1 bx => ?_) fun _ _ q => q⟩
  obtain ⟨d, eg, q⟩ := sat_lift q
  exact ⟨x, pr, G1, p1, dx, d, rfl, s1.same, s1.pot, bx, eg, fun v G3 H3 s3 r => q v G3 H3 (s1.trans R.pot s3) (.back R.pot s1 r)⟩
/-- the answer is a flat value -/
theorem Ask1.put {dx d : D} {x v : V} {H : Hp} {Q : VK} (h : Ask1 C dx d x H Q) (r : ∀ G, Rp C.K G v d) (n : ∀ ds, d ≠ .list ds) : Q v H := by
  obtain ⟨pr, G, pt, s, p, bx, k⟩ := h.ex
  exact k v G H (.refl s p) (Fs.flat n (r G))
/-- the argument is a list -/
theorem Ask1.lst {ds : List D} {d : D} {x : V} {H : Hp} {Q : VK} (h : Ask1 C (.list ds) d x H Q) : ∃ p xs G, x = .ref p ∧ H p = some (.lst xs) ∧ RpL C.K G xs ds := by
  obtain ⟨pr, G, pt, s, p, bx, k⟩ := h.ex
  obtain ⟨a, xs, e, h1, l⟩ := bx.list s
  exact ⟨a, xs, G, e, h1, l⟩
theorem Ask1.tup {ds : List D} {d : D} {x : V} {H : Hp} {Q : VK} (h : Ask1 C (.tuple ds) d x H Q) : ∃ p xs G, x = .ref p ∧ SqT C.K H p xs ∧ RpL C.K G xs ds := by
  obtain ⟨pr, G, pt, s, p, bx, k⟩ := h.ex
  cases bx.rp (fun _ => nofun) with
  | tup h1 l => exact ⟨_, _, G, rfl, Same.sqT s h1, l⟩
/-- a new list -/
theorem Ask1.newL {dx : D} {ds : List D} {x : V} {H : Hp} {Q : VK} (h : Ask1 C dx (.list ds) x H Q) {p : Addr} {xs : List V} (np : H p = none) (hl : ∀ pr G, Same G H → Bp C pr G H x dx → RpL C.K G xs ds) : Q (.ref p) (upd H p (.lst xs)) := by
  obtain ⟨pr, G, pt, s, q, bx, k⟩ := h.ex
  exact k _ G _ (Stp.layH s q np) ⟨p, xs, rfl, np, s.free np, upd_same, hl pr G s bx⟩
theorem Ask1.newT {dx : D} {ds : List D} {x : V} {H : Hp} {Q : VK} (h : Ask1 C dx (.tuple ds) x H Q) {p : Addr} {xs : List V} (np : H p = none) (hl : ∀ pr G, Same G H → Bp C pr G H x dx → RpL C.K G xs ds) : Q (.ref p) (upd H p (.tup xs)) := by
  obtain ⟨pr, G, pt, s, q, bx, k⟩ := h.ex
  have gn : G p = none := s.free np
  exact k _ _ _ (Stp.lay s q np) (Rp.tup (SqT.of upd_same) ((hl pr G s bx).mono fun b u e => by rw [upd_ne (ne_of_none e gn)]; exact e))

theorem fd_len (hK : X.K = C.K) : CallR X (.builtin "len") (rC C (f1 .len)) := call_cases fun dx d e => by
  cases dx <;> simp only [f1, reduceCtorEq, Option.some.injEq] at e
  case list ds =>
    subst e
    refine ⟨_, call_len_seq, fun x H Q a => ?_⟩
    obtain ⟨p, xs, G, rfl, h, l⟩ := a.lst
    exact ⟨p, xs, rfl, .inl (SqL.of h), a.put (fun _ => by rw [l.length]; exact .int _) (fun _ => nofun)⟩
  case tuple ds =>
    subst e
    refine ⟨_, call_len_seq, fun x H Q a => ?_⟩
    obtain ⟨p, xs, G, rfl, h, l⟩ := a.tup
    exact ⟨p, xs, rfl, .inr (hK ▸ h), a.put (fun _ => by rw [l.length]; exact .int _) (fun _ => nofun)⟩
theorem sumI_eq : ∀ l : List Int, sumI l = l.sum
  | [] => rfl
  | x :: xs => by rw [sumI, sumI_eq xs, List.sum_cons]
theorem sum_tup {prog : Program} {w : World} {A : Around} {E : Value → Shared → Prop} {s : Shared} {t : Addr} {its : List Value} {ns : List Int} {Q : Value → Shared → Prop} (hh : A.handled = none) (ht : s.heap.IsTuple t its.toArray) (hi : PyProof.Rows.IntsAre its ns)
    (h : ∀ h' tk t', (∀ b o, s.heap.get? b = some o → h'.get? b = some o) → Q (.int ns.sum t') { s with heap := h', toks := tk }) : wpAny (model prog w) A (call (.builtin "sum") [.ref t]) Q E s := by
  refine call_sum_walkG (wpAny_pyIter_tuple ht ?_)
  obtain ⟨o, ho, hc⟩ := id ht
  have lt := Heap.lt_size ho
  have hT : (s.heap.push { cls := .type "tuple_iterator", data := .fields #[.ref t, .int 0 0] }).IsTuple t its.toArray := ht.push _
  refine ⟨_, _, _, _, _, _, fun i => ns.getD i 0, rfl, Walks.tuple (A := A.in1) hh _ t (Nat.ne_of_lt lt) its.toArray, ⟨⟨_, Heap.get?_push_size _ rfl, rfl, rfl⟩, hT⟩, fun c hc => ?_, fun i v hv => ?_, fun h' tk t' hk => ?_⟩
  · rw [Heap.size_push]
    rcases List.mem_cons.mp hc with rfl | hc
    · exact Nat.lt_succ_self _
    · rcases List.mem_cons.mp hc with rfl | hc
      · exact Nat.lt_succ_of_lt lt
      · cases hc
  · obtain ⟨n, t, e1, e2⟩ := PyProof.Rows.IntsAre.at hi i v (by simpa using hv)
    refine ⟨t, ?_⟩
    rw [e1]
    show Value.int n t = Value.int (ns.getD i 0) t
    rw [List.getD_eq_getElem?_getD, e2]
    rfl
  · have hl : its.length = ns.length := hi.length
    have e : preSum (fun i => ns.getD i 0) its.toArray.size = ns.sum := by
      rw [PyProof.Rows.preSum_getD, List.size_toArray, hl, List.take_length]
    rw [e]
    exact h h' tk t' fun b o q => hk b o (fun z => by
      have : b = s.heap.objs.size := by simpa using z
      exact absurd (Heap.lt_size q) (by rw [this]; exact Nat.lt_irrefl _)) (Heap.get?_push_of_some _ q)
theorem fd_sum (hK : X.K = C.K) (hc : X.calm = true) : CallR X (.builtin "sum") (rC C (f1 .sum)) := call_cases fun dx d e => by
  cases dx <;> simp only [f1, reduceCtorEq, Option.map_eq_some_iff] at e
  case list ds =>
    obtain ⟨l, e1, rfl⟩ := e
    refine ⟨_, cr_sum hc, fun x H Q a => ?_⟩
    obtain ⟨p, xs, G, rfl, h, r⟩ := a.lst
    have e2 := r.asInts e1
    subst e2
    exact ⟨p, l, rfl, SqL.of h, a.put (fun _ => by rw [sumI_eq]; exact .int _) (fun _ => nofun)⟩
  case tuple ds =>
    obtain ⟨l, e1, rfl⟩ := e
    refine ⟨fun vs H Q => ∃ p, vs = [.ref p] ∧ SqT C.K H p (l.map V.int) ∧ Q (.int l.sum) H, ?_, fun x H Q a => ?_⟩
    · intro pins s σ H vs us Q I r h
      obtain ⟨p, rfl, hs, q⟩ := h
      obtain ⟨its, rv, ht, _⟩ := I.tuple (hK ▸ hs)
      rw [Vals.ref1 r]
      exact sum_tup (I.ok.hd hc) ht (ints_of_vals rv) fun h' tk t' hk => ⟨.int _, H, I.kept hk, ⟨_, rfl⟩, q⟩
    · obtain ⟨p, xs, G, rfl, h, r⟩ := a.tup
      have e2 := r.asInts e1
      subst e2
      exact ⟨p, rfl, h, a.put (fun _ => by rw [sumI_eq]; exact .int _) (fun _ => nofun)⟩
theorem minI_spec : ∀ {l : List Int} {m : Int}, minI l = some m → m ∈ l ∧ ∀ y ∈ l, m ≤ y
  | [], m, h => by cases h
  | x :: xs, m, h => by
    unfold minI at h
    cases e : minI xs with
    | none =>
      rw [e] at h
      have hx : xs = [] := by
        cases xs with
        | nil => rfl
        | cons y ys =>
          unfold minI at e
          split at e <;> cases e
      subst hx
      cases h
      exact ⟨List.mem_cons_self, fun y hy => by simp at hy; omega⟩
    | some k =>
      rw [e] at h
      simp only [Option.some.injEq] at h
      obtain ⟨h1, h2⟩ := minI_spec e
      subst h
      split
      · refine ⟨List.mem_cons_self, fun y hy => ?_⟩
        rcases List.mem_cons.mp hy with rfl | hy
        · omega
        · have := h2 y hy; omega
      · refine ⟨List.mem_cons_of_mem _ h1, fun y hy => ?_⟩
        rcases List.mem_cons.mp hy with rfl | hy
        · omega
        · exact h2 y hy
theorem maxI_spec : ∀ {l : List Int} {m : Int}, maxI l = some m → m ∈ l ∧ ∀ y ∈ l, y ≤ m
  | [], m, h => by cases h
  | x :: xs, m, h => by
    unfold maxI at h
    cases e : maxI xs with
    | none =>
      rw [e] at h
      have hx : xs = [] := by
        cases xs with
        | nil => rfl
        | cons y ys =>
          unfold maxI at e
          split at e <;> cases e
      subst hx
      cases h
      exact ⟨List.mem_cons_self, fun y hy => by simp at hy; omega⟩
    | some k =>
      rw [e] at h
      simp only [Option.some.injEq] at h
      obtain ⟨h1, h2⟩ := maxI_spec e
      subst h
      split
      · refine ⟨List.mem_cons_self, fun y hy => ?_⟩
        rcases List.mem_cons.mp hy with rfl | hy
        · omega
        · have := h2 y hy; omega
      · refine ⟨List.mem_cons_of_mem _ h1, fun y hy => ?_⟩
        rcases List.mem_cons.mp hy with rfl | hy
        · omega
        · exact h2 y hy
theorem tup_iter {prog : Program} {w : World} {A : Around} {E : Value → Shared → Prop} {s : Shared} {t : Addr} {its : List Value} {Q : Value → Shared → Prop} (hh : A.handled = none) (ht : s.heap.IsTuple t its.toArray)
    (h : ∀ s2 : Shared, (∀ b o, s.heap.get? b = some o → s2.heap.get? b = some o) → s2 = { s with heap := s2.heap } → ∀ fp St, Walks prog w A s.heap.objs.size fp [s.heap.objs.size] its.toArray.size (fun i v => its.toArray[i]? = some v) St → St 0 s2.heap → (∀ b ∈ fp, b < s2.heap.objs.size) → Q (.ref s.heap.objs.size) s2) :
    wpAny (model prog w) A (pyIter (.ref t)) Q E s := by
  refine wpAny_pyIter_tuple ht ?_
  obtain ⟨o, ho, hc⟩ := id ht
  have lt := Heap.lt_size ho
  refine h _ (fun b o e => Heap.get?_push_of_some _ e) rfl _ _ (Walks.tuple (A := A) hh _ t (Nat.ne_of_lt lt) its.toArray) ⟨⟨_, Heap.get?_push_size _ rfl, rfl, rfl⟩, ht.push _⟩ fun c hc => ?_
  show c < Array.size _
  rw [Heap.size_push]
  rcases List.mem_cons.mp hc with rfl | hc
  · exact Nat.lt_succ_self _
  · rcases List.mem_cons.mp hc with rfl | hc
    · exact Nat.lt_succ_of_lt lt
    · cases hc
theorem numAt_mem {its : List Value} {ns : List Int} (hi : PyProof.Rows.IntsAre its ns) {i : Nat} {v : Value} (h : its.toArray[i]? = some v) : ∃ t, v = .int (ns.getD i 0) t := by
  obtain ⟨n, t, e1, e2⟩ := PyProof.Rows.IntsAre.at hi i v (by simpa using h)
  refine ⟨t, ?_⟩
  rw [e1, List.getD_eq_getElem?_getD, e2]
  rfl
theorem best_of {P : List Int → Int → Prop} {its : List Value} {ns : List Int} (hi : PyProof.Rows.IntsAre its ns) {i : Nat} {v : Value} (h : its.toArray[i]? = some v) : i < ns.length ∧ ∃ t, v = .int (ns.getD i 0) t := by
  have hl : its.length = ns.length := hi.length
  refine ⟨?_, numAt_mem hi h⟩
  obtain ⟨h1, _⟩ := Array.getElem?_eq_some_iff.mp h
  simpa [hl] using h1
theorem getD_in {ns : List Int} {i : Nat} (h : i < ns.length) : ns.getD i 0 ∈ ns := by
  rw [List.getD_eq_getElem?_getD, List.getElem?_eq_getElem h]
  exact List.getElem_mem h
theorem in_getD {ns : List Int} {y : Int} (h : y ∈ ns) : ∃ j, j < ns.length ∧ ns.getD j 0 = y := by
  obtain ⟨j, hj, e⟩ := List.getElem_of_mem h
  exact ⟨j, hj, by rw [List.getD_eq_getElem?_getD, List.getElem?_eq_getElem hj]; exact e⟩
theorem max_tup {prog : Program} {w : World} {A : Around} {E : Value → Shared → Prop} {s : Shared} {t : Addr} {its : List Value} {ns : List Int} {Q : Value → Shared → Prop} (hh : A.handled = none) (ht : s.heap.IsTuple t its.toArray) (hi : PyProof.Rows.IntsAre its ns) (hne : 0 < ns.length)
    (h : ∀ h' tk m t', (∀ b o, s.heap.get? b = some o → h'.get? b = some o) → m ∈ ns → (∀ y ∈ ns, y ≤ m) → Q (.int m t') { s with heap := h', toks := tk }) : wpAny (model prog w) A (call (.builtin "max") [.ref t]) Q E s := by
  have hl : its.length = ns.length := hi.length
  refine call_max_walk (tup_iter (A := A.in1) hh ht fun s2 k e2 fp St W st0 hfp => ?_)
  refine ⟨_, fp, _, _, _, St, _, rfl, W, st0, hfp, by rw [List.size_toArray, hl]; exact hne, CmpOf.ints_gt (fun i => ns.getD i 0) fun i v hv => numAt_mem hi hv, fun v h' tk hP hk => ?_⟩
  obtain ⟨h1, h2⟩ := argBest_gt (fun i => ns.getD i 0) (its.toArray.size - 1)
  obtain ⟨hb, t', rfl⟩ := best_of (P := fun _ _ => True) hi hP
  have k2 : ∀ b o, s.heap.get? b = some o → h'.get? b = some o := fun b o q => hk b o (fun z => by
    have : b = s.heap.objs.size := by simpa using z
    exact absurd (Heap.lt_size q) (by rw [this]; exact Nat.lt_irrefl _)) (k b o q)
  rw [e2]
  refine h h' tk _ t' k2 (getD_in hb) fun y hy => ?_
  obtain ⟨j, hj, rfl⟩ := in_getD hy
  exact h2 j (by rw [List.size_toArray, hl]; omega)
theorem min_tup {prog : Program} {w : World} {A : Around} {E : Value → Shared → Prop} {s : Shared} {t : Addr} {its : List Value} {ns : List Int} {Q : Value → Shared → Prop} (hh : A.handled = none) (ht : s.heap.IsTuple t its.toArray) (hi : PyProof.Rows.IntsAre its ns) (hne : 0 < ns.length)
    (h : ∀ h' tk m t', (∀ b o, s.heap.get? b = some o → h'.get? b = some o) → m ∈ ns → (∀ y ∈ ns, m ≤ y) → Q (.int m t') { s with heap := h', toks := tk }) : wpAny (model prog w) A (call (.builtin "min") [.ref t]) Q E s := by
  have hl : its.length = ns.length := hi.length
  refine call_min_walk (tup_iter (A := A.in1) hh ht fun s2 k e2 fp St W st0 hfp => ?_)
  refine ⟨_, fp, _, _, _, St, _, rfl, W, st0, hfp, by rw [List.size_toArray, hl]; exact hne, CmpOf.ints_lt (fun i => ns.getD i 0) fun i v hv => numAt_mem hi hv, fun v h' tk hP hk => ?_⟩
  obtain ⟨h1, h2⟩ := argBest_lt (fun i => ns.getD i 0) (its.toArray.size - 1)
  obtain ⟨hb, t', rfl⟩ := best_of (P := fun _ _ => True) hi hP
  have k2 : ∀ b o, s.heap.get? b = some o → h'.get? b = some o := fun b o q => hk b o (fun z => by
    have : b = s.heap.objs.size := by simpa using z
    exact absurd (Heap.lt_size q) (by rw [this]; exact Nat.lt_irrefl _)) (k b o q)
  rw [e2]
  refine h h' tk _ t' k2 (getD_in hb) fun y hy => ?_
  obtain ⟨j, hj, rfl⟩ := in_getD hy
  exact h2 j (by rw [List.size_toArray, hl]; omega)
theorem len_pos {l : List Int} {m : Int} (h : m ∈ l) : 0 < l.length := List.length_pos_of_mem h
theorem fd_max (hK : X.K = C.K) (hc : X.calm = true) : CallR X (.builtin "max") (rC C (f1 .max)) := call_cases fun dx d e => by
  cases dx <;> simp only [f1, reduceCtorEq, Option.map_eq_some_iff, Option.bind_eq_some_iff] at e
  case list ds =>
    obtain ⟨m, ⟨l, e1, e3⟩, rfl⟩ := e
    obtain ⟨h1, h2⟩ := maxI_spec e3
    refine ⟨_, cr_max hc, fun x H Q a => ?_⟩
    obtain ⟨p, xs, G, rfl, h, r⟩ := a.lst
    have e2 := r.asInts e1
    subst e2
    refine ⟨p, l, rfl, SqL.of h, len_pos h1, fun k k1 k2 => ?_⟩
    have : k = m := Int.le_antisymm (h2 k k1) (k2 m h1)
    subst this
    exact a.put (fun _ => .int _) (fun _ => nofun)
  case tuple ds =>
    obtain ⟨m, ⟨l, e1, e3⟩, rfl⟩ := e
    obtain ⟨h1, h2⟩ := maxI_spec e3
    refine ⟨fun vs H Q => ∃ p, vs = [.ref p] ∧ SqT C.K H p (l.map V.int) ∧ Q (.int m) H, ?_, fun x H Q a => ?_⟩
    · intro pins s σ H vs us Q I r h
      obtain ⟨p, rfl, hs, q⟩ := h
      obtain ⟨its, rv, ht, _⟩ := I.tuple (hK ▸ hs)
      rw [Vals.ref1 r]
      refine max_tup (I.ok.hd hc) ht (ints_of_vals rv) (len_pos h1) fun h' tk k t' hk k1 k2 => ⟨.int _, H, I.kept hk, ⟨_, rfl⟩, ?_⟩
      have : k = m := Int.le_antisymm (h2 k k1) (k2 m h1)
      rw [this]; exact q
    · obtain ⟨p, xs, G, rfl, h, r⟩ := a.tup
      have e2 := r.asInts e1
      subst e2
      exact ⟨p, rfl, h, a.put (fun _ => .int _) (fun _ => nofun)⟩
theorem fd_min (hK : X.K = C.K) (hc : X.calm = true) : CallR X (.builtin "min") (rC C (f1 .min)) := call_cases fun dx d e => by
  cases dx <;> simp only [f1, reduceCtorEq, Option.map_eq_some_iff, Option.bind_eq_some_iff] at e
  case list ds =>
    obtain ⟨m, ⟨l, e1, e3⟩, rfl⟩ := e
    obtain ⟨h1, h2⟩ := minI_spec e3
    refine ⟨_, cr_min hc, fun x H Q a => ?_⟩
    obtain ⟨p, xs, G, rfl, h, r⟩ := a.lst
    have e2 := r.asInts e1
    subst e2
    refine ⟨p, l, rfl, SqL.of h, len_pos h1, fun k k1 k2 => ?_⟩
    have : k = m := Int.le_antisymm (k2 m h1) (h2 k k1)
    subst this
    exact a.put (fun _ => .int _) (fun _ => nofun)
  case tuple ds =>
    obtain ⟨m, ⟨l, e1, e3⟩, rfl⟩ := e
    obtain ⟨h1, h2⟩ := minI_spec e3
    refine ⟨fun vs H Q => ∃ p, vs = [.ref p] ∧ SqT C.K H p (l.map V.int) ∧ Q (.int m) H, ?_, fun x H Q a => ?_⟩
    · intro pins s σ H vs us Q I r h
      obtain ⟨p, rfl, hs, q⟩ := h
      obtain ⟨its, rv, ht, _⟩ := I.tuple (hK ▸ hs)
      rw [Vals.ref1 r]
      refine min_tup (I.ok.hd hc) ht (ints_of_vals rv) (len_pos h1) fun h' tk k t' hk k1 k2 => ⟨.int _, H, I.kept hk, ⟨_, rfl⟩, ?_⟩
      have : k = m := Int.le_antisymm (k2 m h1) (h2 k k1)
      rw [this]; exact q
    · obtain ⟨p, xs, G, rfl, h, r⟩ := a.tup
      have e2 := r.asInts e1
      subst e2
      exact ⟨p, rfl, h, a.put (fun _ => .int _) (fun _ => nofun)⟩
theorem Ask1.bpl {dx d : D} {x : V} {H : Hp} {Q : VK} (h : Ask1 C dx d x H Q) : ∃ pr G, Same G H ∧ Bp C pr G H x dx := by
  obtain ⟨pr, G, pt, s, q, bx, k⟩ := h.ex
  exact ⟨pr, G, s, bx⟩
theorem bp_items {pr : Option Pr} {G H : Hp} {p : Addr} {xs : List V} {ds : List D} (s : Same G H) (h : H p = some (.lst xs)) (b : Bp C pr G H (.ref p) (.list ds)) : RpL C.K G xs ds := by
  obtain ⟨q, ys, e, h1, r⟩ := b.list s
  cases e
  rw [h] at h1
  cases h1
  exact r
theorem fd_tuple (hK : X.K = C.K) : CallR X (.type "tuple") (rC C (f1 .tuple)) := call_cases fun dx d e => by
  cases dx <;> simp only [f1, reduceCtorEq, Option.some.injEq] at e
  case list ds =>
    subst e
    refine ⟨_, call_tuple_of, fun x H Q a => ?_⟩
    obtain ⟨p, xs, G, rfl, h, l⟩ := a.lst
    exact ⟨p, xs, rfl, .inl ⟨SqL.of h, fun q nq => a.newT nq fun pr G s b => bp_items s h b⟩⟩
  case tuple ds =>
    subst e
    refine ⟨_, call_tuple_of, fun x H Q a => ?_⟩
    obtain ⟨p, xs, G, rfl, h, l⟩ := a.tup
    refine ⟨p, xs, rfl, .inr ⟨hK ▸ h, ?_⟩⟩
    obtain ⟨pr, G, pt, s, q, bx, k⟩ := a.ex
    exact k _ G H (.refl s q) (Fs.flat (fun _ => nofun) (bx.rp fun _ => nofun))
theorem fd_list (hK : X.K = C.K) : CallR X (.type "list") (rC C (f1 .list)) := call_cases fun dx d e => by
  cases dx <;> simp only [f1, reduceCtorEq, Option.some.injEq] at e
  case list ds =>
    subst e
    refine ⟨_, call_list_of, fun x H Q a => ?_⟩
    obtain ⟨p, xs, G, rfl, h, l⟩ := a.lst
    exact ⟨p, xs, rfl, .inl (SqL.of h), fun q nq => a.newL nq fun pr G s b => bp_items s h b⟩
  case tuple ds =>
    subst e
    refine ⟨fun vs H Q => ∃ p xs G, vs = [.ref p] ∧ SqT C.K H p xs ∧ RpL C.K G xs ds ∧ (∀ l, H l = none → Q (.ref l) (upd H l (.lst xs))), ?_, fun x H Q a => ?_⟩
    · exact CallR.imp call_list_of fun vs H Q ⟨p, xs, G, e, h, _, k⟩ => ⟨p, xs, e, .inr (hK ▸ h), k⟩
    · obtain ⟨pr, G, pt, s, q, bx, k⟩ := a.ex
      cases bx.rp (fun _ => nofun) with
      | tup h1 l =>
        exact ⟨_, _, G, rfl, Same.sqT s h1, l, fun p np => k _ G _ (Stp.layH s q np) ⟨p, _, rfl, np, s.free np, upd_same, l⟩⟩
theorem fd_int : CallR X (.type "int") (rC C (f1 .int)) := call_cases fun dx d e => by
  cases dx <;> simp only [f1, reduceCtorEq, Option.some.injEq] at e
  case int i =>
    subst e
    refine ⟨_, call_int1, fun x H Q a => ?_⟩
    obtain ⟨pr, G, s, bx⟩ := a.bpl
    cases bx.rp (fun _ => nofun)
    exact .inl ⟨i, rfl, a.put (fun _ => .int _) (fun _ => nofun)⟩
  case bool b =>
    subst e
    refine ⟨_, call_int1, fun x H Q a => ?_⟩
    obtain ⟨pr, G, s, bx⟩ := a.bpl
    cases bx.rp (fun _ => nofun)
    exact .inr ⟨b, rfl, a.put (fun _ => .int _) (fun _ => nofun)⟩
theorem fd_abs : CallR X (.builtin "abs") (rC C (f1 .abs)) := call_cases fun dx d e => by
  cases dx <;> simp only [f1, reduceCtorEq, Option.some.injEq] at e
  case int i =>
    subst e
    refine ⟨_, call_abs, fun x H Q a => ?_⟩
    obtain ⟨pr, G, s, bx⟩ := a.bpl
    cases bx.rp (fun _ => nofun)
    exact ⟨i, rfl, a.put (fun _ => .int _) (fun _ => nofun)⟩
theorem fd_all (hc : X.calm = true) : CallR X (.builtin "all") (rC C (f1 .all)) := call_cases fun dx d e => by
  cases dx <;> simp only [f1, reduceCtorEq, Option.map_eq_some_iff] at e
  case list ds =>
    obtain ⟨l, e1, rfl⟩ := e
    refine ⟨_, cr_all hc, fun x H Q a => ?_⟩
    obtain ⟨p, xs, G, rfl, h, r⟩ := a.lst
    have e2 := r.asBools e1
    subst e2
    exact ⟨p, l, rfl, SqL.of h, a.put (fun _ => .bl _) (fun _ => nofun)⟩
theorem fd_any (hc : X.calm = true) : CallR X (.builtin "any") (rC C (f1 .any)) := call_cases fun dx d e => by
  cases dx <;> simp only [f1, reduceCtorEq, Option.map_eq_some_iff] at e
  case list ds =>
    obtain ⟨l, e1, rfl⟩ := e
    refine ⟨_, cr_any hc, fun x H Q a => ?_⟩
    obtain ⟨p, xs, G, rfl, h, r⟩ := a.lst
    have e2 := r.asBools e1
    subst e2
    exact ⟨p, l, rfl, SqL.of h, a.put (fun _ => .bl _) (fun _ => nofun)⟩
mutual
theorem wD_ok : ∀ (d : D), wD d ≤ 16000000 → d.showable = true ∧ d.hasDict = false ∧ d.shown.length ≤ wD d
  | .none, _ => ⟨by simp [PyData.showable], by simp [PyData.hasDict], by simp only [PyData.shown, wD]; decide +kernel⟩
  | .bool b, _ => ⟨by simp [PyData.showable], by simp [PyData.hasDict], by cases b <;> (simp only [PyData.shown, wD]; decide +kernel)⟩
  | .int i, h => by
    by_cases hl : i.natAbs.log2 < 1920
    · refine ⟨by simp [PyData.showable, hl], by simp [PyData.hasDict], ?_⟩
      simp only [PyData.shown, wD, if_pos hl]
      have := int_text_length_le (a := i) (k := i.natAbs.log2 + 1) (by omega) (by omega)
      rw [ofString_length]
      exact Nat.le_succ_of_le this
    · simp only [wD, if_neg hl] at h
      omega
  | .str x, _ => ⟨by simp [PyData.showable], by simp [PyData.hasDict], by simp only [PyData.shown, wD]; exact Nat.le_refl _⟩
  | .list ds, h => by
    simp only [wD] at h
    obtain ⟨h1, h2, h3⟩ := wDs_ok ds (by omega)
    refine ⟨by simpa [PyData.showable] using h1, by simpa [PyData.hasDict] using h2, ?_⟩
    simp only [PyData.shown, wD]
    exact Nat.le_trans (listText_len_le _) (by omega)
  | .tuple ds, h => by
    simp only [wD] at h
    obtain ⟨h1, h2, h3⟩ := wDs_ok ds (by omega)
    refine ⟨by simpa [PyData.showable] using h1, by simpa [PyData.hasDict] using h2, ?_⟩
    simp only [PyData.shown, wD]
    exact Nat.le_trans (tupleText_len_le _) (by omega)
  | .dict _, h => by simp [wD] at h
theorem wDs_ok : ∀ (ds : List D), wDs ds ≤ 16000000 → PyData.showableAll ds = true ∧ PyData.hasDictAll ds = false ∧ ((PyData.shownAll ds).map (·.length)).sum + 2 * (PyData.shownAll ds).length ≤ wDs ds
  | [], _ => ⟨by simp [PyData.showableAll], by simp [PyData.hasDictAll], by simp [PyData.shownAll, wDs]⟩
  | d :: ds, h => by
    simp only [wDs] at h
    obtain ⟨a1, a2, a3⟩ := wD_ok d (by omega)
    obtain ⟨h1, h2, h3⟩ := wDs_ok ds (by omega)
    refine ⟨by simp [PyData.showableAll, a1, h1], by simp [PyData.hasDictAll, a2, h2], ?_⟩
    simp only [PyData.shownAll, wDs, List.map_cons, List.sum_cons, List.length_cons]
    omega
end
theorem repr_reads {prog : Program} {w : World} {A : Around} {E : Value → Shared → Prop} {s : Shared} {u : Value} {d : D} {as : List Addr} {Q : Value → Shared → Prop} (r : Reads s.heap u d as) (hl : lightD d = true) (hg : A.guards = some []) (hu : A.units + 100 < cLine)
    (h : ∀ h' tk t, (∀ b o, s.heap.get? b = some o → h'.get? b = some o) → Q (.str d.shown t) { s with heap := h', toks := tk }) : wpAny (model prog w) A (call (.builtin "repr") [u]) Q E s := by
  simp only [lightD, Bool.and_eq_true, decide_eq_true_eq] at hl
  obtain ⟨h1, h2, h3⟩ := wD_ok d hl.1
  have hz : d.shown.length ≤ sizeLine := Nat.le_trans h3 (Nat.le_trans hl.1 (by decide))
  have hs : d.hasDict = true → sysModules ∉ as := PyData.noDict_hsm h2
  have hd : A.units + (d.depth + 1) < cLine := by omega
  cases r with
  | none => simp only [PyData.shown] at h; exact PySem.P.repr_of_none (h s.heap _ _ fun _ _ e => e)
  | bool b => simp only [PyData.shown] at h; exact PySem.P.repr_of_bool (by cases b <;> exact h s.heap _ _ fun _ _ e => e)
  | int i t => simp only [PyData.shown] at h; exact PySem.P.repr_of_int (by simpa [PyData.showable] using h1) (h s.heap _ _ fun _ _ e => e)
  | str x t => simp only [PyData.shown] at h hz; exact PySem.P.repr_of_str (h s.heap _ _ fun _ _ e => e) hz
  | list a b c e => exact repr_of_reads' (.list a b c e) h1 hs hg hd (fun _ _ e => e) (fun h' u tk k => h h' tk u k) hz
  | tuple a b c e => exact repr_of_reads' (.tuple a b c e) h1 hs hg hd (fun _ _ e => e) (fun h' u tk k => h h' tk u k) hz
  | dict a b c e f => simp [PyData.hasDict] at h2
theorem fd_repr (hK : X.K = C.K) (hg : X.A.guards = some []) (hu : X.A.units + 100 < cLine) : CallR X (.builtin "repr") (rC C (f1 .repr)) := by
  intro pins s σ H vs us Q I rv q
  obtain ⟨x, pr, G, pt, dx, d, rfl, s1, p1, bx, e, k⟩ := q
  have e : (if lightD dx then some (PyData.str dx.shown) else none) = some d := by cases dx <;> exact e
  simp only [Option.ite_none_right_eq_some, Option.some.injEq] at e
  obtain ⟨hl, rfl⟩ := e
  cases rv with
  | cons r1 rn =>
    cases rn
    obtain ⟨as, r⟩ := bp_reads hK I s1 bx r1
    exact repr_reads r hl hg hu fun h' tk t hk => ⟨.str _, H, I.kept hk, ⟨_, rfl⟩, k _ G H (.refl s1 p1) (.str _)⟩
theorem intsAre_vals : ∀ {ns : List Int} {us : List Value}, Vals (ns.map V.int) us → PyProof.Rows.IntsAre us ns := fun {ns us} r => ints_of_vals r
/-! len(set(xs)) -/
theorem firstMet_count : ∀ (l : List Int), (l.foldl PyProof.Rows.step_dedup []).length = (dedI l).length := by
  have nd : ∀ (l : List Int), (dedI l).Nodup ∧ ∀ x, x ∈ dedI l ↔ x ∈ l := by
    intro l
    induction l with
    | nil => exact ⟨List.nodup_nil, fun x => Iff.rfl⟩
    | cons a l ih =>
      obtain ⟨h1, h2⟩ := ih
      refine ⟨?_, fun x => ?_⟩
      · simp only [dedI, List.nodup_cons]
        exact ⟨fun h => by simp at h, h1.filter _⟩
      · simp only [dedI, List.mem_cons, List.mem_filter, decide_eq_true_eq, h2]
        constructor
        · rintro (h | h)
          · exact .inl h
          · exact .inr h.1
        · rintro (h | h)
          · exact .inl h
          · by_cases e : x = a
            · exact .inl e
            · exact .inr ⟨h, e⟩
  have fd : ∀ (l acc : List Int), acc.Nodup → (l.foldl PyProof.Rows.step_dedup acc).Nodup ∧ ∀ x, x ∈ l.foldl PyProof.Rows.step_dedup acc ↔ x ∈ acc ∨ x ∈ l := by
    intro l
    induction l with
    | nil => intro acc h; exact ⟨h, fun x => by simp⟩
    | cons a l ih =>
      intro acc h
      have hs : (PyProof.Rows.step_dedup acc a).Nodup ∧ ∀ x, x ∈ PyProof.Rows.step_dedup acc a ↔ x ∈ acc ∨ x = a := by
        unfold PyProof.Rows.step_dedup
        by_cases c : acc.any (· == a) = true
        · rw [if_pos c]
          obtain ⟨y, hy, ey⟩ := List.any_eq_true.mp c
          have ey : y = a := eq_of_beq ey
          subst ey
          exact ⟨h, fun x => ⟨.inl, fun z => z.elim id fun z => z ▸ hy⟩⟩
        · rw [if_neg c]
          refine ⟨?_, fun x => by simp⟩
          rw [List.nodup_append]
          refine ⟨h, by simp, fun x hx y hy e => c ?_⟩
          have : y = a := by simpa using hy
          subst this
          subst e
          exact List.any_eq_true.mpr ⟨_, hx, by simp⟩
      obtain ⟨i1, i2⟩ := ih _ hs.1
      refine ⟨i1, fun x => ?_⟩
      rw [List.foldl_cons, i2 x, hs.2 x, List.mem_cons]
      constructor
      · rintro ((h | h) | h)
        · exact .inl h
        · exact .inr (.inl h)
        · exact .inr (.inr h)
      · rintro (h | h | h)
        · exact .inl (.inl h)
        · exact .inl (.inr h)
        · exact .inr h
  intro l
  obtain ⟨a1, a2⟩ := nd l
  obtain ⟨b1, b2⟩ := fd l [] List.nodup_nil
  have p1 : (dedI l).Perm (l.foldl PyProof.Rows.step_dedup []) := (List.perm_ext_iff_of_nodup a1 b1).mpr fun x => by rw [a2 x, b2 x]; simp
  exact p1.length_eq.symm
end
end Mi

/-! MiSort: sorted of a list or a tuple. -/
namespace Mi
open PySem L2 PyProof.Rows
section
variable {prog : Program} {w : World} {A : Around} {E : Value → Shared → Prop} {s : Shared}
theorem collect_tup {l : Addr} {vs : List Value} {Q : List Value → Shared → Prop} (ht : s.heap.IsTuple l vs.toArray) (hz : vs.length ≤ sizeLine)
    (h : Q vs { s with heap := (s.heap.push (seqObj "list" #[] 0)).update s.heap.objs.size (Obj.mapSeq (· ++ vs.toArray)) }) : wpAny (model prog w) A (collect (.ref l)) Q E s := by
  obtain ⟨o, ho, hc, n, hd⟩ := id ht
  have hn : (s.heap.push (seqObj "list" #[] 0)).get? s.heap.objs.size = some (seqObj "list" #[] 0) := Heap.get?_push_size _ rfl
  have ho' : (s.heap.push (seqObj "list" #[] 0)).get? l = some o := Heap.get?_push_of_some _ ho
  unfold collect
  refine wpAny_bind (wpAny_runValue (codeAny_builtin entry_proto_collect' (wpAny_bind (wpAny_newList (wpAny_pure ⟨Code.quiet_builtin _ (by decide +kernel), codeAny_builtin entry_list_iadd' ?_⟩)))))
  show wpAny _ _ (Builtin.List.listExtendWith (.ref s.heap.objs.size) (.ref l) (.ref s.heap.objs.size)) _ _ ⟨s.heap.push (seqObj "list" #[] 0), s.gens, s.drawn, s.toks, s.os⟩
  unfold Builtin.List.listExtendWith
  refine wpAny_bind (wpAny_typeOf (T := "tuple") ⟨o, ho', hc⟩ ?_)
  rw [if_pos (by rw [show (Value.type "tuple" == Value.type "tuple") = true from rfl, Bool.or_true])]
  refine wpAny_bind (listItems_at ho' hd (wpAny_bind (listItems_at hn rfl ?_)))
  rw [if_neg (by simp)]
  refine wpAny_bind (listUpdate_at hn rfl (wpAny_pure ?_) (Nat.zero_le _) (by show (#[] ++ vs.toArray).size ≤ sizeLine + 1; rw [Array.empty_append, List.size_toArray]; omega))
  refine wpAny_bind (wpAny_load (get?_update_seq hn _) ?_)
  have e : ((#[] : Array Value) ++ vs.toArray).toList = vs := by rw [Array.empty_append]
  show wpAny _ _ (pure ((#[] : Array Value) ++ vs.toArray).toList) Q E _
  rw [e]
  exact wpAny_pure h
theorem sorted_of_tup {l : Addr} {vs : List Value} {Q : Value → Shared → Prop} (ht : s.heap.IsTuple l vs.toArray) (hz : vs.length ≤ sizeLine)
    (body : ∀ E' : Value → Shared → Prop, wpAny (model prog w) A.in1.in1 (Builtin.«list.sort» ⟨[.ref (s.heap.objs.size + 1)], []⟩) (fun f s' => f = .done (.ret .none) ∧ Q (.ref (s.heap.objs.size + 1)) s') E' { s with heap := PySem.W.copyHeap s.heap vs }) :
    wpAny (model prog w) A (call (.builtin "sorted") [.ref l]) Q E s := by
  refine Calls.call_function_entry kind_sorted plain_sorted entry_sorted (args_sorted1 _) ?_
  unfold Builtin.«sorted»
  have hsz : ((s.heap.push (seqObj "list" #[] 0)).update s.heap.objs.size (Obj.mapSeq (· ++ vs.toArray))).objs.size = s.heap.objs.size + 1 := (Heap.size_update ..).trans (size_push' ..)
  refine wpAny_bind (m := checkCount "sorted" 1 1 _) (wpAny_pure (wpAny_bind (collect_tup ht hz (wpAny_bind (wpAny_newList ?_ hz)))))
  show wpAny _ _ _ _ _ (⟨PySem.W.copyHeap s.heap vs, s.gens, s.drawn, s.toks, s.os⟩ : Shared)
  rw [hsz]
  refine wpAny_bind (wpAny_holding (wpAny_call_entry_kw slot_list_sort ⟨_, PySem.W.copyHeap_at s.heap vs, rfl⟩ entry_list_sort ?_ (args_list_sort _)))
  refine wpAny_mono (body _) (fun f s' hf => ?_) fun _ _ e => e
  obtain ⟨rfl, hq⟩ := hf
  exact ⟨_, rfl, wpAny_pure ⟨_, rfl, hq⟩⟩
theorem sorted_data_tup {β : Type} {vs : List Value} {bs : List β} {enc : β → PyData} {R : Value → β → Prop} {l : Addr} {Q : Value → Shared → Prop} (hl : s.heap.IsTuple l vs.toArray) (e : PySem.W.EachIs R vs bs) (er : PySem.W.EachIs (fun v b => ∃ as, Reads s.heap v (enc b) as) vs bs)
    (hal : PySem.W.AllAlike (bs.map enc)) (hk : PySem.W.Sortable (bs.map enc)) (hL : bs.length ≤ sizeLine) (hu : ∀ b, b ∈ bs → A.units + 2 + (enc b).depth < cLine)
    (h : ∀ out, out.length = bs.length → PySem.W.EachIs R out (bs.mergeSort (PySem.W.dataLe false enc)) → Q (.ref (s.heap.objs.size + 1)) { s with heap := sortedAll s.heap vs (List.toArray out) }) :
    wpAny (model prog w) A (call (.builtin "sorted") [.ref l]) Q E s := by
  have hvs : vs.length ≤ sizeLine := by rw [e.length]; exact hL
  have er' : PySem.W.EachIs (fun v b => ∃ as, Reads (PySem.W.sortingHeap (PySem.W.copyHeap s.heap vs) (s.heap.objs.size + 1) vs) v (enc b) as) vs bs := er.mono fun _ _ ⟨as, r⟩ => ⟨as, PyProof.Rows.Reads.keeps (fun _ _ => PySem.W.sorting_copy_old) r⟩
  refine sorted_of_tup hl hvs fun _ => PySem.W.list_sort_vals (s := { s with heap := PySem.W.copyHeap s.heap vs }) (PySem.W.copyHeap_at s.heap vs) (PySem.W.SortsAt.data (s := { s with heap := PySem.W.sortingHeap (PySem.W.copyHeap s.heap vs) (s.heap.objs.size + 1) vs })
    (PySem.W.each_map (R := fun v d => ∃ as, Reads (PySem.W.sortingHeap (PySem.W.copyHeap s.heap vs) (s.heap.objs.size + 1) vs) v d as) enc er') hal hk (PySem.W.bound_map hu)) hvs ⟨rfl, ?_⟩
  exact h _ ((PySem.W.sortVals_length false rfl).trans e.length) (PySem.W.sortVals_data false e er' hal)
end
theorem insI_perm (x : Int) : ∀ l : List Int, (insI x l).Perm (x :: l)
  | [] => .refl _
  | y :: ys => by
    unfold insI
    split
    · exact .refl _
    · exact ((insI_perm x ys).cons y).trans (.swap x y ys)
theorem sortI_perm : ∀ l : List Int, (sortI l).Perm l
  | [] => .refl _
  | x :: xs => (insI_perm x (sortI xs)).trans ((sortI_perm xs).cons x)
theorem insI_sorted (x : Int) : ∀ l : List Int, l.Pairwise (· ≤ ·) → (insI x l).Pairwise (· ≤ ·)
  | [], _ => by simp [insI]
  | y :: ys, h => by
    unfold insI
    rw [List.pairwise_cons] at h
    split
    · rename_i hxy
      rw [List.pairwise_cons, List.pairwise_cons]
      refine ⟨fun z hz => ?_, h⟩
      rcases List.mem_cons.mp hz with rfl | hz
      · exact hxy
      · exact Int.le_trans hxy (h.1 z hz)
    · rename_i hxy
      rw [List.pairwise_cons]
      refine ⟨fun z hz => ?_, insI_sorted x ys h.2⟩
      have hz' := (insI_perm x ys).mem_iff.mp hz
      rcases List.mem_cons.mp hz' with rfl | hz'
      · omega
      · exact h.1 z hz'
theorem sortI_sorted : ∀ l : List Int, (sortI l).Pairwise (· ≤ ·)
  | [] => .nil
  | x :: xs => insI_sorted x _ (sortI_sorted xs)
theorem ints_sort (l : List Int) : (l.map PyData.int).mergeSort (PySem.W.dataLe false id) = (sortI l).map PyData.int := by
  have e1 : (l.mergeSort (fun a b => decide (a ≤ b))).map PyData.int = (l.map PyData.int).mergeSort (PySem.W.dataLe false id) :=
    PySem.W.sort_maps PyData.int fun a _ b _ => (congrFun (congrFun (PySem.W.dataLe_int fun i : Int => i) a) b).symm
  rw [← e1]
  congr 1
  refine PySem.W.ksm_same (((List.mergeSort_perm l _)).trans (sortI_perm l).symm) ?_ (sortI_sorted l)
  have h := List.pairwise_mergeSort (le := fun a b : Int => decide (a ≤ b)) (fun a b c h1 h2 => by simp only [decide_eq_true_eq] at *; omega) (fun a b => by simp only [Bool.or_eq_true, decide_eq_true_eq]; omega) l
  exact h.imp fun h => by simpa using h
section
variable {C : Cn} {X : Cx}
theorem each_vals : ∀ {xs : List V} {us : List Value} {ds : List D}, Vals xs us → xs.length = ds.length → PySem.W.EachIs (fun v (b : D × V) => RelV b.2 v) us (ds.zip xs)
  | _, _, [], .nil, _ => .nil
  | _, _, d :: ds, .cons r t, h => .cons r (each_vals t (by simpa using h))
theorem each_reads {h : Heap} : ∀ {us : List Value} {ds : List D} {xs : List V} {as : List Addr}, ReadsAll h us ds as → xs.length = ds.length → PySem.W.EachIs (fun v (b : D × V) => ∃ as, Reads h v b.1 as) us (ds.zip xs)
  | _, [], [], _, .nil, _ => .nil
  | _, d :: ds, x :: xs, _, .cons r t, h => .cons ⟨_, r⟩ (each_reads t (by simpa using h))
theorem vals_each : ∀ {out : List Value} {bs : List (D × V)}, PySem.W.EachIs (fun v (b : D × V) => RelV b.2 v) out bs → Vals (bs.map Prod.snd) out
  | _, _, .nil => .nil
  | _, _, .cons r t => .cons r (vals_each t)
theorem rpl_pairs {K : PySem.W.Frag} {G : Hp} : ∀ {bs : List (D × V)}, (∀ b ∈ bs, Rp K G b.2 b.1) → RpL K G (bs.map Prod.snd) (bs.map Prod.fst)
  | [], _ => .nil
  | b :: bs, h => .cons (h b List.mem_cons_self) (rpl_pairs fun c hc => h c (List.mem_cons_of_mem _ hc))
theorem pairs_rpl {K : PySem.W.Frag} {G : Hp} : ∀ {xs : List V} {ds : List D}, RpL K G xs ds → ∀ b ∈ ds.zip xs, Rp K G b.2 b.1
  | _, _, .nil, b, h => by simp at h
  | _, _, .cons r t, b, h => by
    rcases List.mem_cons.mp h with rfl | h
    · exact r
    · exact pairs_rpl t b h
theorem asInts_of : ∀ {ds : List D} {l : List Int}, asInts ds = some l → ∀ d ∈ ds, ∃ i, d = .int i := fun {ds l} h d hd => by
  rw [asInts_eq h] at hd
  obtain ⟨i, _, rfl⟩ := List.mem_map.mp hd
  exact ⟨i, rfl⟩
theorem sortD_ok {ds es : List D} (h : sortD ds = some es) : ds.length ≤ lim ∧ PySem.W.AllAlike ds ∧ PySem.W.Sortable ds ∧ (∀ d ∈ ds, d.depth ≤ 40) ∧ ds.mergeSort (PySem.W.dataLe false id) = es := by
  unfold sortD at h
  simp only [Option.ite_none_right_eq_some] at h
  obtain ⟨hz, h⟩ := h
  cases e : asInts ds with
  | some l =>
    rw [e] at h
    simp only [Option.some.injEq] at h
    have he := asInts_eq e
    refine ⟨hz, fun d hd d' hd' => ?_, .inr fun d hd => ?_, fun d hd => ?_, by rw [he, ints_sort, h]⟩
    · obtain ⟨i, rfl⟩ := asInts_of e d hd
      obtain ⟨j, rfl⟩ := asInts_of e d' hd'
      simp [PySem.W.alike]
    · obtain ⟨i, rfl⟩ := asInts_of e d hd
      exact ⟨nofun, nofun⟩
    · obtain ⟨i, rfl⟩ := asInts_of e d hd
      simp [PyData.depth]
  | none =>
    rw [e] at h
    simp only [Option.ite_none_right_eq_some, Option.some.injEq] at h
    obtain ⟨hs, h⟩ := h
    simp only [srtOk, Bool.and_eq_true, List.all_eq_true, decide_eq_true_eq] at hs
    refine ⟨hz, fun d hd d' hd' => (hs.2 d hd).2 d' hd', .inl fun d hd => ?_, fun d hd => (hs.2 d hd).1, h⟩
    have := hs.1 d hd
    cases d <;> try (simp [isTup1] at this)
    rename_i l
    cases l with
    | nil => simp [isTup1] at this
    | cons x r => exact ⟨x, r, rfl⟩
/-- behind the sort -/
theorem sorted_end {pins : List (Addr × Obj)} {s : Shared} {σ : L2.St} {H : Hp} {Q : VK} {x : V} {dx : D} {ds es : List D} {xs : List V} {its out : List Value} (I : L2.Inv X pins σ H s) (a : Ask1 C dx (.list es) x H Q)
    (hr : ∀ pr G, Same G H → Bp C pr G H x dx → RpL C.K G xs ds) (hl : xs.length = ds.length) (hs : ds.mergeSort (PySem.W.dataLe false id) = es) (hz : ds.length ≤ lim)
    (ho : PySem.W.EachIs (fun v (b : D × V) => RelV b.2 v) out ((ds.zip xs).mergeSort (PySem.W.dataLe false Prod.fst))) :
    EP X pins σ Q (.ref (s.heap.objs.size + 1)) { s with heap := sortedAll s.heap its out.toArray } := by
  have np : H (s.heap.objs.size + 1) = none := I.hok.fresh (Nat.le_succ _)
  obtain ⟨c, he⟩ := sortedAll_at s.heap its out.toArray
  have hv := vals_each ho
  have hp := List.mergeSort_perm (ds.zip xs) (PySem.W.dataLe false Prod.fst)
  have e1 : ((ds.zip xs).mergeSort (PySem.W.dataLe false Prod.fst)).map Prod.fst = es := by
    have e2 := PySem.W.sort_maps (r := PySem.W.dataLe false Prod.fst) (s := PySem.W.dataLe false id) (Prod.fst : D × V → D) (l := ds.zip xs) (fun _ _ _ _ => rfl)
    rw [e2, List.map_fst_zip (by omega)]
    exact hs
  have hlen : (((ds.zip xs).mergeSort (PySem.W.dataLe false Prod.fst)).map Prod.snd).length ≤ sizeLine := by
    rw [List.length_map, hp.length_eq, List.length_zip]
    have : min ds.length xs.length ≤ ds.length := Nat.min_le_left _ _
    exact Nat.le_trans this (Nat.le_trans hz lim_line)
  refine ⟨.ref (s.heap.objs.size + 1), upd H (s.heap.objs.size + 1) (.lst (((ds.zip xs).mergeSort (PySem.W.dataLe false Prod.fst)).map Prod.snd)), I.laid (t' := s.toks) (fun b u q => sortedAll_old q) (Nat.le_succ _) ⟨hlen, out, c, hv, he⟩, rfl, a.newL np fun pr G s1 b => ?_⟩
  have := rpl_pairs (bs := (ds.zip xs).mergeSort (PySem.W.dataLe false Prod.fst)) fun c hc => pairs_rpl (hr pr G s1 b) c (hp.mem_iff.mp hc)
  rw [e1] at this
  exact this
theorem fd_sorted (hK : X.K = C.K) (hu : X.A.units + 100 < cLine) : CallR X (.builtin "sorted") (rC C (f1 .sorted)) := by
  intro pins s σ H vs us Q I rv q
  obtain ⟨x, pr, G, pt, dx, d, rfl, s1, p1, bx, e, k⟩ := q
  have ask : Ask1 C dx d x H Q := ⟨pr, G, pt, s1, p1, bx, k⟩
  cases dx <;> simp only [f1, reduceCtorEq, Option.map_eq_some_iff] at e
  case list ds =>
    obtain ⟨es, e1, rfl⟩ := e
    obtain ⟨hz, hal, hk, hd, hs⟩ := sortD_ok e1
    obtain ⟨p, xs, rfl, h, l⟩ := bx.list s1
    obtain ⟨its, rv2, hl, _⟩ := I.list (SqL.of h)
    rw [Vals.ref1 rv]
    obtain ⟨as, rr⟩ := rpl_reads I (hK ▸ l.mono s1) rv2
    have hll := l.length
    refine PySem.W.sorted_data (bs := ds.zip xs) (enc := Prod.fst) (R := fun v b => RelV b.2 v) hl.isList (each_vals rv2 hll) (each_reads rr hll) (by rw [List.map_fst_zip (by omega)]; exact hal) (by rw [List.map_fst_zip (by omega)]; exact hk)
      (by rw [List.length_zip]; exact Nat.le_trans (Nat.min_le_left _ _) (Nat.le_trans hz lim_line)) (fun b hb => ?_) fun out _ ho => sorted_end I ask (fun pr G s2 b2 => bp_items s2 h b2) hll hs hz ho
    have := hd b.1 (List.of_mem_zip hb).1
    omega
  case tuple ds =>
    obtain ⟨es, e1, rfl⟩ := e
    obtain ⟨hz, hal, hk, hd, hs⟩ := sortD_ok e1
    have rp := bx.rp (fun _ => nofun)
    cases rp with
    | tup h l =>
      rename_i p xs
      have h' := Same.sqT s1 h
      obtain ⟨its, rv2, hl, _⟩ := I.tuple (hK ▸ h')
      rw [Vals.ref1 rv]
      obtain ⟨as, rr⟩ := rpl_reads I (hK ▸ l.mono s1) rv2
      have hll := l.length
      refine sorted_data_tup (bs := ds.zip xs) (enc := Prod.fst) (R := fun v b => RelV b.2 v) hl (each_vals rv2 hll) (each_reads rr hll) (by rw [List.map_fst_zip (by omega)]; exact hal) (by rw [List.map_fst_zip (by omega)]; exact hk)
        (by rw [List.length_zip]; exact Nat.le_trans (Nat.min_le_left _ _) (Nat.le_trans hz lim_line)) (fun b hb => ?_) fun out _ ho => ?_
      · have := hd b.1 (List.of_mem_zip hb).1
        omega
      · refine sorted_end I ⟨pr, G, pt, s1, p1, bx, k⟩ (fun pr2 G2 s2 b2 => ?_) hll hs hz ho
        cases b2.rp (fun _ => nofun) with
        | tup h2 l2 =>
          have := I.tuple_inj (hK ▸ h') (hK ▸ Same.sqT s2 h2)
          rw [this]
          exact l2
end
end Mi

/-! MiIter: what a loop walks. -/
namespace Mi
open PySem L2
/-- J yields ds, as long as the ground stands -/
def YlS (C : Cn) (pr : Option Pr) (J : L2.It) (ds : List D) (G0 : Hp) : Prop := ∀ G H pt, Same G0 G → Same G H → PtR C pr G H pt → ∀ i : Nat, (i = ds.length → J.stop i H) ∧
  ∀ d, ds[i]? = some d → J.go i H ∧ ∀ x H', J.yld i H x H' → ∃ G', Stp C pr G H G' H' pt ∧ Rp C.K G' x d
/-- J yields ds, as long as steps are made -/
def Yl (C : Cn) (pr : Option Pr) (J : L2.It) (ds : List D) (G0 H0 : Hp) : Prop := ∀ G H pt, Stp C pr G0 H0 G H pt → ∀ i : Nat, (i = ds.length → J.stop i H) ∧
  ∀ d, ds[i]? = some d → J.go i H ∧ ∀ x H', J.yld i H x H' → ∃ G', Stp C pr G H G' H' pt ∧ Rp C.K G' x d
theorem YlS.yl {C : Cn} {pr : Option Pr} {J : L2.It} {ds : List D} {G0 H0 : Hp} (h : YlS C pr J ds G0) : Yl C pr J ds G0 H0 := fun G H pt s => h G H pt s.sG s.same s.pot
def tI (C : Cn) (W : WX) (f : Mn (List D)) : L2.TI := fun σ H R => ∃ pr fps G ρ pt, Rel C pr fps G H σ ρ pt ∧ (f ρ pt).sat (fun ds pt' => ∀ J G' H', Stp C pr G H G' H' pt' → YlS C pr J ds G' → R J H') (erW C W pr G H σ)
def tIB (C : Cn) (W : WX) (f : Mn (List D)) : L2.TI := fun σ H R => ∃ pr fps G ρ pt, Rel C pr fps G H σ ρ pt ∧ (f ρ pt).sat (fun ds pt' => ∀ J G' H', Stp C pr G H G' H' pt' → Yl C pr J ds G' H' → R J H') (erW C W pr G H σ)
theorem PI.imp {X : Cx} {tg e : Expr} {t t' : L2.TI} (h : PI X tg e t) (i : ∀ σ H R, t' σ H R → t σ H R) : PI X tg e t' := ⟨fun pins s σ H R I q => h.run pins s σ H R I (i σ H R q)⟩
/-- iter(v), by values -/
def ItR (X : Cx) (tg : Expr) (r : V → Hp → (L2.It → Hp → Prop) → Prop) : Prop := ∀ (pins : List (Addr × Obj)) (s : Shared) (σ : L2.St) (H : Hp) (x : V) (v : Value) (R : L2.It → Hp → Prop), L2.Inv X pins σ H s → RelV x v → r x H R →
  wpAny (model X.prog X.w) X.A (pyIter v) (PIE X pins σ tg R) X.xe s
section
variable {C : Cn} {X : Cx} {W : WX} {tg : Expr}
theorem it_list : ItR X tg (fun x H R => ∃ a xs, x = .ref a ∧ SqL X.K H a xs ∧ R (Itl X.K a) H) := by
  rintro pins s σ H x v R I r ⟨a, xs, rfl, hq, q⟩
  obtain rfl : v = Value.ref a := r
  obtain ⟨its, rv, p, hz⟩ := I.list hq
  have np : H s.heap.objs.size = none := I.hok.fresh (Nat.le_refl _)
  exact wpAny_pyIter_list p.isList ⟨_, [s.heap.objs.size], _, _, H, rfl, I.kept (t' := s.toks) (fun b o e => Heap.get?_push_of_some _ e), turn_list a _, ⟨_, Heap.get?_push_size _ rfl, rfl, rfl⟩,
    fun b hb => (List.mem_singleton.mp hb) ▸ I.fpOk (Nat.le_refl _) np, q⟩
theorem it_tup : ItR X tg (fun x H R => ∃ a xs, x = .ref a ∧ SqT X.K H a xs ∧ R (Itt X.K a) H) := by
  rintro pins s σ H x v R I r ⟨a, xs, rfl, hq, q⟩
  obtain rfl : v = Value.ref a := r
  obtain ⟨its, rv, p, hz⟩ := I.tuple hq
  have np : H s.heap.objs.size = none := I.hok.fresh (Nat.le_refl _)
  exact wpAny_pyIter_tuple (show s.heap.IsTuple a its.toArray from p) ⟨_, [s.heap.objs.size], _, _, H, rfl, I.kept (t' := s.toks) (fun b o e => Heap.get?_push_of_some _ e), turn_tuple a _, ⟨_, Heap.get?_push_size _ rfl, rfl, rfl⟩,
    fun b hb => (List.mem_singleton.mp hb) ▸ I.fpOk (Nat.le_refl _) np, q⟩
/-! ### what is known of a walked list, tuple -/
theorem sqL_frz {K : PySem.W.Frag} {H : Hp} {a : Addr} {xs ys : List V} (h : H a = some (.lst xs)) (q : Rd H a (.lst ys)) : ys = xs := by
  rcases q with q | ⟨o, q⟩
  · rw [h] at q; cases q; rfl
  · rw [h] at q; cases q
/-! a list or a tuple -/
inductive Sk where
  | l
  | t
def SqX (K : PySem.W.Frag) (H : Hp) : Sk → Addr → List V → Prop
  | .l, a, xs => SqL K H a xs
  | .t, a, xs => SqT K H a xs
def ItAt (h : Heap) : Sk → Addr → Addr → Nat → Prop
  | .l, it, a, i => h.IsListIter it a i
  | .t, it, a, i => h.IsTupleIter it a i
def SqAt (h : Heap) : Sk → Addr → Array Value → Prop
  | .l, a, items => h.IsList a items
  | .t, a, items => h.IsTuple a items
def itO : Sk → Addr → Obj
  | .l, a => { cls := .type "list_iterator", data := .fields #[.ref a, .int 0 0] }
  | .t, a => { cls := .type "tuple_iterator", data := .fields #[.ref a, .int 0 0] }
theorem drawsX {prog : Program} {w : World} {A : Around} (hh : A.handled = none) (k : Sk) (it a : Addr) (hne : a ≠ it) (items : Array Value) :
    Draws prog w A it [it, a] items.size (fun i v => items[i]? = some v) (fun i h => ItAt h k it a i ∧ SqAt h k a items) := by
  cases k with
  | l => exact Draws.list hh it a hne items
  | t => exact Draws.tuple hh it a hne items
theorem beginsX (k : Sk) (a : Addr) (items : Array Value) : Begins (.ref a) (itO k a) fun h => SqAt h k a items := by
  cases k with
  | l => exact begins_list a items
  | t => exact begins_tuple a items
theorem itX_new {h : Heap} {k : Sk} {it a : Addr} (e : h.get? it = some (itO k a)) : ItAt h k it a 0 := by
  cases k with
  | l => exact ⟨_, e, rfl, rfl⟩
  | t => exact ⟨_, e, rfl, rfl⟩
theorem itX_obj {h : Heap} {k : Sk} {it a : Addr} {i : Nat} (e : ItAt h k it a i) : ∃ o, h.get? it = some o ∧ ∀ v, o.data ≠ .cell v := by
  cases k with
  | l => obtain ⟨o, e, c, d⟩ := e; exact ⟨o, e, fun v z => by rw [d] at z; cases z⟩
  | t => obtain ⟨o, e, c, d⟩ := e; exact ⟨o, e, fun v z => by rw [d] at z; cases z⟩
theorem itX_at {h h' : Heap} {k : Sk} {it a : Addr} {i : Nat} (e : ItAt h k it a i) (f : ∀ o, h.get? it = some o → h'.get? it = some o) : ItAt h' k it a i := by
  cases k with
  | l => exact Heap.IsListIter.at e f
  | t => exact Heap.IsTupleIter.at e f
section
variable {pins : List (Addr × Obj)} {σ : L2.St} {H : Hp} {s : Shared} {k : Sk} {a : Addr} {xs ys : List V}
theorem inv_seq (I : L2.Inv X pins σ H s) (h : SqX X.K H k a xs) : ∃ its : List Value, Vals xs its ∧ SqAt s.heap k a its.toArray ∧ xs.length ≤ sizeLine := by
  cases k with
  | l => obtain ⟨its, r, p, z⟩ := I.list h; exact ⟨its, r, p.isList, z⟩
  | t => obtain ⟨its, r, p, z⟩ := I.tuple h; exact ⟨its, r, p, z⟩
theorem inv_inj (I : L2.Inv X pins σ H s) (h : SqX X.K H k a xs) (h' : SqX X.K H k a ys) : xs = ys := by
  cases k with
  | l => exact I.list_inj h h'
  | t => exact I.tuple_inj h h'
theorem seq_lt {h : Heap} {items : Array Value} (e : SqAt h k a items) : a < h.objs.size := by
  cases k with
  | l => obtain ⟨o, ho, _⟩ := e; exact Heap.lt_size ho
  | t => obtain ⟨o, ho, _⟩ := e; exact Heap.lt_size ho
end
theorem seq_ne {h : Heap} {k : Sk} {it a : Addr} {i : Nat} {items : Array Value} (p : SqAt h k a items) (e : ItAt h k it a i) : a ≠ it := by
  rintro rfl
  cases k with
  | l =>
    obtain ⟨o, ho, hc, _⟩ := p
    obtain ⟨o', ho', hc', _⟩ := e
    rw [ho] at ho'; cases ho'
    rw [hc] at hc'
    exact absurd hc' (by decide)
  | t =>
    obtain ⟨o, ho, hc, _⟩ := p
    obtain ⟨o', ho', hc', _⟩ := e
    rw [ho] at ho'; cases ho'
    rw [hc] at hc'
    exact absurd hc' (by decide)
/-! ### zip of two, lists or tuples -/
def ItZ (K : PySem.W.Frag) (k1 k2 : Sk) (a b : Addr) : L2.It :=
  ⟨fun i H => ∃ (xs ys : List V) (x y : V), SqX K H k1 a xs ∧ SqX K H k2 b ys ∧ xs[i]? = some x ∧ ys[i]? = some y,
    fun i H v H' => ∃ T x y, v = .ref T ∧ H T = none ∧ H' = upd H T (.tup [x, y]) ∧ (∀ xs, SqX K H k1 a xs → xs[i]? = some x) ∧ ∀ ys, SqX K H k2 b ys → ys[i]? = some y,
    fun i H => ∃ xs ys : List V, SqX K H k1 a xs ∧ SqX K H k2 b ys ∧ min xs.length ys.length = i⟩
theorem turn_zipX {P : Program} {w : World} {K : PySem.W.Frag} {elts : List Expr} {kk : Nat} {tpos : Pos} {k1 k2 : Sk} {a b z TI TO i1 i2 : Addr} (S : ZipSep2 z TI TO i1 i2 [i1, a] [i2, b]) :
    Turn P w K (.Tuple elts kk tpos) (ItZ K k1 k2 a b) [z, TI, TO, i1, i2] z (fun i h => IsZip h z TI TO .none ∧ IsTupOf2 h TI (.ref i1) (.ref i2) ∧ (∃ a1 a2, IsTupOf2 h TO a1 a2) ∧ ItAt h k1 i1 a i ∧ ItAt h k2 i2 b i) where
  mem := by simp
  obj := fun i h ⟨hz, hI, ⟨a1, a2, hO⟩, h1, h2⟩ c hc => by
    have e : c = z ∨ c = TI ∨ c = TO ∨ c = i1 ∨ c = i2 := by simpa using hc
    rcases e with rfl | rfl | rfl | rfl | rfl
    · exact ⟨_, hz, nofun⟩
    · exact ⟨_, hI, nofun⟩
    · exact ⟨_, hO, nofun⟩
    · exact itX_obj h1
    · exact itX_obj h2
  keep := fun i h h' ⟨hz, hI, ⟨a1, a2, hO⟩, h1, h2⟩ f => ⟨f z (by simp) _ hz, f TI (by simp) _ hI, ⟨a1, a2, f TO (by simp) _ hO⟩, itX_at h1 (f i1 (by simp)), itX_at h2 (f i2 (by simp))⟩
  item := by
    intro X hP hw hK hc i pins s σ H E I hf ⟨hz, hI, hO, h1, h2⟩ ⟨xs, ys, x, y, q1, q2, e1, e2⟩
    subst hP hw hK
    obtain ⟨its1, r1, p1, _⟩ := inv_seq I q1
    obtain ⟨its2, r2, p2, _⟩ := inv_seq I q2
    obtain ⟨u1, g1, v1⟩ := r1.get e1
    obtain ⟨u2, g2, v2⟩ := r2.get e2
    have W := WalksT.zipD2 (prog := X.prog) (w := X.w) (A := X.A) S (drawsX (A := X.A.in1) (show X.A.in1.handled = none from I.ok.hd hc) k1 i1 a (seq_ne p1 h1) its1.toArray) (drawsX (A := X.A.in1) (show X.A.in1.handled = none from I.ok.hd hc) k2 i2 b (seq_ne p2 h2) its2.toArray)
    have b1 : i < its1.toArray.size := by rw [List.size_toArray]; exact (List.getElem?_eq_some_iff.mp g1).1
    have b2 : i < its2.toArray.size := by rw [List.size_toArray]; exact (List.getElem?_eq_some_iff.mp g2).1
    refine W.item i s _ _ (by omega) ⟨hz, hI, hO, ⟨h1, p1⟩, ⟨h2, p2⟩⟩ fun T vals h' tk hv hle hT hmid hk => ⟨_, rfl, W.go elts kk tpos i T { s with heap := h', toks := tk } _ _ hmid fun h'' st hk2 => ?_⟩
    obtain ⟨x1, x2, y1, y2, rfl⟩ := hv
    have z1 : x1 = u1 := by
      have : its1.toArray[i]? = some u1 := by simpa using g1
      rw [this] at y1; cases y1; rfl
    have z2 : x2 = u2 := by
      have : its2.toArray[i]? = some u2 := by simpa using g2
      rw [this] at y2; cases y2; rfl
    subst z1 z2
    have nT := W.apart i T h' hmid
    have hT2 : h''.IsTuple T #[x1, x2] := hT.at fun o e => hk2 T o nT e
    have np : H T = none := I.hok.fresh hle
    have new : ObjOk X.prog X.w (upd H T (.tup [x, y])) h'' T (.tup [x, y]) := ⟨by show 2 ≤ sizeLine; decide, [x1, x2], .cons v1 (.cons v2 .nil), hT2⟩
    have I1 : L2.Inv X pins σ (upd H T (.tup [x, y])) { s with heap := h'', toks := tk } :=
      I.turnedNew (ch := [z, TO, i1, i2]) (fun c o hb q => hk2 c o hb (hk c o hb q)) (fun c hc => hf c (by
        have : c = z ∨ c = TO ∨ c = i1 ∨ c = i2 := by simpa using hc
        rcases this with rfl | rfl | rfl | rfl <;> simp)) hle new
    obtain ⟨t1, t2, t3, t4, t5⟩ := st
    refine ⟨.ref T, _, I1, rfl, ⟨T, x, y, rfl, np, rfl, fun l hl => by rw [inv_inj I hl q1]; exact e1, fun l hl => by rw [inv_inj I hl q2]; exact e2⟩, ⟨t1, t2, t3, t4.1, t5.1⟩, fun c hcm => ?_⟩
    have lt : c < s.heap.objs.size := by
      have : c = z ∨ c = TI ∨ c = TO ∨ c = i1 ∨ c = i2 := by simpa using hcm
      rcases this with rfl | rfl | rfl | rfl | rfl
      · exact Heap.lt_size hz
      · exact Heap.lt_size hI
      · obtain ⟨_, _, hO⟩ := hO; exact Heap.lt_size hO
      · obtain ⟨_, e, _⟩ := itX_obj h1; exact Heap.lt_size e
      · obtain ⟨_, e, _⟩ := itX_obj h2; exact Heap.lt_size e
    rw [upd_ne (Nat.ne_of_lt (Nat.lt_of_lt_of_le lt hle))]
    exact (hf c hcm).1
  done := by
    intro X hP hw hK hc i pins s σ H E I hf ⟨hz, hI, hO, h1, h2⟩ ⟨xs, ys, q1, q2, e⟩
    subst hP hw hK
    obtain ⟨its1, r1, p1, _⟩ := inv_seq I q1
    obtain ⟨its2, r2, p2, _⟩ := inv_seq I q2
    have W := WalksT.zipD2 (prog := X.prog) (w := X.w) (A := X.A) S (drawsX (A := X.A.in1) (show X.A.in1.handled = none from I.ok.hd hc) k1 i1 a (seq_ne p1 h1) its1.toArray) (drawsX (A := X.A.in1) (show X.A.in1.handled = none from I.ok.hd hc) k2 i2 b (seq_ne p2 h2) its2.toArray)
    have e2 : i = min its1.toArray.size its2.toArray.size := by rw [List.size_toArray, List.size_toArray, ← r1.length, ← r2.length]; exact e.symm
    refine W.done s _ _ (e2 ▸ ⟨hz, hI, hO, ⟨h1, p1⟩, ⟨h2, p2⟩⟩) fun h' tk hk => ⟨rfl, I.turnedL (t' := tk) (ch := [z, TO, i1, i2]) (fun c o hb q => hk c o hb q) fun c hc => hf c ?_⟩
    have : c = z ∨ c = TO ∨ c = i1 ∨ c = i2 := by simpa using hc
    rcases this with rfl | rfl | rfl | rfl <;> simp
  self := fun A i s Q E st h => wpAny_pyIter_zip st.1 h
/-- zip(v, u), by values -/
theorem zip_val {elts : List Expr} {kk : Nat} {tpos : Pos} {k1 k2 : Sk} {pins : List (Addr × Obj)} {s : Shared} {σ : L2.St} {H : Hp} {a b : Addr} {xs ys : List V} {R : L2.It → Hp → Prop} (I : L2.Inv X pins σ H s) (q1 : SqX X.K H k1 a xs) (q2 : SqX X.K H k2 b ys)
    (h : R (ItZ X.K k1 k2 a b) H) : wpAny (model X.prog X.w) X.A (call (.type "zip") [.ref a, .ref b]) (fun v s1 => wpAny (model X.prog X.w) X.A (pyIter v) (PIE X pins σ (.Tuple elts kk tpos) R) X.xe s1) X.xe s := by
  obtain ⟨its1, r1, p1, _⟩ := inv_seq I q1
  obtain ⟨its2, r2, p2, _⟩ := inv_seq I q2
  have la := seq_lt p1
  have lb := seq_lt p2
  refine zip_begins2 (beginsX k1 a its1.toArray) (beginsX k2 b its2.toArray) p1 p2 fun h' hz hTI hTO h1 h2 hsz hk => wpAny_pyIter_zip hz ?_
  have sep : ZipSep2 (s.heap.objs.size + 4) (s.heap.objs.size + 2) (s.heap.objs.size + 3) s.heap.objs.size (s.heap.objs.size + 1) [s.heap.objs.size, a] [s.heap.objs.size + 1, b] :=
    zip_sep2 (fp1 := [a]) (fp2 := [b]) (fun c hc => (List.mem_singleton.mp hc) ▸ la) (fun c hc => (List.mem_singleton.mp hc) ▸ lb)
  have I2 : L2.Inv X pins σ H { s with heap := h' } := I.kept (t' := s.toks) hk
  refine ⟨s.heap.objs.size + 4, [s.heap.objs.size + 4, s.heap.objs.size + 2, s.heap.objs.size + 3, s.heap.objs.size, s.heap.objs.size + 1], _, _, H, rfl, I2, turn_zipX sep, ⟨hz, hTI, ⟨_, _, hTO⟩, itX_new h1, itX_new h2⟩, fun c hc => ?_, h⟩
  have : s.heap.objs.size ≤ c := by
    have e : c = s.heap.objs.size + 4 ∨ c = s.heap.objs.size + 2 ∨ c = s.heap.objs.size + 3 ∨ c = s.heap.objs.size ∨ c = s.heap.objs.size + 1 := by simpa using hc
    rcases e with rfl | rfl | rfl | rfl | rfl
    · exact Nat.le_add_right _ _
    · exact Nat.le_add_right _ _
    · exact Nat.le_add_right _ _
    · exact Nat.le_refl _
    · exact Nat.le_add_right _ _
  exact I.fpOk this (I.hok.fresh this)
/-! ### enumerate -/
def ItE (K : PySem.W.Frag) (k : Sk) (a : Addr) : L2.It :=
  ⟨fun i H => ∃ (xs : List V) (x : V), SqX K H k a xs ∧ xs[i]? = some x, fun i H v H' => ∃ T x, v = .ref T ∧ H T = none ∧ H' = upd H T (.tup [.int (i : Nat), x]) ∧ ∀ xs, SqX K H k a xs → xs[i]? = some x,
    fun i H => ∃ xs : List V, SqX K H k a xs ∧ xs.length = i⟩
theorem turn_enumX {P : Program} {w : World} {K : PySem.W.Frag} {elts : List Expr} {kk : Nat} {tpos : Pos} {k : Sk} {a e it : Addr} (n1 : e ≠ it) (n2 : e ∉ [it, a]) :
    Turn P w K (.Tuple elts kk tpos) (ItE K k a) [e, it] e (fun i h => (∃ old, IsEnum h e it ((0 : Int) + (i : Nat)) old) ∧ ItAt h k it a i) where
  mem := by simp
  obj := fun i h ⟨⟨old, he⟩, h1⟩ c hc => by
    have e : c = e ∨ c = it := by simpa using hc
    rcases e with rfl | rfl
    · exact ⟨_, he, nofun⟩
    · exact itX_obj h1
  keep := fun i h h' ⟨⟨old, he⟩, h1⟩ f => ⟨⟨old, f e (by simp) _ he⟩, itX_at h1 (f it (by simp))⟩
  item := by
    intro X hP hw hK hc i pins s σ H E I hf ⟨⟨old, he⟩, h1⟩ ⟨xs, x, q1, e1⟩
    subst hP hw hK
    obtain ⟨its1, r1, p1, _⟩ := inv_seq I q1
    obtain ⟨u1, g1, v1⟩ := r1.get e1
    have W := WalksT.enumFrom (prog := X.prog) (w := X.w) (A := X.A) 0 (drawsX (A := X.A.in1) (show X.A.in1.handled = none from I.ok.hd hc) k it a (seq_ne p1 h1) its1.toArray) e n1 n2 (by simp)
    have b1 : i < its1.toArray.size := by rw [List.size_toArray]; exact (List.getElem?_eq_some_iff.mp g1).1
    refine W.item i s _ _ b1 ⟨⟨old, he⟩, h1, p1⟩ fun T vals h' tk hv hle hT hmid hk => ⟨_, rfl, W.go elts kk tpos i T { s with heap := h', toks := tk } _ _ hmid fun h'' st hk2 => ?_⟩
    obtain ⟨t, x1, y1, rfl⟩ := hv
    have z1 : x1 = u1 := by
      have : its1.toArray[i]? = some u1 := by simpa using g1
      rw [this] at y1; cases y1; rfl
    subst z1
    have nT := W.apart i T h' hmid
    have hT2 : h''.IsTuple T #[.int ((0 : Int) + (i : Nat)) t, x1] := hT.at fun o e => hk2 T o nT e
    have np : H T = none := I.hok.fresh hle
    have new : ObjOk X.prog X.w (upd H T (.tup [.int (i : Nat), x])) h'' T (.tup [.int (i : Nat), x]) := ⟨by show 2 ≤ sizeLine; decide, [.int ((0 : Int) + (i : Nat)) t, x1], .cons ⟨t, by rw [Int.zero_add]⟩ (.cons v1 .nil), hT2⟩
    have I1 : L2.Inv X pins σ (upd H T (.tup [.int (i : Nat), x])) { s with heap := h'', toks := tk } :=
      I.turnedNew (ch := [e, it]) (fun c o hb q => hk2 c o hb (hk c o hb q)) (fun c hc => hf c hc) hle new
    obtain ⟨t1, t4⟩ := st
    refine ⟨.ref T, _, I1, rfl, ⟨T, x, rfl, np, rfl, fun l hl => by rw [inv_inj I hl q1]; exact e1⟩, ⟨t1, t4.1⟩, fun c hcm => ?_⟩
    have lt : c < s.heap.objs.size := by
      have : c = e ∨ c = it := by simpa using hcm
      rcases this with rfl | rfl
      · exact Heap.lt_size he
      · obtain ⟨_, e, _⟩ := itX_obj h1; exact Heap.lt_size e
    rw [upd_ne (Nat.ne_of_lt (Nat.lt_of_lt_of_le lt hle))]
    exact (hf c hcm).1
  done := by
    intro X hP hw hK hc i pins s σ H E I hf ⟨⟨old, he⟩, h1⟩ ⟨xs, q1, e1⟩
    subst hP hw hK
    obtain ⟨its1, r1, p1, _⟩ := inv_seq I q1
    have W := WalksT.enumFrom (prog := X.prog) (w := X.w) (A := X.A) 0 (drawsX (A := X.A.in1) (show X.A.in1.handled = none from I.ok.hd hc) k it a (seq_ne p1 h1) its1.toArray) e n1 n2 (by simp)
    have e2 : i = its1.toArray.size := by rw [List.size_toArray, ← r1.length]; exact e1.symm
    exact W.done s _ _ (e2 ▸ ⟨⟨old, he⟩, h1, p1⟩) fun h' tk hk => ⟨rfl, I.turnedL (t' := tk) (ch := [e, it]) (fun c o hb q => hk c o hb q) fun c hc => hf c hc⟩
  self := fun A i s Q E ⟨⟨_, he⟩, _⟩ h => wpAny_pyIter_enum he h
end

/-! ### what is yielded -/
section
variable {C : Cn} {pr : Option Pr} {G H : Hp}
theorem Stp.rfl' {pt : Pt} (s : Same G H) (p : PtR C pr G H pt) : Stp C pr G H G H pt := Stp.refl s p
theorem ylS_list {a : Addr} {xs : List V} {ds : List D} (h : G a = some (.lst xs)) (r : RpL C.K G xs ds) : YlS C pr (Itl C.K a) ds G := by
  intro G1 H1 pt s1 s2 p i
  have h1 : H1 a = some (.lst xs) := s2 _ _ (s1 _ _ h)
  refine ⟨fun e => ⟨xs, SqL.of h1, by rw [e, r.length]; exact Nat.le_refl _⟩, fun d hd => ?_⟩
  obtain ⟨x, hx, rx⟩ := r.get hd
  refine ⟨⟨xs, x, SqL.of h1, hx⟩, fun y H' ⟨e, k⟩ => ?_⟩
  subst e
  have := k xs (SqL.of h1)
  rw [hx] at this; cases this
  exact ⟨G1, Stp.refl s2 p, rx.mono s1⟩
theorem sqT_uni {K : PySem.W.Frag} {a : Addr} {xs ys : List V} (h : SqT K H a xs) (k : ∀ zs, SqT K H a zs → zs[0]? = ys[0]?) : True := trivial
theorem ylS_tup {a : Addr} {xs : List V} {ds : List D} (h : SqT C.K G a xs) (r : RpL C.K G xs ds) : YlS C pr (Itt C.K a) ds G := by
  intro G1 H1 pt s1 s2 p i
  have h1 : SqT C.K H1 a xs := Same.sqT s2 (Same.sqT s1 h)
  refine ⟨fun e => ⟨xs, h1, by rw [e, r.length]; exact Nat.le_refl _⟩, fun d hd => ?_⟩
  obtain ⟨x, hx, rx⟩ := r.get hd
  refine ⟨⟨xs, x, h1, hx⟩, fun y H' ⟨e, k⟩ => ?_⟩
  subst e
  have := k xs h1
  rw [hx] at this; cases this
  exact ⟨G1, Stp.refl s2 p, rx.mono s1⟩
/-- a list that is owned -/
theorem yl_own {a : Addr} {xs : List V} {ds : List D} (h : H a = some (.lst xs)) (n : ¬ Pr.has pr a) (r : RpL C.K G xs ds) : Yl C pr (Itl C.K a) ds G H := by
  intro G1 H1 pt s i
  have h1 : H1 a = some (.lst xs) := s.sH _ _ h n
  refine ⟨fun e => ⟨xs, SqL.of h1, by rw [e, r.length]; exact Nat.le_refl _⟩, fun d hd => ?_⟩
  obtain ⟨x, hx, rx⟩ := r.get hd
  refine ⟨⟨xs, x, SqL.of h1, hx⟩, fun y H' ⟨e, k⟩ => ?_⟩
  subst e
  have := k xs (SqL.of h1)
  rw [hx] at this; cases this
  exact ⟨G1, Stp.refl s.same s.pot, rx.mono s.sG⟩
theorem rngL_get : ∀ (n i : Nat) (lo : Int) (d : D), (rngL lo n)[i]? = some d → i < n ∧ d = .int (lo + i)
  | 0, i, lo, d, h => by simp [rngL] at h
  | n + 1, 0, lo, d, h => by
    simp only [rngL, List.getElem?_cons_zero, Option.some.injEq] at h
    exact ⟨Nat.succ_pos _, by rw [← h]; simp⟩
  | n + 1, i + 1, lo, d, h => by
    simp only [rngL, List.getElem?_cons_succ] at h
    obtain ⟨h1, h2⟩ := rngL_get n i (lo + 1) d h
    refine ⟨by omega, ?_⟩
    rw [h2]
    congr 1
    rw [Int.natCast_add]; omega
theorem rngL_length : ∀ (n : Nat) (lo : Int), (rngL lo n).length = n
  | 0, _ => rfl
  | n + 1, lo => by rw [rngL, List.length_cons, rngL_length n]
theorem rngS_get (c : Int) : ∀ (n i : Nat) (lo : Int) (d : D), (rngS lo c n)[i]? = some d → i < n ∧ d = .int (lo + i * c)
  | 0, i, lo, d, h => by simp [rngS] at h
  | n + 1, 0, lo, d, h => by
    simp only [rngS, List.getElem?_cons_zero, Option.some.injEq] at h
    exact ⟨Nat.succ_pos _, by rw [← h]; simp⟩
  | n + 1, i + 1, lo, d, h => by
    simp only [rngS, List.getElem?_cons_succ] at h
    obtain ⟨h1, h2⟩ := rngS_get c n i (lo + c) d h
    refine ⟨by omega, ?_⟩
    rw [h2]
    congr 1
    rw [Int.natCast_add, Int.add_mul]; omega
theorem rngS_length (c : Int) : ∀ (n : Nat) (lo : Int), (rngS lo c n).length = n
  | 0, _ => rfl
  | n + 1, lo => by rw [rngS, List.length_cons, rngS_length c n]
theorem ylS_rng (lo : Int) (n : Nat) : YlS C pr (Itr lo n) (rngL lo n) G := by
  intro G1 H1 pt s1 s2 p i
  refine ⟨fun e => by rw [rngL_length] at e; exact Nat.le_of_eq e.symm, fun d hd => ?_⟩
  obtain ⟨h1, h2⟩ := rngL_get n i lo d hd
  refine ⟨h1, fun y H' ⟨e, k⟩ => ?_⟩
  subst e k h2
  exact ⟨G1, Stp.refl s2 p, .int _⟩
theorem ylS_rngC (lo c : Int) (n : Nat) : YlS C pr (Itc lo c n) (rngS lo c n) G := by
  intro G1 H1 pt s1 s2 p i
  refine ⟨fun e => by rw [rngS_length] at e; exact Nat.le_of_eq e.symm, fun d hd => ?_⟩
  obtain ⟨h1, h2⟩ := rngS_get c n i lo d hd
  refine ⟨h1, fun y H' ⟨e, k⟩ => ?_⟩
  subst e k h2
  exact ⟨G1, Stp.refl s2 p, .int _⟩
/-- stands whatever steps are made -/
def SqB (C : Cn) (pr : Option Pr) (k : Sk) (G H : Hp) (a : Addr) (xs : List V) : Prop := ∀ G1 H1 pt, Stp C pr G H G1 H1 pt → SqX C.K H1 k a xs
theorem zipL_get : ∀ (as bs : List D) (i : Nat) (d : D), (zipL as bs)[i]? = some d → ∃ x y, as[i]? = some x ∧ bs[i]? = some y ∧ d = .tuple [x, y]
  | [], bs, i, d, h => by simp [zipL] at h
  | a :: as, [], i, d, h => by simp [zipL] at h
  | a :: as, b :: bs, 0, d, h => by
    simp only [zipL, List.getElem?_cons_zero, Option.some.injEq] at h
    exact ⟨a, b, rfl, rfl, h.symm⟩
  | a :: as, b :: bs, i + 1, d, h => by
    simp only [zipL, List.getElem?_cons_succ] at h
    obtain ⟨x, y, h1, h2, h3⟩ := zipL_get as bs i d h
    exact ⟨x, y, by simpa using h1, by simpa using h2, h3⟩
theorem zipL_length : ∀ (as bs : List D), (zipL as bs).length = min as.length bs.length
  | [], bs => by simp [zipL]
  | a :: as, [] => by simp [zipL]
  | a :: as, b :: bs => by rw [zipL, List.length_cons, zipL_length as bs, List.length_cons, List.length_cons]; omega
theorem yl_zip {k1 k2 : Sk} {a b : Addr} {xs ys : List V} {as bs : List D} (h1 : SqB C pr k1 G H a xs) (h2 : SqB C pr k2 G H b ys) (r1 : RpL C.K G xs as) (r2 : RpL C.K G ys bs) : Yl C pr (ItZ C.K k1 k2 a b) (zipL as bs) G H := by
  intro G1 H1 pt s i
  have q1 := h1 _ _ _ s
  have q2 := h2 _ _ _ s
  refine ⟨fun e => ⟨xs, ys, q1, q2, by rw [e, zipL_length, r1.length, r2.length]⟩, fun d hd => ?_⟩
  obtain ⟨dx, dy, e1, e2, rfl⟩ := zipL_get as bs i d hd
  obtain ⟨x, hx, rx⟩ := r1.get e1
  obtain ⟨y, hy, ry⟩ := r2.get e2
  refine ⟨⟨xs, ys, x, y, q1, q2, hx, hy⟩, fun v H' hv => ?_⟩
  obtain ⟨T, x', y', rfl, nT, rfl, k1', k2'⟩ := hv
  have e3 := k1' xs q1
  rw [hx] at e3; cases e3
  have e4 := k2' ys q2
  rw [hy] at e4; cases e4
  have gn : G1 T = none := s.same.free nT
  have st := Stp.lay (o := .tup [x, y]) s.same s.pot nT
  exact ⟨_, st, .tup (SqT.of upd_same) (.cons ((rx.mono s.sG).mono st.sG) (.cons ((ry.mono s.sG).mono st.sG) .nil))⟩
theorem enumL_get : ∀ (as : List D) (j : Int) (i : Nat) (d : D), (enumL j as)[i]? = some d → ∃ x, as[i]? = some x ∧ d = .tuple [.int (j + i), x]
  | [], j, i, d, h => by simp [enumL] at h
  | a :: as, j, 0, d, h => by
    simp only [enumL, List.getElem?_cons_zero, Option.some.injEq] at h
    exact ⟨a, rfl, by rw [← h]; simp⟩
  | a :: as, j, i + 1, d, h => by
    simp only [enumL, List.getElem?_cons_succ] at h
    obtain ⟨x, h1, h3⟩ := enumL_get as (j + 1) i d h
    refine ⟨x, by simpa using h1, ?_⟩
    rw [h3]
    congr 3
    rw [Int.natCast_add]; omega
theorem enumL_length : ∀ (as : List D) (j : Int), (enumL j as).length = as.length
  | [], _ => rfl
  | a :: as, j => by rw [enumL, List.length_cons, enumL_length as, List.length_cons]
theorem yl_enum {k : Sk} {a : Addr} {xs : List V} {as : List D} (h1 : SqB C pr k G H a xs) (r1 : RpL C.K G xs as) : Yl C pr (ItE C.K k a) (enumL 0 as) G H := by
  intro G1 H1 pt s i
  have q1 := h1 _ _ _ s
  refine ⟨fun e => ⟨xs, q1, by rw [e, enumL_length, r1.length]⟩, fun d hd => ?_⟩
  obtain ⟨dx, e1, rfl⟩ := enumL_get as 0 i d hd
  obtain ⟨x, hx, rx⟩ := r1.get e1
  refine ⟨⟨xs, x, q1, hx⟩, fun v H' hv => ?_⟩
  obtain ⟨T, x', rfl, nT, rfl, k1'⟩ := hv
  have e3 := k1' xs q1
  rw [hx] at e3; cases e3
  have gn : G1 T = none := s.same.free nT
  have st := Stp.lay (o := .tup [.int (i : Nat), x]) s.same s.pot nT
  exact ⟨_, st, .tup (SqT.of upd_same) (.cons (by rw [Int.zero_add]; exact .int _) (.cons ((rx.mono s.sG).mono st.sG) .nil))⟩
end
end Mi

/-! MiEx: one rule for each form of expression. -/
namespace Mi
open PySem L2
/-- the reading asked for: shared, lent, new -/
inductive Md where
  | e
  | b
  | f
  deriving DecidableEq
def tM (m : Md) (C : Cn) (W : WX) (f : Mn D) : L2.TE := match m with
  | .e => tE C W f
  | .b => tBo C W f
  | .f => tFr C W f
section
variable {C : Cn} {W : WX} {X : Cx} {F : List Fn} {f fa fb fc : Mn D} {e a b c : Expr} {es : List Expr} {pos p p1 p2 p3 : Pos} {m : Md}
theorem PE.ofF (h : PE X e (tFr C W f)) : PE X e (tM m C W f) := by
  cases m with
  | e => exact PE.fr h
  | b => exact PE.bo (PE.fr h)
  | f => exact h
theorem PE.ofE (hm : (m != Md.f) = true) (h : PE X e (tE C W f)) : PE X e (tM m C W f) := by
  cases m with
  | e => exact h
  | b => exact PE.bo h
  | f => exact absurd hm (by decide)
theorem R.sat.also {α : Type} {r : R α} {P : α → Pt → Prop} {E : Xc → Pt → Prop} {S : α → Prop} (h : r.sat P E) (k : ∀ a p, r = .ok a p → S a) : r.sat (fun a p => S a ∧ P a p) E := by
  cases r with
  | ok a p => exact ⟨k a p rfl, h⟩
  | er x p => exact h
  | bad => exact h
/-! ### starred ones are not served -/
def nst : Expr → Bool
  | .Starred _ _ => false
  | _ => true
theorem star_cons {env : PySem.Env} (h : nst e = true) : starEach (e :: es) env = (false, eval e env) :: starEach es env := by
  cases e <;> first
    | rfl
    | cases h
theorem star_any {env : PySem.Env} (h : es.all nst = true) : (backTo pos (starEach es env)).any (·.1) = false := by
  induction es with
  | nil => rfl
  | cons e es ih =>
    simp only [List.all_cons, Bool.and_eq_true] at h
    rw [star_cons h.1]
    show (false || _) = false
    rw [Bool.false_or]
    exact ih h.2
/-! ### leaves -/
theorem ex_var {i : Nat} {x : Str} (hN : X.N[i]? = some x) (hv : Vis X.env.scope x) (hd : (x == ("__debug__" : Str)) = false) (hcd : (x == ("__classdict__" : Str)) = false) : PE X (.Name x pos) (tE C W (ev F (.var i))) :=
  PE.imp (pe_var hN hv hd hcd) fun σ H Q h => by
    obtain ⟨pr, fps, G, ρ, pt, R, q⟩ := h
    have sl := R.slot i
    simp only [ev] at q
    split at q
    · rename_i d hd
      rw [hd] at sl
      obtain ⟨v, e, r⟩ := sl
      exact ⟨v, e, q v G H (.refl R.same R.pot) r⟩
    · exact q.elim
theorem ex_bor {i : Nat} {x : Str} (hN : X.N[i]? = some x) (hv : Vis X.env.scope x) (hd : (x == ("__debug__" : Str)) = false) (hcd : (x == ("__classdict__" : Str)) = false) : PE X (.Name x pos) (tBo C W (ev F (.bor i))) :=
  PE.imp (pe_var hN hv hd hcd) fun σ H Q h => by
    obtain ⟨pr, fps, G, ρ, pt, R, q⟩ := h
    have sl := R.slot i
    simp only [ev] at q
    split at q
    · rename_i d hd
      rw [hd] at sl
      obtain ⟨v, e, r⟩ := sl
      exact ⟨v, e, q v G H (.refl R.same R.pot) (.inl r)⟩
    · rename_i ds hd
      rw [hd] at sl
      obtain ⟨p, xs, e, hp, e2, r⟩ := sl
      exact ⟨_, e, q _ G H (.refl R.same R.pot) (.inr ⟨p, xs, ds, rfl, rfl, (R.fre i p hp).2.2, e2, r⟩)⟩
    · exact q.elim
theorem ex_const {d : D} {v : V} (hr : ∀ G, Rp C.K G v d) (h : PE X e (tC v)) : PE X e (tE C W (fun _ p => .ok d p)) :=
  PE.imp h fun σ H Q ⟨pr, fps, G, ρ, pt, R, q⟩ => q v G H (.refl R.same R.pot) (hr G)
/-! ### arithmetic on one, not -/
theorem ex_neg (h : PE X a (tBo C W fa)) : PE X (.UnaryOp .USub a pos) (tE C W (fun ρ p => (fa ρ p).bind fun x p => .lift ((asInt x).map fun i => .int (-i)) p)) :=
  PE.imp (pe_un un_neg h) fun σ H Q ⟨pr, fps, G, ρ, pt, R, q⟩ => ⟨pr, fps, G, ρ, pt, R, (sat_bind q).mono (fun d p1 q v G1 H1 s1 r => by
    obtain ⟨d', e', q⟩ := sat_lift q
    obtain ⟨i, e1, rfl⟩ := Option.map_eq_some_iff.mp e'
    cases d <;> simp only [asInt, reduceCtorEq, Option.some.injEq] at e1
    subst e1
    have r := r.rp (fun _ => nofun)
    cases r
    exact ⟨_, rfl, q _ G1 H1 s1 (.int _)⟩) fun _ _ q => q⟩
theorem ex_not (h : PE X a (tBo C W fa)) : PE X (.UnaryOp .Not a pos) (tE C W (fun ρ p => (fa ρ p).bind fun x p => .lift ((asB x).map fun b => .bool (!b)) p)) :=
  PE.imp (pe_not h) fun σ H Q ⟨pr, fps, G, ρ, pt, R, q⟩ => ⟨pr, fps, G, ρ, pt, R, (sat_bind q).mono (fun d p1 q v G1 H1 s1 r => by
    obtain ⟨d', e', q⟩ := sat_lift q
    obtain ⟨i, e1, rfl⟩ := Option.map_eq_some_iff.mp e'
    cases d <;> simp only [asB, reduceCtorEq, Option.some.injEq] at e1
    subst e1
    have r := r.rp (fun _ => nofun)
    cases r
    exact ⟨_, rfl, q _ G1 H1 s1 (.bl _)⟩) fun _ _ q => q⟩
/-! ### and, or, if -/
theorem ex_and {rest : List Expr} (ha : PE X a (tBo C W fa)) (hb : PE X (.BoolOp .And (b :: rest) pos) (tE C W fb)) : PE X (.BoolOp .And (a :: b :: rest) pos) (tE C W (fun ρ p => (fa ρ p).bind fun x p => match x with
    | .bool true => fb ρ p
    | .bool false => .ok (.bool false) p
    | _ => .bad)) :=
  PE.imp (pe_and ha hb) fun σ H Q ⟨pr, fps, G, ρ, pt, R, q⟩ => ⟨pr, fps, G, ρ, pt, R, (sat_bind q).mono (fun d p1 q v G1 H1 s1 r => by
    split at q
    · have r := r.rp (fun _ => nofun)
      cases r
      refine ⟨true, rfl, ?_⟩
      rw [if_pos rfl]
      exact ⟨pr, fps, G1, ρ, p1, R.step s1, q.mono (fun d p2 q v G2 H2 s2 r => q v G2 H2 (s1.trans R.pot s2) r) fun _ _ q => q.after R.pot s1⟩
    · have r := r.rp (fun _ => nofun)
      cases r
      refine ⟨false, rfl, ?_⟩
      rw [if_neg (by decide)]
      exact q _ G1 H1 s1 (.bl _)
    · exact q.elim) fun _ _ q => q⟩
theorem ex_or {rest : List Expr} (ha : PE X a (tBo C W fa)) (hb : PE X (.BoolOp .Or (b :: rest) pos) (tE C W fb)) : PE X (.BoolOp .Or (a :: b :: rest) pos) (tE C W (fun ρ p => (fa ρ p).bind fun x p => match x with
    | .bool false => fb ρ p
    | .bool true => .ok (.bool true) p
    | _ => .bad)) :=
  PE.imp (pe_or ha hb) fun σ H Q ⟨pr, fps, G, ρ, pt, R, q⟩ => ⟨pr, fps, G, ρ, pt, R, (sat_bind q).mono (fun d p1 q v G1 H1 s1 r => by
    split at q
    · have r := r.rp (fun _ => nofun)
      cases r
      refine ⟨false, rfl, ?_⟩
      rw [if_neg (by decide)]
      exact ⟨pr, fps, G1, ρ, p1, R.step s1, q.mono (fun d p2 q v G2 H2 s2 r => q v G2 H2 (s1.trans R.pot s2) r) fun _ _ q => q.after R.pot s1⟩
    · have r := r.rp (fun _ => nofun)
      cases r
      refine ⟨true, rfl, ?_⟩
      rw [if_pos rfl]
      exact q _ G1 H1 s1 (.bl _)
    · exact q.elim) fun _ _ q => q⟩
theorem ex_ife (hc : PT X c (tTs C W fc)) (ha : PE X a (tE C W fa)) (hb : PE X b (tE C W fb)) : PE X (.IfExp c a b pos) (tE C W (fun ρ p => (fc ρ p).bind fun x p => match x with
    | .bool true => fa ρ p
    | .bool false => fb ρ p
    | _ => .bad)) :=
  PE.imp (pe_ifExp hc ha hb) fun σ H Q ⟨pr, fps, G, ρ, pt, R, q⟩ => ⟨pr, fps, G, ρ, pt, R, (sat_bind q).mono (fun d p1 q => by
    split at q
    · refine ⟨true, rfl, fun G1 H1 s1 => ?_⟩
      show (if true = true then _ else _)
      rw [if_pos rfl]
      exact ⟨pr, fps, G1, ρ, p1, R.step s1, q.mono (fun d p2 q v G2 H2 s2 r => q v G2 H2 (s1.trans R.pot s2) r) fun _ _ q => q.after R.pot s1⟩
    · refine ⟨false, rfl, fun G1 H1 s1 => ?_⟩
      show (if false = true then _ else _)
      rw [if_neg (by decide)]
      exact ⟨pr, fps, G1, ρ, p1, R.step s1, q.mono (fun d p2 q v G2 H2 s2 r => q v G2 H2 (s1.trans R.pot s2) r) fun _ _ q => q.after R.pot s1⟩
    · exact q.elim) fun _ _ q => q⟩
/-! ### tests -/
/-- a value that is a bool, tested -/
theorem ts_val (h : PE X e (tE C W f)) (he : ∀ whole, isTrue e X.env whole = (do let v ← whole; standAt e.pos; holding [v] (truthy v))) : PT X e (tTs C W f) :=
  PT.imp (pt_val h he) fun σ H Q ⟨pr, fps, G, ρ, pt, R, q⟩ => ⟨pr, fps, G, ρ, pt, R, q.mono (fun d p1 ⟨b, ed, q⟩ v G1 H1 s1 r => by
    subst ed
    cases r
    exact ⟨b, rfl, q G1 H1 s1⟩) fun _ _ q => q⟩
theorem ts_cmp {op : CmpOp} {g : D → D → Option Bool} (ho : OpR X (compareOp op) (rD C fun a b => (g a b).map .bool)) (ha : PE X a (tBo C W fa)) (hb : PE X b (tBo C W fb)) (hm : behindInMarks op b = false) :
    PT X (.Compare a [op] [b] pos) (tTs C W (fun ρ p => (fa ρ p).bind fun x p => (fb ρ p).bind fun y p => .lift ((g x y).map .bool) p)) :=
  PT.imp (pt_cmpR ho ha hb hm) fun σ H Q ⟨pr, fps, G, ρ, pt, R, q⟩ => two ⟨pr, fps, G, ρ, pt, R, q.mono (fun d p1 ⟨b, ed, q⟩ v G1 H1 s1 r => by
    subst ed
    have r : Rp C.K G1 v (.bool b) := r
    cases r
    exact ⟨b, rfl, q G1 H1 s1⟩) fun _ _ q => q⟩
theorem ts_not (h : PT X a (tTs C W fa)) : PT X (.UnaryOp .Not a pos) (tTs C W (fun ρ p => (fa ρ p).bind fun x p => .lift ((asB x).map fun b => .bool (!b)) p)) :=
  PT.imp (pt_not h) fun σ H Q ⟨pr, fps, G, ρ, pt, R, q⟩ => ⟨pr, fps, G, ρ, pt, R, (sat_bind q).mono (fun d p1 q => by
    obtain ⟨d', e', q⟩ := sat_lift q
    obtain ⟨b, e1, rfl⟩ := Option.map_eq_some_iff.mp e'
    obtain ⟨b', e2, q⟩ := q
    cases e2
    cases d <;> simp only [asB, reduceCtorEq, Option.some.injEq] at e1
    subst e1
    exact ⟨_, rfl, q⟩) fun _ _ q => q⟩
theorem ts_and {rest : List Expr} (ha : PT X a (tTs C W fa)) (hb : PW X (.BoolOp .And (b :: rest) pos) (tTs C W fb)) : PW X (.BoolOp .And (a :: b :: rest) pos) (tTs C W (fun ρ p => (fa ρ p).bind fun x p => match x with
    | .bool true => fb ρ p
    | .bool false => .ok (.bool false) p
    | _ => .bad)) := by
  refine ⟨fun whole pins s σ H Q I h => (pw_and ha hb).run whole pins s σ H Q I ?_⟩
  obtain ⟨pr, fps, G, ρ, pt, R, q⟩ := h
  refine ⟨pr, fps, G, ρ, pt, R, (sat_bind q).mono (fun d p1 q => ?_) fun _ _ q => q⟩
  split at q
  · refine ⟨true, rfl, fun G1 H1 s1 => ?_⟩
    show (if true = true then _ else _)
    rw [if_pos rfl]
    exact ⟨pr, fps, G1, ρ, p1, R.step s1, q.mono (fun d p2 ⟨b, eb, q⟩ => ⟨b, eb, fun G2 H2 s2 => q G2 H2 (s1.trans R.pot s2)⟩) fun _ _ q => q.after R.pot s1⟩
  · obtain ⟨b', e2, q⟩ := q
    cases e2
    refine ⟨false, rfl, fun G1 H1 s1 => ?_⟩
    show (if false = true then _ else _)
    rw [if_neg (by decide)]
    exact q G1 H1 s1
  · exact q.elim
theorem ts_or {rest : List Expr} (ha : PT X a (tTs C W fa)) (hb : PW X (.BoolOp .Or (b :: rest) pos) (tTs C W fb)) : PW X (.BoolOp .Or (a :: b :: rest) pos) (tTs C W (fun ρ p => (fa ρ p).bind fun x p => match x with
    | .bool false => fb ρ p
    | .bool true => .ok (.bool true) p
    | _ => .bad)) := by
  refine ⟨fun whole pins s σ H Q I h => (pw_or ha hb).run whole pins s σ H Q I ?_⟩
  obtain ⟨pr, fps, G, ρ, pt, R, q⟩ := h
  refine ⟨pr, fps, G, ρ, pt, R, (sat_bind q).mono (fun d p1 q => ?_) fun _ _ q => q⟩
  split at q
  · refine ⟨false, rfl, fun G1 H1 s1 => ?_⟩
    show (if false = true then _ else _)
    rw [if_neg (by decide)]
    exact ⟨pr, fps, G1, ρ, p1, R.step s1, q.mono (fun d p2 ⟨b, eb, q⟩ => ⟨b, eb, fun G2 H2 s2 => q G2 H2 (s1.trans R.pot s2)⟩) fun _ _ q => q.after R.pot s1⟩
  · obtain ⟨b', e2, q⟩ := q
    cases e2
    refine ⟨true, rfl, fun G1 H1 s1 => ?_⟩
    show (if true = true then _ else _)
    rw [if_pos rfl]
    exact q G1 H1 s1
  · exact q.elim
/-! ### several, displays -/
theorem es_nil : PA X [] (tEs C W (fun _ p => .ok [] p)) := PA.imp pa_nil fun σ H Q ⟨pr, fps, G, ρ, pt, R, q⟩ => q [] G H (.refl R.same R.pot) .nil
theorem es_cons {g : Mn (List D)} (hs : nst e = true) (he : PE X e (tE C W f)) (h : PA X es (tEs C W g)) : PA X (e :: es) (tEs C W (fun ρ p => (f ρ p).bind fun x p => (g ρ p).bind fun xs p => .ok (x :: xs) p)) :=
  PA.imp (pa_cons he h (star_cons hs)) fun σ H Q ⟨pr, fps, G, ρ, pt, R, q⟩ => ⟨pr, fps, G, ρ, pt, R, (sat_bind q).mono (fun d p1 q v G1 H1 s1 r => ⟨pr, fps, G1, ρ, p1, R.step s1, (sat_bind q).mono (fun ds p2 q vs G2 H2 s2 rs =>
    q (v :: vs) G2 H2 (s1.trans R.pot s2) (.cons (r.mono s2.sG) rs)) fun _ _ q => q.after R.pot s1⟩) fun _ _ q => q⟩
theorem ex_tup {g : Mn (List D)} {k : Nat} (hz : ∀ ρ p ds p', g ρ p = .ok ds p' → ds.length ≤ sizeLine) (h : PA X es (tEs C W g)) : PE X (.Tuple es k pos) (tE C W (fun ρ p => (g ρ p).bind fun ds p => .ok (.tuple ds) p)) :=
  PE.imp (pe_tup h) fun σ H Q ⟨pr, fps, G, ρ, pt, R, q⟩ => ⟨pr, fps, G, ρ, pt, R, ((sat_bind q).also (fun ds p e => hz ρ pt ds p e)).mono (fun ds p1 ⟨z, q⟩ vs G1 H1 s1 rs => ⟨by rw [rs.length]; exact z, fun p' np => by
    have gn : G1 p' = none := s1.same.free np
    have st := Stp.lay (o := .tup vs) s1.same s1.pot np
    exact q _ _ _ (s1.trans R.pot st) (.tup (SqT.of upd_same) (rs.mono st.sG))⟩) fun _ _ q => q⟩
theorem ex_lst {g : Mn (List D)} (hz : ∀ ρ p ds p', g ρ p = .ok ds p' → ds.length ≤ sizeLine) (h : PA X es (tEs C W g)) : PE X (.List es pos) (tFr C W (fun ρ p => (g ρ p).bind fun ds p => .ok (.list ds) p)) :=
  PE.imp (pe_lst h) fun σ H Q ⟨pr, fps, G, ρ, pt, R, q⟩ => ⟨pr, fps, G, ρ, pt, R, ((sat_bind q).also (fun ds p e => hz ρ pt ds p e)).mono (fun ds p1 ⟨z, q⟩ vs G1 H1 s1 rs => ⟨by rw [rs.length]; exact z, fun p' np => by
    have st := Stp.layH (o := .lst vs) s1.same s1.pot np
    exact q _ _ _ (s1.trans R.pot st) ⟨p', vs, rfl, s1.back R.pot np, s1.same.free np, upd_same, rs⟩⟩) fun _ _ q => q⟩
/-! ### x[i] -/
def pix : Expr → Bool
  | .Slice _ _ _ _ => false
  | _ => true
theorem pix_ok (h : pix b = true) : PlainIx b := fun o i => by
  cases b <;> first
    | rfl
    | cases h
theorem ixN_eq {n : Nat} {i : Int} {k : Nat} (h : Mi.ixN n i = some k) : L2.ixN n i = some k := by
  unfold Mi.ixN at h
  unfold L2.ixN
  split at h
  · rename_i h0
    split at h
    · rename_i h1
      rw [if_pos h0, if_pos h1]; exact h
    · cases h
  · rename_i h0
    split at h
    · rename_i h1
      rw [if_neg h0, if_pos (by omega)]; exact h
    · cases h
theorem ixN_at {xs : List V} {i : Int} {k : Nat} {v : V} (h : Mi.ixN xs.length i = some k) (hv : xs[k]? = some v) : atI xs i = some v := by
  unfold atI
  rw [ixN_eq h]
  exact hv
theorem ex_idx (ha : PE X a (tBo C W fa)) (hb : PE X b (tBo C W fb)) (hp : pix b = true) (hK : X.K = C.K) : PE X (.Subscript a b pos) (tE C W (fun ρ p => (fa ρ p).bind fun x p => (fb ρ p).bind fun y p => .lift (ixD x y) p)) :=
  PE.imp (pe_ix (ix_list.or ix_tup) ha hb (pix_ok hp)) fun σ H Q ⟨pr, fps, G, ρ, pt, R, q⟩ => ⟨pr, fps, G, ρ, pt, R, (sat_bind q).mono (fun dx p1 q v G1 H1 s1 r => ⟨pr, fps, G1, ρ, p1, R.step s1, (sat_bind q).mono (fun dy p2 q u G2 H2 s2 r2 => by
    obtain ⟨d, e, q'⟩ := sat_lift q
    have r := r.step s2
    unfold ixD at e
    split at e
    · rename_i ds i hds
      have r2 := r2.rp (fun _ => nofun)
      cases r2
      obtain ⟨k, hk, hd⟩ := Option.bind_eq_some_iff.mp e
      cases dx <;> simp only [items, reduceCtorEq, Option.some.injEq] at hds
      case list l =>
        subst hds
        obtain ⟨a1, xs, e1, hx, rl⟩ := r.list s2.same
        obtain ⟨w, hw, rw'⟩ := rl.get hd
        rw [← rl.length] at hk
        exact .inl ⟨a1, xs, i, w, e1, rfl, SqL.of hx, ixN_at hk hw, q' w G2 H2 (s1.trans R.pot s2) rw'⟩
      case tuple l =>
        subst hds
        have r := r.rp (fun _ => nofun)
        cases r with
        | tup h1 rl =>
          obtain ⟨w, hw, rw'⟩ := rl.get hd
          rw [← rl.length] at hk
          exact .inr ⟨_, _, i, w, rfl, rfl, hK ▸ Same.sqT s2.same h1, ixN_at hk hw, q' w G2 H2 (s1.trans R.pot s2) rw'⟩
    · cases e) fun _ _ q => q.after R.pot s1⟩) fun _ _ q => q⟩

/-! ### built-ins of one argument -/
theorem ex_fnB {x : Str} {id : String} {g : D → Option D} (hc : CallR X (.builtin id) (rC C g)) (hg : Gl X x) (hm : X.mg x = none) (hv : bootBuiltins x = some (.builtin id)) (ha : PE X a (tBo C W fa)) (hs : nst a = true) (hn : x ≠ "__name__") (hdb : (x == ("__debug__" : Str)) = false) :
    PE X (.Call (.Name x p) [a] [] pos) (tFr C W (fun ρ p => (fa ρ p).bind fun x p => .lift (g x) p)) :=
  PE.imp (pe_callB hc hg hm hv (pa_cons ha pa_nil (star_cons hs)) hn hdb (star_cons hs) rfl) fun _ _ _ h => one h
theorem ex_fnT {x : Str} {id : String} {g : D → Option D} (hc : CallR X (.type id) (rC C g)) (hg : Gl X x) (hm : X.mg x = none) (hv : bootBuiltins x = some (.type id)) (ha : PE X a (tBo C W fa)) (hs : nst a = true) (hn : x ≠ "__name__") (hdb : (x == ("__debug__" : Str)) = false) :
    PE X (.Call (.Name x p) [a] [] pos) (tFr C W (fun ρ p => (fa ρ p).bind fun x p => .lift (g x) p)) :=
  PE.imp (pe_callTy hc hg hm hv (pa_cons ha pa_nil (star_cons hs)) hn hdb (star_cons hs) rfl) fun _ _ _ h => one h
theorem dedI_spec : ∀ l : List Int, (dedI l).Nodup ∧ ∀ x, x ∈ dedI l ↔ x ∈ l
  | [] => ⟨List.nodup_nil, fun x => Iff.rfl⟩
  | a :: l => by
    obtain ⟨h1, h2⟩ := dedI_spec l
    refine ⟨?_, fun x => ?_⟩
    · simp only [dedI, List.nodup_cons]
      exact ⟨fun h => by simp at h, h1.filter _⟩
    · simp only [dedI, List.mem_cons, List.mem_filter, decide_eq_true_eq, h2]
      constructor
      · rintro (h | h)
        · exact .inl h
        · exact .inr h.1
      · rintro (h | h)
        · exact .inl h
        · by_cases e : x = a
          · exact .inl e
          · exact .inr ⟨h, e⟩
theorem dedI_len {l ns : List Int} (nd : l.Nodup) (h : ∀ x, x ∈ l ↔ x ∈ ns) : l.length = (dedI ns).length :=
  ((List.perm_ext_iff_of_nodup nd (dedI_spec ns).1).mpr fun x => by rw [h x, (dedI_spec ns).2 x]).length_eq
theorem dedI_le : ∀ ns : List Int, (dedI ns).length ≤ ns.length
  | [] => Nat.le_refl _
  | a :: l => by
    simp only [dedI, List.length_cons]
    have := dedI_le l
    have := List.length_filter_le (fun y => decide (y ≠ a)) (dedI l)
    omega
/-- len(set(a)) -/
theorem ex_lenset (hc : X.calm = true) (hK : X.K = C.K) (hg : Gl X "len") (hm : X.mg "len" = none) (hg2 : Gl X "set") (hm2 : X.mg "set" = none) (ha : PE X a (tBo C W fa)) (hs : nst a = true) :
    PE X (.Call (.Name "len" p) [.Call (.Name "set" p2) [a] [] p3] [] pos) (tE C W (fun ρ p => (fa ρ p).bind fun x p => .lift (f1 .lenset x) p)) := by
  refine ⟨fun pins s σ H Q I h => ?_⟩
  refine PyProof.Rows.Call_ (ld_blt I hg hm boot_len ?_)
  refine PyProof.Rows.callWith_builtin1 (PyProof.Rows.args_cons ?_ rfl) rfl rfl
  refine PyProof.Rows.Call_ (ld_blt I hg2 hm2 PyProof.Rows.boot_set ?_)
  obtain ⟨pr, fps, G, ρ, pt, R, q⟩ := h
  refine PyProof.Rows.callWith_type1 (PyProof.Rows.args_cons (thn (ha.run pins s σ H (fun x H1 => ∃ (k : Sk) (l : Addr) (ns : List Int), x = .ref l ∧ SqX X.K H1 k l (ns.map V.int) ∧ ns.length ≤ 4000 ∧ Q (.int (dedI ns).length) H1) I
    ⟨pr, fps, G, ρ, pt, R, (sat_bind q).mono (fun dx p1 q v G1 H1 s1 r => ?_) fun _ _ q => q⟩) fun v s1 hx => PyProof.Rows.args_nil ?_) (star_cons hs)) (star_cons hs) rfl
  · obtain ⟨d, e, q⟩ := sat_lift q
    have go : ∀ ds l, asInts ds = some l → (if l.length ≤ 4000 then some (PyData.int (dedI l).length) else none) = some d → l.length ≤ 4000 ∧ d = .int (dedI l).length := fun ds l h1 h2 => by
      simp only [Option.ite_none_right_eq_some, Option.some.injEq] at h2
      exact ⟨h2.1, h2.2.symm⟩
    cases dx <;> simp only [f1, reduceCtorEq] at e
    case list ds =>
      obtain ⟨l, e1, e2⟩ := Option.bind_eq_some_iff.mp e
      obtain ⟨hl, rfl⟩ := go ds l e1 e2
      obtain ⟨a1, xs, ex, hx, rl⟩ := r.list s1.same
      have e3 := rl.asInts e1
      subst e3
      exact ⟨.l, a1, l, ex, SqL.of hx, hl, q _ G1 H1 s1 (.int _)⟩
    case tuple ds =>
      obtain ⟨l, e1, e2⟩ := Option.bind_eq_some_iff.mp e
      obtain ⟨hl, rfl⟩ := go ds l e1 e2
      have r := r.rp (fun _ => nofun)
      cases r with
      | tup h1 rl =>
        have e3 := rl.asInts e1
        subst e3
        exact ⟨.t, _, l, rfl, hK ▸ Same.sqT s1.same h1, hl, q _ G1 H1 s1 (.int _)⟩
  · obtain ⟨x, H1, I1, r1, k, l, ns, rfl, hq, hl, q1⟩ := hx
    cases r1
    obtain ⟨its, r, pl, hz⟩ := inv_seq I1 hq
    have hlen : its.toArray.size = ns.length := by rw [List.size_toArray, ← r.length, List.length_map]
    have fin : ∀ (h' : Heap) (tk n : Nat), (∃ o es ep t, h'.get? s1.heap.objs.size = some o ∧ o.ExactSet ∧ o.data = .set es ep t ∧ t.fits es.size = true ∧ es.size = n) → n = (dedI ns).length → (∀ b o, s1.heap.get? b = some o → h'.get? b = some o) →
        wpAny (model X.prog X.w) X.A (spliced []) (fun us s2 => wpAny (model X.prog X.w) X.A (call (.builtin "len") (Value.ref s1.heap.objs.size :: us)) (EP X pins σ Q) X.xe s2) X.xe { s1 with heap := h', toks := tk } := fun h' tk n ⟨o, es, ep, t, ho, hex, hd, hf, hn⟩ en hk => by
      have I2 : L2.Inv X pins σ H1 { s1 with heap := h', toks := tk } := I1.kept hk
      exact PySem.Calls.spliced_nil (call_len_set ho hex hd hf (by rw [hn, en]; have := dedI_le ns; omega) ⟨.int (dedI ns).length, H1, I2.tok _, ⟨_, by rw [hn, en]⟩, q1⟩)
    cases k with
    | l =>
      refine call_set_list (I1.ok.hd hc) pl (by simpa using intsAre_vals r) (by rw [hlen]; unfold scanBound; omega) fun h' tk hS hk => ?_
      obtain ⟨o, es, ep, t, ho, hex, hd, _, _, _, hf, hn⟩ := hS
      refine fin h' tk _ ⟨o, es, ep, t, ho, hex, hd, hf, hn⟩ ?_ fun b o e => hk b o (Heap.lt_size e) e
      rw [hlen, ← firstMet_count ns]
      unfold PyProof.Rows.firstMet
      congr 2
      refine List.ext_getElem (by simp) fun i h1 h2 => ?_
      simp at h1
      simp [List.getD_eq_getElem?_getD, List.getElem?_eq_getElem h2]
    | t =>
      refine call_set_tupI ns (I1.ok.hd hc) pl (by simpa using intsAre_vals r) (by unfold scanBound; omega) fun h' tk c hS hcl hk => ?_
      obtain ⟨o, es, ep, t, ho, hex, hd, _, nd, hmem, _, hf, hn, _⟩ := hS
      refine fin h' tk _ ⟨o, es, ep, t, ho, hex, hd, hf, hn⟩ ?_ hk
      rw [← hn, ← Array.length_toList, ← List.length_map (f := keyOf)]
      exact dedI_len nd fun x => by rw [← hmem x]; simp
end
end Mi

/-! MiFun: what a def promises, calls, a def by its body. -/
namespace Mi
open PySem L2 PySem.Spec
/-- the arguments: with a pot, its place is the first -/
def PotA (pot : Bool) (pr : Option Pr) (vs ws : List V) : Prop := match pot, pr with
  | false, _ => vs = ws
  | true, some q => vs = .ref q.p :: ws
  | true, none => False
/-- the promise: it answers as m does -/
def spOf (C : Cn) (pot : Bool) (n : Nat) (m : Fn) : L2.Sp := fun vs H Q E => ∃ pr G pt ws ds, Same G H ∧ PtR C pr G H pt ∧ PotA pot pr vs ws ∧ vs.length = n ∧ RpL C.K G ws ds ∧
  (m ds pt).sat (fun d pt' => ∀ v G' H', Stp C pr G H G' H' pt' → Rp C.K G' v d → Q v H') (fun x pt' => ∀ c dx G' H', Stp C pr G H G' H' pt' → XcR C x c dx H' → E c dx H')
structure FnG (C : Cn) (P : Program) (w : World) (mg : Str → Option Value) (base : Heap) (k : Nat) (f : Addr) (fd : FuncData) (ps : List Str) (sp : L2.Sp) : Prop where
  len : ∀ vs H Q E, sp vs H Q E → vs.length = ps.length
  go : ∀ (A : Around) (outer : List PySem.Env) (s : Shared) (H : Hp) (args : Args) (us : List Value) (vs : List V) (Q : VK) (E : XK), Room k A → A.guards = some [] → Env0 P w C.K mg base A outer s H →
    BindsTo s fd args (ps.zip us) → Vals vs us → sp vs H Q E → codeAny (model P w) A (.call (.ref f) args) (CR (L2.CX P w) outer P w H s Q E) s
theorem FnG.up {C : Cn} {P : Program} {w : World} {mg : Str → Option Value} {base : Heap} {j k : Nat} {f : Addr} {fd : FuncData} {ps : List Str} {sp : L2.Sp} (F : FnG C P w mg base j f fd ps sp) (h : j ≤ k) : FnG C P w mg base k f fd ps sp :=
  ⟨F.len, fun A outer s H args us vs Q E hr => F.go A outer s H args us vs Q E (hr.mono h)⟩
section
variable {C : Cn} {X : Cx} {W : WX} {k : Nat} {f : Addr} {fd : FuncData} {ps : List Str} {sp : L2.Sp}
theorem go_call {pins : List (Addr × Obj)} {σ : St} {H : Hp} {s : Shared} {Q : VK} {us ws : List Value} {kw : List (Str × Value)} {vs : List V} (hK : X.K = C.K) (F : FnG C X.prog X.w X.mg X.base k f fd ps sp)
    (hr : Room k X.A) (hgd : X.A.guards = some []) (tk : Takes X W) (I : L2.Inv X pins σ H s) (b : BindsTo s fd ⟨us, kw⟩ (ps.zip ws)) (r : Vals vs ws) (h : sp vs H Q (WE W σ)) :
    wpAny (model X.prog X.w) X.A (call (.ref f) us kw) (EP X pins σ Q) X.xe s := by
  have e0 := I.env0
  rw [hK] at e0
  refine wpAny_call (codeAny_mono (F.go X.A X.stack s H ⟨us, kw⟩ ws vs Q (WE W σ) hr hgd e0 b r h) ?_)
  intro res s' hq
  match res, hq with
  | .error e, hq => exact passAt tk σ pins H s e s' I hq
  | .ok (.ret u), hq => exact I.after hq
  | .ok .next, hq => exact hq.elim
  | .ok .brk, hq => exact hq.elim
  | .ok .cont, hq => exact hq.elim
/-- a def of the text, by its body -/
theorem fnG_of {P : Program} {w : World} {mg : Str → Option Value} {base : Heap} {name qual : Str} {params : Arguments} {body : List Stmt} {scope : Scope} {dV kV doc pm cdv ct oc : Value} {an od : Option Addr} {osl : Array (Option Value)} {N : List Str}
    (lk : C.K.lookup f = some ⟨oc, od, .func (PySem.W.fnOf name qual params body scope dV kV doc pm an cdv ct), osl⟩) (hcd : PySem.W.codeIn C.K cdv qual = true) (S : FnScope N ps scope) (len : ∀ vs H Q E, sp vs H Q E → vs.length = ps.length)
    (hbody : ∀ (A : Around) (outer : List PySem.Env) (s : Shared) (H : Hp) (vs : List V) (Q : VK) (E : XK), Room k (A.deeper (PyProof.Rows.envOfC qual scope s.heap.objs.size f cdv)) → A.guards = some [] → sp vs H Q E →
      ∃ t, PSs (cxOf (L2.CX P w) P w C.K mg base N qual scope f cdv A outer s H E) body t ∧ t { nx := fun _ H' => Q .non H', rt := Q } (start N vs) H) :
    FnG C P w mg base (k + 1) f (PySem.W.fnOf name qual params body scope dV kV doc pm an cdv ct) ps sp := by
  constructor
  · exact len
  · intro A outer s H args us vs Q E room gd e0 hb r hs
    have kx : C.K.In s.heap := e0.mod.kin.keeps fun b o e => (e0.bs b o e).1
    have nolim : s.heap.NoLimit := e0.mod.nolimit.keeps fun b o e => (e0.bs b o e).1
    have kinds : ∀ y ∈ ps.zip us, scope.names.lookup y.1 = some .local ∨ (scope.names.lookup y.1 = some .cell ∧ ((cellsFrom (s.heap.objs.size + 1) scope.names []).lookup y.1).isSome = true) := by
      intro y hy
      obtain ⟨n, v⟩ := y
      exact (S.par n (List.of_mem_zip hy).1).imp id fun q => ⟨q, PySem.W.cellsFrom_some _ _ _ (.inl q)⟩
    refine codeAny_call_function room.depth (kx _ _ lk) rfl S.co S.gen rfl (PySem.W.codeRec_of kx hcd) ?_
    refine hb _ _ _ _ (wpAny_newFunctionEnv_cells S.kind kinds fun env he s1 x => ?_)
    subst he
    refine ⟨nolim.keeps x.toInCall.keep, codeAny_func ?_⟩
    obtain ⟨t, ht, hq⟩ := hbody A outer s H vs Q E (room.deeper _) gd hs
    have I := inv_start (E := E) (CX := L2.CX P w) S room.hd e0 (len _ _ _ _ hs) r x
    refine wpAny_mono (ht.run [] s1 (start N vs) H _ I hq) (fun fl s' hf => ?_) fun _ _ z => z
    match fl, hf with
    | .ret u, ⟨v, σ', H', J, rv, q⟩ => exact ⟨v, H', J.os, J.bare, J.base, J.hok, rv, q⟩
    | .next, ⟨σ', H', J, q⟩ => exact ⟨V.non, H', J.os, J.bare, J.base, J.hok, (rfl : RelV V.non Value.none), q⟩
    | .brk, ⟨_, _, _, q⟩ => exact q.elim
    | .cont, ⟨_, _, _, q⟩ => exact q.elim
theorem deeper_guards (A : Around) (env : PySem.Env) : (A.deeper env).guards = A.guards := rfl
end
/-! ### calls -/
section
variable {C : Cn} {X : Cx} {W : WX} {k : Nat} {f : Addr} {fd : FuncData} {ps : List Str} {m : Fn} {g : Mn (List D)} {e : Expr} {es : List Expr} {x : Str} {p pos : Pos}
/-- where a def stands -/
structure Cal (C : Cn) (X : Cx) (k : Nat) (f : Addr) (fd : FuncData) (ps : List Str) (pot : Bool) (m : Fn) (x : Str) : Prop where
  ok : FnG C X.prog X.w X.mg X.base k f fd ps (spOf C pot ps.length m)
  room : Room k X.A
  mg : X.mg x = some (.ref f)
  keep : PySem.W.keepIn X.K (.ref f) = true
  bind : ∀ (s : Shared) (us : List Value), us.length = ps.length → BindsTo s fd ⟨us, []⟩ (ps.zip us)
theorem sp_len {pot : Bool} {n : Nat} {vs : List V} {H : Hp} {Q : VK} {E : XK} (h : spOf C pot n m vs H Q E) : vs.length = n := by
  obtain ⟨pr, G, pt, ws, ds, _, _, _, hl, _⟩ := h
  exact hl
/-- f(e, ..): no pot -/
theorem ex_cal (hK : X.K = C.K) (L : Cal C X k f fd ps false m x) (hgd : X.A.guards = some []) (tk : Takes X W) (hg : Gl X x) (hdb : (x == ("__debug__" : Str)) = false) (hl : ∀ ρ p ds p', g ρ p = .ok ds p' → ds.length = ps.length)
    (he : (e :: es).all nst = true) (ha : PA X (e :: es) (tEs C W g)) : PE X (.Call (.Name x p) (e :: es) [] pos) (tE C W (fun ρ p => (g ρ p).bind fun ds p => m ds p)) := by
  have hs : nst e = true ∧ es.all nst = true := by simpa [List.all_cons] using he
  refine ⟨fun pins s σ H Q I ⟨pr, fps, G, ρ, pt, R, q⟩ => ?_⟩
  refine wpAny_Call_Name_kw (ld_glob I hg L.mg ?_ hdb)
  refine PySem.W.callWith_K (h₀ := X.base) I.ok.mod.kin L.keep (thn (ha.run pos pins s σ H (fun vs H1 => spOf C false ps.length m vs H1 Q (WE W σ)) I ?_) fun us s1 ⟨vs, H1, I1, r, q⟩ => ⟨I1.kIn, ?_⟩) (star_cons hs.1) (star_any hs.2)
  · refine ⟨pr, fps, G, ρ, pt, R, ((sat_bind q).also fun ds p e => hl ρ pt ds p e).mono (fun ds p1 ⟨z, q⟩ vs G1 H1 s1 rs => ?_) fun _ _ q => q⟩
    exact ⟨pr, G1, p1, vs, ds, s1.same, s1.pot, rfl, by rw [rs.length]; exact z, rs, q.mono (fun d p2 q v G2 H2 s2 r => q v G2 H2 (s1.trans R.pot s2) r) fun y p2 q c dx G2 H2 s2 r => q c dx G2 H2 (s1.trans R.pot s2) r⟩
  · exact go_call hK L.ok L.room hgd tk I1 (L.bind s1 us (by rw [← r.length]; exact sp_len q)) r q
theorem ex_cal0 (hK : X.K = C.K) (L : Cal C X k f fd ps false m x) (hgd : X.A.guards = some []) (tk : Takes X W) (hg : Gl X x) (hdb : (x == ("__debug__" : Str)) = false) (hl : ps.length = 0) :
    PE X (.Call (.Name x p) [] [] pos) (tE C W (fun ρ p => m [] p)) := by
  refine ⟨fun pins s σ H Q I ⟨pr, fps, G, ρ, pt, R, q⟩ => ?_⟩
  refine wpAny_Call_Name_kw (ld_glob I hg L.mg ?_ hdb)
  refine PySem.W.callWith_K0 I.kIn L.keep ?_
  refine go_call (vs := []) (ws := []) hK L.ok L.room hgd tk I (L.bind s [] hl.symm) .nil ⟨pr, G, pt, [], [], R.same, R.pot, rfl, hl.symm, .nil, q⟩
/-- f(pot, e, ..) -/
theorem ex_calP {i : Nat} {y : Str} {p2 : Pos} (hK : X.K = C.K) (L : Cal C X k f fd ps true m x) (hgd : X.A.guards = some []) (tk : Takes X W) (hg : Gl X x) (hdb : (x == ("__debug__" : Str)) = false)
    (hN : X.N[i]? = some y) (hv : Vis X.env.scope y) (hd : (y == ("__debug__" : Str)) = false) (hcd : (y == ("__classdict__" : Str)) = false)
    (hl : ∀ ρ p ds p', g ρ p = .ok ds p' → ds.length + 1 = ps.length)
    (he : es.all nst = true) (ha : PA X es (tEs C W g)) : PE X (.Call (.Name x p) (.Name y p2 :: es) [] pos) (tE C W (fun ρ p => match ρ[i]? with
      | some .po => (g ρ p).bind fun ds p => m ds p
      | _ => .bad)) := by
  refine ⟨fun pins s σ H Q I ⟨pr, fps, G, ρ, pt, R, q⟩ => ?_⟩
  have sl := R.slot i
  have q : (match ρ[i]? with | some .po => (g ρ pt).bind fun ds p => m ds p | _ => .bad : Mi.R D).sat _ _ := q
  split at q
  case h_2 => exact q.elim
  rename_i hρ
  rw [hρ] at sl
  obtain ⟨qp, rfl, hσ⟩ := sl
  refine wpAny_Call_Name_kw (ld_glob I hg L.mg ?_ hdb)
  have ha2 : PA X (.Name y p2 :: es) (tCons (tVar i) (tEs C W g)) := pa_cons (pe_var hN hv hd hcd) ha rfl
  refine PySem.W.callWith_K (h₀ := X.base) I.ok.mod.kin L.keep (thn (ha2.run pos pins s σ H (fun vs H1 => spOf C true ps.length m vs H1 Q (WE W σ)) I ?_) fun us s1 ⟨vs, H1, I1, r, q⟩ => ⟨I1.kIn, ?_⟩) rfl (star_any he)
  · refine ⟨_, hσ, some qp, fps, G, ρ, pt, R, ((sat_bind q).also fun ds p e => hl ρ pt ds p e).mono (fun ds p1 ⟨z, q⟩ vs G1 H1 s1 rs => ?_) fun _ _ q => q⟩
    exact ⟨some qp, G1, p1, vs, ds, s1.same, s1.pot, rfl, by rw [List.length_cons, rs.length]; exact z, rs, q.mono (fun d p2 q v G2 H2 s2 r => q v G2 H2 (s1.trans R.pot s2) r) fun y p2 q c dx G2 H2 s2 r => q c dx G2 H2 (s1.trans R.pot s2) r⟩
  · exact go_call hK L.ok L.room hgd tk I1 (L.bind s1 us (by rw [← r.length]; exact sp_len q)) r q
/-! keywords alone -/
def kwN : List Keyword → Option (List Str)
  | [] => some []
  | ⟨some n, _, _⟩ :: ks => (kwN ks).map (n :: ·)
  | ⟨none, _, _⟩ :: _ => none
theorem kw_all {env : PySem.Env} : ∀ {kws : List Keyword} {ks : List Str}, kwN kws = some ks → (backToKw pos (keywordEach kws env)).all (·.1.isSome) = true ∧ (backToKw pos (keywordEach kws env)).filterMap (·.1) = ks ∧ (backToKw pos (keywordEach kws env)).any (·.1.isNone) = false
  | [], ks, h => by cases h; exact ⟨rfl, rfl, rfl⟩
  | ⟨some n, v, q⟩ :: r, ks, h => by
    obtain ⟨ks', h1, rfl⟩ := Option.map_eq_some_iff.mp (show (kwN r).map (n :: ·) = some ks from h)
    obtain ⟨a, b, c⟩ := kw_all (env := env) h1
    refine ⟨?_, ?_, ?_⟩
    · show (true && _) = true
      rw [Bool.true_and]; exact a
    · show n :: _ = _
      rw [← b]; rfl
    · show (false || _) = false
      rw [Bool.false_or]; exact c
  | ⟨none, v, q⟩ :: r, ks, h => by cases h
def pick {α : Type} (d : α) (l : List α) (ix : List Nat) : List α := ix.map fun j => l.getD j d
theorem vals_pick {zs : List V} {us : List Value} (r : Vals zs us) : ∀ ix : List Nat, (∀ j ∈ ix, j < zs.length) → Vals (pick .non zs ix) (pick .none us ix)
  | [], _ => .nil
  | j :: ix, h => by
    have hj := h j List.mem_cons_self
    obtain ⟨u, h1, h2⟩ := r.get (List.getElem?_eq_getElem hj)
    have ih := vals_pick r ix fun i hi => h i (List.mem_cons_of_mem _ hi)
    refine .cons ?_ ih
    show RelV (zs.getD j V.non) (us.getD j Value.none)
    rw [List.getD_eq_getElem?_getD, List.getD_eq_getElem?_getD, List.getElem?_eq_getElem hj, h1]
    exact h2
theorem rpl_pick {K : PySem.W.Frag} {G : Hp} {zs : List V} {ds : List D} (r : RpL K G zs ds) : ∀ ix : List Nat, (∀ j ∈ ix, j < zs.length) → RpL K G (pick .non zs ix) (pick .none ds ix)
  | [], _ => .nil
  | j :: ix, h => by
    have hj := h j List.mem_cons_self
    obtain ⟨u, h1, h2⟩ := r.getV (List.getElem?_eq_getElem hj)
    have ih := rpl_pick r ix fun i hi => h i (List.mem_cons_of_mem _ hi)
    refine .cons ?_ ih
    show Rp K G (zs.getD j V.non) (ds.getD j PyData.none)
    rw [List.getD_eq_getElem?_getD, List.getD_eq_getElem?_getD, List.getElem?_eq_getElem hj, h1]
    exact h2
theorem kw_nil : L2.PK X [] (tEs C W (fun _ p => .ok [] p)) := ⟨fun pos pins s σ H Q I ⟨pr, fps, G, ρ, pt, R, q⟩ => pk_nil.run pos pins s σ H Q I (q [] G H (.refl R.same R.pot) .nil)⟩
theorem kw_cons {kws : List Keyword} {f : Mn D} {n : Option Str} {kp : Pos} (he : PE X e (tE C W f)) (h : L2.PK X kws (tEs C W g)) : L2.PK X (⟨n, e, kp⟩ :: kws) (tEs C W (fun ρ p => (f ρ p).bind fun x p => (g ρ p).bind fun xs p => .ok (x :: xs) p)) :=
  ⟨fun pos pins s σ H Q I ⟨pr, fps, G, ρ, pt, R, q⟩ => (pk_cons he h).run pos pins s σ H Q I ⟨pr, fps, G, ρ, pt, R, (sat_bind q).mono (fun d p1 q v G1 H1 s1 r => ⟨pr, fps, G1, ρ, p1, R.step s1, (sat_bind q).mono (fun ds p2 q vs G2 H2 s2 rs =>
    q (v :: vs) G2 H2 (s1.trans R.pot s2) (.cons (r.mono s2.sG) rs)) fun _ _ q => q.after R.pot s1⟩) fun _ _ q => q⟩⟩
/-- f(k = e, ..) -/
theorem ex_calK {kws : List Keyword} {ks : List Str} {ix : List Nat} (hK : X.K = C.K) (L : Cal C X k f fd ps false m x) (hgd : X.A.guards = some []) (tk : Takes X W) (hg : Gl X x) (hdb : (x == ("__debug__" : Str)) = false)
    (hks : kwN kws = some ks) (hb : ∀ (s : Shared) (us : List Value), us.length = ks.length → BindsTo s fd ⟨[], ks.zip us⟩ (ps.zip (pick .none us ix))) (hix : ix.length = ps.length) (hlt : ∀ j ∈ ix, j < ks.length)
    (hl : ∀ ρ p ds p', g ρ p = .ok ds p' → ds.length = ks.length) (ha : L2.PK X kws (tEs C W g)) : PE X (.Call (.Name x p) [] kws pos) (tE C W (fun ρ p => (g ρ p).bind fun ds p => m (pick .none ds ix) p)) := by
  refine ⟨fun pins s σ H Q I ⟨pr, fps, G, ρ, pt, R, q⟩ => ?_⟩
  refine wpAny_Call_Name_kw (ld_glob I hg L.mg ?_ hdb)
  obtain ⟨a1, a2, a3⟩ := kw_all (pos := pos) (env := X.env) hks
  refine PySem.W.callWith_KW0 (h₀ := X.base) I.ok.mod.kin L.keep a1 (thn (ha.run pos pins s σ H (fun zs H1 => zs.length = ks.length ∧ spOf C false ps.length m (pick .non zs ix) H1 Q (WE W σ)) I ?_) fun us s1 ⟨zs, H1, I1, r, hz, q⟩ => ⟨I1.kIn, ?_⟩) (by show (false || _) = false; rw [Bool.false_or]; exact a3)
  · refine ⟨pr, fps, G, ρ, pt, R, ((sat_bind q).also fun ds p e => hl ρ pt ds p e).mono (fun ds p1 ⟨z, q⟩ vs G1 H1 s1 rs => ?_) fun _ _ q => q⟩
    have zl : vs.length = ks.length := by rw [rs.length]; exact z
    refine ⟨zl, pr, G1, p1, pick .non vs ix, pick .none ds ix, s1.same, s1.pot, rfl, by unfold pick; rw [List.length_map]; exact hix, rpl_pick rs ix fun j hj => by rw [zl]; exact hlt j hj, ?_⟩
    exact q.mono (fun d p2 q v G2 H2 s2 r => q v G2 H2 (s1.trans R.pot s2) r) fun y p2 q c dx G2 H2 s2 r => q c dx G2 H2 (s1.trans R.pot s2) r
  · rw [a2]
    exact go_call hK L.ok L.room hgd tk I1 (hb s1 us (by rw [← r.length]; exact hz)) (vals_pick r ix fun j hj => by rw [hz]; exact hlt j hj) q
end
end Mi

/-! MiComp: targets, what is walked, comprehensions. -/
namespace Mi
open PySem L2
/-- the names in sight -/
structure Sc where
  N : List Str
  sc : Scope
  fx : Option Scope
def fnS : Option Scope → Str → Bool
  | none, _ => true
  | some s, x => s.names.lookup x == some .cell
def Sc.loc (S : Sc) (x : Str) : Bool := match S.sc.names.lookup x with
  | some .local => true
  | some .cell => fnS S.fx x
  | _ => false
def plainN (x : Str) : Bool := !(x == ("__debug__" : Str)) && !(x == ("__classdict__" : Str)) && !(x == ("__name__" : Str))
def Sc.vis (S : Sc) (x : Str) : Bool := plainN x && match S.sc.names.lookup x with
  | some .local => true
  | some .cell => true
  | some .free => true
  | _ => false
def Sc.glo (S : Sc) (x : Str) : Bool := plainN x && (S.sc.names.lookup x == some .globalImplicit)
mutual
def tvs : Tg → List Nat
  | .nm i => [i]
  | .tp ts => tvss ts
def tvss : Tgs → List Nat
  | .nil => []
  | .cons t ts => tvs t ++ tvss ts
end
def Tgs.len : Tgs → Nat
  | .nil => 0
  | .cons _ ts => ts.len + 1
mutual
def chT (S : Sc) : Tg → Expr → Bool
  | .nm i, .Name x _ => decide (S.N[i]? = some x) && S.loc x
  | .tp ts, .Tuple es _ _ => chTs S ts es
  | _, _ => false
def chTs (S : Sc) : Tgs → List Expr → Bool
  | .nil, [] => true
  | .cons t ts, e :: es => chT S t e && chTs S ts es
  | _, _ => false
end
/-- the context X has the names of S -/
structure NmOk (S : Sc) (X : Cx) : Prop where
  n : X.N = S.N
  nd : X.N.Nodup
  sc : X.env.scope = S.sc
  fn : ∀ x, fnS S.fx x = true → X.fn x = true
  calm : X.calm = true
/-- other slots stay -/
def Chg (vs : List Nat) (σ σ' : St) : Prop := σ'.length = σ.length ∧ ∀ i, i ∉ vs → σ'[i]? = σ[i]?
theorem Chg.refl {vs : List Nat} {σ : St} : Chg vs σ σ := ⟨rfl, fun _ _ => rfl⟩
theorem Chg.mono {vs vs' : List Nat} {σ σ' : St} (h : Chg vs σ σ') (k : ∀ i, i ∈ vs → i ∈ vs') : Chg vs' σ σ' := ⟨h.1, fun i hi => h.2 i fun z => hi (k i z)⟩
theorem Chg.trans {vs : List Nat} {σ σ' σ'' : St} (h : Chg vs σ σ') (k : Chg vs σ' σ'') : Chg vs σ σ'' := ⟨k.1.trans h.1, fun i hi => (k.2 i hi).trans (h.2 i hi)⟩
theorem wipe_in {σ : St} {i : Nat} : ∀ {vs : List Nat}, i ∈ vs → i < σ.length → (wipe σ vs)[i]? = some none
  | v :: vs, h, hl => by
    unfold wipe
    by_cases e : v = i
    · subst e
      rw [List.getElem?_set_self (by rw [wipe_length]; exact hl)]
    · rw [List.getElem?_set_ne e]
      exact wipe_in ((List.mem_cons.mp h).resolve_left fun z => e z.symm) hl
theorem wipe_big {σ : St} {i : Nat} {vs : List Nat} (hl : ¬ i < σ.length) : (wipe σ vs)[i]? = none := List.getElem?_eq_none (by rw [wipe_length]; omega)
theorem Chg.wipe {vs own : List Nat} {σ σ' : St} (h : Chg vs σ σ') (k : ∀ i ∈ vs, i ∈ own) : L2.wipe σ' own = L2.wipe σ own := by
  refine List.ext_getElem? fun i => ?_
  by_cases hl : i < σ.length
  · by_cases hi : i ∈ own
    · rw [wipe_in hi hl, wipe_in hi (by rw [h.1]; exact hl)]
    · rw [wipe_out hi, wipe_out hi]
      exact h.2 i fun z => hi (k i z)
  · rw [wipe_big hl, wipe_big (by rw [h.1]; exact hl)]
section
variable {C : Cn} {pr : Option Pr} {fps : Nat → List Addr} {G H : Hp} {σ : St} {ρ : Mi.Env} {pt : Pt}
/-- slot i is given away -/
def clr (fps : Nat → List Addr) (i : Nat) : Nat → List Addr := fun j => if j = i then [] else fps j
theorem clr_sub {i j : Nat} {a : Addr} (h : a ∈ clr fps i j) : a ∈ fps j ∧ j ≠ i := by
  unfold clr at h
  split at h
  · cases h
  · exact ⟨h, by assumption⟩
/-- a slot takes a shared value -/
theorem Rel.put (R : Rel C pr fps G H σ ρ pt) {i : Nat} {v : V} {d : D} (r : Rp C.K G v d) : Rel C pr (clr fps i) G H (σ.set i (some v)) (ρ.set i (.sh d)) pt := by
  refine ⟨R.same, by rw [List.length_set, List.length_set]; exact R.len, fun j => ?_, fun j k a h1 h2 => R.dis j k a (clr_sub h1).1 (clr_sub h2).1, fun j a h => R.fre j a (clr_sub h).1, R.pot⟩
  by_cases e : j = i
  · subst e
    by_cases hl : j < ρ.length
    · rw [List.getElem?_set_self hl, List.getElem?_set_self (by rw [R.len]; exact hl)]
      exact ⟨v, rfl, r⟩
    · rw [List.getElem?_eq_none (l := ρ.set j _) (by rw [List.length_set]; omega)]
      trivial
  · rw [List.getElem?_set_ne (Ne.symm e), List.getElem?_set_ne (Ne.symm e)]
    unfold clr
    rw [if_neg e]
    exact R.slot j
/-- slots forgotten -/
theorem Rel.wipe1 (R : Rel C pr fps G H σ ρ pt) (i : Nat) : Rel C pr (clr fps i) G H (σ.set i none) (ρ.set i .no) pt := by
  refine ⟨R.same, by rw [List.length_set, List.length_set]; exact R.len, fun j => ?_, fun j k a h1 h2 => R.dis j k a (clr_sub h1).1 (clr_sub h2).1, fun j a h => R.fre j a (clr_sub h).1, R.pot⟩
  by_cases e : j = i
  · subst e
    by_cases hl : j < ρ.length
    · rw [List.getElem?_set_self hl]
      trivial
    · rw [List.getElem?_eq_none (l := ρ.set j _) (by rw [List.length_set]; omega)]
      trivial
  · rw [List.getElem?_set_ne (Ne.symm e), List.getElem?_set_ne (Ne.symm e)]
    unfold clr
    rw [if_neg e]
    exact R.slot j
theorem Rel.wipe (R : Rel C pr fps G H σ ρ pt) : ∀ vs : List Nat, ∃ fps', Rel C pr fps' G H (L2.wipe σ vs) (wipes ρ vs) pt ∧ ∀ i a, a ∈ fps' i → a ∈ fps i
  | [] => ⟨fps, R, fun _ _ h => h⟩
  | v :: vs => by
    obtain ⟨fps', h, k⟩ := Rel.wipe R vs
    exact ⟨_, h.wipe1 v, fun i a z => k i a (clr_sub z).1⟩
/-- what is known of the pure side only is enough for a wiped slot of the heap side -/
theorem Rel.wipeP (R : Rel C pr fps G H σ ρ pt) : ∀ vs : List Nat, ∃ fps', Rel C pr fps' G H σ (wipes ρ vs) pt ∧ ∀ i a, a ∈ fps' i → a ∈ fps i := by
  have one : ∀ {fps : Nat → List Addr} {ρ : Mi.Env} (i : Nat), Rel C pr fps G H σ ρ pt → Rel C pr (clr fps i) G H σ (ρ.set i .no) pt := fun {fps ρ} i R => by
    refine ⟨R.same, by rw [List.length_set]; exact R.len, fun j => ?_, fun j k a h1 h2 => R.dis j k a (clr_sub h1).1 (clr_sub h2).1, fun j a h => R.fre j a (clr_sub h).1, R.pot⟩
    by_cases e : j = i
    · subst e
      by_cases hl : j < ρ.length
      · rw [List.getElem?_set_self hl]
        trivial
      · rw [List.getElem?_eq_none (l := ρ.set j _) (by rw [List.length_set]; omega)]
        trivial
    · rw [List.getElem?_set_ne (Ne.symm e)]
      unfold clr
      rw [if_neg e]
      exact R.slot j
  intro vs
  induction vs with
  | nil => exact ⟨fps, R, fun _ _ h => h⟩
  | cons v vs ih =>
    obtain ⟨fps', h, k⟩ := ih
    exact ⟨_, one v h, fun i a z => k i a (clr_sub z).1⟩
end
/-- a target, by meaning -/
def tG (C : Cn) (tg : Tg) : TG := fun v σ H Q => ∃ pr fps G ρ pt d ρ', Rel C pr fps G H σ ρ pt ∧ Rp C.K G v d ∧ bindT tg d ρ = some ρ' ∧
  ∀ σ' fps', Rel C pr fps' G H σ' ρ' pt → (∀ i a, a ∈ fps' i → a ∈ fps i) → Chg (tvs tg) σ σ' → Q σ' H
def tGs (C : Cn) (tg : Tgs) : TGs := fun vs σ H Q => ∃ pr fps G ρ pt ds ρ', Rel C pr fps G H σ ρ pt ∧ RpL C.K G vs ds ∧ bindTs tg ds ρ = some ρ' ∧
  ∀ σ' fps', Rel C pr fps' G H σ' ρ' pt → (∀ i a, a ∈ fps' i → a ∈ fps i) → Chg (tvss tg) σ σ' → Q σ' H
theorem PG.imp {X : Cx} {e : Expr} {t t' : TG} (h : PG X e t) (i : ∀ v σ H Q, t' v σ H Q → t v σ H Q) : PG X e t' := ⟨fun pins s σ H v u Q I r q => h.run pins s σ H v u Q I r (i v σ H Q q)⟩
theorem PGs.imp {X : Cx} {e : List Expr} {t t' : TGs} (h : PGs X e t) (i : ∀ v σ H Q, t' v σ H Q → t v σ H Q) : PGs X e t' := ⟨fun pins s σ H v u Q I r q => h.run pins s σ H v u Q I r (i v σ H Q q)⟩
theorem PG.or {X : Cx} {e : Expr} {t t' : TG} (h : PG X e t) (h' : PG X e t') : PG X e (fun v σ H Q => t v σ H Q ∨ t' v σ H Q) := ⟨fun pins s σ H v u Q I r q => by
  rcases q with q | q
  · exact h.run pins s σ H v u Q I r q
  · exact h'.run pins s σ H v u Q I r q⟩
theorem asg_cons {t : Expr} {es : List Expr} {env : PySem.Env} (h : nst t = true) : assignEach (t :: es) env = (false, assign t env) :: assignEach es env := by
  cases t <;> first
    | rfl
    | cases h
theorem chT_nst {S : Sc} {t : Tg} {e : Expr} (h : chT S t e = true) : nst e = true := by
  cases e <;> first
    | rfl
    | (cases t <;> cases h)
theorem chTs_all {S : Sc} : ∀ {ts : Tgs} {es : List Expr} {env : PySem.Env}, chTs S ts es = true → (assignEach es env).length = ts.len ∧ (assignEach es env).findIdx? (·.1) = none
  | .nil, [], _, _ => ⟨rfl, rfl⟩
  | .cons t ts, e :: es, env, h => by
    simp only [chTs, Bool.and_eq_true] at h
    obtain ⟨h1, h2⟩ := chTs_all (env := env) h.2
    rw [asg_cons (chT_nst h.1)]
    refine ⟨by rw [List.length_cons, h1]; rfl, ?_⟩
    rw [List.findIdx?_cons, h2]
    rfl
  | .nil, _ :: _, _, h => by simp [chTs] at h
  | .cons _ _, [], _, h => by simp [chTs] at h
theorem bindTs_len : ∀ {ts : Tgs} {ds : List D} {ρ ρ' : Mi.Env}, bindTs ts ds ρ = some ρ' → ds.length = ts.len
  | .nil, [], _, _, _ => rfl
  | .cons t ts, d :: ds, ρ, ρ', h => by
    simp only [bindTs] at h
    obtain ⟨ρ1, _, h2⟩ := Option.bind_eq_some_iff.mp h
    rw [List.length_cons, bindTs_len h2]; rfl
  | .nil, _ :: _, _, _, h => by simp [bindTs] at h
  | .cons _ _, [], _, _, h => by simp [bindTs] at h
section
variable {C : Cn} {X : Cx} {S : Sc}
theorem loc_ok (n : NmOk S X) {x : Str} (h : S.loc x = true) : Loc X.env.scope x ∧ (X.fn x = true ∨ X.env.scope.names.lookup x = some .local) := by
  rw [n.sc]
  unfold Sc.loc at h
  split at h
  · rename_i e; exact ⟨.inl e, .inr e⟩
  · rename_i e; exact ⟨.inr e, .inl (n.fn x h)⟩
  · cases h
theorem vis_ok (n : NmOk S X) {x : Str} (h : S.vis x = true) : Vis X.env.scope x ∧ (x == ("__debug__" : Str)) = false ∧ (x == ("__classdict__" : Str)) = false := by
  rw [n.sc]
  simp only [Sc.vis, plainN, Bool.and_eq_true, Bool.not_eq_true'] at h
  obtain ⟨⟨⟨h1, h2⟩, h4⟩, h3⟩ := h
  refine ⟨?_, h1, h2⟩
  split at h3
  · exact .inl (by assumption)
  · exact .inr (.inl (by assumption))
  · exact .inr (.inr (by assumption))
  · cases h3
theorem glo_ok (n : NmOk S X) {x : Str} (h : S.glo x = true) : Gl X x ∧ (x == ("__debug__" : Str)) = false ∧ x ≠ "__name__" := by
  simp only [Sc.glo, plainN, Bool.and_eq_true, Bool.not_eq_true'] at h
  obtain ⟨⟨⟨h1, h2⟩, h4⟩, h3⟩ := h
  refine ⟨?_, h1, fun e => by rw [e] at h4; exact absurd h4 (by decide)⟩
  show X.env.scope.names.lookup x = _
  rw [n.sc]
  exact eq_of_beq h3
mutual
theorem pg_T (n : NmOk S X) (hK : X.K = C.K) : ∀ {tg : Tg} {e : Expr}, chT S tg e = true → PG X e (tG C tg)
  | .nm i, e, h => by
    cases e <;> simp only [chT, Bool.false_eq_true] at h
    case Name x pos =>
      simp only [Bool.and_eq_true, decide_eq_true_eq] at h
      obtain ⟨h1, h2⟩ := h
      obtain ⟨l1, l2⟩ := loc_ok n h2
      refine PG.imp (pg_name (i := i) n.nd (by rw [n.n]; exact h1) l1 l2) fun v σ H Q ⟨pr, fps, G, ρ, pt, d, ρ', R, r, b, k⟩ => ?_
      simp only [bindT, Option.some.injEq] at b
      subst b
      refine k _ _ (R.put r) (fun i a z => (clr_sub z).1) ⟨by rw [List.length_set], fun j hj => ?_⟩
      rw [List.getElem?_set_ne (by rintro rfl; exact hj (by simp [tvs]))]
  | .tp ts, e, h => by
    cases e <;> simp only [chT, Bool.false_eq_true] at h
    case Tuple es kk pos =>
      have ps := pg_Ts n hK h
      obtain ⟨a1, a2⟩ := chTs_all (env := X.env) h
      refine PG.imp (PG.or (pg_tup n.calm ps a1 a2) (pg_lst n.calm ps a1 a2)) fun v σ H Q ⟨pr, fps, G, ρ, pt, d, ρ', R, r, b, k⟩ => ?_
      cases d <;> simp only [bindT, reduceCtorEq] at b
      case list ds =>
        cases r with
        | lst h1 rl => exact .inr ⟨_, _, rfl, SqL.of (R.same _ _ h1), by rw [rl.length, bindTs_len b], pr, fps, G, ρ, pt, ds, ρ', R, rl, b, k⟩
      case tuple ds =>
        cases r with
        | tup h1 rl => exact .inl ⟨_, _, rfl, hK ▸ Same.sqT R.same h1, by rw [rl.length, bindTs_len b], pr, fps, G, ρ, pt, ds, ρ', R, rl, b, k⟩
theorem pg_Ts (n : NmOk S X) (hK : X.K = C.K) : ∀ {ts : Tgs} {es : List Expr}, chTs S ts es = true → PGs X es (tGs C ts)
  | .nil, es, h => by
    cases es with
    | nil =>
      refine PGs.imp pgs_nil fun vs σ H Q ⟨pr, fps, G, ρ, pt, ds, ρ', R, r, b, k⟩ => ?_
      cases ds with
      | nil =>
        simp only [bindTs, Option.some.injEq] at b
        subst b
        cases r
        exact ⟨rfl, k σ fps R (fun _ _ h => h) Chg.refl⟩
      | cons d ds => simp [bindTs] at b
    | cons e es => simp [chTs] at h
  | .cons t ts, es, h => by
    cases es with
    | nil => simp [chTs] at h
    | cons e es =>
      simp only [chTs, Bool.and_eq_true] at h
      refine PGs.imp (pgs_cons (pg_T n hK h.1) (pg_Ts n hK h.2) (by rw [asg_cons (chT_nst h.1)]; rfl)) fun vs σ H Q ⟨pr, fps, G, ρ, pt, ds, ρ', R, r, b, k⟩ => ?_
      cases ds with
      | nil => simp [bindTs] at b
      | cons d ds =>
        simp only [bindTs] at b
        obtain ⟨ρ1, b1, b2⟩ := Option.bind_eq_some_iff.mp b
        cases r with
        | cons r1 r2 =>
          refine ⟨_, _, rfl, pr, fps, G, ρ, pt, d, ρ1, R, r1, b1, fun σ1 fps1 R1 s1 c1 => ?_⟩
          refine ⟨pr, fps1, G, ρ1, pt, ds, ρ', R1, r2, b2, fun σ2 fps2 R2 s2 c2 => ?_⟩
          refine k σ2 fps2 R2 (fun i a z => s1 i a (s2 i a z)) ?_
          exact (c1.mono fun i hi => by simp [tvss, hi]).trans (c2.mono fun i hi => by simp [tvss, hi])
end
end
/-! ### what is walked -/
section
variable {C : Cn} {W : WX} {X : Cx} {f fa fb fc : Mn D} {e a b c tg : Expr} {pos p p1 p2 p3 : Pos}
theorem ItR.or {r r' : V → Hp → (L2.It → Hp → Prop) → Prop} (h : ItR X tg r) (h' : ItR X tg r') : ItR X tg (fun x H R => r x H R ∨ r' x H R) := fun pins s σ H x v R I rx q => by
  rcases q with q | q
  · exact h pins s σ H x v R I rx q
  · exact h' pins s σ H x v R I rx q
theorem pi_of {r : V → Hp → (L2.It → Hp → Prop) → Prop} {te : L2.TE} (he : PE X e te) (hr : ItR X tg r) : PI X tg e (fun σ H R => te σ H fun x H1 => r x H1 R) :=
  ⟨fun pins s σ H R I h => thn (he.run pins s σ H _ I h) fun v s1 ⟨x, H1, I1, r1, q⟩ => hr pins s1 σ H1 x v R I1 r1 q⟩
/-- for x in e -/
theorem wi_ex (hK : X.K = C.K) (h : PE X e (tE C W f)) : PI X tg e (tI C W (fun ρ p => (f ρ p).bind fun x p => .lift (items x) p)) :=
  PI.imp (pi_of h (it_list.or it_tup)) fun σ H Q ⟨pr, fps, G, ρ, pt, R, q⟩ => ⟨pr, fps, G, ρ, pt, R, (sat_bind q).mono (fun d p1 q v G1 H1 s1 r => by
    obtain ⟨ds, ei, q⟩ := sat_lift q
    rw [hK]
    cases d <;> simp only [items, reduceCtorEq, Option.some.injEq] at ei
    case list l =>
      subst ei
      cases r with
      | lst h1 rl => exact .inl ⟨_, _, rfl, SqL.of (s1.same _ _ h1), q _ G1 H1 s1 (ylS_list h1 rl)⟩
    case tuple l =>
      subst ei
      cases r with
      | tup h1 rl => exact .inr ⟨_, _, rfl, Same.sqT s1.same h1, q _ G1 H1 s1 (ylS_tup h1 rl)⟩) fun _ _ q => q⟩
theorem wi_exB (hK : X.K = C.K) (h : PE X e (tBo C W f)) : PI X tg e (tIB C W (fun ρ p => (f ρ p).bind fun x p => .lift (items x) p)) :=
  PI.imp (pi_of h (it_list.or it_tup)) fun σ H Q ⟨pr, fps, G, ρ, pt, R, q⟩ => ⟨pr, fps, G, ρ, pt, R, (sat_bind q).mono (fun d p1 q v G1 H1 s1 r => by
    obtain ⟨ds, ei, q⟩ := sat_lift q
    rw [hK]
    rcases r with r | ⟨p, xs, ds', rfl, e2, np, hp, rl⟩
    · cases d <;> simp only [items, reduceCtorEq, Option.some.injEq] at ei
      case list l =>
        subst ei
        cases r with
        | lst h1 rl => exact .inl ⟨_, _, rfl, SqL.of (s1.same _ _ h1), q _ G1 H1 s1 (ylS_list h1 rl).yl⟩
      case tuple l =>
        subst ei
        cases r with
        | tup h1 rl => exact .inr ⟨_, _, rfl, Same.sqT s1.same h1, q _ G1 H1 s1 (ylS_tup h1 rl).yl⟩
    · subst e2
      simp only [items, Option.some.injEq] at ei
      subst ei
      exact .inl ⟨p, xs, rfl, SqL.of hp, q _ G1 H1 s1 (yl_own hp np rl)⟩) fun _ _ q => q⟩
theorem wi_b {g : Mn (List D)} (h : PI X tg e (tI C W g)) : PI X tg e (tIB C W g) :=
  PI.imp h fun σ H Q ⟨pr, fps, G, ρ, pt, R, q⟩ => ⟨pr, fps, G, ρ, pt, R, q.mono (fun ds p1 q J G1 H1 s1 y => q J G1 H1 s1 y.yl) fun _ _ q => q⟩
theorem rb_ok {i : Int} (h : rb i = true) : -(2 ^ 62) ≤ i ∧ i < 2 ^ 62 := by
  simp only [rb, Bool.and_eq_true, decide_eq_true_eq] at h
  omega
theorem wi_rng1 (hg : Gl X "range") (hm : X.mg "range" = none) (hs : nst a = true) (ha : PE X a (tE C W fa)) : PI X tg (.Call (.Name "range" p) [a] [] pos) (tI C W (fun ρ p => (fa ρ p).bind fun x p => match x with
    | .int i => if rb i then .ok (rngL 0 i.toNat) p else .bad
    | _ => .bad)) :=
  PI.imp (pi_range1 hg hm (pa_cons ha pa_nil (star_cons hs)) (star_cons hs)) fun σ H Q ⟨pr, fps, G, ρ, pt, R, q⟩ => ⟨pr, fps, G, ρ, pt, R, (sat_bind q).mono (fun d p1 q v G1 H1 s1 r => by
    split at q
    · cases r
      rename_i i
      by_cases hb : rb i = true
      · rw [if_pos hb] at q
        obtain ⟨b1, b2⟩ := rb_ok hb
        exact ⟨i, rfl, b1, b2, q _ G1 H1 s1 (ylS_rng 0 _)⟩
      · rw [if_neg hb] at q
        exact q.elim
    · exact q.elim) fun _ _ q => q⟩
theorem wi_rng2 (hg : Gl X "range") (hm : X.mg "range" = none) (hs : nst a = true) (hs2 : nst b = true) (ha : PE X a (tE C W fa)) (hb : PE X b (tE C W fb)) : PI X tg (.Call (.Name "range" p) [a, b] [] pos) (tI C W (fun ρ p => (fa ρ p).bind fun x p => (fb ρ p).bind fun y p => match x, y with
    | .int i, .int j => if rb i && rb j then .ok (rngL i (j - i).toNat) p else .bad
    | _, _ => .bad)) :=
  PI.imp (pi_range2 hg hm (pa_cons ha (pa_cons hb pa_nil (star_cons hs2)) (star_cons hs)) (by rw [star_cons hs, star_cons hs2]; rfl) (star_cons hs2)) fun σ H Q ⟨pr, fps, G, ρ, pt, R, q⟩ => ⟨pr, fps, G, ρ, pt, R, (sat_bind q).mono (fun d p1 q v G1 H1 s1 r =>
    ⟨pr, fps, G1, ρ, p1, R.step s1, (sat_bind q).mono (fun d2 p2 q v2 G2 H2 s2 r2 => by
    cases d <;> cases d2 <;> first
      | exact False.elim q
      | skip
    case int.int i qq j =>
      cases r
      cases r2
      have q : (if (rb i && rb j) = true then Mi.R.ok (rngL i (j - i).toNat) p2 else Mi.R.bad : Mi.R (List D)).sat _ _ := q
      by_cases hb : (rb i && rb j) = true
      · rw [if_pos hb] at q
        rw [Bool.and_eq_true] at hb
        obtain ⟨b1, b2⟩ := rb_ok hb.1
        obtain ⟨b3, b4⟩ := rb_ok hb.2
        exact ⟨i, j, rfl, ⟨b1, b2, b3, b4⟩, q _ G2 H2 (s1.trans R.pot s2) (ylS_rng i _)⟩
      · rw [if_neg hb] at q
        exact q.elim) fun _ _ q => q.after R.pot s1⟩) fun _ _ q => q⟩
/-! ### list(range(..)) -/
theorem rgV_eq (i : Int) : ∀ n : Nat, (List.range n).map (fun k => V.int (i + (k : Nat))) = (rngL i n).map fun d => match d with
    | .int j => V.int j
    | _ => .non := by
  intro n
  refine List.ext_getElem? fun k => ?_
  rw [List.getElem?_map, List.getElem?_map]
  by_cases hk : k < n
  · rw [List.getElem?_range hk]
    cases e : (rngL i n)[k]? with
    | none =>
      have := List.getElem?_eq_none_iff.mp e
      rw [rngL_length] at this; omega
    | some d =>
      obtain ⟨_, rfl⟩ := rngL_get n k i d e
      rfl
  · rw [List.getElem?_eq_none (by simpa using hk), List.getElem?_eq_none (by rw [rngL_length]; omega)]
    rfl
theorem rpl_rng {K : PySem.W.Frag} {G : Hp} (n : Nat) : ∀ i : Int, RpL K G ((rngL i n).map fun d => match d with
    | .int j => V.int j
    | _ => .non) (rngL i n) := by
  induction n with
  | zero => intro i; exact .nil
  | succ n ih => intro i; exact .cons (.int i) (ih (i + 1))
theorem lim24 : lim ≤ 2 ^ 24 := by decide
/-- list(range(a)), tuple(range(a)) -/
theorem ex_lstRg {g : Mn (List D)} {te : St → Hp → (Int → Int → Hp → Prop) → Prop} (hc : X.calm = true) (hg : Gl X "list") (hm : X.mg "list" = none) (hs : nst e = true) (he : PRg X e te)
    (ht : ∀ σ H (Q : Int → Int → Hp → Prop) pr fps G ρ pt, Rel C pr fps G H σ ρ pt → (g ρ pt).sat (fun ds pt' => ∀ i j G' H', Stp C pr G H G' H' pt' → rb i = true → rb j = true → ds = rngL i (j - i).toNat → Q i j H') (erW C W pr G H σ) → te σ H Q) :
    PE X (.Call (.Name "list" p) [e] [] pos) (tFr C W (fun ρ p => (g ρ p).bind fun ds p => if ds.length ≤ lim then .ok (.list ds) p else .bad)) :=
  PE.imp (pe_listRg hc hg hm he (star_cons hs)) fun σ H Q ⟨pr, fps, G, ρ, pt, R, q⟩ => ht σ H _ pr fps G ρ pt R ((sat_bind q).mono (fun ds p1 q i j G1 H1 s1 bi bj ed => by
    by_cases hl : ds.length ≤ lim
    · rw [if_pos hl] at q
      obtain ⟨b1, b2⟩ := rb_ok bi
      obtain ⟨b3, b4⟩ := rb_ok bj
      rw [ed, rngL_length] at hl
      refine ⟨⟨b1, b2, b3, b4, Nat.le_trans hl lim24⟩, fun z hz => ?_⟩
      have st := Stp.layH (o := .lst (rgV i j)) s1.same s1.pot hz
      refine q _ _ _ (s1.trans R.pot st) ⟨z, _, rfl, s1.back R.pot hz, s1.same.free hz, upd_same, ?_⟩
      rw [ed]
      unfold rgV
      rw [rgV_eq]
      exact rpl_rng _ _
    · rw [if_neg hl] at q
      exact q.elim) fun _ _ q => q)
theorem ex_tupRg {g : Mn (List D)} {te : St → Hp → (Int → Int → Hp → Prop) → Prop} (hc : X.calm = true) (hg : Gl X "tuple") (hm : X.mg "tuple" = none) (hs : nst e = true) (he : PRg X e te)
    (ht : ∀ σ H (Q : Int → Int → Hp → Prop) pr fps G ρ pt, Rel C pr fps G H σ ρ pt → (g ρ pt).sat (fun ds pt' => ∀ i j G' H', Stp C pr G H G' H' pt' → rb i = true → rb j = true → ds = rngL i (j - i).toNat → Q i j H') (erW C W pr G H σ) → te σ H Q) :
    PE X (.Call (.Name "tuple" p) [e] [] pos) (tE C W (fun ρ p => (g ρ p).bind fun ds p => if ds.length ≤ lim then .ok (.tuple ds) p else .bad)) :=
  PE.imp (pe_tupRg hc hg hm he (star_cons hs)) fun σ H Q ⟨pr, fps, G, ρ, pt, R, q⟩ => ht σ H _ pr fps G ρ pt R ((sat_bind q).mono (fun ds p1 q i j G1 H1 s1 bi bj ed => by
    by_cases hl : ds.length ≤ lim
    · rw [if_pos hl] at q
      obtain ⟨b1, b2⟩ := rb_ok bi
      obtain ⟨b3, b4⟩ := rb_ok bj
      rw [ed, rngL_length] at hl
      refine ⟨⟨b1, b2, b3, b4, Nat.le_trans hl lim24⟩, fun z hz => ?_⟩
      have st := Stp.lay (o := .tup (rgV i j)) s1.same s1.pot hz
      refine q _ _ _ (s1.trans R.pot st) (.tup (SqT.of upd_same) ?_)
      rw [ed]
      unfold rgV
      rw [rgV_eq]
      exact rpl_rng _ _
    · rw [if_neg hl] at q
      exact q.elim) fun _ _ q => q)
theorem rg_1 (hg : Gl X "range") (hm : X.mg "range" = none) (hs : nst a = true) (ha : PE X a (tE C W fa)) : ∃ te, PRg X (.Call (.Name "range" p) [a] [] pos) te ∧
    ∀ σ H (Q : Int → Int → Hp → Prop) pr fps G ρ pt, Rel C pr fps G H σ ρ pt → ((fun ρ p => (fa ρ p).bind fun x p => match x with
    | .int i => if rb i then .ok (rngL 0 i.toNat) p else .bad
    | _ => .bad : Mn (List D)) ρ pt).sat (fun ds pt' => ∀ i j G' H', Stp C pr G H G' H' pt' → rb i = true → rb j = true → ds = rngL i (j - i).toNat → Q i j H') (erW C W pr G H σ) → te σ H Q :=
  ⟨_, prg_1 hg hm ha (star_cons hs), fun σ H Q pr fps G ρ pt R q => ⟨pr, fps, G, ρ, pt, R, (sat_bind q).mono (fun d p1 q v G1 H1 s1 r => by
    split at q
    · cases r
      rename_i i
      by_cases hb : rb i = true
      · rw [if_pos hb] at q
        exact ⟨i, rfl, q 0 i G1 H1 s1 (by decide) hb (by rw [Int.sub_zero])⟩
      · rw [if_neg hb] at q
        exact q.elim
    · exact q.elim) fun _ _ q => q⟩⟩
theorem rg_2 (hg : Gl X "range") (hm : X.mg "range" = none) (hs : nst a = true) (hs2 : nst b = true) (ha : PE X a (tE C W fa)) (hb : PE X b (tE C W fb)) : ∃ te, PRg X (.Call (.Name "range" p) [a, b] [] pos) te ∧
    ∀ σ H (Q : Int → Int → Hp → Prop) pr fps G ρ pt, Rel C pr fps G H σ ρ pt → ((fun ρ p => (fa ρ p).bind fun x p => (fb ρ p).bind fun y p => match x, y with
    | .int i, .int j => if rb i && rb j then .ok (rngL i (j - i).toNat) p else .bad
    | _, _ => .bad : Mn (List D)) ρ pt).sat (fun ds pt' => ∀ i j G' H', Stp C pr G H G' H' pt' → rb i = true → rb j = true → ds = rngL i (j - i).toNat → Q i j H') (erW C W pr G H σ) → te σ H Q :=
  ⟨_, prg_2 hg hm ha hb (by rw [star_cons hs]) (star_cons hs2) (by rw [star_cons hs2]; rfl), fun σ H Q pr fps G ρ pt R q => ⟨pr, fps, G, ρ, pt, R, (sat_bind q).mono (fun d p1 q v G1 H1 s1 r =>
    ⟨pr, fps, G1, ρ, p1, R.step s1, (sat_bind q).mono (fun d2 p2 q v2 G2 H2 s2 r2 => by
    cases d <;> cases d2 <;> first
      | exact False.elim q
      | skip
    case int.int i qq j =>
      cases r
      cases r2
      have q : (if (rb i && rb j) = true then Mi.R.ok (rngL i (j - i).toNat) p2 else Mi.R.bad : Mi.R (List D)).sat _ _ := q
      by_cases hb : (rb i && rb j) = true
      · rw [if_pos hb] at q
        rw [Bool.and_eq_true] at hb
        exact ⟨i, j, rfl, rfl, q i j G2 H2 (s1.trans R.pot s2) hb.1 hb.2 rfl⟩
      · rw [if_neg hb] at q
        exact q.elim) fun _ _ q => q.after R.pot s1⟩) fun _ _ q => q⟩⟩
end
end Mi

/-! MiLc: list comprehensions. -/
namespace Mi
open PySem L2
theorem sat_noE {α : Type} {r : Mi.R α} {P : α → Pt → Prop} {E E' : Xc → Pt → Prop} (h : r.noE.sat P E) : r.sat P E' := by
  cases r with
  | ok a p => exact h
  | er x p => exact h.elim
  | bad => exact h.elim
theorem wipe_idem (σ : St) (vs : List Nat) : L2.wipe (L2.wipe σ vs) vs = L2.wipe σ vs := by
  refine List.ext_getElem? fun i => ?_
  by_cases hl : i < σ.length
  · by_cases hi : i ∈ vs
    · rw [wipe_in hi (by rw [wipe_length]; exact hl), wipe_in hi hl]
    · rw [wipe_out hi]
  · rw [wipe_big (by rw [wipe_length]; exact hl), wipe_big hl]
/-- no exception -/
abbrev W0 : WX := fun _ _ _ _ => False
/-- a condition -/
def tO (C : Cn) (W : WX) (f : Mn (Option D)) : L2.TT := fun σ H Q => ∃ pr fps G ρ pt, Rel C pr fps G H σ ρ pt ∧ (f ρ pt).sat (fun o pt' => match o with
  | none => ∀ G' H', Stp C pr G H G' H' pt' → Q true H'
  | some (.bool b) => ∀ G' H', Stp C pr G H G' H' pt' → Q b H'
  | some _ => False) (erW C W pr G H σ)
theorem PTs.imp {X : Cx} {e : List Expr} {t t' : L2.TT} (h : PTs X e t) (i : ∀ σ H Q, t' σ H Q → t σ H Q) : PTs X e t' := ⟨fun pins s σ H Q I q => h.run pins s σ H Q I (i σ H Q q)⟩
section
variable {C : Cn} {W : WX} {X : Cx} {c : Expr} {f : Mn D}
theorem to_non : PTs X [] (tO C W (fun _ p => .ok none p)) := PTs.imp pts_nil fun σ H Q ⟨pr, fps, G, ρ, pt, R, q⟩ => q G H (.refl R.same R.pot)
theorem to_som (h : PT X c (tTs C W f)) : PTs X [c] (tO C W (fun ρ p => (f ρ p).bind fun x p => .ok (some x) p)) := PTs.imp (pts_one h) fun σ H Q ⟨pr, fps, G, ρ, pt, R, q⟩ => ⟨pr, fps, G, ρ, pt, R, (sat_bind q).mono (fun d p1 q => by
  cases d <;> first
    | exact False.elim q
    | exact ⟨_, rfl, q⟩) fun _ _ q => q⟩
end
section
variable {C : Cn} {pr : Option Pr} {G H G' H' : Hp} {pt pt' : Pt}
theorem Stp.putD {Dd : Addr} {o : HO} (s : Stp C pr G H G' H' pt') (p : PtR C pr G H pt) (n : H Dd = none) (g : G' Dd = none) : Stp C pr G H G' (upd H' Dd o) pt' := by
  refine ⟨s.sG, fun a u e h => ?_, s.new, fun a u e => ?_, ?_⟩
  · rw [upd_ne (ne_of_none e n)]
    exact s.sH a u e h
  · rw [upd_ne (ne_of_none e g)]
    exact s.same a u e
  · have ht : ∀ a, Pr.has pr a → a ≠ Dd := fun a ha e => (p.there ha).1 (e ▸ n)
    have := s.pot
    cases pr with
    | none => cases pt' with
      | none => trivial
      | some _ => exact this
    | some r => cases pt' with
      | none => exact this
      | some t =>
        obtain ⟨h1, h2, h3⟩ := this
        exact ⟨C.pk.keep h1 (upd_ne (ht r.p ⟨r, rfl, .inl rfl⟩)) (upd_ne (ht r.c ⟨r, rfl, .inr rfl⟩)), h2, h3⟩
end
/-- one turn -/
def turnF (tg : Tg) (own : List Nat) (fo : Mn (Option D)) (fe : Mn D) (ρ : Mi.Env) : D → Pt → Mi.R (Option D) := fun d p => match bindT tg d (wipes ρ own) with
  | some ρ' => R.noE ((fo ρ' p).bind fun b p => match b with
    | some (.bool false) => .ok none p
    | some (.bool true) => (fe ρ' p).bind fun y p => .ok (some y) p
    | none => (fe ρ' p).bind fun y p => .ok (some y) p
    | some _ => .bad)
  | none => .bad
def compF (tg : Tg) (own : List Nat) (g : Mn (List D)) (fo : Mn (Option D)) (fe : Mn D) : Mn D := fun ρ p => (g ρ p).bind fun ds p => if ds.length ≤ lim then (compL (turnF tg own fo fe ρ) ds p).bind fun l p => .ok (.list l) p else .bad
theorem lc_imp {C : Cn} {W : WX} {tg : Tg} {vs : List Nat} {g : Mn (List D)} {fo : Mn (Option D)} {fe : Mn D} (hsub : ∀ i ∈ tvs tg, i ∈ vs) (σ : St) (H : Hp) (Q : VK) (h : tFr C W (compF tg vs g fo fe) σ H Q) :
    tLc (tIB C W g) (tG C tg) (tO C W0 fo) (tE C W0 fe) vs σ H Q := by
  obtain ⟨pr, fps, G, ρ, pt, R, q⟩ := h
  refine ⟨pr, fps, G, ρ, pt, R, (sat_bind q).mono (fun ds p1 q J G1 H1 s1 yl => ?_) fun _ _ q => q⟩
  by_cases hl : ds.length ≤ lim
  case neg =>
    rw [if_neg hl] at q
    exact q.elim
  rw [if_pos hl] at q
  intro Dd hD
  have hP : ∀ a, Pr.has pr a → a ≠ Dd := fun a ha e => (s1.pot.there ha).1 (e ▸ hD)
  have nP : ¬ Pr.has pr Dd := fun h => hP Dd h rfl
  let P' : List D → Pt → Prop := fun l p2 => ∀ v G' H', Stp C pr G H G' H' p2 → Fs C H G' H' v (.list l) → Q v H'
  have q : (compL (turnF tg vs fo fe ρ) ds p1).sat P' (erW C W pr G H σ) := sat_bind q
  let Wv : Nat → Nat → Hp → Prop := fun i m Hc => ∃ Gc pc acc accD, m = ds.length - i ∧ i ≤ ds.length ∧ Stp C pr G1 H1 Gc Hc pc ∧ Gc Dd = none ∧ Hc Dd = some (.lst acc) ∧ RpL C.K Gc acc accD ∧ acc.length ≤ i ∧
    (compL (turnF tg vs fo fe ρ) (ds.drop i) pc).sat (fun rest p2 => P' (accD ++ rest) p2) (erW C W pr G H σ)
  refine ⟨Wv, ⟨ds.length, G1, p1, [], [], rfl, Nat.zero_le _, Stp.layH s1.same s1.pot hD, s1.same.free hD, upd_same, .nil, Nat.le_refl _, q⟩, ?_⟩
  rintro i m Hc ⟨Gc, pc, acc, accD, rfl, hi', st, gn, hDc, ra, hal, q⟩
  by_cases e : i = ds.length
  · refine .inl ⟨(yl Gc Hc pc st i).1 e, ?_⟩
    rw [e, List.drop_length] at q
    have q : P' (accD ++ []) pc := q
    rw [List.append_nil] at q
    exact q _ Gc Hc (s1.trans R.pot st) ⟨Dd, acc, rfl, s1.back R.pot hD, gn, hDc, ra⟩
  have hlt : i < ds.length := by omega
  rw [List.drop_eq_getElem_cons hlt] at q
  have hd : ds[i]? = some ds[i] := List.getElem?_eq_getElem hlt
  generalize ds[i] = d at q hd
  obtain ⟨go, ykk⟩ := (yl Gc Hc pc st i).2 d hd
  have q : (turnF tg vs fo fe ρ d pc).sat (fun o p3 => (compL (turnF tg vs fo fe ρ) (ds.drop (i + 1)) p3).sat (fun rest p2 => P' (accD ++ (match o with | some y => y :: rest | none => rest)) p2) (erW C W pr G H σ)) (erW C W pr G H σ) :=
    (sat_bind q).mono (fun o p3 q => sat_bind q) fun _ _ q => q
  refine .inr ⟨go, Wv (i + 1) (ds.length - (i + 1)), fun H' hn => ⟨_, by omega, hn⟩, fun x H' hy => ?_⟩
  obtain ⟨G', st', rx⟩ := ykk x H' hy
  unfold turnF at q
  split at q
  case h_2 => exact q.elim
  rename_i ρ' hb
  have q2 := sat_noE (E' := fun _ _ => False) q
  obtain ⟨fps1, R1, _⟩ := Rel.wipe (R.step (s1.trans R.pot (st.trans s1.pot st'))) vs
  refine ⟨pr, fps1, G', wipes ρ vs, pc, d, ρ', R1, rx, hb, fun σ' fps2 R2 _ chg => ?_⟩
  refine ⟨by rw [chg.wipe hsub, wipe_idem], pr, fps2, G', ρ', pc, R2, ?_⟩
  -- an end of the turn
  have fin : ∀ {p3 : Pt} {G3 H3 : Hp} {acc' : List V} {accD' : List D}, Stp C pr G' H' G3 H3 p3 → RpL C.K G3 acc' accD' → acc'.length ≤ i + 1 → (compL (turnF tg vs fo fe ρ) (ds.drop (i + 1)) p3).sat (fun rest p2 => P' (accD' ++ rest) p2) (erW C W pr G H σ) →
      Wv (i + 1) (ds.length - (i + 1)) (upd H3 Dd (.lst acc')) := fun {p3 G3 H3 acc' accD'} s3 r3 hl3 q3 => by
    have g3 : G3 Dd = none := by
      cases e3 : G3 Dd with
      | none => rfl
      | some o =>
        rcases (st'.trans st.pot s3).new Dd o e3 with z | z
        · rw [gn] at z; cases z
        · rw [hDc] at z; cases z
    exact ⟨G3, p3, acc', accD', rfl, by omega, Stp.putD (st.trans s1.pot (st'.trans st.pot s3)) s1.pot hD g3, g3, upd_same, r3, hl3, q3⟩
  have keepD : ∀ {p3 : Pt} {G3 H3 : Hp}, Stp C pr G' H' G3 H3 p3 → H3 Dd = some (.lst acc) := fun {p3 G3 H3} s3 => s3.sH _ _ (st'.sH _ _ hDc nP) nP
  have elt1 : ∀ {p3 : Pt} {G3 H3 : Hp}, Stp C pr G' H' G3 H3 p3 → ((fe ρ' p3).bind fun y p => Mi.R.ok (some y) p).sat (fun o p4 => (compL (turnF tg vs fo fe ρ) (ds.drop (i + 1)) p4).sat (fun rest p2 => P' (accD ++ (match o with | some y => y :: rest | none => rest)) p2) (erW C W pr G H σ)) (fun _ _ => False) →
      tE C W0 fe σ' H3 fun y H4 => ∃ acc, H4 Dd = some (.lst acc) ∧ acc.length < sizeLine ∧ Wv (i + 1) (ds.length - (i + 1)) (upd H4 Dd (.lst (acc ++ [y]))) := fun {p3 G3 H3} s3 q3 => by
    refine ⟨pr, fps2, G3, ρ', p3, R2.step s3, (sat_bind q3).mono (fun y p4 q4 v G4 H4 s4 rv => ?_) fun _ _ z => z.elim⟩
    have q4 : (compL (turnF tg vs fo fe ρ) (ds.drop (i + 1)) p4).sat (fun rest p2 => P' (accD ++ y :: rest) p2) (erW C W pr G H σ) := q4
    have s34 := s3.trans st'.pot s4
    refine ⟨acc, keepD s34, by have := lim_line; omega, fin s34 ((ra.mono (st'.sG.trans s34.sG)).append (.cons rv .nil)) (by rw [List.length_append]; show acc.length + 1 ≤ i + 1; omega) ?_⟩
    exact q4.mono (fun rest p2 z => by rw [List.append_assoc]; exact z) fun _ _ z => z
  refine (sat_bind q2).mono (fun o p3 q3 => ?_) fun _ _ z => z.elim
  cases o with
  | none =>
    intro G3 H3 s3
    exact elt1 s3 q3
  | some d3 =>
    cases d3 <;> first
      | exact False.elim q3
      | skip
    case bool b =>
      cases b with
      | false =>
        intro G3 H3 s3
        have q4 : (compL (turnF tg vs fo fe ρ) (ds.drop (i + 1)) p3).sat (fun rest p2 => P' (accD ++ rest) p2) (erW C W pr G H σ) := q3
        have w := fin s3 (ra.mono (st'.sG.trans s3.sG)) (Nat.le_succ_of_le hal) q4
        have e3 : upd H3 Dd (.lst acc) = H3 := funext fun b => by
          by_cases eb : b = Dd
          · rw [eb, upd_same, keepD s3]
          · rw [upd_ne eb]
        rw [e3] at w
        exact w
      | true =>
        intro G3 H3 s3
        exact elt1 s3 q3
theorem ex_comp {C : Cn} {W : WX} {X : Cx} {elt tgE iter : Expr} {ifs : List Expr} {scope : Scope} {own : List (Str × Nat)} {pos : Pos} {tg : Tg} {g : Mn (List D)} {fo : Mn (Option D)} {fe : Mn D} (hc : X.calm = true) (hN : X.N.Nodup)
    (hi : PI X tgE iter (tIB C W g)) (ok : BlkOk X.N X.env.scope scope own) (hsub : ∀ i ∈ tvs tg, i ∈ own.map (·.2))
    (hg : ∀ (s : Shared) (H : Hp) (A : Addr) (cl : List (Str × Addr)) (fp : List Addr), PG (X.blk s H scope (compEnvC scope cl A X.env) fp) tgE (tG C tg))
    (ht : ∀ (s : Shared) (H : Hp) (A : Addr) (cl : List (Str × Addr)) (fp : List Addr), PTs (X.blk s H scope (compEnvC scope cl A X.env) fp) ifs (tO C W0 fo))
    (he : ∀ (s : Shared) (H : Hp) (A : Addr) (cl : List (Str × Addr)) (fp : List Addr), PE (X.blk s H scope (compEnvC scope cl A X.env) fp) elt (tE C W0 fe))
    (hs : ∀ x, foldedSetIterable iter X.env x = pure x) : PE X (.ListComp elt [⟨tgE, iter, ifs, 0⟩] scope pos) (tFr C W (compF tg (own.map (·.2)) g fo fe)) := PE.imp (pe_lc hc hN hi ok hg ht he hs) (lc_imp hsub)
end Mi

/-! MiExpr: the check of an expression of the text against its meaning. -/
namespace Mi
open PySem L2
/-- a def in sight: its name, parameters, whether the pot is the first, the orders of keywords in use -/
structure FnS where
  name : Str
  ps : List Str
  pot : Bool
  kws : List (List Str × List Nat)
/-- what the text may name: defs, ints, built-ins -/
structure Tb where
  fns : List FnS
  con : List (Str × Int)
  bl : List Str
def Tb.blt (T : Tb) (S : Sc) (x y : Str) : Bool := (x == y) && S.glo x && T.bl.contains x
structure XOk (C : Cn) (T : Tb) (F : List Fn) (W : WX) (S : Sc) (X : Cx) : Prop where
  nm : NmOk S X
  K : X.K = C.K
  gd : X.A.guards = some []
  un : X.A.units + 100 < cLine
  tk : Takes X W
  bl : ∀ x ∈ T.bl, X.mg x = none
  con : ∀ q ∈ T.con, ∃ t, X.mg q.1 = some (.int q.2 t)
  cal : ∀ (k : Nat) (c : FnS), T.fns[k]? = some c → ∃ (m : Fn) (f : Addr) (fd : FuncData) (j : Nat), F.getD k badF = m ∧ Cal C X j f fd c.ps c.pot m c.name ∧
    ∀ q ∈ c.kws, ∀ (s : Shared) (us : List Value), us.length = q.1.length → BindsTo s fd ⟨[], q.1.zip us⟩ (c.ps.zip (pick .none us q.2))
def Exs.len : Exs → Nat
  | .nil => 0
  | .cons _ es => es.len + 1
theorem evs_len {F : List Fn} : ∀ (es : Exs) {ρ : Mi.Env} {p p' : Pt} {ds : List D}, evs F es ρ p = .ok ds p' → ds.length = es.len
  | .nil, ρ, p, p', ds, h => by
    simp only [evs, Mi.R.ok.injEq] at h
    rw [← h.1]; rfl
  | .cons e es, ρ, p, p', ds, h => by
    simp only [evs] at h
    cases h1 : ev F e ρ p with
    | ok x p1 =>
      rw [h1] at h
      simp only [bind_ok] at h
      cases h2 : evs F es ρ p1 with
      | ok xs p2 =>
        rw [h2] at h
        simp only [bind_ok, Mi.R.ok.injEq] at h
        rw [← h.1, List.length_cons, evs_len es h2]; rfl
      | er x p2 => rw [h2] at h; cases h
      | bad => rw [h2] at h; cases h
    | er x p1 => rw [h1] at h; cases h
    | bad => rw [h1] at h; cases h
def conOk : D → Const → Bool
  | .none, .none => true
  | .bool a, .bool b => a == b
  | .int a, .int b => a == b
  | .str a, .str b => a == b
  | _, _ => false
def bopOk : Bop → Operator → Bool
  | .add, .Add => true
  | .sub, .Sub => true
  | .mul, .Mult => true
  | .fdiv, .FloorDiv => true
  | .mod, .Mod => true
  | .pow, .Pow => true
  | .shl, .LShift => true
  | .shr, .RShift => true
  | _, _ => false
def copOk : Cop → CmpOp → Bool
  | .eq, .Eq => true
  | .ne, .NotEq => true
  | .lt, .Lt => true
  | .le, .LtE => true
  | .gt, .Gt => true
  | .ge, .GtE => true
  | .is, .Is => true
  | .isnt, .IsNot => true
  | .isN, .Is => true
  | .isntN, .IsNot => true
  | .inn, .In => true
  | .nin, .NotIn => true
  | _, _ => false
/-- the built-in's name; true: a type -/
def f1Id : F1 → Option (Bool × String)
  | .len => some (false, "len")
  | .sum => some (false, "sum")
  | .min => some (false, "min")
  | .max => some (false, "max")
  | .sorted => some (false, "sorted")
  | .tuple => some (true, "tuple")
  | .list => some (true, "list")
  | .int => some (true, "int")
  | .abs => some (false, "abs")
  | .all => some (false, "all")
  | .any => some (false, "any")
  | .repr => some (false, "repr")
  | _ => none
def notSet : Expr → Bool
  | .Set _ _ _ => false
  | _ => true
theorem notSet_ok {e : Expr} (h : notSet e = true) (env : PySem.Env) : ∀ x, foldedSetIterable e env x = pure x := fun x => by
  cases e <;> first
    | rfl
    | cases h
def ownOk (N : List Str) (own : List Nat) (scope : Scope) : Option (List (Str × Nat)) :=
  some (own.map fun i => (N.getD i "", i))
mutual
def ch (T : Tb) : Ex → Md → Sc → Expr → Bool
  | .var i, m, S, e => match e with
    | .Name x _ => (m != .f) && decide (S.N[i]? = some x) && S.vis x
    | _ => false
  | .bor i, m, S, e => match e with
    | .Name x _ => (m == .b) && decide (S.N[i]? = some x) && S.vis x
    | _ => false
  | .c d, m, S, e => match e with
    | .Constant k _ _ => (m != .f) && conOk d k
    | _ => false
  | .glob y d, m, S, e => match e, d with
    | .Name x _, .int i => (m != .f) && (x == y) && S.glo x && T.con.contains (x, i)
    | _, _ => false
  | .bin o a b, m, S, e => match e with
    | .BinOp x op y _ => bopOk o op && ch T a .b S x && ch T b .b S y
    | _ => false
  | .neg a, m, S, e => match e with
    | .UnaryOp .USub x _ => (m != .f) && ch T a .b S x
    | _ => false
  | .not a, m, S, e => match e with
    | .UnaryOp .Not x _ => (m != .f) && ch T a .b S x
    | _ => false
  | .cmp o a b, m, S, e => match e with
    | .Compare x [op] [y] _ => (m != .f) && copOk o op && !(behindInMarks op y) && ch T a .b S x && ch T b .b S y
    | _ => false
  | .and a b, m, S, e => match e with
    | .BoolOp .And (x :: y :: rest) pos => (m != .f) && ch T a .b S x && (match rest with
      | [] => ch T b .e S y
      | _ :: _ => ch T b .e S (.BoolOp .And (y :: rest) pos))
    | _ => false
  | .or a b, m, S, e => match e with
    | .BoolOp .Or (x :: y :: rest) pos => (m != .f) && ch T a .b S x && (match rest with
      | [] => ch T b .e S y
      | _ :: _ => ch T b .e S (.BoolOp .Or (y :: rest) pos))
    | _ => false
  | .ife t a b, m, S, e => match e with
    | .IfExp z x y _ => (m != .f) && chT' T t S z && ch T a .e S x && ch T b .e S y
    | _ => false
  | .tup es, m, S, e => match e with
    | .Tuple xs _ _ => (m != .f) && decide (es.len ≤ 1000) && chs T es S xs
    | _ => false
  | .lst es, m, S, e => match e with
    | .List xs _ => decide (es.len ≤ 1000) && chs T es S xs
    | _ => false
  | .idx a i, m, S, e => match e with
    | .Subscript x y _ => (m != .f) && pix y && ch T a .b S x && ch T i .b S y
    | _ => false
  | .cal k es, m, S, e => match e with
    | .Call (.Name x _) xs [] _ => (m != .f) && S.glo x && (match T.fns[k]? with
      | some c => (c.name == x) && !c.pot && decide (es.len = c.ps.length) && chs T es S xs
      | none => false)
    | _ => false
  | .calP k i es, m, S, e => match e with
    | .Call (.Name x _) (.Name y _ :: xs) [] _ => (m != .f) && S.glo x && decide (S.N[i]? = some y) && S.vis y && (match T.fns[k]? with
      | some c => (c.name == x) && c.pot && decide (es.len + 1 = c.ps.length) && chs T es S xs
      | none => false)
    | _ => false
  | .calK k es ix, m, S, e => match e with
    | .Call (.Name x _) [] kws _ => (m != .f) && S.glo x && (match T.fns[k]?, kwN kws with
      | some c, some ks => (c.name == x) && !c.pot && c.kws.contains (ks, ix) && decide (ix.length = c.ps.length) && (ix.all fun j => decide (j < ks.length)) && decide (es.len = ks.length) && chk T es S kws
      | _, _ => false)
    | _ => false
  | .fn1 f a, m, S, e => match f, e with
    | .lenset, .Call (.Name x _) [.Call (.Name x2 _) [y] [] _] [] _ => (m != .f) && T.blt S x "len" && T.blt S x2 "set" && nst y && ch T a .b S y
    | f, .Call (.Name x _) [y] [] _ => (match f1Id f with
      | some (_, id) => T.blt S x id && nst y && ch T a .b S y
      | none => false)
    | _, _ => false
  | .lstR tup it, m, S, e => match it, e with
    | .rng1 a, .Call (.Name x _) [.Call (.Name x2 _) [y] [] _] [] _ => (!tup || (m != .f)) && T.blt S x (if tup then "tuple" else "list") && T.blt S x2 "range" && nst y && ch T a .e S y
    | .rng2 a b, .Call (.Name x _) [.Call (.Name x2 _) [y, z] [] _] [] _ => (!tup || (m != .f)) && T.blt S x (if tup then "tuple" else "list") && T.blt S x2 "range" && nst y && nst z && ch T a .e S y && ch T b .e S z
    | _, _ => false
  | .comp own tg it cond elt, m, S, e => match e with
    | .ListComp el [⟨tgE, iter, ifs, 0⟩] scope _ => blkC S.N S.sc scope (own.map fun i => (S.N.getD i "", i)) && ((tvs tg).all fun i => own.contains i) && notSet iter && chI T it true S tgE iter &&
      chT ⟨S.N, relS scope S.sc, some scope⟩ tg tgE && chO T cond ⟨S.N, relS scope S.sc, some scope⟩ ifs && ch T elt .e ⟨S.N, relS scope S.sc, some scope⟩ el
    | _ => false
  | _, _, _, _ => false
/-- as a test -/
def chT' (T : Tb) : Ex → Sc → Expr → Bool
  | .cmp o a b, S, e => match e with
    | .Compare x [op] [y] _ => copOk o op && !(behindInMarks op y) && ch T a .b S x && ch T b .b S y
    | _ => false
  | .not a, S, e => match e with
    | .UnaryOp .Not x _ => chT' T a S x
    | _ => false
  | .and a b, S, e => match e with
    | .BoolOp .And (x :: y :: rest) pos => chT' T a S x && (match rest with
      | [] => chT' T b S y
      | _ :: _ => chT' T b S (.BoolOp .And (y :: rest) pos))
    | _ => false
  | .or a b, S, e => match e with
    | .BoolOp .Or (x :: y :: rest) pos => chT' T a S x && (match rest with
      | [] => chT' T b S y
      | _ :: _ => chT' T b S (.BoolOp .Or (y :: rest) pos))
    | _ => false
  | .var i, S, e => match e with
    | .Name x _ => decide (S.N[i]? = some x) && S.vis x
    | _ => false
  | .cal k es, S, e => match e with
    | .Call (.Name x _) xs [] _ => S.glo x && (match T.fns[k]? with
      | some c => (c.name == x) && !c.pot && decide (es.len = c.ps.length) && chs T es S xs
      | none => false)
    | _ => false
  | _, _, _ => false
def chs (T : Tb) : Exs → Sc → List Expr → Bool
  | .nil, _, xs => match xs with
    | [] => true
    | _ :: _ => false
  | .cons e es, S, xs => match xs with
    | x :: xs => nst x && ch T e .e S x && chs T es S xs
    | [] => false
def chk (T : Tb) : Exs → Sc → List Keyword → Bool
  | .nil, _, xs => match xs with
    | [] => true
    | _ :: _ => false
  | .cons e es, S, xs => match xs with
    | ⟨_, x, _⟩ :: xs => ch T e .e S x && chk T es S xs
    | [] => false
def chO (T : Tb) : Option' → Sc → List Expr → Bool
  | .non, _, xs => match xs with
    | [] => true
    | _ :: _ => false
  | .som c, S, xs => match xs with
    | [x] => chT' T c S x
    | _ => false
/-- what is walked; b: within a comprehension -/
def chI (T : Tb) : Mi.It → Bool → Sc → Expr → Expr → Bool
  | .ex a, b, S, _, e => ch T a (if b then .b else .e) S e
  | .rng1 a, _, S, _, e => match e with
    | .Call (.Name x _) [y] [] _ => T.blt S x "range" && nst y && ch T a .e S y
    | _ => false
  | .rng2 a c, _, S, _, e => match e with
    | .Call (.Name x _) [y, z] [] _ => T.blt S x "range" && nst y && nst z && ch T a .e S y && ch T c .e S z
    | _ => false
  | _, _, _, _, _ => false
end
/-! ### the rules of operators and built-ins -/
section
variable {C : Cn} {T : Tb} {F : List Fn} {W : WX} {S : Sc} {X : Cx}
theorem bop_ok (h : XOk C T F W S X) : ∀ {o : Bop} {op : Operator}, bopOk o op = true → OpR X (binaryOp op) (rD C (bop o))
  | .add, .Add, _ => od_add h.K
  | .sub, .Sub, _ => od_sub
  | .mul, .Mult, _ => od_mul h.K
  | .fdiv, .FloorDiv, _ => od_fdiv
  | .mod, .Mod, _ => od_mod
  | .pow, .Pow, _ => od_pow
  | .shl, .LShift, _ => od_shl
  | .shr, .RShift, _ => od_shr
theorem cop_ok (h : XOk C T F W S X) {o : Cop} {op : CmpOp} (e : copOk o op = true) : OpR X (compareOp op) (rD C fun a b => (cop o a b).map .bool) := by
  have hu := h.un
  cases o <;> cases op <;> first
    | exact absurd e (by decide)
    | exact oc_eq h.K (by omega)
    | exact oc_ne h.K (by omega)
    | exact oc_lt h.K
    | exact oc_le h.K
    | exact oc_gt h.K
    | exact oc_ge h.K
    | exact oc_is h.K
    | exact oc_isnt h.K
    | exact oc_isN h.K
    | exact oc_isntN h.K
    | exact oc_in h.K (by omega)
    | exact oc_nin h.K (by omega)
theorem blt_ok (h : XOk C T F W S X) {x y : Str} (e : T.blt S x y = true) : x = y ∧ Gl X x ∧ X.mg x = none ∧ (x == ("__debug__" : Str)) = false ∧ x ≠ "__name__" := by
  simp only [Tb.blt, Bool.and_eq_true] at e
  obtain ⟨⟨e1, e2⟩, e3⟩ := e
  obtain ⟨g1, g2, g3⟩ := glo_ok h.nm e2
  exact ⟨eq_of_beq e1, g1, h.bl x (List.contains_iff_mem.mp e3), g2, g3⟩
theorem f1_ok (h : XOk C T F W S X) {f : F1} {ty : Bool} {id : String} (e : f1Id f = some (ty, id)) {x : Str} {a : Expr} {fa : Mn D} {p pos : Pos} (hb : T.blt S x id = true) (hs : nst a = true) (ha : PE X a (tBo C W fa)) :
    PE X (.Call (.Name x p) [a] [] pos) (tFr C W (fun ρ p => (fa ρ p).bind fun x p => .lift (f1 f x) p)) := by
  obtain ⟨rfl, b1, b2, b3, b4⟩ := blt_ok h hb
  have hu := h.un
  cases f <;> simp only [f1Id, Option.some.injEq, Prod.mk.injEq, reduceCtorEq] at e <;> obtain ⟨rfl, rfl⟩ := e
  case len => exact ex_fnB (fd_len h.K) b1 b2 (by decide +kernel) ha hs b4 b3
  case sum => exact ex_fnB (fd_sum h.K h.nm.calm) b1 b2 (by decide +kernel) ha hs b4 b3
  case min => exact ex_fnB (fd_min h.K h.nm.calm) b1 b2 (by decide +kernel) ha hs b4 b3
  case max => exact ex_fnB (fd_max h.K h.nm.calm) b1 b2 (by decide +kernel) ha hs b4 b3
  case sorted => exact ex_fnB (fd_sorted h.K hu) b1 b2 (by decide +kernel) ha hs b4 b3
  case tuple => exact ex_fnT (fd_tuple h.K) b1 b2 (by decide +kernel) ha hs b4 b3
  case list => exact ex_fnT (fd_list h.K) b1 b2 (by decide +kernel) ha hs b4 b3
  case int => exact ex_fnT fd_int b1 b2 (by decide +kernel) ha hs b4 b3
  case abs => exact ex_fnB fd_abs b1 b2 (by decide +kernel) ha hs b4 b3
  case all => exact ex_fnB (fd_all h.nm.calm) b1 b2 (by decide +kernel) ha hs b4 b3
  case any => exact ex_fnB (fd_any h.nm.calm) b1 b2 (by decide +kernel) ha hs b4 b3
  case repr => exact ex_fnB (fd_repr h.K h.gd hu) b1 b2 (by decide +kernel) ha hs b4 b3
theorem con_ok {d : D} {k : Const} {j : Nat} {pos : Pos} (h : conOk d k = true) : PE X (.Constant k j pos) (tE C W (fun _ p => .ok d p)) := by
  cases d <;> cases k <;> simp only [conOk, Bool.false_eq_true] at h
  case none.none => exact ex_const (fun G => .non) pe_non
  case bool.bool a b => obtain rfl := eq_of_beq h; exact ex_const (fun G => .bl _) pe_bl
  case int.int a b => obtain rfl := eq_of_beq h; exact ex_const (fun G => .int _) pe_int
  case str.str a b => obtain rfl := eq_of_beq h; exact ex_const (fun G => .str _) pe_str
/-- the block's context -/
theorem XOk.blk (h : XOk C T F W S X) (s : Shared) (H : Hp) (scope : Scope) (A : Addr) (cl : List (Str × Addr)) (fp : List Addr) : XOk C T F W0 ⟨S.N, relS scope S.sc, some scope⟩ (X.blk s H scope (compEnvC scope cl A X.env) fp) :=
  { nm := ⟨h.nm.n, h.nm.nd, by rw [← h.nm.sc]; rfl, fun x e => e, h.nm.calm⟩
    K := h.K, gd := h.gd, un := h.un, tk := takes0
    bl := h.bl, con := h.con
    cal := fun k c e => by
      obtain ⟨m, f, fd, j, h1, h2, h3⟩ := h.cal k c e
      exact ⟨m, f, fd, j, h1, ⟨h2.ok, h2.room, h2.mg, h2.keep, h2.bind⟩, h3⟩ }
end
end Mi

/-! MiExprOk: what is checked is so. -/
namespace Mi
open PySem L2
theorem and2 {a b : Bool} (h : (a && b) = true) : a = true ∧ b = true := by
  cases a <;> cases b <;> simp_all
theorem le1000 {n : Nat} (h : n ≤ 1000) : n ≤ sizeLine := Nat.le_trans h (by decide)
variable (C : Cn) (T : Tb) (F : List Fn)
mutual
theorem ch_ok : ∀ (x : Ex) {m : Md} {S : Sc} {e : Expr} {X : Cx} {W : WX}, XOk C T F W S X → ch T x m S e = true → PE X e (tM m C W (ev F x))
  | .var i, m, S, e, X, W, ok, h => by
    unfold ch at h
    split at h
    · obtain ⟨h, h3⟩ := and2 h
      obtain ⟨h1, h2⟩ := and2 h
      obtain ⟨v1, v2, v3⟩ := vis_ok ok.nm h3
      exact PE.ofE h1 (ex_var (by rw [ok.nm.n]; exact of_decide_eq_true h2) v1 v2 v3)
    · cases h
  | .bor i, m, S, e, X, W, ok, h => by
    unfold ch at h
    split at h
    · obtain ⟨h, h3⟩ := and2 h
      obtain ⟨h1, h2⟩ := and2 h
      obtain ⟨v1, v2, v3⟩ := vis_ok ok.nm h3
      obtain rfl := eq_of_beq h1
      exact ex_bor (by rw [ok.nm.n]; exact of_decide_eq_true h2) v1 v2 v3
    · cases h
  | .c d, m, S, e, X, W, ok, h => by
    unfold ch at h
    split at h
    · obtain ⟨h1, h2⟩ := and2 h
      exact PE.ofE h1 (con_ok h2)
    · cases h
  | .glob y d, m, S, e, X, W, ok, h => by
    unfold ch at h
    split at h
    · rename_i x pos i
      obtain ⟨h, h4⟩ := and2 h
      obtain ⟨h, h3⟩ := and2 h
      obtain ⟨h1, h2⟩ := and2 h
      obtain ⟨g1, g2, g3⟩ := glo_ok ok.nm h3
      obtain ⟨t, e⟩ := ok.con _ (List.contains_iff_mem.mp h4)
      exact PE.ofE h1 (ex_const (fun G => .int _) (pe_glob (v := .int i) g1 e ⟨t, rfl⟩ g2))
    · cases h
  | .bin o a b, m, S, e, X, W, ok, h => by
    unfold ch at h
    split at h
    · obtain ⟨h, h3⟩ := and2 h
      obtain ⟨h1, h2⟩ := and2 h
      exact PE.ofF (pe_bin (bop_ok ok h1) (ch_ok a ok h2) (ch_ok b ok h3))
    · cases h
  | .neg a, m, S, e, X, W, ok, h => by
    unfold ch at h
    split at h
    · obtain ⟨h1, h2⟩ := and2 h
      exact PE.ofE h1 (ex_neg (ch_ok a ok h2))
    · cases h
  | .not a, m, S, e, X, W, ok, h => by
    unfold ch at h
    split at h
    · obtain ⟨h1, h2⟩ := and2 h
      exact PE.ofE h1 (ex_not (ch_ok a ok h2))
    · cases h
  | .cmp o a b, m, S, e, X, W, ok, h => by
    unfold ch at h
    split at h
    · obtain ⟨h, h5⟩ := and2 h
      obtain ⟨h, h4⟩ := and2 h
      obtain ⟨h, h3⟩ := and2 h
      obtain ⟨h1, h2⟩ := and2 h
      exact PE.ofF (pe_cmp2 (cop_ok ok h2) (ch_ok a ok h4) (ch_ok b ok h5) (by simpa using h3))
    · cases h
  | .and a b, m, S, e, X, W, ok, h => by
    unfold ch at h
    split at h
    · obtain ⟨h, h3⟩ := and2 h
      obtain ⟨h1, h2⟩ := and2 h
      refine PE.ofE h1 (ex_and (ch_ok a ok h2) ?_)
      split at h3
      · exact pe_one (ch_ok (m := .e) b ok h3)
      · exact ch_ok (m := .e) b ok h3
    · cases h
  | .or a b, m, S, e, X, W, ok, h => by
    unfold ch at h
    split at h
    · obtain ⟨h, h3⟩ := and2 h
      obtain ⟨h1, h2⟩ := and2 h
      refine PE.ofE h1 (ex_or (ch_ok a ok h2) ?_)
      split at h3
      · exact pe_one (ch_ok (m := .e) b ok h3)
      · exact ch_ok (m := .e) b ok h3
    · cases h
  | .ife t a b, m, S, e, X, W, ok, h => by
    unfold ch at h
    split at h
    · obtain ⟨h, h4⟩ := and2 h
      obtain ⟨h, h3⟩ := and2 h
      obtain ⟨h1, h2⟩ := and2 h
      exact PE.ofE h1 (ex_ife (chT_ok t ok h2).1 (ch_ok (m := .e) a ok h3) (ch_ok (m := .e) b ok h4))
    · cases h
  | .tup es, m, S, e, X, W, ok, h => by
    unfold ch at h
    split at h
    · obtain ⟨h, h3⟩ := and2 h
      obtain ⟨h1, h2⟩ := and2 h
      exact PE.ofE h1 (ex_tup (fun ρ p ds p' e => by rw [evs_len es e]; exact le1000 (of_decide_eq_true h2)) (chs_ok es ok h3).1)
    · cases h
  | .lst es, m, S, e, X, W, ok, h => by
    unfold ch at h
    split at h
    · obtain ⟨h2, h3⟩ := and2 h
      exact PE.ofF (ex_lst (fun ρ p ds p' e => by rw [evs_len es e]; exact le1000 (of_decide_eq_true h2)) (chs_ok es ok h3).1)
    · cases h
  | .idx a i, m, S, e, X, W, ok, h => by
    unfold ch at h
    split at h
    · obtain ⟨h, h4⟩ := and2 h
      obtain ⟨h, h3⟩ := and2 h
      obtain ⟨h1, h2⟩ := and2 h
      exact PE.ofE h1 (ex_idx (ch_ok (m := .b) a ok h3) (ch_ok (m := .b) i ok h4) h2 ok.K)
    · cases h
  | .cal k es, m, S, e, X, W, ok, h => by
    unfold ch at h
    split at h
    · rename_i x p xs pos
      obtain ⟨h, h3⟩ := and2 h
      obtain ⟨h1, h2⟩ := and2 h
      split at h3
      · rename_i c hc
        obtain ⟨h3, h6⟩ := and2 h3
        obtain ⟨h3, h5⟩ := and2 h3
        obtain ⟨h3, h4⟩ := and2 h3
        obtain rfl := eq_of_beq h3
        obtain ⟨g1, g2, g3⟩ := glo_ok ok.nm h2
        obtain ⟨f, a, fd, j, e1, e2, e3⟩ := ok.cal k c hc
        have hl := of_decide_eq_true h5
        have h4 : c.pot = false := by simpa using h4
        rw [h4] at e2
        refine PE.ofE h1 ?_
        show PE X _ (tE C W fun ρ p => (evs F es ρ p).bind fun ds p => F.getD k badF ds p)
        rw [e1]
        obtain ⟨a1, a2⟩ := chs_ok es ok h6
        cases xs with
        | nil =>
          cases es with
          | nil => exact ex_cal0 ok.K e2 ok.gd ok.tk g1 g2 hl.symm
          | cons e es => simp [chs] at h6
        | cons x xs => exact ex_cal ok.K e2 ok.gd ok.tk g1 g2 (fun ρ p ds p' e => by rw [evs_len es e]; exact hl) a2 a1
      · cases h3
    · cases h
  | .calP k i es, m, S, e, X, W, ok, h => by
    unfold ch at h
    split at h
    · rename_i x p y p2 xs pos
      obtain ⟨h, h3⟩ := and2 h
      obtain ⟨h, hv⟩ := and2 h
      obtain ⟨h, hi⟩ := and2 h
      obtain ⟨h1, h2⟩ := and2 h
      split at h3
      · rename_i c hc
        obtain ⟨h3, h6⟩ := and2 h3
        obtain ⟨h3, h5⟩ := and2 h3
        obtain ⟨h3, h4⟩ := and2 h3
        obtain rfl := eq_of_beq h3
        obtain ⟨g1, g2, g3⟩ := glo_ok ok.nm h2
        obtain ⟨v1, v2, v3⟩ := vis_ok ok.nm hv
        obtain ⟨f, a, fd, j, e1, e2, e3⟩ := ok.cal k c hc
        have hl := of_decide_eq_true h5
        rw [h4] at e2
        obtain ⟨a1, a2⟩ := chs_ok es ok h6
        refine PE.ofE h1 ?_
        have q := ex_calP (pos := pos) (p := p) (p2 := p2) ok.K e2 ok.gd ok.tk g1 g2 (by rw [ok.nm.n]; exact of_decide_eq_true hi) v1 v2 v3 (fun ρ p ds p' e => by rw [evs_len es e]; exact hl) a2 a1
        rw [← e1] at q
        exact q
      · cases h3
    · cases h
  | .calK k es ix, m, S, e, X, W, ok, h => by
    unfold ch at h
    split at h
    · rename_i x p kws pos
      obtain ⟨h, h3⟩ := and2 h
      obtain ⟨h1, h2⟩ := and2 h
      split at h3
      · rename_i c ks hc hk
        obtain ⟨h3, h9⟩ := and2 h3
        obtain ⟨h3, h8⟩ := and2 h3
        obtain ⟨h3, h7⟩ := and2 h3
        obtain ⟨h3, h6⟩ := and2 h3
        obtain ⟨h3, h5⟩ := and2 h3
        obtain ⟨h3, h4⟩ := and2 h3
        obtain rfl := eq_of_beq h3
        obtain ⟨g1, g2, g3⟩ := glo_ok ok.nm h2
        obtain ⟨f, a, fd, j, e1, e2, e3⟩ := ok.cal k c hc
        have h4 : c.pot = false := by simpa using h4
        rw [h4] at e2
        have hb := e3 _ (List.contains_iff_mem.mp h5)
        refine PE.ofE h1 ?_
        have q := ex_calK (pos := pos) (p := p) ok.K e2 ok.gd ok.tk g1 g2 hk hb (of_decide_eq_true h6) (fun j hj => of_decide_eq_true (List.all_eq_true.mp h7 j hj)) (fun ρ p ds p' e => by rw [evs_len es e]; exact of_decide_eq_true h8) (chk_ok es ok h9)
        rw [← e1] at q
        exact q
      · cases h3
    · cases h
  | .fn1 f a, m, S, e, X, W, ok, h => by
    unfold ch at h
    split at h
    · obtain ⟨h, h5⟩ := and2 h
      obtain ⟨h, h4⟩ := and2 h
      obtain ⟨h, h3⟩ := and2 h
      obtain ⟨h1, h2⟩ := and2 h
      obtain ⟨rfl, b1, b2, b3, b4⟩ := blt_ok ok h2
      obtain ⟨rfl, c1, c2, c3, c4⟩ := blt_ok ok h3
      exact PE.ofE h1 (ex_lenset ok.nm.calm ok.K b1 b2 c1 c2 (ch_ok (m := .b) a ok h5) h4)
    · split at h
      · rename_i ty id hf
        obtain ⟨h, h3⟩ := and2 h
        obtain ⟨h1, h2⟩ := and2 h
        exact PE.ofF (f1_ok ok hf h1 h2 (ch_ok (m := .b) a ok h3))
      · cases h
    · cases h
  | .lstR tup it, m, S, e, X, W, ok, h => by
    unfold ch at h
    split at h
    · rename_i a x p x2 p2 y p3 p4
      obtain ⟨h, h5⟩ := and2 h
      obtain ⟨h, h4⟩ := and2 h
      obtain ⟨h, h3⟩ := and2 h
      obtain ⟨h1, h2⟩ := and2 h
      obtain ⟨rfl, c1, c2, c3, c4⟩ := blt_ok ok h3
      obtain ⟨te, q1, q2⟩ := rg_1 (C := C) (W := W) (p := p2) (pos := p3) c1 c2 h4 (ch_ok (m := .e) a ok h5)
      cases tup with
      | true =>
        obtain ⟨rfl, b1, b2, b3, b4⟩ := blt_ok ok h2
        exact PE.ofE h1 (ex_tupRg ok.nm.calm b1 b2 rfl q1 q2)
      | false =>
        obtain ⟨rfl, b1, b2, b3, b4⟩ := blt_ok ok h2
        exact PE.ofF (ex_lstRg ok.nm.calm b1 b2 rfl q1 q2)
    · rename_i a b x p x2 p2 y z p3 p4
      obtain ⟨h, h7⟩ := and2 h
      obtain ⟨h, h6⟩ := and2 h
      obtain ⟨h, h5⟩ := and2 h
      obtain ⟨h, h4⟩ := and2 h
      obtain ⟨h, h3⟩ := and2 h
      obtain ⟨h1, h2⟩ := and2 h
      obtain ⟨rfl, c1, c2, c3, c4⟩ := blt_ok ok h3
      obtain ⟨te, q1, q2⟩ := rg_2 (C := C) (W := W) (p := p2) (pos := p3) c1 c2 h4 h5 (ch_ok (m := .e) a ok h6) (ch_ok (m := .e) b ok h7)
      cases tup with
      | true =>
        obtain ⟨rfl, b1, b2, b3, b4⟩ := blt_ok ok h2
        exact PE.ofE h1 (ex_tupRg ok.nm.calm b1 b2 rfl q1 q2)
      | false =>
        obtain ⟨rfl, b1, b2, b3, b4⟩ := blt_ok ok h2
        exact PE.ofF (ex_lstRg ok.nm.calm b1 b2 rfl q1 q2)
    · cases h
  | .comp own tg it cond elt, m, S, e, X, W, ok, h => by
    unfold ch at h
    split at h
    · rename_i el tgE iter ifs scope pos
      obtain ⟨h, h7⟩ := and2 h
      obtain ⟨h, h6⟩ := and2 h
      obtain ⟨h, h5⟩ := and2 h
      obtain ⟨h, h4⟩ := and2 h
      obtain ⟨h, h3⟩ := and2 h
      obtain ⟨h1, h2⟩ := and2 h
      have eo : (own.map fun i => (S.N.getD i "", i)).map (·.2) = own := by
        rw [List.map_map]
        exact List.map_id _
      have q := ex_comp (pos := pos) ok.nm.calm ok.nm.nd (chI_ok it ok h4).2 (by rw [ok.nm.n, ok.nm.sc]; exact blkOk_by h1)
        (fun i hi => by rw [eo]; exact List.contains_iff_mem.mp (List.all_eq_true.mp h2 i hi))
        (fun s H A cl fp => pg_T (ok.blk s H scope A cl fp).nm ok.K h5) (fun s H A cl fp => chO_ok cond (ok.blk s H scope A cl fp) h6) (fun s H A cl fp => ch_ok (m := .e) elt (ok.blk s H scope A cl fp) h7) (notSet_ok h3 X.env)
      rw [eo] at q
      exact PE.ofF q
    · cases h
  | .chn .., m, S, e, X, W, ok, h => by unfold ch at h; cases h
  | .sli .., m, S, e, X, W, ok, h => by unfold ch at h; cases h
  | .rev .., m, S, e, X, W, ok, h => by unfold ch at h; cases h
  | .fn2 .., m, S, e, X, W, ok, h => by unfold ch at h; cases h
  | .isi .., m, S, e, X, W, ok, h => by unfold ch at h; cases h
theorem chT_ok : ∀ (x : Ex) {S : Sc} {e : Expr} {X : Cx} {W : WX}, XOk C T F W S X → chT' T x S e = true → PT X e (tTs C W (ev F x)) ∧ ∀ op xs pos, e = .BoolOp op xs pos → PW X e (tTs C W (ev F x))
  | .cmp o a b, S, e, X, W, ok, h => by
    unfold chT' at h
    split at h
    · obtain ⟨h, h5⟩ := and2 h
      obtain ⟨h, h4⟩ := and2 h
      obtain ⟨h2, h3⟩ := and2 h
      exact ⟨ts_cmp (cop_ok ok h2) (ch_ok (m := .b) a ok h4) (ch_ok (m := .b) b ok h5) (by simpa using h3), fun _ _ _ => nofun⟩
    · cases h
  | .not a, S, e, X, W, ok, h => by
    unfold chT' at h
    split at h
    · exact ⟨ts_not (chT_ok a ok h).1, fun _ _ _ => nofun⟩
    · cases h
  | .and a b, S, e, X, W, ok, h => by
    unfold chT' at h
    split at h
    · rename_i x y rest pos
      obtain ⟨h1, h2⟩ := and2 h
      have hb : PW X (.BoolOp .And (y :: rest) pos) (tTs C W (ev F b)) := by
        split at h2
        · exact pw_and1 (chT_ok b ok h2).1
        · exact (chT_ok b ok h2).2 _ _ _ rfl
      have q := ts_and (chT_ok a ok h1).1 hb
      exact ⟨q.pt, fun _ _ _ _ => q⟩
    · cases h
  | .or a b, S, e, X, W, ok, h => by
    unfold chT' at h
    split at h
    · rename_i x y rest pos
      obtain ⟨h1, h2⟩ := and2 h
      have hb : PW X (.BoolOp .Or (y :: rest) pos) (tTs C W (ev F b)) := by
        split at h2
        · exact pw_or1 (chT_ok b ok h2).1
        · exact (chT_ok b ok h2).2 _ _ _ rfl
      have q := ts_or (chT_ok a ok h1).1 hb
      exact ⟨q.pt, fun _ _ _ _ => q⟩
    · cases h
  | .var i, S, e, X, W, ok, h => by
    unfold chT' at h
    split at h
    · exact ⟨ts_val (ch_ok (m := .e) (.var i) ok (by unfold ch; exact h)) (fun _ => rfl), fun _ _ _ => nofun⟩
    · cases h
  | .cal k es, S, e, X, W, ok, h => by
    unfold chT' at h
    split at h
    · exact ⟨ts_val (ch_ok (m := .e) (.cal k es) ok (by unfold ch; exact h)) (fun _ => rfl), fun _ _ _ => nofun⟩
    · cases h
  | .bor .., S, e, X, W, ok, h => by unfold chT' at h; cases h
  | .c .., S, e, X, W, ok, h => by unfold chT' at h; cases h
  | .glob .., S, e, X, W, ok, h => by unfold chT' at h; cases h
  | .bin .., S, e, X, W, ok, h => by unfold chT' at h; cases h
  | .neg .., S, e, X, W, ok, h => by unfold chT' at h; cases h
  | .chn .., S, e, X, W, ok, h => by unfold chT' at h; cases h
  | .ife .., S, e, X, W, ok, h => by unfold chT' at h; cases h
  | .tup .., S, e, X, W, ok, h => by unfold chT' at h; cases h
  | .lst .., S, e, X, W, ok, h => by unfold chT' at h; cases h
  | .idx .., S, e, X, W, ok, h => by unfold chT' at h; cases h
  | .sli .., S, e, X, W, ok, h => by unfold chT' at h; cases h
  | .rev .., S, e, X, W, ok, h => by unfold chT' at h; cases h
  | .calP .., S, e, X, W, ok, h => by unfold chT' at h; cases h
  | .calK .., S, e, X, W, ok, h => by unfold chT' at h; cases h
  | .fn1 .., S, e, X, W, ok, h => by unfold chT' at h; cases h
  | .fn2 .., S, e, X, W, ok, h => by unfold chT' at h; cases h
  | .isi .., S, e, X, W, ok, h => by unfold chT' at h; cases h
  | .lstR .., S, e, X, W, ok, h => by unfold chT' at h; cases h
  | .comp .., S, e, X, W, ok, h => by unfold chT' at h; cases h
theorem chs_ok : ∀ (x : Exs) {S : Sc} {es : List Expr} {X : Cx} {W : WX}, XOk C T F W S X → chs T x S es = true → PA X es (tEs C W (evs F x)) ∧ es.all nst = true
  | .nil, S, es, X, W, ok, h => by
    unfold chs at h
    split at h
    · exact ⟨es_nil, rfl⟩
    · cases h
  | .cons e es, S, xs, X, W, ok, h => by
    unfold chs at h
    split at h
    · obtain ⟨h, h3⟩ := and2 h
      obtain ⟨h1, h2⟩ := and2 h
      obtain ⟨a1, a2⟩ := chs_ok es ok h3
      exact ⟨es_cons h1 (ch_ok (m := .e) e ok h2) a1, by rw [List.all_cons, h1, a2]; rfl⟩
    · cases h
theorem chk_ok : ∀ (x : Exs) {S : Sc} {es : List Keyword} {X : Cx} {W : WX}, XOk C T F W S X → chk T x S es = true → L2.PK X es (tEs C W (evs F x))
  | .nil, S, es, X, W, ok, h => by
    unfold chk at h
    split at h
    · exact kw_nil
    · cases h
  | .cons e es, S, xs, X, W, ok, h => by
    unfold chk at h
    split at h
    · obtain ⟨h1, h2⟩ := and2 h
      exact kw_cons (ch_ok (m := .e) e ok h1) (chk_ok es ok h2)
    · cases h
theorem chO_ok : ∀ (x : Option') {S : Sc} {es : List Expr} {X : Cx} {W : WX}, XOk C T F W S X → chO T x S es = true → PTs X es (tO C W (evO F x))
  | .non, S, es, X, W, ok, h => by
    unfold chO at h
    split at h
    · exact to_non
    · cases h
  | .som c, S, es, X, W, ok, h => by
    unfold chO at h
    split at h
    · exact to_som (chT_ok c ok h).1
    · cases h
theorem chI_ok : ∀ (x : Mi.It) {b : Bool} {S : Sc} {tg e : Expr} {X : Cx} {W : WX}, XOk C T F W S X → chI T x b S tg e = true → (b = false → PI X tg e (tI C W (evI F x))) ∧ PI X tg e (tIB C W (evI F x))
  | .ex a, b, S, tg, e, X, W, ok, h => by
    unfold chI at h
    cases b with
    | true => exact ⟨nofun, wi_exB ok.K (ch_ok (m := .b) a ok h)⟩
    | false =>
      have q := wi_ex (tg := tg) ok.K (ch_ok (m := .e) a ok h)
      exact ⟨fun _ => q, wi_b q⟩
  | .rng1 a, b, S, tg, e, X, W, ok, h => by
    unfold chI at h
    split at h
    · obtain ⟨h, h3⟩ := and2 h
      obtain ⟨h1, h2⟩ := and2 h
      obtain ⟨rfl, b1, b2, b3, b4⟩ := blt_ok ok h1
      have q := fun p pos => wi_rng1 (tg := tg) (C := C) (W := W) (p := p) (pos := pos) b1 b2 h2 (ch_ok (m := .e) a ok h3)
      exact ⟨fun _ => q _ _, wi_b (q _ _)⟩
    · cases h
  | .rng2 a c, b, S, tg, e, X, W, ok, h => by
    unfold chI at h
    split at h
    · obtain ⟨h, h5⟩ := and2 h
      obtain ⟨h, h4⟩ := and2 h
      obtain ⟨h, h3⟩ := and2 h
      obtain ⟨h1, h2⟩ := and2 h
      obtain ⟨rfl, b1, b2, b3, b4⟩ := blt_ok ok h1
      have q := fun p pos => wi_rng2 (tg := tg) (C := C) (W := W) (p := p) (pos := pos) b1 b2 h2 h3 (ch_ok (m := .e) a ok h4) (ch_ok (m := .e) c ok h5)
      exact ⟨fun _ => q _ _, wi_b (q _ _)⟩
    · cases h
  | .rng3 .., b, S, tg, e, X, W, ok, h => by unfold chI at h; cases h
  | .enum .., b, S, tg, e, X, W, ok, h => by unfold chI at h; cases h
  | .zip .., b, S, tg, e, X, W, ok, h => by unfold chI at h; cases h
end
end Mi

/-! MiStmt: one rule for each form of statement. -/
namespace Mi
open PySem L2
/-- the statement's ground: where the def began -/
structure Sta (C : Cn) (pr : Option Pr) (G0 H0 : Hp) (fps : Nat → List Addr) (G H : Hp) (σ : St) (ρ : Mi.Env) (pt : Pt) : Prop where
  rel : Rel C pr fps G H σ ρ pt
  stp : Stp C pr G0 H0 G H pt
  new : ∀ i a, a ∈ fps i → H0 a = none
def NxP (C : Cn) (pr : Option Pr) (G0 H0 : Hp) (k : St → Hp → Prop) (ρ : Mi.Env) (pt : Pt) : Prop := ∀ fps G H σ, Sta C pr G0 H0 fps G H σ ρ pt → k σ H
def OutP (C : Cn) (pr : Option Pr) (G0 H0 : Hp) (Dn : Ends) (o : Out) (pt : Pt) : Prop := match o with
  | .nx ρ => NxP C pr G0 H0 Dn.nx ρ pt
  | .bk ρ => NxP C pr G0 H0 Dn.bk ρ pt
  | .ct ρ => NxP C pr G0 H0 Dn.ct ρ pt
  | .rt d => ∀ v G H, Stp C pr G0 H0 G H pt → Rp C.K G v d → Dn.rt v H
def ErP (C : Cn) (W : WX) (pr : Option Pr) (G0 H0 : Hp) (x : Xc) (pt : Pt) : Prop := ∀ c dx G H σ, Stp C pr G0 H0 G H pt → XcR C x c dx H → W c dx σ H
def tS (C : Cn) (W : WX) (f : Mn Out) : L2.TS := fun Dn σ H => ∃ pr G0 H0 pt0 fps G ρ pt, PtR C pr G0 H0 pt0 ∧ Sta C pr G0 H0 fps G H σ ρ pt ∧ (f ρ pt).sat (OutP C pr G0 H0 Dn) (ErP C W pr G0 H0)
section
variable {C : Cn} {W : WX} {X : Cx} {pr : Option Pr} {G0 H0 G H G1 H1 : Hp} {pt0 pt p1 : Pt} {fps : Nat → List Addr} {σ : St} {ρ : Mi.Env} {Dn : Ends}
theorem ErP.e {x : Xc} {p2 : Pt} (h : ErP C W pr G0 H0 x p2) (p0 : PtR C pr G0 H0 pt0) (s : Stp C pr G0 H0 G H pt) : erW C W pr G H σ x p2 := fun c dx G' H' s2 r => h c dx G' H' σ (s.trans p0 s2) r
theorem Sta.step (h : Sta C pr G0 H0 fps G H σ ρ pt) (p0 : PtR C pr G0 H0 pt0) (s : Stp C pr G H G1 H1 p1) : Sta C pr G0 H0 fps G1 H1 σ ρ p1 := ⟨h.rel.step s, h.stp.trans p0 s, h.new⟩
theorem Sta.put (h : Sta C pr G0 H0 fps G H σ ρ pt) {i : Nat} {v : V} {d : D} (r : Rp C.K G v d) : Sta C pr G0 H0 (clr fps i) G H (σ.set i (some v)) (ρ.set i (.sh d)) pt := ⟨h.rel.put r, h.stp, fun j a z => h.new j a (clr_sub z).1⟩
/-- slot i owns p -/
def own1 (fps : Nat → List Addr) (i : Nat) (as : List Addr) : Nat → List Addr := fun j => if j = i then as else fps j
theorem own1_mem {i j : Nat} {a : Addr} {as : List Addr} (h : a ∈ own1 fps i as j) : (j = i ∧ a ∈ as) ∨ (j ≠ i ∧ a ∈ fps j) := by
  unfold own1 at h
  split at h
  · rename_i e; exact .inl ⟨e, h⟩
  · rename_i e; exact .inr ⟨e, h⟩
theorem Rel.own (R : Rel C pr fps G H σ ρ pt) {i : Nat} {q : Addr} {xs : List V} {ds : List D} (hq : H q = some (.lst xs)) (gq : G q = none) (nq : ¬ Pr.has pr q) (oq : ∀ j, j ≠ i → q ∉ fps j) (r : RpL C.K G xs ds) :
    Rel C pr (own1 fps i [q]) G H (σ.set i (some (.ref q))) (ρ.set i (.ow ds)) pt := by
  refine ⟨R.same, by rw [List.length_set, List.length_set]; exact R.len, fun j => ?_, fun j k a h1 h2 => ?_, fun j a h => ?_, R.pot⟩
  · by_cases e : j = i
    · subst e
      by_cases hl : j < ρ.length
      · rw [List.getElem?_set_self hl, List.getElem?_set_self (by rw [R.len]; exact hl)]
        exact ⟨q, xs, rfl, by unfold own1; rw [if_pos rfl]; exact List.mem_singleton.mpr rfl, hq, r⟩
      · rw [List.getElem?_eq_none (l := ρ.set j _) (by rw [List.length_set]; omega)]
        trivial
    · rw [List.getElem?_set_ne (Ne.symm e), List.getElem?_set_ne (Ne.symm e)]
      unfold own1
      rw [if_neg e]
      exact R.slot j
  · rcases own1_mem h1 with ⟨e1, m1⟩ | ⟨e1, m1⟩ <;> rcases own1_mem h2 with ⟨e2, m2⟩ | ⟨e2, m2⟩
    · rw [e1, e2]
    · rw [List.mem_singleton.mp m1] at m2; exact absurd m2 (oq k e2)
    · rw [List.mem_singleton.mp m2] at m1; exact absurd m1 (oq j e1)
    · exact R.dis j k a m1 m2
  · rcases own1_mem h with ⟨_, m⟩ | ⟨_, m⟩
    · rw [List.mem_singleton.mp m]
      exact ⟨by rw [hq]; simp, gq, nq⟩
    · exact R.fre j a m
theorem Sta.own (h : Sta C pr G0 H0 fps G H σ ρ pt) {i : Nat} {q : Addr} {xs : List V} {ds : List D} (hq : H q = some (.lst xs)) (gq : G q = none) (nq : ¬ Pr.has pr q) (oq : ∀ j, j ≠ i → q ∉ fps j) (hn : H0 q = none) (r : RpL C.K G xs ds) :
    Sta C pr G0 H0 (own1 fps i [q]) G H (σ.set i (some (.ref q))) (ρ.set i (.ow ds)) pt := ⟨h.rel.own hq gq nq oq r, h.stp, fun j a z => by
  rcases own1_mem z with ⟨_, m⟩ | ⟨_, m⟩
  · rw [List.mem_singleton.mp m]; exact hn
  · exact h.new j a m⟩
/-- an owned list is written -/
theorem Sta.write (h : Sta C pr G0 H0 fps G H σ ρ pt) (p0 : PtR C pr G0 H0 pt0) {i : Nat} {ds ds' : List D} {xs' : List V} {q : Addr} {xs : List V} (hρ : ρ[i]? = some (.ow ds)) (hσ : σ[i]? = some (some (.ref q))) (hm : q ∈ fps i) (hq : H q = some (.lst xs)) (r : RpL C.K G xs' ds') :
    Sta C pr G0 H0 fps G (upd H q (.lst xs')) σ (ρ.set i (.ow ds')) pt := by
  obtain ⟨f1, f2, f3⟩ := h.rel.fre i q hm
  have hn := h.new i q hm
  have st : Stp C pr G0 H0 G (upd H q (.lst xs')) pt := Stp.putD h.stp p0 hn f2
  refine ⟨⟨st.same, by rw [List.length_set]; exact h.rel.len, fun j => ?_, h.rel.dis, fun j a m => ?_, st.pot⟩, st, h.new⟩
  · by_cases e : j = i
    · subst e
      by_cases hl : j < ρ.length
      · rw [List.getElem?_set_self hl, hσ]
        exact ⟨q, xs', rfl, hm, upd_same, r⟩
      · rw [List.getElem?_eq_none (l := ρ.set j _) (by rw [List.length_set]; omega)]
        trivial
    · rw [List.getElem?_set_ne (Ne.symm e)]
      have sl := h.rel.slot j
      have ne : ∀ a, a ∈ fps j → a ≠ q := fun a ha z => e (h.rel.dis j i q (z ▸ ha) hm)
      cases hr : ρ[j]? with
      | none => trivial
      | some s =>
        rw [hr] at sl
        cases s with
        | no => trivial
        | sh d => exact sl
        | ow ds2 =>
          obtain ⟨p2, xs2, e1, e2, e3, e4⟩ := sl
          exact ⟨p2, xs2, e1, e2, by rw [upd_ne (ne p2 e2)]; exact e3, e4⟩
        | o2 dss =>
          obtain ⟨p2, qs, e1, e2, e3, e4, e5⟩ := sl
          refine ⟨p2, qs, e1, e2, e3, by rw [upd_ne (ne p2 (e2 p2 List.mem_cons_self))]; exact e4, Paired.mapR e5 fun a b ha ⟨ys, z1, z2⟩ => ⟨ys, ?_, z2⟩⟩
          rw [upd_ne (ne a (e2 a (List.mem_cons_of_mem _ ha)))]
          exact z1
        | po => exact sl
  · obtain ⟨g1, g2, g3⟩ := h.rel.fre j a m
    refine ⟨?_, g2, g3⟩
    by_cases e : a = q
    · rw [e, upd_same]; simp
    · rw [upd_ne e]; exact g1
theorem Sta.wipeP (h : Sta C pr G0 H0 fps G H σ ρ pt) (vs : List Nat) : ∃ fps', Sta C pr G0 H0 fps' G H σ (wipes ρ vs) pt := by
  obtain ⟨fps', R, k⟩ := h.rel.wipeP vs
  exact ⟨fps', R, h.stp, fun i a z => h.new i a (k i a z)⟩
end
/-! ### the stores -/
section
variable {C : Cn} {W : WX} {X : Cx} {F : List Fn} {f : Mn D} {e : Expr} {pos : Pos} {st : Stmt}
theorem st_put {te : L2.TE} (he : ∀ σ H Q, tE C W f σ H Q → te σ H Q) {i : Nat} (Dn : Ends) (σ : St) (H : Hp) (h : tS C W (fun ρ p => (f ρ p).bind fun d p => .ok (.nx (ρ.set i (.sh d))) p) Dn σ H) : tAsg te (gName i) Dn σ H := by
  obtain ⟨pr, G0, H0, pt0, fps, G, ρ, pt, p0, S, q⟩ := h
  refine he _ _ _ ⟨pr, fps, G, ρ, pt, S.rel, (sat_bind q).mono (fun d p1 q v G1 H1 s1 r => ?_) fun x p q => q.e p0 S.stp⟩
  exact q _ G1 H1 _ ((S.step p0 s1).put r)
theorem own_new {pr : Option Pr} {fps : Nat → List Addr} {G H : Hp} {σ : St} {ρ : Mi.Env} {pt : Pt} (R : Rel C pr fps G H σ ρ pt) {q : Addr} (n : H q = none) : ¬ Pr.has pr q ∧ ∀ j, q ∉ fps j :=
  ⟨fun z => (R.pot.there z).1 n, fun j z => (R.fre j q z).1 n⟩
theorem st_own {te : L2.TE} (he : ∀ σ H Q, tFr C W f σ H Q → te σ H Q) {i : Nat} (Dn : Ends) (σ : St) (H : Hp) (h : tS C W (fun ρ p => (f ρ p).bind fun d p => match d with
    | .list l => .ok (.nx (ρ.set i (.ow l))) p
    | _ => .bad) Dn σ H) : tAsg te (gName i) Dn σ H := by
  obtain ⟨pr, G0, H0, pt0, fps, G, ρ, pt, p0, S, q⟩ := h
  refine he _ _ _ ⟨pr, fps, G, ρ, pt, S.rel, (sat_bind q).mono (fun d p1 q v G1 H1 s1 r => ?_) fun x p q => q.e p0 S.stp⟩
  cases d <;> first
    | exact False.elim q
    | skip
  case list l =>
    obtain ⟨a, xs, rfl, n, g, ha, rl⟩ := r
    obtain ⟨o1, o2⟩ := own_new S.rel n
    exact (q : NxP C pr G0 H0 Dn.nx _ p1) _ G1 H1 _ ((S.step p0 s1).own ha g o1 (fun j _ => o2 j) (S.stp.back p0 n) rl)
/-! ### values that do not write -/
theorem sw_no {tg : Option Expr} {l : Nat} {env : PySem.Env} (h : (match e with | .ListComp _ _ _ _ => false | .SetComp _ _ _ _ => false | .DictComp _ _ _ _ _ => false | _ => true) = true) : swapsWith e tg l env = pure false := by
  cases e <;> first
    | rfl
    | cases h
theorem sw_tup {es : List Expr} {k : Nat} {tp : Pos} {l : Nat} {env : PySem.Env} : swapsWith e (some (.Tuple es k tp)) l env = pure false := by
  cases e <;> rfl
def notComp : Expr → Bool
  | .ListComp _ _ _ _ => false
  | .SetComp _ _ _ _ => false
  | .DictComp _ _ _ _ _ => false
  | _ => true
def notTup : Expr → Bool
  | .Tuple _ _ _ => false
  | _ => true
theorem sw_nc {tg : Option Expr} {l : Nat} {env : PySem.Env} (h : notComp e = true) : swapsWith e tg l env = pure false := by
  cases e <;> first
    | rfl
    | cases h
theorem sst_name {x : Str} {p : Pos} {env : PySem.Env} : swappedStores [.Name x p] e env = pure none := by
  cases e <;> rfl
theorem sst_nt {es : List Expr} {k : Nat} {tp : Pos} {env : PySem.Env} (h : notTup e = true) : swappedStores [.Tuple es k tp] e env = pure none := by
  cases e <;> first
    | rfl
    | cases h
/-- name = e, e no comprehension -/
theorem ss_set {i : Nat} {x : Str} {p : Pos} {S : Sc} (n : NmOk S X) (hi : S.N[i]? = some x) (hl : S.loc x = true) (hc : notComp e = true) (he : PE X e (tE C W f)) :
    PS X (.Assign [.Name x p] e pos) (tS C W (fun ρ p => (f ρ p).bind fun d p => .ok (.nx (ρ.set i (.sh d))) p)) := by
  obtain ⟨l1, l2⟩ := loc_ok n hl
  exact PS.imp (ps_asg he (pg_name (i := i) n.nd (by rw [n.n]; exact hi) l1 l2) (show swapsWith e (some (.Name x p)) pos.line X.env = pure false from sw_nc hc) sst_name) (st_put fun _ _ _ h => h)
theorem ss_own {i : Nat} {x : Str} {p : Pos} {S : Sc} (n : NmOk S X) (hi : S.N[i]? = some x) (hl : S.loc x = true) (hc : notComp e = true) (he : PE X e (tFr C W f)) :
    PS X (.Assign [.Name x p] e pos) (tS C W (fun ρ p => (f ρ p).bind fun d p => match d with
    | .list l => .ok (.nx (ρ.set i (.ow l))) p
    | _ => .bad)) := by
  obtain ⟨l1, l2⟩ := loc_ok n hl
  exact PS.imp (ps_asg he (pg_name (i := i) n.nd (by rw [n.n]; exact hi) l1 l2) (show swapsWith e (some (.Name x p)) pos.line X.env = pure false from sw_nc hc) sst_name) (st_own fun _ _ _ h => h)
/-- a, b = e -/
theorem ss_unp {tg : Tgs} {es : List Expr} {k : Nat} {tp : Pos} {S : Sc} (n : NmOk S X) (hK : X.K = C.K) (hc : chT S (.tp tg) (.Tuple es k tp) = true) (hn : notTup e = true) (he : PE X e (tE C W f)) :
    PS X (.Assign [.Tuple es k tp] e pos) (tS C W (fun ρ p => (f ρ p).bind fun d p => nxO (bindT (.tp tg) d ρ) p)) := by
  refine PS.imp (ps_asg he (pg_T n hK hc) (show swapsWith e (some (.Tuple es k tp)) pos.line X.env = pure false from sw_tup) (sst_nt hn)) fun Dn σ H ⟨pr, G0, H0, pt0, fps, G, ρ, pt, p0, S, q⟩ => ?_
  refine ⟨pr, fps, G, ρ, pt, S.rel, (sat_bind q).mono (fun d p1 q v G1 H1 s1 r => ?_) fun x p q => q.e p0 S.stp⟩
  unfold nxO at q
  split at q
  · rename_i ρ' hb
    have S1 := S.step p0 s1
    exact ⟨pr, fps, G1, ρ, p1, d, ρ', S1.rel, r, hb, fun σ' fps' R' sub _ => (q : NxP C pr G0 H0 Dn.nx _ p1) fps' G1 H1 σ' ⟨R', S1.stp, fun i a z => S1.new i a (sub i a z)⟩⟩
  · exact q.elim
/-! ### ends -/
theorem ss_ret (he : PE X e (tE C W f)) : PS X (.Return (some e) pos) (tS C W (fun ρ p => (f ρ p).bind fun d p => .ok (.rt d) p)) :=
  PS.imp (ps_ret he) fun Dn σ H ⟨pr, G0, H0, pt0, fps, G, ρ, pt, p0, S, q⟩ => ⟨pr, fps, G, ρ, pt, S.rel, (sat_bind q).mono (fun d p1 q v G1 H1 s1 r => (q : ∀ v G H, _ → _ → Dn.rt v H) v G1 H1 (S.stp.trans p0 s1) r) fun x p q => q.e p0 S.stp⟩
theorem ss_retN : PS X (.Return none pos) (tS C W (fun ρ p => .ok (.rt .none) p)) :=
  PS.imp ps_retN fun Dn σ H ⟨pr, G0, H0, pt0, fps, G, ρ, pt, p0, S, q⟩ => (q : ∀ v G H, _ → _ → Dn.rt v H) .non G H S.stp .non
theorem ss_pas : PS X (.Pass pos) (tS C W (fun ρ p => .ok (.nx ρ) p)) := PS.imp ps_pass fun Dn σ H ⟨pr, G0, H0, pt0, fps, G, ρ, pt, p0, S, q⟩ => (q : NxP C pr G0 H0 Dn.nx _ pt) fps G H σ S
theorem ss_brk : PS X (.Break pos) (tS C W (fun ρ p => .ok (.bk ρ) p)) := PS.imp ps_break fun Dn σ H ⟨pr, G0, H0, pt0, fps, G, ρ, pt, p0, S, q⟩ => (q : NxP C pr G0 H0 Dn.bk _ pt) fps G H σ S
theorem ss_cnt : PS X (.Continue pos) (tS C W (fun ρ p => .ok (.ct ρ) p)) := PS.imp ps_continue fun Dn σ H ⟨pr, G0, H0, pt0, fps, G, ρ, pt, p0, S, q⟩ => (q : NxP C pr G0 H0 Dn.ct _ pt) fps G H σ S
theorem ss_drop (hc : notComp e = true) (he : PE X e (tE C W f)) : PS X (.Expr e pos) (tS C W (fun ρ p => (f ρ p).bind fun _ p => .ok (.nx ρ) p)) :=
  PS.imp (ps_expr he (sw_nc hc)) fun Dn σ H ⟨pr, G0, H0, pt0, fps, G, ρ, pt, p0, S, q⟩ => ⟨pr, fps, G, ρ, pt, S.rel, (sat_bind q).mono (fun d p1 q v G1 H1 s1 r => (q : NxP C pr G0 H0 Dn.nx _ p1) fps G1 H1 σ (S.step p0 s1)) fun x p q => q.e p0 S.stp⟩
/-! ### if -/
theorem ss_iff {c : Expr} {a b : List Stmt} {fa fb : Mn Out} (hc : PT X c (tTs C W f)) (ha : PSs X a (tS C W fa)) (hb : PSs X b (tS C W fb)) : PS X (.If c a b pos) (tS C W (fun ρ p => (f ρ p).bind fun d p => match d with
    | .bool true => fa ρ p
    | .bool false => fb ρ p
    | _ => .bad)) :=
  PS.imp (ps_if hc ha hb) fun Dn σ H ⟨pr, G0, H0, pt0, fps, G, ρ, pt, p0, S, q⟩ => ⟨pr, fps, G, ρ, pt, S.rel, (sat_bind q).mono (fun d p1 q => by
    split at q
    · refine ⟨true, rfl, fun G1 H1 s1 => ?_⟩
      show (if true = true then _ else _)
      rw [if_pos rfl]
      exact ⟨pr, G0, H0, pt0, fps, G1, ρ, p1, p0, S.step p0 s1, q⟩
    · refine ⟨false, rfl, fun G1 H1 s1 => ?_⟩
      show (if false = true then _ else _)
      rw [if_neg (by decide)]
      exact ⟨pr, G0, H0, pt0, fps, G1, ρ, p1, p0, S.step p0 s1, q⟩
    · exact q.elim) fun x p q => q.e p0 S.stp⟩
/-! ### one after another -/
theorem ss_nil : PSs X [] (tS C W (fun ρ p => .ok (.nx ρ) p)) := PSs.imp pss_nil fun Dn σ H ⟨pr, G0, H0, pt0, fps, G, ρ, pt, p0, S, q⟩ => (q : NxP C pr G0 H0 Dn.nx _ pt) fps G H σ S
theorem ss_cons {r : List Stmt} {f g : Mn Out} (h : PS X st (tS C W f)) (hr : PSs X r (tS C W g)) : PSs X (st :: r) (tS C W (fun ρ p => (f ρ p).bind fun o p => match o with
    | .nx ρ' => g ρ' p
    | .bk ρ' => .ok (.bk ρ') p
    | .ct ρ' => .ok (.ct ρ') p
    | .rt d => .ok (.rt d) p)) :=
  PSs.imp (pss_cons h hr) fun Dn σ H ⟨pr, G0, H0, pt0, fps, G, ρ, pt, p0, S, q⟩ => ⟨pr, G0, H0, pt0, fps, G, ρ, pt, p0, S, (sat_bind q).mono (fun o p1 q => by
    cases o with
    | nx ρ' => exact fun fps1 G1 H1 σ1 S1 => ⟨pr, G0, H0, pt0, fps1, G1, ρ', p1, p0, S1, q⟩
    | bk ρ' => exact q
    | ct ρ' => exact q
    | rt d => exact q) fun _ _ q => q⟩
/-- an owned list becomes shared -/
theorem Sta.frz {pr : Option Pr} {G0 H0 G H : Hp} {pt0 pt : Pt} {fps : Nat → List Addr} {σ : St} {ρ : Mi.Env} (S : Sta C pr G0 H0 fps G H σ ρ pt) (p0 : PtR C pr G0 H0 pt0) {i : Nat} {ds : List D} (hρ : ρ[i]? = some (.ow ds)) :
    ∃ fps' G', Sta C pr G0 H0 fps' G' H σ (ρ.set i (.sh (.list ds))) pt := by
  have sl := S.rel.slot i
  rw [hρ] at sl
  obtain ⟨q, xs, hσ, hm, hq, r⟩ := sl
  obtain ⟨f1, f2, f3⟩ := S.rel.fre i q hm
  have hn := S.new i q hm
  have st : Stp C pr G0 H0 (upd G q (.lst xs)) H pt := S.stp.frz p0 hn f2 hq
  have sg : Same G (upd G q (.lst xs)) := fun b u e => by rw [upd_ne (ne_of_none e f2)]; exact e
  refine ⟨clr fps i, upd G q (.lst xs), ⟨st.same, by rw [List.length_set]; exact S.rel.len, fun j => ?_, fun j k a h1 h2 => S.rel.dis j k a (clr_sub h1).1 (clr_sub h2).1, fun j a h => ?_, st.pot⟩, st, fun j a z => S.new j a (clr_sub z).1⟩
  · by_cases e : j = i
    · subst e
      by_cases hl : j < ρ.length
      · rw [List.getElem?_set_self hl, hσ]
        exact ⟨_, rfl, .lst upd_same (r.mono sg)⟩
      · rw [List.getElem?_eq_none (l := ρ.set j _) (by rw [List.length_set]; omega)]
        trivial
    · rw [List.getElem?_set_ne (Ne.symm e)]
      have sl := S.rel.slot j
      cases hr : ρ[j]? with
      | none => trivial
      | some s =>
        rw [hr] at sl
        have ce : clr fps i j = fps j := by unfold clr; rw [if_neg e]
        rw [ce]
        cases s with
        | no => trivial
        | sh d => obtain ⟨x, e1, e2⟩ := sl; exact ⟨x, e1, e2.mono sg⟩
        | ow ds2 =>
          obtain ⟨p2, xs2, e1, e2, e3, e4⟩ := sl
          exact ⟨p2, xs2, e1, e2, e3, e4.mono sg⟩
        | o2 dss =>
          obtain ⟨p2, qs, e1, e2, e3, e4, e5⟩ := sl
          exact ⟨p2, qs, e1, e2, e3, e4, Paired.mapR e5 fun a b ha ⟨ys, z1, z2⟩ => ⟨ys, z1, z2.mono sg⟩⟩
        | po => exact sl
  · obtain ⟨m, ne⟩ := clr_sub h
    obtain ⟨g1, g2, g3⟩ := S.rel.fre j a m
    refine ⟨g1, ?_, g3⟩
    rw [upd_ne (fun z : a = q => ne (S.rel.dis j i q (by rw [← z]; exact m) hm))]
    exact g2
end
end Mi

/-! MiLoop: loops, stores of comprehensions, several names, lists written. -/
namespace Mi
open PySem L2
section
variable {C : Cn} {W : WX} {X : Cx} {F : List Fn} {f : Mn D} {e : Expr} {pos : Pos} {st : Stmt}
/-! ### loops -/
theorem ss_whl {c : Expr} {body : List Stmt} {fc : Mn D} {fb : Mn Out} {kill : List Nat} (hp : PassesOwn (model X.prog X.w) X.A X.env X.xe) (hc : PT X c (tTs C W fc)) (hb : PSs X body (tS C W fb)) :
    PS X (.While c body [] pos) (tS C W (fun ρ p => whlL fc fb kill fuel ρ p)) := by
  refine PS.imp (ps_while hp hc hb) fun Dn σ H ⟨pr, G0, H0, pt0, fps, G, ρ, pt, p0, S, q⟩ => ?_
  refine ⟨fun m σ H => ∃ fps G ρ pt, Sta C pr G0 H0 fps G H σ ρ pt ∧ (whlL fc fb kill m ρ pt).sat (OutP C pr G0 H0 Dn) (ErP C W pr G0 H0), ⟨fuel, fps, G, ρ, pt, S, q⟩, ?_⟩
  rintro m σ H ⟨fps, G, ρ, pt, S, q⟩
  obtain ⟨fps1, S1⟩ := S.wipeP kill
  cases m with
  | zero => exact q.elim
  | succ m =>
    unfold whlL at q
    refine ⟨pr, fps1, G, wipes ρ kill, pt, S1.rel, (sat_bind q).mono (fun d p1 q => ?_) fun x p q => q.e p0 S.stp⟩
    split at q
    · refine ⟨true, rfl, fun G1 H1 s1 => ?_⟩
      show (if true = true then _ else _)
      rw [if_pos rfl]
      refine ⟨fun σ H => ∃ fps G ρ pt, Sta C pr G0 H0 fps G H σ ρ pt ∧ (whlL fc fb kill m ρ pt).sat (OutP C pr G0 H0 Dn) (ErP C W pr G0 H0), fun σ' H' h => ⟨m, Nat.lt_succ_self m, h⟩, ?_⟩
      refine ⟨pr, G0, H0, pt0, fps1, G1, _, p1, p0, S1.step p0 s1, (sat_bind q).mono (fun o p2 q => ?_) fun _ _ q => q⟩
      cases o with
      | nx ρ' => exact fun fps2 G2 H2 σ2 S2 => ⟨fps2, G2, ρ', p2, S2, q⟩
      | ct ρ' => exact fun fps2 G2 H2 σ2 S2 => ⟨fps2, G2, ρ', p2, S2, q⟩
      | bk ρ' =>
        intro fps2 G2 H2 σ2 S2
        obtain ⟨fps3, S3⟩ := S2.wipeP kill
        exact (q : NxP C pr G0 H0 Dn.nx _ p2) fps3 G2 H2 σ2 S3
      | rt d => exact q
    · refine ⟨false, rfl, fun G1 H1 s1 => ?_⟩
      show (if false = true then _ else _)
      rw [if_neg (by decide)]
      exact (q : NxP C pr G0 H0 Dn.nx _ p1) fps1 G1 H1 σ (S1.step p0 s1)
    · exact q.elim
section
variable {pr : Option Pr} {G0 H0 Gf Hf G H : Hp} {ptf pt0 pt : Pt} {fps : Nat → List Addr} {σ : St} {ρ : Mi.Env} {Dn : Ends}
theorem Stp.floor (s : Stp C pr G0 H0 Gf Hf ptf) (t : Stp C pr Gf H0 G H pt) : Stp C pr G0 H0 G H pt :=
  ⟨s.sG.trans t.sG, t.sH, fun a o e => (t.new a o e).elim (fun z => s.new a _ z) .inr, t.same, t.pot⟩
theorem Sta.floor (s : Stp C pr G0 H0 Gf Hf ptf) (S : Sta C pr Gf H0 fps G H σ ρ pt) : Sta C pr G0 H0 fps G H σ ρ pt := ⟨S.rel, Stp.floor s S.stp, S.new⟩
theorem NxP.rise {k : St → Hp → Prop} (s : Stp C pr G0 H0 Gf Hf ptf) (h : NxP C pr G0 H0 k ρ pt) : NxP C pr Gf H0 k ρ pt := fun fps G H σ S => h fps G H σ (S.floor s)
theorem OutP.rise (s : Stp C pr G0 H0 Gf Hf ptf) {o : Out} (h : OutP C pr G0 H0 Dn o pt) : OutP C pr Gf H0 Dn o pt := by
  cases o with
  | nx ρ => exact NxP.rise (k := Dn.nx) s h
  | bk ρ => exact NxP.rise (k := Dn.bk) s h
  | ct ρ => exact NxP.rise (k := Dn.ct) s h
  | rt d => exact fun v G H t r => (h : ∀ v G H, _ → _ → Dn.rt v H) v G H (Stp.floor s t) r
theorem ErP.rise (s : Stp C pr G0 H0 Gf Hf ptf) {x : Xc} (h : ErP C W pr G0 H0 x pt) : ErP C W pr Gf H0 x pt := fun c dx G H σ t r => h c dx G H σ (Stp.floor s t) r
theorem Sta.rise (p0 : PtR C pr G0 H0 pt0) (S : Sta C pr G0 H0 fps G H σ ρ pt) : Sta C pr G H0 fps G H σ ρ pt ∧ PtR C pr G H0 pt0 := by
  refine ⟨⟨S.rel, ⟨Same.refl _, S.stp.sH, fun a o e => .inl e, S.stp.same, S.stp.pot⟩, S.new⟩, ?_⟩
  have sp := S.stp.pot
  cases pr with
  | none => cases pt0 with
    | none => trivial
    | some _ => exact p0
  | some r => cases pt0 with
    | none => exact p0
    | some t =>
      cases pt with
      | none => exact sp.elim
      | some t2 => exact ⟨p0.1, sp.2.1, sp.2.2⟩
end
theorem ss_for {tgE iter : Expr} {body : List Stmt} {tg : Tg} {g : Mn (List D)} {fb : Mn Out} {kill : List Nat} (hc : X.calm = true) (hp : PassesOwn (model X.prog X.w) X.A X.env X.xe) (hi : PI X tgE iter (tI C W g)) (hg : PG X tgE (tG C tg)) (hb : PSs X body (tS C W fb))
    (hs : ∀ x, foldedSetIterable iter X.env x = pure x) : PS X (.For tgE iter body [] pos) (tS C W (fun ρ p => (g ρ p).bind fun ds p => forL tg fb kill ds ρ p)) := by
  refine PS.imp (ps_for hp hc hi hg hb hs) fun Dn σ H ⟨pr, G0, H0, pt0, fps, G, ρ, pt, p0, S, q⟩ => ?_
  refine ⟨pr, fps, G, ρ, pt, S.rel, (sat_bind q).mono (fun ds p1 q J G1 H1 s1 yl => ?_) fun x p q => q.e p0 S.stp⟩
  have S1 := S.step p0 s1
  have fl := S1.stp
  obtain ⟨S1, p0⟩ := S1.rise p0
  have q := q.mono (fun o p h => h.rise fl) fun x p h => h.rise fl
  let Wv : Nat → Nat → St → Hp → Prop := fun i m σ H => m = ds.length - i ∧ i ≤ ds.length ∧ ∃ fps G ρ pt, Sta C pr G1 H0 fps G H σ ρ pt ∧ (forL tg fb kill (ds.drop i) ρ pt).sat (OutP C pr G1 H0 Dn) (ErP C W pr G1 H0)
  refine ⟨Wv, ⟨ds.length, rfl, Nat.zero_le _, fps, G1, ρ, p1, S1, q⟩, ?_⟩
  rintro i m σ H ⟨rfl, hi', fps, G, ρ, pt, S, q⟩
  obtain ⟨fps1, S1⟩ := S.wipeP kill
  by_cases e : i = ds.length
  · refine .inl ⟨(yl G H pt S.stp.sG S.stp.same S.stp.pot i).1 e, ?_⟩
    rw [e, List.drop_length] at q
    exact (q : NxP C pr G1 H0 Dn.nx _ pt) fps1 G H σ S1
  have hlt : i < ds.length := by omega
  rw [List.drop_eq_getElem_cons hlt] at q
  have hd : ds[i]? = some ds[i] := List.getElem?_eq_getElem hlt
  generalize ds[i] = d at q hd
  obtain ⟨go, ykk⟩ := (yl G H pt S.stp.sG S.stp.same S.stp.pot i).2 d hd
  unfold forL at q
  split at q
  · exact q.elim
  rename_i ρ1 hb1
  refine .inr ⟨go, Wv (i + 1) (ds.length - (i + 1)), fun σ' H' h => ⟨_, by omega, h⟩, fun x H' hy => ?_⟩
  obtain ⟨G', st', rx⟩ := ykk x H' hy
  have S2 := S1.step p0 st'
  refine ⟨pr, fps1, G', wipes ρ kill, pt, d, ρ1, S2.rel, rx, hb1, fun σ' fps2 R2 sub _ => ?_⟩
  refine ⟨pr, G1, H0, pt0, fps2, G', ρ1, pt, p0, ⟨R2, S2.stp, fun i a z => S2.new i a (sub i a z)⟩, (sat_bind q).mono (fun o p2 q => ?_) fun _ _ q => q⟩
  cases o with
  | nx ρ' => exact fun fps3 G3 H3 σ3 S3 => ⟨rfl, by omega, fps3, G3, ρ', p2, S3, q⟩
  | ct ρ' => exact fun fps3 G3 H3 σ3 S3 => ⟨rfl, by omega, fps3, G3, ρ', p2, S3, q⟩
  | bk ρ' =>
    intro fps3 G3 H3 σ3 S3
    obtain ⟨fps4, S4⟩ := S3.wipeP kill
    exact (q : NxP C pr G1 H0 Dn.nx _ p2) fps4 G3 H3 σ3 S4
  | rt d => exact q
/-! ### name = [..] on one line -/
/-- whether the store changes places with the block's end -/
def swB (sc : Scope) (y : Str) (py : Pos) (e : Expr) : Bool := match e with
  | .ListComp _ _ scope pos => (sc.names.lookup y == some .local) && (py.line == pos.line) && !(scope.names.any fun (n, k) => n == y && (k == .local || k == .cell))
  | _ => false
theorem swB_ok {y : Str} {py : Pos} {l : Nat} {env : PySem.Env} (hk : env.scope.kind = .function) (h : (match e with | .SetComp _ _ _ _ => false | .DictComp _ _ _ _ _ => false | _ => true) = true) : swapsWith e (some (.Name y py)) l env = pure (swB env.scope y py e) := by
  have hb : env.blockKind = .function := by unfold PySem.Env.blockKind; rw [hk]; rfl
  cases e <;> first
    | rfl
    | cases h
    | skip
  case ListComp el gs scope pos =>
    unfold swapsWith swB
    simp only [hb, PySem.Env.kindOf, Expr.pos]
    rfl
theorem ss_setC {i : Nat} {x : Str} {p : Pos} {S : Sc} {elt tgE iter : Expr} {ifs : List Expr} {scope : Scope} {own : List (Str × Nat)} {cpos : Pos} {tg : Tg} {g : Mn (List D)} {fo : Mn (Option D)} {fe : Mn D}
    (n : NmOk S X) (hk : S.sc.kind = .function) (hi : S.N[i]? = some x) (hl : S.loc x = true) (hw : PI X tgE iter (tIB C W g)) (ok : BlkOk X.N X.env.scope scope own) (hsub : ∀ i ∈ tvs tg, i ∈ own.map (·.2))
    (hg : ∀ (s : Shared) (H : Hp) (A : Addr) (cl : List (Str × Addr)) (fp : List Addr), PG (X.blk s H scope (compEnvC scope cl A X.env) fp) tgE (tG C tg))
    (ht : ∀ (s : Shared) (H : Hp) (A : Addr) (cl : List (Str × Addr)) (fp : List Addr), PTs (X.blk s H scope (compEnvC scope cl A X.env) fp) ifs (tO C W0 fo))
    (he : ∀ (s : Shared) (H : Hp) (A : Addr) (cl : List (Str × Addr)) (fp : List Addr), PE (X.blk s H scope (compEnvC scope cl A X.env) fp) elt (tE C W0 fe))
    (hs : ∀ x, foldedSetIterable iter X.env x = pure x) :
    PS X (.Assign [.Name x p] (.ListComp elt [⟨tgE, iter, ifs, 0⟩] scope cpos) pos) (tAsg (tFr C W (compF tg (own.map (·.2)) g fo fe)) (gName i)) := by
  obtain ⟨l1, l2⟩ := loc_ok n hl
  have hk : X.env.scope.kind = .function := by rw [n.sc]; exact hk
  have sw := swB_ok (e := .ListComp elt [⟨tgE, iter, ifs, 0⟩] scope cpos) (y := x) (py := p) (l := pos.line) hk rfl
  by_cases hb : swB X.env.scope x p (.ListComp elt [⟨tgE, iter, ifs, 0⟩] scope cpos) = true
  · rw [hb] at sw
    have hyl : X.env.scope.names.lookup x = some .local := by
      simp only [swB, Bool.and_eq_true] at hb
      exact eq_of_beq hb.1.1
    exact PS.imp (ps_setLc (i := i) n.calm n.nd (by rw [n.n]; exact hi) hyl sw hw ok hg ht he hs) fun Dn σ H h => lc_imp hsub _ _ _ h
  · rw [Bool.eq_false_iff.mpr hb] at sw
    exact ps_asg (ex_comp n.calm n.nd hw ok hsub hg ht he hs) (pg_name (i := i) n.nd (by rw [n.n]; exact hi) l1 l2) sw sst_name
/-! ### a list of one's own is written -/
theorem one_few {env : PySem.Env} {cpos : Pos} (h : nst e = true) : ((backTo cpos (starEach [e] env)).all (fun x => !x.1) && (backToKw cpos (keywordEach [] env)).all (fun x => x.1.isSome)
      && decide (([e] : List Expr).length + ([] : List Keyword).length + (if ([] : List Keyword).isEmpty then 0 else 1) < 30)) = true := by
  rw [star_cons h]; rfl
theorem ty_lst {K : PySem.W.Frag} {H : Hp} {q : Addr} {xs : List V} (h : H q = some (.lst xs)) : tyV K "list" (.ref q) H := Or.inl ⟨rfl, _, SqL.of h⟩
theorem getO_some {ρ : Mi.Env} {i : Nat} {l : List D} (h : getO ρ i = some l) : ρ[i]? = some (.ow l) := by
  unfold getO at h
  split at h
  · rename_i l' e
    cases h
    exact e
  · cases h
theorem ss_app {i : Nat} {x : Str} {p apos cpos : Pos} {S : Sc} (n : NmOk S X) (hi : S.N[i]? = some x) (hv : S.vis x = true) (hs : nst e = true) (hl : (apos.endLine == cpos.line) = true) (he : PE X e (tE C W f)) :
    PS X (.Expr (.Call (.Attribute (.Name x p) "append" apos) [e] [] cpos) pos) (tS C W (fun ρ p => match getO ρ i with
    | some l => (f ρ p).bind fun d p => if l.length < lim then .ok (.nx (ρ.set i (.ow (l ++ [d])))) p else .bad
    | none => .bad)) := by
  obtain ⟨v1, v2, v3⟩ := vis_ok n hv
  refine PS.imp (ps_expr (pe_bm PySem.F.plainAttrs_list PySem.F.slot_list_append PySem.F.type_list_append mt_append (pe_var (i := i) (by rw [n.n]; exact hi) v1 v2 v3) (pa_cons he pa_nil (star_cons hs)) rfl (one_few hs) hl (star_cons hs) rfl)) fun Dn σ H ⟨pr, G0, H0, pt0, fps, G, ρ, pt, p0, S, q⟩ => ?_
  have sl := S.rel.slot i
  have q : (match getO ρ i with | some l => _ | none => _ : Mi.R Out).sat _ _ := q
  split at q
  case h_2 => exact q.elim
  rename_i l hl
  have hρ := getO_some hl
  rw [hρ] at sl
  obtain ⟨a, xs, hσ, hm, hq, r⟩ := sl
  refine ⟨_, hσ, ty_lst hq, pr, fps, G, ρ, pt, S.rel, (sat_bind q).mono (fun d p1 q v G1 H1 s1 rv => ?_) fun x p q => q.e p0 S.stp⟩
  by_cases hz : l.length < lim
  case neg => rw [if_neg hz] at q; exact q.elim
  rw [if_pos hz] at q
  have S1 := S.step p0 s1
  have hq1 : H1 a = some (.lst xs) := s1.sH _ _ hq (S.rel.fre i a hm).2.2
  have r1 := r.mono s1.sG
  refine ⟨a, xs, v, rfl, rfl, hq1, by rw [r.length]; have := lim_line; omega, ?_⟩
  exact (q : NxP C pr G0 H0 Dn.nx _ p1) fps G1 _ σ (S1.write p0 hρ hσ hm hq1 (r1.append (.cons rv .nil)))
theorem ss_ext {i : Nat} {x : Str} {p apos cpos : Pos} {S : Sc} (n : NmOk S X) (hi : S.N[i]? = some x) (hv : S.vis x = true) (hs : nst e = true) (hl : (apos.endLine == cpos.line) = true) (he : PE X e (tBo C W f)) :
    PS X (.Expr (.Call (.Attribute (.Name x p) "extend" apos) [e] [] cpos) pos) (tS C W (fun ρ p => match getO ρ i with
    | some l => (f ρ p).bind fun d p => match d with
      | .list m => if l.length + m.length ≤ lim then .ok (.nx (ρ.set i (.ow (l ++ m)))) p else .bad
      | _ => .bad
    | none => .bad)) := by
  obtain ⟨v1, v2, v3⟩ := vis_ok n hv
  refine PS.imp (ps_expr (pe_bm PySem.F.plainAttrs_list PySem.F.slot_list_extend PySem.F.type_list_extend mt_extend (pe_var (i := i) (by rw [n.n]; exact hi) v1 v2 v3) (pa_cons he pa_nil (star_cons hs)) rfl (one_few hs) hl (star_cons hs) rfl)) fun Dn σ H ⟨pr, G0, H0, pt0, fps, G, ρ, pt, p0, S, q⟩ => ?_
  have sl := S.rel.slot i
  have q : (match getO ρ i with | some l => _ | none => _ : Mi.R Out).sat _ _ := q
  split at q
  case h_2 => exact q.elim
  rename_i l hl
  have hρ := getO_some hl
  rw [hρ] at sl
  obtain ⟨a, xs, hσ, hm, hq, r⟩ := sl
  refine ⟨_, hσ, ty_lst hq, pr, fps, G, ρ, pt, S.rel, (sat_bind q).mono (fun d p1 q v G1 H1 s1 rv => ?_) fun x p q => q.e p0 S.stp⟩
  split at q
  case h_2 => exact q.elim
  rename_i d m
  by_cases hz : l.length + m.length ≤ lim
  case neg => rw [if_neg hz] at q; exact q.elim
  rw [if_pos hz] at q
  have S1 := S.step p0 s1
  have hq1 : H1 a = some (.lst xs) := s1.sH _ _ hq (S.rel.fre i a hm).2.2
  have r1 := r.mono s1.sG
  obtain ⟨b, ys, rfl, hb, rb⟩ := rv.list s1.same
  refine ⟨a, b, xs, ys, rfl, rfl, hq1, hb, by rw [r.length, rb.length]; have := lim_line; omega, ?_⟩
  exact (q : NxP C pr G0 H0 Dn.nx _ p1) fps G1 _ σ (S1.write p0 hρ hσ hm hq1 (r1.append rb))
/-! ### a, b = x, y -/
/-- values for several stores; the ones of as are lists of one's own -/
inductive ParR (C : Cn) (H G' H' : Hp) : List Bool → List V → List D → List Addr → Prop where
  | nil : ParR C H G' H' [] [] [] []
  | sh {fl : List Bool} {v : V} {vs : List V} {d : D} {ds : List D} {as : List Addr} : Rp C.K G' v d → ParR C H G' H' fl vs ds as → ParR C H G' H' (false :: fl) (v :: vs) (d :: ds) as
  | ow {fl : List Bool} {q : Addr} {xs : List V} {l : List D} {vs : List V} {ds : List D} {as : List Addr} : H q = none → G' q = none → H' q = some (.lst xs) → RpL C.K G' xs l → q ∉ as → ParR C H G' H' fl vs ds as → ParR C H G' H' (true :: fl) (.ref q :: vs) (.list l :: ds) (q :: as)
  | ot {fl : List Bool} {v : V} {vs : List V} {d : D} {ds : List D} {as : List Addr} : (∀ l, d ≠ .list l) → ParR C H G' H' fl vs ds as → ParR C H G' H' (true :: fl) (v :: vs) (d :: ds) as
theorem ParR.old {pr : Option Pr} {G H G1 H1 G' H' : Hp} {pt p1 : Pt} (p0 : PtR C pr G H pt) (s : Stp C pr G H G1 H1 p1) : ∀ {fl : List Bool} {vs : List V} {ds : List D} {as : List Addr}, ParR C H1 G' H' fl vs ds as → ParR C H G' H' fl vs ds as ∧ ∀ a ∈ as, H1 a = none
  | _, _, _, _, .nil => ⟨.nil, fun _ h => by cases h⟩
  | _, _, _, _, .sh r t => by
    obtain ⟨h1, h2⟩ := t.old p0 s
    exact ⟨.sh r h1, h2⟩
  | _, _, _, _, .ot n t => by
    obtain ⟨h1, h2⟩ := t.old p0 s
    exact ⟨.ot n h1, h2⟩
  | _, _, _, _, .ow n g h r o t => by
    obtain ⟨h1, h2⟩ := t.old p0 s
    exact ⟨.ow (s.back p0 n) g h r o h1, fun a ha => by
      rcases List.mem_cons.mp ha with e | e
      · rw [e]; exact n
      · exact h2 a e⟩
def tP (C : Cn) (W : WX) (fl : List Bool) (f : Mn (List D)) : L2.TA := fun σ H Q => ∃ pr fps G ρ pt, Rel C pr fps G H σ ρ pt ∧ (f ρ pt).sat (fun ds pt' => ∀ vs as G' H', Stp C pr G H G' H' pt' → ParR C H G' H' fl vs ds as → Q vs H') (erW C W pr G H σ)
theorem tp_nil : PA X [] (tP C W [] (fun _ p => .ok [] p)) := PA.imp pa_nil fun σ H Q ⟨pr, fps, G, ρ, pt, R, q⟩ => q [] [] G H (.refl R.same R.pot) .nil
theorem tp_sh {es : List Expr} {g : Mn (List D)} {fl : List Bool} (hs : nst e = true) (he : PE X e (tE C W f)) (h : PA X es (tP C W fl g)) : PA X (e :: es) (tP C W (false :: fl) (fun ρ p => (f ρ p).bind fun x p => (g ρ p).bind fun xs p => .ok (x :: xs) p)) :=
  PA.imp (pa_cons he h (star_cons hs)) fun σ H Q ⟨pr, fps, G, ρ, pt, R, q⟩ => ⟨pr, fps, G, ρ, pt, R, (sat_bind q).mono (fun d p1 q v G1 H1 s1 r => ⟨pr, fps, G1, ρ, p1, R.step s1, (sat_bind q).mono (fun ds p2 q vs as G2 H2 s2 rs =>
    (q : ∀ vs as G' H', _ → _ → Q vs H') (v :: vs) as G2 H2 (s1.trans R.pot s2) (.sh (r.mono s2.sG) (rs.old R.pot s1).1)) fun _ _ q => q.after R.pot s1⟩) fun _ _ q => q⟩
theorem tp_ow {es : List Expr} {g : Mn (List D)} {fl : List Bool} (hs : nst e = true) (he : PE X e (tFr C W f)) (h : PA X es (tP C W fl g)) : PA X (e :: es) (tP C W (true :: fl) (fun ρ p => (f ρ p).bind fun x p => (g ρ p).bind fun xs p => .ok (x :: xs) p)) :=
  PA.imp (pa_cons he h (star_cons hs)) fun σ H Q ⟨pr, fps, G, ρ, pt, R, q⟩ => ⟨pr, fps, G, ρ, pt, R, (sat_bind q).mono (fun d p1 q v G1 H1 s1 r => by
    by_cases hl : ∃ l, d = .list l
    case neg => exact ⟨pr, fps, G1, ρ, p1, R.step s1, (sat_bind q).mono (fun ds p2 q vs as G2 H2 s2 rs =>
      (q : ∀ vs as G' H', _ → _ → Q vs H') (v :: vs) as G2 H2 (s1.trans R.pot s2) (.ot (fun l e => hl ⟨l, e⟩) (rs.old R.pot s1).1)) fun _ _ q => q.after R.pot s1⟩
    obtain ⟨l, rfl⟩ := hl
    obtain ⟨a, xs, rfl, n, g1, h1, rl⟩ := r
    refine ⟨pr, fps, G1, ρ, p1, R.step s1, (sat_bind q).mono (fun ds p2 q vs as G2 H2 s2 rs => ?_) fun _ _ q => q.after R.pot s1⟩
    have np : ¬ Pr.has pr a := (own_new R n).1
    obtain ⟨t1, t2⟩ := rs.old R.pot s1
    have g2 : G2 a = none := by
      cases e2 : G2 a with
      | none => rfl
      | some o =>
        rcases s2.new a o e2 with z | z
        · rw [g1] at z; cases z
        · rw [h1] at z; cases z
    exact (q : ∀ vs as G' H', _ → _ → Q vs H') (.ref a :: vs) (a :: as) G2 H2 (s1.trans R.pot s2) (.ow n g2 (s2.sH _ _ h1 np) (rl.mono s2.sG) (fun z => by rw [t2 a z] at h1; cases h1) t1)) fun _ _ q => q⟩
/-- the stores of names, one after another -/
def setsV : List Nat → List V → St → St
  | i :: is, v :: vs, σ => setsV is vs (σ.set i (some v))
  | _, _, σ => σ
theorem sets_ok {pr : Option Pr} {G0 H0 Ge He G H : Hp} {pt0 pt pe : Pt} {σe : St} {ρe : Mi.Env} {fpe : Nat → List Addr} (p0 : PtR C pr G0 H0 pt0) (Re : Rel C pr fpe Ge He σe ρe pe) (S0 : Stp C pr G0 H0 Ge He pe) :
    ∀ {is : List (Nat × Bool)} {vs : List V} {ds : List D} {as : List Addr} {fps : Nat → List Addr} {σ : St} {ρ ρ' : Mi.Env}, ParR C He G H (is.map (·.2)) vs ds as → Sta C pr G0 H0 fps G H σ ρ pt → (∀ j, ∀ a ∈ as, a ∉ fps j) → setAll is ds ρ = some ρ' →
      ∃ fps', Sta C pr G0 H0 fps' G H (setsV (is.map (·.1)) vs σ) ρ' pt
  | [], _, _, _, fps, σ, ρ, ρ', .nil, S, _, h => by
    simp only [setAll, Option.some.injEq] at h
    subst h
    exact ⟨fps, S⟩
  | (i, false) :: is, v :: vs, d :: ds, as, fps, σ, ρ, ρ', .sh r t, S, hf, h => by
    have h : setAll is ds (ρ.set i (.sh d)) = some ρ' := by
      cases d <;> exact h
    exact sets_ok (is := is) p0 Re S0 t (S.put r) (fun j a ha z => hf j a ha (clr_sub z).1) h
  | (i, true) :: is, _, _, _, fps, σ, ρ, ρ', .ow (q := q) (as := as) n g hq rl o t, S, hf, h => by
    have h : setAll is _ (ρ.set i (.ow _)) = some ρ' := h
    obtain ⟨o1, o2⟩ := own_new Re n
    refine sets_ok (is := is) p0 Re S0 t (S.own hq g o1 (fun j _ => hf j q List.mem_cons_self) (S0.back p0 n) rl) (fun j a ha z => ?_) h
    rcases own1_mem z with ⟨_, m⟩ | ⟨_, m⟩
    · rw [List.mem_singleton.mp m] at ha; exact o ha
    · exact hf j a (List.mem_cons_of_mem _ ha) m
  | (i, true) :: is, v :: vs, d :: ds, as, fps, σ, ρ, ρ', .ot nl t, S, hf, h => by
    exfalso
    cases d <;> first
      | exact nl _ rfl
      | (simp [setAll] at h)
theorem par_as {H G' H' : Hp} : ∀ {fl : List Bool} {vs : List V} {ds : List D} {as : List Addr}, ParR C H G' H' fl vs ds as → (∀ a ∈ as, H a = none) ∧ vs.length = ds.length
  | _, _, _, _, .nil => ⟨fun _ h => (by cases h), rfl⟩
  | _, _, _, _, .sh r t => by
    obtain ⟨h1, h2⟩ := par_as t
    exact ⟨h1, by rw [List.length_cons, List.length_cons, h2]⟩
  | _, _, _, _, .ot n t => by
    obtain ⟨h1, h2⟩ := par_as t
    exact ⟨h1, by rw [List.length_cons, List.length_cons, h2]⟩
  | _, _, _, _, .ow n g h r o t => by
    obtain ⟨h1, h2⟩ := par_as t
    exact ⟨fun a ha => (by
      rcases List.mem_cons.mp ha with e | e
      · rw [e]; exact n
      · exact h1 a e), by rw [List.length_cons, List.length_cons, h2]⟩
def isStar : Expr → Bool
  | .Starred .. => true
  | _ => false
def nmsOf (sc : Scope) (ts : List Expr) : List Str := ts.filterMap fun
  | .Name id pos => if (sc.names.lookup id == some .local && pos.line == (ts.head?.map (·.pos.line)).getD 0) = true then some id else none
  | _ => none
def swP (sc : Scope) (ts vs : List Expr) : Option (Option (List Str)) :=
  if (!(ts.length == 2 || ts.length == 3) || vs.length != ts.length) = true then some none
  else if (vs.any isStar) = true then some none
  else if ((nmsOf sc ts).length != ts.length || (nmsOf sc ts).eraseDups.length != (nmsOf sc ts).length) = true then some none
  else if (vs.all (foldedForSure 8)) = true then some none
  else if (vs.all (constantsAlone 8)) = true then none
  else some (some (nmsOf sc ts))
theorem swP_ok {env : PySem.Env} {ts vs : List Expr} {k k2 : Nat} {p p2 : Pos} {r : Option (List Str)} (hk : env.scope.kind = .function) (h : swP env.scope ts vs = some r) : swappedStores [.Tuple ts k p] (.Tuple vs k2 p2) env = pure r := by
  have hb : env.blockKind = .function := by unfold PySem.Env.blockKind; rw [hk]; rfl
  unfold swP at h
  unfold swappedStores
  simp only [hb]
  by_cases c1 : (!(ts.length == 2 || ts.length == 3) || vs.length != ts.length) = true
  · rw [if_pos c1] at h
    cases h
    rw [if_pos (by simpa using c1)]
  rw [if_neg c1] at h
  rw [if_neg (by simpa using c1)]
  by_cases c2 : (vs.any isStar) = true
  · rw [if_pos c2] at h
    cases h
    exact if_pos c2
  rw [if_neg c2] at h
  refine (if_neg c2).trans ?_
  by_cases c3 : ((nmsOf env.scope ts).length != ts.length || (nmsOf env.scope ts).eraseDups.length != (nmsOf env.scope ts).length) = true
  · rw [if_pos c3] at h
    cases h
    exact if_pos c3
  rw [if_neg c3] at h
  refine (if_neg c3).trans ?_
  by_cases c4 : (vs.all (foldedForSure 8)) = true
  · rw [if_pos c4] at h
    cases h
    exact if_pos c4
  rw [if_neg c4] at h
  refine (if_neg c4).trans ?_
  by_cases c5 : (vs.all (constantsAlone 8)) = true
  · rw [if_pos c5] at h
    cases h
  rw [if_neg c5] at h
  cases h
  exact if_neg c5
/-- names, stored in turn -/
def gNs (is : List Nat) : TGs := fun vs σ H Q => vs.length = is.length ∧ Q (setsV is vs σ) H
def chN (S : Sc) : List (Nat × Bool) → List Expr → Bool
  | [], es => match es with
    | [] => true
    | _ :: _ => false
  | (i, _) :: is, es => match es with
    | .Name x _ :: es => decide (S.N[i]? = some x) && S.loc x && chN S is es
    | _ => false
theorem pgs_names {S : Sc} (n : NmOk S X) : ∀ {is : List (Nat × Bool)} {es : List Expr}, chN S is es = true → PGs X es (gNs (is.map (·.1))) ∧ (assignEach es X.env).length = is.length ∧ (assignEach es X.env).findIdx? (·.1) = none
  | [], es, h => by
    unfold chN at h
    split at h
    · refine ⟨PGs.imp pgs_nil fun vs σ H Q ⟨hl, q⟩ => ?_, rfl, rfl⟩
      cases vs with
      | nil => exact ⟨rfl, q⟩
      | cons v vs => cases hl
    · cases h
  | (i, b) :: is, es, h => by
    unfold chN at h
    split at h
    · rename_i x p es
      simp only [Bool.and_eq_true, decide_eq_true_eq] at h
      obtain ⟨⟨h1, h2⟩, h3⟩ := h
      obtain ⟨l1, l2⟩ := loc_ok n h2
      obtain ⟨a1, a2, a3⟩ := pgs_names n h3
      refine ⟨PGs.imp (pgs_cons (pg_name (i := i) n.nd (by rw [n.n]; exact h1) l1 l2) a1 rfl) fun vs σ H Q ⟨hl, q⟩ => ?_, ?_, ?_⟩
      · cases vs with
        | nil => cases hl
        | cons v vs => exact ⟨v, vs, rfl, Nat.succ.inj hl, q⟩
      · show (assignEach es X.env).length + 1 = _
        rw [a2]; rfl
      · rw [asg_cons (show nst (Expr.Name x p) = true from rfl), List.findIdx?_cons, a3]
        rfl
    · cases h
theorem par_end {pr : Option Pr} {G0 H0 G H G1 H1 : Hp} {pt0 pt p1 : Pt} {fps : Nat → List Addr} {σ : St} {ρ ρ' : Mi.Env} {is : List (Nat × Bool)} {vs : List V} {ds : List D} {as : List Addr} (p0 : PtR C pr G0 H0 pt0) (S : Sta C pr G0 H0 fps G H σ ρ pt) (s1 : Stp C pr G H G1 H1 p1)
    (P : ParR C H G1 H1 (is.map (·.2)) vs ds as) (h : setAll is ds ρ = some ρ') : ∃ fps', Sta C pr G0 H0 fps' G1 H1 (setsV (is.map (·.1)) vs σ) ρ' p1 :=
  sets_ok p0 S.rel S.stp P (S.step p0 s1) (fun j a ha z => (S.rel.fre j a z).1 ((par_as P).1 a ha)) h
theorem setAll_len : ∀ {is : List (Nat × Bool)} {ds : List D} {ρ ρ' : Mi.Env}, setAll is ds ρ = some ρ' → ds.length = is.length
  | [], [], _, _, _ => rfl
  | (i, true) :: is, d :: ds, ρ, ρ', h => by
    cases d <;> simp only [setAll, reduceCtorEq] at h
    rw [List.length_cons, setAll_len h]; rfl
  | (i, false) :: is, d :: ds, ρ, ρ', h => by
    have h : setAll is ds (ρ.set i (.sh d)) = some ρ' := by cases d <;> exact h
    rw [List.length_cons, setAll_len h]; rfl
  | [], _ :: _, _, _, h => by simp [setAll] at h
  | (i, true) :: is, [], _, _, h => by simp [setAll] at h
  | (i, false) :: is, [], _, _, h => by simp [setAll] at h
theorem ParR.lay {H G' H' : Hp} {T : Addr} {o : HO} (n : H' T = none) (gn : G' T = none) : ∀ {fl : List Bool} {vs : List V} {ds : List D} {as : List Addr}, ParR C H G' H' fl vs ds as → ParR C H G' (upd H' T o) fl vs ds as
  | _, _, _, _, .nil => .nil
  | _, _, _, _, .sh r t => .sh r (t.lay n gn)
  | _, _, _, _, .ot r t => .ot r (t.lay n gn)
  | _, _, _, _, .ow a g h r o t => .ow a g (by rw [upd_ne (ne_of_none h n)]; exact h) r o (t.lay n gn)
/-- the tuple is made, then taken apart -/
theorem ss_par0 {is : List (Nat × Bool)} {ts vs : List Expr} {k k2 : Nat} {tp tp2 : Pos} {g : Mn (List D)} {S : Sc} (n : NmOk S X) (hK : X.K = C.K) (hf : S.sc.kind = .function) (hn : chN S is ts = true) (hw : swP S.sc ts vs = some none) (hz : ∀ ρ p ds p', g ρ p = .ok ds p' → ds.length ≤ sizeLine)
    (ha : PA X vs (tP C W (is.map (·.2)) g)) : PS X (.Assign [.Tuple ts k tp] (.Tuple vs k2 tp2) pos) (tS C W (fun ρ p => (g ρ p).bind fun ds p => nxO (setAll is ds ρ) p)) := by
  obtain ⟨a1, a2, a3⟩ := pgs_names n hn
  refine PS.imp (ps_asg (pe_tup ha) (pg_tup n.calm a1 a2 a3) (show swapsWith (.Tuple vs k2 tp2) (some (.Tuple ts k tp)) pos.line X.env = pure false from rfl) (swP_ok (by rw [n.sc]; exact hf) (by rw [n.sc]; exact hw))) fun Dn σ H ⟨pr, G0, H0, pt0, fps, G, ρ, pt, p0, S, q⟩ => ?_
  refine ⟨pr, fps, G, ρ, pt, S.rel, ((sat_bind q).also fun ds p e => hz ρ pt ds p e).mono (fun ds p1 ⟨z, q⟩ us as G1 H1 s1 P => ?_) fun x p q => q.e p0 S.stp⟩
  obtain ⟨b1, b2⟩ := par_as P
  unfold nxO at q
  split at q
  case h_2 => exact q.elim
  rename_i ρ' hρ'
  refine ⟨by rw [b2]; exact z, fun T nT => ?_⟩
  have gn : G1 T = none := s1.same.free nT
  have s2 : Stp C pr G H G1 (upd H1 T (.tup us)) p1 := s1.trans S.rel.pot (Stp.layH s1.same s1.pot nT)
  obtain ⟨fps', S'⟩ := par_end p0 S s2 (P.lay nT gn) hρ'
  have hl : us.length = is.length := by rw [b2, setAll_len hρ']
  exact ⟨T, us, rfl, SqT.of upd_same, hl, by rw [hl, List.length_map], (q : NxP C pr G0 H0 Dn.nx _ p1) fps' G1 _ _ S'⟩
theorem ss_par2 {i j : Nat} {b1 b2 : Bool} {x y : Str} {p1 p2 : Pos} {v1 v2 : Expr} {k k2 : Nat} {tp tp2 : Pos} {g : Mn (List D)} {S : Sc} (n : NmOk S X) (hf : S.sc.kind = .function) (hi : S.N[i]? = some x) (hj : S.N[j]? = some y) (hx : S.sc.names.lookup x = some .local) (hy : S.sc.names.lookup y = some .local) (hij : i ≠ j)
    (hw : swP S.sc [.Name x p1, .Name y p2] [v1, v2] = some (some [x, y])) (ha : PA X [v1, v2] (tP C W [b1, b2] g)) : PS X (.Assign [.Tuple [.Name x p1, .Name y p2] k tp] (.Tuple [v1, v2] k2 tp2) pos) (tS C W (fun ρ p => (g ρ p).bind fun ds p => nxO (setAll [(i, b1), (j, b2)] ds ρ) p)) := by
  refine PS.imp (ps_par (i := i) (j := j) n.calm n.nd (by rw [n.n]; exact hi) (by rw [n.n]; exact hj) hij (by rw [n.sc]; exact hx) (by rw [n.sc]; exact hy) ha (swP_ok (by rw [n.sc]; exact hf) (by rw [n.sc]; exact hw)) rfl) fun Dn σ H ⟨pr, G0, H0, pt0, fps, G, ρ, pt, p0, S, q⟩ => ?_
  refine ⟨pr, fps, G, ρ, pt, S.rel, (sat_bind q).mono (fun ds p1 q us as G1 H1 s1 P => ?_) fun x p q => q.e p0 S.stp⟩
  unfold nxO at q
  split at q
  case h_2 => exact q.elim
  rename_i ρ' hρ'
  obtain ⟨c1, c2⟩ := par_as P
  obtain ⟨fps', S'⟩ := par_end (is := [(i, b1), (j, b2)]) p0 S s1 P hρ'
  have hl : us.length = 2 := by rw [c2, setAll_len hρ']; rfl
  match us, hl with
  | [u, w], _ => exact ⟨u, w, rfl, (q : NxP C pr G0 H0 Dn.nx _ p1) fps' G1 _ _ S'⟩
theorem ss_par3 {i j l : Nat} {b1 b2 b3 : Bool} {x y z : Str} {p1 p2 p3 : Pos} {v1 v2 v3 : Expr} {k k2 : Nat} {tp tp2 : Pos} {g : Mn (List D)} {S : Sc} (n : NmOk S X) (hf : S.sc.kind = .function) (hi : S.N[i]? = some x) (hj : S.N[j]? = some y) (hl : S.N[l]? = some z) (hx : S.sc.names.lookup x = some .local) (hy : S.sc.names.lookup y = some .local) (hz : S.sc.names.lookup z = some .local) (hij : i ≠ j) (hil : i ≠ l) (hjl : j ≠ l)
    (hw : swP S.sc [.Name x p1, .Name y p2, .Name z p3] [v1, v2, v3] = some (some [x, y, z])) (ha : PA X [v1, v2, v3] (tP C W [b1, b2, b3] g)) : PS X (.Assign [.Tuple [.Name x p1, .Name y p2, .Name z p3] k tp] (.Tuple [v1, v2, v3] k2 tp2) pos) (tS C W (fun ρ p => (g ρ p).bind fun ds p => nxO (setAll [(i, b1), (j, b2), (l, b3)] ds ρ) p)) := by
  refine PS.imp (ps_par3 (i := i) (j := j) (l := l) n.calm n.nd (by rw [n.n]; exact hi) (by rw [n.n]; exact hj) (by rw [n.n]; exact hl) hij hil hjl (by rw [n.sc]; exact hx) (by rw [n.sc]; exact hy) (by rw [n.sc]; exact hz) ha (swP_ok (by rw [n.sc]; exact hf) (by rw [n.sc]; exact hw)) rfl) fun Dn σ H ⟨pr, G0, H0, pt0, fps, G, ρ, pt, p0, S, q⟩ => ?_
  refine ⟨pr, fps, G, ρ, pt, S.rel, (sat_bind q).mono (fun ds p1 q us as G1 H1 s1 P => ?_) fun x p q => q.e p0 S.stp⟩
  unfold nxO at q
  split at q
  case h_2 => exact q.elim
  rename_i ρ' hρ'
  obtain ⟨c1, c2⟩ := par_as P
  obtain ⟨fps', S'⟩ := par_end (is := [(i, b1), (j, b2), (l, b3)]) p0 S s1 P hρ'
  have hl : us.length = 3 := by rw [c2, setAll_len hρ']; rfl
  match us, hl with
  | [u, w, t], _ => exact ⟨u, w, t, rfl, (q : NxP C pr G0 H0 Dn.nx _ p1) fps' G1 _ _ S'⟩
end
end Mi

/-! MiText: the check of statements of the text against their meaning. -/
namespace Mi
open PySem L2
def lcC (T : Tb) (own : List Nat) (tg : Tg) (it : Mi.It) (cond : Option') (elt : Ex) (S : Sc) (e : Expr) : Bool := match e with
  | .ListComp el [⟨tgE, iter, ifs, 0⟩] scope _ => blkC S.N S.sc scope (own.map fun i => (S.N.getD i "", i)) && ((tvs tg).all fun i => own.contains i) && notSet iter && chI T it true S tgE iter &&
      chT ⟨S.N, relS scope S.sc, some scope⟩ tg tgE && chO T cond ⟨S.N, relS scope S.sc, some scope⟩ ifs && ch T elt .e ⟨S.N, relS scope S.sc, some scope⟩ el
  | _ => false
/-- values of several stores -/
def chP (T : Tb) : List (Nat × Bool) → Exs → Sc → List Expr → Bool
  | [], es, _, xs => match es, xs with
    | .nil, [] => true
    | _, _ => false
  | (_, b) :: is, es, S, xs => match es, xs with
    | .cons e es, x :: xs => nst x && ch T e (if b then .f else .e) S x && chP T is es S xs
    | _, _ => false
def lcl (S : Sc) (x : Str) : Bool := S.sc.names.lookup x == some .local
def isFrz : Sm → Bool
  | .frz _ => true
  | _ => false
mutual
def chSt (T : Tb) : Sm → Sc → Stmt → Bool
  | .set i e, S, st => match st with
    | .Assign [.Name x _] v _ => decide (S.N[i]? = some x) && S.loc x && ((notComp v && ch T e .e S v) || (match e with
      | .comp own tg it cond elt => lcC T own tg it cond elt S v
      | _ => false))
    | _ => false
  | .own i e, S, st => match st with
    | .Assign [.Name x _] v _ => decide (S.N[i]? = some x) && S.loc x && ((notComp v && ch T e .f S v) || (match e with
      | .comp own tg it cond elt => lcC T own tg it cond elt S v
      | _ => false))
    | _ => false
  | .par is es, S, st => match st with
    | .Assign [.Tuple ts _ _] (.Tuple vs _ _) _ => chP T is es S vs && decide (es.len ≤ 1000) && (match swP S.sc ts vs, is, ts, vs with
      | some none, is, ts, _ => chN S is ts
      | some (some ns), [(i, _), (j, _)], [.Name x _, .Name y _], [_, _] => (ns == [x, y]) && decide (S.N[i]? = some x) && decide (S.N[j]? = some y) && lcl S x && lcl S y && decide (i ≠ j)
      | some (some ns), [(i, _), (j, _), (l, _)], [.Name x _, .Name y _, .Name z _], [_, _, _] => (ns == [x, y, z]) && decide (S.N[i]? = some x) && decide (S.N[j]? = some y) && decide (S.N[l]? = some z) && lcl S x && lcl S y && lcl S z && decide (i ≠ j) && decide (i ≠ l) && decide (j ≠ l)
      | _, _, _, _ => false)
    | _ => false
  | .unp tg e, S, st => match st with
    | .Assign [.Tuple ts _ _] v _ => chTs S tg ts && notTup v && ch T e .e S v
    | _ => false
  | .app i e, S, st => match st with
    | .Expr (.Call (.Attribute (.Name x _) m apos) [y] [] cpos) _ => (m == "append") && decide (S.N[i]? = some x) && S.vis x && nst y && (apos.endLine == cpos.line) && ch T e .e S y
    | _ => false
  | .ext i e, S, st => match st with
    | .Expr (.Call (.Attribute (.Name x _) m apos) [y] [] cpos) _ => (m == "extend") && decide (S.N[i]? = some x) && S.vis x && nst y && (apos.endLine == cpos.line) && ch T e .b S y
    | _ => false
  | .drop e, S, st => match st with
    | .Expr v _ => notComp v && ch T e .e S v
    | _ => false
  | .ret e, S, st => match st with
    | .Return (some v) _ => ch T e .e S v
    | _ => false
  | .pas, _, st => match st with
    | .Pass _ => true
    | _ => false
  | .brk, _, st => match st with
    | .Break _ => true
    | _ => false
  | .cnt, _, st => match st with
    | .Continue _ => true
    | _ => false
  | .iff c a b, S, st => match st with
    | .If x as bs _ => chT' T c S x && chSs T a S as && chSs T b S bs
    | _ => false
  | .whl c b _, S, st => match st with
    | .While x bs [] _ => chT' T c S x && chSs T b S bs
    | _ => false
  | .forr tg it b _, S, st => match st with
    | .For t x bs [] _ => chI T it false S t x && chT S tg t && chSs T b S bs && notSet x
    | _ => false
  | _, _, _ => false
def chSs (T : Tb) : Sms → Sc → List Stmt → Bool
  | .nil, _, sts => match sts with
    | [] => true
    | _ :: _ => false
  | .cons s r, S, sts => if isFrz s then chSs T r S sts else match sts with
    | st :: sts => chSt T s S st && chSs T r S sts
    | [] => false
end
section
variable (C : Cn) (T : Tb) (F : List Fn)
theorem chP_ok {S : Sc} {X : Cx} {W : WX} (ok : XOk C T F W S X) : ∀ {is : List (Nat × Bool)} {es : Exs} {xs : List Expr}, chP T is es S xs = true → PA X xs (tP C W (is.map (·.2)) (evs F es))
  | [], es, xs, h => by
    unfold chP at h
    split at h
    · exact tp_nil
    · cases h
  | (i, b) :: is, es, xs, h => by
    unfold chP at h
    split at h
    · rename_i e es x xs
      obtain ⟨h, h3⟩ := and2 h
      obtain ⟨h1, h2⟩ := and2 h
      cases b with
      | true => exact tp_ow h1 (ch_ok C T F (m := .f) e ok h2) (chP_ok ok h3)
      | false => exact tp_sh h1 (ch_ok C T F (m := .e) e ok h2) (chP_ok ok h3)
    · cases h
theorem lcC_ok {S : Sc} {X : Cx} {W : WX} (ok : XOk C T F W S X) (hk : S.sc.kind = .function) {own : List Nat} {tg : Tg} {it : Mi.It} {cond : Option'} {elt : Ex} {e : Expr} {i : Nat} {x : Str} {p pos : Pos} (h : lcC T own tg it cond elt S e = true) (hi : S.N[i]? = some x) (hl : S.loc x = true) :
    PS X (.Assign [.Name x p] e pos) (tAsg (tFr C W (ev F (.comp own tg it cond elt))) (gName i)) := by
  unfold lcC at h
  split at h
  · rename_i el tgE iter ifs scope cpos
    obtain ⟨h, h7⟩ := and2 h
    obtain ⟨h, h6⟩ := and2 h
    obtain ⟨h, h5⟩ := and2 h
    obtain ⟨h, h4⟩ := and2 h
    obtain ⟨h, h3⟩ := and2 h
    obtain ⟨h1, h2⟩ := and2 h
    have eo : (own.map fun i => (S.N.getD i "", i)).map (·.2) = own := by
      rw [List.map_map]
      exact List.map_id _
    have q := ss_setC (p := p) (pos := pos) (cpos := cpos) ok.nm hk hi hl (chI_ok C T F it ok h4).2 (by rw [ok.nm.n, ok.nm.sc]; exact blkOk_by h1)
      (fun i hi => by rw [eo]; exact List.contains_iff_mem.mp (List.all_eq_true.mp h2 i hi))
      (fun s H A cl fp => pg_T (ok.blk s H scope A cl fp).nm ok.K h5) (fun s H A cl fp => chO_ok C T F cond (ok.blk s H scope A cl fp) h6) (fun s H A cl fp => ch_ok C T F (m := .e) elt (ok.blk s H scope A cl fp) h7) (notSet_ok h3 X.env)
    rw [eo] at q
    exact q
  · cases h
theorem fr_e {W : WX} {f : Mn D} (σ : St) (H : Hp) (Q : VK) (h : tE C W f σ H Q) : tFr C W f σ H Q := by
  obtain ⟨pr, fps, G, ρ, pt, R, q⟩ := h
  refine ⟨pr, fps, G, ρ, pt, R, q.mono (fun d p q v G' H' s r => ?_) fun _ _ q => q⟩
  cases d with
  | list ds =>
    obtain ⟨p, xs, rfl, n, g, h', rl⟩ := r
    exact q _ (upd G' p (.lst xs)) H' (s.frz R.pot n g h') (.lst upd_same (rl.mono fun b u e => by rw [upd_ne (ne_of_none e g)]; exact e))
  | _ => exact q v G' H' s r
/-- tracked lists become ground -/
theorem frzL {C : Cn} {pr : Option Pr} {G0 H0 H : Hp} {pt0 pt : Pt} (p0 : PtR C pr G0 H0 pt0) : ∀ (qs : List Addr) {G : Hp}, Stp C pr G0 H0 G H pt → qs.Nodup → (∀ a ∈ qs, H0 a = none ∧ G a = none ∧ ∃ xs, H a = some (.lst xs)) →
    ∃ G', Stp C pr G0 H0 G' H pt ∧ Same G G' ∧ (∀ a ∈ qs, G' a = H a) ∧ ∀ a, a ∉ qs → G' a = G a
  | [], G, S, _, _ => ⟨G, S, Same.refl _, fun a h => (by cases h), fun a _ => rfl⟩
  | q :: qs, G, S, nd, h => by
    obtain ⟨n1, n2⟩ := List.nodup_cons.mp nd
    obtain ⟨h1, h2, xs, h3⟩ := h q List.mem_cons_self
    have S1 : Stp C pr G0 H0 (upd G q (.lst xs)) H pt := S.frz p0 h1 h2 h3
    obtain ⟨G', k1, k2, k3, k4⟩ := frzL p0 qs S1 n2 fun a ha => by
      obtain ⟨z1, z2, z3⟩ := h a (List.mem_cons_of_mem _ ha)
      exact ⟨z1, (by rw [upd_ne (fun e : a = q => n1 (by rw [← e]; exact ha))]; exact z2), z3⟩
    refine ⟨G', k1, fun b u e => k2 b u (by rw [upd_ne (ne_of_none e h2)]; exact e), fun a ha => ?_, fun a ha => ?_⟩
    · rcases List.mem_cons.mp ha with e | e
      · rw [e, k4 q n1, upd_same, h3]
      · exact k3 a e
    · have ⟨a1, a2⟩ : a ≠ q ∧ a ∉ qs := ⟨fun e => ha (by rw [e]; exact List.mem_cons_self), fun e => ha (List.mem_cons_of_mem _ e)⟩
      rw [k4 a a2, upd_ne a1]
theorem rpl_rows {K : PySem.W.Frag} {G G' H : Hp} (s : Same G G') : ∀ {qs : List Addr} {dss : List (List D)}, Paired (fun q ds => ∃ xs, H q = some (.lst xs) ∧ RpL K G xs ds) qs dss → (∀ a ∈ qs, G' a = H a) → RpL K G' (qs.map V.ref) (dss.map PyData.list)
  | _, _, .nil, _ => .nil
  | _, _, .cons ⟨xs, h, r⟩ t, k => .cons (.lst ((k _ List.mem_cons_self).trans h) (r.mono s)) (rpl_rows s t fun a ha => k a (List.mem_cons_of_mem _ ha))
theorem paired_mem {α β : Type} {R : α → β → Prop} : ∀ {l : List α} {m : List β}, Paired R l m → ∀ a ∈ l, ∃ b, R a b
  | _, _, .cons r t, a, h => by
    rcases List.mem_cons.mp h with e | e
    · rw [e]; exact ⟨_, r⟩
    · exact paired_mem t a e
theorem Sta.grd {C : Cn} {pr : Option Pr} {G0 H0 G H G' : Hp} {pt : Pt} {fps : Nat → List Addr} {σ : St} {ρ : Mi.Env} (S : Sta C pr G0 H0 fps G H σ ρ pt) {i : Nat} (st : Stp C pr G0 H0 G' H pt) (sg : Same G G') {qs : List Addr} (hm : ∀ a ∈ qs, a ∈ fps i) (ho : ∀ a, a ∉ qs → G' a = G a)
    {v : V} {d : D} (hσ : σ[i]? = some (some v)) (r : Rp C.K G' v d) : Sta C pr G0 H0 (clr fps i) G' H σ (ρ.set i (.sh d)) pt := by
  refine ⟨⟨st.same, by rw [List.length_set]; exact S.rel.len, fun j => ?_, fun j k a h1 h2 => S.rel.dis j k a (clr_sub h1).1 (clr_sub h2).1, fun j a h => ?_, st.pot⟩, st, fun j a z => S.new j a (clr_sub z).1⟩
  · by_cases e : j = i
    · subst e
      by_cases hl : j < ρ.length
      · rw [List.getElem?_set_self hl, hσ]
        exact ⟨_, rfl, r⟩
      · rw [List.getElem?_eq_none (l := ρ.set j _) (by rw [List.length_set]; omega)]
        trivial
    · rw [List.getElem?_set_ne (Ne.symm e)]
      have sl := S.rel.slot j
      have ce : clr fps i j = fps j := by unfold clr; rw [if_neg e]
      rw [ce]
      cases hr : ρ[j]? with
      | none => trivial
      | some s =>
        rw [hr] at sl
        cases s with
        | no => trivial
        | sh d => obtain ⟨x, e1, e2⟩ := sl; exact ⟨x, e1, e2.mono sg⟩
        | ow ds2 =>
          obtain ⟨p2, xs2, e1, e2, e3, e4⟩ := sl
          exact ⟨p2, xs2, e1, e2, e3, e4.mono sg⟩
        | o2 dss =>
          obtain ⟨p2, qs, e1, e2, e3, e4, e5⟩ := sl
          exact ⟨p2, qs, e1, e2, e3, e4, Paired.mapR e5 fun a b ha ⟨ys, z1, z2⟩ => ⟨ys, z1, z2.mono sg⟩⟩
        | po => exact sl
  · obtain ⟨m, ne⟩ := clr_sub h
    obtain ⟨g1, g2, g3⟩ := S.rel.fre j a m
    refine ⟨g1, ?_, g3⟩
    rw [ho a (fun z => ne (S.rel.dis j i a m (hm a z)))]
    exact g2
theorem Sta.frzA {C : Cn} {pr : Option Pr} {G0 H0 G H : Hp} {pt0 pt : Pt} {fps : Nat → List Addr} {σ : St} {ρ : Mi.Env} (S : Sta C pr G0 H0 fps G H σ ρ pt) (p0 : PtR C pr G0 H0 pt0) (i : Nat) {F : List Fn} :
    ∃ fps' G' ρ', Sta C pr G0 H0 fps' G' H σ ρ' pt ∧ run F (.frz i) ρ pt = .ok (.nx ρ') pt := by
  simp only [run]
  split
  · rename_i l hl
    obtain ⟨fps', G', S'⟩ := S.frz p0 hl
    exact ⟨fps', G', _, S', rfl⟩
  · rename_i l hl
    have sl := S.rel.slot i
    rw [hl] at sl
    obtain ⟨p, qs, hσ, hm, nd, hp, hr⟩ := sl
    obtain ⟨G', k1, k2, k3, k4⟩ := frzL p0 (p :: qs) S.stp nd fun a ha => by
      obtain ⟨f1, f2, f3⟩ := S.rel.fre i a (hm a ha)
      refine ⟨S.new i a (hm a ha), f2, ?_⟩
      rcases List.mem_cons.mp ha with e | e
      · rw [e]; exact ⟨_, hp⟩
      · obtain ⟨ds, xs, h, _⟩ := paired_mem hr a e
        exact ⟨xs, h⟩
    exact ⟨_, G', _, S.grd k1 k2 hm k4 hσ (.lst ((k3 p List.mem_cons_self).trans hp) (rpl_rows k2 hr fun a ha => k3 a (List.mem_cons_of_mem _ ha))), rfl⟩
  · exact ⟨fps, G, ρ, S, rfl⟩
mutual
theorem chSt_ok : ∀ (s : Sm) {S : Sc} {st : Stmt} {X : Cx} {W : WX}, XOk C T F W S X → S.sc.kind = .function → PassesOwn (model X.prog X.w) X.A X.env X.xe → chSt T s S st = true → PS X st (tS C W (run F s))
  | .set i e, S, st, X, W, ok, hk, hp, h => by
    unfold chSt at h
    split at h
    · rename_i x p v pos
      obtain ⟨h, h3⟩ := and2 h
      obtain ⟨h1, h2⟩ := and2 h
      have h1 := of_decide_eq_true h1
      rcases Bool.or_eq_true_iff.mp h3 with h3 | h3
      · obtain ⟨h4, h5⟩ := and2 h3
        exact ss_set ok.nm h1 h2 h4 (ch_ok C T F (m := .e) e ok h5)
      · split at h3
        · exact PS.imp (lcC_ok C T F ok hk h3 h1 h2) fun Dn σ H h => st_put (fr_e C) Dn σ H h
        · cases h3
    · cases h
  | .own i e, S, st, X, W, ok, hk, hp, h => by
    unfold chSt at h
    split at h
    · rename_i x p v pos
      obtain ⟨h, h3⟩ := and2 h
      obtain ⟨h1, h2⟩ := and2 h
      have h1 := of_decide_eq_true h1
      rcases Bool.or_eq_true_iff.mp h3 with h3 | h3
      · obtain ⟨h4, h5⟩ := and2 h3
        exact ss_own ok.nm h1 h2 h4 (ch_ok C T F (m := .f) e ok h5)
      · split at h3
        · exact PS.imp (lcC_ok C T F ok hk h3 h1 h2) fun Dn σ H h => st_own (fun _ _ _ h => h) Dn σ H h
        · cases h3
    · cases h
  | .par is es, S, st, X, W, ok, hk, hp, h => by
    unfold chSt at h
    split at h
    · rename_i ts k tp vs k2 tp2 pos
      obtain ⟨h, h3⟩ := and2 h
      obtain ⟨h1, h2⟩ := and2 h
      have ha := chP_ok C T F ok h1
      have hz := le1000 (of_decide_eq_true h2)
      split at h3
      · rename_i hw
        exact ss_par0 ok.nm ok.K hk h3 hw (fun ρ p ds p' e => by rw [evs_len es e]; exact hz) ha
      · rename_i ns i b1 j b2 x p1 y p2 v1 v2 hw
        obtain ⟨h3, h9⟩ := and2 h3
        obtain ⟨h3, h8⟩ := and2 h3
        obtain ⟨h3, h7⟩ := and2 h3
        obtain ⟨h3, h6⟩ := and2 h3
        obtain ⟨h4, h5⟩ := and2 h3
        obtain rfl := eq_of_beq h4
        exact ss_par2 ok.nm hk (of_decide_eq_true h5) (of_decide_eq_true h6) (eq_of_beq h7) (eq_of_beq h8) (of_decide_eq_true h9) hw ha
      · rename_i ns i b1 j b2 l b3 x p1 y p2 z p3 v1 v2 v3 hw
        obtain ⟨h3, g5⟩ := and2 h3
        obtain ⟨h3, g4⟩ := and2 h3
        obtain ⟨h3, g3⟩ := and2 h3
        obtain ⟨h3, g2⟩ := and2 h3
        obtain ⟨h3, g1⟩ := and2 h3
        obtain ⟨h3, h8⟩ := and2 h3
        obtain ⟨h3, h7⟩ := and2 h3
        obtain ⟨h3, h6⟩ := and2 h3
        obtain ⟨h4, h5⟩ := and2 h3
        obtain rfl := eq_of_beq h4
        exact ss_par3 ok.nm hk (of_decide_eq_true h5) (of_decide_eq_true h6) (of_decide_eq_true h7) (eq_of_beq h8) (eq_of_beq g1) (eq_of_beq g2) (of_decide_eq_true g3) (of_decide_eq_true g4) (of_decide_eq_true g5) hw ha
      · cases h3
    · cases h
  | .unp tg e, S, st, X, W, ok, hk, hp, h => by
    unfold chSt at h
    split at h
    · obtain ⟨h, h3⟩ := and2 h
      obtain ⟨h1, h2⟩ := and2 h
      exact ss_unp ok.nm ok.K (by unfold chT; exact h1) h2 (ch_ok C T F (m := .e) e ok h3)
    · cases h
  | .app i e, S, st, X, W, ok, hk, hp, h => by
    unfold chSt at h
    split at h
    · obtain ⟨h, h6⟩ := and2 h
      obtain ⟨h, h5⟩ := and2 h
      obtain ⟨h, h4⟩ := and2 h
      obtain ⟨h, h3⟩ := and2 h
      obtain ⟨h1, h2⟩ := and2 h
      obtain rfl := eq_of_beq h1
      exact ss_app ok.nm (of_decide_eq_true h2) h3 h4 h5 (ch_ok C T F (m := .e) e ok h6)
    · cases h
  | .ext i e, S, st, X, W, ok, hk, hp, h => by
    unfold chSt at h
    split at h
    · obtain ⟨h, h6⟩ := and2 h
      obtain ⟨h, h5⟩ := and2 h
      obtain ⟨h, h4⟩ := and2 h
      obtain ⟨h, h3⟩ := and2 h
      obtain ⟨h1, h2⟩ := and2 h
      obtain rfl := eq_of_beq h1
      exact ss_ext ok.nm (of_decide_eq_true h2) h3 h4 h5 (ch_ok C T F (m := .b) e ok h6)
    · cases h
  | .drop e, S, st, X, W, ok, hk, hp, h => by
    unfold chSt at h
    split at h
    · obtain ⟨h1, h2⟩ := and2 h
      exact ss_drop h1 (ch_ok C T F (m := .e) e ok h2)
    · cases h
  | .ret e, S, st, X, W, ok, hk, hp, h => by
    unfold chSt at h
    split at h
    · exact ss_ret (ch_ok C T F (m := .e) e ok h)
    · cases h
  | .pas, S, st, X, W, ok, hk, hp, h => by
    unfold chSt at h
    split at h
    · exact ss_pas
    · cases h
  | .brk, S, st, X, W, ok, hk, hp, h => by
    unfold chSt at h
    split at h
    · exact ss_brk
    · cases h
  | .cnt, S, st, X, W, ok, hk, hp, h => by
    unfold chSt at h
    split at h
    · exact ss_cnt
    · cases h
  | .iff c a b, S, st, X, W, ok, hk, hp, h => by
    unfold chSt at h
    split at h
    · obtain ⟨h, h3⟩ := and2 h
      obtain ⟨h1, h2⟩ := and2 h
      exact ss_iff (chT_ok C T F c ok h1).1 (chSs_ok a ok hk hp h2) (chSs_ok b ok hk hp h3)
    · cases h
  | .whl c b kill, S, st, X, W, ok, hk, hp, h => by
    unfold chSt at h
    split at h
    · obtain ⟨h1, h2⟩ := and2 h
      exact ss_whl hp (chT_ok C T F c ok h1).1 (chSs_ok b ok hk hp h2)
    · cases h
  | .forr tg it b kill, S, st, X, W, ok, hk, hp, h => by
    unfold chSt at h
    split at h
    · obtain ⟨h, h4⟩ := and2 h
      obtain ⟨h, h3⟩ := and2 h
      obtain ⟨h1, h2⟩ := and2 h
      exact ss_for ok.nm.calm hp ((chI_ok C T F it ok h1).1 rfl) (pg_T ok.nm ok.K h2) (chSs_ok b ok hk hp h3) (notSet_ok h4 X.env)
    · cases h
  | .pop .., S, st, X, W, ok, hk, hp, h => by unfold chSt at h; cases h
  | .appPop .., S, st, X, W, ok, hk, hp, h => by unfold chSt at h; cases h
  | .put .., S, st, X, W, ok, hk, hp, h => by unfold chSt at h; cases h
  | .put2 .., S, st, X, W, ok, hk, hp, h => by unfold chSt at h; cases h
  | .own2 .., S, st, X, W, ok, hk, hp, h => by unfold chSt at h; cases h
  | .app2 .., S, st, X, W, ok, hk, hp, h => by unfold chSt at h; cases h
  | .frz .., S, st, X, W, ok, hk, hp, h => by unfold chSt at h; cases h
  | .rseM .., S, st, X, W, ok, hk, hp, h => by unfold chSt at h; cases h
  | .rseU, S, st, X, W, ok, hk, hp, h => by unfold chSt at h; cases h
  | .tryr .., S, st, X, W, ok, hk, hp, h => by unfold chSt at h; cases h
theorem chSs_ok : ∀ (s : Sms) {S : Sc} {st : List Stmt} {X : Cx} {W : WX}, XOk C T F W S X → S.sc.kind = .function → PassesOwn (model X.prog X.w) X.A X.env X.xe → chSs T s S st = true → PSs X st (tS C W (runs F s))
  | .nil, S, st, X, W, ok, hk, hp, h => by
    unfold chSs at h
    split at h
    · exact ss_nil
    · cases h
  | .cons s r, S, st, X, W, ok, hk, hp, h => by
    unfold chSs at h
    split at h
    · rename_i hf
      cases s <;> simp only [isFrz, Bool.false_eq_true] at hf
      case frz i =>
        refine PSs.imp (chSs_ok r ok hk hp h) fun Dn σ H ⟨pr, G0, H0, pt0, fps, G, ρ, pt, p0, S, q⟩ => ?_
        obtain ⟨fps', G', ρ', S', e⟩ := S.frzA p0 i (F := F)
        simp only [runs] at q
        rw [e] at q
        exact ⟨pr, G0, H0, pt0, fps', G', ρ', pt, p0, S', q⟩
    · split at h
      · obtain ⟨h1, h2⟩ := and2 h
        exact ss_cons (chSt_ok s ok hk hp h1) (chSs_ok r ok hk hp h2)
      · cases h
end
end
end Mi

/-! MiDef: a def of the text, by the check of its body. -/
namespace Mi
open PySem L2
/-- a def stands in the module and answers as m -/
def At (C : Cn) (P : Program) (w : World) (mg : Str → Option Value) (base : Heap) (k : Nat) (c : FnS) (m : Fn) : Prop := ∃ f fd, FnG C P w mg base k f fd c.ps (spOf C c.pot c.ps.length m) ∧ mg c.name = some (.ref f) ∧ PySem.W.keepIn C.K (.ref f) = true ∧
  (∀ (s : Shared) (us : List Value), us.length = c.ps.length → BindsTo s fd ⟨us, []⟩ (c.ps.zip us)) ∧ ∀ q ∈ c.kws, ∀ (s : Shared) (us : List Value), us.length = q.1.length → BindsTo s fd ⟨[], q.1.zip us⟩ (c.ps.zip (pick .none us q.2))
theorem At.up {C : Cn} {P : Program} {w : World} {mg : Str → Option Value} {base : Heap} {j k : Nat} {c : FnS} {m : Fn} (h : At C P w mg base j c m) (e : j ≤ k) : At C P w mg base k c m := by
  obtain ⟨f, fd, h1, h2⟩ := h
  exact ⟨f, fd, h1.up e, h2⟩
structure TOk (C : Cn) (T : Tb) (F : List Fn) (P : Program) (w : World) (mg : Str → Option Value) (base : Heap) (k : Nat) : Prop where
  bl : ∀ x ∈ T.bl, mg x = none
  con : ∀ q ∈ T.con, ∃ t, mg q.1 = some (.int q.2 t)
  cal : ∀ (i : Nat) (c : FnS), T.fns[i]? = some c → At C P w mg base k c (F.getD i badF)
def sh0 (pot : Bool) (ds : List D) (n : Nat) : Mi.Env := if pot then .po :: (ds.map .sh ++ List.replicate (n - (ds.length + 1)) .no) else ds.map .sh ++ List.replicate (n - ds.length) .no
/-- the meaning of a def -/
def fnB (pot : Bool) (F : List Fn) (n : Nat) (b : Sms) : Fn := if pot then fnP F n b else fn F n b
theorem fnB_eq (pot : Bool) (F : List Fn) (n : Nat) (b : Sms) (ds : List D) (p : Pt) : fnB pot F n b ds p = (runs F b (sh0 pot ds n) p).bind fun o p => match o with
    | .rt d => .ok d p
    | .nx _ => .ok .none p
    | _ => .bad := by
  cases pot <;> rfl
section
variable {C : Cn} {P : Program} {w : World} {mg : Str → Option Value} {base : Heap} {k : Nat}
theorem slots_at {pr : Option Pr} {G H : Hp} {ws : List V} {ds : List D} (r : RpL C.K G ws ds) (n : Nat) (i : Nat) : SlR C pr [] G H ((ws.map some ++ List.replicate (n - ws.length) none)[i]?) ((ds.map SV.sh ++ List.replicate (n - ds.length) SV.no)[i]?) := by
  by_cases hi : i < ds.length
  · have hi2 : i < ws.length := by rw [r.length]; exact hi
    rw [List.getElem?_append_left (by simpa using hi2), List.getElem?_append_left (by simpa using hi), List.getElem?_map, List.getElem?_map]
    obtain ⟨v, h1, h2⟩ := r.get (List.getElem?_eq_getElem hi)
    rw [List.getElem?_eq_getElem hi, h1]
    exact ⟨v, rfl, h2⟩
  · rw [List.getElem?_append_right (l₁ := ds.map SV.sh) (by simpa using hi), List.getElem?_replicate]
    split
    · trivial
    · trivial
theorem rel_start {pot : Bool} {pr : Option Pr} {G H : Hp} {pt : Pt} {vs ws : List V} {ds : List D} {N : List Str} (sm : Same G H) (pp : PtR C pr G H pt) (pa : PotA pot pr vs ws) (r : RpL C.K G ws ds) (hl : vs.length ≤ N.length) :
    Rel C pr (fun _ => []) G H (L2.start N vs) (sh0 pot ds N.length) pt := by
  have rl := r.length
  refine ⟨sm, ?_, fun i => ?_, fun i j a h => (by cases h), fun i a h => (by cases h), pp⟩
  · unfold L2.start sh0
    cases pot with
    | false =>
      have e : vs = ws := pa
      subst e
      simp [rl]
    | true =>
      cases pr with
      | none => exact pa.elim
      | some q =>
        have e : vs = .ref q.p :: ws := pa
        subst e
        simp [rl]
  · unfold L2.start sh0
    cases pot with
    | false =>
      have e : vs = ws := pa
      subst e
      exact slots_at r N.length i
    | true =>
      cases pr with
      | none => exact pa.elim
      | some q =>
        have e : vs = .ref q.p :: ws := pa
        subst e
        cases i with
        | zero => exact ⟨q, rfl, rfl⟩
        | succ i =>
          have e1 : N.length - (ds.length + 1) = (N.length - 1) - ds.length := by omega
          have e2 : N.length - (ws.length + 1) = (N.length - 1) - ws.length := by omega
          show SlR C _ [] G H ((ws.map some ++ List.replicate (N.length - (ws.length + 1)) none)[i]?) ((ds.map SV.sh ++ List.replicate (N.length - (ds.length + 1)) SV.no)[i]?)
          rw [e1, e2]
          exact slots_at r _ i
/-- the body's context -/
theorem xok_def {T : Tb} {F : List Fn} {N ps : List Str} {qual : Str} {scope : Scope} {f : Addr} {cd : Value} {A : Around} {outer : List PySem.Env} {s : Shared} {H : Hp} {E : XK} (t : TOk C T F P w mg base k) (S : FnScope N ps scope)
    (hr : Room k (A.deeper (PyProof.Rows.envOfC qual scope s.heap.objs.size f cd))) (gd : A.guards = some []) :
    XOk C T F (fun c d _ H => E c d H) ⟨N, scope, none⟩ (cxOf (L2.CX P w) P w C.K mg base N qual scope f cd A outer s H E) :=
  { nm := ⟨rfl, S.nd, rfl, fun _ _ => rfl, rfl⟩
    K := rfl
    gd := gd
    un := by have := hr.un; show (A.deeper _).units + 100 < cLine; omega
    tk := takes_of rfl rfl rfl rfl
    bl := t.bl
    con := t.con
    cal := fun i c e => by
      obtain ⟨f, fd, h1, h2, h3, h4, h5⟩ := t.cal i c e
      exact ⟨_, f, fd, k, rfl, ⟨h1, hr, h2, h3, h4⟩, h5⟩ }
/-- THE RULE of a def -/
theorem def_ok {T : Tb} {F : List Fn} {N ps : List Str} {name qual : Str} {st : Stmt} {f : Addr} {fd : FuncData} {pot : Bool} {ir : Sms} {kws : List (List Str × List Nat)} (Fu : Fun C.K name qual st f fd) (t : TOk C T F P w mg base k) (S : FnScope N ps (defScope st))
    (hc : chSs T ir ⟨N, defScope st, none⟩ (defBody st) = true) (hm : mg name = some (.ref f)) (hb : ∀ (s : Shared) (us : List Value), us.length = ps.length → BindsTo s fd ⟨us, []⟩ (ps.zip us))
    (hw : ∀ q ∈ kws, ∀ (s : Shared) (us : List Value), us.length = q.1.length → BindsTo s fd ⟨[], q.1.zip us⟩ (ps.zip (pick .none us q.2))) : At C P w mg base (k + 1) ⟨name, ps, pot, kws⟩ (fnB pot F N.length ir) := by
  obtain ⟨oc, od, kV, doc, pm, an, cdv, ct, osl, rfl, lk, hcd⟩ := Fu.ex
  refine ⟨f, _, fnG_of lk hcd S (fun vs H Q E h => sp_len h) (fun A outer s H vs Q E hr gd h => ?_), hm, Fu.kp, hb, hw⟩
  obtain ⟨pr, G, pt, ws, ds, sm, pp, pa, hl, rl, q⟩ := h
  have hN : ps.length ≤ N.length := by
    have := congrArg List.length S.pre
    rw [List.length_take] at this
    omega
  refine ⟨_, chSs_ok C T F ir (xok_def t S hr gd) S.kind (passes_of rfl) hc, pr, G, H, pt, fun _ => [], G, sh0 pot ds N.length, pt, pp, ⟨rel_start sm pp pa rl (by rw [hl]; exact hN), .refl sm pp, fun i a h => by cases h⟩, ?_⟩
  rw [fnB_eq] at q
  refine (sat_bind q).mono (fun o p1 q => ?_) fun x p1 q c dx G' H' σ st r => q c dx G' H' st r
  cases o with
  | nx ρ => exact fun fps G1 H1 σ1 S1 => (q : ∀ v G' H', _ → _ → Q v H') .non G1 H1 S1.stp .non
  | rt d => exact q
  | bk ρ => exact False.elim q
  | ct ρ => exact False.elim q
end
end Mi

/-! MiLaw: the pot's kinds, the law's end. -/
namespace Mi
open PySem L2
/-- the pot that is a list -/
def PKL : Mi.PK where
  at_ := fun H q s => H q.p = some (.lst [.ref q.c, .int s.m, .int s.t]) ∧ H q.c = some (.lst (s.c.map V.int)) ∧ q.p ≠ q.c ∧ s.c.length ≤ 1000
  keep := fun h e1 e2 => ⟨e1.trans h.1, e2.trans h.2.1, h.2.2⟩
  there := fun h => ⟨by rw [h.1]; simp, by rw [h.2.1]; simp⟩
theorem shp_ints (l : List Int) : SeqAt.shaped (.list (l.map PyData.int)) = true := by
  have h1 : PyData.canLayAll0 (l.map PyData.int) = true := by
    induction l with
    | nil => simp [PyData.canLayAll0]
    | cons x xs ih => simp [PyData.canLayAll0, PyData.canLay0, ih]
  have h2 : PyData.depthAll (l.map PyData.int) ≤ 1 := by
    induction l with
    | nil => simp [PyData.depthAll]
    | cons x xs ih =>
      simp only [List.map_cons, PyData.depthAll, PyData.depth]
      have := ih (by
        simp only [List.map_cons, PyData.canLayAll0, Bool.and_eq_true] at h1
        exact h1.2)
      omega
  unfold SeqAt.shaped
  simp [PyData.canLay0, PyData.depth, h1]
  omega
/-! plain readings -/
section
variable {ta tb : L2.TE} {σ : St} {H : Hp} {i j : Int}
theorem v_add (ha : Val ta σ H (.int i)) (hb : Val tb σ H (.int j)) : Val (tOp (rI0 fun i j => .int (i + j)) ta tb) σ H (.int (i + j)) := val_op ha hb fun Q q => ⟨i, j, rfl, rfl, q⟩
theorem v_mul (ha : Val ta σ H (.int i)) (hb : Val tb σ H (.int j)) (h : CMul i j) : Val (tOp (rI CMul fun i j => .int (i * j)) ta tb) σ H (.int (i * j)) := val_op ha hb fun Q q => ⟨i, j, rfl, rfl, h, q⟩
theorem v_mod (ha : Val ta σ H (.int i)) (hb : Val tb σ H (.int j)) (h : 0 < j) : Val (tOp (rI (fun _ j => 0 < j) fun i j => .int (i % j)) ta tb) σ H (.int (i % j)) := val_op ha hb fun Q q => ⟨i, j, rfl, rfl, h, q⟩
theorem v_fdiv (ha : Val ta σ H (.int i)) (hb : Val tb σ H (.int j)) (h : CDiv i j) : Val (tOp (rI CDiv fun i j => .int (i / j)) ta tb) σ H (.int (i / j)) := val_op ha hb fun Q q => ⟨i, j, rfl, rfl, h, q⟩
theorem v_ix {K : PySem.W.Frag} {n : Nat} {j : Int} {p : Addr} {xs : List V} {v : V} (h : σ[n]? = some (some (.ref p))) (hp : H p = some (.lst xs)) (hv : atI xs j = some v) : Val (tOp (rIxL K) (tVar n) (tC (.int j))) σ H v :=
  fun Q q => ⟨_, h, p, xs, j, v, rfl, rfl, SqL.of hp, hv, q⟩
theorem val_cb {r : List V → Hp → VK → Prop} {x z : V} (ha : Val ta σ H x) (hr : ∀ Q : VK, Q z H → r [x] H Q) : Val (tCB r (tCons ta tNil)) σ H z := fun Q q => ha _ (hr Q q)
theorem v_lt (ha : Val ta σ H (.int i)) (hb : Val tb σ H (.int j)) : Val (tOp (rI0 fun i j => .bl (decide (i < j))) ta tb) σ H (.bl (decide (i < j))) := val_op ha hb fun Q q => ⟨i, j, rfl, rfl, q⟩
theorem v_c (k : Int) : Val (tC (.int k)) σ H (.int k) := val_c
theorem v_var {n : Nat} (h : σ[n]? = some (some (.int i))) : Val (tVar n) σ H (.int i) := val_var h
end
/-- the pot is made of the script -/
def spPot (C : Cn) (pot : List Int → Pot) : L2.Sp := fun vs H Q _ => ∃ (a : Addr) (ns : List Int), vs = [.ref a] ∧ SqL C.K H a (ns.map V.int) ∧ ns.length ≤ 63 ∧
  ∀ (q : Pr) (H' : Hp), H q.p = none → H q.c = none → C.pk.at_ H' q (pot ns) → (∀ b o, H b = some o → H' b = some o) → Q (.ref q.p) H'
theorem take_cut (xs : List V) (n : Nat) (h : xs.length ≤ 63) (hn : 1 ≤ n) : cutV xs none (some (n : Int)) = xs.take n := by
  unfold cutV HT.sIx
  simp only [List.drop_zero, Nat.sub_zero]
  rw [if_neg (by omega), Int.toNat_natCast]
  by_cases c : n ≤ xs.length
  · rw [Nat.min_eq_left c]
  · rw [Nat.min_eq_right (by omega), List.take_of_length_le (Nat.le_refl _), List.take_of_length_le (by omega)]
/-! ### the law's own def, its end -/
section
variable {C : Cn} {X : Cx} {W : WX} {k : Nat} {f : Addr} {fd : FuncData} {ps : List Str} {sp : L2.Sp} {e : Expr} {es : List Expr} {x : Str} {p pos : Pos} {t : L2.TA}
theorem ex_sp (hK : X.K = C.K) (F : FnG C X.prog X.w X.mg X.base k f fd ps sp) (hr : Room k X.A) (hm : X.mg x = some (.ref f)) (hk : PySem.W.keepIn X.K (.ref f) = true) (hb : ∀ (s : Shared) (us : List Value), us.length = ps.length → BindsTo s fd ⟨us, []⟩ (ps.zip us)) (hgd : X.A.guards = some []) (tk : Takes X W)
    (hg : Gl X x) (hdb : (x == ("__debug__" : Str)) = false) (he : (e :: es).all nst = true) (ha : PA X (e :: es) t) : PE X (.Call (.Name x p) (e :: es) [] pos) (tCallS sp (WE W) t) := by
  have hs : nst e = true ∧ es.all nst = true := by simpa [List.all_cons] using he
  refine ⟨fun pins s σ H Q I h => ?_⟩
  refine wpAny_Call_Name_kw (ld_glob I hg hm ?_ hdb)
  refine PySem.W.callWith_K (h₀ := X.base) I.ok.mod.kin hk (thn (ha.run pos pins s σ H _ I h) fun us s1 ⟨vs, H1, I1, r, q⟩ => ⟨I1.kIn, ?_⟩) (star_cons hs.1) (star_any hs.2)
  exact go_call hK F hr hgd tk I1 (hb s1 us (by rw [← r.length]; exact F.len _ _ _ _ q)) r q
end
def spLaw (C : Cn) : L2.Sp := fun vs H Q _ => ∃ (a : Addr) (ns : List Int), vs = [.ref a] ∧ SqL C.K H a (ns.map V.int) ∧ ns.length ≤ 63 ∧ ∀ H', Q (.bl true) H'
/-- the law's meaning is True -/
def Yes (m : List Int → Mi.R D) : Prop := ∀ ns : List Int, ns.length ≤ 63 → ∃ p, m ns = .ok (.bool true) p
structure PotAt (C : Cn) (P : Program) (w : World) (mg : Str → Option Value) (base : Heap) (k : Nat) (pot : List Int → Pot) : Prop where
  ex : ∃ f fd, FnG C P w mg base k f fd ["script"] (spPot C pot) ∧ mg "_law_pot" = some (.ref f) ∧ PySem.W.keepIn C.K (.ref f) = true ∧ ∀ (s : Shared) (us : List Value), us.length = 1 → BindsTo s fd ⟨us, []⟩ ((["script"] : List Str).zip us)
theorem yes_sat {pot : List Int → Pot} {F : List Fn} {n : Nat} {b : Sms} {ns : List Int} {p : Pt} (h : fnLaw pot F n b ns = .ok (.bool true) p) :
    runs F b (.no :: .po :: List.replicate (n - 2) .no) (some (pot ns)) = .ok (.rt (.bool true)) p := by
  unfold fnLaw at h
  cases e : runs F b (.no :: .po :: List.replicate (n - 2) .no) (some (pot ns)) with
  | ok o p1 =>
    rw [e] at h
    cases o with
    | rt d =>
      simp only [bind_ok, Mi.R.ok.injEq] at h
      rw [h.1, h.2]
    | nx ρ => simp at h
    | bk ρ => simp at h
    | ct ρ => simp at h
  | er x p1 => rw [e] at h; simp at h
  | bad => rw [e] at h; simp at h
theorem law_ok {C : Cn} {P : Program} {w : World} {mg : Str → Option Value} {base : Heap} {k : Nat} {T : Tb} {F : List Fn} {N : List Str} {st : Stmt} {rest : List Stmt} {f : Addr} {fd : FuncData} {ir : Sms} {pot : List Int → Pot} {p1 p2 p3 pos pos2 : Pos}
    (Fu : Fun C.K "law" "law" st f fd) (t : TOk C T F P w mg base k) (S : FnScope ("script" :: "pot" :: N) ["script"] (defScope st)) (hb : defBody st = .Assign [.Name "pot" p1] (.Call (.Name "_law_pot" p2) [.Name "script" p3] [] pos) pos2 :: rest)
    (hl1 : Sc.vis ⟨"script" :: "pot" :: N, defScope st, none⟩ "script" = true) (hl2 : Sc.loc ⟨"script" :: "pot" :: N, defScope st, none⟩ "pot" = true) (hl3 : Sc.glo ⟨"script" :: "pot" :: N, defScope st, none⟩ "_law_pot" = true)
    (hc : chSs T ir ⟨"script" :: "pot" :: N, defScope st, none⟩ rest = true) (po : PotAt C P w mg base k pot) (hy : Yes (fnLaw pot F (N.length + 2) ir)) : FnG C P w mg base (k + 1) f fd ["script"] (spLaw C) := by
  obtain ⟨oc, od, kV, doc, pm, an, cdv, ct, osl, rfl, lk, hcd⟩ := Fu.ex
  refine fnG_of lk hcd S (fun vs H Q E h => by obtain ⟨a, ns, rfl, _⟩ := h; rfl) (fun A outer s H vs Q E hr gd h => ?_)
  obtain ⟨a, ns, rfl, hS, hlen, q⟩ := h
  have ok := xok_def (C := C) (P := P) (w := w) (qual := "law") (f := f) (cd := cdv) (outer := outer) (s := s) (H := H) (E := E) t S hr gd
  obtain ⟨fp, fdp, g1, g2, g3, g4⟩ := po.ex
  obtain ⟨v1, v2, v3⟩ := vis_ok ok.nm hl1
  obtain ⟨l1, l2⟩ := loc_ok ok.nm hl2
  obtain ⟨gl1, gl2, gl3⟩ := glo_ok ok.nm hl3
  rw [hb]
  refine ⟨_, pss_cons (ps_asg (ex_sp (es := []) rfl g1 hr g2 g3 g4 ok.gd ok.tk gl1 gl2 rfl (pa_cons (pe_var (i := 0) rfl v1 v2 v3) pa_nil rfl)) (pg_name (i := 1) S.nd rfl l1 l2) rfl sst_name) (chSs_ok C T F ir ok S.kind (passes_of rfl) hc), ?_⟩
  refine st_seq ⟨_, rfl, a, ns, rfl, hS, hlen, fun qp H' n1 n2 at' k => ?_⟩
  obtain ⟨p, hp⟩ := hy ns hlen
  have pp : PtR C (some qp) H H' (some (pot ns)) := ⟨at', n1, n2⟩
  have sm : Same H H' := k
  refine ⟨some qp, H, H', some (pot ns), fun _ => [], H, .no :: .po :: List.replicate (N.length + 2 - 2) .no, some (pot ns), pp, ⟨⟨sm, ?_, fun i => ?_, fun i j a h => (by cases h), fun i a h => (by cases h), pp⟩, .refl sm pp, fun i a h => (by cases h)⟩, ?_⟩
  · unfold L2.start
    simp
  · match i with
    | 0 => trivial
    | 1 => exact ⟨qp, rfl, rfl⟩
    | i + 2 =>
      show SlR C _ [] H H' _ ((List.replicate (N.length + 2 - 2) SV.no)[i]?)
      rw [List.getElem?_replicate]
      split <;> trivial
  · rw [yes_sat hp]
    intro v G1 H1 _ r
    cases r
    exact q H1
end Mi

/-! MiEnd: from the law's promise to the row. -/
namespace Mi
open PySem L2 PySem.Spec PySem.W PySem.Calls
/-- the script's list, known by its object, unless it is the module's own -/
def scriptH (K : PySem.W.Frag) (a : Addr) (ob : Obj) (xs : List V) : Hp := fun b => if b = a ∧ (K.lookup a).isNone = true then some (.frz ob (.lst xs)) else none
theorem scriptH_some {K : PySem.W.Frag} {a b : Addr} {ob : Obj} {xs : List V} {u : HO} (h : scriptH K a ob xs b = some u) : b = a ∧ u = .frz ob (.lst xs) ∧ K.lookup a = none := by
  unfold scriptH at h
  split at h
  · rename_i c
    cases h
    exact ⟨c.1, rfl, Option.isNone_iff_eq_none.mp c.2⟩
  · cases h
section
variable {C : Cn} {P : Program} {w : World} {mg mb : Str → Option Value} {k : Nat} {fa a : Addr} {fd : FuncData} {s₁ : Shared} {vs : List Value} {ns : List Int}
theorem law_go (KX : C.K.In s₁.heap) (hns : s₁.heap.Ns mainGlobals mg) (hb : s₁.heap.Ns builtinsNs mb) (hbb : ∀ x : Str, x ≠ "__name__" → mb x = bootBuiltins x) (hlim : s₁.heap.NoLimit) (hg : s₁.gens = #[])
    (ha : s₁.heap.get? a = some { cls := .type "list", data := .seq vs.toArray }) (hi : PyProof.Rows.IntsAre vs ns) (hl : ns.length ≤ 63) (hr : Room k callerA)
    (F : ∀ base : Heap, C.K.In base → base.Ns mainGlobals mg → FnG C P w mg base k fa fd ["script"] (spLaw C)) (hbind : ∀ (s : Shared) (u : Value), BindsTo s fd ⟨[u], []⟩ [("script", u)]) :
    codeAny (model P w) callerA (.call (.ref fa) ⟨[.ref a], []⟩) (fun r s' => r = .ok (.ret (.bool true)) ∧ OldK s₁.heap s'.heap ∧ s'.os = s₁.os ∧ PyProof.Rows.AllBare s'.gens) s₁ := by
  have rv := vals_ints hi
  have hz : ns.length ≤ sizeLine := Nat.le_trans hl (by decide)
  generalize eH : scriptH C.K a { cls := .type "list", data := .seq vs.toArray } (ns.map V.int) = H
  have some_of : ∀ {b : Addr} {u : HO}, H b = some u → b = a ∧ u = .frz { cls := .type "list", data := .seq vs.toArray } (.lst (ns.map V.int)) ∧ C.K.lookup a = none := fun {b u} h => scriptH_some (eH ▸ h)
  have hS : SqL C.K H a (ns.map V.int) := by
    cases hk : C.K.lookup a with
    | some o =>
      have e := KX a o hk
      rw [ha] at e
      cases e
      exact .inr ⟨_, vs.toArray, _, hk, rfl, rfl, rfl, by rw [List.size_toArray, hi.length]; exact hz, by simpa using rv⟩
    | none =>
      refine .inl (.inr ⟨{ cls := .type "list", data := .seq vs.toArray }, ?_⟩)
      rw [← eH]
      unfold scriptH
      rw [if_pos ⟨rfl, by rw [hk]; rfl⟩]
  have hok : HOk P w H s₁.heap := fun b u h => by
    obtain ⟨rfl, rfl, _⟩ := some_of h
    exact ⟨ha, by rw [List.length_map]; exact hz, vs, _, rv, ha⟩
  -- a dict is not the script
  have dic : ∀ {b : Addr} {o : Obj} {es : Array DictEntry} {ep : Nat}, s₁.heap.get? b = some o → o.data = .dict es ep → H b = none := fun {b o es ep} e d => by
    cases q : H b with
    | none => rfl
    | some u =>
      obtain ⟨rfl, _, _⟩ := some_of q
      rw [ha] at e
      cases e
      exact (nomatch (show Data.seq vs.toArray _ = Data.dict es ep from d))
  have ns_ : ∀ {b : Addr} {m : Str → Option Value}, s₁.heap.Ns b m → (hidT s₁.heap H).Ns b m := fun {b m} h => by
    obtain ⟨o, es, ep, e, d, r⟩ := h
    exact ⟨o, es, ep, hidT_get e (dic e d), d, r⟩
  have inK : C.K.In (hidT s₁.heap H) := fun b o e => hidT_get (KX b o e) (by
    cases q : H b with
    | none => rfl
    | some u =>
      obtain ⟨rfl, _, hk⟩ := some_of q
      rw [hk] at e; cases e)
  have md : Mod C.K mg (hidT s₁.heap H) := by
    obtain ⟨mc, l1, l2⟩ := hlim
    exact ⟨inK, ns_ hns, ⟨mb, ns_ hb, hbb⟩, ⟨mc, ns_ l1, l2⟩⟩
  have e0 : Env0 P w C.K mg (hidT s₁.heap H) callerA [] s₁ H :=
    { frames := rfl, mod := md, bs := fun b o e => of_hidT e, bsz := Nat.le_of_eq (hidT_size _ _), funs := trivial, frf := fun b hb => (nomatch hb), hok := hok, bare := .of_eq hg }
  have run := (F _ inK (ns_ hns)).go callerA [] s₁ H ⟨[.ref a], []⟩ [.ref a] [.ref a] (fun v _ => v = .bl true) (fun _ _ _ => False) hr rfl e0 (hbind s₁ (.ref a)) (.cons rfl .nil) ⟨a, ns, rfl, hS, hl, fun _ => rfl⟩
  refine codeAny_mono run ?_
  intro r s' h
  match r, h with
  | .error e, h =>
    obtain ⟨_, _, _, _, _, _, _, _, _, _, _, _, q⟩ := h
    exact q.elim
  | .ok .next, h => exact h.elim
  | .ok .brk, h => exact h.elim
  | .ok .cont, h => exact h.elim
  | .ok (.ret u), h =>
    obtain ⟨v, H', os, bare, un, hok', r', q⟩ := h
    have q : v = .bl true := q
    subst q
    have r' : u = Value.bool true := r'
    subst r'
    refine ⟨rfl, OldK.of_keep fun b o e => ?_, os, bare⟩
    cases q : H b with
    | none => exact un.keep b o e q (nomatch ·) (nomatch ·)
    | some x =>
      obtain ⟨rfl, rfl, _⟩ := some_of q
      obtain ⟨e1, _⟩ := hok' b _ (un.frzs b _ _ q)
      rw [ha] at e
      cases e
      exact e1
end
/-- a def of the module's top -/
def TopD (K : PySem.W.Frag) (x : Str) (st : Stmt) : Prop := ∃ f fd, PySem.W.nsIn K mainGlobals x = some (some (.ref f)) ∧ Fun K x x st f fd
/-- each callee with its meaning -/
def AllAt (C : Cn) (P : Program) (w : World) (mg : Str → Option Value) (base : Heap) (k : Nat) : List FnS → List Fn → Prop
  | [], _ => True
  | c :: cs, ms => At C P w mg base k c (ms.headD badF) ∧ AllAt C P w mg base k cs ms.tail
theorem allAt_cal {C : Cn} {P : Program} {w : World} {mg : Str → Option Value} {base : Heap} {k : Nat} : ∀ {cs : List FnS} {ms : List Fn}, AllAt C P w mg base k cs ms → ∀ (i : Nat) (c : FnS), cs[i]? = some c → At C P w mg base k c (ms.getD i badF)
  | [], _, _, i, c, h => by simp at h
  | c :: cs, ms, ⟨a, r⟩, 0, c', h => by
    simp only [List.getElem?_cons_zero, Option.some.injEq] at h
    subst h
    cases ms <;> exact a
  | c :: cs, ms, ⟨a, r⟩, i + 1, c', h => by
    have q := allAt_cal r i c' (by simpa using h)
    cases ms with
    | nil => simpa using q
    | cons m ms => exact q
theorem all_nil {α : Type} {P : α → Prop} : ∀ q ∈ ([] : List α), P q := fun _ h => nomatch h
theorem all_cons {α : Type} {P : α → Prop} {a : α} {l : List α} (h : P a) (r : ∀ q ∈ l, P q) : ∀ q ∈ a :: l, P q := fun q hq => by
  rcases List.mem_cons.mp hq with e | e
  · rw [e]; exact h
  · exact r q e
/-- how a def binds: positions alone, keywords alone -/
def BindsP (x : Str) (st : Stmt) (ps : List Str) : Prop := ∀ (kV doc pm : Value) (an : Option Addr) (cdv ct : Value) (us : List Value), us.length = ps.length → bindArgs (PySem.W.fnOf x x (defArgs st) (defBody st) (defScope st) .none kV doc pm an cdv ct) ⟨us, []⟩ = pure (ps.zip us)
def BindsK (x : Str) (st : Stmt) (ps : List Str) (q : List Str × List Nat) : Prop := ∀ (kV doc pm : Value) (an : Option Addr) (cdv ct : Value) (us : List Value), us.length = q.1.length → bindArgs (PySem.W.fnOf x x (defArgs st) (defBody st) (defScope st) .none kV doc pm an cdv ct) ⟨[], q.1.zip us⟩ = pure (ps.zip (pick .none us q.2))
theorem top_at {C : Cn} {P : Program} {w : World} {mg : Str → Option Value} {base h : Heap} {k : Nat} {T : Tb} {F : List Fn} {N ps : List Str} {x : Str} {st : Stmt} {ir : Sms} {pot : Bool} {kws : List (List Str × List Nat)} (tp : TopD C.K x st) (KX : C.K.In h) (G : h.Ns mainGlobals mg)
    (t : TOk C T F P w mg base k) (S : FnScope N ps (defScope st)) (hc : chSs T ir ⟨N, defScope st, none⟩ (defBody st) = true) (hb : BindsP x st ps) (hw : ∀ q ∈ kws, BindsK x st ps q) : At C P w mg base (k + 1) ⟨x, ps, pot, kws⟩ (fnB pot F N.length ir) := by
  obtain ⟨f, fd, a, Fu⟩ := tp
  have hm := PySem.W.mg_of KX G a
  obtain ⟨oc, od, kV, doc, pm, an, cdv, ct, osl, rfl, lk, hcd⟩ := id Fu.ex
  exact def_ok Fu t S hc hm (fun s us hl => .of_eq (hb kV doc pm an cdv ct us hl)) fun q hq s us hl => .of_eq (hw q hq kV doc pm an cdv ct us hl)
theorem walk_mi {l : PySem.W.OpenLaw} {k : Nat} {q : Program} {loose : List Str} {XP : (Str → Option Value) → Heap → Prop} {YP : World → Heap → Prop} {d : DefRec} {K : Params → PySem.W.Frag} (hn : l.most = some 63) (hdf : d.params.defaults = []) (hr : Room k callerA)
    (hY : ∀ (w : World) (h : Heap), YP w h → (K w.params).In h)
    (F : ∀ (w : World) (mg : Str → Option Value) (fa : Addr) (h : Heap), (K w.params).In h → h.Ns mainGlobals mg → mg d.name = some (.ref fa) → ∃ (C : Cn) (fd : FuncData), C.K = K w.params ∧ (∀ (s : Shared) (u : Value), BindsTo s fd ⟨[u], []⟩ [("script", u)]) ∧
      ∀ base : Heap, C.K.In base → base.Ns mainGlobals mg → FnG C l.prog w mg base k fa fd ["script"] (spLaw C)) : PySem.W.WalkO q loose XP YP l.row.toRowW d [] (fun f vs => PySem.call f vs) := by
  refine Att.attach_call hn hdf fun w s₀ s₁ mg mb fa o pm cd doc a vs ns G Y ho hd hcd hmg hobj hints hlen hg => ?_
  obtain ⟨C, fd, eK, hb, hF⟩ := F w mg fa _ (hY w _ Y) G.T.g hmg
  exact law_go (C := C) (by rw [eK]; exact hY w _ Y) G.T.g G.T.b G.T.builtins G.T.nolimit hg hobj hints hlen hr hF hb
end Mi

/-! MiPure: steps of the meaning. -/
namespace Mi
open PySem
section
variable {F : List Fn} {n i : Nat} {b r : Sms} {ds : List D} {p p' p'' : Pt} {d : D} {ρ ρ' : Env} {e c : Ex} {o : Out}
theorem fn_rt (h : runs F b (ds.map .sh ++ List.replicate (n - ds.length) .no) p = .ok (.rt d) p') : fn F n b ds p = .ok d p' := by unfold fn; rw [h]; rfl
theorem fnP_rt (h : runs F b (.po :: (ds.map .sh ++ List.replicate (n - (ds.length + 1)) .no)) p = .ok (.rt d) p') : fnP F n b ds p = .ok d p' := by unfold fnP; rw [h]; rfl
theorem rs_set (h : ev F e ρ p = .ok d p') : runs F (.cons (.set i e) r) ρ p = runs F r (ρ.set i (.sh d)) p' := by simp only [runs, run, h, bind_ok]
theorem rs_own {l : List D} (h : ev F e ρ p = .ok (.list l) p') : runs F (.cons (.own i e) r) ρ p = runs F r (ρ.set i (.ow l)) p' := by simp only [runs, run, h, bind_ok]
theorem rs_ret (h : ev F e ρ p = .ok d p') : runs F (.cons (.ret e) r) ρ p = .ok (.rt d) p' := by simp only [runs, run, h, bind_ok]
theorem rs_par {is : List (Nat × Bool)} {es : Exs} {l : List D} (h : evs F es ρ p = .ok l p') (k : setAll is l ρ = some ρ') : runs F (.cons (.par is es) r) ρ p = runs F r ρ' p' := by simp only [runs, run, h, bind_ok, k, nxO]
theorem rs_unp {tg : Tgs} (h : ev F e ρ p = .ok d p') (k : bindT (.tp tg) d ρ = some ρ') : runs F (.cons (.unp tg e) r) ρ p = runs F r ρ' p' := by simp only [runs, run, h, bind_ok, k, nxO]
theorem rs_ext {l m : List D} (g : getO ρ i = some l) (h : ev F e ρ p = .ok (.list m) p') (hl : l.length + m.length ≤ lim) : runs F (.cons (.ext i e) r) ρ p = runs F r (ρ.set i (.ow (l ++ m))) p' := by
  simp only [runs, run, g, h, bind_ok, if_pos hl]
theorem rs_app {l : List D} (g : getO ρ i = some l) (h : ev F e ρ p = .ok d p') (hl : l.length < lim) : runs F (.cons (.app i e) r) ρ p = runs F r (ρ.set i (.ow (l ++ [d]))) p' := by
  simp only [runs, run, g, h, bind_ok, if_pos hl]
theorem rs_no {a b : Sms} (h : ev F c ρ p = .ok (.bool false) p') : runs F (.cons (.iff c a b) r) ρ p = (runs F b ρ p').bind fun o p => match o with
    | .nx ρ' => runs F r ρ' p
    | .bk ρ' => .ok (.bk ρ') p
    | .ct ρ' => .ok (.ct ρ') p
    | .rt d => .ok (.rt d) p := by
  simp only [runs, run, h, bind_ok]
  try rfl
theorem rs_no0 {a : Sms} (h : ev F c ρ p = .ok (.bool false) p') : runs F (.cons (.iff c a .nil) r) ρ p = runs F r ρ p' := by simp only [runs, run, h, bind_ok]
theorem rs_yes {a b : Sms} (h : ev F c ρ p = .ok (.bool true) p') : runs F (.cons (.iff c a b) r) ρ p = (runs F a ρ p').bind fun o p => match o with
    | .nx ρ' => runs F r ρ' p
    | .bk ρ' => .ok (.bk ρ') p
    | .ct ρ' => .ok (.ct ρ') p
    | .rt d => .ok (.rt d) p := by
  simp only [runs, run, h, bind_ok]
  try rfl
theorem rs_yesR {a b : Sms} (h : ev F c ρ p = .ok (.bool true) p') (k : runs F a ρ p' = .ok (.rt d) p'') : runs F (.cons (.iff c a b) r) ρ p = .ok (.rt d) p'' := by rw [rs_yes h, k]; rfl
theorem rs_yesN {a b : Sms} (h : ev F c ρ p = .ok (.bool true) p') (k : runs F a ρ p' = .ok (.nx ρ') p'') : runs F (.cons (.iff c a b) r) ρ p = runs F r ρ' p'' := by rw [rs_yes h, k]; rfl
theorem rs_for {tg : Tg} {it : It} {b : Sms} {kill : List Nat} {l : List D} (h : evI F it ρ p = .ok l p') (k : forL tg (runs F b) kill l ρ p' = .ok (.nx ρ') p'') : runs F (.cons (.forr tg it b kill) r) ρ p = runs F r ρ' p'' := by
  simp only [runs, run, h, bind_ok, k]
theorem for_nil {tg : Tg} {b : Env → Pt → R Out} {kill : List Nat} : forL tg b kill [] ρ p = .ok (.nx (wipes ρ kill)) p := rfl
theorem for_nx {tg : Tg} {b : Env → Pt → R Out} {kill : List Nat} {ρ1 : Env} {ds : List D} (h : bindT tg d (wipes ρ kill) = some ρ1) (k : b ρ1 p = .ok (.nx ρ') p') : forL tg b kill (d :: ds) ρ p = forL tg b kill ds ρ' p' := by
  simp only [forL, h, k, bind_ok]
theorem rs_frz {l : List D} (h : ρ[i]? = some (.ow l)) : runs F (.cons (.frz i) r) ρ p = runs F r (ρ.set i (.sh (.list l))) p := by simp only [runs, run, h, bind_ok]
theorem rs_nil : runs F .nil ρ p = .ok (.nx ρ) p := by simp only [runs]
theorem bT_nm : bindT (.nm i) d ρ = some (ρ.set i (.sh d)) := by simp only [bindT]
theorem bT_tup {ts : Tgs} : bindT (.tp ts) (.tuple ds) ρ = bindTs ts ds ρ := by simp only [bindT]
theorem bT_lst {ts : Tgs} : bindT (.tp ts) (.list ds) ρ = bindTs ts ds ρ := by simp only [bindT]
theorem bTs_nil : bindTs .nil [] ρ = some ρ := by simp only [bindTs]
theorem bTs_cons {t : Tg} {ts : Tgs} : bindTs (.cons t ts) (d :: ds) ρ = (bindT t d ρ).bind fun ρ' => bindTs ts ds ρ' := by simp only [bindTs]
/-- a comprehension without draws -/
theorem compL_map {f : D → Pt → R (Option D)} {g : D → Option D} : ∀ {ds : List D}, (∀ d ∈ ds, f d p = .ok (g d) p) → compL f ds p = .ok (ds.filterMap g) p
  | [], _ => rfl
  | d :: ds, h => by
    rw [compL, h d List.mem_cons_self, bind_ok, compL_map fun d hd => h d (List.mem_cons_of_mem _ hd), bind_ok, List.filterMap_cons]
    cases g d <;> rfl
theorem drw_ok {drw : Int → Pot → Int × Pot} {lo k : Int} {s : Pot} (h0 : lo ≤ k) (h1 : k ≤ drwLim) : drwF drw lo [.int k] (some s) = .ok (.int (drw k s).1) (some (drw k s).2) := by
  unfold drwF
  exact if_pos ⟨h0, h1⟩
theorem drw1_lt {k : Int} {s : Pot} (h : 1 ≤ k) : 0 ≤ (drw1 k s).1 ∧ (drw1 k s).1 < k := by
  unfold drw1
  split
  · exact ⟨Int.le_refl _, by show (0 : Int) < k; omega⟩
  · split
    · exact ⟨Int.emod_nonneg _ (by omega), Int.emod_lt_of_pos _ (by omega)⟩
    · exact ⟨Int.emod_nonneg _ (by omega), Int.emod_lt_of_pos _ (by omega)⟩
end
end Mi

namespace Law
open PySem L2 Mi
def top (i : Nat) : Stmt := PySem.Challenge.pw_equalsums_k74_whole_main_threes.main.body.getD i (.Pass ⟨0, 0, 0, 0⟩)
abbrev s__law_pot : Stmt := top 12
abbrev s__law_of : Stmt := top 13
abbrev s_three_square : Stmt := top 1
abbrev s_three_parts : Stmt := top 2
abbrev s_three_number : Stmt := top 3
abbrev s_three_unlike : Stmt := top 4
abbrev s_threes_listed : Stmt := top 5
abbrev s_line_sums : Stmt := top 7
abbrev s_broken_sums : Stmt := top 8
abbrev s_is_even_square : Stmt := top 9
abbrev s_is_broken_even : Stmt := top 10
abbrev s__law_one : Stmt := top 14
abbrev s__law_lines : Stmt := top 15
abbrev s__law_line_sums : Stmt := top 16
abbrev s__law_turned : Stmt := top 17
abbrev s__law_three : Stmt := top 18
abbrev s__law_number : Stmt := top 19
abbrev s_law : Stmt := top 20
/-! ### _law_of -/
def N_of : List Str := ["pot", "many", "cell", "number"]
theorem sc_of : FnScope N_of ["pot", "many"] (defScope s__law_of) := ⟨rfl, rfl, rfl, by decide +kernel, rfl, by decide +kernel, by decide +kernel⟩
theorem drwF_ok {drw : Int → Pot → Int × Pot} {lo : Int} {ds : List D} {p : Pt} {P : D → Pt → Prop} {E : Xc → Pt → Prop} (h : (drwF drw lo ds p).sat P E) : ∃ n s, ds = [.int n] ∧ p = some s ∧ lo ≤ n ∧ n ≤ drwLim ∧ P (.int (drw n s).1) (some (drw n s).2) := by
  unfold drwF at h
  split at h
  · rename_i n s
    by_cases c : lo ≤ n ∧ n ≤ drwLim
    · rw [if_pos c] at h
      exact ⟨n, s, rfl, rfl, c.1, c.2, h⟩
    · rw [if_neg c] at h
      exact h.elim
  · exact h.elim
theorem lim_log {n : Int} (h0 : 0 < n) (h : n ≤ drwLim) : CDivW 0 n := by
  refine ⟨h0, ?_⟩
  have h1 : n.natAbs ≤ 2 ^ 400 := by unfold drwLim at h; omega
  have h2 : n.natAbs.log2 < 401 := (Nat.log2_lt (by omega)).mpr (Nat.lt_of_le_of_lt h1 (by decide))
  omega
theorem ne_nil (l : List Int) : (cop .ne (.list (l.map PyData.int)) (.list [])).map PyData.bool = some (.bool (!decide (l = []))) := by
  have h1 : shp (.list (l.map PyData.int)) = true := shp_ints l
  have h2 : shp (.list []) = true := shp_ints []
  show (Option.map _ (if (shp _ && shp _) = true then _ else _)).map _ = _
  rw [h1, h2]
  show (Option.map _ (some _)).map _ = _
  cases l with
  | nil => simp [PyData.eqv, PyData.eqvAll]
  | cons x xs => simp [PyData.eqv, PyData.eqvAll]
theorem of_ok {C : Cn} {P : Program} {w : World} {mg : Str → Option Value} {base : Heap} {f : Addr} {fd : FuncData} (hpk : C.pk = PKL) (Fu : Fun C.K "_law_of" "_law_of" s__law_of f fd) (hlen : mg "len" = none) : FnG C P w mg base 2 f fd ["pot", "many"] (spOf C true 2 m__law_of) := by
  obtain ⟨oc, od, kV, doc, pm, an, cdv, ct, osl, rfl, lk, hcd⟩ := Fu.ex
  refine fnG_of lk hcd sc_of (fun vs H Q E h => sp_len h) (fun A outer s H vs Q E hr gd h => ?_)
  obtain ⟨pr, G, pt, ws, ds, sm, pp, pa, hl, rl, q⟩ := h
  have hu : (A.deeper (PyProof.Rows.envOfC "_law_of" (defScope s__law_of) s.heap.objs.size f cdv)).units + 64 < cLine := hr.units
  refine ⟨_, pss_cons (ps_if (pt_cmpR op_lt (pv 1) pe_int (nomark _)) (pss_one (ps_ret pe_int)) pss_nil)
    (pss_cons (ps_if (pt_cmpR (oc_ne (C := C) rfl hu) (pe_ix ix_list (pv 0) pe_int (fun _ _ => rfl)) (pe_lst pa_nil) (nomark _))
      (pss_cons (ps_asg (pe_bm0 PySem.F.plainAttrs_list PySem.F.slot_list_pop PySem.F.type_list_pop mt_pop (pe_ix ix_list (pv 0) pe_int (fun _ _ => rfl))) (pg_name (i := 2) sc_of.nd rfl (Or.inl rfl)))
      (pss_cons (ps_if (pt_cmpR op_ge (pv 2) (pv 1) (nomark _)) (pss_one (ps_expr (pe_bm PySem.F.plainAttrs_list PySem.F.slot_list_append PySem.F.type_list_append mt_append (pe_ix ix_list (pv 0) pe_int (fun _ _ => rfl)) (pa_cons (pe_op op_fdivW (pv 2) (pv 1)) pa_nil)))) pss_nil)
      (pss_one (ps_ret (pe_op op_mod (pv 2) (pv 1)))))) pss_nil)
    (pss_cons (ps_asg (pe_op op_add (pe_ix ix_list (pv 0) pe_int (fun _ _ => rfl)) pe_int) (pg_sub (pv 0) pe_int set_list))
    (pss_cons (ps_asg (pe_op op_mod (pe_op op_add (pe_ix ix_list (pv 0) pe_int (fun _ _ => rfl)) (pe_op op_mul (pe_ix ix_list (pv 0) pe_int (fun _ _ => rfl)) pe_int)) pe_int) (pg_name (i := 3) sc_of.nd rfl (Or.inl rfl)))
    (pss_cons (ps_asg (pe_op op_mod (pe_op op_add (pe_op op_add (pe_op op_mul (pv 3) (pv 3)) (pe_op op_mul (pe_ix ix_list (pv 0) pe_int (fun _ _ => rfl)) pe_int)) pe_int) pe_int) (pg_name (i := 3) sc_of.nd rfl (Or.inl rfl)))
    (pss_cons (ps_asg (pe_op op_mod (pe_op op_add (pe_op op_mul (pv 3) (pv 3)) (pe_ix ix_list (pv 0) pe_int (fun _ _ => rfl))) pe_int) (pg_name (i := 3) sc_of.nd rfl (Or.inl rfl)))
    (pss_one (ps_ret (pe_op op_mod (pe_op op_fdiv (pv 3) pe_int) (pv 1))))))))), ?_⟩
  obtain ⟨n, s0, rfl, rfl, n0, n1, q⟩ := drwF_ok q
  cases pr with
  | none => exact pp.elim
  | some qp =>
  obtain rfl : vs = .ref qp.p :: ws := pa
  obtain rfl : ws = [.int n] := by
    cases rl with
    | cons r1 r2 =>
      cases r1
      cases r2
      rfl
  obtain ⟨at0, g1, g2⟩ := pp
  rw [hpk] at at0
  obtain ⟨hp, hc, npc, hlen⟩ := at0
  have fin : ∀ (r : Int) (s' : Pot) (H' : Hp), drw1 n s0 = (r, s') → PKL.at_ H' qp s' → (∀ a o, H a = some o → a ≠ qp.p → a ≠ qp.c → H' a = some o) → Q (.int r) H' := fun r s' H' e a k => by
    rw [e] at q
    refine q _ G H' ⟨Same.refl _, fun a o e n => k a o e (fun z => n ⟨qp, rfl, .inl z⟩) (fun z => n ⟨qp, rfl, .inr z⟩), fun a o e => .inl e, fun a o e => k a o (sm a o e) (fun z => by rw [z, g1] at e; cases e) (fun z => by rw [z, g2] at e; cases e), ?_⟩ (.int r)
    exact ⟨by rw [hpk]; exact a, g1, g2⟩
  refine st_seq ?_
  by_cases hn : n < 2
  · refine st_yes (ans_cmp (val_var rfl) val_c fun Q q => ⟨n, 2, rfl, rfl, ?_⟩) ?_
    · show Q (.bl (decide (n < 2))) H
      rw [decide_eq_true hn]; exact q
    · show Q (.int 0) H
      refine fin 0 s0 H ?_ ⟨hp, hc, npc, hlen⟩ fun a o e _ _ => e
      unfold drw1
      rw [if_pos hn]
  refine st_no (ans_cmp (val_var rfl) val_c fun Q q => ⟨n, 2, rfl, rfl, ?_⟩) ?_
  · show Q (.bl (decide (n < 2))) H
    rw [decide_eq_false hn]; exact q
  have nh : ∀ a, ¬ Pr.has none a := fun a ⟨_, z, _⟩ => (by cases z)
  have nep : ∀ e : Addr, H e = none → qp.p ≠ e ∧ qp.c ≠ e := fun e ne => ⟨fun z => (by rw [z, ne] at hp; cases hp), fun z => (by rw [z, ne] at hc; cases hc)⟩
  refine st_seq ⟨_, rfl, qp.p, _, 0, .ref qp.c, rfl, rfl, SqL.of hp, rfl, Nat.zero_le _, fun e1 ne => ?_⟩
  refine ⟨none, fun _ => none, none, .list (s0.c.map .int), .list [], .bool (!decide (s0.c = [])), fun _ _ z => (by cases z), trivial, .inr ⟨qp.c, _, _, rfl, rfl, nh _, by rw [upd_ne (nep e1 ne).2]; exact hc, RpL.ints s0.c⟩, .inr ⟨e1, [], [], rfl, rfl, nh _, upd_same, .nil⟩, ne_nil s0.c, fun v G' H1 st fs => ?_⟩
  have fs : Rp C.K G' v (.bool (!decide (s0.c = []))) := fs
  cases fs
  have k1 : ∀ a o, H a = some o → H1 a = some o := fun a o e => st.sH a o (by rw [upd_ne (ne_of_none e ne)]; exact e) (nh a)
  have hp1 := k1 _ _ hp
  have hc1 := k1 _ _ hc
  refine ⟨_, rfl, ?_⟩
  cases ec : s0.c.getLast? with
  | some x =>
    have hne : s0.c ≠ [] := fun z => by rw [z] at ec; cases ec
    rw [decide_eq_false hne]
    refine iteT (st_seq ?_)
    refine ⟨_, rfl, qp.p, _, 0, .ref qp.c, rfl, rfl, SqL.of hp1, rfl, ty_lst hc1, qp.c, _, .int x, rfl, rfl, hc1, ?_, ?_⟩
    · rw [List.length_map, List.getElem?_map, ← List.getLast?_eq_getElem?, ec]; rfl
    have ed : (s0.c.map V.int).dropLast = s0.c.dropLast.map V.int := by rw [List.map_dropLast]
    rw [ed]
    have hp2 : (upd H1 qp.c (.lst (s0.c.dropLast.map V.int))) qp.p = some (.lst [.ref qp.c, .int s0.m, .int s0.t]) := by rw [upd_ne npc]; exact hp1
    have hc2 : (upd H1 qp.c (.lst (s0.c.dropLast.map V.int))) qp.c = some (.lst (s0.c.dropLast.map V.int)) := upd_same
    refine st_seq ?_
    have ed1 : ∀ l, x ≥ n ∨ x < n := fun _ => by omega
    by_cases hx : n ≤ x
    · refine st_yes (ans_cmp (val_var rfl) (val_var rfl) fun Q q => ⟨x, n, rfl, rfl, ?a⟩) ?b
      case a =>
        show Q (.bl (decide (n ≤ x))) _
        rw [decide_eq_true hx]; exact q
      refine ⟨_, rfl, qp.p, _, 0, .ref qp.c, rfl, rfl, SqL.of hp2, rfl, ty_lst hc2, _, rfl, _, rfl, x, n, rfl, rfl, lim_log (by omega) n1, qp.c, _, .int (x / n), rfl, rfl, hc2, ?_, ?_⟩
      · have := lim_line
        have h3 : (1000 : Nat) < lim := by decide
        rw [List.length_map, List.length_dropLast]
        omega
      refine ⟨_, rfl, _, rfl, x, n, rfl, rfl, (by omega : (0 : Int) < n), ?_⟩
      refine fin (x % n) { s0 with c := s0.c.dropLast ++ [x / n] } _ ?_ ⟨?_, ?_, npc, ?_⟩ fun a o e a1 a2 => ?_
      · unfold drw1
        rw [if_neg hn, ec]
        simp only [ge_iff_le, if_pos hx]
      · rw [upd_ne npc]; exact hp2
      · rw [upd_same]; simp
      · show (s0.c.dropLast ++ [x / n]).length ≤ 1000
        rw [List.length_append, List.length_dropLast]
        have := List.length_pos_iff.mpr hne
        simp
        omega
      · rw [upd_ne a2, upd_ne a2]; exact k1 a o e
    · refine st_no (ans_cmp (val_var rfl) (val_var rfl) fun Q q => ⟨x, n, rfl, rfl, ?a2⟩) ?b2
      case a2 =>
        show Q (.bl (decide (n ≤ x))) _
        rw [decide_eq_false hx]; exact q
      refine ⟨_, rfl, _, rfl, x, n, rfl, rfl, (by omega : (0 : Int) < n), ?_⟩
      refine fin (x % n) { s0 with c := s0.c.dropLast } _ ?_ ⟨hp2, hc2, npc, by show s0.c.dropLast.length ≤ 1000; rw [List.length_dropLast]; omega⟩ fun a o e a1 a2 => ?_
      · unfold drw1
        rw [if_neg hn, ec]
        simp only [ge_iff_le, if_neg hx, List.append_nil]
      · rw [upd_ne a2]; exact k1 a o e
  | none =>
    have he : s0.c = [] := List.getLast?_eq_none_iff.mp ec
    rw [decide_eq_true he]
    refine iteF ?_
    have at1 : ∀ j : Int, atI [V.ref qp.c, V.int s0.m, V.int s0.t] j = atI [V.ref qp.c, V.int s0.m, V.int s0.t] j := fun _ => rfl
    refine st_seq ⟨_, rfl, qp.p, _, 2, .int s0.t, rfl, rfl, SqL.of hp1, rfl, s0.t, 1, rfl, rfl, _, rfl, qp.p, _, 2, 2, rfl, rfl, hp1, rfl, ?_⟩
    show tSeq _ _ _ _ (upd H1 qp.p (.lst [V.ref qp.c, V.int s0.m, V.int (s0.t + 1)]))
    have hp2 : (upd H1 qp.p (.lst [V.ref qp.c, V.int s0.m, V.int (s0.t + 1)])) qp.p = some (.lst [V.ref qp.c, V.int s0.m, V.int (s0.t + 1)]) := upd_same
    refine st_seq (st_set (v_mod (v_add (v_ix rfl hp2 rfl) (v_mul (v_ix rfl hp2 rfl) (v_c _) (.inr (by decide)))) (v_c _) (by decide)) ?_)
    generalize ea : (s0.m + (s0.t + 1) * 2654435761) % 4294967279 = x1
    have b1 : 0 ≤ x1 ∧ x1 < 4294967279 := by rw [← ea]; exact ⟨Int.emod_nonneg _ (by decide), Int.emod_lt_of_pos _ (by decide)⟩
    refine st_seq (st_set (v_mod (v_add (v_add (v_mul (v_var rfl) (v_var rfl) (.inr ⟨by omega, by omega⟩)) (v_mul (v_ix rfl hp2 rfl) (v_c _) (.inr (by decide)))) (v_c _)) (v_c _) (by decide)) ?_)
    generalize eb : (x1 * x1 + (s0.t + 1) * 40503 + 5) % 4294967231 = x2
    have b2 : 0 ≤ x2 ∧ x2 < 4294967231 := by rw [← eb]; exact ⟨Int.emod_nonneg _ (by decide), Int.emod_lt_of_pos _ (by decide)⟩
    refine st_seq (st_set (v_mod (v_add (v_mul (v_var rfl) (v_var rfl) (.inr ⟨by omega, by omega⟩)) (v_ix rfl hp2 rfl)) (v_c _) (by decide)) ?_)
    generalize ec2 : (x2 * x2 + s0.m) % 4294967291 = x3
    refine st_ret (v_mod (v_fdiv (v_var rfl) (v_c _) ⟨by decide, by decide⟩) (v_var rfl) (by omega)) ?_
    refine fin _ { s0 with t := s0.t + 1 } _ ?_ ⟨hp2, by rw [upd_ne (Ne.symm npc)]; exact hc1, npc, hlen⟩ fun a o e a1 a2 => by rw [upd_ne a1]; exact k1 a o e
    unfold drw1
    rw [if_neg hn, ec]
    simp only [ea, eb, ec2]
/-! ### _law_pot -/
def N_pot : List Str := ["script", "cells", "mixed", "cell"]
theorem sc_pot : FnScope N_pot ["script"] (defScope s__law_pot) := ⟨rfl, rfl, rfl, by decide +kernel, rfl, by decide +kernel, by decide +kernel⟩
structure PotT (mg : Str → Option Value) : Prop where
  len : mg "len" = none
  int : mg "int" = none
  abs : mg "abs" = none
theorem pot_ok {C : Cn} {P : Program} {w : World} {mg : Str → Option Value} {base : Heap} {f : Addr} {fd : FuncData} (hpk : C.pk = PKL) (Fu : Fun C.K "_law_pot" "_law_pot" s__law_pot f fd) (T : PotT mg) : FnG C P w mg base 2 f fd ["script"] (spPot C pot1) := by
  obtain ⟨oc, od, kV, doc, pm, an, cdv, ct, osl, rfl, lk, hcd⟩ := Fu.ex
  refine fnG_of lk hcd sc_pot (fun vs H Q E h => by obtain ⟨a, ns, rfl, _⟩ := h; rfl) (fun A outer s H vs Q E hr gd h => ?_)
  obtain ⟨a, ns, rfl, hS, hlen, q⟩ := h
  refine ⟨_, pss_cons (ps_par (i := 1) (j := 2) rfl sc_pot.nd rfl rfl (by decide) rfl rfl
      (pa_cons (pe_lc (own := [("cell", 3)]) rfl sc_pot.nd (pi_list (pe_slice sl_list (pv 0) po_none (po_some pe_int))) (blkOk_by (by show blkC N_pot (defScope s__law_pot) _ _ = true; decide +kernel)) (fun _ _ _ _ _ => pg_name (i := 3) sc_pot.nd rfl (Or.inl rfl) (Or.inr rfl)) (fun _ _ _ _ _ => pts_nil)
        (fun _ _ _ _ _ => pe_op op_add (pe_op op_mul pe_int (pe_callB call_abs rfl T.abs (by decide +kernel) (pa_cons (pv 3) pa_nil))) (pe_callTy call_int1 rfl T.int (by decide +kernel) (pa_cons (pe_cmpR op_lt (pv 3) pe_int (nomark _)) pa_nil))))
      (pa_cons (pe_op op_add pe_int (pe_op op_mul pe_int (pe_callB call_len_seq rfl T.len (by decide +kernel) (pa_cons (pv 0) pa_nil)))) pa_nil)) (swP_ok rfl (by show swP (defScope s__law_pot) _ _ = _; decide +kernel)))
    (pss_cons (ps_for (passes_of rfl) rfl (pi_list (pv 1)) (pg_name (i := 3) sc_pot.nd rfl (Or.inl rfl))
      (pss_one (ps_asg (pe_op op_mod (pe_op op_add (pe_op op_add (pe_op op_mul (pv 2) pe_int) (pv 3)) pe_int) pe_int) (pg_name (i := 2) sc_pot.nd rfl (Or.inl rfl)))))
    (pss_one (ps_ret (pe_lst (pa_cons (pe_lc (own := [("cell", 3)]) rfl sc_pot.nd (pi_list (pv 1)) (blkOk_by (by show blkC N_pot (defScope s__law_pot) _ _ = true; decide +kernel)) (fun _ _ _ _ _ => pg_name (i := 3) sc_pot.nd rfl (Or.inl rfl) (Or.inr rfl)) (fun _ _ _ _ _ => pts_one (pt_cmpR op_gt (pv 3) (pe_op op_pow pe_int pe_int) (nomark _))) (fun _ _ _ _ _ => pv 3))
      (pa_cons (pv 2) (pa_cons pe_int pa_nil))))))), ?_⟩
  have hx : (ns.map V.int).length ≤ 63 := by rw [List.length_map]; exact hlen
  generalize ecs : (ns.take 63).map Mi.cellOf = cs
  have el : cs.length ≤ 63 := by rw [← ecs]; simp; omega
  have e63 : cutV (ns.map V.int) none (some 63) = (ns.take 63).map V.int := by
    have := take_cut (ns.map V.int) 63 hx (by decide)
    rw [List.map_take]; exact this
  -- cells
  refine st_seq ⟨_, rfl, 63, rfl, a, _, rfl, hS, fun e1 n1 => ⟨e1, rfl, ⟨_, SqL.of upd_same⟩, fun c0 nc0 => ?_⟩⟩
  rw [e63] at nc0 ⊢
  generalize eH1 : upd H e1 (.lst ((ns.take 63).map V.int)) = H1 at nc0
  have h1e : H1 e1 = some (.lst ((ns.take 63).map V.int)) := by rw [← eH1]; exact upd_same
  have k1 : ∀ b o, H b = some o → H1 b = some o := fun b o e => by rw [← eH1, upd_ne (ne_of_none e n1)]; exact e
  have ne1 : e1 ≠ c0 := fun z => by rw [← z, h1e] at nc0; cases nc0
  refine lc_list (K := C.K) (a := e1) (xs := (ns.take 63).map V.int) (fun i H' => H' = upd H1 c0 (.lst ((cs.take i).map V.int))) (by rw [List.take_zero]; rfl) (fun i H' _ e => ?_) (fun i x H' hi e => ?_) (fun H' e => ?_)
  · subst e
    exact SqL.of (by rw [upd_ne ne1]; exact h1e)
  · subst e
    rw [List.getElem?_map] at hi
    obtain ⟨y, hy, rfl⟩ := Option.map_eq_some_iff.mp hi
    have hcy : cs[i]? = some (Mi.cellOf y) := by rw [← ecs, List.getElem?_map, hy]; rfl
    have hil : i < cs.length := (List.getElem?_eq_some_iff.mp hcy).1
    refine ⟨rfl, ?_⟩
    unfold tYes
    dsimp only
    rw [if_pos rfl]
    refine (v_add (v_mul (v_c 2) (val_cb (z := .int (if y < 0 then -y else y)) (v_var rfl) fun Q q => ⟨y, rfl, q⟩) (.inl (by decide))) (val_cb (z := .int (if y < 0 then 1 else 0)) (v_lt (v_var (i := y) rfl) (v_c 0)) fun Q q => .inr ⟨_, rfl, ?a⟩)) _ ?b
    case a =>
      by_cases hy0 : y < 0
      · rw [decide_eq_true hy0]; rw [if_pos hy0] at q; exact q
      · rw [decide_eq_false hy0]; rw [if_neg hy0] at q; exact q
    refine ⟨(cs.take i).map V.int, upd_same, by rw [List.length_map, List.length_take]; have := lim_line; have h3 : (1000 : Nat) < lim := by decide
                                                omega, ?_⟩
    rw [upd_upd, List.take_add_one, hcy]
    simp only [Option.toList, List.map_append, List.map_cons, List.map_nil]
    rfl
  subst e
  rw [show ((ns.take 63).map V.int).length = cs.length by rw [← ecs, List.length_map, List.length_map], List.take_length]
  generalize eH2 : upd H1 c0 (.lst (cs.map V.int)) = H2
  have h2c : H2 c0 = some (.lst (cs.map V.int)) := by rw [← eH2]; exact upd_same
  have k2 : ∀ b o, H b = some o → H2 b = some o := fun b o e => by rw [← eH2, upd_ne (ne_of_none (k1 b o e) nc0)]; exact k1 b o e
  have hS2 : SqL C.K H2 a (ns.map V.int) := Same.seq (fun b o e => k2 b o e) hS
  -- mixed
  refine (v_add (v_c 19591) (v_mul (v_c 71) (val_cb (z := .int (ns.length : Nat)) (val_var rfl) fun Q q => ⟨a, _, rfl, .inl hS2, by rw [List.length_map]; exact q⟩) (.inl (by decide)))) _ ?_
  refine ⟨_, _, rfl, ?_⟩
  -- the loop
  refine st_seq ⟨_, rfl, c0, rfl, ⟨_, SqL.of h2c⟩, ?_⟩
  refine for_list (K := C.K) (a := c0) (xs := cs.map V.int) (fun i σ H' => H' = H2 ∧ ∃ v3, σ = [some (.ref a), some (.ref c0), some (.int ((cs.take i).foldl (fun (m c : Int) => (m * 69069 + c + 11) % 4294967291) (19591 + 71 * (ns.length : Nat)))), v3]) ⟨rfl, none, rfl⟩ (fun i σ H' _ e => ?_) (fun i x σ H' hi e => ?_) (fun σ H' e => ?_)
  · obtain ⟨rfl, _⟩ := e
    exact SqL.of h2c
  · obtain ⟨rfl, v3, rfl⟩ := e
    rw [List.getElem?_map] at hi
    obtain ⟨y, hy, rfl⟩ := Option.map_eq_some_iff.mp hi
    refine st_set (v_mod (v_add (v_add (v_mul (v_var rfl) (v_c _) (.inr (by decide))) (v_var rfl)) (v_c _)) (v_c _) (by decide)) ?_
    refine ⟨rfl, some (.int y), ?_⟩
    rw [List.take_add_one, hy, List.foldl_append]
    rfl
  obtain ⟨e2, v3, rfl⟩ := e
  rw [e2, List.length_map, List.take_length]
  generalize em : cs.foldl (fun (m c : Int) => (m * 69069 + c + 11) % 4294967291) (19591 + 71 * (ns.length : Nat)) = mx
  -- the great ones
  refine ⟨_, rfl, c0, rfl, ⟨_, SqL.of h2c⟩, fun c1 nc1 => ?_⟩
  have ne2 : c0 ≠ c1 := fun z => by rw [← z, h2c] at nc1; cases nc1
  refine lc_list (K := C.K) (a := c0) (xs := cs.map V.int) (fun i H' => H' = upd H2 c1 (.lst (((cs.take i).filter fun c => decide (c > 1000000000000)).map V.int))) (by rw [List.take_zero]; rfl) (fun i H' _ e => ?_) (fun i x H' hi e => ?_) (fun H' e => ?_)
  · subst e
    exact SqL.of (by rw [upd_ne ne2]; exact h2c)
  · subst e
    rw [List.getElem?_map] at hi
    obtain ⟨y, hy, rfl⟩ := Option.map_eq_some_iff.mp hi
    have hil : i < cs.length := (List.getElem?_eq_some_iff.mp hy).1
    refine ⟨rfl, _, rfl, 10, 12, rfl, rfl, ⟨by decide, by decide, by decide⟩, y, _, rfl, rfl, _, rfl, ?_⟩
    have e12 : (10 : Int) ^ (12 : Int).toNat = 1000000000000 := by decide
    rw [e12]
    have hlt : ∀ l : List Int, l.length ≤ 63 → (l.map V.int).length < sizeLine := fun l h => by
      have := lim_line
      have h3 : (1000 : Nat) < lim := by decide
      rw [List.length_map]; omega
    by_cases hb : 1000000000000 < y
    · rw [decide_eq_true hb]
      refine iteT ?_
      refine ⟨_, rfl, _, upd_same, hlt _ ?_, ?_⟩
      · have := List.length_filter_le (fun c : Int => decide (c > 1000000000000)) (cs.take i)
        rw [List.length_take] at this
        omega
      · rw [upd_upd, List.take_add_one, hy]
        simp [hb]
    · rw [decide_eq_false hb]
      refine iteF ?_
      rw [List.take_add_one, hy]
      simp [hb]
  subst e
  rw [List.length_map, List.take_length]
  generalize eg : cs.filter (fun c => decide (c > 1000000000000)) = gs
  have gl : gs.length ≤ 63 := by
    have := List.length_filter_le (fun c : Int => decide (c > 1000000000000)) cs
    rw [eg] at this
    omega
  refine ⟨_, rfl, by show 3 ≤ sizeLine; decide, fun p np => ?_⟩
  have nec : p ≠ c1 := fun z => by rw [z, upd_same] at np; cases np
  have n2 : H2 p = none := by rw [upd_ne nec] at np; exact np
  have old : ∀ b, H2 b = none → H b = none := fun b e => by
    cases eb : H b with
    | none => rfl
    | some o => rw [k2 b o eb] at e; cases e
  refine q ⟨p, c1⟩ _ (old p n2) (old c1 nc1) ?_ fun b o e => ?_
  · rw [hpk]
    have ep : pot1 ns = ⟨gs, mx, 0⟩ := by
      unfold pot1
      simp only [ecs, eg, em]
    rw [ep]
    exact ⟨upd_same, by rw [upd_ne (Ne.symm nec), upd_same], nec, by show gs.length ≤ 1000; omega⟩
  · have e2 := k2 b o e
    rw [upd_ne (ne_of_none e2 n2), upd_ne (ne_of_none e2 nc1)]
    exact e2

/-! ### meanings -/
end Law
namespace Mi
/- three_square : 0=e 1=a 2=b -/
def ir_three_square : Sms := (SS [
  .ret (.tup (ES [(.tup (ES [(.bin .sub (.var 0) (.var 1)), (.bin .add (.bin .add (.var 0) (.var 1)) (.var 2)), (.bin .sub (.var 0) (.var 2))])), (.tup (ES [(.bin .sub (.bin .add (.var 0) (.var 1)) (.var 2)), (.var 0), (.bin .add (.bin .sub (.var 0) (.var 1)) (.var 2))])), (.tup (ES [(.bin .add (.var 0) (.var 2)), (.bin .sub (.bin .sub (.var 0) (.var 1)) (.var 2)), (.bin .add (.var 0) (.var 1))]))]))])
def m_three_square : Fn := fn [] 3 ir_three_square

/- three_parts : 0=square 1=e -/
def ir_three_parts : Sms := (SS [
  .set 1 (.idx (.idx (.var 0) (.c (.int 1))) (.c (.int 1))),
  .ret (.tup (ES [(.var 1), (.bin .sub (.var 1) (.idx (.idx (.var 0) (.c (.int 0))) (.c (.int 0)))), (.bin .sub (.var 1) (.idx (.idx (.var 0) (.c (.int 0))) (.c (.int 2))))]))])
def m_three_parts : Fn := fn [] 2 ir_three_parts

/- three_number : 0=s 1=e -/
def ir_three_number : Sms := (SS [
  .iff (.cmp .ne (.bin .mod (.var 0) (.c (.int 3))) (.c (.int 0))) (SS [
    .ret (.c (.int 0))]) (SS []),
  .set 1 (.bin .fdiv (.var 0) (.c (.int 3))),
  .ret (.bin .add (.bin .add (.bin .mul (.bin .mul (.c (.int 2)) (.var 1)) (.var 1)) (.bin .mul (.c (.int 2)) (.var 1))) (.c (.int 1)))])
def m_three_number : Fn := fn [] 2 ir_three_number

/- three_unlike : 0=s 1=e -/
def ir_three_unlike : Sms := (SS [
  .iff (.or (.cmp .ne (.bin .mod (.var 0) (.c (.int 3))) (.c (.int 0))) (.cmp .eq (.var 0) (.c (.int 0)))) (SS [
    .ret (.c (.int 0))]) (SS []),
  .set 1 (.bin .fdiv (.var 0) (.c (.int 3))),
  .ret (.bin .mul (.c (.int 8)) (.bin .sub (.bin .fdiv (.bin .mul (.bin .sub (.var 1) (.c (.int 1))) (.bin .sub (.var 1) (.c (.int 1)))) (.c (.int 4))) (.bin .fdiv (.var 1) (.c (.int 3)))))])
def m_three_unlike : Fn := fn [] 2 ir_three_unlike

/- threes_listed : 0=s 1=e 2=found 3=a 4=left 5=b -/
def ir_threes_listed : Sms := (SS [
  .iff (.cmp .ne (.bin .mod (.var 0) (.c (.int 3))) (.c (.int 0))) (SS [
    .ret (.tup (ES []))]) (SS []),
  .par [(1, false), (2, true)] (ES [(.bin .fdiv (.var 0) (.c (.int 3))), (.lst (ES []))]),
  .forr (.nm 3) (.rng2 (.neg (.var 1)) (.bin .add (.var 1) (.c (.int 1)))) (SS [
    .set 4 (.bin .sub (.var 1) (.fn1 .abs (.var 3))),
    .ext 2 (.comp [5] (.nm 5) (.rng2 (.neg (.var 4)) (.bin .add (.var 4) (.c (.int 1)))) .non (.cal 0 (ES [(.var 1), (.var 3), (.var 5)])))]) [3, 4],
  .ret (.fn1 .tuple (.fn1 .sorted (.bor 2)))])
def m_threes_listed : Fn := fn [m_three_square] 6 ir_threes_listed

/- line_sums : 0=square 1=n 2=places 3=rows 4=row 5=columns 6=j 7=fall 8=rise 9=i -/
def ir_line_sums : Sms := (SS [
  .par [(1, false), (2, false)] (ES [(.fn1 .len (.var 0)), (.lstR false (.rng1 (.fn1 .len (.var 0))))]),
  .set 3 (.fn1 .tuple (.comp [4] (.nm 4) (.ex (.var 0)) .non (.fn1 .sum (.var 4)))),
  .set 5 (.fn1 .tuple (.comp [6] (.nm 6) (.ex (.var 2)) .non (.fn1 .sum (.comp [4] (.nm 4) (.ex (.var 0)) .non (.idx (.var 4) (.var 6)))))),
  .par [(7, false), (8, false)] (ES [(.fn1 .sum (.comp [9] (.nm 9) (.ex (.var 2)) .non (.idx (.idx (.var 0) (.var 9)) (.var 9)))), (.fn1 .sum (.comp [9] (.nm 9) (.ex (.var 2)) .non (.idx (.idx (.var 0) (.var 9)) (.bin .sub (.bin .sub (.var 1) (.c (.int 1))) (.var 9)))))]),
  .ret (.tup (ES [(.var 3), (.var 5), (.tup (ES [(.var 7), (.var 8)]))]))])
def m_line_sums : Fn := fn [] 10 ir_line_sums

/- broken_sums : 0=square 1=n 2=places 3=falls 4=i 5=k 6=rises -/
def ir_broken_sums : Sms := (SS [
  .par [(1, false), (2, false)] (ES [(.fn1 .len (.var 0)), (.lstR false (.rng1 (.fn1 .len (.var 0))))]),
  .set 3 (.fn1 .tuple (.comp [5] (.nm 5) (.ex (.var 2)) .non (.fn1 .sum (.comp [4] (.nm 4) (.ex (.var 2)) .non (.idx (.idx (.var 0) (.var 4)) (.bin .mod (.bin .add (.var 4) (.var 5)) (.var 1))))))),
  .set 6 (.fn1 .tuple (.comp [5] (.nm 5) (.ex (.var 2)) .non (.fn1 .sum (.comp [4] (.nm 4) (.ex (.var 2)) .non (.idx (.idx (.var 0) (.var 4)) (.bin .mod (.bin .sub (.var 5) (.var 4)) (.var 1))))))),
  .ret (.tup (ES [(.var 3), (.var 6)]))])
def m_broken_sums : Fn := fn [] 7 ir_broken_sums

/- is_even_square : 0=square 1=rows 2=columns 3=slants -/
def ir_is_even_square : Sms := (SS [
  .unp (TS [(.nm 1), (.nm 2), (.nm 3)]) (.cal 0 (ES [(.var 0)])),
  .ret (.cmp .eq (.fn1 .lenset (.bin .add (.bin .add (.var 1) (.var 2)) (.var 3))) (.c (.int 1)))])
def m_is_even_square : Fn := fn [m_line_sums] 4 ir_is_even_square

/- is_broken_even : 0=square 1=rows 2=columns 3=slants 4=falls 5=rises -/
def ir_is_broken_even : Sms := (SS [
  .unp (TS [(.nm 1), (.nm 2), (.nm 3)]) (.cal 0 (ES [(.var 0)])),
  .unp (TS [(.nm 4), (.nm 5)]) (.cal 1 (ES [(.var 0)])),
  .ret (.cmp .eq (.fn1 .lenset (.bin .add (.bin .add (.bin .add (.bin .add (.var 1) (.var 2)) (.var 3)) (.var 4)) (.var 5))) (.c (.int 1)))])
def m_is_broken_even : Fn := fn [m_line_sums, m_broken_sums] 6 ir_is_broken_even

/- _law_one : 0=pot 1=items -/
def ir__law_one : Sms := (SS [
  .ret (.idx (.var 1) (.calP 0 0 (ES [(.fn1 .len (.var 1))])))])
def m__law_one : Fn := fnP [m__law_of] 2 ir__law_one

/- _law_lines : 0=n 1=rows 2=j 3=i 4=columns -/
def ir__law_lines : Sms := (SS [
  .set 1 (.comp [3] (.nm 3) (.rng1 (.var 0)) .non (.comp [2] (.nm 2) (.rng1 (.var 0)) .non (.tup (ES [(.var 3), (.var 2)])))),
  .set 4 (.comp [2] (.nm 2) (.rng1 (.var 0)) .non (.comp [3] (.nm 3) (.rng1 (.var 0)) .non (.tup (ES [(.var 3), (.var 2)])))),
  .ret (.bin .add (.bin .add (.var 1) (.var 4)) (.lst (ES [(.comp [3] (.nm 3) (.rng1 (.var 0)) .non (.tup (ES [(.var 3), (.var 3)]))), (.comp [3] (.nm 3) (.rng1 (.var 0)) .non (.tup (ES [(.var 3), (.bin .sub (.bin .sub (.var 0) (.c (.int 1))) (.var 3))])))])))])
def m__law_lines : Fn := fn [] 5 ir__law_lines

/- _law_line_sums : 0=square 1=i 2=j 3=line -/
def ir__law_line_sums : Sms := (SS [
  .ret (.comp [3] (.nm 3) (.ex (.cal 0 (ES [(.fn1 .len (.var 0))]))) .non (.fn1 .sum (.comp [1, 2] (.tp (TS [(.nm 1), (.nm 2)])) (.ex (.var 3)) .non (.idx (.idx (.var 0) (.var 1)) (.var 2)))))])
def m__law_line_sums : Fn := fn [m__law_lines] 4 ir__law_line_sums

/- _law_turned : 0=square 1=k 2=n 3=found 4=j 5=i 6=turn -/
def ir__law_turned : Sms := (SS [
  .set 2 (.fn1 .len (.var 0)),
  .set 3 (.var 0),
  .iff (.cmp .gt (.var 1) (.c (.int 3))) (SS [
    .set 3 (.fn1 .tuple (.comp [5] (.nm 5) (.rng1 (.var 2)) .non (.fn1 .tuple (.comp [4] (.nm 4) (.rng1 (.var 2)) .non (.idx (.idx (.var 0) (.var 4)) (.var 5))))))]) (SS []),
  .forr (.nm 6) (.rng1 (.bin .mod (.fn1 .int (.var 1)) (.c (.int 4)))) (SS [
    .set 3 (.fn1 .tuple (.comp [5] (.nm 5) (.rng1 (.var 2)) .non (.fn1 .tuple (.comp [4] (.nm 4) (.rng1 (.var 2)) .non (.idx (.idx (.var 3) (.bin .sub (.bin .sub (.var 2) (.c (.int 1))) (.var 4))) (.var 5))))))]) [6],
  .ret (.var 3)])
def m__law_turned : Fn := fn [] 7 ir__law_turned

/- _law_three : 0=e 1=a 2=b -/
def ir__law_three : Sms := (SS [
  .ret (.tup (ES [(.tup (ES [(.bin .sub (.var 0) (.var 1)), (.bin .add (.bin .add (.var 0) (.var 1)) (.var 2)), (.bin .sub (.var 0) (.var 2))])), (.tup (ES [(.bin .sub (.bin .add (.var 0) (.var 1)) (.var 2)), (.var 0), (.bin .add (.bin .sub (.var 0) (.var 1)) (.var 2))])), (.tup (ES [(.bin .add (.var 0) (.var 2)), (.bin .sub (.bin .sub (.var 0) (.var 1)) (.var 2)), (.bin .add (.var 0) (.var 1))]))]))])
def m__law_three : Fn := fn [] 3 ir__law_three

/- _law_number : 0=s 1=e 2=unlike -/
def ir__law_number : Sms := (SS [
  .set 1 (.bin .fdiv (.var 0) (.c (.int 3))),
  .iff (.cmp .ne (.bin .mod (.var 0) (.c (.int 3))) (.c (.int 0))) (SS [
    .ret (.tup (ES [(.c (.int 0)), (.c (.int 0))]))]) (SS []),
  .set 2 (.ife (.cmp .gt (.var 1) (.c (.int 0))) (.bin .mul (.c (.int 8)) (.bin .sub (.bin .fdiv (.bin .mul (.bin .sub (.var 1) (.c (.int 1))) (.bin .sub (.var 1) (.c (.int 1)))) (.c (.int 4))) (.bin .fdiv (.var 1) (.c (.int 3))))) (.c (.int 0))),
  .ret (.tup (ES [(.bin .add (.bin .add (.bin .mul (.bin .mul (.c (.int 2)) (.var 1)) (.var 1)) (.bin .mul (.c (.int 2)) (.var 1))) (.c (.int 1))), (.var 2)]))])
def m__law_number : Fn := fn [] 3 ir__law_number

/- law : 0=script 1=pot 2=turn 3=top 4=great 5=e 6=a 7=b 8=again 9=square 10=turned 11=kept 12=parts 13=told 14=s 15=dues 16=found 17=due 18=unlike 19=own -/
def ir_law : Sms := (SS [
  .forr (.nm 2) (.rng1 (.c (.int 3))) (SS [
    .set 3 (.calP 0 1 (ES [(.lst (ES [(.c (.int 5)), (.c (.int 1000)), (.bin .mul (.c (.int 3)) (.bin .pow (.c (.int 10)) (.c (.int 8))))]))])),
    .set 4 (.ife (.cmp .gt (.var 3) (.c (.int 1000))) (.calP 0 1 (ES [(.lst (ES [(.c (.int 1)), (.c (.int 1)), (.bin .pow (.c (.int 10)) (.c (.int 21)))]))])) (.c (.int 1))),
    .unp (TS [(.nm 5), (.nm 6), (.nm 7)]) (.comp [8] (.nm 8) (.rng1 (.c (.int 3))) .non (.bin .mul (.var 4) (.bin .sub (.calP 1 1 (ES [(.bin .add (.bin .mul (.c (.int 2)) (.var 3)) (.c (.int 1)))])) (.var 3)))),
    .set 9 (.cal 2 (ES [(.var 5), (.var 6), (.var 7)])),
    .iff (.cmp .ne (.fn1 .repr (.lst (ES [(.cal 3 (ES [(.var 5), (.var 6), (.var 7)])), (.calK 3 (ES [(.var 7), (.var 6), (.var 5)]) [2, 1, 0])]))) (.fn1 .repr (.lst (ES [(.var 9), (.var 9)])))) (SS [
    .ret (.c (.bool false))]) (SS []),
    .iff (.or (.cmp .ne (.cal 4 (ES [(.var 9)])) (.bin .mul (.lst (ES [(.bin .mul (.c (.int 3)) (.var 5))])) (.c (.int 8)))) (.cmp .isnt (.cal 5 (ES [(.var 9)])) (.c (.bool true)))) (SS [
    .ret (.c (.bool false))]) (SS []),
    .set 10 (.cal 6 (ES [(.var 9), (.calP 1 1 (ES [(.c (.int 8))]))])),
    .set 11 (.fn1 .repr (.lst (ES [(.var 9), (.var 10)]))),
    .set 12 (.tup (ES [(.idx (.idx (.var 10) (.c (.int 1))) (.c (.int 1))), (.bin .sub (.idx (.idx (.var 10) (.c (.int 1))) (.c (.int 1))) (.idx (.idx (.var 10) (.c (.int 0))) (.c (.int 0)))), (.bin .sub (.idx (.idx (.var 10) (.c (.int 1))) (.c (.int 1))) (.idx (.idx (.var 10) (.c (.int 0))) (.c (.int 2))))])),
    .set 13 (.lst (ES [(.cal 7 (ES [(.var 9)])), (.cal 7 (ES [(.var 10)])), (.calK 7 (ES [(.var 10)]) [0])])),
    .iff (.or (.cmp .ne (.fn1 .repr (.var 13)) (.fn1 .repr (.lst (ES [(.tup (ES [(.var 5), (.var 6), (.var 7)])), (.var 12), (.var 12)])))) (.cmp .ne (.cal 2 (ES [(.idx (.var 12) (.c (.int 0))), (.idx (.var 12) (.c (.int 1))), (.idx (.var 12) (.c (.int 2)))])) (.var 10))) (SS [
    .ret (.c (.bool false))]) (SS []),
    .iff (.or (.cmp .ne (.fn1 .repr (.cal 8 (ES [(.var 10)]))) (.fn1 .repr (.and (.cmp .eq (.var 6) (.c (.int 0))) (.cmp .eq (.var 7) (.c (.int 0)))))) (.cmp .ne (.fn1 .repr (.lst (ES [(.var 9), (.var 10)]))) (.var 11))) (SS [
    .ret (.c (.bool false))]) (SS []),
    .set 14 (.bin .mul (.calP 1 1 (ES [(.calP 0 1 (ES [(.lst (ES [(.c (.int 50)), (.bin .pow (.c (.int 10)) (.c (.int 6))), (.bin .pow (.c (.int 10)) (.c (.int 9)))]))]))])) (.calP 0 1 (ES [(.lst (ES [(.c (.int 1)), (.c (.int 3)), (.bin .mul (.c (.int 3)) (.bin .pow (.c (.int 10)) (.c (.int 20))))]))]))),
    .set 15 (.fn1 .list (.cal 9 (ES [(.var 14)]))),
    .set 13 (.lst (ES [(.cal 10 (ES [(.var 14)])), (.cal 11 (ES [(.var 14)])), (.calK 10 (ES [(.var 14)]) [0]), (.calK 11 (ES [(.var 14)]) [0])])),
    .iff (.or (.cmp .ne (.fn1 .repr (.var 13)) (.fn1 .repr (.bin .add (.var 15) (.var 15)))) (.cmp .ne (.bin .mod (.idx (.var 15) (.c (.int 1))) (.c (.int 8))) (.c (.int 0)))) (SS [
    .ret (.c (.bool false))]) (SS [])]) [2, 3, 4, 5, 6, 9, 10, 11, 12, 13, 14, 15],
  .set 14 (.ife (.cmp .eq (.calP 1 1 (ES [(.c (.int 3))])) (.c (.int 0))) (.calP 1 1 (ES [(.c (.int 46))])) (.calP 1 1 (ES [(.c (.int 28))]))),
  .own 16 (.lst (ES [])),
  .iff (.cmp .eq (.bin .mod (.var 14) (.c (.int 3))) (.c (.int 0))) (SS [
    .set 5 (.bin .fdiv (.var 14) (.c (.int 3))),
    .forr (.nm 6) (.rng2 (.neg (.var 5)) (.bin .add (.var 5) (.c (.int 1)))) (SS [
    .ext 16 (.comp [7] (.nm 7) (.rng2 (.bin .sub (.fn1 .abs (.var 6)) (.var 5)) (.bin .add (.bin .sub (.var 5) (.fn1 .abs (.var 6))) (.c (.int 1)))) .non (.cal 2 (ES [(.var 5), (.var 6), (.var 7)])))]) [6]]) (SS []),
  .set 17 (.fn1 .tuple (.fn1 .sorted (.bor 16))),
  .iff (.or (.cmp .ne (.fn1 .repr (.lst (ES [(.cal 12 (ES [(.var 14)])), (.calK 12 (ES [(.var 14)]) [0])]))) (.fn1 .repr (.lst (ES [(.var 17), (.var 17)])))) (.cmp .ne (.cal 10 (ES [(.var 14)])) (.fn1 .len (.var 17)))) (SS [
    .ret (.c (.bool false))]) (SS []),
  .set 18 (.comp [19] (.nm 19) (.ex (.var 17)) (.som (.cmp .eq (.fn1 .lenset (.bin .add (.bin .add (.idx (.var 19) (.c (.int 0))) (.idx (.var 19) (.c (.int 1)))) (.idx (.var 19) (.c (.int 2))))) (.c (.int 9)))) (.var 19)),
  .ret (.cmp .eq (.cal 11 (ES [(.var 14)])) (.fn1 .len (.var 18)))])
def F_law : List Fn := [m__law_one, m__law_of, m__law_three, m_three_square, m__law_line_sums, m_is_even_square, m__law_turned, m_three_parts, m_is_broken_even, m__law_number, m_three_number, m_three_unlike, m_threes_listed]
def m_law : List Int → R D := fnLaw pot1 F_law 20 ir_law

end Mi
namespace Law
open PySem L2 Mi
def bl : List Str := ["range", "tuple", "len", "sorted", "list", "sum", "repr", "abs", "set", "int"]
def con : List (Str × Int) := []
def c__law_of : FnS := ⟨"_law_of", ["pot", "many"], true, []⟩
def c_three_square : FnS := ⟨"three_square", ["e", "a", "b"], false, [(["b", "a", "e"], [2, 1, 0])]⟩
def N_three_square : List Str := ["e", "a", "b"]
def T_three_square : Tb := ⟨[], con, bl⟩
theorem sc_three_square : FnScope N_three_square ["e", "a", "b"] (defScope s_three_square) := ⟨rfl, rfl, rfl, by decide +kernel, rfl, by decide +kernel, by decide +kernel⟩
theorem k_three_square : chSs T_three_square ir_three_square ⟨N_three_square, defScope s_three_square, none⟩ (defBody s_three_square) = true := by decide +kernel
def c_three_parts : FnS := ⟨"three_parts", ["square"], false, [(["square"], [0])]⟩
def N_three_parts : List Str := ["square", "e"]
def T_three_parts : Tb := ⟨[], con, bl⟩
theorem sc_three_parts : FnScope N_three_parts ["square"] (defScope s_three_parts) := ⟨rfl, rfl, rfl, by decide +kernel, rfl, by decide +kernel, by decide +kernel⟩
theorem k_three_parts : chSs T_three_parts ir_three_parts ⟨N_three_parts, defScope s_three_parts, none⟩ (defBody s_three_parts) = true := by decide +kernel
def c_three_number : FnS := ⟨"three_number", ["s"], false, [(["s"], [0])]⟩
def N_three_number : List Str := ["s", "e"]
def T_three_number : Tb := ⟨[], con, bl⟩
theorem sc_three_number : FnScope N_three_number ["s"] (defScope s_three_number) := ⟨rfl, rfl, rfl, by decide +kernel, rfl, by decide +kernel, by decide +kernel⟩
theorem k_three_number : chSs T_three_number ir_three_number ⟨N_three_number, defScope s_three_number, none⟩ (defBody s_three_number) = true := by decide +kernel
def c_three_unlike : FnS := ⟨"three_unlike", ["s"], false, [(["s"], [0])]⟩
def N_three_unlike : List Str := ["s", "e"]
def T_three_unlike : Tb := ⟨[], con, bl⟩
theorem sc_three_unlike : FnScope N_three_unlike ["s"] (defScope s_three_unlike) := ⟨rfl, rfl, rfl, by decide +kernel, rfl, by decide +kernel, by decide +kernel⟩
theorem k_three_unlike : chSs T_three_unlike ir_three_unlike ⟨N_three_unlike, defScope s_three_unlike, none⟩ (defBody s_three_unlike) = true := by decide +kernel
def c_threes_listed : FnS := ⟨"threes_listed", ["s"], false, [(["s"], [0])]⟩
def N_threes_listed : List Str := ["s", "e", "found", "a", "left", "b"]
def T_threes_listed : Tb := ⟨[c_three_square], con, bl⟩
theorem sc_threes_listed : FnScope N_threes_listed ["s"] (defScope s_threes_listed) := ⟨rfl, rfl, rfl, by decide +kernel, rfl, by decide +kernel, by decide +kernel⟩
theorem k_threes_listed : chSs T_threes_listed ir_threes_listed ⟨N_threes_listed, defScope s_threes_listed, none⟩ (defBody s_threes_listed) = true := by decide +kernel
def c_line_sums : FnS := ⟨"line_sums", ["square"], false, []⟩
def N_line_sums : List Str := ["square", "n", "places", "rows", "row", "columns", "j", "fall", "rise", "i"]
def T_line_sums : Tb := ⟨[], con, bl⟩
theorem sc_line_sums : FnScope N_line_sums ["square"] (defScope s_line_sums) := ⟨rfl, rfl, rfl, by decide +kernel, rfl, by decide +kernel, by decide +kernel⟩
theorem k_line_sums : chSs T_line_sums ir_line_sums ⟨N_line_sums, defScope s_line_sums, none⟩ (defBody s_line_sums) = true := by decide +kernel
def c_broken_sums : FnS := ⟨"broken_sums", ["square"], false, []⟩
def N_broken_sums : List Str := ["square", "n", "places", "falls", "i", "k", "rises"]
def T_broken_sums : Tb := ⟨[], con, bl⟩
theorem sc_broken_sums : FnScope N_broken_sums ["square"] (defScope s_broken_sums) := ⟨rfl, rfl, rfl, by decide +kernel, rfl, by decide +kernel, by decide +kernel⟩
theorem k_broken_sums : chSs T_broken_sums ir_broken_sums ⟨N_broken_sums, defScope s_broken_sums, none⟩ (defBody s_broken_sums) = true := by decide +kernel
def c_is_even_square : FnS := ⟨"is_even_square", ["square"], false, []⟩
def N_is_even_square : List Str := ["square", "rows", "columns", "slants"]
def T_is_even_square : Tb := ⟨[c_line_sums], con, bl⟩
theorem sc_is_even_square : FnScope N_is_even_square ["square"] (defScope s_is_even_square) := ⟨rfl, rfl, rfl, by decide +kernel, rfl, by decide +kernel, by decide +kernel⟩
theorem k_is_even_square : chSs T_is_even_square ir_is_even_square ⟨N_is_even_square, defScope s_is_even_square, none⟩ (defBody s_is_even_square) = true := by decide +kernel
def c_is_broken_even : FnS := ⟨"is_broken_even", ["square"], false, []⟩
def N_is_broken_even : List Str := ["square", "rows", "columns", "slants", "falls", "rises"]
def T_is_broken_even : Tb := ⟨[c_line_sums, c_broken_sums], con, bl⟩
theorem sc_is_broken_even : FnScope N_is_broken_even ["square"] (defScope s_is_broken_even) := ⟨rfl, rfl, rfl, by decide +kernel, rfl, by decide +kernel, by decide +kernel⟩
theorem k_is_broken_even : chSs T_is_broken_even ir_is_broken_even ⟨N_is_broken_even, defScope s_is_broken_even, none⟩ (defBody s_is_broken_even) = true := by decide +kernel
def c__law_one : FnS := ⟨"_law_one", ["pot", "items"], true, []⟩
def N__law_one : List Str := ["pot", "items"]
def T__law_one : Tb := ⟨[c__law_of], con, bl⟩
theorem sc__law_one : FnScope N__law_one ["pot", "items"] (defScope s__law_one) := ⟨rfl, rfl, rfl, by decide +kernel, rfl, by decide +kernel, by decide +kernel⟩
theorem k__law_one : chSs T__law_one ir__law_one ⟨N__law_one, defScope s__law_one, none⟩ (defBody s__law_one) = true := by decide +kernel
def c__law_lines : FnS := ⟨"_law_lines", ["n"], false, []⟩
def N__law_lines : List Str := ["n", "rows", "j", "i", "columns"]
def T__law_lines : Tb := ⟨[], con, bl⟩
theorem sc__law_lines : FnScope N__law_lines ["n"] (defScope s__law_lines) := ⟨rfl, rfl, rfl, by decide +kernel, rfl, by decide +kernel, by decide +kernel⟩
theorem k__law_lines : chSs T__law_lines ir__law_lines ⟨N__law_lines, defScope s__law_lines, none⟩ (defBody s__law_lines) = true := by decide +kernel
def c__law_line_sums : FnS := ⟨"_law_line_sums", ["square"], false, []⟩
def N__law_line_sums : List Str := ["square", "i", "j", "line"]
def T__law_line_sums : Tb := ⟨[c__law_lines], con, bl⟩
theorem sc__law_line_sums : FnScope N__law_line_sums ["square"] (defScope s__law_line_sums) := ⟨rfl, rfl, rfl, by decide +kernel, rfl, by decide +kernel, by decide +kernel⟩
theorem k__law_line_sums : chSs T__law_line_sums ir__law_line_sums ⟨N__law_line_sums, defScope s__law_line_sums, none⟩ (defBody s__law_line_sums) = true := by decide +kernel
def c__law_turned : FnS := ⟨"_law_turned", ["square", "k"], false, []⟩
def N__law_turned : List Str := ["square", "k", "n", "found", "j", "i", "turn"]
def T__law_turned : Tb := ⟨[], con, bl⟩
theorem sc__law_turned : FnScope N__law_turned ["square", "k"] (defScope s__law_turned) := ⟨rfl, rfl, rfl, by decide +kernel, rfl, by decide +kernel, by decide +kernel⟩
theorem k__law_turned : chSs T__law_turned ir__law_turned ⟨N__law_turned, defScope s__law_turned, none⟩ (defBody s__law_turned) = true := by decide +kernel
def c__law_three : FnS := ⟨"_law_three", ["e", "a", "b"], false, []⟩
def N__law_three : List Str := ["e", "a", "b"]
def T__law_three : Tb := ⟨[], con, bl⟩
theorem sc__law_three : FnScope N__law_three ["e", "a", "b"] (defScope s__law_three) := ⟨rfl, rfl, rfl, by decide +kernel, rfl, by decide +kernel, by decide +kernel⟩
theorem k__law_three : chSs T__law_three ir__law_three ⟨N__law_three, defScope s__law_three, none⟩ (defBody s__law_three) = true := by decide +kernel
def c__law_number : FnS := ⟨"_law_number", ["s"], false, []⟩
def N__law_number : List Str := ["s", "e", "unlike"]
def T__law_number : Tb := ⟨[], con, bl⟩
theorem sc__law_number : FnScope N__law_number ["s"] (defScope s__law_number) := ⟨rfl, rfl, rfl, by decide +kernel, rfl, by decide +kernel, by decide +kernel⟩
theorem k__law_number : chSs T__law_number ir__law_number ⟨N__law_number, defScope s__law_number, none⟩ (defBody s__law_number) = true := by decide +kernel
def N_law : List Str := ["script", "pot", "turn", "top", "great", "e", "a", "b", "again", "square", "turned", "kept", "parts", "told", "s", "dues", "found", "due", "unlike", "own"]
def T_law : Tb := ⟨[c__law_one, c__law_of, c__law_three, c_three_square, c__law_line_sums, c_is_even_square, c__law_turned, c_three_parts, c_is_broken_even, c__law_number, c_three_number, c_three_unlike, c_threes_listed], con, bl⟩
theorem sc_law : FnScope N_law ["script"] (defScope s_law) := ⟨rfl, rfl, rfl, by decide +kernel, rfl, by decide +kernel, by decide +kernel⟩
theorem k_law : chSs T_law ir_law ⟨N_law, defScope s_law, none⟩ (defBody s_law).tail = true := by decide +kernel
/-- what the module's top has written -/
structure Txt (K : PySem.W.Frag) : Prop where
  d__law_pot : TopD K "_law_pot" s__law_pot
  d__law_of : TopD K "_law_of" s__law_of
  d_three_square : TopD K "three_square" s_three_square
  d_three_parts : TopD K "three_parts" s_three_parts
  d_three_number : TopD K "three_number" s_three_number
  d_three_unlike : TopD K "three_unlike" s_three_unlike
  d_threes_listed : TopD K "threes_listed" s_threes_listed
  d_line_sums : TopD K "line_sums" s_line_sums
  d_broken_sums : TopD K "broken_sums" s_broken_sums
  d_is_even_square : TopD K "is_even_square" s_is_even_square
  d_is_broken_even : TopD K "is_broken_even" s_is_broken_even
  d__law_one : TopD K "_law_one" s__law_one
  d__law_lines : TopD K "_law_lines" s__law_lines
  d__law_line_sums : TopD K "_law_line_sums" s__law_line_sums
  d__law_turned : TopD K "_law_turned" s__law_turned
  d__law_three : TopD K "_law_three" s__law_three
  d__law_number : TopD K "_law_number" s__law_number
  d_law : TopD K "law" s_law
  b_range : PySem.W.nsIn K mainGlobals "range" = some none
  b_tuple : PySem.W.nsIn K mainGlobals "tuple" = some none
  b_len : PySem.W.nsIn K mainGlobals "len" = some none
  b_sorted : PySem.W.nsIn K mainGlobals "sorted" = some none
  b_list : PySem.W.nsIn K mainGlobals "list" = some none
  b_sum : PySem.W.nsIn K mainGlobals "sum" = some none
  b_repr : PySem.W.nsIn K mainGlobals "repr" = some none
  b_abs : PySem.W.nsIn K mainGlobals "abs" = some none
  b_set : PySem.W.nsIn K mainGlobals "set" = some none
  b_int : PySem.W.nsIn K mainGlobals "int" = some none
def cn (K : PySem.W.Frag) : Cn := ⟨K, PKL, 0, 0⟩
theorem law_at {P : Program} {w : World} {K : PySem.W.Frag} {mg : Str → Option Value} {h : Heap} {fa : Addr} (t : Txt K) (KX : K.In h) (G : h.Ns mainGlobals mg) (hfa : mg "law" = some (.ref fa)) (hy : Yes m_law) :
    ∃ fd : FuncData, (∀ (s : Shared) (u : Value), BindsTo s fd ⟨[u], []⟩ [("script", u)]) ∧ ∀ base : Heap, FnG (cn K) P w mg base 4 fa fd ["script"] (spLaw (cn K)) := by
  have KC : (cn K).K.In h := KX
  have hbl : ∀ x ∈ bl, mg x = none := all_cons (PySem.W.mg_none_of KX G t.b_range) (all_cons (PySem.W.mg_none_of KX G t.b_tuple) (all_cons (PySem.W.mg_none_of KX G t.b_len) (all_cons (PySem.W.mg_none_of KX G t.b_sorted) (all_cons (PySem.W.mg_none_of KX G t.b_list) (all_cons (PySem.W.mg_none_of KX G t.b_sum) (all_cons (PySem.W.mg_none_of KX G t.b_repr) (all_cons (PySem.W.mg_none_of KX G t.b_abs) (all_cons (PySem.W.mg_none_of KX G t.b_set) (all_cons (PySem.W.mg_none_of KX G t.b_int) (all_nil))))))))))
  have hcon : ∀ q ∈ con, ∃ t, mg q.1 = some (.int q.2 t) := all_nil
  obtain ⟨fl, fdl, al, Fl⟩ := t.d_law
  obtain rfl : fl = fa := by have e := (PySem.W.mg_of KX G al).symm.trans hfa; cases e; rfl
  refine ⟨fdl, ?_, fun base => ?_⟩
  · obtain ⟨oc, od, kV, doc, pm, an, cdv, ct, osl, rfl, lk, hcd⟩ := Fl.ex
    exact fun s u => .of_eq rfl
  have a__law_of : At (cn K) P w mg base 2 c__law_of m__law_of := by
    obtain ⟨f, fd, a, Fu⟩ := t.d__law_of
    obtain ⟨oc, od, kV, doc, pm, an, cdv, ct, osl, rfl, lk, hcd⟩ := id Fu.ex
    exact ⟨f, _, of_ok rfl Fu (PySem.W.mg_none_of KX G t.b_len), PySem.W.mg_of KX G a, Fu.kp, fun s us hl => (match us, hl with | [_, _], _ => .of_eq rfl), all_nil⟩
  have pp : PotAt (cn K) P w mg base 2 pot1 := by
    obtain ⟨f, fd, a, Fu⟩ := t.d__law_pot
    obtain ⟨oc, od, kV, doc, pm, an, cdv, ct, osl, rfl, lk, hcd⟩ := id Fu.ex
    exact ⟨f, _, pot_ok rfl Fu ⟨PySem.W.mg_none_of KX G t.b_len, PySem.W.mg_none_of KX G t.b_int, PySem.W.mg_none_of KX G t.b_abs⟩, PySem.W.mg_of KX G a, Fu.kp, fun s us hl => (match us, hl with | [_], _ => .of_eq rfl)⟩
  have t_three_square : TOk (cn K) T_three_square [] P w mg base 0 := ⟨hbl, hcon, allAt_cal (trivial)⟩
  have a_three_square : At (cn K) P w mg base 1 c_three_square m_three_square := top_at (N := N_three_square) t.d_three_square KX G t_three_square sc_three_square k_three_square (fun _ _ _ _ _ _ us hl => match us, hl with | [_, _, _], _ => rfl) (all_cons (fun _ _ _ _ _ _ us hl => match us, hl with | [_, _, _], _ => rfl) (all_nil))
  have t_three_parts : TOk (cn K) T_three_parts [] P w mg base 0 := ⟨hbl, hcon, allAt_cal (trivial)⟩
  have a_three_parts : At (cn K) P w mg base 1 c_three_parts m_three_parts := top_at (N := N_three_parts) t.d_three_parts KX G t_three_parts sc_three_parts k_three_parts (fun _ _ _ _ _ _ us hl => match us, hl with | [_], _ => rfl) (all_cons (fun _ _ _ _ _ _ us hl => match us, hl with | [_], _ => rfl) (all_nil))
  have t_three_number : TOk (cn K) T_three_number [] P w mg base 0 := ⟨hbl, hcon, allAt_cal (trivial)⟩
  have a_three_number : At (cn K) P w mg base 1 c_three_number m_three_number := top_at (N := N_three_number) t.d_three_number KX G t_three_number sc_three_number k_three_number (fun _ _ _ _ _ _ us hl => match us, hl with | [_], _ => rfl) (all_cons (fun _ _ _ _ _ _ us hl => match us, hl with | [_], _ => rfl) (all_nil))
  have t_three_unlike : TOk (cn K) T_three_unlike [] P w mg base 0 := ⟨hbl, hcon, allAt_cal (trivial)⟩
  have a_three_unlike : At (cn K) P w mg base 1 c_three_unlike m_three_unlike := top_at (N := N_three_unlike) t.d_three_unlike KX G t_three_unlike sc_three_unlike k_three_unlike (fun _ _ _ _ _ _ us hl => match us, hl with | [_], _ => rfl) (all_cons (fun _ _ _ _ _ _ us hl => match us, hl with | [_], _ => rfl) (all_nil))
  have t_threes_listed : TOk (cn K) T_threes_listed [m_three_square] P w mg base 1 := ⟨hbl, hcon, allAt_cal (⟨a_three_square.up (by decide), trivial⟩)⟩
  have a_threes_listed : At (cn K) P w mg base 2 c_threes_listed m_threes_listed := top_at (N := N_threes_listed) t.d_threes_listed KX G t_threes_listed sc_threes_listed k_threes_listed (fun _ _ _ _ _ _ us hl => match us, hl with | [_], _ => rfl) (all_cons (fun _ _ _ _ _ _ us hl => match us, hl with | [_], _ => rfl) (all_nil))
  have t_line_sums : TOk (cn K) T_line_sums [] P w mg base 0 := ⟨hbl, hcon, allAt_cal (trivial)⟩
  have a_line_sums : At (cn K) P w mg base 1 c_line_sums m_line_sums := top_at (N := N_line_sums) t.d_line_sums KX G t_line_sums sc_line_sums k_line_sums (fun _ _ _ _ _ _ us hl => match us, hl with | [_], _ => rfl) (all_nil)
  have t_broken_sums : TOk (cn K) T_broken_sums [] P w mg base 0 := ⟨hbl, hcon, allAt_cal (trivial)⟩
  have a_broken_sums : At (cn K) P w mg base 1 c_broken_sums m_broken_sums := top_at (N := N_broken_sums) t.d_broken_sums KX G t_broken_sums sc_broken_sums k_broken_sums (fun _ _ _ _ _ _ us hl => match us, hl with | [_], _ => rfl) (all_nil)
  have t_is_even_square : TOk (cn K) T_is_even_square [m_line_sums] P w mg base 1 := ⟨hbl, hcon, allAt_cal (⟨a_line_sums.up (by decide), trivial⟩)⟩
  have a_is_even_square : At (cn K) P w mg base 2 c_is_even_square m_is_even_square := top_at (N := N_is_even_square) t.d_is_even_square KX G t_is_even_square sc_is_even_square k_is_even_square (fun _ _ _ _ _ _ us hl => match us, hl with | [_], _ => rfl) (all_nil)
  have t_is_broken_even : TOk (cn K) T_is_broken_even [m_line_sums, m_broken_sums] P w mg base 1 := ⟨hbl, hcon, allAt_cal (⟨a_line_sums.up (by decide), ⟨a_broken_sums.up (by decide), trivial⟩⟩)⟩
  have a_is_broken_even : At (cn K) P w mg base 2 c_is_broken_even m_is_broken_even := top_at (N := N_is_broken_even) t.d_is_broken_even KX G t_is_broken_even sc_is_broken_even k_is_broken_even (fun _ _ _ _ _ _ us hl => match us, hl with | [_], _ => rfl) (all_nil)
  have t__law_one : TOk (cn K) T__law_one [m__law_of] P w mg base 2 := ⟨hbl, hcon, allAt_cal (⟨a__law_of.up (by decide), trivial⟩)⟩
  have a__law_one : At (cn K) P w mg base 3 c__law_one m__law_one := top_at (N := N__law_one) t.d__law_one KX G t__law_one sc__law_one k__law_one (fun _ _ _ _ _ _ us hl => match us, hl with | [_, _], _ => rfl) (all_nil)
  have t__law_lines : TOk (cn K) T__law_lines [] P w mg base 0 := ⟨hbl, hcon, allAt_cal (trivial)⟩
  have a__law_lines : At (cn K) P w mg base 1 c__law_lines m__law_lines := top_at (N := N__law_lines) t.d__law_lines KX G t__law_lines sc__law_lines k__law_lines (fun _ _ _ _ _ _ us hl => match us, hl with | [_], _ => rfl) (all_nil)
  have t__law_line_sums : TOk (cn K) T__law_line_sums [m__law_lines] P w mg base 1 := ⟨hbl, hcon, allAt_cal (⟨a__law_lines.up (by decide), trivial⟩)⟩
  have a__law_line_sums : At (cn K) P w mg base 2 c__law_line_sums m__law_line_sums := top_at (N := N__law_line_sums) t.d__law_line_sums KX G t__law_line_sums sc__law_line_sums k__law_line_sums (fun _ _ _ _ _ _ us hl => match us, hl with | [_], _ => rfl) (all_nil)
  have t__law_turned : TOk (cn K) T__law_turned [] P w mg base 0 := ⟨hbl, hcon, allAt_cal (trivial)⟩
  have a__law_turned : At (cn K) P w mg base 1 c__law_turned m__law_turned := top_at (N := N__law_turned) t.d__law_turned KX G t__law_turned sc__law_turned k__law_turned (fun _ _ _ _ _ _ us hl => match us, hl with | [_, _], _ => rfl) (all_nil)
  have t__law_three : TOk (cn K) T__law_three [] P w mg base 0 := ⟨hbl, hcon, allAt_cal (trivial)⟩
  have a__law_three : At (cn K) P w mg base 1 c__law_three m__law_three := top_at (N := N__law_three) t.d__law_three KX G t__law_three sc__law_three k__law_three (fun _ _ _ _ _ _ us hl => match us, hl with | [_, _, _], _ => rfl) (all_nil)
  have t__law_number : TOk (cn K) T__law_number [] P w mg base 0 := ⟨hbl, hcon, allAt_cal (trivial)⟩
  have a__law_number : At (cn K) P w mg base 1 c__law_number m__law_number := top_at (N := N__law_number) t.d__law_number KX G t__law_number sc__law_number k__law_number (fun _ _ _ _ _ _ us hl => match us, hl with | [_], _ => rfl) (all_nil)
  have t_law : TOk (cn K) T_law [m__law_one, m__law_of, m__law_three, m_three_square, m__law_line_sums, m_is_even_square, m__law_turned, m_three_parts, m_is_broken_even, m__law_number, m_three_number, m_three_unlike, m_threes_listed] P w mg base 3 := ⟨hbl, hcon, allAt_cal (⟨a__law_one.up (by decide), ⟨a__law_of.up (by decide), ⟨a__law_three.up (by decide), ⟨a_three_square.up (by decide), ⟨a__law_line_sums.up (by decide), ⟨a_is_even_square.up (by decide), ⟨a__law_turned.up (by decide), ⟨a_three_parts.up (by decide), ⟨a_is_broken_even.up (by decide), ⟨a__law_number.up (by decide), ⟨a_three_number.up (by decide), ⟨a_three_unlike.up (by decide), ⟨a_threes_listed.up (by decide), trivial⟩⟩⟩⟩⟩⟩⟩⟩⟩⟩⟩⟩⟩)⟩
  exact law_ok (N := N_law.drop 2) Fl t_law sc_law rfl (by decide +kernel) (by decide +kernel) (by decide +kernel) k_law ⟨(let ⟨f, fd, a1, a2⟩ := pp.ex; ⟨f, fd, a1.up (by decide), a2⟩)⟩ hy
end Law

namespace Mi
open PySem
/-- a 3 by 3 square by its steps -/
def t3 (a b c d e f g h i : Int) : D := .tuple [.tuple [.int a, .int b, .int c], .tuple [.int d, .int e, .int f], .tuple [.int g, .int h, .int i]]
def sq (e a b : Int) : D := t3 (e - a) (e + a + b) (e - b) (e + a - b) e (e - a + b) (e + b) (e - a - b) (e + a)
theorem m_three (e a b : Int) (p : Pt) : m_three_square [.int e, .int a, .int b] p = .ok (sq e a b) p := by
  simp [m_three_square, fn, ir_three_square, SS, ES, runs, run, ev, evs, bop, sq, t3]
theorem m_lthree (e a b : Int) (p : Pt) : m__law_three [.int e, .int a, .int b] p = .ok (sq e a b) p := by
  simp [m__law_three, fn, ir__law_three, SS, ES, runs, run, ev, evs, bop, sq, t3]
theorem m_parts (a b c d e f g h i : Int) (p : Pt) : m_three_parts [t3 a b c d e f g h i] p = .ok (.tuple [.int e, .int (e - a), .int (e - c)]) p := by
  simp [m_three_parts, fn, ir_three_parts, SS, ES, runs, run, ev, evs, bop, t3, ixD, items, ixN]
theorem m_lines (a b c d e f g h i : Int) (p : Pt) : m_line_sums [t3 a b c d e f g h i] p = .ok (.tuple [.tuple [.int (a + (b + c)), .int (d + (e + f)), .int (g + (h + i))], .tuple [.int (a + (d + g)), .int (b + (e + h)), .int (c + (f + i))], .tuple [.int (a + (e + i)), .int (c + (e + g))]]) p := by
  simp [m_line_sums, fn, ir_line_sums, SS, ES, runs, run, ev, evs, evI, evO, bop, t3, ixD, items, ixN, compL, rngL, f1, asInts, sumI, bT_nm, wipes, setAll, nxO, lim, rb]

theorem m_broken (a b c d e f g h i : Int) (p : Pt) : m_broken_sums [t3 a b c d e f g h i] p = .ok (.tuple [.tuple [.int (a + (e + i)), .int (b + (f + g)), .int (c + (d + h))], .tuple [.int (a + (f + h)), .int (b + (d + i)), .int (c + (e + g))]]) p := by
  simp [m_broken_sums, fn, ir_broken_sums, SS, ES, runs, run, ev, evs, evI, evO, bop, t3, ixD, items, ixN, compL, rngL, f1, asInts, sumI, bT_nm, wipes, setAll, nxO, lim, rb]
theorem m_even (a b c d e f g h i : Int) (p : Pt) : m_is_even_square [t3 a b c d e f g h i] p = .ok (.bool (decide (((dedI [a + (b + c), d + (e + f), g + (h + i), a + (d + g), b + (e + h), c + (f + i), a + (e + i), c + (e + g)]).length : Int) = 1))) p := by
  simp [m_is_even_square, fn, ir_is_even_square, SS, ES, TS, runs, run, ev, evs, bop, cop, eqD, f1, asInts, bT_nm, bT_tup, bT_lst, bTs_nil, bTs_cons, nxO, m_lines, lim]
theorem m_beven (a b c d e f g h i : Int) (p : Pt) : m_is_broken_even [t3 a b c d e f g h i] p = .ok (.bool (decide (((dedI [a + (b + c), d + (e + f), g + (h + i), a + (d + g), b + (e + h), c + (f + i), a + (e + i), c + (e + g), a + (e + i), b + (f + g), c + (d + h), a + (f + h), b + (d + i), c + (e + g)]).length : Int) = 1))) p := by
  refine fn_rt ?_
  refine (rs_unp (by simp [ES, ev, evs]; exact m_lines ..) (by simp [TS, bT_nm, bT_tup, bT_lst, bTs_nil, bTs_cons]; rfl)).trans ?_
  refine (rs_unp (by simp [ES, ev, evs]; exact m_broken ..) (by simp [TS, bT_nm, bT_tup, bT_lst, bTs_nil, bTs_cons]; rfl)).trans ?_
  refine rs_ret ?_
  simp [ev, bop, lim, f1, asInts, cop, eqD]
theorem ded_same (x : Int) : ∀ n : Nat, dedI (List.replicate (n + 1) x) = [x]
  | 0 => rfl
  | n + 1 => by
    show dedI (x :: List.replicate (n + 1) x) = _
    rw [dedI, ded_same x n]
    simp
theorem sq_even (e a b : Int) (p : Pt) : m_is_even_square [sq e a b] p = .ok (.bool true) p := by
  unfold sq
  rw [m_even]
  have h : [e - a + (e + a + b + (e - b)), e + a - b + (e + (e - a + b)), e + b + (e - a - b + (e + a)), e - a + (e + a - b + (e + b)), e + a + b + (e + (e - a - b)), e - b + (e - a + b + (e + a)), e - a + (e + (e + a)), e - b + (e + (e + b))] = List.replicate 8 (3 * e) := by
    simp only [List.replicate, List.cons.injEq, and_true]
    refine ⟨?_, ?_, ?_, ?_, ?_, ?_, ?_, ?_⟩ <;> omega
  rw [h, ded_same (3 * e) 7]
  rfl
/-- ints without repetition: one alone -/
theorem ded_one {l : List Int} {x : Int} : (dedI (x :: l)).length = 1 ↔ ∀ y ∈ l, y = x := by
  simp only [dedI, List.length_cons, Nat.add_eq_right, List.length_eq_zero_iff, List.filter_eq_nil_iff, decide_eq_true_eq, Decidable.not_not]
  constructor
  · intro h y hy
    exact h y ((dedI_spec l).2 y |>.mpr hy)
  · intro h y hy
    exact h y ((dedI_spec l).2 y |>.mp hy)
theorem sq_beven (e a b : Int) (p : Pt) : m_is_broken_even [sq e a b] p = .ok (.bool (decide (a = 0 ∧ b = 0))) p := by
  unfold sq
  rw [m_beven]
  congr 2
  refine decide_eq_decide.mpr ?_
  rw [show (1 : Int) = ((1 : Nat) : Int) from rfl, Int.ofNat_inj, ded_one]
  constructor
  · intro h
    simp only [List.mem_cons, List.not_mem_nil, or_false, forall_eq_or_imp, forall_eq] at h
    omega
  · rintro ⟨rfl, rfl⟩
    simp only [List.mem_cons, List.not_mem_nil, or_false, forall_eq_or_imp, forall_eq]
    omega
theorem m_llines (p : Pt) : m__law_lines [.int 3] p = .ok (.list [.list [.tuple [.int 0, .int 0], .tuple [.int 0, .int 1], .tuple [.int 0, .int 2]], .list [.tuple [.int 1, .int 0], .tuple [.int 1, .int 1], .tuple [.int 1, .int 2]], .list [.tuple [.int 2, .int 0], .tuple [.int 2, .int 1], .tuple [.int 2, .int 2]],
   .list [.tuple [.int 0, .int 0], .tuple [.int 1, .int 0], .tuple [.int 2, .int 0]], .list [.tuple [.int 0, .int 1], .tuple [.int 1, .int 1], .tuple [.int 2, .int 1]], .list [.tuple [.int 0, .int 2], .tuple [.int 1, .int 2], .tuple [.int 2, .int 2]],
   .list [.tuple [.int 0, .int 0], .tuple [.int 1, .int 1], .tuple [.int 2, .int 2]], .list [.tuple [.int 0, .int 2], .tuple [.int 1, .int 1], .tuple [.int 2, .int 0]]]) p := by
  simp [m__law_lines, fn, ir__law_lines, SS, ES, runs, run, ev, evs, evI, evO, bop, compL, rngL, bT_nm, wipes, lim, rb]
theorem m_lsums (e a b : Int) (p : Pt) : m__law_line_sums [sq e a b] p = .ok (.list (List.replicate 8 (.int (3 * e)))) p := by
  simp [m__law_line_sums, fn, ir__law_line_sums, SS, ES, TS, runs, run, ev, evs, evI, evO, bop, sq, t3, ixD, items, ixN, compL, f1, asInts, sumI, bT_nm, bT_tup, bT_lst, bTs_nil, bTs_cons, wipes, lim, m_llines]
  refine ⟨?_, ?_, ?_, ?_, ?_, ?_, ?_, ?_⟩ <;> omega

/-! ### turned -/
def rot (x : Int × Int) : Int × Int := (-x.2, x.1)
def trn (k : Nat) (a b : Int) : Int × Int := match k with
  | 0 => (a, b)
  | 1 => (-b, a)
  | 2 => (-a, -b)
  | 3 => (b, -a)
  | 4 => (a, -b)
  | 5 => (b, a)
  | 6 => (-a, b)
  | _ => (-b, -a)
theorem sq_eq {e a' b' : Int} {x0 x1 x2 x3 x4 x5 x6 x7 x8 : Int} (h : x0 = e - a' ∧ x1 = e + a' + b' ∧ x2 = e - b' ∧ x3 = e + a' - b' ∧ x4 = e ∧ x5 = e - a' + b' ∧ x6 = e + b' ∧ x7 = e - a' - b' ∧ x8 = e + a') : t3 x0 x1 x2 x3 x4 x5 x6 x7 x8 = sq e a' b' := by
  obtain ⟨rfl, rfl, rfl, rfl, rfl, rfl, rfl, rfl, rfl⟩ := h
  rfl
theorem rot_comp (a b c d e f g h i : Int) {F : List Fn} {x4 x5 x6 y0 y1 : SV} {p : Pt} : ev F (.fn1 .tuple (.comp [5] (.nm 5) (.rng1 (.var 2)) .non (.fn1 .tuple (.comp [4] (.nm 4) (.rng1 (.var 2)) .non (.idx (.idx (.var 3) (.bin .sub (.bin .sub (.var 2) (.c (.int 1))) (.var 4))) (.var 5)))))) [y0, y1, .sh (.int 3), .sh (t3 a b c d e f g h i), x4, x5, x6] p = .ok (t3 g d a h e b i f c) p := by
  simp [ev, evI, evO, bop, t3, ixD, items, ixN, compL, rngL, f1, bT_nm, wipes, lim, rb]
theorem tr_comp (a b c d e f g h i : Int) {F : List Fn} {x3 x4 x5 x6 y1 : SV} {p : Pt} : ev F (.fn1 .tuple (.comp [5] (.nm 5) (.rng1 (.var 2)) .non (.fn1 .tuple (.comp [4] (.nm 4) (.rng1 (.var 2)) .non (.idx (.idx (.var 0) (.var 4)) (.var 5)))))) [.sh (t3 a b c d e f g h i), y1, .sh (.int 3), x3, x4, x5, x6] p = .ok (t3 a d g b e h c f i) p := by
  simp [ev, evI, evO, bop, t3, ixD, items, ixN, compL, rngL, f1, bT_nm, wipes, lim, rb]
theorem rot_sq (e a b : Int) {F : List Fn} {x4 x5 x6 y0 y1 : SV} {p : Pt} : ev F (.fn1 .tuple (.comp [5] (.nm 5) (.rng1 (.var 2)) .non (.fn1 .tuple (.comp [4] (.nm 4) (.rng1 (.var 2)) .non (.idx (.idx (.var 3) (.bin .sub (.bin .sub (.var 2) (.c (.int 1))) (.var 4))) (.var 5)))))) [y0, y1, .sh (.int 3), .sh (sq e a b), x4, x5, x6] p = .ok (sq e (-b) a) p :=
  (rot_comp ..).trans (congrArg (fun d => R.ok d p) (sq_eq (by omega)))
theorem tr_sq (e a b : Int) {F : List Fn} {x3 x4 x5 x6 y1 : SV} {p : Pt} : ev F (.fn1 .tuple (.comp [5] (.nm 5) (.rng1 (.var 2)) .non (.fn1 .tuple (.comp [4] (.nm 4) (.rng1 (.var 2)) .non (.idx (.idx (.var 0) (.var 4)) (.var 5)))))) [.sh (sq e a b), y1, .sh (.int 3), x3, x4, x5, x6] p = .ok (sq e a (-b)) p :=
  (tr_comp ..).trans (congrArg (fun d => R.ok d p) (sq_eq (by omega)))
def rb1 : Sms := SS [.set 3 (.fn1 .tuple (.comp [5] (.nm 5) (.rng1 (.var 2)) .non (.fn1 .tuple (.comp [4] (.nm 4) (.rng1 (.var 2)) .non (.idx (.idx (.var 3) (.bin .sub (.bin .sub (.var 2) (.c (.int 1))) (.var 4))) (.var 5))))))]
theorem rot_loop : ∀ (n : Nat) (lo : Int) (e a b : Int) {F : List Fn} {x4 x5 x6 y0 y1 : SV} {p : Pt}, ∃ x6', forL (.nm 6) (runs F rb1) [6] (rngL lo n) [y0, y1, .sh (.int 3), .sh (sq e a b), x4, x5, x6] p = .ok (.nx [y0, y1, .sh (.int 3), .sh (sq e (Nat.repeat rot n (a, b)).1 (Nat.repeat rot n (a, b)).2), x4, x5, x6']) p
  | 0, lo, e, a, b, F, x4, x5, x6, y0, y1, p => ⟨_, rfl⟩
  | n + 1, lo, e, a, b, F, x4, x5, x6, y0, y1, p => by
    obtain ⟨x6', h⟩ := rot_loop n (lo + 1) e (rot (a, b)).1 (rot (a, b)).2 (F := F) (x4 := x4) (x5 := x5) (x6 := .sh (.int lo)) (y0 := y0) (y1 := y1) (p := p)
    refine ⟨x6', ?_⟩
    have e1 : Nat.repeat rot (n + 1) (a, b) = Nat.repeat rot n (rot (a, b)) := by
      clear h
      have : ∀ (n : Nat) (x : Int × Int), Nat.repeat rot (n + 1) x = Nat.repeat rot n (rot x) := fun n x => by
        induction n with
        | zero => rfl
        | succ n ih => show rot (Nat.repeat rot (n + 1) x) = rot (Nat.repeat rot n (rot x)); rw [ih]
      exact this n (a, b)
    rw [e1, ← h, rngL]
    refine for_nx (ρ1 := [y0, y1, .sh (.int 3), .sh (sq e a b), x4, x5, .sh (.int lo)]) (by simp [wipes, bT_nm]) ?_
    exact (rs_set (rot_sq e a b)).trans rs_nil
theorem m_turned (e a b : Int) (k : Nat) (hk : k < 8) (p : Pt) : m__law_turned [sq e a b, .int k] p = .ok (sq e (trn k a b).1 (trn k a b).2) p := by
  refine fn_rt ?_
  refine (rs_set (d := .int 3) (p' := p) (by simp [ev, sq, t3, f1])).trans ?_
  refine (rs_set (d := sq e a b) (p' := p) (by simp [ev])).trans ?_
  have tail : ∀ (n : Nat) (a' b' : Int) (x4 x5 x6 : SV) (y0 : SV), (k : Int) % 4 = (n : Nat) → (Nat.repeat rot n (a', b')) = trn k a b → runs [] (SS [.forr (.nm 6) (.rng1 (.bin .mod (.fn1 .int (.var 1)) (.c (.int 4)))) rb1 [6], .ret (.var 3)]) [y0, .sh (.int k), .sh (.int 3), .sh (sq e a' b'), x4, x5, x6] p = .ok (.rt (sq e (trn k a b).1 (trn k a b).2)) p := fun n a' b' x4 x5 x6 y0 hn hr => by
    obtain ⟨x6', h⟩ := rot_loop n 0 e a' b' (F := []) (x4 := x4) (x5 := x5) (x6 := x6) (y0 := y0) (y1 := .sh (.int k)) (p := p)
    rw [hr] at h
    refine (rs_for (l := rngL 0 n) (p' := p) ?_ h).trans ?_
    · simp [evI, ev, f1, bop, hn, rb]
      omega
    · exact rs_ret (p' := p) (by simp [ev])
  match k, hk with
  | 0, _ => exact (rs_no0 (p' := p) (by simp [ev, cop])).trans (tail 0 a b _ _ _ _ rfl rfl)
  | 1, _ => exact (rs_no0 (p' := p) (by simp [ev, cop])).trans (tail 1 a b _ _ _ _ rfl rfl)
  | 2, _ => exact (rs_no0 (p' := p) (by simp [ev, cop])).trans (tail 2 a b _ _ _ _ rfl rfl)
  | 3, _ => exact (rs_no0 (p' := p) (by simp [ev, cop])).trans (tail 3 a b _ _ _ _ rfl (by simp [Nat.repeat, rot, trn]))
  | 4, _ => exact (rs_yesN (p' := p) (by simp [ev, cop]) ((rs_set (tr_sq e a b)).trans rs_nil)).trans (tail 0 a (-b) _ _ _ _ rfl rfl)
  | 5, _ => exact (rs_yesN (p' := p) (by simp [ev, cop]) ((rs_set (tr_sq e a b)).trans rs_nil)).trans (tail 1 a (-b) _ _ _ _ rfl (by simp [Nat.repeat, rot, trn]))
  | 6, _ => exact (rs_yesN (p' := p) (by simp [ev, cop]) ((rs_set (tr_sq e a b)).trans rs_nil)).trans (tail 2 a (-b) _ _ _ _ rfl (by simp [Nat.repeat, rot, trn]))
  | 7, _ => exact (rs_yesN (p' := p) (by simp [ev, cop]) ((rs_set (tr_sq e a b)).trans rs_nil)).trans (tail 3 a (-b) _ _ _ _ rfl (by simp [Nat.repeat, rot, trn]))
end Mi

namespace Mi
open PySem
theorem ten80 : (10 : Nat) ^ 80 < 2 ^ 266 := by decide
theorem log_b {i : Int} (h1 : -(10 ^ 80) < i) (h2 : i < 10 ^ 80) : i.natAbs.log2 < 266 := by
  have hn : i.natAbs < 10 ^ 80 := by omega
  by_cases h0 : i.natAbs = 0
  · rw [h0]; decide
  · exact (Nat.log2_lt h0).mpr (Nat.lt_trans hn ten80)
theorem sm_b {i : Int} (h1 : -(10 ^ 80) < i) (h2 : i < 10 ^ 80) : sm i = true := by
  have := log_b h1 h2
  unfold sm
  exact decide_eq_true (by omega)
theorem w_int {i : Int} (h1 : -(10 ^ 80) < i) (h2 : i < 10 ^ 80) : wD (.int i) ≤ 300 := by
  have := log_b h1 h2
  unfold wD
  rw [if_pos (by omega)]
  omega
theorem mul_le {x y a b : Int} (h0 : 0 ≤ x) (h1 : x ≤ a) (h2 : 0 ≤ y) (h3 : y ≤ b) : 0 ≤ x * y ∧ x * y ≤ a * b :=
  ⟨Int.mul_nonneg h0 h2, Int.mul_le_mul h1 h3 h2 (by omega)⟩
def numD (s : Int) : Int := if s % 3 ≠ 0 then 0 else 2 * (s / 3) * (s / 3) + 2 * (s / 3) + 1
def unlD (s : Int) : Int := if s % 3 ≠ 0 ∨ s = 0 then 0 else 8 * ((s / 3 - 1) * (s / 3 - 1) / 4 - s / 3 / 3)
/-- a number that is not too great -/
def okS (s : Int) : Prop := 0 ≤ s ∧ s ≤ 10 ^ 31
theorem sq_b {s : Int} (h : okS s) (h3 : 1 ≤ s / 3) : 0 ≤ (s / 3 - 1) * (s / 3 - 1) ∧ (s / 3 - 1) * (s / 3 - 1) ≤ 10 ^ 31 * 10 ^ 31 := by
  obtain ⟨h1, h2⟩ := h
  exact mul_le (by omega) (by omega) (by omega) (by omega)
theorem m_num (s : Int) (h : okS s) (p : Pt) : m_three_number [.int s] p = .ok (.int (numD s)) p := by
  obtain ⟨h1, h2⟩ := h
  refine fn_rt ?_
  have a0 : dv 3 = true := by decide
  unfold numD
  by_cases c : s % 3 = 0
  · refine (rs_no0 (p' := p) (by simp [ev, bop, cop, eqD, c])).trans ?_
    refine (rs_set (d := .int (s / 3)) (p' := p) (by simp [ev, bop, a0])).trans ?_
    refine rs_ret (p' := p) ?_
    have a1 : sm 2 = true := by decide
    have a2 : sm (s / 3) = true := sm_b (by omega) (by omega)
    have a3 : sm (2 * (s / 3)) = true := sm_b (by omega) (by omega)
    simp [ev, bop, a1, a2, a3, c]
  · refine rs_yesR (p' := p) (by simp [ev, bop, cop, eqD, c]) (rs_ret (p' := p) ?_)
    simp [ev, c]
theorem m_unl (s : Int) (h : okS s) (p : Pt) : m_three_unlike [.int s] p = .ok (.int (unlD s)) p := by
  refine fn_rt ?_
  have a0 : dv 3 = true := by decide
  unfold unlD
  by_cases c : s % 3 = 0
  · by_cases c0 : s = 0
    · subst c0
      refine rs_yesR (p' := p) (by simp [ev, bop, cop, eqD]) (rs_ret (p' := p) ?_)
      simp [ev]
    · refine (rs_no0 (p' := p) (by simp [ev, bop, cop, eqD, c, c0])).trans ?_
      refine (rs_set (d := .int (s / 3)) (p' := p) (by simp [ev, bop, a0])).trans ?_
      refine rs_ret (p' := p) ?_
      have hb := sq_b h (by obtain ⟨h1, h2⟩ := h; omega)
      obtain ⟨h1, h2⟩ := h
      have a1 : sm 8 = true := by decide
      have a2 : sm (s / 3 - 1) = true := sm_b (by omega) (by omega)
      have a3 : sm ((s / 3 - 1) * (s / 3 - 1) / 4 - s / 3 / 3) = true := sm_b (by omega) (by omega)
      have a4 : dv 4 = true := by decide
      have a5 : dv 3 = true := by decide
      simp [ev, bop, a1, a2, a3, a4, a5, c, c0]
  · refine rs_yesR (p' := p) (by simp [ev, bop, cop, eqD, c]) (rs_ret (p' := p) ?_)
    simp [ev, c]
theorem m_lnum (s : Int) (h : okS s) (p : Pt) : m__law_number [.int s] p = .ok (.tuple [.int (numD s), .int (unlD s)]) p := by
  refine fn_rt ?_
  have a0 : dv 3 = true := by decide
  refine (rs_set (d := .int (s / 3)) (p' := p) (by simp [ev, bop, a0])).trans ?_
  unfold numD unlD
  by_cases c : s % 3 = 0
  · refine (rs_no0 (p' := p) (by simp [ev, bop, cop, eqD, c])).trans ?_
    by_cases c0 : s = 0
    · subst c0
      refine (rs_set (d := .int 0) (p' := p) (by simp [ev, bop, cop, eqD])).trans ?_
      refine rs_ret (p' := p) ?_
      have a1 : sm 2 = true := by decide
      have a2 : sm 0 = true := by decide
      simp [ev, evs, ES, bop, a1, a2]
    · have hb := sq_b h (by obtain ⟨h1, h2⟩ := h; omega)
      obtain ⟨h1, h2⟩ := h
      have a1 : sm 8 = true := by decide
      have a2 : sm (s / 3 - 1) = true := sm_b (by omega) (by omega)
      have a3 : sm ((s / 3 - 1) * (s / 3 - 1) / 4 - s / 3 / 3) = true := sm_b (by omega) (by omega)
      have a4 : dv 4 = true := by decide
      have g : 0 < s / 3 := by omega
      refine (rs_set (d := .int (8 * ((s / 3 - 1) * (s / 3 - 1) / 4 - s / 3 / 3))) (p' := p) (by simp [ev, bop, cop, eqD, g, a0, a1, a2, a3, a4])).trans ?_
      refine rs_ret (p' := p) ?_
      have b1 : sm 2 = true := by decide
      have b2 : sm (s / 3) = true := sm_b (by omega) (by omega)
      have b3 : sm (2 * (s / 3)) = true := sm_b (by omega) (by omega)
      simp [ev, evs, ES, bop, b1, b2, b3, c, c0]
  · refine rs_yesR (p' := p) (by simp [ev, bop, cop, eqD, c]) (rs_ret (p' := p) ?_)
    simp [ev, evs, ES, c]
theorem unl8 (s : Int) : unlD s % 8 = 0 := by
  unfold unlD
  split
  · rfl
  · omega
/-! ### texts of values -/
theorem str_ne (x : Str) : cop .ne (.str x) (.str x) = some false := by
  show (some (decide (x = x))).map _ = _
  simp
end Mi

namespace Mi
open PySem
theorem wT (ds : List D) : wD (.tuple ds) = 3 + wDs ds := by simp [wD]
theorem wL (ds : List D) : wD (.list ds) = 3 + wDs ds := by simp [wD]
theorem wC (d : D) (ds : List D) : wDs (d :: ds) = wD d + 2 + wDs ds := by simp [wDs]
theorem wN : wDs [] = 0 := by simp [wDs]
/-- not too great -/
def bd (i : Int) : Prop := -(10 ^ 40) < i ∧ i < 10 ^ 40
theorem w_sq {e a b : Int} (he : bd e) (ha : bd a) (hb : bd b) : wD (sq e a b) ≤ 4000 := by
  obtain ⟨e1, e2⟩ := he
  obtain ⟨a1, a2⟩ := ha
  obtain ⟨b1, b2⟩ := hb
  have h0 := w_int (i := e - a) (by omega) (by omega)
  have h1 := w_int (i := e + a + b) (by omega) (by omega)
  have h2 := w_int (i := e - b) (by omega) (by omega)
  have h3 := w_int (i := e + a - b) (by omega) (by omega)
  have h4 := w_int (i := e) (by omega) (by omega)
  have h5 := w_int (i := e - a + b) (by omega) (by omega)
  have h6 := w_int (i := e + b) (by omega) (by omega)
  have h7 := w_int (i := e - a - b) (by omega) (by omega)
  have h8 := w_int (i := e + a) (by omega) (by omega)
  unfold sq t3
  simp only [wT, wC, wN]
  omega
theorem dep_sq (e a b : Int) : (sq e a b).depth = 2 := by simp [sq, t3, PyData.depth, PyData.depthAll]
theorem l_two {e a b e' a' b' : Int} (he : bd e) (ha : bd a) (hb : bd b) (he' : bd e') (ha' : bd a') (hb' : bd b') : lightD (.list [sq e a b, sq e' a' b']) = true := by
  have h1 := w_sq he ha hb
  have h2 := w_sq he' ha' hb'
  have h3 : (PyData.list [sq e a b, sq e' a' b']).depth ≤ 60 := by simp [PyData.depth, PyData.depthAll, dep_sq]
  have h4 : wD (.list [sq e a b, sq e' a' b']) ≤ 16000000 := by
    simp only [wL, wC, wN]
    omega
  unfold lightD
  rw [decide_eq_true h3, decide_eq_true h4]
  rfl
theorem l_trip {e a b e' a' b' : Int} (he : bd e) (ha : bd a) (hb : bd b) (he' : bd e') (ha' : bd a') (hb' : bd b') : lightD (.list [.tuple [.int e, .int a, .int b], .tuple [.int e', .int a', .int b'], .tuple [.int e', .int a', .int b']]) = true := by
  have w : ∀ {i : Int}, bd i → wD (.int i) ≤ 300 := fun h => w_int (by have := h.1; omega) (by have := h.2; omega)
  have h1 := w he
  have h2 := w ha
  have h3 := w hb
  have h4 := w he'
  have h5 := w ha'
  have h6 := w hb'
  have h7 : (PyData.list [.tuple [.int e, .int a, .int b], .tuple [.int e', .int a', .int b'], .tuple [.int e', .int a', .int b']]).depth ≤ 60 := by simp [PyData.depth, PyData.depthAll]
  have h8 : wD (.list [.tuple [.int e, .int a, .int b], .tuple [.int e', .int a', .int b'], .tuple [.int e', .int a', .int b']]) ≤ 16000000 := by
    simp only [wL, wT, wC, wN]
    omega
  unfold lightD
  rw [decide_eq_true h7, decide_eq_true h8]
  rfl
theorem l_four {x y : Int} (hx : -(10 ^ 80) < x ∧ x < 10 ^ 80) (hy : -(10 ^ 80) < y ∧ y < 10 ^ 80) : lightD (.list [.int x, .int y, .int x, .int y]) = true := by
  have h1 := w_int hx.1 hx.2
  have h2 := w_int hy.1 hy.2
  have h7 : (PyData.list [.int x, .int y, .int x, .int y]).depth ≤ 60 := by simp [PyData.depth, PyData.depthAll]
  have h8 : wD (.list [.int x, .int y, .int x, .int y]) ≤ 16000000 := by
    simp only [wL, wC, wN]
    omega
  unfold lightD
  rw [decide_eq_true h7, decide_eq_true h8]
  rfl
theorem l_bool (b : Bool) : lightD (.bool b) = true := by cases b <;> decide
theorem shp_sq (e a b : Int) : shp (sq e a b) = true := by
  unfold shp SeqAt.shaped
  rw [dep_sq]
  simp [sq, t3, PyData.canLay0, PyData.canLayAll0]
theorem eqv_sq (e a b : Int) : PyData.eqv (sq e a b) (sq e a b) = true := by simp [sq, t3, PyData.eqv, PyData.eqvAll]
theorem eqD_tup {x y : D} (h : ∃ l, x = .tuple l) : eqD x y = if shp x && shp y then some (PyData.eqv x y) else none := by
  obtain ⟨l, rfl⟩ := h
  cases y <;> simp [eqD]
theorem ne_sq (e a b : Int) : cop .ne (sq e a b) (sq e a b) = some false := by
  show (eqD (sq e a b) (sq e a b)).map _ = _
  have : eqD (sq e a b) (sq e a b) = some true := by
    rw [eqD_tup (x := sq e a b) ⟨_, rfl⟩, shp_sq, eqv_sq]
    rfl
  rw [this]
  rfl
/-! ### draws -/
theorem m_one3 (d0 d1 d2 : D) (s : Pot) : ∃ d s', (d = d0 ∨ d = d1 ∨ d = d2) ∧ m__law_one [.list [d0, d1, d2]] (some s) = .ok d (some s') := by
  have hr := drw1_lt (k := 3) (s := s) (by decide)
  have hd : m__law_of [.int 3] (some s) = .ok (.int (drw1 3 s).1) (some (drw1 3 s).2) := drw_ok (by decide) (by decide)
  generalize hx : (drw1 3 s).1 = x at hr hd
  have step : ∀ d, ixD (.list [d0, d1, d2]) (.int x) = some d → m__law_one [.list [d0, d1, d2]] (some s) = .ok d (some (drw1 3 s).2) := fun d h => by
    refine fnP_rt ?_
    refine rs_ret ?_
    simp [ev, evs, ES, f1, hd, h]
  have c : x = 0 ∨ x = 1 ∨ x = 2 := by omega
  rcases c with rfl | rfl | rfl
  · exact ⟨d0, _, .inl rfl, step d0 (by simp [ixD, items, ixN])⟩
  · exact ⟨d1, _, .inr (.inl rfl), step d1 (by simp [ixD, items, ixN])⟩
  · exact ⟨d2, _, .inr (.inr rfl), step d2 (by simp [ixD, items, ixN])⟩
theorem lim_big {n : Int} (h : n ≤ 10 ^ 30) : n ≤ drwLim := by
  have : (10 : Int) ^ 30 ≤ drwLim := by decide
  omega
theorem m_draw {n : Int} (h : 1 ≤ n) (h2 : n ≤ 10 ^ 30) (s : Pot) : ∃ x s', 0 ≤ x ∧ x < n ∧ m__law_of [.int n] (some s) = .ok (.int x) (some s') :=
  ⟨_, _, (drw1_lt h).1, (drw1_lt h).2, drw_ok (by omega) (lim_big h2)⟩
end Mi

namespace Mi
open PySem
def turnB : Sms := (SS [
    .set 3 (.calP 0 1 (ES [(.lst (ES [(.c (.int 5)), (.c (.int 1000)), (.bin .mul (.c (.int 3)) (.bin .pow (.c (.int 10)) (.c (.int 8))))]))])),
    .set 4 (.ife (.cmp .gt (.var 3) (.c (.int 1000))) (.calP 0 1 (ES [(.lst (ES [(.c (.int 1)), (.c (.int 1)), (.bin .pow (.c (.int 10)) (.c (.int 21)))]))])) (.c (.int 1))),
    .unp (TS [(.nm 5), (.nm 6), (.nm 7)]) (.comp [8] (.nm 8) (.rng1 (.c (.int 3))) .non (.bin .mul (.var 4) (.bin .sub (.calP 1 1 (ES [(.bin .add (.bin .mul (.c (.int 2)) (.var 3)) (.c (.int 1)))])) (.var 3)))),
    .set 9 (.cal 2 (ES [(.var 5), (.var 6), (.var 7)])),
    .iff (.cmp .ne (.fn1 .repr (.lst (ES [(.cal 3 (ES [(.var 5), (.var 6), (.var 7)])), (.calK 3 (ES [(.var 7), (.var 6), (.var 5)]) [2, 1, 0])]))) (.fn1 .repr (.lst (ES [(.var 9), (.var 9)])))) (SS [
    .ret (.c (.bool false))]) (SS []),
    .iff (.or (.cmp .ne (.cal 4 (ES [(.var 9)])) (.bin .mul (.lst (ES [(.bin .mul (.c (.int 3)) (.var 5))])) (.c (.int 8)))) (.cmp .isnt (.cal 5 (ES [(.var 9)])) (.c (.bool true)))) (SS [
    .ret (.c (.bool false))]) (SS []),
    .set 10 (.cal 6 (ES [(.var 9), (.calP 1 1 (ES [(.c (.int 8))]))])),
    .set 11 (.fn1 .repr (.lst (ES [(.var 9), (.var 10)]))),
    .set 12 (.tup (ES [(.idx (.idx (.var 10) (.c (.int 1))) (.c (.int 1))), (.bin .sub (.idx (.idx (.var 10) (.c (.int 1))) (.c (.int 1))) (.idx (.idx (.var 10) (.c (.int 0))) (.c (.int 0)))), (.bin .sub (.idx (.idx (.var 10) (.c (.int 1))) (.c (.int 1))) (.idx (.idx (.var 10) (.c (.int 0))) (.c (.int 2))))])),
    .set 13 (.lst (ES [(.cal 7 (ES [(.var 9)])), (.cal 7 (ES [(.var 10)])), (.calK 7 (ES [(.var 10)]) [0])])),
    .iff (.or (.cmp .ne (.fn1 .repr (.var 13)) (.fn1 .repr (.lst (ES [(.tup (ES [(.var 5), (.var 6), (.var 7)])), (.var 12), (.var 12)])))) (.cmp .ne (.cal 2 (ES [(.idx (.var 12) (.c (.int 0))), (.idx (.var 12) (.c (.int 1))), (.idx (.var 12) (.c (.int 2)))])) (.var 10))) (SS [
    .ret (.c (.bool false))]) (SS []),
    .iff (.or (.cmp .ne (.fn1 .repr (.cal 8 (ES [(.var 10)]))) (.fn1 .repr (.and (.cmp .eq (.var 6) (.c (.int 0))) (.cmp .eq (.var 7) (.c (.int 0)))))) (.cmp .ne (.fn1 .repr (.lst (ES [(.var 9), (.var 10)]))) (.var 11))) (SS [
    .ret (.c (.bool false))]) (SS []),
    .set 14 (.bin .mul (.calP 1 1 (ES [(.calP 0 1 (ES [(.lst (ES [(.c (.int 50)), (.bin .pow (.c (.int 10)) (.c (.int 6))), (.bin .pow (.c (.int 10)) (.c (.int 9)))]))]))])) (.calP 0 1 (ES [(.lst (ES [(.c (.int 1)), (.c (.int 3)), (.bin .mul (.c (.int 3)) (.bin .pow (.c (.int 10)) (.c (.int 20))))]))]))),
    .set 15 (.fn1 .list (.cal 9 (ES [(.var 14)]))),
    .set 13 (.lst (ES [(.cal 10 (ES [(.var 14)])), (.cal 11 (ES [(.var 14)])), (.calK 10 (ES [(.var 14)]) [0]), (.calK 11 (ES [(.var 14)]) [0])])),
    .iff (.or (.cmp .ne (.fn1 .repr (.var 13)) (.fn1 .repr (.bin .add (.var 15) (.var 15)))) (.cmp .ne (.bin .mod (.idx (.var 15) (.c (.int 1))) (.c (.int 8))) (.c (.int 0)))) (SS [
    .ret (.c (.bool false))]) (SS [])])
def tailB : Sms := (SS [
.set 14 (.ife (.cmp .eq (.calP 1 1 (ES [(.c (.int 3))])) (.c (.int 0))) (.calP 1 1 (ES [(.c (.int 46))])) (.calP 1 1 (ES [(.c (.int 28))]))),
  .own 16 (.lst (ES [])),
  .iff (.cmp .eq (.bin .mod (.var 14) (.c (.int 3))) (.c (.int 0))) (SS [
    .set 5 (.bin .fdiv (.var 14) (.c (.int 3))),
    .forr (.nm 6) (.rng2 (.neg (.var 5)) (.bin .add (.var 5) (.c (.int 1)))) (SS [
    .ext 16 (.comp [7] (.nm 7) (.rng2 (.bin .sub (.fn1 .abs (.var 6)) (.var 5)) (.bin .add (.bin .sub (.var 5) (.fn1 .abs (.var 6))) (.c (.int 1)))) .non (.cal 2 (ES [(.var 5), (.var 6), (.var 7)])))]) [6]]) (SS []),
  .set 17 (.fn1 .tuple (.fn1 .sorted (.bor 16))),
  .iff (.or (.cmp .ne (.fn1 .repr (.lst (ES [(.cal 12 (ES [(.var 14)])), (.calK 12 (ES [(.var 14)]) [0])]))) (.fn1 .repr (.lst (ES [(.var 17), (.var 17)])))) (.cmp .ne (.cal 10 (ES [(.var 14)])) (.fn1 .len (.var 17)))) (SS [
    .ret (.c (.bool false))]) (SS []),
  .set 18 (.comp [19] (.nm 19) (.ex (.var 17)) (.som (.cmp .eq (.fn1 .lenset (.bin .add (.bin .add (.idx (.var 19) (.c (.int 0))) (.idx (.var 19) (.c (.int 1)))) (.idx (.var 19) (.c (.int 2))))) (.c (.int 9)))) (.var 19)),
  .ret (.cmp .eq (.cal 11 (ES [(.var 14)])) (.fn1 .len (.var 18)))])
theorem ir_law_eq : ir_law = .cons (.forr (.nm 2) (.rng1 (.c (.int 3))) turnB [2, 3, 4, 5, 6, 9, 10, 11, 12, 13, 14, 15]) tailB := rfl
def env (x2 x7 : SV) : Env := [.no, .po, x2, .no, .no, .no, .no, x7, .no, .no, .no, .no, .no, .no, .no, .no, .no, .no, .no, .no]
theorem F0 {ds : List D} {p : Pt} : F_law.getD 0 badF ds p = m__law_one ds p := rfl
theorem F1_ {ds : List D} {p : Pt} : F_law.getD 1 badF ds p = m__law_of ds p := rfl
theorem F2_ {ds : List D} {p : Pt} : F_law.getD 2 badF ds p = m__law_three ds p := rfl
theorem F3 {ds : List D} {p : Pt} : F_law.getD 3 badF ds p = m_three_square ds p := rfl
theorem F4 {ds : List D} {p : Pt} : F_law.getD 4 badF ds p = m__law_line_sums ds p := rfl
theorem F5 {ds : List D} {p : Pt} : F_law.getD 5 badF ds p = m_is_even_square ds p := rfl
theorem F6 {ds : List D} {p : Pt} : F_law.getD 6 badF ds p = m__law_turned ds p := rfl
theorem F7 {ds : List D} {p : Pt} : F_law.getD 7 badF ds p = m_three_parts ds p := rfl
theorem F8 {ds : List D} {p : Pt} : F_law.getD 8 badF ds p = m_is_broken_even ds p := rfl
theorem F9 {ds : List D} {p : Pt} : F_law.getD 9 badF ds p = m__law_number ds p := rfl
theorem F10 {ds : List D} {p : Pt} : F_law.getD 10 badF ds p = m_three_number ds p := rfl
theorem F11 {ds : List D} {p : Pt} : F_law.getD 11 badF ds p = m_three_unlike ds p := rfl
theorem F12 {ds : List D} {p : Pt} : F_law.getD 12 badF ds p = m_threes_listed ds p := rfl
theorem gb {g y : Int} (g0 : 1 ≤ g) (g1 : g ≤ 10 ^ 21) (y0 : -300000000 ≤ y) (y1 : y ≤ 300000000) : bd (g * y) := by
  have a := Int.mul_le_mul_of_nonneg_left y1 (show (0 : Int) ≤ g by omega)
  have b := Int.mul_le_mul_of_nonneg_left y0 (show (0 : Int) ≤ g by omega)
  have c := Int.mul_le_mul_of_nonneg_right g1 (show (0 : Int) ≤ 300000000 by decide)
  constructor <;> omega
theorem nbd {x : Int} (h : bd x) : bd (-x) := ⟨by have := h.2; omega, by have := h.1; omega⟩
theorem trn_ok {a b : Int} : ∀ (kn : Nat), kn < 8 → bd a → bd b → ∃ a' b', trn kn a b = (a', b') ∧ bd a' ∧ bd b' ∧ ((a' = 0 ∧ b' = 0) ↔ (a = 0 ∧ b = 0))
  | 0, _, ha, hb => ⟨a, b, rfl, ha, hb, by omega⟩
  | 1, _, ha, hb => ⟨-b, a, rfl, nbd hb, ha, by omega⟩
  | 2, _, ha, hb => ⟨-a, -b, rfl, nbd ha, nbd hb, by omega⟩
  | 3, _, ha, hb => ⟨b, -a, rfl, hb, nbd ha, by omega⟩
  | 4, _, ha, hb => ⟨a, -b, rfl, ha, nbd hb, by omega⟩
  | 5, _, ha, hb => ⟨b, a, rfl, hb, ha, by omega⟩
  | 6, _, ha, hb => ⟨-a, b, rfl, nbd ha, hb, by omega⟩
  | 7, _, ha, hb => ⟨-b, -a, rfl, nbd hb, nbd ha, by omega⟩
def ex_eab : Ex := .comp [8] (.nm 8) (.rng1 (.c (.int 3))) .non (.bin .mul (.var 4) (.bin .sub (.calP 1 1 (ES [(.bin .add (.bin .mul (.c (.int 2)) (.var 3)) (.c (.int 1)))])) (.var 3)))
theorem eab (t : D) (x7 : SV) {top g : Int} (t0 : 1 ≤ top) (t1 : top ≤ 300000000) (g0 : 1 ≤ g) (g1 : g ≤ 10 ^ 21) (s2 : Pot) :
    ∃ (e a b : Int) (s3 : Pot), bd e ∧ bd a ∧ bd b ∧ ev F_law ex_eab (((env (.sh t) x7).set 3 (.sh (.int top))).set 4 (.sh (.int g))) (some s2) = .ok (.list [.int e, .int a, .int b]) (some s3) := by
  obtain ⟨y1, s3, p1, p2, k1⟩ := m_draw (n := 2 * top + 1) (by omega) (by omega) s2
  obtain ⟨y2, s4, p3, p4, k2⟩ := m_draw (n := 2 * top + 1) (by omega) (by omega) s3
  obtain ⟨y3, s5, p5, p6, k3⟩ := m_draw (n := 2 * top + 1) (by omega) (by omega) s4
  refine ⟨g * (y1 - top), g * (y2 - top), g * (y3 - top), s5, gb g0 g1 (by omega) (by omega), gb g0 g1 (by omega) (by omega), gb g0 g1 (by omega) (by omega), ?_⟩
  have a1 : sm 2 = true := by decide
  have a2 : sm top = true := sm_b (by omega) (by omega)
  have a3 : sm g = true := sm_b (by omega) (by omega)
  have b1 : sm (y1 - top) = true := sm_b (by omega) (by omega)
  have b2 : sm (y2 - top) = true := sm_b (by omega) (by omega)
  have b3 : sm (y3 - top) = true := sm_b (by omega) (by omega)
  have turn : ∀ (d : D) (y : Int) (s s' : Pot), m__law_of [.int (2 * top + 1)] (some s) = .ok (.int y) (some s') → sm (y - top) = true →
      ev F_law (.bin .mul (.var 4) (.bin .sub (.calP 1 1 (ES [(.bin .add (.bin .mul (.c (.int 2)) (.var 3)) (.c (.int 1)))])) (.var 3))) ((((env (.sh t) x7).set 3 (.sh (.int top))).set 4 (.sh (.int g))).set 8 (.sh d)) (some s) = .ok (.int (g * (y - top))) (some s') := fun d y s s' k b => by
    simp [ev, evs, ES, env, bop, a1, a2, a3, F1_, k, b]
  have w : ∀ d : D, bindT (.nm 8) d (wipes (((env (.sh t) x7).set 3 (.sh (.int top))).set 4 (.sh (.int g))) [8]) = some ((((env (.sh t) x7).set 3 (.sh (.int top))).set 4 (.sh (.int g))).set 8 (.sh d)) := fun d => by
    simp [bT_nm, wipes, env]
  unfold ex_eab
  rw [ev]
  have hr : evI F_law (.rng1 (.c (.int 3))) (((env (.sh t) x7).set 3 (.sh (.int top))).set 4 (.sh (.int g))) (some s2) = .ok [.int 0, .int 1, .int 2] (some s2) := by simp [evI, ev, rb, rngL]
  rw [hr, bind_ok, if_pos (by decide)]
  simp only [compL, w, bind_ok]
  simp only [evO, bind_ok, turn _ _ _ _ k1 b1, turn _ _ _ _ k2 b2, turn _ _ _ _ k3 b3, bind_ok, noE_ok]
theorem shp_ints8 (x : Int) : shp (.list (List.replicate 8 (.int x))) = true := by
  simp [shp, SeqAt.shaped, PyData.canLay0, PyData.canLayAll0, PyData.depth, PyData.depthAll, List.replicate]
theorem m_parts_sq (e a b : Int) (p : Pt) : m_three_parts [sq e a b] p = .ok (.tuple [.int e, .int a, .int b]) p := by
  have h := m_parts (e - a) (e + a + b) (e - b) (e + a - b) e (e - a + b) (e + b) (e - a - b) (e + a) p
  rw [show e - (e - a) = a by omega, show e - (e - b) = b by omega] at h
  exact h
theorem ne_rep (x : Int) : cop .ne (.list (List.replicate 8 (.int x))) (.list (Mi.rep 8 [.int x])) = some false := by
  have h1 : shp (.list (List.replicate 8 (.int x))) = true := by
    have := shp_ints8 x
    exact this
  have h2 : (Mi.rep 8 [PyData.int x] : List D) = List.replicate 8 (.int x) := rfl
  rw [h2]
  have h3 : eqD (.list (List.replicate 8 (.int x))) (.list (List.replicate 8 (.int x))) = some true := by
    simp only [eqD, h1, Bool.and_self, if_true]
    simp [PyData.eqv, PyData.eqvAll, List.replicate]
  simp only [cop]
  rw [h3]
  rfl
theorem ev_or_ff {F : List Fn} {a b : Ex} {ρ : Env} {p p' p'' : Pt} (h1 : ev F a ρ p = .ok (.bool false) p') (h2 : ev F b ρ p' = .ok (.bool false) p'') : ev F (.or a b) ρ p = .ok (.bool false) p'' := by
  rw [ev, h1, bind_ok]
  exact h2
theorem ev_ne_repr {F : List Fn} {a b : Ex} {ρ : Env} {p p' p'' : Pt} {d : D} (h1 : ev F a ρ p = .ok d p') (h2 : ev F b ρ p' = .ok d p'') (hl : lightD d = true) : ev F (.cmp .ne (.fn1 .repr a) (.fn1 .repr b)) ρ p = .ok (.bool false) p'' := by
  simp only [ev, h1, bind_ok, f1, hl, if_true, lift_some, h2, str_ne, Option.map_some]
theorem num_b {x : Int} (h : okS x) : (-(10 ^ 80) < numD x ∧ numD x < 10 ^ 80) ∧ -(10 ^ 80) < unlD x ∧ unlD x < 10 ^ 80 := by
  obtain ⟨h1, h2⟩ := id h
  have e := mul_le (x := 2 * (x / 3)) (y := x / 3) (a := 10 ^ 31) (b := 10 ^ 31) (by omega) (by omega) (by omega) (by omega)
  refine ⟨?_, ?_⟩
  · unfold numD
    split <;> omega
  · unfold unlD
    split
    · omega
    · rename_i c
      have := sq_b h (by omega)
      omega
theorem cop_eq_int (i j : Int) : cop .eq (.int i) (.int j) = some (decide (i = j)) := rfl
theorem cop_ne_int (i j : Int) : cop .ne (.int i) (.int j) = some (!decide (i = j)) := rfl
theorem cop_isnt (a b : Bool) : cop .isnt (.bool a) (.bool b) = some (!(a == b)) := rfl
theorem ne_rep8 (x : Int) : cop .ne (.list [.int x, .int x, .int x, .int x, .int x, .int x, .int x, .int x]) (.list (Mi.rep 8 [.int x])) = some false := ne_rep x
theorem body_ok (t : D) (x7 : SV) (s0 : Pot) : ∃ ρ' s', runs F_law turnB (env (.sh t) x7) (some s0) = .ok (.nx ρ') (some s') ∧ ∃ y7, wipes ρ' [2, 3, 4, 5, 6, 9, 10, 11, 12, 13, 14, 15] = env .no y7 := by
  -- top
  obtain ⟨dt, s1, ct, h1⟩ := m_one3 (.int 5) (.int 1000) (.int 300000000) s0
  obtain ⟨top, rfl, t0, t1⟩ : ∃ top : Int, dt = .int top ∧ 1 ≤ top ∧ top ≤ 300000000 := by rcases ct with rfl | rfl | rfl <;> exact ⟨_, rfl, by decide, by decide⟩
  -- great
  obtain ⟨g, s2, g0, g1, h2⟩ : ∃ (g : Int) (s2 : Pot), 1 ≤ g ∧ g ≤ 10 ^ 21 ∧ ev F_law (.ife (.cmp .gt (.var 3) (.c (.int 1000))) (.calP 0 1 (ES [(.lst (ES [(.c (.int 1)), (.c (.int 1)), (.bin .pow (.c (.int 10)) (.c (.int 21)))]))])) (.c (.int 1))) ((env (.sh t) x7).set 3 (.sh (.int top))) (some s1) = .ok (.int g) (some s2) := by
    by_cases c : 1000 < top
    · obtain ⟨dg, s2, cg, h2⟩ := m_one3 (.int 1) (.int 1) (.int (10 ^ 21)) s1
      obtain ⟨g, rfl, g0, g1⟩ : ∃ g : Int, dg = .int g ∧ 1 ≤ g ∧ g ≤ 10 ^ 21 := by rcases cg with rfl | rfl | rfl <;> exact ⟨_, rfl, by decide, by decide⟩
      refine ⟨g, s2, g0, g1, ?_⟩
      have h2' : m__law_one [.list [.int 1, .int 1, .int 1000000000000000000000]] (some s1) = .ok (.int g) (some s2) := h2
      simp [ev, evs, ES, env, cop, c, bop, F0, h2']
    · refine ⟨1, s1, by decide, by decide, ?_⟩
      simp [ev, env, cop, c]
  obtain ⟨e, a, b, s3, he, ha, hb, h3⟩ := eab t x7 t0 t1 g0 g1 s2
  -- the turned one
  obtain ⟨kx, s4, k0, k8, h4⟩ := m_draw (n := 8) (by decide) (by decide) s3
  obtain ⟨kn, rfl⟩ : ∃ kn : Nat, kx = kn := ⟨kx.toNat, by omega⟩
  have hkn : kn < 8 := by omega
  have ht := m_turned e a b kn hkn
  obtain ⟨a', b', htr, ha', hb', hz⟩ := trn_ok kn hkn ha hb
  rw [htr] at ht
  dsimp only at ht
  -- the number
  obtain ⟨dn, s5, cn, h5⟩ := m_one3 (.int 50) (.int (10 ^ 6)) (.int (10 ^ 9)) s4
  obtain ⟨nn, rfl, n0, n1⟩ : ∃ n : Int, dn = .int n ∧ 1 ≤ n ∧ n ≤ 10 ^ 9 := by rcases cn with rfl | rfl | rfl <;> exact ⟨_, rfl, by decide, by decide⟩
  obtain ⟨xs, s6, x0, x1, h6⟩ := m_draw (n := nn) n0 (by omega) s5
  obtain ⟨dm, s7, cm, h7⟩ := m_one3 (.int 1) (.int 3) (.int (3 * 10 ^ 20)) s6
  obtain ⟨mm, rfl, m0, m1⟩ : ∃ n : Int, dm = .int n ∧ 1 ≤ n ∧ n ≤ 3 * 10 ^ 20 := by rcases cm with rfl | rfl | rfl <;> exact ⟨_, rfl, by decide, by decide⟩
  have okn : okS (xs * mm) := by
    have := mul_le x0 (show xs ≤ 10 ^ 9 by omega) (show 0 ≤ mm by omega) m1
    exact ⟨this.1, by omega⟩
  have ls := l_two he ha hb he ha hb
  have lt := l_two he ha hb he ha' hb'
  have lp := l_trip he ha hb he ha' hb'
  have c3 : sm 3 = true := by decide
  have c8 : sm 100000000 = true := by decide
  have c20 : sm 100000000000000000000 = true := by decide
  have ce : sm e = true := sm_b (by have := he.1; omega) (by have := he.2; omega)
  have cx : sm xs = true := sm_b (by omega) (by omega)
  have cm' : sm mm = true := sm_b (by omega) (by omega)
  have h5' : m__law_one [.list [.int 50, .int 1000000, .int 1000000000]] (some s4) = .ok (.int nn) (some s5) := h5
  have h7' : m__law_one [.list [.int 1, .int 3, .int 300000000000000000000]] (some s6) = .ok (.int mm) (some s7) := h7
  have ok80 : ∀ {x : Int}, okS x → (-(10 ^ 80) < numD x ∧ numD x < 10 ^ 80) ∧ -(10 ^ 80) < unlD x ∧ unlD x < 10 ^ 80 := fun {x} h => num_b h
  have lf := l_four (ok80 okn).1 (ok80 okn).2
  refine ⟨[.no, .po, .sh t, .sh (.int top), .sh (.int g), .sh (.int e), .sh (.int a), .sh (.int b), .no, .sh (sq e a b), .sh (sq e a' b'), .sh (.str (PyData.list [sq e a b, sq e a' b']).shown), .sh (.tuple [.int e, .int a', .int b']), .sh (.list [.int (numD (xs * mm)), .int (unlD (xs * mm)), .int (numD (xs * mm)), .int (unlD (xs * mm))]), .sh (.int (xs * mm)), .sh (.list [.int (numD (xs * mm)), .int (unlD (xs * mm))]), .no, .no, .no, .no], s7, ?_, .sh (.int b), by simp [wipes, env]⟩
  refine (rs_set (d := .int top) (p' := some s1) (by simp [ev, evs, ES, env, F0, bop, c3, c8, h1])).trans ?_
  refine (rs_set (d := .int g) (p' := some s2) h2).trans ?_
  refine (rs_unp (p' := some s3) (ρ' := [.no, .po, .sh t, .sh (.int top), .sh (.int g), .sh (.int e), .sh (.int a), .sh (.int b), .no, .no, .no, .no, .no, .no, .no, .no, .no, .no, .no, .no]) h3 (by simp [TS, bT_lst, bTs_cons, bTs_nil, bT_nm, env])).trans ?_
  refine (rs_set (d := sq e a b) (p' := some s3) (by simp [ev, evs, ES, F2_, m_lthree])).trans ?_
  refine (rs_no0 (p' := some s3) (by simp [ev, evs, ES, F3, m_three, f1, ls, str_ne])).trans ?_
  refine (rs_no0 (p' := some s3) (by simp [ev, evs, ES, F4, F5, m_lsums, sq_even, bop, c3, ce, ne_rep8, cop_isnt, lim])).trans ?_
  refine (rs_set (d := sq e a' b') (p' := some s4) (by simp [ev, evs, ES, F6, F1_, h4, ht])).trans ?_
  refine (rs_set (d := .str (PyData.list [sq e a b, sq e a' b']).shown) (p' := some s4) (by simp [ev, evs, ES, f1, lt])).trans ?_
  refine (rs_set (d := .tuple [.int e, .int a', .int b']) (p' := some s4) (by simp [ev, evs, ES, sq, t3, ixD, items, ixN, bop, Int.sub_sub_self])).trans ?_
  refine (rs_set (d := .list [.tuple [.int e, .int a, .int b], .tuple [.int e, .int a', .int b'], .tuple [.int e, .int a', .int b']]) (p' := some s4) (by simp [ev, evs, ES, F7, m_parts_sq])).trans ?_
  refine (rs_no0 (p' := some s4) (by simp [ev, evs, ES, f1, lp, str_ne, F2_, m_lthree, ne_sq, ixD, items, ixN])).trans ?_
  refine (rs_no0 (p' := some s4) ?_).trans ?_
  · have hbe : ∀ p, m_is_broken_even [sq e a' b'] p = .ok (.bool (decide (a = 0 ∧ b = 0))) p := fun p => by
      rw [sq_beven]
      congr 2
      exact decide_eq_decide.mpr hz
    have key : ∀ bb : Bool, bb = decide (a = 0 ∧ b = 0) → ev F_law (.and (.cmp .eq (.var 6) (.c (.int 0))) (.cmp .eq (.var 7) (.c (.int 0)))) [.no, .po, .sh t, .sh (.int top), .sh (.int g), .sh (.int e), .sh (.int a), .sh (.int b), .no, .sh (sq e a b), .sh (sq e a' b'), .sh (.str (PyData.list [sq e a b, sq e a' b']).shown), .sh (.tuple [.int e, .int a', .int b']), .sh (.list [.tuple [.int e, .int a, .int b], .tuple [.int e, .int a', .int b'], .tuple [.int e, .int a', .int b']]), .no, .no, .no, .no, .no, .no] (some s4) = .ok (.bool bb) (some s4) := fun bb hbb => by
      subst hbb
      by_cases a0 : a = 0
      · by_cases b0 : b = 0 <;> simp [ev, cop_eq_int, a0, b0]
      · simp [ev, cop_eq_int, a0]
    generalize hq : decide (a = 0 ∧ b = 0) = bb at hbe key
    have key := key bb rfl
    exact ev_or_ff (ev_ne_repr (d := .bool bb) (p' := some s4) (by simp [ev, evs, ES, F8, hbe]) key (l_bool bb)) (by simp [ev, evs, ES, f1, lt, str_ne])
  refine (rs_set (d := .int (xs * mm)) (p' := some s7) (by simp [ev, evs, ES, F0, F1_, bop, h5', h6, h7', c3, c20, cx, cm'])).trans ?_
  refine (rs_set (d := .list [.int (numD (xs * mm)), .int (unlD (xs * mm))]) (p' := some s7) (by simp [ev, evs, ES, F9, m_lnum _ okn, f1])).trans ?_
  refine (rs_set (d := .list [.int (numD (xs * mm)), .int (unlD (xs * mm)), .int (numD (xs * mm)), .int (unlD (xs * mm))]) (p' := some s7) (by simp [ev, evs, ES, F10, F11, m_num _ okn, m_unl _ okn])).trans ?_
  refine (rs_no0 (p' := some s7) (by simp [ev, evs, ES, f1, lf, bop, str_ne, ixD, items, ixN, unl8, cop_ne_int, lim])).trans ?_
  exact rs_nil
end Mi

namespace Mi
open PySem
def rngI (lo : Int) : Nat → List Int
  | 0 => []
  | n + 1 => lo :: rngI (lo + 1) n
theorem rngL_map : ∀ (n : Nat) (lo : Int), rngL lo n = (rngI lo n).map .int
  | 0, _ => rfl
  | n + 1, lo => by rw [rngL, rngI, List.map_cons, rngL_map n]
theorem rngI_len : ∀ (n : Nat) (lo : Int), (rngI lo n).length = n
  | 0, _ => rfl
  | n + 1, lo => by rw [rngI, List.length_cons, rngI_len n]
theorem rngI_mem : ∀ (n : Nat) (lo x : Int), x ∈ rngI lo n → lo ≤ x ∧ x < lo + n
  | n + 1, lo, x, h => by
    rcases List.mem_cons.mp h with e | e
    · omega
    · have := rngI_mem n (lo + 1) x e
      omega
def absI (a : Int) : Int := if a < 0 then -a else a
def row (e a : Int) : List D := (rngI (absI a - e) (2 * (e - absI a) + 1).toNat).map (sq e a)
def allS (e : Int) : List D := (rngI (-e) (2 * e + 1).toNat).flatMap (row e)
/-- of nine unlike integers -/
def pun : D → Bool
  | .tuple [.tuple [.int a, .int b, .int c], .tuple [.int d, .int e, .int f], .tuple [.int g, .int h, .int i]] => decide (((dedI [a, b, c, d, e, f, g, h, i]).length : Int) = 9)
  | _ => false
theorem fin_all : ∀ e : Nat, e < 16 → ((allS e).length : Int) = 2 * e * e + 2 * e + 1 ∧ (((allS e).filter pun).length : Int) = (if e = 0 then 0 else 8 * (((e : Int) - 1) * (e - 1) / 4 - e / 3)) := by decide +kernel
end Mi

namespace Mi
open PySem
theorem alike_sq (e a b e' a' b' : Int) : PySem.W.alike (sq e a b) (sq e' a' b') = true := by
  simp [sq, t3, PySem.W.alike, PySem.W.alikeAll]
theorem mem_all {e : Int} {d : D} (h : d ∈ allS e) : ∃ a b, d = sq e a b ∧ -e ≤ a ∧ a ≤ e ∧ -e ≤ b ∧ b ≤ e := by
  obtain ⟨a, ha, hd⟩ := List.mem_flatMap.mp h
  obtain ⟨b, hb, rfl⟩ := List.mem_map.mp hd
  have h1 := rngI_mem _ _ _ ha
  have h2 := rngI_mem _ _ _ hb
  refine ⟨a, b, rfl, by omega, by omega, ?_, ?_⟩ <;> (unfold absI at h2; split at h2 <;> omega)
def srt (e : Int) : List D := (allS e).mergeSort (PySem.W.dataLe false id)
theorem mem_srt {e : Int} {d : D} (h : d ∈ srt e) : ∃ a b, d = sq e a b ∧ -e ≤ a ∧ a ≤ e ∧ -e ≤ b ∧ b ≤ e := mem_all ((List.mergeSort_perm _ _).mem_iff.mp h)
theorem sort_all {e : Int} (hl : (allS e).length ≤ lim) (hn : allS e ≠ []) : sortD (allS e) = some (srt e) := by
  have ha : asInts (allS e) = none := by
    cases h : allS e with
    | nil => exact absurd h hn
    | cons d ds =>
      obtain ⟨a, b, rfl, _⟩ := mem_all (e := e) (d := d) (by rw [h]; exact List.mem_cons_self)
      simp [asInts, sq, t3]
  have hs : srtOk (allS e) = true := by
    unfold srtOk
    rw [Bool.and_eq_true]
    refine ⟨List.all_eq_true.mpr fun d hd => ?_, List.all_eq_true.mpr fun d hd => ?_⟩
    · obtain ⟨a, b, rfl, _⟩ := mem_all hd
      rfl
    · obtain ⟨a, b, rfl, _⟩ := mem_all hd
      rw [Bool.and_eq_true]
      refine ⟨by rw [dep_sq]; decide, List.all_eq_true.mpr fun d' hd' => ?_⟩
      obtain ⟨a', b', rfl, _⟩ := mem_all hd'
      exact alike_sq ..
  unfold sortD
  rw [if_pos hl, ha]
  show (if srtOk _ = true then _ else _) = _
  rw [hs]
  rfl
theorem srt_len (e : Int) : (srt e).length = (allS e).length := (List.mergeSort_perm _ _).length_eq
theorem srt_fil (e : Int) : ((srt e).filter pun).length = ((allS e).filter pun).length := ((List.mergeSort_perm _ _).filter pun).length_eq
/-- what listed gives -/
def due (s : Int) : List D := if s % 3 = 0 then srt (s / 3) else []
theorem wDs_le {k : Nat} : ∀ {ds : List D}, (∀ d ∈ ds, wD d ≤ k) → wDs ds ≤ ds.length * (k + 2)
  | [], _ => by rw [wN]; omega
  | d :: ds, h => by
    have h1 := h d List.mem_cons_self
    have h2 := wDs_le fun d hd => h d (List.mem_cons_of_mem _ hd)
    rw [wC, List.length_cons, Nat.succ_mul]
    omega
theorem dep_le {k : Nat} : ∀ {ds : List D}, (∀ d ∈ ds, d.depth ≤ k) → PyData.depthAll ds ≤ k
  | [], _ => by simp [PyData.depthAll]
  | d :: ds, h => by
    have h1 := h d List.mem_cons_self
    have h2 := dep_le fun d hd => h d (List.mem_cons_of_mem _ hd)
    simp only [PyData.depthAll]
    omega
theorem due_mem {s : Int} {d : D} (h : d ∈ due s) : ∃ a b, d = sq (s / 3) a b ∧ -(s / 3) ≤ a ∧ a ≤ s / 3 ∧ -(s / 3) ≤ b ∧ b ≤ s / 3 := by
  unfold due at h
  split at h
  · exact mem_srt h
  · cases h
theorem due_len {s : Int} (h0 : 0 ≤ s) (h1 : s < 46) : ((due s).length : Int) = numD s ∧ (due s).length ≤ 481 ∧ (((due s).filter pun).length : Int) = unlD s := by
  unfold due numD unlD
  by_cases c : s % 3 = 0
  · obtain ⟨e, he⟩ : ∃ e : Nat, s / 3 = e := ⟨(s / 3).toNat, by omega⟩
    have hlt : e < 16 := by omega
    obtain ⟨f1, f2⟩ := fin_all e hlt
    rw [if_pos c, he, srt_fil]
    have f3 := srt_len (e : Int)
    rw [f3]
    have hz : (2 * e * e + 2 * e + 1 : Int) ≤ 481 := by
      have := mul_le (x := (e : Int)) (y := (e : Int)) (a := 15) (b := 15) (by omega) (by omega) (by omega) (by omega)
      rw [Int.mul_assoc]
      omega
    refine ⟨by rw [f1]; simp [c], by omega, ?_⟩
    rw [f2]
    by_cases e0 : e = 0
    · have s0 : s = 0 := by omega
      simp [e0, s0]
    · have s0 : ¬ s = 0 := by omega
      simp [e0, s0, c]
  · simp [c]
theorem l_due {s : Int} (h0 : 0 ≤ s) (h1 : s < 46) : lightD (.list [.tuple (due s), .tuple (due s)]) = true := by
  obtain ⟨a1, a2, a3⟩ := due_len h0 h1
  have hw : ∀ d ∈ due s, wD d ≤ 4000 := fun d hd => by
    obtain ⟨a, b, rfl, b1, b2, b3, b4⟩ := due_mem hd
    exact w_sq ⟨by omega, by omega⟩ ⟨by omega, by omega⟩ ⟨by omega, by omega⟩
  have hd : ∀ d ∈ due s, d.depth ≤ 2 := fun d hd => by
    obtain ⟨a, b, rfl, _⟩ := due_mem hd
    rw [dep_sq]; exact Nat.le_refl _
  have w := wDs_le hw
  have dp := dep_le hd
  have w2 : (due s).length * (4000 + 2) ≤ 481 * 4002 := Nat.mul_le_mul_right _ a2
  have h3 : (PyData.list [.tuple (due s), .tuple (due s)]).depth ≤ 60 := by
    simp only [PyData.depth, PyData.depthAll]
    omega
  have h4 : wD (.list [.tuple (due s), .tuple (due s)]) ≤ 16000000 := by
    simp only [wL, wT, wC, wN]
    omega
  unfold lightD
  rw [decide_eq_true h3, decide_eq_true h4]
  rfl
end Mi

namespace Mi
open PySem
section
variable {F : List Fn} {ρ : Env} {p : Pt} {own : List Nat} {tg : Tg} {it : It} {elt c : Ex} {ds : List D}
theorem comp_map {g : D → D} (hI : evI F it ρ p = .ok ds p) (hl : ds.length ≤ lim) (hf : ∀ d ∈ ds, ∃ ρ', bindT tg d (wipes ρ own) = some ρ' ∧ ev F elt ρ' p = .ok (g d) p) : ev F (.comp own tg it .non elt) ρ p = .ok (.list (ds.map g)) p := by
  rw [ev, hI, bind_ok, if_pos hl, compL_map (g := fun d => some (g d)) fun d hd => ?_, bind_ok]
  · congr 2
    clear hf hI hl
    induction ds with
    | nil => rfl
    | cons d ds ih => simp [List.filterMap_cons]
  · obtain ⟨ρ', h1, h2⟩ := hf d hd
    simp only [h1, evO, bind_ok, h2, noE_ok]
theorem comp_fil {g : D → D} {P : D → Bool} (hI : evI F it ρ p = .ok ds p) (hl : ds.length ≤ lim) (hf : ∀ d ∈ ds, ∃ ρ', bindT tg d (wipes ρ own) = some ρ' ∧ ev F c ρ' p = .ok (.bool (P d)) p ∧ ev F elt ρ' p = .ok (g d) p) :
    ev F (.comp own tg it (.som c) elt) ρ p = .ok (.list ((ds.filter P).map g)) p := by
  rw [ev, hI, bind_ok, if_pos hl, compL_map (g := fun d => if P d = true then some (g d) else none) fun d hd => ?_, bind_ok]
  · congr 2
    clear hf hI hl
    induction ds with
    | nil => rfl
    | cons d ds ih =>
      by_cases hp : P d = true
      · simp [hp, ih]
      · simp [hp, ih]
  · obtain ⟨ρ', h1, h2, h3⟩ := hf d hd
    cases hp : P d with
    | true => simp only [h1, evO, bind_ok, h2, h3, hp, noE_ok, if_true]
    | false => simp only [h1, evO, bind_ok, h2, h3, hp, noE_ok]; rfl
end
/-! ### the list by steps -/
theorem row_map (e a : Int) : (rngL (absI a - e) (2 * (e - absI a) + 1).toNat).map (fun d => match d with | .int b => sq e a b | _ => .none) = row e a := by
  rw [rngL_map, List.map_map]
  rfl
theorem row_len (e a : Int) : (row e a).length = (2 * (e - absI a) + 1).toNat := by
  unfold row
  rw [List.length_map, rngI_len]
def ex_row : Ex := .comp [7] (.nm 7) (.rng2 (.bin .sub (.fn1 .abs (.var 6)) (.var 5)) (.bin .add (.bin .sub (.var 5) (.fn1 .abs (.var 6))) (.c (.int 1)))) .non (.cal 2 (ES [(.var 5), (.var 6), (.var 7)]))
def env2 (s e : Int) (x6 x7 : SV) (acc : List D) : Env := [.no, .po, .no, .no, .no, .sh (.int e), x6, x7, .no, .no, .no, .no, .no, .no, .sh (.int s), .no, .ow acc, .no, .no, .no]
theorem absI_b {a e : Int} (h0 : -e ≤ a) (h1 : a ≤ e) : 0 ≤ absI a ∧ absI a ≤ e := by unfold absI; split <;> omega
theorem abs_f1 (a : Int) : f1 .abs (.int a) = some (.int (absI a)) := rfl
theorem ev_row {s e a : Int} {x7 : SV} {acc : List D} {p : Pt} (h0 : -e ≤ a) (h1 : a ≤ e) (he : e ≤ 15) : ev F_law ex_row (env2 s e (.sh (.int a)) x7 acc) p = .ok (.list (row e a)) p := by
  obtain ⟨b0, b1⟩ := absI_b h0 h1
  have c1 : rb (absI a - e) = true := by unfold rb; rw [decide_eq_true (by omega), decide_eq_true (by omega)]; rfl
  have c2 : rb (e - absI a + 1) = true := by unfold rb; rw [decide_eq_true (by omega), decide_eq_true (by omega)]; rfl
  have e1 : e - absI a + 1 - (absI a - e) = 2 * (e - absI a) + 1 := by omega
  unfold ex_row
  rw [← row_map]
  refine comp_map (by simp [evI, ev, env2, abs_f1, bop, c1, c2, e1]) (by rw [rngL_length]; have : lim = 4000000 := rfl; omega) fun d hd => ?_
  rw [rngL_map] at hd
  obtain ⟨b, hb, rfl⟩ := List.mem_map.mp hd
  exact ⟨_, bT_nm, by simp [ev, evs, ES, wipes, env2, F2_, m_lthree]⟩
def loopB : Sms := SS [.ext 16 ex_row]
theorem ev_loop {s e : Int} (he : e ≤ 15) : ∀ (n : Nat) (lo : Int) (x6 x7 : SV) (acc : List D) {p : Pt}, -e ≤ lo → lo + n ≤ e + 1 → acc.length + 31 * n ≤ 4000 →
    ∃ y6, forL (.nm 6) (runs F_law loopB) [6] (rngL lo n) (env2 s e x6 x7 acc) p = .ok (.nx (env2 s e y6 x7 (acc ++ (rngI lo n).flatMap (row e)))) p
  | 0, lo, x6, x7, acc, p, _, _, _ => ⟨.no, by simp [rngL, rngI, forL, wipes, env2]⟩
  | n + 1, lo, x6, x7, acc, p, h0, h1, h2 => by
    have hb := absI_b (a := lo) (e := e) h0 (by omega)
    have hlen : (row e lo).length ≤ 31 := by rw [row_len]; omega
    obtain ⟨y6, ih⟩ := ev_loop he n (lo + 1) (.sh (.int lo)) x7 (acc ++ row e lo) (p := p) (s := s) (by omega) (by omega) (by rw [List.length_append]; omega)
    refine ⟨y6, ?_⟩
    rw [rngL, rngI, List.flatMap_cons, ← List.append_assoc, ← ih]
    refine for_nx (ρ1 := env2 s e (.sh (.int lo)) x7 acc) (by simp [wipes, bT_nm, env2]) ?_
    exact (rs_ext (l := acc) (m := row e lo) (p' := p) rfl (ev_row h0 (by omega) he) (by have : lim = 4000000 := rfl; omega)).trans rs_nil
/-! ### the program's list -/
def ex_row2 : Ex := .comp [5] (.nm 5) (.rng2 (.neg (.var 4)) (.bin .add (.var 4) (.c (.int 1)))) .non (.cal 0 (ES [(.var 1), (.var 3), (.var 5)]))
def env3 (s e : Int) (x3 x4 : SV) (acc : List D) : Env := [.sh (.int s), .sh (.int e), .ow acc, x3, x4, .no]
theorem ev_row2 {s e a : Int} {acc : List D} {p : Pt} (h0 : -e ≤ a) (h1 : a ≤ e) (he : e ≤ 15) : ev [m_three_square] ex_row2 (env3 s e (.sh (.int a)) (.sh (.int (e - absI a))) acc) p = .ok (.list (row e a)) p := by
  obtain ⟨b0, b1⟩ := absI_b h0 h1
  have c1 : rb (absI a - e) = true := by unfold rb; rw [decide_eq_true (by omega), decide_eq_true (by omega)]; rfl
  have c2 : rb (e - absI a + 1) = true := by unfold rb; rw [decide_eq_true (by omega), decide_eq_true (by omega)]; rfl
  have e1 : e - absI a + 1 - (absI a - e) = 2 * (e - absI a) + 1 := by omega
  have e2 : -(e - absI a) = absI a - e := by omega
  unfold ex_row2
  rw [← row_map]
  refine comp_map (by simp only [evI, ev, env3, List.getElem?_cons_succ, List.getElem?_cons_zero, bind_ok, asInt, Option.map_some, lift_some, bop, e2, c1, c2, e1, Bool.and_self, if_true]) (by rw [rngL_length]; have : lim = 4000000 := rfl; omega) fun d hd => ?_
  rw [rngL_map] at hd
  obtain ⟨b, hb, rfl⟩ := List.mem_map.mp hd
  exact ⟨_, bT_nm, by simp [ev, evs, ES, wipes, env3, m_three]⟩
def loopB2 : Sms := SS [.set 4 (.bin .sub (.var 1) (.fn1 .abs (.var 3))), .ext 2 ex_row2]
theorem ev_loop2 {s e : Int} (he : e ≤ 15) : ∀ (n : Nat) (lo : Int) (x3 x4 : SV) (acc : List D) {p : Pt}, -e ≤ lo → lo + n ≤ e + 1 → acc.length + 31 * n ≤ 4000 →
    ∃ y3 y4, forL (.nm 3) (runs [m_three_square] loopB2) [3, 4] (rngL lo n) (env3 s e x3 x4 acc) p = .ok (.nx (env3 s e y3 y4 (acc ++ (rngI lo n).flatMap (row e)))) p
  | 0, lo, x3, x4, acc, p, _, _, _ => ⟨.no, .no, by simp [rngL, rngI, forL, wipes, env3]⟩
  | n + 1, lo, x3, x4, acc, p, h0, h1, h2 => by
    have hb := absI_b (a := lo) (e := e) h0 (by omega)
    have hlen : (row e lo).length ≤ 31 := by rw [row_len]; omega
    obtain ⟨y3, y4, ih⟩ := ev_loop2 he n (lo + 1) (.sh (.int lo)) (.sh (.int (e - absI lo))) (acc ++ row e lo) (p := p) (s := s) (by omega) (by omega) (by rw [List.length_append]; omega)
    refine ⟨y3, y4, ?_⟩
    rw [rngL, rngI, List.flatMap_cons, ← List.append_assoc, ← ih]
    refine for_nx (ρ1 := env3 s e (.sh (.int lo)) .no acc) (by simp [wipes, bT_nm, env3]) ?_
    refine (rs_set (d := .int (e - absI lo)) (p' := p) (by simp [ev, env3, abs_f1, bop])).trans ?_
    exact (rs_ext (l := acc) (m := row e lo) (p' := p) rfl (ev_row2 h0 (by omega) he) (by have : lim = 4000000 := rfl; omega)).trans rs_nil
end Mi

namespace Mi
open PySem
theorem rngAll {e : Int} (h0 : 0 ≤ e) (he : e ≤ 15) : (allS e).length ≤ 481 ∧ allS e ≠ [] := by
  obtain ⟨n, rfl⟩ : ∃ n : Nat, e = n := ⟨e.toNat, by omega⟩
  obtain ⟨f1, _⟩ := fin_all n (by omega)
  have := mul_le (x := (n : Int)) (y := (n : Int)) (a := 15) (b := 15) (by omega) (by omega) (by omega) (by omega)
  rw [Int.mul_assoc] at f1
  refine ⟨by omega, fun z => ?_⟩
  rw [z] at f1
  simp at f1
  omega
theorem sort_due {s : Int} (h0 : 0 ≤ s) (h1 : s < 46) : sortD (if s % 3 = 0 then allS (s / 3) else []) = some (due s) := by
  unfold due
  by_cases c : s % 3 = 0
  · rw [if_pos c, if_pos c]
    obtain ⟨a, b⟩ := rngAll (e := s / 3) (by omega) (by omega)
    exact sort_all (Nat.le_trans a (by decide)) b
  · rw [if_neg c, if_neg c]
    rfl
theorem m_listed {s : Int} (h0 : 0 ≤ s) (h1 : s < 46) (p : Pt) : m_threes_listed [.int s] p = .ok (.tuple (due s)) p := by
  have a3 : dv 3 = true := by decide
  have sd := sort_due h0 h1
  refine fn_rt ?_
  by_cases c : s % 3 = 0
  · rw [if_pos c] at sd
    have c1 : rb (-(s / 3)) = true := by unfold rb; rw [decide_eq_true (by omega), decide_eq_true (by omega)]; rfl
    have c2 : rb (s / 3 + 1) = true := by unfold rb; rw [decide_eq_true (by omega), decide_eq_true (by omega)]; rfl
    have e1 : s / 3 + 1 - -(s / 3) = 2 * (s / 3) + 1 := by omega
    obtain ⟨y3, y4, lp⟩ := ev_loop2 (s := s) (e := s / 3) (by omega) (2 * (s / 3) + 1).toNat (-(s / 3)) .no .no [] (p := p) (by omega) (by omega) (by rw [List.length_nil]; omega)
    refine (rs_no0 (p' := p) (by simp [ev, bop, cop, eqD, c])).trans ?_
    refine (rs_par (l := [.int (s / 3), .list []]) (p' := p) (ρ' := env3 s (s / 3) .no .no []) (by simp [ev, evs, ES, bop, a3]) (by simp [setAll, env3])).trans ?_
    refine (rs_for (l := rngL (-(s / 3)) (2 * (s / 3) + 1).toNat) (p' := p) ?_ lp).trans ?_
    · simp only [evI, ev, env3, List.getElem?_cons_succ, List.getElem?_cons_zero, bind_ok, asInt, Option.map_some, lift_some, bop, c1, c2, e1, Bool.and_self, if_true]
    · refine rs_ret (p' := p) ?_
      have sd : sortD ((rngI (-(s / 3)) (2 * (s / 3) + 1).toNat).flatMap (row (s / 3))) = some (due s) := sd
      simp [ev, env3, f1, sd]
  · have hd : due s = [] := by unfold due; rw [if_neg c]
    rw [hd]
    exact rs_yesR (p' := p) (by simp [ev, bop, cop, eqD, c]) (rs_ret (p' := p) (by simp [ev, evs, ES]))
def env4 (s : Int) (x5 x6 x7 : SV) (acc : List D) (x17 x18 : SV) : Env := [.no, .po, .no, .no, .no, x5, x6, x7, .no, .no, .no, .no, .no, .no, .sh (.int s), .no, .ow acc, x17, x18, .no]
theorem pun_sq (e a b : Int) : pun (sq e a b) = decide (((dedI [e - a, e + a + b, e - b, e + a - b, e, e - a + b, e + b, e - a - b, e + a]).length : Int) = 9) := rfl
theorem tail_ok (x7 : SV) (s0 : Pot) : ∃ p, runs F_law tailB (env .no x7) (some s0) = .ok (.rt (.bool true)) p := by
  -- the number
  obtain ⟨s, s1, h0, h1, hs⟩ : ∃ (s : Int) (s1 : Pot), 0 ≤ s ∧ s < 46 ∧ ev F_law (.ife (.cmp .eq (.calP 1 1 (ES [(.c (.int 3))])) (.c (.int 0))) (.calP 1 1 (ES [(.c (.int 46))])) (.calP 1 1 (ES [(.c (.int 28))]))) (env .no x7) (some s0) = .ok (.int s) (some s1) := by
    obtain ⟨k, s1, k0, k1, h⟩ := m_draw (n := 3) (by decide) (by decide) s0
    by_cases c : k = 0
    · obtain ⟨s, s2, a0, a1, h2⟩ := m_draw (n := 46) (by decide) (by decide) s1
      exact ⟨s, s2, a0, a1, by simp [ev, evs, ES, env, F1_, h, h2, cop_eq_int, c]⟩
    · obtain ⟨s, s2, a0, a1, h2⟩ := m_draw (n := 28) (by decide) (by decide) s1
      exact ⟨s, s2, a0, by omega, by simp [ev, evs, ES, env, F1_, h, h2, cop_eq_int, c]⟩
  refine ⟨some s1, ?_⟩
  have a3 : dv 3 = true := by decide
  have okn : okS s := ⟨h0, by omega⟩
  obtain ⟨q1, q2, q3⟩ := due_len h0 h1
  refine (rs_set (d := .int s) (p' := some s1) hs).trans ?_
  refine (rs_own (l := []) (p' := some s1) (by simp [ev, evs, ES])).trans ?_
  -- what follows
  have rest : ∀ (x5 x6 : SV), runs F_law (SS [
      .set 17 (.fn1 .tuple (.fn1 .sorted (.bor 16))),
      .iff (.or (.cmp .ne (.fn1 .repr (.lst (ES [(.cal 12 (ES [(.var 14)])), (.calK 12 (ES [(.var 14)]) [0])]))) (.fn1 .repr (.lst (ES [(.var 17), (.var 17)])))) (.cmp .ne (.cal 10 (ES [(.var 14)])) (.fn1 .len (.var 17)))) (SS [
        .ret (.c (.bool false))]) (SS []),
      .set 18 (.comp [19] (.nm 19) (.ex (.var 17)) (.som (.cmp .eq (.fn1 .lenset (.bin .add (.bin .add (.idx (.var 19) (.c (.int 0))) (.idx (.var 19) (.c (.int 1)))) (.idx (.var 19) (.c (.int 2))))) (.c (.int 9)))) (.var 19)),
      .ret (.cmp .eq (.cal 11 (ES [(.var 14)])) (.fn1 .len (.var 18)))]) (env4 s x5 x6 x7 (if s % 3 = 0 then allS (s / 3) else []) .no .no) (some s1) = .ok (.rt (.bool true)) (some s1) := fun x5 x6 => by
    refine (rs_set (d := .tuple (due s)) (p' := some s1) (by simp [ev, env4, f1, sort_due h0 h1])).trans ?_
    refine (rs_no0 (p' := some s1) (ev_or_ff (p' := some s1) (ev_ne_repr (d := .list [.tuple (due s), .tuple (due s)]) (p' := some s1) (by simp [ev, evs, ES, env4, F12, m_listed h0 h1]) (by simp [ev, evs, ES, env4]) (l_due h0 h1)) (by simp [ev, evs, ES, env4, F10, m_num _ okn, f1, cop_ne_int, q1]))).trans ?_
    refine (rs_set (d := .list (((due s).filter pun).map id)) (p' := some s1) ?_).trans ?_
    · refine comp_fil (ds := due s) (by simp [evI, ev, env4, items]) (Nat.le_trans q2 (by decide)) fun d hd => ?_
      obtain ⟨a, b, rfl, _⟩ := due_mem hd
      refine ⟨_, bT_nm, ?_, by simp [ev, wipes, env4]⟩
      rw [pun_sq]
      simp [ev, wipes, env4, sq, t3, ixD, items, ixN, bop, lim, f1, asInts, cop_eq_int]
    · refine rs_ret (p' := some s1) ?_
      simp [ev, evs, ES, env4, F11, m_unl _ okn, f1, cop_eq_int, q3]
  by_cases c : s % 3 = 0
  · have c1 : rb (-(s / 3)) = true := by unfold rb; rw [decide_eq_true (by omega), decide_eq_true (by omega)]; rfl
    have c2 : rb (s / 3 + 1) = true := by unfold rb; rw [decide_eq_true (by omega), decide_eq_true (by omega)]; rfl
    have e1 : s / 3 + 1 - -(s / 3) = 2 * (s / 3) + 1 := by omega
    obtain ⟨y6, lp⟩ := ev_loop (s := s) (e := s / 3) (by omega) (2 * (s / 3) + 1).toNat (-(s / 3)) .no x7 [] (p := some s1) (by omega) (by omega) (by rw [List.length_nil]; omega)
    refine (rs_yesN (p' := some s1) (ρ' := env2 s (s / 3) y6 x7 ([] ++ (rngI (-(s / 3)) (2 * (s / 3) + 1).toNat).flatMap (row (s / 3)))) (p'' := some s1) (by simp [ev, bop, cop_eq_int, env, c]) ?_).trans ?_
    · refine (rs_set (d := .int (s / 3)) (p' := some s1) (by simp [ev, bop, env, a3])).trans ?_
      refine (rs_for (l := rngL (-(s / 3)) (2 * (s / 3) + 1).toNat) (p' := some s1) ?_ lp).trans rs_nil
      show evI F_law _ (env2 s (s / 3) .no x7 []) _ = _
      simp only [evI, ev, env2, List.getElem?_cons_succ, List.getElem?_cons_zero, bind_ok, asInt, Option.map_some, lift_some, bop, c1, c2, e1, Bool.and_self, if_true]
    · have r := rest (.sh (.int (s / 3))) y6
      rw [if_pos c] at r
      exact r
  · refine (rs_no0 (p' := some s1) (by simp [ev, bop, cop_eq_int, env, c])).trans ?_
    have r := rest .no .no
    rw [if_neg c] at r
    exact r
theorem loop_ok (x7 : SV) (s0 : Pot) : ∃ (y7 : SV) (s' : Pot), forL (.nm 2) (runs F_law turnB) [2, 3, 4, 5, 6, 9, 10, 11, 12, 13, 14, 15] [.int 0, .int 1, .int 2] (env .no x7) (some s0) = .ok (.nx (env .no y7)) (some s') := by
  have w : ∀ x7 t, bindT (.nm 2) t (wipes (env .no x7) [2, 3, 4, 5, 6, 9, 10, 11, 12, 13, 14, 15]) = some (env (.sh t) x7) := fun x7 t => by simp [bT_nm, wipes, env]
  have fw : ∀ {ρ : Env} {y7 : SV} {d : D}, wipes ρ [2, 3, 4, 5, 6, 9, 10, 11, 12, 13, 14, 15] = env .no y7 → bindT (.nm 2) d (wipes ρ [2, 3, 4, 5, 6, 9, 10, 11, 12, 13, 14, 15]) = some (env (.sh d) y7) := fun {ρ y7 d} h => by
    rw [h, bT_nm]
    rfl
  obtain ⟨r1, s1, k1, y1, w1⟩ := body_ok (.int 0) x7 s0
  obtain ⟨r2, s2, k2, y2, w2⟩ := body_ok (.int 1) y1 s1
  obtain ⟨r3, s3, k3, y3, w3⟩ := body_ok (.int 2) y2 s2
  refine ⟨y3, s3, ?_⟩
  refine (for_nx (w x7 _) k1).trans ?_
  refine (for_nx (fw w1) k2).trans ?_
  refine (for_nx (fw w2) k3).trans ?_
  rw [for_nil, w3]
theorem law_yes : ∀ ns : List Int, ns.length ≤ 63 → ∃ p, m_law ns = .ok (.bool true) p := fun ns _ => by
  obtain ⟨y7, s', h⟩ := loop_ok .no (pot1 ns)
  obtain ⟨p, ht⟩ := tail_ok y7 s'
  refine ⟨p, ?_⟩
  show (runs F_law ir_law (env .no .no) (some (pot1 ns))).bind _ = _
  rw [ir_law_eq, rs_for (l := [.int 0, .int 1, .int 2]) (p' := some (pot1 ns)) (by simp [evI, ev, rb, rngL]) h, ht]
  rfl
end Mi

open PySem PySem.W PyProof.Rows
set_option maxRecDepth 100000 in
set_option maxHeartbeats 0 in
theorem PySem.Challenge.cw_equalsums_k74_whole_main_threes_holds : PySem.Challenge.rw_equalsums_k74_whole_main_threes.Holds := by
  w_on; o_law; k_head; (case hw => w_witness2)
  k_fill
  refine Mi.walk_mi (k := 4) (l := PySem.Challenge.rw_equalsums_k74_whole_main_threes) rfl rfl ⟨rfl, by decide, by decide⟩ (fun w h Y => PySem.W.kIn_of Y) ?F
  case F =>
    intro w mg fa h KX G hmg
    have main := fun (tx : Law.Txt _) => Law.law_at (P := PySem.Challenge.pw_equalsums_k74_whole_main_threes) (w := w) tx KX G hmg Mi.law_yes
    have tx := main (by
      refine' ⟨⟨_, _, ?a__law_pot, L2.fun_mk ?l__law_pot ?c__law_pot ?p__law_pot⟩, ⟨_, _, ?a__law_of, L2.fun_mk ?l__law_of ?c__law_of ?p__law_of⟩, ⟨_, _, ?a_three_square, L2.fun_mk ?l_three_square ?c_three_square ?p_three_square⟩, ⟨_, _, ?a_three_parts, L2.fun_mk ?l_three_parts ?c_three_parts ?p_three_parts⟩, ⟨_, _, ?a_three_number, L2.fun_mk ?l_three_number ?c_three_number ?p_three_number⟩, ⟨_, _, ?a_three_unlike, L2.fun_mk ?l_three_unlike ?c_three_unlike ?p_three_unlike⟩, ⟨_, _, ?a_threes_listed, L2.fun_mk ?l_threes_listed ?c_threes_listed ?p_threes_listed⟩, ⟨_, _, ?a_line_sums, L2.fun_mk ?l_line_sums ?c_line_sums ?p_line_sums⟩, ⟨_, _, ?a_broken_sums, L2.fun_mk ?l_broken_sums ?c_broken_sums ?p_broken_sums⟩, ⟨_, _, ?a_is_even_square, L2.fun_mk ?l_is_even_square ?c_is_even_square ?p_is_even_square⟩, ⟨_, _, ?a_is_broken_even, L2.fun_mk ?l_is_broken_even ?c_is_broken_even ?p_is_broken_even⟩, ⟨_, _, ?a__law_one, L2.fun_mk ?l__law_one ?c__law_one ?p__law_one⟩, ⟨_, _, ?a__law_lines, L2.fun_mk ?l__law_lines ?c__law_lines ?p__law_lines⟩, ⟨_, _, ?a__law_line_sums, L2.fun_mk ?l__law_line_sums ?c__law_line_sums ?p__law_line_sums⟩, ⟨_, _, ?a__law_turned, L2.fun_mk ?l__law_turned ?c__law_turned ?p__law_turned⟩, ⟨_, _, ?a__law_three, L2.fun_mk ?l__law_three ?c__law_three ?p__law_three⟩, ⟨_, _, ?a__law_number, L2.fun_mk ?l__law_number ?c__law_number ?p__law_number⟩, ⟨_, _, ?a_law, L2.fun_mk ?l_law ?c_law ?p_law⟩, ?b_range, ?b_tuple, ?b_len, ?b_sorted, ?b_list, ?b_sum, ?b_repr, ?b_abs, ?b_set, ?b_int⟩
      (case a__law_pot => k_is); (case l__law_pot => k_is); (case c__law_pot => k_is); (case p__law_pot => k_is)
      (case a__law_of => k_is); (case l__law_of => k_is); (case c__law_of => k_is); (case p__law_of => k_is)
      (case a_three_square => k_is); (case l_three_square => k_is); (case c_three_square => k_is); (case p_three_square => k_is)
      (case a_three_parts => k_is); (case l_three_parts => k_is); (case c_three_parts => k_is); (case p_three_parts => k_is)
      (case a_three_number => k_is); (case l_three_number => k_is); (case c_three_number => k_is); (case p_three_number => k_is)
      (case a_three_unlike => k_is); (case l_three_unlike => k_is); (case c_three_unlike => k_is); (case p_three_unlike => k_is)
      (case a_threes_listed => k_is); (case l_threes_listed => k_is); (case c_threes_listed => k_is); (case p_threes_listed => k_is)
      (case a_line_sums => k_is); (case l_line_sums => k_is); (case c_line_sums => k_is); (case p_line_sums => k_is)
      (case a_broken_sums => k_is); (case l_broken_sums => k_is); (case c_broken_sums => k_is); (case p_broken_sums => k_is)
      (case a_is_even_square => k_is); (case l_is_even_square => k_is); (case c_is_even_square => k_is); (case p_is_even_square => k_is)
      (case a_is_broken_even => k_is); (case l_is_broken_even => k_is); (case c_is_broken_even => k_is); (case p_is_broken_even => k_is)
      (case a__law_one => k_is); (case l__law_one => k_is); (case c__law_one => k_is); (case p__law_one => k_is)
      (case a__law_lines => k_is); (case l__law_lines => k_is); (case c__law_lines => k_is); (case p__law_lines => k_is)
      (case a__law_line_sums => k_is); (case l__law_line_sums => k_is); (case c__law_line_sums => k_is); (case p__law_line_sums => k_is)
      (case a__law_turned => k_is); (case l__law_turned => k_is); (case c__law_turned => k_is); (case p__law_turned => k_is)
      (case a__law_three => k_is); (case l__law_three => k_is); (case c__law_three => k_is); (case p__law_three => k_is)
      (case a__law_number => k_is); (case l__law_number => k_is); (case c__law_number => k_is); (case p__law_number => k_is)
      (case a_law => k_is); (case l_law => k_is); (case c_law => k_is); (case p_law => k_is)
      (case b_range => k_is)
      (case b_tuple => k_is)
      (case b_len => k_is)
      (case b_sorted => k_is)
      (case b_list => k_is)
      (case b_sum => k_is)
      (case b_repr => k_is)
      (case b_abs => k_is)
      (case b_set => k_is)
      (case b_int => k_is))
    obtain ⟨fd, hb, hF⟩ := tx
    exact ⟨Law.cn _, fd, rfl, hb, fun base _ _ => hF base⟩


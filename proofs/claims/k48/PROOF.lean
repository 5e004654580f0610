import PyProof.Rows.All
import Wide.All
import OpenK.AllK
import Wide.FinOn
import KE.RegKTryMore
import PySem.Challenge.RW_allfirst_k48_a_plan_run
import HandS.ForMost
import KE.SortData
import HandS.ForExc
import HandS.Wide
import HandS.TupAny
import HandS.Deep
import HandS.TupLe
import HandS.CallSlots
import HandS.IsInst
import HandS.Rev
import HandS.Zip
import HandS.Small
import KE.KDictPairs
import HandS.Flt
import KE.KItemsList
import HandS.ListItems
import HandS.DictTup
import HandS.ExcOwn
import HandS.TryOnly
import HandS.ExcIs
import HandS.RevTup
import HandS.Conv
import HandS.SetFor
import HandS.Strs
import HandS.Codes
set_option autoImplicit false
set_option linter.all false
set_option Elab.async false
set_option maxRecDepth 100000
/-! Mi, part A: values as trees, the mini program, its evaluator. -/
namespace Mi
open PySem

abbrev Key := Sum Int Str

inductive D where
  | non | bl (b : Bool) | int (i : Int) | str (x : Str)
  | tup (xs : List D) | lst (xs : List D) | dct (kvs : List (Key × D))
  | obj (c : Nat) (fs : List D)
  | exc (c : Nat) (row : Int)
  deriving Inhabited

inductive R (α : Type) where
  | ok (a : α) | exc (c : Nat) (row : Int) | stuck
def R.bind {α β : Type} : R α → (α → R β) → R β
  | .ok a, f => f a
  | .exc c r, _ => .exc c r
  | .stuck, _ => .stuck
@[simp] theorem R.ok_bind {α β : Type} (a : α) (f : α → R β) : (R.ok a).bind f = f a := Eq.trans rfl rfl
@[simp] theorem R.exc_bind {α β : Type} (c : Nat) (r : Int) (f : α → R β) : (R.exc c r : R α).bind f = .exc c r := Eq.trans rfl rfl
@[simp] theorem R.stuck_bind {α β : Type} (f : α → R β) : (R.stuck : R α).bind f = .stuck := Eq.trans rfl rfl
theorem R.bind_assoc {α β γ : Type} (x : R α) (f : α → R β) (g : β → R γ) : (x.bind f).bind g = x.bind fun a => (f a).bind g := by
  cases x <;> rfl
def R.of {α : Type} : Option α → R α
  | some a => .ok a
  | none => .stuck
@[simp] theorem R.of_some {α : Type} (a : α) : R.of (some a) = .ok a := Eq.trans rfl rfl
@[simp] theorem R.of_none {α : Type} : R.of (none : Option α) = .stuck := Eq.trans rfl rfl

/-! values as the library's data -/
mutual
def D.py : D → Option PyData
  | .non => some .none
  | .bl b => some (.bool b)
  | .int i => some (.int i)
  | .str x => some (.str x)
  | .tup xs => (D.pys xs).map .tuple
  | .lst xs => (D.pys xs).map .list
  | .dct _ => none
  | .obj _ _ => none
  | .exc _ _ => none
def D.pys : List D → Option (List PyData)
  | [] => some []
  | x :: xs => match D.py x, D.pys xs with
    | some d, some ds => some (d :: ds)
    | _, _ => none
end

/-- == of data -/
def eqD (a b : D) : Option Bool := match a.py, b.py with
  | some x, some y => if SeqAt.shaped x && SeqAt.shaped y then some (PyData.eqv x y) else none
  | _, _ => none

def lineN : Nat := 16777216
abbrev isKey : D → Bool
  | .int _ => true
  | .str _ => true
  | _ => false
/-- a pair with a key -/
def pairB : D → Bool
  | .tup [k, _] => isKey k
  | _ => false
/-- what a dict may be made of: of such tuples it is known that they bear nothing else -/
def dictB : List D → Bool
  | [] => false
  | d :: ds => pairB d && ds.all pairB

def addD : D → D → Option D
  | .int i, .int j => some (.int (i + j))
  | .str x, .str y => if x.length + y.length ≤ lineN then some (.str (x ++ y)) else none
  | .lst xs, .lst ys => if xs.length + ys.length ≤ lineN then some (.lst (xs ++ ys)) else none
  | .tup xs, .tup ys => if xs.length + ys.length ≤ lineN then some (.tup (xs ++ ys)) else none
  | _, _ => none
def subD : D → D → Option D
  | .int i, .int j => some (.int (i - j))
  | _, _ => none
def two64 : Int := 18446744073709551616
def small64 (i : Int) : Bool := decide (-two64 < i) && decide (i < two64)
def wide (i : Int) : Bool := decide (i.natAbs < 2 ^ 4096)
def mulD : D → D → Option D
  | .int i, .int j => if small64 i || small64 j || (wide i && wide j) then some (.int (i * j)) else none
  | .lst xs, .int k => if decide (xs.length * k.toNat ≤ lineN) && decide (-9223372036854775808 ≤ k) && decide (k < 9223372036854775808) then some (.lst (List.replicate k.toNat xs).flatten) else none
  | _, _ => none
def fdivD : D → D → Option D
  | .int i, .int j => if decide (0 < j) && (decide (j < 1073741824) || wide j) then some (.int (i / j)) else none
  | _, _ => none
def modD : D → D → Option D
  | .int i, .int j => if 0 < j then some (.int (i % j)) else none
  | _, _ => none
def powD : D → D → Option D
  | .int i, .int j => if decide (0 ≤ j) && decide (j ≤ 1000000) && small64 i then some (.int (i ^ j.toNat)) else none
  | _, _ => none
def negD : D → Option D
  | .int i => some (.int (-i))
  | _ => none
def boolD : D → Option Bool
  | .bl b => some b
  | _ => none

def keyOf : D → Option Key
  | .int i => some (.inl i)
  | .str x => some (.inr x)
  | _ => none
def keyD : Key → D
  | .inl i => .int i
  | .inr x => .str x
def look (k : Key) : List (Key × D) → Option D
  | [] => none
  | (q, d) :: r => if q = k then some d else look k r
def putK (k : Key) (d : D) (kvs : List (Key × D)) : List (Key × D) :=
  if (kvs.any fun kv => decide (kv.1 = k)) = true then kvs.map (fun kv => if kv.1 = k then (kv.1, d) else kv) else kvs ++ [(k, d)]

inductive CO where
  | eq | ne | lt | le | gt | ge | isin | nin
  deriving DecidableEq

/-- x in ys, by == -/
def inL (x : D) (ys : List D) : Option Bool := match x.py, D.pys ys with
  | some d, some ds => if SeqAt.shaped d && SeqAt.shaped (.list ds) then some (ds.any fun z => PyData.eqv z d) else none
  | _, _ => none
def flatD : D → Bool
  | .non => true
  | .bl _ => true
  | .int _ => true
  | .str _ => true
  | _ => false
def inD (x : D) : D → Option Bool
  | .lst ys => inL x ys
  | .tup ys => inL x ys
  | .dct kvs => (keyOf x).map fun k => (look k kvs).isSome
  | .str z => match x with
    | .str c => if c.cps.size = 1 then some (decide (c.cps.getD 0 0 ∈ z.cps.toList)) else none
    | _ => none
  | _ => none
def ordD (f : Int → Int → Bool) : D → D → Option D
  | .int i, .int j => some (.bl (f i j))
  | _, _ => none
/-- .. with a list of anything beside the empty one -/
def eqE (a b : D) : Option Bool := match eqD a b with
  | some c => some c
  | none => match a, b with
    | .lst (_ :: _), .lst [] => some false
    | _, _ => none
theorem eqE_of {a b : D} {c : Bool} (h : eqD a b = some c) : eqE a b = some c := by unfold eqE; rw [h]
def cmpD (o : CO) (a b : D) : Option D := match o with
  | .eq => (eqE a b).map fun c => .bl c
  | .ne => (eqD a b).map fun c => .bl (!c)
  | .isin => (inD a b).map fun c => .bl c
  | .nin => (inD a b).map fun c => .bl (!c)
  | .lt => ordD (fun i j => decide (i < j)) a b
  | .le => ordD (fun i j => decide (i ≤ j)) a b
  | .gt => ordD (fun i j => decide (j < i)) a b
  | .ge => ordD (fun i j => decide (j ≤ i)) a b

def idxL {α : Type} (xs : List α) (i : Int) : Option α :=
  if 0 ≤ i then xs[i.toNat]? else if -(xs.length : Int) ≤ i then xs[(i + xs.length).toNat]? else none
def idxD : D → D → Option D
  | .lst xs, .int i => idxL xs i
  | .tup xs, .int i => idxL xs i
  | .str z, .int i => if z.length ≤ lineN then (idxL z.cps.toList i).map fun c => .str ⟨#[c]⟩ else none
  | .dct kvs, k => (keyOf k).bind fun k => look k kvs
  | _, _ => none

/-- a slice's place -/
def sIx (n d : Nat) : Option Int → Nat
  | none => d
  | some v => if v < 0 then (v + n).toNat else min v.toNat n
def cutL {α : Type} (xs : List α) (lo hi : Option Int) : List α := (xs.drop (sIx xs.length 0 lo)).take (sIx xs.length xs.length hi - sIx xs.length 0 lo)
/-- every c-th item from the first on -/
def everyL {α : Type} (c : Nat) (xs : List α) : List α := (List.range ((xs.length + (c - 1)) / c)).filterMap fun m => xs[m * c]?
def sliceD (x : D) (lo hi : Option Int) : Option D := match x with
  | .lst xs => some (.lst (cutL xs lo hi))
  | .tup xs => some (.tup (cutL xs lo hi))
  | .str z => if z.length ≤ lineN then some (.str ⟨(cutL z.cps.toList lo hi).toArray⟩) else none
  | _ => none
def sliceStepD : D → Int → Int → Option D
  | .lst xs, l, c => if decide (0 < c) && decide (0 ≤ l) && decide (c < 1073741824) && decide (l < 1073741824) then some (.lst (everyL c.toNat (xs.drop l.toNat))) else none
  | _, _, _ => none

def intsOf : List D → Option (List Int)
  | [] => some []
  | .int i :: r => (intsOf r).map (i :: ·)
  | _ :: _ => none
def blsOf : List D → Option (List Bool)
  | [] => some []
  | .bl b :: r => (blsOf r).map (b :: ·)
  | _ :: _ => none
def strsOf : List D → Option (List Str)
  | [] => some []
  | .str x :: r => (strsOf r).map (x :: ·)
  | _ :: _ => none
def itemsOf : D → Option (List D)
  | .lst xs => some xs
  | .tup xs => some xs
  | .str z => some (z.cps.toList.map fun c => .str ⟨#[c]⟩)
  | _ => none
def seqOf : D → Option (List D)
  | .lst xs => some xs
  | .tup xs => some xs
  | _ => none
def pyOf (d : D) : PyData := (d.py).getD .none
def alikeB (xs : List D) : Bool := xs.all fun x => xs.all fun y => PySem.W.alike (pyOf x) (pyOf y)
def headTup : PyData → Bool
  | .tuple (_ :: _) => true
  | _ => false
def noTup : PyData → Bool
  | .tuple _ => false
  | .none => false
  | _ => true
def sortOk (xs : List D) : Bool := xs.all (fun x => x.py.isSome && decide ((pyOf x).depth ≤ 64)) && alikeB xs && (xs.all (fun x => headTup (pyOf x)) || xs.all (fun x => noTup (pyOf x)))
def sortD (xs : List D) : List D := xs.mergeSort (PySem.W.dataLe false pyOf)
def maxI : List Int → Int
  | [] => 0
  | x :: xs => xs.foldl max x
def minI : List Int → Int
  | [] => 0
  | x :: xs => xs.foldl min x
def pairOf : D → Option (Key × D)
  | .tup [k, v] => (keyOf k).map fun k => (k, v)
  | _ => none
def dictOf : List D → Option (List (Key × D))
  | [] => some []
  | x :: r => (pairOf x).bind fun p => (dictOf r).map (p :: ·)
def putAll (kvs : List (Key × D)) (ps : List (Key × D)) : List (Key × D) := ps.foldl (fun a p => putK p.1 p.2 a) kvs
/-- the items that stand for the first time, by == -/
def firstsL : List D → List D → Option (List D)
  | acc, [] => some acc
  | acc, x :: xs => (inL x acc).bind fun b => if b then firstsL acc xs else firstsL (acc ++ [x]) xs

inductive B where
  | len | abs | max1 | min1 | max2 | min2 | max3 | sum | any | all | sorted | list | listR | listV | tuple | dict | setlen | setsorted | str | int
  deriving DecidableEq
def lenD : D → Option D
  | .lst xs => some (.int xs.length)
  | .tup xs => some (.int xs.length)
  | .str z => if z.length ≤ lineN then some (.int z.length) else none
  | .dct kvs => some (.int kvs.length)
  | _ => none
def lstOf : D → Option (List D)
  | .lst xs => some xs
  | _ => none
def mmD (f : List Int → Int) (x : D) : Option D := (lstOf x).bind fun xs => (intsOf xs).bind fun is => if is = [] then none else some (.int (f is))
def mm2D (f : Int → Int → Int) : D → D → Option D
  | .int i, .int j => some (.int (f i j))
  | _, _ => none
def absD : D → Option D
  | .int i => some (.int (if i < 0 then -i else i))
  | _ => none
def sumD : D → Option D
  | .lst xs => (intsOf xs).map fun is => .int is.sum
  | _ => none
def anyD : D → Option D
  | .lst xs => (blsOf xs).map fun bs => .bl (bs.any id)
  | _ => none
def allD : D → Option D
  | .lst xs => (blsOf xs).map fun bs => .bl (bs.all id)
  | _ => none
def sortedD (x : D) : Option D := (lstOf x).bind fun xs => if sortOk xs && decide (xs.length ≤ lineN) then some (.lst (sortD xs)) else none
def listD (x : D) : Option D := (seqOf x).map .lst
def tupleD (x : D) : Option D := (seqOf x).map .tup
def dictD : D → Option D
  | .lst xs => if xs.length < lineN then (dictOf xs).map fun ps => .dct (putAll [] ps) else none
  | .tup xs => if decide (xs.length < lineN) && dictB xs then (dictOf xs).map fun ps => .dct (putAll [] ps) else none
  | _ => none
def strD : D → Option D
  | .int i => if i.natAbs.log2 < 1920 then some (.str (toString i)) else none
  | _ => none
def intD : D → Option D
  | .int i => some (.int i)
  | .bl b => some (.int (if b then 1 else 0))
  | .str x => if x.length ≤ 640 then (PySem.intText? x).map .int else none
  | _ => none
/-- list(range(i)) -/
def listRD : D → Option D
  | .int i => if -16777216 ≤ i ∧ i ≤ 16777216 then some (.lst ((List.range i.toNat).map fun (k : Nat) => .int k)) else none
  | _ => none
/-- rising, each once -/
def insU (x : Int) : List Int → List Int
  | [] => [x]
  | y :: r => if x < y then x :: y :: r else if x = y then y :: r else y :: insU x r
def upSet : List Int → List Int
  | [] => []
  | x :: r => insU x (upSet r)
/-- sorted(set(a tuple of ints)) -/
def setSortedD : D → Option D
  | .tup xs => (intsOf xs).bind fun is => if is.length < 64 then some (.lst ((upSet is).map .int)) else none
  | _ => none
def bltD : B → List D → Option D
  | .len, [x] => lenD x
  | .abs, [x] => absD x
  | .max1, [x] => mmD maxI x
  | .min1, [x] => mmD minI x
  | .max2, [x, y] => mm2D max x y
  | .min2, [x, y] => mm2D min x y
  | .max3, [x, y, z] => (mm2D max x y).bind fun w => mm2D max w z
  | .sum, [x] => sumD x
  | .any, [x] => anyD x
  | .all, [x] => allD x
  | .sorted, [x] => sortedD x
  | .list, [x] => listD x
  | .listR, [x] => listRD x
  | .listV, [x] => (lstOf x).map fun xs => .lst xs.reverse
  | .tuple, [x] => tupleD x
  | .dict, [x] => dictD x
  | .setlen, [x] => (seqOf x).bind fun xs => (firstsL [] xs).map fun ys => .int ys.length
  | .setsorted, [x] => setSortedD x
  | .str, [x] => strD x
  | .int, [x] => intD x
  | _, _ => none

inductive Mth where
  | get | get3 | items | join | split | partition | lstrip | rfind | index
  deriving DecidableEq
def indexL (x : D) (ys : List D) : Option D := match x.py, D.pys ys with
  | some d, some ds => if SeqAt.shaped d && SeqAt.shaped (.list ds) then (ds.findIdx? fun z => PyData.eqv z d).map fun j => .int (j : Nat) else none
  | _, _ => none
/-- the receiver is of the method's type -/
def mthRc : Mth → D → Option Unit
  | .get, .dct _ => some ()
  | .get3, .dct _ => some ()
  | .items, .dct _ => some ()
  | .index, .lst _ => some ()
  | .join, .str _ => some ()
  | .split, .str _ => some ()
  | .partition, .str _ => some ()
  | .lstrip, .str _ => some ()
  | .rfind, .str _ => some ()
  | _, _ => none
def mthD : Mth → D → List D → Option D
  | .get, .dct kvs, [k] => (keyOf k).map fun k => (look k kvs).getD .non
  | .get3, .dct kvs, [k, d] => (keyOf k).map fun k => (look k kvs).getD d
  | .items, .dct kvs, [] => some (.lst (kvs.map fun p => .tup [keyD p.1, p.2]))
  | .join, .str x, [y] => (seqOf y).bind fun ys => (strsOf ys).bind fun zs => if (Txt.join x zs).length ≤ lineN then some (.str (Txt.join x zs)) else none
  | .split, .str x, [.str y] => if decide (0 < y.length) && decide (x.length + 2 ≤ lineN) then some (.lst ((Txt.split x y).map .str)) else none
  | .partition, .str x, [.str y] => if decide (0 < y.length) && decide (x.length ≤ lineN) then
      some (.tup [.str (Txt.partition x y).1, .str (Txt.partition x y).2.1, .str (Txt.partition x y).2.2]) else none
  | .index, .lst xs, [x] => indexL x xs
  | _, _, _ => none

/-! classes: 0 AllError, 1 TooMany, 2 BadName, 3 BadPlan, 4 BadPart, 5 TooLong, 6 NoPlan, 7 Unlike, 8 BadRow, 9 NoName; 100 ValueError; for isinstance: 200 int, 201 bool, 202 str, 203 list, 204 tuple, 210 Plan, 211 Book -/
def isCl : D → Nat → Bool
  | .exc c _, t => t == c || t == 0 || t == 100
  | .int _, t => t == 200
  | .bl _, t => t == 200 || t == 201
  | .str _, t => t == 202
  | .lst _, t => t == 203
  | .tup _, t => t == 204
  | .obj c _, t => t == 210 + c
  | _, _ => false
def tyOf : D → String
  | .non => "NoneType" | .bl _ => "bool" | .int _ => "int" | .str _ => "str" | .tup _ => "tuple" | .lst _ => "list" | .dct _ => "dict" | _ => ""
/-- an error that bears a number -/
def excBig : D → Bool
  | .exc c _ => decide (8 ≤ c)
  | _ => false
def isiD (cs : List Nat) (x : D) : Option D := if cs.all (fun k => decide (200 ≤ k) && decide (k < 210)) && decide (tyOf x = "") || excBig x then none else some (.bl (cs.any (isCl x)))
def fldD : D → Nat → Option D
  | .obj 0 fs, k => if k < 3 then fs[k]? else none
  | .obj 1 fs, k => if k = 4 then fs[0]? else none
  | .exc _ r, 9 => some (.int r)
  | _, _ => none
def mkD : Nat → List D → Option D
  | 0, [n, g, r] => (seqOf g).bind fun g => (seqOf r).map fun r => .obj 0 [n, .lst g, .lst r]
  | 1, [p] => (seqOf p).map fun p => .obj 1 [.lst p]
  | _, _ => none

inductive Tg where
  | one (i : Nat) | many (is : List Nat)
inductive AOp where
  | add | sub | mul | fdiv | mod | pow
  deriving DecidableEq
def binD : AOp → D → D → Option D
  | .add => addD | .sub => subD | .mul => mulD | .fdiv => fdivD | .mod => modD | .pow => powD

inductive ME where
  | v (i : Nat) | int (i : Int) | str (x : Str) | bl (b : Bool) | non
  | glob (x : Str) (d : D)
  | bin (o : AOp) (a b : ME) | neg (a : ME) | not (a : ME)
  | and (a b : ME) | or (a b : ME)
  | cmp (o : CO) (a b : ME) | chn (o p : CO) (a b c : ME)
  | isN (a : ME) | nisN (a : ME) | isB (a : ME) (b : Bool) | nisB (a : ME) (b : Bool)
  | tup (es : List ME) | lst (es : List ME) | dnil
  | idx (a b : ME) | sl (a : ME) (lo hi : Option ME) | sls (a lo c : ME)
  | call (f : Nat) (es : List ME) | blt (b : B) (es : List ME) | mth (m : Mth) (a : ME) (es : List ME)
  | lc (elt : ME) (tg : Tg) (it : ME) (ifs : Option ME)
  | rng (es : List ME) | enm (a : ME) | zp (a b : ME) | rvs (a : ME) | dks (a : ME)
  | fld (a : ME) (k : Nat) | isi (a : ME) (cs : List Nat) | mk (c : Nat) (es : List ME)

def isOwn : D → Bool
  | .lst _ => true
  | .dct _ => true
  | _ => false
abbrev Env := List (Option D)
def isNon : D → Bool
  | .non => true
  | _ => false
def getE : Env → Nat → R D
  | [], _ => .stuck
  | x :: _, 0 => R.of x
  | _ :: r, n + 1 => getE r n
def setE : Env → Nat → D → Env
  | [], _, _ => []
  | _ :: r, 0, d => some d :: r
  | x :: r, n + 1, d => x :: setE r n d
def killE : Env → Nat → Env
  | [], _ => []
  | _ :: r, 0 => none :: r
  | x :: r, n + 1 => x :: killE r n
def killAll (ρ : Env) (is : List Nat) : Env := is.foldl killE ρ
def bindMany : List Nat → List D → Env → R Env
  | [], [], ρ => .ok ρ
  | i :: is, d :: ds, ρ => bindMany is ds (setE ρ i d)
  | _, _, _ => .stuck
def bindT : Tg → D → Env → R Env
  | .one i, d, ρ => .ok (setE ρ i d)
  | .many is, .tup ds, ρ => bindMany is ds ρ
  | .many _, _, _ => .stuck

abbrev Phi := Nat → List D → R D

def compM (f : D → R (Option D)) : List D → R (List D)
  | [] => .ok []
  | x :: xs => (f x).bind fun y => (compM f xs).bind fun ys => .ok (match y with | some d => d :: ys | none => ys)
/-- what raises is left open -/
def noX {α : Type} : R α → R α
  | .exc _ _ => .stuck
  | x => x
@[simp] theorem noX_ok {α : Type} (a : α) : noX (.ok a) = .ok a := Eq.trans rfl rfl
def big62 (i : Int) : Bool := decide (-4611686018427387904 ≤ i) && decide (i < 4611686018427387904)
def rngL (lo hi : Int) : List D := (List.range (hi - lo).toNat).map fun (k : Nat) => .int (lo + k)
def rngC (lo hi c : Int) : List D := (List.range ((hi - lo + c - 1) / c).toNat).map fun (k : Nat) => .int (lo + k * c)
def rngD : List D → Option D
  | [.int j] => if big62 j then some (.lst (rngL 0 j)) else none
  | [.int i, .int j] => if big62 i && big62 j then some (.lst (rngL i j)) else none
  | [.int i, .int j, .int c] => if big62 i && big62 j && decide (0 < c) && decide (c < 1073741824) then some (.lst (rngC i j c)) else none
  | _ => none
def enmL (n : Nat) : List D → List D
  | [] => []
  | x :: xs => .tup [.int n, x] :: enmL (n + 1) xs
def zipL : List D → List D → List D
  | x :: xs, y :: ys => .tup [x, y] :: zipL xs ys
  | _, _ => []
def partsD : D → List D
  | .tup xs => xs
  | _ => []
def zipD : D → D → Option (List D)
  | .lst xs, .lst ys => if (zipL xs ys).all (fun d => !dictB (partsD d)) then some (zipL xs ys) else none
  | .tup xs, .tup ys => if (zipL xs ys).all (fun d => !dictB (partsD d)) then some (zipL xs ys) else none
  | _, _ => none
def keysOf : D → Option (List D)
  | .dct kvs => some (kvs.map fun p => keyD p.1)
  | _ => none
def intOf : D → Option Int
  | .int i => some i
  | _ => none

mutual
def evE (Φ : Phi) : ME → Env → R D
  | .v i, ρ => getE ρ i
  | .int i, _ => .ok (.int i)
  | .str x, _ => .ok (.str x)
  | .bl b, _ => .ok (.bl b)
  | .non, _ => .ok .non
  | .glob _ d, _ => .ok d
  | .bin o a b, ρ => (evE Φ a ρ).bind fun x => (evE Φ b ρ).bind fun y => R.of (binD o x y)
  | .neg a, ρ => (evE Φ a ρ).bind fun x => R.of (negD x)
  | .not a, ρ => (evE Φ a ρ).bind fun x => (R.of (boolD x)).bind fun b => .ok (.bl (!b))
  | .and a b, ρ => (evE Φ a ρ).bind fun x => (R.of (boolD x)).bind fun c => if c then evE Φ b ρ else .ok (.bl false)
  | .or a b, ρ => (evE Φ a ρ).bind fun x => (R.of (boolD x)).bind fun c => if c then .ok (.bl true) else evE Φ b ρ
  | .cmp o a b, ρ => (evE Φ a ρ).bind fun x => (evE Φ b ρ).bind fun y => R.of (cmpD o x y)
  | .chn o p a b c, ρ => (evE Φ a ρ).bind fun x => (evE Φ b ρ).bind fun y => (R.of (cmpD o x y)).bind fun t => (R.of (boolD t)).bind fun t =>
      if t then (evE Φ c ρ).bind fun z => R.of (cmpD p y z) else .ok (.bl false)
  | .isN a, ρ => (evE Φ a ρ).bind fun x => .ok (.bl (isNon x))
  | .nisN a, ρ => (evE Φ a ρ).bind fun x => .ok (.bl (!isNon x))
  | .isB a b, ρ => (evE Φ a ρ).bind fun x => (R.of (boolD x)).bind fun c => .ok (.bl (c == b))
  | .nisB a b, ρ => (evE Φ a ρ).bind fun x => (R.of (boolD x)).bind fun c => .ok (.bl (!(c == b)))
  | .tup es, ρ => (evEs Φ es ρ).bind fun xs => .ok (.tup xs)
  | .lst es, ρ => (evEs Φ es ρ).bind fun xs => .ok (.lst xs)
  | .dnil, _ => .ok (.dct [])
  | .idx a b, ρ => (evE Φ a ρ).bind fun x => (evE Φ b ρ).bind fun y => R.of (idxD x y)
  | .sl a lo hi, ρ => (evE Φ a ρ).bind fun x => (evO Φ lo ρ).bind fun l => (evO Φ hi ρ).bind fun h => R.of (sliceD x l h)
  | .sls a lo c, ρ => (evE Φ a ρ).bind fun x => (evE Φ lo ρ).bind fun l => (R.of (intOf l)).bind fun l => (evE Φ c ρ).bind fun k => (R.of (intOf k)).bind fun k => R.of (sliceStepD x l k)
  | .call f es, ρ => (evEs Φ es ρ).bind fun xs => Φ f xs
  | .blt b es, ρ => (evEs Φ es ρ).bind fun xs => R.of (bltD b xs)
  | .mth m a es, ρ => (evE Φ a ρ).bind fun x => (R.of (mthRc m x)).bind fun _ => (evEs Φ es ρ).bind fun xs => R.of (mthD m x xs)
  | .lc elt tg it ifs, ρ => (evE Φ it ρ).bind fun s => (R.of (itemsOf s)).bind fun xs => (noX (compM (fun x => (bindT tg x ρ).bind fun ρ' =>
      (evC Φ ifs ρ').bind fun c => if c then (evE Φ elt ρ').bind fun y => .ok (some y) else .ok none) xs)).bind fun ys => if ys.length ≤ lineN then .ok (.lst ys) else .stuck
  | .rng es, ρ => (evEs Φ es ρ).bind fun xs => R.of (rngD xs)
  | .enm a, ρ => (evE Φ a ρ).bind fun s => (R.of (lstOf s)).bind fun xs => .ok (.lst (enmL 0 xs))
  | .zp a b, ρ => (evE Φ a ρ).bind fun s => (evE Φ b ρ).bind fun t => (R.of (zipD s t)).bind fun xs => .ok (.lst xs)
  | .rvs a, ρ => (evE Φ a ρ).bind fun s => (R.of (seqOf s)).bind fun xs => .ok (.lst xs.reverse)
  | .dks a, ρ => (evE Φ a ρ).bind fun s => (R.of (keysOf s)).bind fun xs => .ok (.lst xs)
  | .fld a k, ρ => (evE Φ a ρ).bind fun x => R.of (fldD x k)
  | .isi a cs, ρ => (evE Φ a ρ).bind fun x => R.of (isiD cs x)
  | .mk c es, ρ => (evEs Φ es ρ).bind fun xs => R.of (mkD c xs)
def evEs (Φ : Phi) : List ME → Env → R (List D)
  | [], _ => .ok []
  | e :: es, ρ => (evE Φ e ρ).bind fun x => (evEs Φ es ρ).bind fun xs => .ok (x :: xs)
def evO (Φ : Phi) : Option ME → Env → R (Option Int)
  | none, _ => .ok none
  | some e, ρ => (evE Φ e ρ).bind fun x => (R.of (intOf x)).bind fun i => .ok (some i)
def evC (Φ : Phi) : Option ME → Env → R Bool
  | none, _ => .ok true
  | some e, ρ => (evE Φ e ρ).bind fun x => R.of (boolD x)
end

inductive MS where
  | set (i : Nat) (e : ME)
  /-- .. a new list or dict, to be changed in place -/
  | seto (i : Nat) (e : ME)
  | setT (is : List Nat) (e : ME)
  | setIdx (i : Nat) (k e : ME)
  | app (i : Nat) (e : ME) | ext (i : Nat) (e : ME) | rev (i : Nat) | sdef (i : Nat) (k e : ME)
  | aug (i : Nat) (e : ME)
  | expr (e : ME)
  | frz (i : Nat)
  | ife (c : ME) (a b : List MS)
  | for (tg : Tg) (it : ME) (body : List MS) (dead : List Nat)
  | ret (e : ME)
  | raise (c : Nat) (e : Option ME)
  | try (body : List MS) (cs : List Nat) (x : Option Nat) (h : List MS)
  | cont
  | whl (n : Nat) (c : ME) (body : List MS) (dead : List Nat)
  /-- slot i is handed to def f, which changes it in place; t: what f tells; then s -/
  | eff (t i f : Nat) (es : List ME) (s : MS)

inductive FL where
  | nx (ρ : Env) | rt (d : D) | ct (ρ : Env) | exc (c : Nat) (row : Int) | stuck
def FL.of {α : Type} : R α → (α → FL) → FL
  | .ok a, f => f a
  | .exc c r, _ => .exc c r
  | .stuck, _ => .stuck
@[simp] theorem FL.of_ok {α : Type} (a : α) (f : α → FL) : FL.of (.ok a) f = f a := Eq.trans rfl rfl
@[simp] theorem FL.of_exc {α : Type} (c : Nat) (r : Int) (f : α → FL) : FL.of (.exc c r : R α) f = .exc c r := Eq.trans rfl rfl
@[simp] theorem FL.of_stuck {α : Type} (f : α → FL) : FL.of (.stuck : R α) f = .stuck := Eq.trans rfl rfl
def FL.seq : FL → (Env → FL) → FL
  | .nx ρ, f => f ρ
  | r, _ => r
@[simp] theorem FL.seq_nx (ρ : Env) (f : Env → FL) : (FL.nx ρ).seq f = f ρ := Eq.trans rfl rfl
@[simp] theorem FL.seq_rt (d : D) (f : Env → FL) : (FL.rt d).seq f = .rt d := Eq.trans rfl rfl
@[simp] theorem FL.seq_ct (ρ : Env) (f : Env → FL) : (FL.ct ρ).seq f = .ct ρ := Eq.trans rfl rfl
@[simp] theorem FL.seq_exc (c : Nat) (r : Int) (f : Env → FL) : (FL.exc c r).seq f = .exc c r := Eq.trans rfl rfl
@[simp] theorem FL.seq_stuck (f : Env → FL) : FL.stuck.seq f = .stuck := Eq.trans rfl rfl

def forL (dead : List Nat) (turn : D → Env → FL) : List D → Env → FL
  | [], ρ => .nx (killAll ρ dead)
  | x :: xs, ρ => match turn x (killAll ρ dead) with
    | .nx ρ' => forL dead turn xs ρ'
    | .ct ρ' => forL dead turn xs ρ'
    | .rt d => .rt d
    | .exc c r => .exc c r
    | .stuck => .stuck
def whlL (dead : List Nat) (test : Env → R Bool) (turn : Env → FL) : Nat → Env → FL
  | 0, _ => .stuck
  | n + 1, ρ => FL.of (test (killAll ρ dead)) fun b => if b then
      (match turn (killAll ρ dead) with
      | .nx ρ' => whlL dead test turn n ρ'
      | .ct ρ' => whlL dead test turn n ρ'
      | .rt d => .rt d
      | .exc c r => .exc c r
      | .stuck => .stuck) else .nx (killAll ρ dead)

def setIdxD (x q d : D) : Option D := match x, q with
  | .lst xs, .int j => (idxL (List.range xs.length) j).map fun j => .lst (xs.set j d)
  | .dct kvs, q => if kvs.length < lineN then (keyOf q).map fun k => .dct (putK k d kvs) else none
  | _, _ => none
def appD (xs : List D) (d : D) : Option D := if xs.length < lineN then some (.lst (xs ++ [d])) else none
def extD : List D → D → Option D
  | xs, .lst ys => if xs.length + ys.length ≤ lineN then some (.lst (xs ++ ys)) else none
  | _, _ => none
def revD : D → Option D
  | .lst xs => some (.lst xs.reverse)
  | _ => none
def sdefD (x q d : D) : Option D := match x with
  | .dct kvs => if kvs.length < lineN then (keyOf q).map fun k => .dct (match look k kvs with | some _ => kvs | none => putK k d kvs) else none
  | _ => none
def augD : D → D → Option D
  | .int a, .int b => some (.int (a + b))
  | _, _ => none
def tupOf : D → Option (List D)
  | .tup ds => some ds
  | _ => none
/-- what a def that changes its first argument tells: a pair of what it tells and of the argument as it stands -/
def effR (Φ : Phi) (t i f : Nat) (es : List ME) (ρ : Env) : R Env :=
  noX ((getE ρ i).bind fun y => (evEs Φ es ρ).bind fun xs => (Φ f (y :: xs)).bind fun d => (R.of (tupOf d)).bind fun ds => bindMany [t, i] ds ρ)

mutual
def evS (Φ : Phi) : MS → Env → FL
  | .set i e, ρ => FL.of (evE Φ e ρ) fun d => .nx (setE ρ i d)
  | .seto i e, ρ => FL.of (evE Φ e ρ) fun d => if isOwn d then .nx (setE ρ i d) else .stuck
  | .setT is e, ρ => FL.of (evE Φ e ρ) fun d => FL.of (R.of (tupOf d)) fun ds => FL.of (bindMany is ds ρ) fun ρ' => .nx ρ'
  | .setIdx i k e, ρ => FL.of (evE Φ e ρ) fun d => FL.of (evE Φ k ρ) fun q => FL.of (getE ρ i) fun x => FL.of (R.of (setIdxD x q d)) fun y => .nx (setE ρ i y)
  | .app i e, ρ => FL.of (getE ρ i) fun x => FL.of (R.of (lstOf x)) fun xs => FL.of (evE Φ e ρ) fun d => FL.of (R.of (appD xs d)) fun y => .nx (setE ρ i y)
  | .ext i e, ρ => FL.of (getE ρ i) fun x => FL.of (R.of (lstOf x)) fun xs => FL.of (evE Φ e ρ) fun d => FL.of (R.of (extD xs d)) fun y => .nx (setE ρ i y)
  | .rev i, ρ => FL.of (getE ρ i) fun x => FL.of (R.of (revD x)) fun y => .nx (setE ρ i y)
  | .sdef i k e, ρ => FL.of (evE Φ k ρ) fun q => FL.of (evE Φ e ρ) fun d => FL.of (getE ρ i) fun x => FL.of (R.of (sdefD x q d)) fun y => .nx (setE ρ i y)
  | .aug i e, ρ => FL.of (getE ρ i) fun x => FL.of (evE Φ e ρ) fun y => FL.of (R.of (augD x y)) fun z => .nx (setE ρ i z)
  | .expr e, ρ => FL.of (evE Φ e ρ) fun _ => .nx ρ
  | .frz _, ρ => .nx ρ
  | .ife c a b, ρ => FL.of (evE Φ c ρ) fun x => FL.of (R.of (boolD x)) fun t => if t then evSs Φ a ρ else evSs Φ b ρ
  | .for tg it body dead, ρ => FL.of (evE Φ it ρ) fun s => FL.of (R.of (itemsOf s)) fun xs => forL dead (fun x ρ => FL.of (bindT tg x ρ) fun ρ' => evSs Φ body ρ') xs ρ
  | .ret e, ρ => FL.of (evE Φ e ρ) fun d => .rt d
  | .raise c none, _ => .exc c 0
  | .raise c (some e), ρ => FL.of (evE Φ e ρ) fun d => FL.of (R.of (intOf d)) fun r => .exc c r
  | .try body cs x h, ρ => match evSs Φ body ρ with
      | .exc c r => if cs.any (isCl (.exc c r)) then
          evSs Φ h (match x with | some i => setE ρ i (.exc c r) | none => ρ)
        else .exc c r
      | f => f
  | .cont, ρ => .ct ρ
  | .whl n c body dead, ρ => whlL dead (fun ρ => (evE Φ c ρ).bind fun x => R.of (boolD x)) (fun ρ => evSs Φ body ρ) n ρ
  | .eff t i f es s, ρ => FL.of (effR Φ t i f es ρ) fun ρ' => evS Φ s ρ'
def evSs (Φ : Phi) : List MS → Env → FL
  | [], ρ => .nx ρ
  | s :: ss, ρ => (evS Φ s ρ).seq fun ρ' => evSs Φ ss ρ'
end

/-- how a slot's value stands: forgotten; known and never changed; the def's own, told to nobody; lent by the caller -/
inductive Md where
  | dead | imm | own | bor
  /-- a param that the caller gets back changed -/
  | io
  deriving DecidableEq
structure FD where
  np : Nat
  ns : Nat
  body : List MS
  /-- the parameters' modes -/
  pm : List Md := []
  /-- the slots that are changed in place -/
  own : List Nat := []
  /-- whether what is told is new -/
  fr : Bool := false
abbrev Prog := Nat → Option FD
def envOf (ns : Nat) (ds : List D) : Env := ds.map some ++ List.replicate (ns - ds.length) none
def endB : FL → R D
  | .rt d => .ok d
  | .nx _ => .ok .non
  | .exc c r => .exc c r
  | _ => .stuck
/-- what is given away is a list or a dict -/
def ownOk : List Md → List D → Bool
  | .own :: ms, d :: ds => isOwn d && ownOk ms ds
  | .io :: ms, d :: ds => isOwn d && ownOk ms ds
  | _ :: ms, _ :: ds => ownOk ms ds
  | _, _ => true
def runB (Φ : Phi) (fd : FD) (ds : List D) : R D :=
  if ds.length = fd.np ∧ ownOk fd.pm ds = true then endB (evSs Φ fd.body (envOf fd.ns ds)) else .stuck
def phi (prog : Prog) : Nat → Phi
  | 0 => fun _ _ => .stuck
  | n + 1 => fun f ds => match prog f with
    | some fd => runB (phi prog n) fd ds
    | none => .stuck
end Mi

/-! Mi, part B: how a tree stands in the abstract heap. -/
namespace Mi
open PySem L2 PySem.Spec PyProof.Rows

/-- what is fixed: the written part, the module's names, the heap and its frozen part at the entry -/
structure Cn where
  K : PySem.W.Frag
  mg : PySem.Str → Option Value
  B : Hp
  F0 : Hp
  /-- the slot whose thing the caller gets back, and where it lies -/
  io : Option (Nat × Addr) := none

def clsName : Nat → PySem.Str
  | 0 => "Plan"
  | _ => "Book"
def clsFlds : Nat → List PySem.Str
  | 0 => ["name", "givens", "rows"]
  | _ => ["plans"]

/-! the classes of errors -/
def excName : Nat → PySem.Str
  | 0 => "AllError" | 1 => "TooMany" | 2 => "BadName" | 3 => "BadPlan" | 4 => "BadPart" | 5 => "TooLong" | 6 => "NoPlan" | 7 => "Unlike" | 8 => "BadRow" | _ => "NoName"

/-- the tuple at a bears nothing but its items -/
def PlT (K : PySem.W.Frag) (F : Hp) (a : Addr) : Prop := (∃ (o : Obj) (xs : List V), F a = some (.frz o (.tup xs)) ∧ o.dict = none) ∨ ∃ o : Obj, K.lookup a = some o ∧ o.dict = none
mutual
/-- v stands for the tree in the frozen heap F -/
def Rp (c : Cn) (F : Hp) : D → V → Prop
  | .non, v => v = .non
  | .bl b, v => v = .bl b
  | .int i, v => v = .int i
  | .str x, v => v = .str x
  | .tup ds, v => ∃ a vs, v = .ref a ∧ SqT c.K F a vs ∧ Rps c F ds vs ∧ (dictB ds = true → PlT c.K F a)
  | .lst ds, v => ∃ a vs, v = .ref a ∧ SqL c.K F a vs ∧ Rps c F ds vs
  | .dct kds, v => ∃ a kvs, v = .ref a ∧ F a = some (.dK kvs) ∧ Rpk c F kds kvs
  | .obj k ds, v => ∃ a C dx vs, v = .ref a ∧ F a = some (.ins C dx ((clsFlds k).zip vs)) ∧ F dx = some (.own a) ∧ c.mg (clsName k) = some (.ref C) ∧ vs.length = (clsFlds k).length ∧ Rps c F ds vs
  | .exc _ _, _ => False
def Rps (c : Cn) (F : Hp) : List D → List V → Prop
  | [], vs => vs = []
  | d :: ds, vs => ∃ v r, vs = v :: r ∧ Rp c F d v ∧ Rps c F ds r
def Rpk (c : Cn) (F : Hp) : List (Key × D) → List (Key × V) → Prop
  | [], vs => vs = []
  | (k, d) :: ds, vs => ∃ v r, vs = (k, v) :: r ∧ Rp c F d v ∧ Rpk c F ds r
end

theorem SqL.mono {K : PySem.W.Frag} {F F' : Hp} {a : Addr} {xs : List V} (e : Same F F') (h : SqL K F a xs) : SqL K F' a xs := e.seq h
theorem SqT.mono {K : PySem.W.Frag} {F F' : Hp} {a : Addr} {xs : List V} (e : Same F F') (h : SqT K F a xs) : SqT K F' a xs := by
  rcases h with (h | ⟨o, h⟩) | h
  · exact .inl (.inl (e _ _ h))
  · exact .inl (.inr ⟨o, e _ _ h⟩)
  · exact .inr h
theorem PlT.mono {K : PySem.W.Frag} {F F' : Hp} {a : Addr} (e : Same F F') (h : PlT K F a) : PlT K F' a := by
  rcases h with ⟨o, xs, h1, h2⟩ | h
  · exact .inl ⟨o, xs, e _ _ h1, h2⟩
  · exact .inr h

section
variable {c : Cn} {F F' : Hp}
mutual
theorem Rp.mono (e : Same F F') : ∀ (d : D) (v : V), Rp c F d v → Rp c F' d v
  | .non, v, h => by simpa [Rp] using h
  | .bl b, v, h => by simpa [Rp] using h
  | .int i, v, h => by simpa [Rp] using h
  | .str x, v, h => by simpa [Rp] using h
  | .tup ds, v, h => by
    simp only [Rp] at h ⊢
    obtain ⟨a, vs, rfl, h1, h2, h3⟩ := h
    exact ⟨a, vs, rfl, SqT.mono e h1, Rps.mono e ds vs h2, fun q => (h3 q).mono e⟩
  | .lst ds, v, h => by
    simp only [Rp] at h ⊢
    obtain ⟨a, vs, rfl, h1, h2⟩ := h
    exact ⟨a, vs, rfl, SqL.mono e h1, Rps.mono e ds vs h2⟩
  | .dct ds, v, h => by
    simp only [Rp] at h ⊢
    obtain ⟨a, vs, rfl, h1, h2⟩ := h
    exact ⟨a, vs, rfl, e _ _ h1, Rpk.mono e ds vs h2⟩
  | .obj k ds, v, h => by
    simp only [Rp] at h ⊢
    obtain ⟨a, C, dx, vs, rfl, h1, h2, h3, h4, h5⟩ := h
    exact ⟨a, C, dx, vs, rfl, e _ _ h1, e _ _ h2, h3, h4, Rps.mono e ds vs h5⟩
  | .exc _ _, v, h => by simp only [Rp] at h
theorem Rps.mono (e : Same F F') : ∀ (ds : List D) (vs : List V), Rps c F ds vs → Rps c F' ds vs
  | [], vs, h => by simpa [Rps] using h
  | d :: ds, vs, h => by
    simp only [Rps] at h ⊢
    obtain ⟨v, r, rfl, h1, h2⟩ := h
    exact ⟨v, r, rfl, Rp.mono e d v h1, Rps.mono e ds r h2⟩
theorem Rpk.mono (e : Same F F') : ∀ (ds : List (Key × D)) (vs : List (Key × V)), Rpk c F ds vs → Rpk c F' ds vs
  | [], vs, h => by simpa [Rpk] using h
  | (k, d) :: ds, vs, h => by
    simp only [Rpk] at h ⊢
    obtain ⟨v, r, rfl, h1, h2⟩ := h
    exact ⟨v, r, rfl, Rp.mono e d v h1, Rpk.mono e ds r h2⟩
end
theorem Rps.cons_iff {d : D} {ds : List D} {v : V} {vs : List V} : Rps c F (d :: ds) (v :: vs) ↔ Rp c F d v ∧ Rps c F ds vs := by
  simp only [Rps]
  exact ⟨fun ⟨_, _, e, h1, h2⟩ => by cases e; exact ⟨h1, h2⟩, fun ⟨h1, h2⟩ => ⟨_, _, rfl, h1, h2⟩⟩
theorem Rps.nil : Rps c F [] [] := by simp [Rps]
theorem Rps.cons {d : D} {ds : List D} {v : V} {vs : List V} (h1 : Rp c F d v) (h2 : Rps c F ds vs) : Rps c F (d :: ds) (v :: vs) := Rps.cons_iff.mpr ⟨h1, h2⟩
theorem Rps.inv {ds : List D} {vs : List V} (h : Rps c F ds vs) : (ds = [] ∧ vs = []) ∨ ∃ d r v s, ds = d :: r ∧ vs = v :: s ∧ Rp c F d v ∧ Rps c F r s := by
  cases ds with
  | nil => simp only [Rps] at h; exact .inl ⟨rfl, h⟩
  | cons d r =>
    simp only [Rps] at h
    obtain ⟨v, s, rfl, h1, h2⟩ := h
    exact .inr ⟨d, r, v, s, rfl, rfl, h1, h2⟩
theorem Rps.length : ∀ {ds : List D} {vs : List V}, Rps c F ds vs → vs.length = ds.length
  | [], vs, h => by simp only [Rps] at h; subst h; rfl
  | d :: ds, vs, h => by
    simp only [Rps] at h
    obtain ⟨v, r, rfl, _, h2⟩ := h
    simp [Rps.length h2]
theorem Rps.get : ∀ {ds : List D} {vs : List V} {i : Nat} {d : D}, Rps c F ds vs → ds[i]? = some d → ∃ v, vs[i]? = some v ∧ Rp c F d v
  | [], _, _, _, _, e => by simp at e
  | x :: ds, vs, 0, d, h, e => by
    simp only [Rps] at h
    obtain ⟨v, r, rfl, h1, h2⟩ := h
    simp at e; subst e
    exact ⟨v, rfl, h1⟩
  | x :: ds, vs, i + 1, d, h, e => by
    simp only [Rps] at h
    obtain ⟨v, r, rfl, h1, h2⟩ := h
    obtain ⟨u, h3, h4⟩ := Rps.get (i := i) h2 (by simpa using e)
    exact ⟨u, by simpa using h3, h4⟩
theorem Rps.get' {ds : List D} {vs : List V} {i : Nat} {v : V} (h : Rps c F ds vs) (e : vs[i]? = some v) : ∃ d, ds[i]? = some d ∧ Rp c F d v := by
  have hi : i < ds.length := by rw [← h.length]; exact (List.getElem?_eq_some_iff.mp e).1
  obtain ⟨u, h1, h2⟩ := h.get (i := i) (List.getElem?_eq_getElem hi)
  rw [e] at h1; cases h1
  exact ⟨_, List.getElem?_eq_getElem hi, h2⟩
theorem Rps.append : ∀ {ds es : List D} {vs us : List V}, Rps c F ds vs → Rps c F es us → Rps c F (ds ++ es) (vs ++ us)
  | [], _, _, _, h, k => by simp only [Rps] at h; subst h; exact k
  | d :: ds, _, _, _, h, k => by
    simp only [Rps] at h
    obtain ⟨v, r, rfl, h1, h2⟩ := h
    exact .cons h1 (Rps.append h2 k)
theorem Rps.take : ∀ {ds : List D} {vs : List V} (n : Nat), Rps c F ds vs → Rps c F (ds.take n) (vs.take n)
  | _, _, 0, _ => .nil
  | [], _, _ + 1, h => by simp only [Rps] at h; subst h; exact .nil
  | d :: ds, _, n + 1, h => by
    simp only [Rps] at h
    obtain ⟨v, r, rfl, h1, h2⟩ := h
    exact .cons h1 (Rps.take n h2)
theorem Rps.drop : ∀ {ds : List D} {vs : List V} (n : Nat), Rps c F ds vs → Rps c F (ds.drop n) (vs.drop n)
  | _, _, 0, h => h
  | [], _, _ + 1, h => by simp only [Rps] at h; subst h; exact .nil
  | d :: ds, _, n + 1, h => by
    simp only [Rps] at h
    obtain ⟨v, r, rfl, h1, h2⟩ := h
    exact Rps.drop n h2
theorem Rps.reverse : ∀ {ds : List D} {vs : List V}, Rps c F ds vs → Rps c F ds.reverse vs.reverse
  | [], _, h => by simp only [Rps] at h; subst h; exact .nil
  | d :: ds, _, h => by
    simp only [Rps] at h
    obtain ⟨v, r, rfl, h1, h2⟩ := h
    rw [List.reverse_cons, List.reverse_cons]
    exact (Rps.reverse h2).append (.cons h1 .nil)
theorem Rps.set : ∀ {ds : List D} {vs : List V} (i : Nat) {d : D} {v : V}, Rps c F ds vs → Rp c F d v → Rps c F (ds.set i d) (vs.set i v)
  | [], _, _, _, _, h, _ => by simp only [Rps] at h; subst h; exact .nil
  | _ :: _, _, 0, _, _, h, k => by
    simp only [Rps] at h
    obtain ⟨v, r, rfl, h1, h2⟩ := h
    exact .cons k h2
  | _ :: ds, _, i + 1, _, _, h, k => by
    simp only [Rps] at h
    obtain ⟨v, r, rfl, h1, h2⟩ := h
    exact .cons h1 (Rps.set i h2 k)
theorem Rps.rep {ds : List D} {vs : List V} (h : Rps c F ds vs) : ∀ n : Nat, Rps c F (List.replicate n ds).flatten (List.replicate n vs).flatten
  | 0 => .nil
  | n + 1 => by
    rw [List.replicate_succ, List.replicate_succ, List.flatten_cons, List.flatten_cons]
    exact h.append (Rps.rep h n)
theorem Rps.ints : ∀ {ds : List D} {vs : List V} {is : List Int}, Rps c F ds vs → intsOf ds = some is → vs = is.map V.int
  | [], vs, is, h, e => by simp only [Rps] at h; subst h; cases e; rfl
  | d :: ds, vs, is, h, e => by
    simp only [Rps] at h
    obtain ⟨v, r, rfl, h1, h2⟩ := h
    cases d <;> simp only [intsOf] at e <;> try contradiction
    rw [Option.map_eq_some_iff] at e
    obtain ⟨js, e1, rfl⟩ := e
    simp only [Rp] at h1
    subst h1
    rw [Rps.ints h2 e1]; rfl
theorem Rps.bls : ∀ {ds : List D} {vs : List V} {is : List Bool}, Rps c F ds vs → blsOf ds = some is → vs = is.map V.bl
  | [], vs, is, h, e => by simp only [Rps] at h; subst h; cases e; rfl
  | d :: ds, vs, is, h, e => by
    simp only [Rps] at h
    obtain ⟨v, r, rfl, h1, h2⟩ := h
    cases d <;> simp only [blsOf] at e <;> try contradiction
    rw [Option.map_eq_some_iff] at e
    obtain ⟨js, e1, rfl⟩ := e
    simp only [Rp] at h1
    subst h1
    rw [Rps.bls h2 e1]; rfl
theorem Rps.strs : ∀ {ds : List D} {vs : List V} {is : List PySem.Str}, Rps c F ds vs → strsOf ds = some is → vs = is.map V.str
  | [], vs, is, h, e => by simp only [Rps] at h; subst h; cases e; rfl
  | d :: ds, vs, is, h, e => by
    simp only [Rps] at h
    obtain ⟨v, r, rfl, h1, h2⟩ := h
    cases d <;> simp only [strsOf] at e <;> try contradiction
    rw [Option.map_eq_some_iff] at e
    obtain ⟨js, e1, rfl⟩ := e
    simp only [Rp] at h1
    subst h1
    rw [Rps.strs h2 e1]; rfl
end

/-! one's own list or dict, and what may be read -/
def Ob (c : Cn) (F H : Hp) (p : Addr) : D → Prop
  | .lst ds => ∃ vs, H p = some (.lst vs) ∧ Rps c F ds vs
  | .dct kds => ∃ kvs, H p = some (.dK kvs) ∧ Rpk c F kds kvs
  | _ => False
def Rb (c : Cn) (F H : Hp) (d : D) (v : V) : Prop := Rp c F d v ∨ ∃ p, v = .ref p ∧ Ob c F H p d
/-- a heap, and its frozen part, grown -/
structure Ext (H F H' F' : Hp) : Prop where
  same : Same H H'
  sub : Same F' H'
  fr : ∀ a, H a ≠ none → F' a = F a
theorem Ext.refl {H F : Hp} (h : Same F H) : Ext H F H F := ⟨Same.refl _, h, fun _ _ => rfl⟩
theorem Ext.trans {H F H1 F1 H2 F2 : Hp} (a : Ext H F H1 F1) (b : Ext H1 F1 H2 F2) : Ext H F H2 F2 :=
  ⟨a.same.trans b.same, b.sub, fun x hx => by
    have : H1 x ≠ none := by
      cases q : H x with
      | none => exact absurd q hx
      | some o => rw [a.same x o q]; simp
    rw [b.fr x this, a.fr x hx]⟩
theorem Ext.frs {H F H' F' : Hp} (e : Ext H F H' F') (h : Same F H) : Same F F' := fun a o q => by
  rw [e.fr a (by rw [h a o q]; simp)]; exact q
theorem Ob.mono {c : Cn} {F F' H H' : Hp} {p : Addr} {d : D} (e : Same F F') (k : Same H H') (h : Ob c F H p d) : Ob c F' H' p d := by
  cases d <;> simp only [Ob] at h ⊢
  · obtain ⟨vs, h1, h2⟩ := h; exact ⟨vs, k _ _ h1, Rps.mono e _ _ h2⟩
  · obtain ⟨vs, h1, h2⟩ := h; exact ⟨vs, k _ _ h1, Rpk.mono e _ _ h2⟩
theorem Rb.mono {c : Cn} {F F' H H' : Hp} {d : D} {v : V} (e : Same F F') (k : Same H H') (h : Rb c F H d v) : Rb c F' H' d v := by
  rcases h with h | ⟨p, rfl, h⟩
  · exact .inl (Rp.mono e _ _ h)
  · exact .inr ⟨p, rfl, h.mono e k⟩
theorem Rb.lst {c : Cn} {F H : Hp} {ds : List D} {v : V} (s : Same F H) (h : Rb c F H (.lst ds) v) : ∃ a vs, v = .ref a ∧ SqL c.K H a vs ∧ Rps c F ds vs := by
  rcases h with h | ⟨p, rfl, h⟩
  · simp only [Rp] at h
    obtain ⟨a, vs, rfl, h1, h2⟩ := h
    exact ⟨a, vs, rfl, SqL.mono s h1, h2⟩
  · simp only [Ob] at h
    obtain ⟨vs, h1, h2⟩ := h
    exact ⟨p, vs, rfl, SqL.of h1, h2⟩
theorem Rb.tup {c : Cn} {F H : Hp} {ds : List D} {v : V} (s : Same F H) (h : Rb c F H (.tup ds) v) : ∃ a vs, v = .ref a ∧ SqT c.K H a vs ∧ Rps c F ds vs := by
  rcases h with h | ⟨p, rfl, h⟩
  · simp only [Rp] at h
    obtain ⟨a, vs, rfl, h1, h2, _⟩ := h
    exact ⟨a, vs, rfl, SqT.mono s h1, h2⟩
  · simp only [Ob] at h
theorem Rb.dct {c : Cn} {F H : Hp} {ds : List (Key × D)} {v : V} (s : Same F H) (h : Rb c F H (.dct ds) v) : ∃ a vs, v = .ref a ∧ H a = some (.dK vs) ∧ Rpk c F ds vs := by
  rcases h with h | ⟨p, rfl, h⟩
  · simp only [Rp] at h
    obtain ⟨a, vs, rfl, h1, h2⟩ := h
    exact ⟨a, vs, rfl, s _ _ h1, h2⟩
  · simp only [Ob] at h
    obtain ⟨vs, h1, h2⟩ := h
    exact ⟨p, vs, rfl, h1, h2⟩
/-- a sequence: list or tuple -/
theorem Rb.seq {c : Cn} {F H : Hp} {d : D} {ds : List D} {v : V} (s : Same F H) (h : Rb c F H d v) (e : seqOf d = some ds) : ∃ a vs, v = .ref a ∧ (SqL c.K H a vs ∨ SqT c.K H a vs) ∧ Rps c F ds vs := by
  cases d <;> simp only [seqOf] at e <;> cases e
  · obtain ⟨a, vs, e1, h1, h2⟩ := h.tup s; exact ⟨a, vs, e1, .inr h1, h2⟩
  · obtain ⟨a, vs, e1, h1, h2⟩ := h.lst s; exact ⟨a, vs, e1, .inl h1, h2⟩
theorem Rb.int {c : Cn} {F H : Hp} {i : Int} {v : V} (h : Rb c F H (.int i) v) : v = .int i := by
  rcases h with h | ⟨p, rfl, h⟩
  · simpa [Rp] using h
  · simp only [Ob] at h
theorem Rb.str {c : Cn} {F H : Hp} {i : PySem.Str} {v : V} (h : Rb c F H (.str i) v) : v = .str i := by
  rcases h with h | ⟨p, rfl, h⟩
  · simpa [Rp] using h
  · simp only [Ob] at h
theorem Rb.bl {c : Cn} {F H : Hp} {i : Bool} {v : V} (h : Rb c F H (.bl i) v) : v = .bl i := by
  rcases h with h | ⟨p, rfl, h⟩
  · simpa [Rp] using h
  · simp only [Ob] at h
theorem Rb.non {c : Cn} {F H : Hp} {v : V} (h : Rb c F H .non v) : v = .non := by
  rcases h with h | ⟨p, rfl, h⟩
  · simpa [Rp] using h
  · simp only [Ob] at h
theorem Rb.key {c : Cn} {F H : Hp} {d : D} {k : Key} {v : V} (h : Rb c F H d v) (e : keyOf d = some k) : v = kV k := by
  cases d <;> simp only [keyOf] at e <;> cases e
  · exact h.int
  · exact h.str
theorem Rb.none_iff {c : Cn} {F H : Hp} {d : D} {v : V} (h : Rb c F H d v) : decide (v = .non) = isNon d := by
  rcases h with h | ⟨p, rfl, h⟩
  · cases d <;> simp only [Rp] at h
    · subst h; rfl
    · subst h; rfl
    · subst h; rfl
    · subst h; rfl
    · obtain ⟨a, vs, rfl, _⟩ := h; rfl
    · obtain ⟨a, vs, rfl, _⟩ := h; rfl
    · obtain ⟨a, vs, rfl, _⟩ := h; rfl
    · obtain ⟨a, C, dx, vs, rfl, _⟩ := h; rfl
  · cases d <;> simp only [Ob] at h <;> rfl

/-! what is told: to be read; frozen; new -/
inductive RM where
  | B | V | O
  deriving DecidableEq
def Res (c : Cn) (m : RM) (H F' H' : Hp) (d : D) (v : V) : Prop := match m with
  | .B => Rb c F' H' d v
  | .V => Rp c F' d v
  | .O => if isOwn d then ∃ p, v = .ref p ∧ H p = none ∧ F' p = none ∧ Ob c F' H' p d else Rp c F' d v
theorem Res.of_rp {c : Cn} {m : RM} {H F' H' : Hp} {d : D} {v : V} (h : Rp c F' d v) (k : isOwn d = false) : Res c m H F' H' d v := by
  cases m
  · exact .inl h
  · exact h
  · simp only [Res, k]; exact h
theorem Res.weak {c : Cn} {m : RM} {H H1 F' H' : Hp} {d : D} {v : V} (k : Same H H1) (h : Res c m H1 F' H' d v) : Res c m H F' H' d v := by
  cases m
  · exact h
  · exact h
  · simp only [Res] at h ⊢
    split
    · rename_i q
      rw [if_pos q] at h
      obtain ⟨p, e, h1, h2, h3⟩ := h
      exact ⟨p, e, k.free h1, h2, h3⟩
    · rename_i q
      rw [if_neg q] at h
      exact h
theorem free_sub {F H : Hp} {p : Addr} (s : Same F H) (h : H p = none) : F p = none := s.free h
theorem same_new {H : Hp} {p : Addr} {o : HO} (h : H p = none) : Same H (upd H p o) := fun b x e => by
  rw [upd_ne (ne_of_none e h)]
  exact e
theorem upd_sub {F H : Hp} {p : Addr} {o : HO} (s : Same F H) : Same (upd F p o) (upd H p o) := fun b x e => by
  by_cases hb : b = p
  · subst hb; rw [upd_same] at e ⊢; exact e
  · rw [upd_ne hb] at e ⊢; exact s _ _ e
theorem ext_new {F H : Hp} {p : Addr} {o : HO} (s : Same F H) (h : H p = none) : Ext H F (upd H p o) (upd F p o) :=
  ⟨same_new h, upd_sub s, fun a ha => upd_ne (fun e => by rw [e] at ha; exact ha h)⟩
theorem ext_own {F H : Hp} {p : Addr} {o : HO} (s : Same F H) (h : H p = none) : Ext H F (upd H p o) F :=
  ⟨same_new h, s.trans (same_new h), fun _ _ => rfl⟩
/-- what is wanted of a value: the ways on, by its tree -/
def Want (c : Cn) (m : RM) (F H : Hp) (d : D) (Q : VK) : Prop := ∀ v H' F', Ext H F H' F' → Res c m H F' H' d v → Q v H'
theorem Want.mono {c : Cn} {m : RM} {F H F1 H1 : Hp} {d : D} {Q : VK} (w : Want c m F H d Q) (e : Ext H F H1 F1) : Want c m F1 H1 d Q :=
  fun v H' F' e' r => w v H' F' (e.trans e') (r.weak e.same)
theorem Want.sc {c : Cn} {m : RM} {F H : Hp} {d : D} {v : V} {Q : VK} (w : Want c m F H d Q) (s : Same F H) (r : Rp c F d v) (k : isOwn d = false) : Q v H := w v H F (Ext.refl s) (Res.of_rp r k)
theorem Want.int {c : Cn} {m : RM} {F H : Hp} {i : Int} {Q : VK} (w : Want c m F H (.int i) Q) (s : Same F H) : Q (.int i) H := w.sc s (by simp [Rp]) rfl
theorem Want.str {c : Cn} {m : RM} {F H : Hp} {i : PySem.Str} {Q : VK} (w : Want c m F H (.str i) Q) (s : Same F H) : Q (.str i) H := w.sc s (by simp [Rp]) rfl
theorem Want.bl {c : Cn} {m : RM} {F H : Hp} {i : Bool} {Q : VK} (w : Want c m F H (.bl i) Q) (s : Same F H) : Q (.bl i) H := w.sc s (by simp [Rp]) rfl
theorem Want.non {c : Cn} {m : RM} {F H : Hp} {Q : VK} (w : Want c m F H .non Q) (s : Same F H) : Q .non H := w.sc s (by simp [Rp]) rfl
theorem Want.lst {c : Cn} {m : RM} {F H : Hp} {ds : List D} {vs : List V} {p : Addr} {Q : VK} (w : Want c m F H (.lst ds) Q) (s : Same F H) (h : H p = none) (r : Rps c F ds vs) : Q (.ref p) (upd H p (.lst vs)) := by
  have hF := free_sub s h
  cases m
  · exact w _ _ F (ext_own s h) (.inr ⟨p, rfl, vs, upd_same, r⟩)
  · exact w _ _ (upd F p (.lst vs)) (ext_new s h) (by simp only [Res, Rp]; exact ⟨p, vs, rfl, SqL.of upd_same, Rps.mono (same_new hF) _ _ r⟩)
  · exact w _ _ F (ext_own s h) (by simp only [Res, isOwn, if_true]; exact ⟨p, rfl, h, hF, vs, upd_same, r⟩)
theorem Want.tup {c : Cn} {m : RM} {F H : Hp} {ds : List D} {vs : List V} {p : Addr} {Q : VK} (w : Want c m F H (.tup ds) Q) (s : Same F H) (h : H p = none) (r : Rps c F ds vs) (hd : dictB ds = false) : Q (.ref p) (upd H p (.tup vs)) := by
  have hF := free_sub s h
  exact w _ _ (upd F p (.tup vs)) (ext_new s h) (Res.of_rp (by simp only [Rp]; exact ⟨p, vs, rfl, SqT.of upd_same, Rps.mono (same_new hF) _ _ r, fun q => by rw [hd] at q; cases q⟩) rfl)
theorem Want.tupF {c : Cn} {m : RM} {F H : Hp} {ds : List D} {vs : List V} {p : Addr} {o : Obj} {Q : VK} (w : Want c m F H (.tup ds) Q) (s : Same F H) (h : H p = none) (r : Rps c F ds vs) (ho : o.dict = none) : Q (.ref p) (upd H p (.frz o (.tup vs))) := by
  have hF := free_sub s h
  exact w _ _ (upd F p (.frz o (.tup vs))) (ext_new s h) (Res.of_rp (by simp only [Rp]; exact ⟨p, vs, rfl, .inl (.inr ⟨o, upd_same⟩), Rps.mono (same_new hF) _ _ r, fun _ => .inl ⟨o, vs, upd_same, ho⟩⟩) rfl)
theorem Want.dct {c : Cn} {m : RM} {F H : Hp} {ds : List (Key × D)} {vs : List (Key × V)} {p : Addr} {Q : VK} (w : Want c m F H (.dct ds) Q) (s : Same F H) (h : H p = none) (r : Rpk c F ds vs) : Q (.ref p) (upd H p (.dK vs)) := by
  have hF := free_sub s h
  cases m
  · exact w _ _ F (ext_own s h) (.inr ⟨p, rfl, vs, upd_same, r⟩)
  · exact w _ _ (upd F p (.dK vs)) (ext_new s h) (by simp only [Res, Rp]; exact ⟨p, vs, rfl, upd_same, Rpk.mono (same_new hF) _ _ r⟩)
  · exact w _ _ F (ext_own s h) (by simp only [Res, isOwn, if_true]; exact ⟨p, rfl, h, hF, vs, upd_same, r⟩)

theorem lineN_eq : lineN = sizeLine := by rw [sizeLine_eq]; rfl

/-! operations by values -/
/-- f does what g tells of the trees -/
def Op2 (X : Cx) (c : Cn) (m : RM) (f : Value → Value → Sem Value) (g : D → D → Option D) : Prop :=
  OpR X f (fun x y H Q => ∃ F dx dy d, Same F H ∧ Rb c F H dx x ∧ Rb c F H dy y ∧ g dx dy = some d ∧ Want c m F H d Q)
def Op1 (X : Cx) (c : Cn) (m : RM) (f : Value → Sem Value) (g : D → Option D) : Prop :=
  UnR X f (fun x H Q => ∃ F dx d, Same F H ∧ Rb c F H dx x ∧ g dx = some d ∧ Want c m F H d Q)
section
variable {X : Cx} {c : Cn} {m : RM}
theorem OpR.imp {f : Value → Value → Sem Value} {r r' : R2} (h : OpR X f r) (k : ∀ x y H Q, r' x y H Q → r x y H Q) : OpR X f r' := by
  intro pins s σ H x y v u Q I rx ry q
  exact h pins s σ H x y v u Q I rx ry (k _ _ _ _ q)

end
end Mi

/-! Mi, part B2: operators and built-ins by values. -/
namespace Mi
open PySem L2 PySem.Spec PyProof.Rows

/-! ### raw: lists whose further slots are not known -/
theorem rawAdd (l b : Addr) (xs ys : Array Value) (n k : Nat) (sl sm : Array (Option Value)) (hz : xs.size + ys.size ≤ sizeLine) :
    Meets (Builtin.«list.__add__» ⟨[.ref l, .ref b], []⟩) (fun _ R s => s.heap.get? l = some { cls := .type "list", data := .seq xs n, slots := sl } ∧ s.heap.get? b = some { cls := .type "list", data := .seq ys k, slots := sm } ∧
      R (.ok (.ret (Value.ref s.heap.objs.size))) { s with heap := s.heap.push { cls := Value.type "list", data := Data.seq (xs ++ ys) }, toks := s.toks }) :=
  .of_wp fun prog w A R s h => by
    obtain ⟨hp, g, d, tk, os⟩ := s
    obtain ⟨hl, hb, h⟩ := h
    have f1 := AutoSeq1.idx_int
    have f2 := AutoSeq1.sub_tuple_tuple
    have f3 := AutoSeq1.sub_list_list
    have f4 := AutoSeq1.sub_tuple_list
    have f5 := AutoSeq1.sub_list_tuple
    wp_walk using AutoSeq1.wpAny_loadPart' hl, AutoSeq1.wpAny_loadPart' hb
    exact ⟨_, rfl, h⟩
theorem rawExt (l b : Addr) (xs ys : Array Value) (n k : Nat) (sm : Array (Option Value)) (hz : xs.size + ys.size ≤ sizeLine) (h0 : ¬(!xs.isEmpty && Builtin.List.listTooLong (xs.size + ys.size)) = true) (h1 : xs.size ≤ sizeLine) :
    Meets (Builtin.«list.extend» ⟨[.ref l, .ref b], []⟩) (fun _ R s => s.heap.get? l = some { cls := .type "list", data := .seq xs n } ∧ s.heap.get? b = some { cls := .type "list", data := .seq ys k, slots := sm } ∧
      R (.ok (.ret Value.none)) { s with heap := s.heap.update l (Obj.mapSeq fun x => x ++ ys), toks := s.toks }) :=
  .of_wp fun prog w A R s h => by
    obtain ⟨hp, g, d, tk, os⟩ := s
    obtain ⟨hl, hb, h⟩ := h
    have f1 := AutoSeq1.idx_int
    have f2 := AutoSeq1.sub_tuple_tuple
    have f3 := AutoSeq1.sub_list_list
    have f4 := AutoSeq1.sub_tuple_list
    have f5 := AutoSeq1.sub_list_tuple
    have hz' : (xs ++ ys).size ≤ sizeLine + 1 := by rw [Array.size_append]; omega
    wp_walk using (wpAny_updateSeq hl rfl (hz := h1) (_hz' := hz')), AutoSeq1.wpAny_loadPart' hl, AutoSeq1.wpAny_loadPart' hb
    exact ⟨_, rfl, h⟩
theorem rawMul (l : Addr) (xs : Array Value) (n : Nat) (sl : Array (Option Value)) (x : Int) (u : Tok) (hc0 : ¬(!Builtin.List.listFitsIndex x) = true) (hc1 : ¬xs.size * x.toNat > (2 ^ 63 - 1) / 8) (hc2 : ¬Builtin.List.listTooLong (xs.size * x.toNat) = true) :
    Meets (Builtin.«list.__mul__» ⟨[.ref l, .int x u], []⟩) (fun _ R s => s.heap.get? l = some { cls := .type "list", data := .seq xs n, slots := sl } ∧
      R (.ok (.ret (Value.ref s.heap.objs.size))) { s with heap := s.heap.push { cls := Value.type "list", data := Data.seq (List.foldl (fun x1 x2 => x1 ++ x2) #[] (List.replicate (if xs.isEmpty = true then 0 else x.toNat) xs)) }, toks := s.toks }) :=
  .of_wp fun prog w A R s h => by
    obtain ⟨hp, g, d, tk, os⟩ := s
    obtain ⟨hl, h⟩ := h
    have hsz := AutoListH.joined_fits hc2
    wp_walk
    refine wpAny_ite_false (decide_eq_false (Nat.not_lt.mpr hsz)) ?_
    wp_walk
    exact ⟨_, rfl, h⟩

theorem rawIntRmul (x : Int) (t : Tok) (l : Addr) (xs : Array Value) (n : Nat) (sl : Array (Option Value)) :
    Meets (Builtin.«int.__rmul__» ⟨[.int x t, .ref l], []⟩) (fun _ R s => s.heap.get? l = some { cls := .type "list", data := .seq xs n, slots := sl } ∧ R (.ok (.ret Value.notImplemented)) s) :=
  .of_wp fun prog w A R s h => by
    obtain ⟨hp, g, d, tk, os⟩ := s
    obtain ⟨hl, h⟩ := h
    wp_walk
    exact ⟨_, rfl, h⟩

section
variable {X : Cx} {pins : List (Addr × Obj)} {σ : L2.St} {H : Hp} {s : Shared}
/-- the list's object, its further slots open -/
theorem listObj (I : Inv X pins σ H s) {a : Addr} {xs : List V} (h : SqL X.K H a xs) : ∃ (its : List Value) (n : Nat) (sl : Array (Option Value)), Vals xs its ∧ xs.length = its.length ∧ xs.length ≤ sizeLine ∧
    s.heap.get? a = some { cls := .type "list", data := .seq its.toArray n, slots := sl } := by
  obtain ⟨its, r, ⟨⟨oc, od, dt, sl⟩, n, e, hc, hd, hdat⟩, hz⟩ := I.list h
  simp only at hc hd hdat
  subst hc hd hdat
  exact ⟨its, n, sl, r, r.length, hz, e⟩
theorem op_catL : OpR X (binaryOp .Add) (fun x y H Q => ∃ l b xs zs, x = .ref l ∧ y = .ref b ∧ SqL X.K H l xs ∧ SqL X.K H b zs ∧ xs.length + zs.length ≤ sizeLine ∧ ∀ p, H p = none → Q (.ref p) (upd H p (.lst (xs ++ zs)))) := by
  intro pins s σ H x y v u Q I rx ry h
  obtain ⟨l, b, xs, zs, rfl, rfl, h1, h2, hz, q⟩ := h
  cases rx
  cases ry
  obtain ⟨its, n, sl, r1, l1, _, e1⟩ := listObj I h1
  obtain ⟨jts, k, sm, r2, l2, _, e2⟩ := listObj I h2
  refine concat_meets ⟨_, e1, rfl⟩ ⟨_, e2, rfl⟩ PySem.noFill_list_add PySem.seq_list_add F.slot_list_add F.entry_list_add (F.args_list_add_2 _ _)
    (rawAdd l b its.toArray jts.toArray n k sl sm (by rw [List.size_toArray, List.size_toArray]; omega)) ⟨e1, e2, ?_⟩
  have ea : its.toArray ++ jts.toArray = (its ++ jts).toArray := by simp
  rw [ea]
  exact ⟨.ref _, _, I.lnew (t' := s.toks) (r1.append r2) (by rw [List.length_append]; omega), rfl, q _ I.fresh⟩
theorem op_repL : OpR X (binaryOp .Mult) (fun x y H Q => ∃ l k xs, x = .ref l ∧ y = .int k ∧ SqL X.K H l xs ∧ -(2 ^ 63) ≤ k ∧ k < 2 ^ 63 ∧ xs.length * k.toNat ≤ sizeLine ∧
    ∀ p, H p = none → Q (.ref p) (upd H p (.lst (List.replicate k.toNat xs).flatten))) := by
  intro pins s σ H x y v u Q I rx ry h
  obtain ⟨l, k, xs, rfl, rfl, h1, hk1, hk2, hz, q⟩ := h
  cases rx
  obtain ⟨t, rfl⟩ := ry
  obtain ⟨its, n, sl, r, hl, hzl, e⟩ := listObj I h1
  have hlen : its.toArray.size * k.toNat ≤ sizeLine := by rw [List.size_toArray, ← hl]; exact hz
  have hcap : ¬ its.toArray.size * k.toNat > (2 ^ 63 - 1) / 8 := by
    have : (sizeLine : Nat) ≤ (2 ^ 63 - 1) / 8 := by decide
    omega
  have hfit : ¬ (!Builtin.List.listFitsIndex k) = true := by
    rw [fitsIndex_both hk1 hk2]
    exact Bool.false_ne_true
  have hlong : ¬ Builtin.List.listTooLong (its.toArray.size * k.toNat) = true := by
    rw [notLongL hlen]
    exact Bool.false_ne_true
  have hnew : List.foldl (fun x1 x2 => x1 ++ x2) #[] (List.replicate (if its.toArray.isEmpty = true then 0 else k.toNat) its.toArray) = (List.replicate k.toNat its).flatten.toArray := by
    have f0 : ∀ m : Nat, List.foldl (fun x1 x2 => x1 ++ x2) #[] (List.replicate m its.toArray) = (List.replicate m its).flatten.toArray := fun m => by
      have z := foldl_rep its m []
      rw [List.nil_append] at z
      exact z
    rw [f0]
    cases its with
    | nil => simp
    | cons a r' => rw [if_neg (by simp)]
  refine wpAny_binaryOp_repeat_ref (T := "list") (U := "int") (by decide) ⟨_, e, rfl⟩ (fun s' => typeIs_int s' k t) noFill_list_mul F.fills_int_mul F.slot_int_rmul repeat_list F.slot_int_index.lookup
    (call_meets F.slot_int_rmul (typeIs_int s k t) F.entry_int_rmul (F.args_int_rmul_2 _ _) (rawIntRmul k t l its.toArray n sl)
      ⟨e, rfl, ⟨_, e, rfl⟩, call_meets F.slot_list_mul ⟨_, e, rfl⟩ F.entry_list_mul (F.args_list_mul_2 _ _) (rawMul l its.toArray n sl k t hfit hcap hlong) ⟨e, ?_⟩⟩)
  rw [hnew]
  exact ⟨.ref _, _, I.lnew (t' := s.toks) (r.rep k.toNat) (by rw [PyProof.Rows.lm_len_rep_flat, Nat.mul_comm]; exact hz), rfl, q _ I.fresh⟩
theorem mt_extL : MtM X "list.extend" (fun x vs H Q => ∃ l b xs zs, x = .ref l ∧ vs = [.ref b] ∧ H l = some (.lst xs) ∧ SqL X.K H b zs ∧ xs.length + zs.length ≤ sizeLine ∧ Q .non (upd H l (.lst (xs ++ zs)))) := by
  intro pins s σ H x vs v us Q I rx rv h
  obtain ⟨l, b, xs, zs, rfl, rfl, hH, hB, hz, q⟩ := h
  cases rx
  obtain ⟨u, rfl, ru⟩ := rv.one
  cases ru
  obtain ⟨z, its, n, r, hl, e⟩ := I.lstM hH
  obtain ⟨jts, k, sm, r2, hl2, _, e2⟩ := listObj I hB
  have hsz : its.toArray.size + jts.toArray.size ≤ sizeLine := by rw [List.size_toArray, List.size_toArray]; omega
  have hlong : ¬ (!its.toArray.isEmpty && Builtin.List.listTooLong (its.toArray.size + jts.toArray.size)) = true := by
    rw [notLongL hsz, Bool.and_false]
    exact Bool.false_ne_true
  refine call_meets F.slot_list_extend ⟨_, e, rfl⟩ F.entry_list_extend (F.args_list_extend_2 _ _) (rawExt l b its.toArray jts.toArray n k sm hsz hlong (by rw [List.size_toArray]; omega)) ⟨e, e2, ?_⟩
  refine ⟨.non, _, I.lset (its' := its ++ jts) hH e (by simp) (r.append r2) ?_, rfl, q⟩
  rw [List.length_append]
  omega
end

/-! data -/
section
variable {c : Cn} {F H : Hp}
mutual
theorem Rp.dp (s : Same F H) : ∀ (d : D) (v : V) (p : PyData), Rp c F d v → d.py = some p → Dp c.K H v p
  | .non, v, p, h, e => by simp only [Rp] at h; simp only [D.py] at e; cases e; subst h; exact .non
  | .bl b, v, p, h, e => by simp only [Rp] at h; simp only [D.py] at e; cases e; subst h; exact .bl b
  | .int i, v, p, h, e => by simp only [Rp] at h; simp only [D.py] at e; cases e; subst h; exact .int i
  | .str x, v, p, h, e => by simp only [Rp] at h; simp only [D.py] at e; cases e; subst h; exact .str x
  | .tup ds, v, p, h, e => by
    simp only [Rp] at h
    simp only [D.py, Option.map_eq_some_iff] at e
    obtain ⟨a, vs, rfl, h1, h2, _⟩ := h
    obtain ⟨ps, e1, rfl⟩ := e
    exact .tup (SqT.mono s h1) (Rps.dp s ds vs ps h2 e1)
  | .lst ds, v, p, h, e => by
    simp only [Rp] at h
    simp only [D.py, Option.map_eq_some_iff] at e
    obtain ⟨a, vs, rfl, h1, h2⟩ := h
    obtain ⟨ps, e1, rfl⟩ := e
    exact .lst (SqL.mono s h1) (Rps.dp s ds vs ps h2 e1)
  | .dct _, _, _, _, e => by simp only [D.py] at e; cases e
  | .obj _ _, _, _, _, e => by simp only [D.py] at e; cases e
  | .exc _ _, _, _, _, e => by simp only [D.py] at e; cases e
theorem Rps.dp (s : Same F H) : ∀ (ds : List D) (vs : List V) (ps : List PyData), Rps c F ds vs → D.pys ds = some ps → DpAll c.K H vs ps
  | [], vs, ps, h, e => by simp only [Rps] at h; simp only [D.pys] at e; cases e; subst h; exact .nil
  | d :: ds, vs, ps, h, e => by
    simp only [Rps] at h
    obtain ⟨v, r, rfl, h1, h2⟩ := h
    simp only [D.pys] at e
    cases e1 : d.py with
    | none => rw [e1] at e; cases e
    | some p =>
      cases e2 : D.pys ds with
      | none => rw [e1, e2] at e; cases e
      | some q =>
        rw [e1, e2] at e
        cases e
        exact .cons (Rp.dp s d v p h1 e1) (Rps.dp s ds r q h2 e2)
end
theorem Rb.dp (s : Same F H) {d : D} {v : V} {p : PyData} (h : Rb c F H d v) (e : d.py = some p) : Dp c.K H v p := by
  rcases h with h | ⟨a, rfl, h⟩
  · exact Rp.dp s d v p h e
  · cases d <;> simp only [Ob] at h
    · obtain ⟨vs, h1, h2⟩ := h
      simp only [D.py, Option.map_eq_some_iff] at e
      obtain ⟨ps, e1, rfl⟩ := e
      exact .lst (SqL.of h1) (Rps.dp s _ _ _ h2 e1)
    · simp only [D.py] at e; cases e
theorem flat_py {d : D} {v : V} (h : Rb c F H d v) (f : flatD d = true) : flatV v = true ∧ ∃ p, d.py = some p ∧ ∀ (d' : D) (v' : V) (p' : PyData), Rb c F H d' v' → flatD d' = true → d'.py = some p' → eqV v v' = PyData.eqv p p' := by
  cases d <;> simp only [flatD] at f <;> try contradiction
  · cases h.non
    refine ⟨rfl, .none, by simp [D.py], fun d' v' p' h' f' e' => ?_⟩
    cases d' <;> simp only [flatD] at f' <;> try contradiction
    · cases h'.non; simp only [D.py] at e'; cases e'; rfl
    · cases h'.bl; simp only [D.py] at e'; cases e'; rfl
    · cases h'.int; simp only [D.py] at e'; cases e'; rfl
    · cases h'.str; simp only [D.py] at e'; cases e'; rfl
  · rename_i b
    cases h.bl
    refine ⟨rfl, .bool b, by simp [D.py], fun d' v' p' h' f' e' => ?_⟩
    cases d' <;> simp only [flatD] at f' <;> try contradiction
    · cases h'.non; simp only [D.py] at e'; cases e'; rfl
    · cases h'.bl; simp only [D.py] at e'; cases e'; rfl
    · cases h'.int; simp only [D.py] at e'; cases e'; rfl
    · cases h'.str; simp only [D.py] at e'; cases e'; rfl
  · rename_i b
    cases h.int
    refine ⟨rfl, .int b, by simp [D.py], fun d' v' p' h' f' e' => ?_⟩
    cases d' <;> simp only [flatD] at f' <;> try contradiction
    · cases h'.non; simp only [D.py] at e'; cases e'; rfl
    · cases h'.bl; simp only [D.py] at e'; cases e'; rfl
    · cases h'.int; simp only [D.py] at e'; cases e'; rfl
    · cases h'.str; simp only [D.py] at e'; cases e'; rfl
  · rename_i b
    cases h.str
    refine ⟨rfl, .str b, by simp [D.py], fun d' v' p' h' f' e' => ?_⟩
    cases d' <;> simp only [flatD] at f' <;> try contradiction
    · cases h'.non; simp only [D.py] at e'; cases e'; rfl
    · cases h'.bl; simp only [D.py] at e'; cases e'; rfl
    · cases h'.int; simp only [D.py] at e'; cases e'; rfl
    · cases h'.str; simp only [D.py] at e'; cases e'; rfl
end

/-! the operators -/
section
variable {X : Cx} {c : Cn} {m : RM}
/-- t + u: a new tuple that bears nothing else -/
def rCatF (K : PySem.W.Frag) : R2 := fun x y H Q => ∃ a b xs ys, x = .ref a ∧ y = .ref b ∧ SqT K H a xs ∧ SqT K H b ys ∧ xs.length + ys.length ≤ sizeLine ∧
  (xs = [] → Q (.ref b) H) ∧ (xs ≠ [] → ys = [] → Q (.ref a) H) ∧ (xs ≠ [] → ys ≠ [] → ∀ (p : Addr) (o : Obj), H p = none → o.dict = none → Q (.ref p) (upd H p (.frz o (.tup (xs ++ ys)))))
theorem op_catF : OpR X (binaryOp .Add) (rCatF X.K) := by
  intro pins s σ H x y v u Q I rx ry h
  obtain ⟨a, b, xs, ys, rfl, rfl, ha, hb, hz, q0, q1, q2⟩ := h
  cases rx
  cases ry
  obtain ⟨its, r1, p1, _⟩ := I.tuple ha
  obtain ⟨its2, r2, p2, _⟩ := I.tuple hb
  by_cases hx : xs = []
  · subst hx
    cases r1
    exact cat_tup0 p1 p2 ⟨.ref b, H, I, rfl, q0 rfl⟩
  · refine HT.cat_tup p1 p2 (fun z => hx (r1.nil_iff.mp z)) (fun z => ⟨.ref a, H, I, rfl, q1 hx (r2.nil_iff.mp z)⟩) (fun z => ?_) (by rw [← r1.length, ← r2.length]; exact hz)
    refine ⟨.ref s.heap.objs.size, _, I.laid (t' := s.toks) (o := .frz { cls := .type "tuple", data := .seq (its ++ its2).toArray } (.tup (xs ++ ys))) (fun b ob q => Heap.get?_push_of_some _ q) (Nat.le_refl _) ?_, rfl, q2 hx (fun w => z (r2.nil_iff.mpr w)) _ _ (I.hok.fresh (Nat.le_refl _)) rfl⟩
    exact ⟨Heap.get?_push_size _ rfl, by rw [List.length_append]; exact hz, _, r1.append r2, IsTup.new _ _⟩
/-- t[lo:hi]: the whole of it is t itself, another one bears nothing else -/
def rSlF (K : PySem.W.Frag) : V → Option Int → Option Int → Hp → VK → Prop := fun x lo hi H Q => ∃ a xs, x = .ref a ∧ SqT K H a xs ∧
  (HT.sIx xs.length 0 lo = 0 ∧ HT.sIx xs.length xs.length hi = xs.length → Q (.ref a) H) ∧ (¬ (HT.sIx xs.length 0 lo = 0 ∧ HT.sIx xs.length xs.length hi = xs.length) → ∀ (p : Addr) (o : Obj), H p = none → o.dict = none → Q (.ref p) (upd H p (.frz o (.tup (cutV xs lo hi)))))
theorem sl_tupF : SlR X (rSlF X.K) := by
  intro pins s σ H x v vl vu lo hi sl Q I rx hs pl pu h
  obtain ⟨a, xs, rfl, hx, q1, q2⟩ := h
  cases rx
  obtain ⟨its, r, ht, hz⟩ := I.tuple hx
  have hlen : its.toArray.size = xs.length := by rw [List.size_toArray]; exact r.length.symm
  refine ⟨"tuple", _, PyProof.Rows.slot_tuple_getitem.lookup, ht.typeIs, ?_⟩
  by_cases hw : HT.sIx xs.length 0 lo = 0 ∧ HT.sIx xs.length xs.length hi = xs.length
  · exact getItem_tuple_whole ht hs pl pu (by rw [hlen]; exact hw) ⟨.ref a, H, I, rfl, q1 hw⟩
  · refine HT.getItem_tuple_cut ht hs pl pu (by rw [hlen]; exact hw) ?_ (by rw [hlen]; exact hz)
    rw [hlen]
    refine ⟨.ref s.heap.objs.size, _, I.laid (t' := s.toks) (o := .frz { cls := .type "tuple", data := .seq ((its.drop (HT.sIx xs.length 0 lo)).take (HT.sIx xs.length xs.length hi - HT.sIx xs.length 0 lo)).toArray } (.tup (cutV xs lo hi))) (fun b ob q => Heap.get?_push_of_some _ q) (Nat.le_refl _) ?_, rfl, q2 hw _ _ (I.hok.fresh (Nat.le_refl _)) rfl⟩
    exact ⟨Heap.get?_push_size _ rfl, Nat.le_trans (cutV_length xs lo hi) hz, _, (r.drop (HT.sIx xs.length 0 lo)).take (HT.sIx xs.length xs.length hi - HT.sIx xs.length 0 lo), IsTup.new _ _⟩
theorem o_add (hK : X.K = c.K) : Op2 X c m (binaryOp .Add) addD := by
  refine OpR.imp (op_add.or (op_add_str.or (op_catL.or op_catF))) ?_
  rintro x y H Q ⟨F, dx, dy, d, s, rx, ry, e, w⟩
  cases dx <;> cases dy <;> simp only [addD] at e <;> try contradiction
  · cases e
    exact .inl ⟨_, _, rx.int, ry.int, w.int s⟩
  · split at e <;> cases e
    rename_i hz
    exact .inr (.inl ⟨_, _, rx.str, ry.str, by rw [← lineN_eq]; exact hz, w.str s⟩)
  · split at e <;> cases e
    rename_i hz
    obtain ⟨a, vs, rfl, h1, h2⟩ := rx.tup s
    obtain ⟨b, us, rfl, h3, h4⟩ := ry.tup s
    refine .inr (.inr (.inr ⟨a, b, vs, us, rfl, rfl, by rw [hK]; exact h1, by rw [hK]; exact h3, by rw [h2.length, h4.length, ← lineN_eq]; exact hz, fun z => ?_, fun z z2 => ?_, fun z z2 p o hp ho => ?_⟩))
    · subst z
      rcases h2.inv with ⟨q, _⟩ | ⟨_, _, _, _, _, q, _⟩
      · subst q
        rcases ry with ry | ⟨_, _, ry⟩
        · exact w.sc s (by simpa using ry) rfl
        · simp only [Ob] at ry
      · cases q
    · subst z2
      rcases h4.inv with ⟨q, _⟩ | ⟨_, _, _, _, _, q, _⟩
      · subst q
        rcases rx with rx | ⟨_, _, rx⟩
        · exact w.sc s (by simpa using rx) rfl
        · simp only [Ob] at rx
      · cases q
    · exact w.tupF s hp (h2.append h4) ho
  · split at e <;> cases e
    rename_i hz
    obtain ⟨a, vs, rfl, h1, h2⟩ := rx.lst s
    obtain ⟨b, us, rfl, h3, h4⟩ := ry.lst s
    exact .inr (.inr (.inl ⟨a, b, vs, us, rfl, rfl, by rw [hK]; exact h1, by rw [hK]; exact h3, by rw [h2.length, h4.length, ← lineN_eq]; exact hz, fun p hp => w.lst s hp (h2.append h4)⟩))
theorem o_sub : Op2 X c m (binaryOp .Sub) subD := by
  refine OpR.imp op_sub ?_
  rintro x y H Q ⟨F, dx, dy, d, s, rx, ry, e, w⟩
  cases dx <;> cases dy <;> simp only [subD] at e <;> try contradiction
  cases e
  exact ⟨_, _, rx.int, ry.int, w.int s⟩
theorem small64_iff {i : Int} : small64 i = true ↔ -(2 ^ 64) < i ∧ i < 2 ^ 64 := by
  unfold small64 two64
  rw [Bool.and_eq_true, decide_eq_true_eq, decide_eq_true_eq]
  omega
theorem wide_log {i : Int} (h : wide i = true) : i.natAbs < 2 ^ 4096 := of_decide_eq_true h
theorem o_mul (hK : X.K = c.K) : Op2 X c m (binaryOp .Mult) mulD := by
  refine OpR.imp (op_mul.or (op_mulW.or op_repL)) ?_
  rintro x y H Q ⟨F, dx, dy, d, s, rx, ry, e, w⟩
  cases dx <;> cases dy <;> simp only [mulD] at e <;> try contradiction
  · split at e <;> cases e
    rename_i hz
    simp only [Bool.or_eq_true, Bool.and_eq_true] at hz
    rcases hz with (hz | hz) | hz
    · exact .inl ⟨_, _, rx.int, ry.int, .inl (small64_iff.mp hz), w.int s⟩
    · exact .inl ⟨_, _, rx.int, ry.int, .inr (small64_iff.mp hz), w.int s⟩
    · exact .inr (.inl ⟨_, _, rx.int, ry.int, wide_mul (wide_log hz.1) (wide_log hz.2) (by decide) (by decide) (by decide), w.int s⟩)
  · split at e <;> cases e
    rename_i hz
    simp only [Bool.and_eq_true, decide_eq_true_eq] at hz
    obtain ⟨⟨z1, z2⟩, z3⟩ := hz
    obtain ⟨a, vs, rfl, h1, h2⟩ := rx.lst s
    exact .inr (.inr ⟨a, _, vs, rfl, ry.int, by rw [hK]; exact h1, by omega, by omega, by rw [h2.length, ← lineN_eq]; exact z1, fun p hp => w.lst s hp (h2.rep _)⟩)
theorem o_fdiv : Op2 X c m (binaryOp .FloorDiv) fdivD := by
  refine OpR.imp op_fdivW ?_
  rintro x y H Q ⟨F, dx, dy, d, s, rx, ry, e, w⟩
  cases dx <;> cases dy <;> simp only [fdivD] at e <;> try contradiction
  split at e <;> cases e
  rename_i i j hz
  simp only [Bool.and_eq_true, Bool.or_eq_true, decide_eq_true_eq] at hz
  have hw : j.natAbs < 2 ^ 4096 := by
    rcases hz.2 with h | h
    · exact Nat.lt_of_lt_of_le (show j.natAbs < 1073741824 by have := hz.1; omega) (by decide)
    · exact wide_log h
  exact ⟨_, _, rx.int, ry.int, wide_div hz.1 hw (by decide) (by decide), w.int s⟩
theorem o_mod : Op2 X c m (binaryOp .Mod) modD := by
  refine OpR.imp op_mod ?_
  rintro x y H Q ⟨F, dx, dy, d, s, rx, ry, e, w⟩
  cases dx <;> cases dy <;> simp only [modD] at e <;> try contradiction
  split at e <;> cases e
  rename_i hz
  exact ⟨_, _, rx.int, ry.int, hz, w.int s⟩
theorem o_pow : Op2 X c m (binaryOp .Pow) powD := by
  refine OpR.imp op_pow ?_
  rintro x y H Q ⟨F, dx, dy, d, s, rx, ry, e, w⟩
  cases dx <;> cases dy <;> simp only [powD] at e <;> try contradiction
  split at e <;> cases e
  rename_i hz
  simp only [Bool.and_eq_true, decide_eq_true_eq] at hz
  refine ⟨_, _, rx.int, ry.int, ⟨hz.1.1, hz.1.2, ?_⟩, w.int s⟩
  have := small64_iff.mp hz.2
  omega
def aopOf : AOp → Operator
  | .add => .Add | .sub => .Sub | .mul => .Mult | .fdiv => .FloorDiv | .mod => .Mod | .pow => .Pow
theorem o_bin (hK : X.K = c.K) (o : AOp) : Op2 X c m (binaryOp (aopOf o)) (binD o) := by
  cases o
  · exact o_add hK
  · exact o_sub
  · exact o_mul hK
  · exact o_fdiv
  · exact o_mod
  · exact o_pow
theorem UnR.imp {f : Value → Sem Value} {r r' : V → Hp → VK → Prop} (h : UnR X f r) (k : ∀ x H Q, r' x H Q → r x H Q) : UnR X f r' := by
  intro pins s σ H x v Q I rx q
  exact h pins s σ H x v Q I rx (k _ _ _ q)
theorem o_neg : Op1 X c m (unaryOp .USub) negD := by
  refine UnR.imp un_neg ?_
  rintro x H Q ⟨F, dx, d, s, rx, e, w⟩
  cases dx <;> simp only [negD] at e <;> try contradiction
  cases e
  exact ⟨_, rx.int, w.int s⟩
theorem IsL_of {s : Shared} {a : Addr} {its : Array Value} (h : PlainL s.heap a its) : s.heap.IsList a its := by
  obtain ⟨o, n, ho, hc, _, hd⟩ := h
  exact ⟨o, ho, hc, n, hd⟩
/-- a list beside the empty one -/
theorem op_eqN (hu : X.A.units + 64 < cLine) : OpR X (compareOp .Eq) (fun x y H Q => rEqD X.K x y H Q ∨ ∃ a b v vs, x = .ref a ∧ y = .ref b ∧ SqL X.K H a (v :: vs) ∧ SqL X.K H b [] ∧ Q (.bl false) H) := by
  intro pins s σ H x y v u Q I rx ry h
  rcases h with h | ⟨a, b, w, ws, rfl, rfl, h1, h2, q⟩
  · exact op_eqD hu pins s σ H x y v u Q I rx ry h
  · cases rx; cases ry
    obtain ⟨its, r1, p1, _⟩ := I.list h1
    obtain ⟨jts, r2, p2, _⟩ := I.list h2
    cases r1
    cases r2
    exact PySem.SeqAt.eq_list_lengthsAt (IsL_of p1) (IsL_of p2) (by simp) (by omega) ⟨.bl false, H, I, rfl, q⟩
theorem eqE_inv {a b : D} {k : Bool} (h : eqE a b = some k) : eqD a b = some k ∨ k = false ∧ ∃ x xs, a = .lst (x :: xs) ∧ b = .lst [] := by
  unfold eqE at h
  split at h
  · rename_i c e; cases h; exact .inl e
  · split at h
    · cases h; exact .inr ⟨rfl, _, _, rfl, rfl⟩
    · cases h
theorem o_eq (hK : X.K = c.K) (hu : X.A.units + 64 < cLine) : Op2 X c m (compareOp .Eq) (cmpD .eq) := by
  refine OpR.imp (op_eqN hu) ?_
  rintro x y H Q ⟨F, dx, dy, d, s, rx, ry, e, w⟩
  simp only [cmpD, Option.map_eq_some_iff] at e
  obtain ⟨b, e, rfl⟩ := e
  rcases eqE_inv e with e | ⟨rfl, z, zs, rfl, rfl⟩
  · refine .inl ?_
    unfold eqD at e
    split at e
    · rename_i p q e1 e2
      split at e <;> cases e
      rename_i hz
      simp only [Bool.and_eq_true] at hz
      exact ⟨p, q, by rw [hK]; exact rx.dp s e1, by rw [hK]; exact ry.dp s e2, hz.1, hz.2, w.bl s⟩
    · cases e
  · obtain ⟨a, vs, rfl, h1, h2⟩ := rx.lst s
    obtain ⟨b, us, rfl, h3, h4⟩ := ry.lst s
    simp only [Rps] at h2 h4
    obtain ⟨v, r, rfl, _, _⟩ := h2
    subst h4
    exact .inr ⟨a, b, v, r, rfl, rfl, by rw [hK]; exact h1, by rw [hK]; exact h3, w.bl s⟩
theorem o_ne (hK : X.K = c.K) (hu : X.A.units + 64 < cLine) : Op2 X c m (compareOp .NotEq) (cmpD .ne) := by
  refine OpR.imp (op_neD hu) ?_
  rintro x y H Q ⟨F, dx, dy, d, s, rx, ry, e, w⟩
  simp only [cmpD, Option.map_eq_some_iff] at e
  obtain ⟨b, e, rfl⟩ := e
  unfold eqD at e
  split at e
  · rename_i p q e1 e2
    split at e <;> cases e
    rename_i hz
    simp only [Bool.and_eq_true] at hz
    exact ⟨p, q, by rw [hK]; exact rx.dp s e1, by rw [hK]; exact ry.dp s e2, hz.1, hz.2, w.bl s⟩
  · cases e
theorem o_ord {op : CmpOp} {f : Int → Int → Bool} (h : OpR X (compareOp op) (rI0 fun i j => .bl (f i j))) : Op2 X c m (compareOp op) (ordD f) := by
  refine OpR.imp h ?_
  rintro x y H Q ⟨F, dx, dy, d, s, rx, ry, e, w⟩
  cases dx <;> cases dy <;> simp only [ordD] at e <;> try contradiction
  cases e
  exact ⟨_, _, rx.int, ry.int, w.bl s⟩
theorem eqvs_any {x : D} {vx : V} {F H : Hp} (hx : Rb c F H x vx) (fx : flatD x = true) {p : PyData} (ep : x.py = some p) : ∀ {ys : List D} {vs : List V} {ps : List PyData}, Rps c F ys vs → ys.all flatD = true → D.pys ys = some ps →
    vs.all flatV = true ∧ inV vx vs = ps.any fun z => PyData.eqv z p
  | [], vs, ps, h, _, e => by simp only [Rps] at h; simp only [D.pys] at e; cases e; subst h; exact ⟨rfl, rfl⟩
  | y :: ys, vs, ps, h, f, e => by
    simp only [Rps] at h
    obtain ⟨v, r, rfl, h1, h2⟩ := h
    rw [List.all_cons, Bool.and_eq_true] at f
    simp only [D.pys] at e
    cases e1 : y.py with
    | none => rw [e1] at e; cases e
    | some q =>
      cases e2 : D.pys ys with
      | none => rw [e1, e2] at e; cases e
      | some qs =>
        rw [e1, e2] at e
        cases e
        obtain ⟨g1, q', e1', g2⟩ := flat_py (c := c) (F := F) (H := H) (.inl h1) f.1
        rw [e1] at e1'; cases e1'
        obtain ⟨i1, i2⟩ := eqvs_any hx fx ep h2 f.2 e2
        refine ⟨by rw [List.all_cons, g1, i1]; rfl, ?_⟩
        unfold inV at i2 ⊢
        rw [List.any_cons, List.any_cons, g2 x vx p hx fx ep, i2]
theorem Rpk.get {F : Hp} : ∀ {ks : List (Key × D)} {vs : List (Key × V)} (k : Key), Rpk c F ks vs → (∀ d, look k ks = some d → ∃ v, valV vs k = some v ∧ Rp c F d v) ∧ (look k ks = none → valV vs k = none)
  | [], vs, k, h => by
    simp only [Rpk] at h
    subst h
    exact ⟨fun d e => by simp [look] at e, fun _ => rfl⟩
  | (q, d) :: ks, vs, k, h => by
    simp only [Rpk] at h
    obtain ⟨v, r, rfl, h1, h2⟩ := h
    simp only [look]
    by_cases hq : q = k
    · rw [if_pos hq]
      exact ⟨fun d' e => by cases e; exact ⟨v, valV_pos hq, h1⟩, fun e => by cases e⟩
    · rw [if_neg hq, valV_neg hq]
      exact Rpk.get k h2
theorem Rpk.has {F : Hp} {ks : List (Key × D)} {vs : List (Key × V)} (k : Key) (h : Rpk c F ks vs) : (valV vs k).isSome = (look k ks).isSome := by
  obtain ⟨h1, h2⟩ := Rpk.get k h
  cases e : look k ks with
  | none => rw [h2 e]; rfl
  | some d => obtain ⟨v, e', _⟩ := h1 d e; rw [e']; rfl
theorem Rpk.length {F : Hp} : ∀ {ks : List (Key × D)} {vs : List (Key × V)}, Rpk c F ks vs → vs.length = ks.length
  | [], vs, h => by simp only [Rpk] at h; subst h; rfl
  | (q, d) :: ks, vs, h => by
    simp only [Rpk] at h
    obtain ⟨v, r, rfl, h1, h2⟩ := h
    simp [Rpk.length h2]
theorem sign_of {x : PySem.Str} (h : x.cps.size = 1) : x = ⟨#[x.cps.getD 0 0]⟩ := by
  obtain ⟨⟨l⟩⟩ := x
  match l, h with
  | [a], _ => rfl
def IsIn (neg : Bool) (b : Bool) : D := .bl (if neg then !b else b)
/-- x in y, x not in y, by values -/
theorem o_inAny (hK : X.K = c.K) (hu : X.A.units + 65 < cLine) (neg : Bool) : Op2 X c m (compareOp (if neg then .NotIn else .In)) (fun a b => (inD a b).map fun k => .bl (if neg then !k else k)) := by
  intro pins st σ H x y v u Q I rxv ryv h
  obtain ⟨F, dx, dy, d, s, rx, ry, e, w⟩ := h
  rw [Option.map_eq_some_iff] at e
  obtain ⟨b, e, rfl⟩ := e
  have hin : ∀ {ys : List D} {b : Bool}, inL dx ys = some b → ∃ p ps, dx.py = some p ∧ D.pys ys = some ps ∧ SeqAt.shaped p = true ∧ SeqAt.shaped (.list ps) = true ∧ b = ps.any fun z => PyData.eqv z p := fun {ys b} e => by
    unfold inL at e
    split at e
    · rename_i p ps e1 e2
      split at e <;> cases e
      rename_i hz
      simp only [Bool.and_eq_true] at hz
      exact ⟨p, ps, e1, e2, hz.1, hz.2, rfl⟩
    · cases e
  cases dy <;> simp only [inD] at e <;> try contradiction
  · -- text
    rename_i z
    cases dx <;> simp only at e <;> try contradiction
    rename_i q
    split at e <;> cases e
    rename_i hz
    cases neg with
    | false => exact op_in_sign pins st σ H x y v u Q I rxv ryv ⟨_, z, rx.str.trans (congrArg V.str (sign_of hz)), ry.str, w.bl s⟩
    | true => exact op_notIn_sign pins st σ H x y v u Q I rxv ryv ⟨_, z, rx.str.trans (congrArg V.str (sign_of hz)), ry.str, w.bl s⟩
  · -- tuple
    rename_i ys
    obtain ⟨p, ps, e1, e2, g1, g2, rfl⟩ := hin e
    have hl : Dp X.K H y (.tuple ps) := by rw [hK]; exact ry.dp s (d := .tup ys) (by simp [D.py, e2])
    have hd : Dp X.K H x p := by rw [hK]; exact rx.dp s e1
    obtain ⟨as, r1⟩ := Dp.reads I p x v hd rxv
    obtain ⟨bs, r2⟩ := Dp.reads I (.tuple ps) y u hl ryv
    cases neg with
    | false => exact SeqAt.in_tuple_reads r2 r1 (SeqAt.canLay_of_shaped g2) (SeqAt.canLay_of_shaped g1) (room_in_shaped g1 hu) ⟨.bl _, H, I, rfl, w.bl s⟩
    | true => exact SeqAt.notIn_tuple_reads r2 r1 (SeqAt.canLay_of_shaped g2) (SeqAt.canLay_of_shaped g1) (room_in_shaped g1 hu) ⟨.bl _, H, I, rfl, w.bl s⟩
  · -- list
    rename_i ys
    obtain ⟨p, ps, e1, e2, g1, g2, rfl⟩ := hin e
    have hl : Dp c.K H y (.list ps) := ry.dp s (d := .lst ys) (by simp [D.py, e2])
    cases neg with
    | false => exact op_inD hu pins st σ H x y v u Q I rxv ryv ⟨p, ps, by rw [hK]; exact rx.dp s e1, by rw [hK]; exact hl, g1, g2, w.bl s⟩
    | true => exact op_notInD hu pins st σ H x y v u Q I rxv ryv ⟨p, ps, by rw [hK]; exact rx.dp s e1, by rw [hK]; exact hl, g1, g2, w.bl s⟩
  · -- dict
    rename_i kvs
    rw [Option.map_eq_some_iff] at e
    obtain ⟨k, e, rfl⟩ := e
    obtain ⟨a, vs, rfl, h1, h2⟩ := ry.dct s
    have hx := rx.key e
    cases ryv
    have g := DGet.k (k := k) h1
    rw [← hx] at g
    cases neg with
    | false => exact d_in (by omega) I g rxv fun s' I' => ⟨.bl _, H, I', rfl, by rw [h2.has k]; exact w.bl s⟩
    | true => exact d_notIn (by omega) I g rxv fun s' I' => ⟨.bl _, H, I', rfl, by rw [h2.has k]; exact w.bl s⟩
def copOf : CO → CmpOp
  | .eq => .Eq | .ne => .NotEq | .lt => .Lt | .le => .LtE | .gt => .Gt | .ge => .GtE | .isin => .In | .nin => .NotIn
theorem o_cmp (hK : X.K = c.K) (hu : X.A.units + 65 < cLine) (o : CO) : Op2 X c m (compareOp (copOf o)) (cmpD o) := by
  cases o
  · exact o_eq hK (by omega)
  · exact o_ne hK (by omega)
  · exact o_ord op_lt
  · exact o_ord op_le
  · exact o_ord op_gt
  · exact o_ord op_ge
  · exact o_inAny hK hu false
  · exact o_inAny hK hu true
theorem idxL_atI {α : Type} {xs : List α} {i : Int} {d : α} (e : idxL xs i = some d) : atI xs i = some d := by
  unfold idxL at e
  unfold atI ixN
  by_cases h : 0 ≤ i
  · rw [if_pos h] at e ⊢
    have hl : i.toNat < xs.length := (List.getElem?_eq_some_iff.mp e).1
    rw [if_pos (by omega)]
    exact e
  · rw [if_neg h] at e ⊢
    by_cases h2 : -(xs.length : Int) ≤ i
    · rw [if_pos h2] at e ⊢
      exact e
    · rw [if_neg h2] at e
      cases e
theorem atI_map {F : Hp} {ds : List D} {vs : List V} {i : Int} {d : D} (h : Rps c F ds vs) (e : idxL ds i = some d) : ∃ v, atI vs i = some v ∧ Rp c F d v := by
  have e' := idxL_atI e
  unfold atI at e' ⊢
  rw [h.length]
  cases q : ixN ds.length i with
  | none => rw [q] at e'; cases e'
  | some j =>
    rw [q] at e'
    obtain ⟨v, h1, h2⟩ := h.get (i := j) e'
    exact ⟨v, h1, h2⟩
theorem Want.rp {F H : Hp} {d : D} {v : V} {Q : VK} (hm : m ≠ .O) (w : Want c m F H d Q) (s : Same F H) (r : Rp c F d v) : Q v H := by
  refine w v H F (Ext.refl s) ?_
  cases m
  · exact .inl r
  · exact r
  · exact absurd rfl hm

theorem ix_dict (hu : X.A.units + 1 < cLine) : IxR X (fun x y H Q => ∃ a v, x = .ref a ∧ DGet H a y (some v) ∧ Q v H) := by
  intro value slice pins s σ H x y v u Q I rx ry h hs
  obtain ⟨a, w, rfl, g, q⟩ := h
  cases rx
  exact tail_any (dict_typeIs I g) PySem.F.slot_dict_getitem.lookup (d_getItem hu I g ry fun w' s3 I3 rw' => ⟨w, H, I3, rw', q⟩) hs
theorem o_idx (hK : X.K = c.K) (hu : X.A.units + 65 < cLine) (hm : m ≠ .O) : IxR X (fun x y H Q => ∃ F dx dy d, Same F H ∧ Rb c F H dx x ∧ Rb c F H dy y ∧ idxD dx dy = some d ∧ Want c m F H d Q) := by
  intro value slice pins st σ H x y v u Q I rxv ryv h hs
  obtain ⟨F, dx, dy, d, s, rx, ry, e, w⟩ := h
  refine (ix_seq.or (ix_dict (by omega))) value slice pins st σ H x y v u Q I rxv ryv ?_ hs
  cases dx <;> cases dy <;> simp only [idxD] at e <;> try contradiction
  · split at e
    · rename_i z j hz
      rw [Option.map_eq_some_iff] at e
      obtain ⟨cd, e, rfl⟩ := e
      exact .inl (.inr (.inr ⟨z, j, cd, rx.str, ry.int, by rw [← lineN_eq]; exact hz, idxL_atI e, w.str s⟩))
    · cases e
  · obtain ⟨a, vs, rfl, h1, h2⟩ := rx.tup s
    obtain ⟨z, e1, r⟩ := atI_map h2 e
    exact .inl (.inr (.inl ⟨a, vs, _, z, rfl, ry.int, by rw [hK]; exact h1, e1, w.rp hm s r⟩))
  · obtain ⟨a, vs, rfl, h1, h2⟩ := rx.lst s
    obtain ⟨z, e1, r⟩ := atI_map h2 e
    exact .inl (.inl ⟨a, vs, _, z, rfl, ry.int, by rw [hK]; exact h1, e1, w.rp hm s r⟩)
  all_goals
    rw [Option.bind_eq_some_iff] at e
    obtain ⟨k, e1, e2⟩ := e
    obtain ⟨a, vs, rfl, h1, h2⟩ := rx.dct s
    obtain ⟨z, e3, r⟩ := (h2.get k).1 d e2
    refine .inr ⟨a, z, rfl, ?_, w.rp hm s r⟩
    have g := DGet.k (k := k) h1
    rw [← ry.key e1, e3] at g
    exact g

/-! slices -/
theorem sIx_eq (n d : Nat) (hd : d ≤ n) (o : Option Int) : sIx n d o = HT.sIx n d o := by
  cases o with
  | none => rfl
  | some v =>
    have e := HT.clip_eq v n d
    simp only [sIx]
    split at e <;> rename_i hv
    · rw [if_pos hv]; omega
    · rw [if_neg hv]; omega
theorem cutL_eq {ds : List D} {vs : List V} {F : Hp} (h : Rps c F ds vs) (lo hi : Option Int) : Rps c F (cutL ds lo hi) (cutV vs lo hi) := by
  unfold cutL cutV
  rw [h.length, sIx_eq _ _ (Nat.zero_le _), sIx_eq _ _ (Nat.le_refl _)]
  exact (h.drop _).take _
theorem o_slice (hK : X.K = c.K) : SlR X (fun x lo hi H Q => ∃ F dx d, Same F H ∧ Rb c F H dx x ∧ sliceD dx lo hi = some d ∧ Want c m F H d Q) := by
  intro pins st σ H x v vl vu lo hi sl Q I rxv hs pl pu h
  obtain ⟨F, dx, d, s, rx, e, w⟩ := h
  refine (sl_list.or (sl_tupF.or sl_str)) pins st σ H x v vl vu lo hi sl Q I rxv hs pl pu ?_
  cases dx <;> simp only [sliceD] at e <;> try contradiction
  · split at e <;> cases e
    rename_i z hz
    refine .inr (.inr ⟨z, rx.str, by rw [← lineN_eq]; exact hz, ?_⟩)
    have e : cutS z lo hi = ⟨(cutL z.cps.toList lo hi).toArray⟩ := by
      unfold cutS cutL
      have hl : z.length = z.cps.toList.length := by simp [PySem.Str.length]
      rw [sIx_eq _ _ (Nat.zero_le _), sIx_eq _ _ (Nat.le_refl _), ← hl]
    rw [e]
    exact w.str s
  · rename_i xs0
    cases e
    obtain ⟨a, vs, rfl, h1, h2⟩ := rx.tup s
    have hc := cutL_eq h2 lo hi
    refine .inr (.inl ⟨a, vs, rfl, by rw [hK]; exact h1, fun hw => ?_, fun _ p o hp ho => w.tupF s hp hc ho⟩)
    have ev : cutV vs lo hi = vs := by
      unfold cutV
      rw [hw.1, hw.2, List.drop_zero, Nat.sub_zero, List.take_length]
    have ed : cutL xs0 lo hi = xs0 := by
      unfold cutL
      rw [sIx_eq _ _ (Nat.zero_le _), sIx_eq _ _ (Nat.le_refl _), ← h2.length, hw.1, hw.2, List.drop_zero, Nat.sub_zero, h2.length, List.take_length]
    rw [ed] at w
    rcases rx with rx | ⟨_, _, rx⟩
    · exact w.sc s rx rfl
    · simp only [Ob] at rx
  · cases e
    obtain ⟨a, vs, rfl, h1, h2⟩ := rx.lst s
    exact .inl ⟨a, vs, rfl, by rw [hK]; exact h1, fun p hp => w.lst s hp (cutL_eq h2 lo hi)⟩

/-! built-ins -/
def Rbs (c : Cn) (F H : Hp) : List D → List V → Prop
  | [], vs => vs = []
  | d :: ds, vs => ∃ v r, vs = v :: r ∧ Rb c F H d v ∧ Rbs c F H ds r
def OpN (X : Cx) (c : Cn) (m : RM) (f : Value) (g : List D → Option D) : Prop :=
  CallR X f (fun xs H Q => ∃ F ds d, Same F H ∧ Rbs c F H ds xs ∧ g ds = some d ∧ Want c m F H d Q)
theorem CallR.imp {f : Value} {r r' : List V → Hp → VK → Prop} (h : CallR X f r) (k : ∀ xs H Q, r' xs H Q → r xs H Q) : CallR X f r' := by
  intro pins s σ H xs us Q I rx q
  exact h pins s σ H xs us Q I rx (k _ _ _ q)
theorem Rbs.one {F H : Hp} {d : D} {xs : List V} (h : Rbs c F H [d] xs) : ∃ v, xs = [v] ∧ Rb c F H d v := by
  simp only [Rbs] at h
  obtain ⟨v, r, rfl, h1, rfl⟩ := h
  exact ⟨v, rfl, h1⟩
theorem Rbs.two {F H : Hp} {d e : D} {xs : List V} (h : Rbs c F H [d, e] xs) : ∃ v u, xs = [v, u] ∧ Rb c F H d v ∧ Rb c F H e u := by
  simp only [Rbs] at h
  obtain ⟨v, r, rfl, h1, u, q, rfl, h2, rfl⟩ := h
  exact ⟨v, u, rfl, h1, h2⟩
/-- a built-in of one argument -/
theorem o_one {f : Value} {r : List V → Hp → VK → Prop} {g : D → Option D} {g' : List D → Option D} (hg : ∀ ds d, g' ds = some d → ∃ x, ds = [x] ∧ g x = some d) (h : CallR X f r)
    (k : ∀ F H dx x d Q, Same F H → Rb c F H dx x → g dx = some d → Want c m F H d Q → r [x] H Q) : OpN X c m f g' := by
  refine CallR.imp h ?_
  rintro xs H Q ⟨F, ds, d, s, rx, e, w⟩
  obtain ⟨y, rfl, e2⟩ := hg ds d e
  obtain ⟨x, rfl, rx1⟩ := rx.one
  exact k F H y x d Q s rx1 e2 w
theorem b_len (hK : X.K = c.K) : OpN X c m (.builtin "len") (bltD .len) := by
  have hd : CallR X (.builtin "len") (fun xs H Q => ∃ a kvs, xs = [.ref a] ∧ H a = some (.dK kvs) ∧ Q (.int kvs.length) H) := by
    intro pins s σ H xs us Q I r h
    obtain ⟨a, kvs, rfl, h1, q⟩ := h
    obtain ⟨u, rfl, ru⟩ := vals1 r
    cases ru
    exact d_len I (.inl h1) fun t s' I' => ⟨.int kvs.length, H, I', ⟨t, rfl⟩, q⟩
  refine o_one (g := lenD) (fun ds d e => by match ds, e with | [x], e => exact ⟨x, rfl, e⟩) (call_len.or hd) ?_
  rintro F H dx x d Q s rx e w
  cases dx <;> simp only [lenD] at e <;> try contradiction
  · split at e <;> cases e
    rename_i z hz
    refine .inl ⟨x, z.length, rfl, ?_, w.int s⟩
    rw [rx.str]
    exact ⟨by rw [← lineN_eq]; exact hz, rfl⟩
  · cases e
    obtain ⟨a, vs, rfl, h1, h2⟩ := rx.tup s
    refine .inl ⟨_, vs.length, rfl, ?_, by rw [h2.length]; exact w.int s⟩
    exact .inr ⟨vs, by rw [hK]; exact h1, rfl⟩
  · cases e
    obtain ⟨a, vs, rfl, h1, h2⟩ := rx.lst s
    refine .inl ⟨_, vs.length, rfl, ?_, by rw [h2.length]; exact w.int s⟩
    exact .inl ⟨vs, by rw [hK]; exact h1, rfl⟩
  · cases e
    obtain ⟨a, vs, rfl, h1, h2⟩ := rx.dct s
    exact .inr ⟨a, vs, rfl, h1, by rw [h2.length]; exact w.int s⟩
theorem b_abs : OpN X c m (.builtin "abs") (bltD .abs) := by
  refine o_one (g := absD) (fun ds d e => by match ds, e with | [x], e => exact ⟨x, rfl, e⟩) call_abs ?_
  rintro F H dx x d Q s rx e w
  cases dx <;> simp only [absD] at e <;> try contradiction
  cases e
  exact ⟨_, by rw [rx.int], w.int s⟩
theorem maxI_foldl : ∀ (xs : List Int) (a : Int), a ≤ xs.foldl max a ∧ (∀ y ∈ xs, y ≤ xs.foldl max a) ∧ (xs.foldl max a = a ∨ xs.foldl max a ∈ xs)
  | [], a => ⟨Int.le_refl _, (fun _ h => absurd h (by simp)), Or.inl rfl⟩
  | x :: xs, a => by
    obtain ⟨h1, h2, h3⟩ := maxI_foldl xs (max a x)
    rw [List.foldl_cons]
    refine ⟨by omega, fun y hy => ?_, ?_⟩
    · rcases List.mem_cons.mp hy with rfl | hy
      · omega
      · exact h2 y hy
    · rcases h3 with h3 | h3
      · rw [h3]
        by_cases q : a ≤ x
        · exact .inr (by rw [Int.max_eq_right q]; exact List.mem_cons_self)
        · exact .inl (Int.max_eq_left (by omega))
      · exact .inr (List.mem_cons_of_mem _ h3)
theorem minI_foldl : ∀ (xs : List Int) (a : Int), xs.foldl min a ≤ a ∧ (∀ y ∈ xs, xs.foldl min a ≤ y) ∧ (xs.foldl min a = a ∨ xs.foldl min a ∈ xs)
  | [], a => ⟨Int.le_refl _, (fun _ h => absurd h (by simp)), Or.inl rfl⟩
  | x :: xs, a => by
    obtain ⟨h1, h2, h3⟩ := minI_foldl xs (min a x)
    rw [List.foldl_cons]
    refine ⟨by omega, fun y hy => ?_, ?_⟩
    · rcases List.mem_cons.mp hy with rfl | hy
      · omega
      · exact h2 y hy
    · rcases h3 with h3 | h3
      · rw [h3]
        by_cases q : a ≤ x
        · exact .inl (Int.min_eq_left q)
        · exact .inr (by rw [Int.min_eq_right (by omega)]; exact List.mem_cons_self)
      · exact .inr (List.mem_cons_of_mem _ h3)
theorem maxI_spec {xs : List Int} (h : xs ≠ []) : maxI xs ∈ xs ∧ ∀ y ∈ xs, y ≤ maxI xs := by
  cases xs with
  | nil => exact absurd rfl h
  | cons x xs =>
    obtain ⟨h1, h2, h3⟩ := maxI_foldl xs x
    refine ⟨?_, fun y hy => ?_⟩
    · rcases h3 with h3 | h3
      · show xs.foldl max x ∈ _; rw [h3]; exact List.mem_cons_self
      · exact List.mem_cons_of_mem _ h3
    · rcases List.mem_cons.mp hy with rfl | hy
      · exact h1
      · exact h2 y hy
theorem minI_spec {xs : List Int} (h : xs ≠ []) : minI xs ∈ xs ∧ ∀ y ∈ xs, minI xs ≤ y := by
  cases xs with
  | nil => exact absurd rfl h
  | cons x xs =>
    obtain ⟨h1, h2, h3⟩ := minI_foldl xs x
    refine ⟨?_, fun y hy => ?_⟩
    · rcases h3 with h3 | h3
      · show xs.foldl min x ∈ _; rw [h3]; exact List.mem_cons_self
      · exact List.mem_cons_of_mem _ h3
    · rcases List.mem_cons.mp hy with rfl | hy
      · exact h1
      · exact h2 y hy
theorem mm_inv {f : List Int → Int} {dx d : D} (e : mmD f dx = some d) : ∃ xs is, dx = .lst xs ∧ intsOf xs = some is ∧ is ≠ [] ∧ d = .int (f is) := by
  unfold mmD at e
  cases dx <;> simp only [lstOf, Option.bind_none, Option.bind_some] at e <;> try contradiction
  rename_i xs
  rw [Option.bind_eq_some_iff] at e
  obtain ⟨is, e1, e2⟩ := e
  split at e2 <;> cases e2
  rename_i hz
  exact ⟨xs, is, rfl, e1, hz, rfl⟩
theorem b_max1 (hK : X.K = c.K) (hc : X.calm = true) : OpN X c m (.builtin "max") (bltD .max1) := by
  refine o_one (g := mmD maxI) (fun ds d e => by match ds, e with | [x], e => exact ⟨x, rfl, e⟩) (cr_max hc) ?_
  rintro F H dx x d Q s rx e w
  obtain ⟨xs, is, rfl, e1, e2, rfl⟩ := mm_inv e
  obtain ⟨a, vs, rfl, h1, h2⟩ := rx.lst s
  have hv := h2.ints e1
  subst hv
  refine ⟨a, is, rfl, by rw [hK]; exact h1, List.length_pos_iff.mpr e2, fun k hk hle => ?_⟩
  obtain ⟨g1, g2⟩ := maxI_spec e2
  have : k = maxI is := Int.le_antisymm (g2 k hk) (hle _ g1)
  rw [this]
  exact w.int s
theorem b_min1 (hK : X.K = c.K) (hc : X.calm = true) : OpN X c m (.builtin "min") (bltD .min1) := by
  refine o_one (g := mmD minI) (fun ds d e => by match ds, e with | [x], e => exact ⟨x, rfl, e⟩) (cr_min hc) ?_
  rintro F H dx x d Q s rx e w
  obtain ⟨xs, is, rfl, e1, e2, rfl⟩ := mm_inv e
  obtain ⟨a, vs, rfl, h1, h2⟩ := rx.lst s
  have hv := h2.ints e1
  subst hv
  refine ⟨a, is, rfl, by rw [hK]; exact h1, List.length_pos_iff.mpr e2, fun k hk hle => ?_⟩
  obtain ⟨g1, g2⟩ := minI_spec e2
  have : k = minI is := Int.le_antisymm (hle _ g1) (g2 k hk)
  rw [this]
  exact w.int s
theorem mm2_inv {f : Int → Int → Int} {x y d : D} (e : mm2D f x y = some d) : ∃ i j, x = .int i ∧ y = .int j ∧ d = .int (f i j) := by
  cases x <;> cases y <;> simp only [mm2D] at e <;> try contradiction
  cases e
  exact ⟨_, _, rfl, rfl, rfl⟩
theorem b_max2 (hc : X.calm = true) : OpN X c m (.builtin "max") (bltD .max2) := by
  refine CallR.imp (call_max2 hc) ?_
  rintro xs H Q ⟨F, ds, d, s, rx, e, w⟩
  obtain ⟨dx, dy, rfl, e⟩ : ∃ dx dy, ds = [dx, dy] ∧ mm2D max dx dy = some d := by
    match ds, e with
    | [x, y], e => exact ⟨x, y, rfl, e⟩
  obtain ⟨i, j, rfl, rfl, rfl⟩ := mm2_inv e
  obtain ⟨v, u, rfl, r1, r2⟩ := rx.two
  refine ⟨i, j, by rw [r1.int, r2.int], ?_⟩
  have : (if j > i then j else i) = max i j := by omega
  rw [this]
  exact w.int s
theorem b_min2 (hc : X.calm = true) : OpN X c m (.builtin "min") (bltD .min2) := by
  refine CallR.imp (call_min2 hc) ?_
  rintro xs H Q ⟨F, ds, d, s, rx, e, w⟩
  obtain ⟨dx, dy, rfl, e⟩ : ∃ dx dy, ds = [dx, dy] ∧ mm2D min dx dy = some d := by
    match ds, e with
    | [x, y], e => exact ⟨x, y, rfl, e⟩
  obtain ⟨i, j, rfl, rfl, rfl⟩ := mm2_inv e
  obtain ⟨v, u, rfl, r1, r2⟩ := rx.two
  refine ⟨i, j, by rw [r1.int, r2.int], ?_⟩
  have : (if j < i then j else i) = min i j := by omega
  rw [this]
  exact w.int s
theorem b_sum (hK : X.K = c.K) (hc : X.calm = true) : OpN X c m (.builtin "sum") (bltD .sum) := by
  refine o_one (g := sumD) (fun ds d e => by match ds, e with | [x], e => exact ⟨x, rfl, e⟩) (cr_sum hc) ?_
  rintro F H dx x d Q s rx e w
  cases dx <;> simp only [sumD] at e <;> try contradiction
  rw [Option.map_eq_some_iff] at e
  obtain ⟨is, e1, rfl⟩ := e
  obtain ⟨a, vs, rfl, h1, h2⟩ := rx.lst s
  have hv := h2.ints e1
  subst hv
  exact ⟨a, is, rfl, by rw [hK]; exact h1, w.int s⟩
theorem b_any (hK : X.K = c.K) (hc : X.calm = true) : OpN X c m (.builtin "any") (bltD .any) := by
  refine o_one (g := anyD) (fun ds d e => by match ds, e with | [x], e => exact ⟨x, rfl, e⟩) (cr_any hc) ?_
  rintro F H dx x d Q s rx e w
  cases dx <;> simp only [anyD] at e <;> try contradiction
  rw [Option.map_eq_some_iff] at e
  obtain ⟨is, e1, rfl⟩ := e
  obtain ⟨a, vs, rfl, h1, h2⟩ := rx.lst s
  have hv := h2.bls e1
  subst hv
  exact ⟨a, is, rfl, by rw [hK]; exact h1, w.bl s⟩
theorem b_all (hK : X.K = c.K) (hc : X.calm = true) : OpN X c m (.builtin "all") (bltD .all) := by
  refine o_one (g := allD) (fun ds d e => by match ds, e with | [x], e => exact ⟨x, rfl, e⟩) (cr_all hc) ?_
  rintro F H dx x d Q s rx e w
  cases dx <;> simp only [allD] at e <;> try contradiction
  rw [Option.map_eq_some_iff] at e
  obtain ⟨is, e1, rfl⟩ := e
  obtain ⟨a, vs, rfl, h1, h2⟩ := rx.lst s
  have hv := h2.bls e1
  subst hv
  exact ⟨a, is, rfl, by rw [hK]; exact h1, w.bl s⟩
theorem b_list (hK : X.K = c.K) : OpN X c m (.type "list") (bltD .list) := by
  refine o_one (g := listD) (fun ds d e => by match ds, e with | [x], e => exact ⟨x, rfl, e⟩) call_list_of ?_
  rintro F H dx x d Q s rx e w
  unfold listD at e
  rw [Option.map_eq_some_iff] at e
  obtain ⟨ys, e1, rfl⟩ := e
  obtain ⟨a, vs, rfl, h1, h2⟩ := rx.seq s e1
  exact ⟨a, vs, rfl, by rw [hK]; exact h1, fun p hp => w.lst s hp h2⟩
/-- tuple(xs) of a list: a new tuple that bears nothing else -/
theorem call_tupF : CallR X (.type "tuple") (fun xs H Q => ∃ p ys, xs = [.ref p] ∧ ((SqL X.K H p ys ∧ ∀ (l : Addr) (o : Obj), H l = none → o.dict = none → Q (.ref l) (upd H l (.frz o (.tup ys)))) ∨ (SqT X.K H p ys ∧ Q (.ref p) H))) := by
  intro pins s σ H xs us Q I r h
  obtain ⟨p, ys, rfl, h⟩ := h
  obtain ⟨u, rfl, rx⟩ := vals1 r
  cases rx
  rcases h with ⟨hq, q⟩ | ⟨hq, q⟩
  · obtain ⟨its, ri, pl, hz⟩ := I.list hq
    have hn := ri.length
    refine call_tuple_list pl.isList (fun h' kp => ?_) (by simp only [List.size_toArray]; omega)
    have J : Inv X pins σ H { s with heap := h' } := I.kept (t' := s.toks) kp
    have J2 := J.laid (h' := h'.push { cls := .type "tuple", data := .seq its.toArray }) (a := h'.objs.size) (o := .frz { cls := .type "tuple", data := .seq its.toArray } (.tup ys)) (t' := s.toks) (fun b o e => Heap.get?_push_of_some _ e) (Nat.le_refl _) ⟨Heap.get?_push_size _ rfl, hz, its, ri, IsTup.new _ _⟩
    exact ⟨.ref h'.objs.size, _, J2, rfl, q _ _ (J.hok.fresh (Nat.le_refl _)) rfl⟩
  · obtain ⟨its, ri, pl, hz⟩ := I.tuple hq
    exact call_tuple_same pl ⟨.ref p, H, I, rfl, q⟩
theorem b_tuple (hK : X.K = c.K) : OpN X c m (.type "tuple") (bltD .tuple) := by
  refine o_one (g := tupleD) (fun ds d e => by match ds, e with | [x], e => exact ⟨x, rfl, e⟩) call_tupF ?_
  rintro F H dx x d Q s rx e w
  unfold tupleD at e
  rw [Option.map_eq_some_iff] at e
  obtain ⟨ys, e1, rfl⟩ := e
  cases dx <;> simp only [seqOf] at e1 <;> cases e1
  · rcases id rx with rx' | ⟨_, _, rx'⟩
    · obtain ⟨a, vs, rfl, h1, h2⟩ := rx.tup s
      exact ⟨a, vs, rfl, .inr ⟨by rw [hK]; exact h1, w.sc s rx' rfl⟩⟩
    · simp only [Ob] at rx'
  · obtain ⟨a, vs, rfl, h1, h2⟩ := rx.lst s
    exact ⟨a, vs, rfl, .inl ⟨by rw [hK]; exact h1, fun p o hp ho => w.tupF s hp h2 ho⟩⟩
theorem b_str : OpN X c m (.type "str") (bltD .str) := by
  refine o_one (g := strD) (fun ds d e => by match ds, e with | [x], e => exact ⟨x, rfl, e⟩) call_str_int ?_
  rintro F H dx x d Q s rx e w
  cases dx <;> simp only [strD] at e <;> try contradiction
  split at e <;> cases e
  rename_i hz
  exact ⟨_, by rw [rx.int], hz, w.str s⟩
theorem b_int : OpN X c m (.type "int") (bltD .int) := by
  refine o_one (g := intD) (fun ds d e => by match ds, e with | [x], e => exact ⟨x, rfl, e⟩) (call_int1.or call_int_str) ?_
  rintro F H dx x d Q s rx e w
  cases dx <;> simp only [intD] at e <;> try contradiction
  · cases e
    exact .inl (.inr ⟨_, by rw [rx.bl], w.int s⟩)
  · cases e
    exact .inl (.inl ⟨_, by rw [rx.int], w.int s⟩)
  · split at e
    · rename_i hz
      rw [Option.map_eq_some_iff] at e
      obtain ⟨n, e1, rfl⟩ := e
      exact .inr ⟨_, n, by rw [rx.str], e1, hz, w.int s⟩
    · cases e
end
end Mi

/-! Mi, part C: the state of a def's body; readings of expressions by the evaluator. -/
namespace Mi
open PySem L2 PySem.Spec PyProof.Rows

/-- the state of a def's body -/
structure SR (c : Cn) (μ : List Md) (ρ : Env) (σ : L2.St) (H F : Hp) : Prop where
  lenS : σ.length = μ.length
  lenR : ρ.length = μ.length
  sub : Same F H
  base : Same c.B H
  fr : ∀ a, c.B a ≠ none → F a = c.F0 a
  imm : ∀ i, μ[i]? = some .imm → ∃ v d, σ[i]? = some (some v) ∧ getE ρ i = .ok d ∧ Rp c F d v
  bor : ∀ i, μ[i]? = some .bor → ∃ v d, σ[i]? = some (some v) ∧ getE ρ i = .ok d ∧ Rb c F c.B d v
  own : ∀ i, μ[i]? = some .own → ∃ p d, σ[i]? = some (some (.ref p)) ∧ getE ρ i = .ok d ∧ Ob c F H p d ∧ c.B p = none ∧ F p = none
  sep : ∀ (i j : Nat) (p : Addr), μ[i]? = some Md.own → μ[j]? = some Md.own → σ[i]? = some (some (V.ref p)) → σ[j]? = some (some (V.ref p)) → i = j
  pin : ∀ (i : Nat) (p : Addr), c.io = some (i, p) → μ[i]? = some Md.own → σ[i]? = some (some (V.ref p))
theorem Ext.keepNone {H F H' F' : Hp} (e : Ext H F H' F') {p : Addr} (h : H p ≠ none) (k : F p = none) : F' p = none := by rw [e.fr p h]; exact k
theorem Ob.ne {c : Cn} {F H : Hp} {p : Addr} {d : D} (h : Ob c F H p d) : H p ≠ none := by
  cases d <;> simp only [Ob] at h
  · obtain ⟨vs, h1, _⟩ := h; rw [h1]; simp
  · obtain ⟨vs, h1, _⟩ := h; rw [h1]; simp
theorem SR.ext {c : Cn} {μ : List Md} {ρ : Env} {σ : L2.St} {H F H' F' : Hp} (S : SR c μ ρ σ H F) (e : Ext H F H' F') : SR c μ ρ σ H' F' := by
  have eF := e.frs S.sub
  refine ⟨S.lenS, S.lenR, e.sub, S.base.trans e.same, fun a ha => ?_, fun i hi => ?_, fun i hi => ?_, fun i hi => ?_, S.sep, S.pin⟩
  · have : H a ≠ none := by
      cases q : c.B a with
      | none => exact absurd q ha
      | some o => rw [S.base a o q]; simp
    rw [e.fr a this, S.fr a ha]
  · obtain ⟨v, d, h1, h2, h3⟩ := S.imm i hi
    exact ⟨v, d, h1, h2, Rp.mono eF _ _ h3⟩
  · obtain ⟨v, d, h1, h2, h3⟩ := S.bor i hi
    exact ⟨v, d, h1, h2, h3.mono eF (Same.refl _)⟩
  · obtain ⟨p, d, h1, h2, h3, h4, h5⟩ := S.own i hi
    exact ⟨p, d, h1, h2, h3.mono eF e.same, h4, e.keepNone h3.ne h5⟩

/-- an exception as the layer bears it -/
def Xr (c : Cn) (x : Nat) (r : Int) (cls : Value) (dx : Option Addr) (H : Hp) : Prop :=
  ∃ C, cls = .ref C ∧ c.mg (excName x) = some (.ref C) ∧ (if x = 8 ∨ x = 9 then ∃ d, dx = some d ∧ H d = some (.xd [("row", .int r)]) else dx = none)
def WantX (c : Cn) (W : WX) (x : Nat) (r : Int) (σ : L2.St) (F H : Hp) : Prop := ∀ H' F' cls dx, Ext H F H' F' → Xr c x r cls dx H' → W cls dx σ H'
theorem WantX.mono {c : Cn} {W : WX} {x : Nat} {r : Int} {σ : L2.St} {F H F1 H1 : Hp} (w : WantX c W x r σ F H) (e : Ext H F H1 F1) : WantX c W x r σ F1 H1 :=
  fun H' F' cls dx e' q => w H' F' cls dx (e.trans e') q
/-- what is wanted of an evaluation's end -/
def RK {α : Type} (c : Cn) (W : WX) (σ : L2.St) (w : α → Hp → Hp → Prop) (F H : Hp) : R α → Prop
  | .ok a => w a F H
  | .exc x r => WantX c W x r σ F H
  | .stuck => False
section
variable {α β : Type} {c : Cn} {W : WX} {σ : L2.St} {w : α → Hp → Hp → Prop} {F H F1 H1 : Hp}
theorem RK.bnd {x : R β} {f : β → R α} (h : RK c W σ w F H (x.bind f)) : RK c W σ (fun b F H => RK c W σ w F H (f b)) F H x := by
  cases x <;> exact h
theorem RK.imp {w' : α → Hp → Hp → Prop} {x : R α} (h : RK c W σ w F H x) (k : ∀ a, w a F H → w' a F H) : RK c W σ w' F H x := by
  cases x with
  | ok a => exact k a h
  | exc => exact h
  | stuck => exact h
theorem RK.mono {x : R α} (mw : ∀ a, w a F H → w a F1 H1) (h : RK c W σ w F H x) (e : Ext H F H1 F1) : RK c W σ w F1 H1 x := by
  cases x with
  | ok a => exact mw a h
  | exc => exact WantX.mono h e
  | stuck => exact h
theorem RK.to {w' : α → Hp → Hp → Prop} {x : R α} (h : RK c W σ w F H x) (e : Ext H F H1 F1) (k : ∀ a, w a F H → w' a F1 H1) : RK c W σ w' F1 H1 x := by
  cases x with
  | ok a => exact k a h
  | exc => exact WantX.mono h e
  | stuck => exact h
theorem RK.of {o : Option α} (h : RK c W σ w F H (R.of o)) : ∃ a, o = some a ∧ w a F H := by
  cases o with
  | none => exact h.elim
  | some a => exact ⟨a, rfl, h⟩
end
/-- the ends' wishes, by kind -/
def WD (c : Cn) (m : RM) (Q : VK) : D → Hp → Hp → Prop := fun d F H => Want c m F H d Q
def WT (Q : Bool → Hp → Prop) : Bool → Hp → Hp → Prop := fun b F H => ∀ H' F', Ext H F H' F' → Q b H'
def Resl (c : Cn) : List RM → Hp → Hp → Hp → List D → List V → Prop
  | m :: ms, H, F', H', d :: ds, v :: vs => Res c m H F' H' d v ∧ Resl c ms H F' H' ds vs
  | _, _, _, _, [], [] => True
  | _, _, _, _, _, _ => False
section
variable {c : Cn} {m : RM} {W : WX} {μ : List Md} {σ : L2.St} {F H F1 H1 : Hp}
theorem WD.mono {Q : VK} {d : D} (e : Ext H F H1 F1) (h : WD c m Q d F H) : WD c m Q d F1 H1 := Want.mono h e
theorem WT.mono {Q : Bool → Hp → Prop} {b : Bool} (e : Ext H F H1 F1) (h : WT Q b F H) : WT Q b F1 H1 := fun H' F' e' => h H' F' (e.trans e')
end
/-- an expression's reading, a test's -/
def rE (c : Cn) (W : WX) (μ : List Md) (m : RM) (ev : Env → R D) : TE := fun σ H Q => ∃ ρ F, SR c μ ρ σ H F ∧ RK c W σ (WD c m Q) F H (ev ρ)
def rT (c : Cn) (W : WX) (μ : List Md) (ev : Env → R Bool) : TT := fun σ H Q => ∃ ρ F, SR c μ ρ σ H F ∧ RK c W σ (WT Q) F H (ev ρ)
theorem _root_.L2.PE.weak {X : Cx} {e : Expr} {t t' : TE} (h : PE X e t) (k : ∀ σ H Q, t' σ H Q → t σ H Q) : PE X e t' := ⟨fun pins s σ H Q I q => h.run pins s σ H Q I (k _ _ _ q)⟩
theorem _root_.L2.PT.weak {X : Cx} {e : Expr} {t t' : TT} (h : PT X e t) (k : ∀ σ H Q, t' σ H Q → t σ H Q) : PT X e t' := ⟨fun pins s σ H Q I q => h.run pins s σ H Q I (k _ _ _ q)⟩

def modeOk : RM → Md → Bool
  | .B, .imm => true
  | .B, .own => true
  | .B, .bor => true
  | .V, .imm => true
  | _, _ => false

section
variable {X : Cx} {c : Cn} {m : RM} {W : WX} {μ : List Md} {pos : Pos} {a b d : Expr} {eva evb evd : Env → R D}
theorem e_var {i : Nat} {x : PySem.Str} {md : Md} (hN : X.N[i]? = some x) (hv : Vis X.env.scope x) (hd : (x == ("__debug__" : PySem.Str)) = false) (hcd : (x == ("__classdict__" : PySem.Str)) = false) (hμ : μ[i]? = some md) (hm : modeOk m md = true) :
    PE X (.Name x pos) (rE c W μ m fun ρ => getE ρ i) := by
  refine (pe_var (i := i) hN hv hd hcd).weak ?_
  rintro σ H Q ⟨ρ, F, S, h⟩
  have h : RK c W σ (WD c m Q) F H (getE ρ i) := h
  cases m <;> cases md <;> simp only [modeOk] at hm <;> try contradiction
  · obtain ⟨v, d, h1, h2, h3⟩ := S.imm i hμ
    rw [h2] at h
    exact ⟨v, h1, h v H F (Ext.refl S.sub) (.inl h3)⟩
  · obtain ⟨p, d, h1, h2, h3, _, _⟩ := S.own i hμ
    rw [h2] at h
    exact ⟨_, h1, h _ H F (Ext.refl S.sub) (.inr ⟨p, rfl, h3⟩)⟩
  · obtain ⟨v, d, h1, h2, h3⟩ := S.bor i hμ
    rw [h2] at h
    exact ⟨v, h1, h v H F (Ext.refl S.sub) (h3.mono (Same.refl _) S.base)⟩
  · obtain ⟨v, d, h1, h2, h3⟩ := S.imm i hμ
    rw [h2] at h
    exact ⟨v, h1, h v H F (Ext.refl S.sub) h3⟩
/-- a value that is no object -/
theorem e_const {e : Expr} {v : V} {dd : D} (h : PE X e (tC v)) (hr : ∀ F, Rp c F dd v) (ho : isOwn dd = false) : PE X e (rE c W μ m fun _ => .ok dd) := by
  refine h.weak ?_
  rintro σ H Q ⟨ρ, F, S, w⟩
  exact Want.sc w S.sub (hr F) ho
theorem e_bin {op : Operator} {g : D → D → Option D} (ho : Op2 X c m (binaryOp op) g) (ha : PE X a (rE c W μ .B eva)) (hb : PE X b (rE c W μ .B evb)) :
    PE X (.BinOp a op b pos) (rE c W μ m fun ρ => (eva ρ).bind fun x => (evb ρ).bind fun y => R.of (g x y)) := by
  refine (pe_op ho ha hb).weak ?_
  rintro σ H Q ⟨ρ, F, S, h⟩
  refine ⟨ρ, F, S, h.bnd.imp fun dx hx => ?_⟩
  intro vx H1 F1 e1 rx
  have hx := RK.mono (fun _ => WD.mono e1) hx e1
  refine ⟨ρ, F1, S.ext e1, hx.bnd.imp fun dy hy => ?_⟩
  intro vy H2 F2 e2 ry
  obtain ⟨z, e3, hz⟩ := (RK.mono (fun _ => WD.mono e2) hy e2).of
  exact ⟨F2, dx, dy, z, e2.sub, Rb.mono (e2.frs e1.sub) e2.same rx, ry, e3, hz⟩
theorem e_cmp {op : CmpOp} {g : D → D → Option D} (ho : Op2 X c m (compareOp op) g) (ha : PE X a (rE c W μ .B eva)) (hb : PE X b (rE c W μ .B evb)) (hm : behindInMarks op b = false) :
    PE X (.Compare a [op] [b] pos) (rE c W μ m fun ρ => (eva ρ).bind fun x => (evb ρ).bind fun y => R.of (g x y)) := by
  refine (pe_cmpR ho ha hb hm).weak ?_
  rintro σ H Q ⟨ρ, F, S, h⟩
  refine ⟨ρ, F, S, h.bnd.imp fun dx hx => ?_⟩
  intro vx H1 F1 e1 rx
  have hx := RK.mono (fun _ => WD.mono e1) hx e1
  refine ⟨ρ, F1, S.ext e1, hx.bnd.imp fun dy hy => ?_⟩
  intro vy H2 F2 e2 ry
  obtain ⟨z, e3, hz⟩ := (RK.mono (fun _ => WD.mono e2) hy e2).of
  exact ⟨F2, dx, dy, z, e2.sub, Rb.mono (e2.frs e1.sub) e2.same rx, ry, e3, hz⟩
theorem e_un {op : UnaryOp} {g : D → Option D} (ho : Op1 X c m (unaryOp op) g) (ha : PE X a (rE c W μ .B eva)) : PE X (.UnaryOp op a pos) (rE c W μ m fun ρ => (eva ρ).bind fun x => R.of (g x)) := by
  refine (pe_un ho ha).weak ?_
  rintro σ H Q ⟨ρ, F, S, h⟩
  refine ⟨ρ, F, S, h.bnd.imp fun dx hx => ?_⟩
  intro vx H1 F1 e1 rx
  obtain ⟨z, e3, hz⟩ := (RK.mono (fun _ => WD.mono e1) hx e1).of
  exact ⟨F1, dx, z, e1.sub, rx, e3, hz⟩
theorem e_idx {g : D → D → Option D} (ho : IxR X (fun x y H Q => ∃ F dx dy d, Same F H ∧ Rb c F H dx x ∧ Rb c F H dy y ∧ g dx dy = some d ∧ Want c m F H d Q)) (ha : PE X a (rE c W μ .B eva)) (hb : PE X b (rE c W μ .B evb)) (hs : PlainIx b) :
    PE X (.Subscript a b pos) (rE c W μ m fun ρ => (eva ρ).bind fun x => (evb ρ).bind fun y => R.of (g x y)) := by
  refine (pe_ix ho ha hb hs).weak ?_
  rintro σ H Q ⟨ρ, F, S, h⟩
  refine ⟨ρ, F, S, h.bnd.imp fun dx hx => ?_⟩
  intro vx H1 F1 e1 rx
  have hx := RK.mono (fun _ => WD.mono e1) hx e1
  refine ⟨ρ, F1, S.ext e1, hx.bnd.imp fun dy hy => ?_⟩
  intro vy H2 F2 e2 ry
  obtain ⟨z, e3, hz⟩ := (RK.mono (fun _ => WD.mono e2) hy e2).of
  exact ⟨F2, dx, dy, z, e2.sub, Rb.mono (e2.frs e1.sub) e2.same rx, ry, e3, hz⟩
/-- bools -/
theorem boolD_inv {x : D} {b : Bool} (e : boolD x = some b) : x = .bl b := by
  cases x <;> simp only [boolD] at e <;> cases e <;> rfl
theorem e_not (ha : PE X a (rE c W μ .B eva)) : PE X (.UnaryOp .Not a pos) (rE c W μ m fun ρ => (eva ρ).bind fun x => (R.of (boolD x)).bind fun b => .ok (.bl (!b))) := by
  refine (pe_not ha).weak ?_
  rintro σ H Q ⟨ρ, F, S, h⟩
  refine ⟨ρ, F, S, h.bnd.imp fun dx hx => ?_⟩
  intro vx H1 F1 e1 rx
  obtain ⟨t, e3, hz⟩ := (RK.mono (fun _ => WD.mono e1) hx e1).bnd.of
  obtain rfl := boolD_inv e3
  exact ⟨t, rx.bl, Want.bl hz e1.sub⟩
theorem e_and {rest : List Expr} {p2 : Pos} (ha : PE X a (rE c W μ .B eva)) (hb : PE X (.BoolOp .And (b :: rest) pos) (rE c W μ m evb)) :
    PE X (.BoolOp .And (a :: b :: rest) pos) (rE c W μ m fun ρ => (eva ρ).bind fun x => (R.of (boolD x)).bind fun k => if k then evb ρ else .ok (.bl false)) := by
  refine (pe_and ha hb).weak ?_
  rintro σ H Q ⟨ρ, F, S, h⟩
  refine ⟨ρ, F, S, h.bnd.imp fun dx hx => ?_⟩
  intro vx H1 F1 e1 rx
  obtain ⟨t, e3, hz⟩ := (RK.mono (fun _ => WD.mono e1) hx e1).bnd.of
  obtain rfl := boolD_inv e3
  refine ⟨t, rx.bl, ?_⟩
  cases t with
  | true => exact ⟨ρ, F1, S.ext e1, hz⟩
  | false => exact Want.bl hz e1.sub
theorem e_or {rest : List Expr} (ha : PE X a (rE c W μ .B eva)) (hb : PE X (.BoolOp .Or (b :: rest) pos) (rE c W μ m evb)) :
    PE X (.BoolOp .Or (a :: b :: rest) pos) (rE c W μ m fun ρ => (eva ρ).bind fun x => (R.of (boolD x)).bind fun k => if k then .ok (.bl true) else evb ρ) := by
  refine (pe_or ha hb).weak ?_
  rintro σ H Q ⟨ρ, F, S, h⟩
  refine ⟨ρ, F, S, h.bnd.imp fun dx hx => ?_⟩
  intro vx H1 F1 e1 rx
  obtain ⟨t, e3, hz⟩ := (RK.mono (fun _ => WD.mono e1) hx e1).bnd.of
  obtain rfl := boolD_inv e3
  refine ⟨t, rx.bl, ?_⟩
  cases t with
  | false => exact ⟨ρ, F1, S.ext e1, hz⟩
  | true => exact Want.bl hz e1.sub
theorem e_isN (ha : PE X a (rE c W μ .B eva)) {j p2} : PE X (.Compare a [.Is] [.Constant .none j p2] pos) (rE c W μ m fun ρ => (eva ρ).bind fun x => .ok (.bl (isNon x))) := by
  refine (pe_cmpR op_isN ha pe_non (nomark _)).weak ?_
  rintro σ H Q ⟨ρ, F, S, h⟩
  refine ⟨ρ, F, S, h.bnd.imp fun dx hx => ?_⟩
  intro vx H1 F1 e1 rx
  have hz : Want c m F1 H1 (.bl _) Q := RK.mono (fun _ => WD.mono e1) hx e1
  exact ⟨rfl, by rw [Rb.none_iff rx]; exact hz.bl e1.sub⟩
theorem e_nisN (ha : PE X a (rE c W μ .B eva)) {j p2} : PE X (.Compare a [.IsNot] [.Constant .none j p2] pos) (rE c W μ m fun ρ => (eva ρ).bind fun x => .ok (.bl (!isNon x))) := by
  refine (pe_cmpR op_notN ha pe_non (nomark _)).weak ?_
  rintro σ H Q ⟨ρ, F, S, h⟩
  refine ⟨ρ, F, S, h.bnd.imp fun dx hx => ?_⟩
  intro vx H1 F1 e1 rx
  have hz : Want c m F1 H1 (.bl _) Q := RK.mono (fun _ => WD.mono e1) hx e1
  exact ⟨rfl, by rw [Rb.none_iff rx]; exact hz.bl e1.sub⟩
theorem beq_dec (t b : Bool) : (t == b) = decide (t = b) := by cases t <;> cases b <;> rfl
theorem e_isB (ha : PE X a (rE c W μ .B eva)) {j p2} {b : Bool} : PE X (.Compare a [.Is] [.Constant (.bool b) j p2] pos) (rE c W μ m fun ρ => (eva ρ).bind fun x => (R.of (boolD x)).bind fun k => .ok (.bl (k == b))) := by
  refine (pe_cmpR op_is_bl ha pe_bl (nomark _)).weak ?_
  rintro σ H Q ⟨ρ, F, S, h⟩
  refine ⟨ρ, F, S, h.bnd.imp fun dx hx => ?_⟩
  intro vx H1 F1 e1 rx
  have hx := RK.mono (fun _ => WD.mono e1) hx e1
  obtain ⟨t, e3, hz⟩ := hx.bnd.of
  obtain rfl := boolD_inv e3
  have hz : Want c m F1 H1 (.bl _) Q := hz
  exact ⟨t, b, rx.bl, rfl, by rw [← beq_dec]; exact hz.bl e1.sub⟩
theorem e_nisB (ha : PE X a (rE c W μ .B eva)) {j p2} {b : Bool} : PE X (.Compare a [.IsNot] [.Constant (.bool b) j p2] pos) (rE c W μ m fun ρ => (eva ρ).bind fun x => (R.of (boolD x)).bind fun k => .ok (.bl (!(k == b)))) := by
  refine (pe_cmpR op_isnot_bl ha pe_bl (nomark _)).weak ?_
  rintro σ H Q ⟨ρ, F, S, h⟩
  refine ⟨ρ, F, S, h.bnd.imp fun dx hx => ?_⟩
  intro vx H1 F1 e1 rx
  have hx := RK.mono (fun _ => WD.mono e1) hx e1
  obtain ⟨t, e3, hz⟩ := hx.bnd.of
  obtain rfl := boolD_inv e3
  have hz : Want c m F1 H1 (.bl _) Q := hz
  exact ⟨t, b, rx.bl, rfl, by rw [← beq_dec]; exact hz.bl e1.sub⟩
/-- op, op': a chain -/
theorem e_chn {op op' : CmpOp} {g g' : D → D → Option D} (ho : Op2 X c .B (compareOp op) g) (ho' : Op2 X c m (compareOp op') g') (ha : PE X a (rE c W μ .B eva)) (hb : PE X b (rE c W μ .B evb)) (hd : PE X d (rE c W μ .B evd))
    (hm : lastMarks [op, op'] [b, d] = false) :
    PE X (.Compare a [op, op'] [b, d] pos) (rE c W μ m fun ρ => (eva ρ).bind fun x => (evb ρ).bind fun y => (R.of (g x y)).bind fun t => (R.of (boolD t)).bind fun t => if t then (evd ρ).bind fun z => R.of (g' y z) else .ok (.bl false)) := by
  refine (pe_chain ho ho' ha hb hd hm).weak ?_
  rintro σ H Q ⟨ρ, F, S, h⟩
  refine ⟨ρ, F, S, h.bnd.imp fun dx hx => ?_⟩
  intro vx H1 F1 e1 rx
  have hx := RK.mono (fun _ => WD.mono e1) hx e1
  refine ⟨ρ, F1, S.ext e1, hx.bnd.imp fun dy hy => ?_⟩
  intro vy H2 F2 e2 ry
  obtain ⟨z, e3, hz⟩ := (RK.mono (fun _ => WD.mono e2) hy e2).bnd.of
  obtain ⟨t, e4, hz⟩ := hz.bnd.of
  obtain rfl := boolD_inv e4
  refine ⟨F2, dx, dy, .bl t, e2.sub, Rb.mono (e2.frs e1.sub) e2.same rx, ry, e3, ?_⟩
  intro v3 H3 F3 e5 r3
  refine ⟨t, Rb.bl r3, ?_⟩
  have S3 := ((S.ext e1).ext e2).ext e5
  cases t with
  | false =>
    have hz : Want c m F2 H2 (.bl false) Q := hz
    exact Want.bl (hz.mono e5) e5.sub
  | true =>
    have hz : RK c W σ (WD c m Q) F2 H2 ((evd ρ).bind fun z => R.of (g' dy z)) := hz
    have hz := RK.mono (fun _ => WD.mono e5) hz e5
    refine ⟨ρ, F3, S3, hz.bnd.imp fun dw hw => ?_⟩
    intro vw H4 F4 e6 r4
    obtain ⟨u, e7, hu⟩ := (RK.mono (fun _ => WD.mono e6) hw e6).of
    exact ⟨F4, dy, dw, u, e6.sub, Rb.mono ((e5.trans e6).frs e2.sub) (e5.same.trans e6.same) ry, r4, e7, hu⟩
/-- slices -/
def rO (c : Cn) (W : WX) (μ : List Md) (ev : Env → R (Option Int)) : TO := fun σ H Q => ∃ ρ F, SR c μ ρ σ H F ∧ RK c W σ (fun o F H => ∀ H' F', Ext H F H' F' → Q o H') F H (ev ρ)
theorem PO.weak {e : Option Expr} {t t' : TO} (h : PO X e t) (k : ∀ σ H Q, t' σ H Q → t σ H Q) : PO X e t' := ⟨fun pins s σ H Q I q => h.run pins s σ H Q I (k _ _ _ q)⟩
theorem o_none : PO X none (rO c W μ fun _ => .ok none) := by
  refine PO.weak po_none ?_
  rintro σ H Q ⟨ρ, F, S, h⟩
  exact h H F (Ext.refl S.sub)
theorem intOf_inv {x : D} {i : Int} (e : intOf x = some i) : x = .int i := by
  cases x <;> simp only [intOf] at e <;> cases e <;> rfl
theorem o_some (ha : PE X a (rE c W μ .B eva)) : PO X (some a) (rO c W μ fun ρ => (eva ρ).bind fun x => (R.of (intOf x)).bind fun i => .ok (some i)) := by
  refine PO.weak (po_some ha) ?_
  rintro σ H Q ⟨ρ, F, S, h⟩
  refine ⟨ρ, F, S, h.bnd.imp fun dx hx => ?_⟩
  intro vx H1 F1 e1 rx
  obtain ⟨i, e3, hz⟩ := (RK.mono (F1 := F1) (H1 := H1) (fun a ha H' F' e' => ha H' F' (e1.trans e')) hx e1).bnd.of
  obtain rfl := intOf_inv e3
  exact ⟨i, rx.int, hz H1 F1 (Ext.refl e1.sub)⟩
theorem e_sl {lo hi : Option Expr} {evl evh : Env → R (Option Int)} {p2 : Pos} (hK : X.K = c.K) (ha : PE X a (rE c W μ .B eva)) (hl : PO X lo (rO c W μ evl)) (hh : PO X hi (rO c W μ evh)) :
    PE X (.Subscript a (.Slice lo hi none p2) pos) (rE c W μ m fun ρ => (eva ρ).bind fun x => (evl ρ).bind fun l => (evh ρ).bind fun h => R.of (sliceD x l h)) := by
  refine (pe_slice (o_slice (m := m) hK) ha hl hh).weak ?_
  rintro σ H Q ⟨ρ, F, S, h⟩
  refine ⟨ρ, F, S, h.bnd.imp fun dx hx => ?_⟩
  intro vx H1 F1 e1 rx
  have hx := RK.mono (fun _ => WD.mono e1) hx e1
  refine ⟨ρ, F1, S.ext e1, hx.bnd.imp fun l hy => ?_⟩
  intro H2 F2 e2
  have hy := RK.mono (fun _ => WD.mono e2) hy e2
  refine ⟨ρ, F2, (S.ext e1).ext e2, hy.bnd.imp fun u hz => ?_⟩
  intro H3 F3 e3
  obtain ⟨z, e4, hz⟩ := (RK.mono (fun _ => WD.mono e3) hz e3).of
  exact ⟨F3, dx, z, e3.sub, Rb.mono ((e2.trans e3).frs e1.sub) (e2.same.trans e3.same) rx, e4, hz⟩
/-- lists of arguments -/
def Wl (c : Cn) (ms : List RM) (Q : List V → Hp → Prop) : List D → Hp → Hp → Prop := fun ds F H => ∀ vs H' F', Ext H F H' F' → Resl c ms H F' H' ds vs → Q vs H'
def rA (c : Cn) (W : WX) (μ : List Md) (ms : List RM) (ev : Env → R (List D)) : TA := fun σ H Q => ∃ ρ F, SR c μ ρ σ H F ∧ RK c W σ (Wl c ms Q) F H (ev ρ)
theorem PA.weak {es : List Expr} {t t' : TA} (h : PA X es t) (k : ∀ σ H Q, t' σ H Q → t σ H Q) : PA X es t' := ⟨fun pos pins s σ H Q I q => h.run pos pins s σ H Q I (k _ _ _ q)⟩
theorem Res.mono {m : RM} {H H1 H2 F1 F2 : Hp} {d : D} {v : V} (s : Same F1 H1) (e : Ext H1 F1 H2 F2) (h : Res c m H F1 H1 d v) : Res c m H F2 H2 d v := by
  cases m
  · exact Rb.mono (e.frs s) e.same h
  · exact Rp.mono (e.frs s) _ _ h
  · simp only [Res] at h ⊢
    split
    · rename_i q
      rw [if_pos q] at h
      obtain ⟨p, r, h1, h2, h3⟩ := h
      exact ⟨p, r, h1, e.keepNone h3.ne h2, h3.mono (e.frs s) e.same⟩
    · rename_i q
      rw [if_neg q] at h
      exact Rp.mono (e.frs s) _ _ h
theorem Resl.weak : ∀ {ms : List RM} {H H1 F' H' : Hp} {ds : List D} {vs : List V}, Same H H1 → Resl c ms H1 F' H' ds vs → Resl c ms H F' H' ds vs
  | [], _, _, _, _, [], [], _, _ => by simp [Resl]
  | [], _, _, _, _, _ :: _, _, _, h => by simp [Resl] at h
  | [], _, _, _, _, [], _ :: _, _, h => by simp [Resl] at h
  | _ :: _, _, _, _, _, [], [], _, _ => by simp [Resl]
  | _ :: _, _, _, _, _, [], _ :: _, _, h => by simp [Resl] at h
  | _ :: _, _, _, _, _, _ :: _, [], _, h => by simp [Resl] at h
  | m :: ms, _, _, _, _, d :: ds, v :: vs, k, h => by
    simp only [Resl] at h ⊢
    exact ⟨h.1.weak k, Resl.weak k h.2⟩
theorem Wl.mono {ms : List RM} {Q : List V → Hp → Prop} {F H F1 H1 : Hp} {ds : List D} (e : Ext H F H1 F1) (h : Wl c ms Q ds F H) : Wl c ms Q ds F1 H1 :=
  fun vs H' F' e' r => h vs H' F' (e.trans e') (r.weak e.same)
theorem a_nil {ms : List RM} : PA X [] (rA c W μ ms fun _ => .ok []) := by
  refine PA.weak pa_nil ?_
  rintro σ H Q ⟨ρ, F, S, h⟩
  exact h [] H F (Ext.refl S.sub) (by cases ms <;> simp [Resl])
theorem a_cons {es : List Expr} {evs : Env → R (List D)} {ms : List RM} (ha : PE X a (rE c W μ m eva)) (hb : PA X es (rA c W μ ms evs)) (hs : starEach (a :: es) X.env = (false, eval a X.env) :: starEach es X.env) :
    PA X (a :: es) (rA c W μ (m :: ms) fun ρ => (eva ρ).bind fun x => (evs ρ).bind fun xs => .ok (x :: xs)) := by
  refine PA.weak (pa_cons ha hb hs) ?_
  rintro σ H Q ⟨ρ, F, S, h⟩
  refine ⟨ρ, F, S, h.bnd.imp fun dx hx => ?_⟩
  intro vx H1 F1 e1 rx
  refine ⟨ρ, F1, S.ext e1, RK.to hx.bnd e1 fun ds hy => ?_⟩
  have hz : Wl c (m :: ms) Q (dx :: ds) F H := hy
  intro vs H2 F2 e2 rs
  exact hz (vx :: vs) H2 F2 (e1.trans e2) (by simp only [Resl]; exact ⟨rx.mono e1.sub e2, rs.weak e1.same⟩)
end
end Mi

/-! Mi, part C2: calls and displays. -/
namespace Mi
open PySem L2 PySem.Spec PyProof.Rows

section
variable {X : Cx} {c : Cn} {m : RM} {W : WX} {μ : List Md} {pos : Pos} {a b d e : Expr} {es : List Expr} {eva evb evd : Env → R D} {evs : Env → R (List D)} {ms : List RM}
theorem Resl.allB : ∀ {ms : List RM} {H F' H' : Hp} {ds : List D} {vs : List V}, (∀ m ∈ ms, m = .B) → Resl c ms H F' H' ds vs → Rbs c F' H' ds vs
  | [], _, _, _, [], [], _, _ => by simp [Rbs]
  | [], _, _, _, _ :: _, _, _, h => by simp [Resl] at h
  | [], _, _, _, [], _ :: _, _, h => by simp [Resl] at h
  | _ :: _, _, _, _, [], [], _, _ => by simp [Rbs]
  | _ :: _, _, _, _, [], _ :: _, _, h => by simp [Resl] at h
  | _ :: _, _, _, _, _ :: _, [], _, h => by simp [Resl] at h
  | m :: ms, _, _, _, d :: ds, v :: vs, k, h => by
    simp only [Resl] at h
    simp only [Rbs]
    have hm : m = .B := k m List.mem_cons_self
    subst hm
    exact ⟨v, vs, rfl, h.1, Resl.allB (fun x hx => k x (List.mem_cons_of_mem _ hx)) h.2⟩
theorem Resl.allV : ∀ {ms : List RM} {H F' H' : Hp} {ds : List D} {vs : List V}, (∀ m ∈ ms, m = .V) → Resl c ms H F' H' ds vs → Rps c F' ds vs
  | [], _, _, _, [], [], _, _ => .nil
  | [], _, _, _, _ :: _, _, _, h => by simp [Resl] at h
  | [], _, _, _, [], _ :: _, _, h => by simp [Resl] at h
  | _ :: _, _, _, _, [], [], _, _ => .nil
  | _ :: _, _, _, _, [], _ :: _, _, h => by simp [Resl] at h
  | _ :: _, _, _, _, _ :: _, [], _, h => by simp [Resl] at h
  | m :: ms, _, _, _, d :: ds, v :: vs, k, h => by
    simp only [Resl] at h
    have hm : m = .V := k m List.mem_cons_self
    subst hm
    exact .cons h.1 (Resl.allV (fun x hx => k x (List.mem_cons_of_mem _ hx)) h.2)
theorem rA_use {ms : List RM} {g : List D → R D} {Q : VK} {σ : L2.St} {H : Hp} {ρ : Env} {F : Hp} {q : List V → Hp → Prop} (S : SR c μ ρ σ H F) (h : RK c W σ (WD c m Q) F H ((evs ρ).bind g))
    (k : ∀ ds vs H1 F1, Ext H F H1 F1 → Resl c ms H F1 H1 ds vs → RK c W σ (WD c m Q) F H (g ds) → q vs H1) : rA c W μ ms evs σ H q :=
  ⟨ρ, F, S, h.bnd.imp fun ds hd vs H1 F1 e r => k ds vs H1 F1 e r hd⟩
/-- a built-in function, a built-in class, called -/
theorem e_blt {x : PySem.Str} {id : String} {g : List D → Option D} {p : Pos} (ho : OpN X c m (.builtin id) g) (hg : Gl X x) (hm : X.mg x = none) (hv : bootBuiltins x = some (.builtin id)) (ha : PA X (e :: es) (rA c W μ ms evs)) (hB : ∀ m ∈ ms, m = .B) (hn : x ≠ "__name__") (hdb : (x == ("__debug__" : PySem.Str)) = false)
    (he : starEach (e :: es) X.env = (false, eval e X.env) :: starEach es X.env) (hpl : (backTo pos (starEach es X.env)).any (·.1) = false) :
    PE X (.Call (.Name x p) (e :: es) [] pos) (rE c W μ m fun ρ => (evs ρ).bind fun xs => R.of (g xs)) := by
  refine (pe_callB ho hg hm hv ha hn hdb he hpl).weak ?_
  rintro σ H Q ⟨ρ, F, S, h⟩
  refine rA_use (ms := ms) (m := m) (Q := Q) (g := fun xs => R.of (g xs)) S h fun ds vs H1 F1 e1 r k => ?_
  obtain ⟨z, e3, hz⟩ := (RK.mono (fun _ => WD.mono e1) k e1).of
  exact ⟨F1, ds, z, e1.sub, r.allB hB, e3, hz⟩
theorem e_bty {x : PySem.Str} {id : String} {g : List D → Option D} {p : Pos} (ho : OpN X c m (.type id) g) (hg : Gl X x) (hm : X.mg x = none) (hv : bootBuiltins x = some (.type id)) (ha : PA X (e :: es) (rA c W μ ms evs)) (hB : ∀ m ∈ ms, m = .B) (hn : x ≠ "__name__") (hdb : (x == ("__debug__" : PySem.Str)) = false)
    (he : starEach (e :: es) X.env = (false, eval e X.env) :: starEach es X.env) (hpl : (backTo pos (starEach es X.env)).any (·.1) = false) :
    PE X (.Call (.Name x p) (e :: es) [] pos) (rE c W μ m fun ρ => (evs ρ).bind fun xs => R.of (g xs)) := by
  refine (pe_callTy ho hg hm hv ha hn hdb he hpl).weak ?_
  rintro σ H Q ⟨ρ, F, S, h⟩
  refine rA_use (ms := ms) (m := m) (Q := Q) (g := fun xs => R.of (g xs)) S h fun ds vs H1 F1 e1 r k => ?_
  obtain ⟨z, e3, hz⟩ := (RK.mono (fun _ => WD.mono e1) k e1).of
  exact ⟨F1, ds, z, e1.sub, r.allB hB, e3, hz⟩
/-- displays -/
theorem pe_tupF {t : TA} {x1 : Nat} (h : PA X es t) : PE X (.Tuple es x1 pos) (fun σ H Q => t σ H fun xs H1 => xs.length ≤ sizeLine ∧ ∀ (p : Addr) (o : Obj), H1 p = none → o.dict = none → Q (.ref p) (upd H1 p (.frz o (.tup xs)))) := by
  refine ⟨fun pins s σ H Q I hq => ?_⟩
  refine wpAny_Tuple_spliced (thn (h.run pos pins s σ H _ I hq) fun us s1 ⟨xs, H1, J, r, z, q⟩ => ⟨by rw [← r.length]; exact z, ?_⟩)
  have hf : H1 s1.heap.objs.size = none := J.hok.fresh (Nat.le_refl _)
  refine ⟨.ref s1.heap.objs.size, upd H1 s1.heap.objs.size (.frz _ (.tup xs)), J.laid (t' := s1.toks) (fun b u e => Heap.get?_push_of_some _ e) (Nat.le_refl _) ⟨Heap.get?_push_size _ rfl, ?_⟩, rfl, q _ _ hf rfl⟩
  exact ⟨z, us, r, ⟨_, Heap.get?_push_size _ rfl, rfl, _, rfl⟩⟩
theorem e_tup {x1 : Nat} (ha : PA X es (rA c W μ ms evs)) (hV : ∀ m ∈ ms, m = .V) (hl : es.length ≤ lineN) (hlen : ∀ ρ ds, evs ρ = .ok ds → ds.length = es.length) :
    PE X (.Tuple es x1 pos) (rE c W μ m fun ρ => (evs ρ).bind fun xs => .ok (.tup xs)) := by
  refine (pe_tupF ha).weak ?_
  rintro σ H Q ⟨ρ, F, S, h⟩
  refine ⟨ρ, F, S, ?_⟩
  cases q : evs ρ with
  | ok ds =>
    have h : RK c W σ (WD c m Q) F H ((evs ρ).bind fun xs => .ok (.tup xs)) := h
    rw [q] at h
    intro vs H1 F1 e1 r
    have r' := r.allV hV
    refine ⟨by rw [r'.length, hlen ρ ds q, ← lineN_eq]; exact hl, fun p o hp ho => ?_⟩
    exact Want.tupF (Want.mono h e1) e1.sub hp r' ho
  | exc x r =>
    have h : RK c W σ (WD c m Q) F H ((evs ρ).bind fun xs => .ok (.tup xs)) := h
    rw [q] at h
    exact h
  | stuck =>
    have h : RK c W σ (WD c m Q) F H ((evs ρ).bind fun xs => .ok (.tup xs)) := h
    rw [q] at h
    exact h
theorem e_lst (ha : PA X es (rA c W μ ms evs)) (hV : ∀ m ∈ ms, m = .V) (hl : es.length ≤ lineN) (hlen : ∀ ρ ds, evs ρ = .ok ds → ds.length = es.length) :
    PE X (.List es pos) (rE c W μ m fun ρ => (evs ρ).bind fun xs => .ok (.lst xs)) := by
  refine (pe_lst ha).weak ?_
  rintro σ H Q ⟨ρ, F, S, h⟩
  refine ⟨ρ, F, S, ?_⟩
  have h : RK c W σ (WD c m Q) F H ((evs ρ).bind fun xs => .ok (.lst xs)) := h
  cases q : evs ρ with
  | ok ds =>
    rw [q] at h
    intro vs H1 F1 e1 r
    have r' := r.allV hV
    refine ⟨by rw [r'.length, hlen ρ ds q, ← lineN_eq]; exact hl, fun p hp => ?_⟩
    exact Want.lst (Want.mono h e1) e1.sub hp r'
  | exc x r =>
    rw [q] at h
    exact h
  | stuck =>
    rw [q] at h
    exact h
theorem e_dnil : PE X (.Dict [] [] pos) (rE c W μ m fun _ => .ok (.dct [])) := by
  refine pe_dnewK.weak ?_
  rintro σ H Q ⟨ρ, F, S, h⟩
  intro p hp
  exact Want.dct h S.sub hp (by simp [Rpk])

/-! a def's promise -/
/-- the arguments as the promise asks them -/
def Args (c : Cn) (B F H : Hp) : List Md → List D → List V → Prop
  | m :: ms, d :: ds, v :: vs => (match m with
      | .imm => Rp c F d v
      | .bor => Rb c F B d v
      | .own => ∃ p, v = .ref p ∧ Ob c F H p d ∧ B p = none ∧ F p = none
      | .io => ∃ p, v = .ref p ∧ Ob c F H p d ∧ B p = none ∧ F p = none
      | .dead => False) ∧ Args c B F H ms ds vs
  | [], [], [] => True
  | _, _, _ => False
/-- no two new ones are one -/
def Apart : List Md → List V → Prop
  | Md.own :: ms, v :: vs => (∀ i : Nat, ms[i]? = some Md.own → vs[i]? ≠ some v) ∧ Apart ms vs
  | _ :: ms, _ :: vs => Apart ms vs
  | _, _ => True
/-- behind a def: what stood stands, and the frozen part of it -/
structure Out (B F H' F' : Hp) : Prop where
  same : Same B H'
  sub : Same F' H'
  fr : ∀ a, B a ≠ none → F' a = F a
def rmOf (fr : Bool) : RM := if fr then .O else .V
/-- does the caller get the first argument back -/
def ioB : List Md → Bool
  | .io :: _ => true
  | _ => false
/-- what is told -/
def ResR (c : Cn) (pm : List Md) (fr : Bool) (B F' H' : Hp) (vs : List V) (d : D) (v : V) : Prop :=
  if ioB pm then ∃ r y p us, d = .tup [r, y] ∧ vs = .ref p :: us ∧ Rp c F' r v ∧ Ob c F' H' p y ∧ F' p = none else Res c (rmOf fr) B F' H' d v
def spOf (c : Cn) (pm : List Md) (fr : Bool) (g : List D → R D) : Sp := fun vs H Q E => ∃ B F ds, Same B H ∧ Same F B ∧ Args c B F H pm ds vs ∧ Apart pm vs ∧
  match g ds with
  | .ok d => ∀ v H' F', Out B F H' F' → ResR c pm fr B F' H' vs d v → Q v H'
  | .exc x r => ∀ H' F' cls dx, Out B F H' F' → Xr c x r cls dx H' → E cls dx H'
  | .stuck => False
def rmArg : Md → RM
  | .imm => .V
  | .bor => .B
  | .own => .O
  | .io => .B
  | .dead => .V
theorem Args.length : ∀ {pm : List Md} {B F H : Hp} {ds : List D} {vs : List V}, Args c B F H pm ds vs → vs.length = pm.length ∧ ds.length = pm.length
  | [], _, _, _, [], [], _ => ⟨rfl, rfl⟩
  | [], _, _, _, _ :: _, _, h => by simp [Args] at h
  | [], _, _, _, [], _ :: _, h => by simp [Args] at h
  | _ :: _, _, _, _, [], _, h => by simp [Args] at h
  | _ :: _, _, _, _, _ :: _, [], h => by simp [Args] at h
  | m :: ms, _, _, _, d :: ds, v :: vs, h => by
    simp only [Args] at h
    obtain ⟨h1, h2⟩ := Args.length h.2
    simp [h1, h2]
/-- without new arguments: the heap as it stands is the ground -/
theorem args_plain : ∀ {pm : List Md} {F H H0 : Hp} {ds : List D} {vs : List V}, (∀ m ∈ pm, m = .imm ∨ m = .bor) → Resl c (pm.map rmArg) H0 F H ds vs → ds.length = pm.length → Args c H F H pm ds vs
  | [], _, _, _, [], [], _, _, _ => by simp [Args]
  | [], _, _, _, _ :: _, _, _, h, _ => by simp [Resl] at h
  | [], _, _, _, [], _ :: _, _, h, _ => by simp [Resl] at h
  | _ :: _, _, _, _, [], [], _, _, hl => by simp at hl
  | _ :: _, _, _, _, [], _ :: _, _, h, _ => by simp [Resl] at h
  | _ :: _, _, _, _, _ :: _, [], _, h, _ => by simp [Resl] at h
  | m :: ms, _, _, _, d :: ds, v :: vs, k, h, hl => by
    simp only [List.map_cons, Resl] at h
    simp only [Args]
    have ih := args_plain (fun x hx => k x (List.mem_cons_of_mem _ hx)) h.2 (by simpa using hl)
    rcases k m List.mem_cons_self with e | e
    · subst e; exact ⟨h.1, ih⟩
    · subst e; exact ⟨h.1, ih⟩
theorem apart_plain : ∀ {pm : List Md} {vs : List V}, (∀ m ∈ pm, m = .imm ∨ m = .bor) → Apart pm vs
  | [], _, _ => by simp [Apart]
  | m :: ms, [], _ => by cases m <;> simp [Apart]
  | m :: ms, v :: vs, k => by
    have ih := apart_plain (vs := vs) fun x hx => k x (List.mem_cons_of_mem m hx)
    rcases k m List.mem_cons_self with e | e
    · subst e; simpa [Apart] using ih
    · subst e; simpa [Apart] using ih
/-- one argument, a new one, is given away; the others are frozen -/
def oneOwn : List Md → Bool
  | .own :: ms => ms.all fun k => decide (k = .imm)
  | .imm :: ms => oneOwn ms
  | _ => false
theorem args_imm : ∀ {pm : List Md} {B F H H0 : Hp} {ds : List D} {vs : List V}, (pm.all fun k => decide (k = .imm)) = true → Resl c (pm.map rmArg) H0 F H ds vs → ds.length = pm.length → Args c B F H pm ds vs ∧ Apart pm vs
  | [], _, _, _, _, [], [], _, _, _ => by simp [Args, Apart]
  | [], _, _, _, _, _ :: _, _, _, h, _ => by simp [Resl] at h
  | [], _, _, _, _, [], _ :: _, _, h, _ => by simp [Resl] at h
  | _ :: _, _, _, _, _, [], [], _, _, hl => by simp at hl
  | _ :: _, _, _, _, _, [], _ :: _, _, h, _ => by simp [Resl] at h
  | _ :: _, _, _, _, _, _ :: _, [], _, h, _ => by simp [Resl] at h
  | m :: ms, B, _, _, _, d :: ds, v :: vs, k, h, hl => by
    simp only [List.map_cons, Resl] at h
    rw [List.all_cons, Bool.and_eq_true, decide_eq_true_eq] at k
    obtain ⟨rfl, k⟩ := k
    obtain ⟨i1, i2⟩ := args_imm (B := B) k h.2 (by simpa using hl)
    refine ⟨?_, ?_⟩
    · simp only [Args]
      exact ⟨h.1, i1⟩
    · simpa [Apart] using i2
def without (H : Hp) (p : Addr) : Hp := fun a => if a = p then none else H a
theorem args_own : ∀ {pm : List Md} {F H H0 : Hp} {ds : List D} {vs : List V}, oneOwn pm = true → Resl c (pm.map rmArg) H0 F H ds vs → ds.length = pm.length → ownOk pm ds = true → ∃ p, H0 p = none ∧ F p = none ∧ Args c (without H p) F H pm ds vs ∧ Apart pm vs
  | [], _, _, _, _, _, k, _, _, _ => by cases k
  | _ :: _, _, _, _, [], [], _, _, hl, _ => by simp at hl
  | _ :: _, _, _, _, [], _ :: _, _, h, _, _ => by simp [Resl] at h
  | _ :: _, _, _, _, _ :: _, [], _, h, _, _ => by simp [Resl] at h
  | m :: ms, F, H, H0, d :: ds, v :: vs, k, h, hl, ho => by
    simp only [List.map_cons, Resl] at h
    cases m with
    | own =>
      have k : (ms.all fun k => decide (k = .imm)) = true := k
      have ho : (isOwn d && ownOk ms ds) = true := ho
      rw [Bool.and_eq_true] at ho
      have h1 : Res c .O H0 F H d v := h.1
      simp only [Res, ho.1, if_true] at h1
      obtain ⟨p, rfl, h2, h3, h4⟩ := h1
      obtain ⟨i1, i2⟩ := args_imm (B := without H p) k h.2 (by simpa using hl)
      refine ⟨p, h2, h3, ?_, ?_⟩
      · simp only [Args]
        exact ⟨⟨p, rfl, h4, by unfold without; rw [if_pos rfl], h3⟩, i1⟩
      · simp only [Apart]
        refine ⟨fun i hi => ?_, i2⟩
        rw [List.all_eq_true] at k
        have := of_decide_eq_true (k _ (List.mem_of_getElem? hi))
        cases this
    | imm =>
      have k : oneOwn ms = true := k
      obtain ⟨p, i1, i2, i3, i4⟩ := args_own k h.2 (by simpa using hl) ho
      refine ⟨p, i1, i2, ?_, ?_⟩
      · simp only [Args]
        exact ⟨h.1, i3⟩
      · simpa [Apart] using i4
    | bor => cases k
    | dead => cases k
    | io => cases k
/-- what a def tells, as it is wanted -/
theorem want_told {fr : Bool} {F H F' H' : Hp} {dd : D} {v : V} {Q : VK} (hfr : m = .O → fr = true) (w : Want c m F H dd Q) (e : Ext H F H' F') (rr : Res c (rmOf fr) H F' H' dd v) : Q v H' := by
  unfold rmOf at rr
  cases fr with
  | false =>
    have rr : Rp c F' dd v := rr
    cases m with
    | B => exact w v H' F' e (.inl rr)
    | V => exact w v H' F' e rr
    | O => exact absurd (hfr rfl) (by decide)
  | true =>
    have rr : Res c .O H F' H' dd v := rr
    cases m with
    | O => exact w v H' F' e rr
    | B =>
      refine w v H' F' e ?_
      simp only [Res] at rr ⊢
      split at rr
      · obtain ⟨p, rfl, _, _, hO⟩ := rr
        exact .inr ⟨p, rfl, hO⟩
      · exact .inl rr
    | V =>
      simp only [Res] at rr
      split at rr
      · obtain ⟨p, rfl, n1, n2, hO⟩ := rr
        cases dd <;> simp only [Ob] at hO
        · obtain ⟨us, h1, h2⟩ := hO
          refine w _ H' (upd F' p (.lst us)) ⟨e.same, fun a o q => ?_, fun a ha => ?_⟩ ?_
          · by_cases ea : a = p
            · subst ea; rw [upd_same] at q; cases q; exact h1
            · rw [upd_ne ea] at q; exact e.sub _ _ q
          · rw [upd_ne (fun z => by rw [z] at ha; exact ha n1)]; exact e.fr a ha
          · simp only [Res, Rp]
            exact ⟨p, us, rfl, SqL.of upd_same, Rps.mono (same_new n2) _ _ h2⟩
        · obtain ⟨us, h1, h2⟩ := hO
          refine w _ H' (upd F' p (.dK us)) ⟨e.same, fun a o q => ?_, fun a ha => ?_⟩ ?_
          · by_cases ea : a = p
            · subst ea; rw [upd_same] at q; cases q; exact h1
            · rw [upd_ne ea] at q; exact e.sub _ _ q
          · rw [upd_ne (fun z => by rw [z] at ha; exact ha n1)]; exact e.fr a ha
          · simp only [Res, Rp]
            exact ⟨p, us, rfl, upd_same, Rpk.mono (same_new n2) _ _ h2⟩
      · exact w v H' F' e rr
/-- a def of the text, called -/
theorem e_call {x : PySem.Str} {p : Pos} {k : Nat} {f : Addr} {fd : FuncData} {ps : List PySem.Str} {pm : List Md} {fr : Bool} {g : List D → R D} (hK : X.K = c.K) (tk : Takes X W)
    (Fn : FnOk X.prog X.w X.K X.mg X.base (L2.CX X.prog X.w) k f fd ps (spOf c pm fr g)) (hr : Room k X.A) (hg : Gl X x) (hm : X.mg x = some (.ref f)) (hk : PySem.W.keepIn X.K (.ref f) = true) (hb : Binds X.K fd ps [])
    (ha : PA X (e :: es) (rA c W μ (pm.map rmArg) evs)) (hpm : (∀ m ∈ pm, m = .imm ∨ m = .bor) ∨ oneOwn pm = true) (how : ∀ ds, g ds ≠ .stuck → ownOk pm ds = true) (hlen : ∀ ρ ds, evs ρ = .ok ds → ds.length = pm.length) (hfr : m = .O → fr = true)
    (hdb : (x == ("__debug__" : PySem.Str)) = false) (he : starEach (e :: es) X.env = (false, eval e X.env) :: starEach es X.env) (hpl : (backTo pos (starEach es X.env)).any (·.1) = false) :
    PE X (.Call (.Name x p) (e :: es) [] pos) (rE c W μ m fun ρ => (evs ρ).bind g) := by
  refine (pe_callSD (E := WE W) Fn hr hg hm hk hb .nil (fun σ => passAt tk σ) ha hdb he hpl).weak ?_
  rintro σ H Q ⟨ρ, F, S, h⟩
  have h : RK c W σ (WD c m Q) F H ((evs ρ).bind g) := h
  refine ⟨ρ, F, S, ?_⟩
  cases q : evs ρ with
  | stuck => rw [q] at h; exact h
  | exc x r => rw [q] at h; exact h
  | ok ds =>
    rw [q] at h
    have h : RK c W σ (WD c m Q) F H (g ds) := h
    intro vs H1 F1 e1 r
    rw [List.append_nil]
    have hns : g ds ≠ .stuck := fun z => by rw [z] at h; exact h.elim
    -- the ground that the def is given
    obtain ⟨B, b1, b2, b3, b4, b5, b6⟩ : ∃ B, Same B H1 ∧ Same F1 B ∧ Args c B F1 H1 pm ds vs ∧ Apart pm vs ∧ Same H B ∧ (∀ a, B a ≠ none → B a = H1 a) := by
      rcases hpm with hpm | hpm
      · exact ⟨H1, Same.refl _, e1.sub, args_plain hpm r (hlen ρ ds q), apart_plain hpm, e1.same, fun _ _ => rfl⟩
      · obtain ⟨p, p1, p2, p3, p4⟩ := args_own hpm r (hlen ρ ds q) (how ds hns)
        have wn : ∀ a, a ≠ p → without H1 p a = H1 a := fun a ha => by unfold without; rw [if_neg ha]
        have wp : without H1 p p = none := by unfold without; rw [if_pos rfl]
        have nep : ∀ {a}, without H1 p a ≠ none → a ≠ p := fun {a} h z => h (by rw [z]; exact wp)
        refine ⟨without H1 p, fun a o z => ?_, fun a o z => ?_, p3, p4, fun a o z => ?_, fun a h => wn a (nep h)⟩
        · rw [wn a (nep (by rw [z]; simp))] at z; exact z
        · rw [wn a (fun y => by rw [y, p2] at z; cases z)]; exact e1.sub a o z
        · rw [wn a (fun y => by rw [y, p1] at z; cases z)]; exact e1.same a o z
    refine ⟨B, F1, ds, b1, b2, b3, b4, ?_⟩
    have ext : ∀ {H' F' : Hp}, Out B F1 H' F' → Ext H F H' F' := fun {H' F'} o => ⟨b5.trans o.same, o.sub, fun a ha => by
      have hB : B a ≠ none := by
        cases z : H a with
        | none => exact absurd z ha
        | some u => rw [b5 a u z]; simp
      rw [o.fr a hB, e1.fr a ha]⟩
    cases q2 : g ds with
    | stuck => exact absurd q2 hns
    | exc x r =>
      rw [q2] at h
      intro H' F' cls dx o xr
      exact h H' F' cls dx (ext o) xr
    | ok dd =>
      rw [q2] at h
      intro v H' F' o rr
      have hio : ioB pm = false := by
        rcases hpm with hpm | hpm
        · match pm, hpm with
          | [], _ => rfl
          | m :: _, h =>
            rcases h m List.mem_cons_self with z | z <;> subst z <;> rfl
        · match pm, hpm with
          | [], _ => rfl
          | .own :: _, _ => rfl
          | .imm :: _, _ => rfl
      unfold ResR at rr
      rw [hio] at rr
      have rr : Res c (rmOf fr) B F' H' dd v := rr
      exact want_told hfr h (ext o) (rr.weak b5)

/-! isinstance of a built-in class -/
def tyName : Nat → String
  | 200 => "int" | 201 => "bool" | 202 => "str" | 203 => "list" | 204 => "tuple" | _ => "dict"
theorem seqTyL {K : PySem.W.Frag} {H : Hp} {a : Addr} {vs : List V} (h : SqL K H a vs) : TyX K H (.ref a) (.type "list") := by
  rcases h with (h | ⟨o, h⟩) | ⟨o, its, n, hk, hc, _⟩
  · exact .base (.lst h)
  · exact .base (.frz h)
  · exact .kList hk hc
theorem seqTyT {K : PySem.W.Frag} {H : Hp} {a : Addr} {vs : List V} (h : SqT K H a vs) : TyX K H (.ref a) (.type "tuple") := by
  rcases h with (h | ⟨o, h⟩) | ⟨o, its, n, hk, hc, _⟩
  · exact .base (.tup h)
  · exact .fTuple h
  · exact .kTuple hk hc
theorem Rb.tyX {F H : Hp} {x : D} {v : V} (s : Same F H) (h : Rb c F H x v) (ht : tyOf x ≠ "") : TyX c.K H v (.type (tyOf x)) := by
  cases x <;> try (exact absurd rfl ht)
  · rw [h.non]; exact .base .non
  · rw [h.bl]; exact .base (.bl _)
  · rw [h.int]; exact .base (.int _)
  · rw [h.str]; exact .base (.str _)
  · obtain ⟨a, vs, rfl, h1, _⟩ := h.tup s; exact seqTyT h1
  · obtain ⟨a, vs, rfl, h1, _⟩ := h.lst s; exact seqTyL h1
  · obtain ⟨a, vs, rfl, h1, _⟩ := h.dct s; exact .base (.dK h1)
theorem kit_all (k : Nat) (hk : k = 200 ∨ k = 201 ∨ k = 202 ∨ k = 203 ∨ k = 204) (x : D) (ht : tyOf x ≠ "") : kitB (tyOf x) (tyName k) = some (isCl x k) := by
  rcases hk with rfl | rfl | rfl | rfl | rfl <;> cases x <;> first | exact absurd rfl ht | (show kitB _ _ = _; simp only [tyOf, tyName, isCl]; decide +kernel)
theorem b_isi (k : Nat) (hk : k = 200 ∨ k = 201 ∨ k = 202 ∨ k = 203 ∨ k = 204) (hK : X.K = c.K) :
    CallR X (.builtin "isinstance") (fun xs H Q => ∃ F dx x d, xs = [x, .ty (tyName k)] ∧ Same F H ∧ Rb c F H dx x ∧ isiD [k] dx = some d ∧ Want c m F H d Q) := by
  refine CallR.imp call_isi ?_
  rintro xs H Q ⟨F, dx, x, d, rfl, s, rx, e, w⟩
  unfold isiD at e
  have hk' : ([k].all fun k => decide (200 ≤ k) && decide (k < 210)) = true := by rcases hk with rfl | rfl | rfl | rfl | rfl <;> rfl
  rw [hk', Bool.true_and] at e
  split at e
  · cases e
  · rename_i ht
    cases e
    have ht : tyOf dx ≠ "" := fun z => ht (by simp [z])
    have w : Want c m F H (.bl (isCl dx k)) Q := by simpa using w
    exact ⟨x, _, _, _, _, rfl, .ty _, by rw [hK]; exact rx.tyX s ht, kit_ty (kit_all k hk dx ht), w.bl s⟩
end
end Mi

/-! Mi, part C3: what is walked; targets; comprehensions. -/
namespace Mi
open PySem L2 PySem.Spec PyProof.Rows

/-! ### slots stored -/
theorem getE_set : ∀ {ρ : Env} {i : Nat} {d : D}, i < ρ.length → getE (setE ρ i d) i = .ok d
  | [], _, _, h => by simp at h
  | _ :: _, 0, _, _ => rfl
  | _ :: r, i + 1, d, h => by
    show getE (setE r i d) i = _
    exact getE_set (by simpa using h)
theorem getE_set_ne : ∀ {ρ : Env} {i j : Nat} {d : D}, j ≠ i → getE (setE ρ i d) j = getE ρ j
  | [], _, _, _, _ => rfl
  | _ :: _, 0, 0, _, h => absurd rfl h
  | _ :: _, 0, _ + 1, _, _ => rfl
  | _ :: _, _ + 1, 0, _, _ => rfl
  | _ :: r, i + 1, j + 1, d, h => by
    show getE (setE r i d) j = getE r j
    exact getE_set_ne fun e => h (by rw [e])
theorem length_setE : ∀ (ρ : Env) (i : Nat) (d : D), (setE ρ i d).length = ρ.length
  | [], _, _ => rfl
  | _ :: _, 0, _ => rfl
  | _ :: r, i + 1, d => by
    show (setE r i d).length + 1 = r.length + 1
    rw [length_setE r i d]
/-- the slots is were stored, by values that stand in F -/
structure Upd (c : Cn) (F : Hp) (is : List Nat) (σ : L2.St) (ρ : Env) (σ' : L2.St) (ρ' : Env) : Prop where
  lenS : σ'.length = σ.length
  lenR : ρ'.length = ρ.length
  out : ∀ i, i ∉ is → σ'[i]? = σ[i]? ∧ getE ρ' i = getE ρ i
  at_ : ∀ i, i ∈ is → ∃ v d, σ'[i]? = some (some v) ∧ getE ρ' i = .ok d ∧ Rp c F d v
def msets (μ : List Md) (is : List Nat) (k : Md) : List Md := is.foldl (fun μ i => μ.set i k) μ
theorem msets_length : ∀ (is : List Nat) (μ : List Md) (k : Md), (msets μ is k).length = μ.length
  | [], _, _ => rfl
  | i :: is, μ, k => by
    show (msets (μ.set i k) is k).length = _
    rw [msets_length is, List.length_set]
theorem msets_out : ∀ {is : List Nat} {μ : List Md} {k : Md} {j : Nat}, j ∉ is → (msets μ is k)[j]? = μ[j]?
  | [], _, _, _, _ => rfl
  | i :: is, μ, k, j, h => by
    show (msets (μ.set i k) is k)[j]? = _
    rw [List.mem_cons, not_or] at h
    rw [msets_out h.2, List.getElem?_set_ne (Ne.symm h.1)]
theorem msets_in : ∀ {is : List Nat} {μ : List Md} {k : Md} {j : Nat} {x : Md}, j ∈ is → (msets μ is k)[j]? = some x → x = k
  | i :: is, μ, k, j, x, h, e => by
    have e : (msets (μ.set i k) is k)[j]? = some x := e
    by_cases hj : j ∈ is
    · exact msets_in hj e
    · rw [msets_out hj] at e
      have hi : j = i := by
        rcases List.mem_cons.mp h with h | h
        · exact h
        · exact absurd h hj
      subst hi
      have hl : j < (μ.set j k).length := (List.getElem?_eq_some_iff.mp e).1
      rw [List.getElem?_set_self (by simpa using hl)] at e
      exact (Option.some.inj e).symm
theorem SR.upd {c : Cn} {μ : List Md} {ρ ρ' : Env} {σ σ' : L2.St} {H F : Hp} {is : List Nat} (S : SR c μ ρ σ H F) (U : Upd c F is σ ρ σ' ρ') : SR c (msets μ is .imm) ρ' σ' H F := by
  have key : ∀ {i : Nat} {k : Md}, (msets μ is .imm)[i]? = some k → k ≠ .imm → i ∉ is ∧ μ[i]? = some k := fun {i k} e hk => by
    by_cases hi : i ∈ is
    · exact absurd (msets_in hi e) hk
    · exact ⟨hi, by rw [msets_out hi] at e; exact e⟩
  refine ⟨by rw [U.lenS, msets_length]; exact S.lenS, by rw [U.lenR, msets_length]; exact S.lenR, S.sub, S.base, S.fr, fun i hi => ?_, fun i hi => ?_, fun i hi => ?_, fun i j p hi hj e1 e2 => ?_, fun i p e hi => by
    obtain ⟨h1, hi⟩ := key hi (by decide)
    rw [(U.out i h1).1]; exact S.pin i p e hi⟩
  · by_cases h : i ∈ is
    · exact U.at_ i h
    · rw [msets_out h] at hi
      obtain ⟨v, d, h1, h2, h3⟩ := S.imm i hi
      obtain ⟨o1, o2⟩ := U.out i h
      exact ⟨v, d, by rw [o1]; exact h1, by rw [o2]; exact h2, h3⟩
  · obtain ⟨h, hi⟩ := key hi (by decide)
    obtain ⟨v, d, h1, h2, h3⟩ := S.bor i hi
    obtain ⟨o1, o2⟩ := U.out i h
    exact ⟨v, d, by rw [o1]; exact h1, by rw [o2]; exact h2, h3⟩
  · obtain ⟨h, hi⟩ := key hi (by decide)
    obtain ⟨p, d, h1, h2, h3⟩ := S.own i hi
    obtain ⟨o1, o2⟩ := U.out i h
    exact ⟨p, d, by rw [o1]; exact h1, by rw [o2]; exact h2, h3⟩
  · obtain ⟨h1, hi⟩ := key hi (by decide)
    obtain ⟨h2, hj⟩ := key hj (by decide)
    rw [(U.out i h1).1] at e1
    rw [(U.out j h2).1] at e2
    exact S.sep i j p hi hj e1 e2
/-- some slots forgotten -/
theorem SR.kill {c : Cn} {μ μ' : List Md} {ρ ρ' : Env} {σ σ' : L2.St} {H F : Hp} (S : SR c μ ρ σ H F) (hl : μ'.length = μ.length) (hs : σ'.length = σ.length) (hr : ρ'.length = ρ.length)
    (h : ∀ i k, μ'[i]? = some k → k ≠ .dead → μ[i]? = some k ∧ σ'[i]? = σ[i]? ∧ getE ρ' i = getE ρ i) : SR c μ' ρ' σ' H F := by
  refine ⟨by rw [hs, hl]; exact S.lenS, by rw [hr, hl]; exact S.lenR, S.sub, S.base, S.fr, fun i hi => ?_, fun i hi => ?_, fun i hi => ?_, fun i j p hi hj e1 e2 => ?_, fun i p e hi => by
    obtain ⟨h1, h2, _⟩ := h i _ hi (by decide)
    rw [h2]; exact S.pin i p e h1⟩
  · obtain ⟨h1, h2, h3⟩ := h i _ hi (by decide)
    rw [h2, h3]; exact S.imm i h1
  · obtain ⟨h1, h2, h3⟩ := h i _ hi (by decide)
    rw [h2, h3]; exact S.bor i h1
  · obtain ⟨h1, h2, h3⟩ := h i _ hi (by decide)
    rw [h2, h3]; exact S.own i h1
  · obtain ⟨h1, h2, _⟩ := h i _ hi (by decide)
    obtain ⟨h3, h4, _⟩ := h j _ hj (by decide)
    rw [h2] at e1
    rw [h4] at e2
    exact S.sep i j p h1 h3 e1 e2

/-! ### targets -/
def tgSlots : Tg → List Nat
  | .one i => [i]
  | .many is => is
/-- a target's reading stores what the evaluator stores -/
def TgS (c : Cn) (tg : Tg) (n : Nat) (g : TG) : Prop := ∀ (d : D) (v : V) (σ : L2.St) (H F : Hp) (ρ ρ' : Env) (Q : L2.St → Hp → Prop), Same F H → Rp c F d v → σ.length = n → ρ.length = n → bindT tg d ρ = .ok ρ' →
  (∀ σ', Upd c F (tgSlots tg) σ ρ σ' ρ' → (∀ vs : List Nat, (∀ i ∈ tgSlots tg, i ∈ vs) → wipe σ' vs = wipe σ vs) → Q σ' H) → g v σ H Q
theorem wipe_get : ∀ {vs : List Nat} {σ : L2.St} {j : Nat}, j ∉ vs → (wipe σ vs)[j]? = σ[j]?
  | [], _, _, _ => rfl
  | v :: vs, σ, j, h => by
    rw [List.mem_cons, not_or] at h
    unfold wipe
    rw [List.getElem?_set_ne (Ne.symm h.1), wipe_get h.2]
theorem wipe_at : ∀ {vs : List Nat} {σ : L2.St} {j : Nat}, j ∈ vs → j < σ.length → (wipe σ vs)[j]? = some none
  | v :: vs, σ, j, h, hl => by
    unfold wipe
    by_cases e : v = j
    · subst e
      rw [List.getElem?_set_self (by rw [wipe_length]; exact hl)]
    · rw [List.getElem?_set_ne e]
      exact wipe_at ((List.mem_cons.mp h).resolve_left fun q => e q.symm) hl
theorem wipe_same {σ σ' : L2.St} {vs : List Nat} (hl : σ'.length = σ.length) (h : ∀ j, j ∉ vs → σ'[j]? = σ[j]?) : wipe σ' vs = wipe σ vs := by
  apply List.ext_getElem?
  intro j
  by_cases hj : j ∈ vs
  · by_cases hlt : j < σ.length
    · rw [wipe_at hj (by omega), wipe_at hj hlt]
    · rw [List.getElem?_eq_none (by rw [wipe_length]; omega), List.getElem?_eq_none (by rw [wipe_length]; omega)]
  · rw [wipe_get hj, wipe_get hj]; exact h j hj
theorem tg_one {c : Cn} {i n : Nat} (hi : i < n) : TgS c (.one i) n (gName i) := by
  intro d v σ H F ρ ρ' Q s r hs hr e k
  cases e
  refine k _ ⟨by simp, length_setE _ _ _, fun j hj => ?_, fun j hj => ?_⟩ fun vs hv => ?_
  · have hj : j ≠ i := by simpa [tgSlots] using hj
    exact ⟨List.getElem?_set_ne (Ne.symm hj), getE_set_ne hj⟩
  · have hj : j = i := by simpa [tgSlots] using hj
    subst hj
    exact ⟨v, d, List.getElem?_set_self (by omega), getE_set (by omega), r⟩
  · refine wipe_same (by simp) fun j hj => List.getElem?_set_ne fun e => hj (hv j (by simp [tgSlots, e]))
def gMany : List Nat → TGs
  | [] => gNil
  | i :: is => gCons (gName i) (gMany is)
theorem many_ok {c : Cn} {n : Nat} : ∀ {is : List Nat}, (∀ i ∈ is, i < n) → is.Nodup → ∀ (ds : List D) (vs : List V) (σ : L2.St) (H F : Hp) (ρ ρ' : Env) (Q : L2.St → Hp → Prop), Rps c F ds vs → σ.length = n → ρ.length = n → bindMany is ds ρ = .ok ρ' →
    (∀ σ', Upd c F is σ ρ σ' ρ' → Q σ' H) → gMany is vs σ H Q
  | [], _, _, [], vs, σ, H, F, ρ, ρ', Q, r, hs, hr, e, k => by
    simp only [Rps] at r
    subst r
    cases e
    exact ⟨rfl, k σ ⟨rfl, rfl, fun _ _ => ⟨rfl, rfl⟩, fun i hi => by simp at hi⟩⟩
  | [], _, _, _ :: _, _, _, _, _, _, _, _, _, _, _, e, _ => by cases e
  | _ :: _, _, _, [], _, _, _, _, _, _, _, _, _, _, e, _ => by cases e
  | i :: is, hi, nd, d :: ds, vs, σ, H, F, ρ, ρ', Q, r, hs, hr, e, k => by
    simp only [Rps] at r
    obtain ⟨v, us, rfl, r1, r2⟩ := r
    have e : bindMany is ds (setE ρ i d) = .ok ρ' := e
    rw [List.nodup_cons] at nd
    have hin := hi i List.mem_cons_self
    refine ⟨v, us, rfl, many_ok (fun j hj => hi j (List.mem_cons_of_mem _ hj)) nd.2 ds us (σ.set i (some v)) H F (setE ρ i d) ρ' Q r2 (by simpa using hs) (by rw [length_setE]; exact hr) e fun σ' U => k σ' ⟨by rw [U.lenS]; simp, by rw [U.lenR, length_setE], fun j hj => ?_, fun j hj => ?_⟩⟩
    · rw [List.mem_cons, not_or] at hj
      obtain ⟨o1, o2⟩ := U.out j hj.2
      exact ⟨by rw [o1, List.getElem?_set_ne (Ne.symm hj.1)], by rw [o2, getE_set_ne hj.1]⟩
    · by_cases hj' : j ∈ is
      · exact U.at_ j hj'
      · have hji : j = i := (List.mem_cons.mp hj).resolve_right hj'
        subst hji
        obtain ⟨o1, o2⟩ := U.out j hj'
        exact ⟨v, d, by rw [o1, List.getElem?_set_self (by omega)], by rw [o2, getE_set (by omega)], r1⟩
theorem tg_many {c : Cn} {is : List Nat} {n : Nat} (hi : ∀ i ∈ is, i < n) (nd : is.Nodup) : TgS c (.many is) n (gTup c.K is.length (gMany is)) := by
  intro d v σ H F ρ ρ' Q s r hs hr e k
  cases d <;> simp only [bindT] at e <;> try contradiction
  simp only [Rp] at r
  obtain ⟨a, vs, rfl, h1, h2, _⟩ := r
  have hl : ∀ {is : List Nat} {ds : List D} {ρ ρ' : Env}, bindMany is ds ρ = .ok ρ' → ds.length = is.length := by
    intro is
    induction is with
    | nil => intro ds ρ ρ' e; cases ds with
      | nil => rfl
      | cons => cases e
    | cons i is ih => intro ds ρ ρ' e; cases ds with
      | nil => cases e
      | cons d ds => simp [ih (show bindMany is ds (setE ρ i d) = .ok ρ' from e)]
  refine ⟨a, vs, rfl, SqT.mono s h1, by rw [h2.length]; exact hl e, many_ok hi nd _ vs σ H F ρ ρ' Q h2 hs hr e fun σ' U => k σ' U fun ws hv => ?_⟩
  exact wipe_same U.lenS fun j hj => (U.out j fun q => hj (hv j q)).1

/-! ### what is walked -/
/-- the slots that hold what is walked stand as they stood -/
def Kept (src : List Nat) (ρ : Env) (σ : L2.St) (μ' : List Md) (ρ' : Env) (σ' : L2.St) : Prop := ∀ j ∈ src, μ'[j]? = some Md.own ∧ σ'[j]? = σ[j]? ∧ getE ρ' j = getE ρ j
/-- v stands for d, at every later state -/
def Stand (c : Cn) (src : List Nat) (ρ : Env) (σ : L2.St) (F1 : Hp) (d : D) (v : V) : Prop := ∀ (H F : Hp) (μ' : List Md) (ρ' : Env) (σ' : L2.St), SR c μ' ρ' σ' H F → Same F1 F → Kept src ρ σ μ' ρ' σ' → Rb c F H d v
/-- J yields what stands for ds, at every later state -/
def Walk (c : Cn) (src : List Nat) (ρ : Env) (σ : L2.St) (F1 : Hp) (J : It) (ds : List D) : Prop := ∀ (i : Nat) (H F : Hp) (μ' : List Md) (ρ' : Env) (σ' : L2.St), SR c μ' ρ' σ' H F → Same F1 F → Kept src ρ σ μ' ρ' σ' →
  (ds.length ≤ i → J.stop i H) ∧ ∀ d, ds[i]? = some d → J.go i H ∧ ∀ x H', J.yld i H x H' → ∃ F', Ext H F H' F' ∧ Rp c F' d x
def rI (c : Cn) (W : WX) (μ : List Md) (src : List Nat) (ev : Env → R (List D)) : TI := fun σ H R => ∃ ρ F, SR c μ ρ σ H F ∧
  RK c W σ (fun ds F H => ∀ J H1 F1, Ext H F H1 F1 → Walk c src ρ σ F1 J ds → R J H1) F H (ev ρ)
/-- a value that is to be walked -/
def rV (c : Cn) (W : WX) (μ : List Md) (src : List Nat) (ev : Env → R D) : TE := fun σ H Q => ∃ ρ F, SR c μ ρ σ H F ∧
  RK c W σ (fun d F H => ∀ v H1 F1, Ext H F H1 F1 → Stand c src ρ σ F1 d v → Q v H1) F H (ev ρ)
theorem PI.weak {X : Cx} {tg iter : Expr} {wi wi' : TI} (h : PI X tg iter wi) (k : ∀ σ H R, wi' σ H R → wi σ H R) : PI X tg iter wi' := ⟨fun pins s σ H R I q => h.run pins s σ H R I (k _ _ _ q)⟩
section
variable {X : Cx} {c : Cn} {W : WX} {μ : List Md} {pos : Pos} {a b d e tg : Expr} {es : List Expr} {eva evb evd : Env → R D} {evs : Env → R (List D)} {src src2 : List Nat} {ρ : Env} {σ : L2.St} {F1 H1 : Hp}
theorem v_val (ha : PE X e (rE c W μ .V eva)) : PE X e (rV c W μ [] eva) := by
  refine ha.weak ?_
  rintro σ H Q ⟨ρ, F, S, h⟩
  refine ⟨ρ, F, S, RK.imp h fun dx hx => ?_⟩
  intro v H' F' e' r
  exact hx v H' F' e' fun H F μ' ρ' σ' S k _ => .inl (Rp.mono k _ _ r)
theorem v_bor {i : Nat} {x : PySem.Str} (hN : X.N[i]? = some x) (hv : Vis X.env.scope x) (hd : (x == ("__debug__" : PySem.Str)) = false) (hcd : (x == ("__classdict__" : PySem.Str)) = false) (hμ : μ[i]? = some .bor) :
    PE X (.Name x pos) (rV c W μ [] fun ρ => getE ρ i) := by
  refine (pe_var (i := i) hN hv hd hcd).weak ?_
  rintro σ H Q ⟨ρ, F, S, h⟩
  obtain ⟨v, d, h1, h2, h3⟩ := S.bor i hμ
  have h : RK c W σ (fun d F H => ∀ v H1 F1, Ext H F H1 F1 → Stand c [] ρ σ F1 d v → Q v H1) F H (getE ρ i) := h
  rw [h2] at h
  exact ⟨v, h1, h v H F (Ext.refl S.sub) fun H' F' μ' ρ' σ' S' k _ => h3.mono k S'.base⟩
theorem v_own {i : Nat} {x : PySem.Str} (hN : X.N[i]? = some x) (hv : Vis X.env.scope x) (hd : (x == ("__debug__" : PySem.Str)) = false) (hcd : (x == ("__classdict__" : PySem.Str)) = false) (hμ : μ[i]? = some .own) :
    PE X (.Name x pos) (rV c W μ [i] fun ρ => getE ρ i) := by
  refine (pe_var (i := i) hN hv hd hcd).weak ?_
  rintro σ H Q ⟨ρ, F, S, h⟩
  obtain ⟨p, d, h1, h2, h3, h4, h5⟩ := S.own i hμ
  have h : RK c W σ (fun d F H => ∀ v H1 F1, Ext H F H1 F1 → Stand c [i] ρ σ F1 d v → Q v H1) F H (getE ρ i) := h
  rw [h2] at h
  refine ⟨_, h1, h _ H F (Ext.refl S.sub) fun H' F' μ' ρ' σ' S' k kk => ?_⟩
  obtain ⟨k1, k2, k3⟩ := kk i (by simp)
  obtain ⟨p', d', g1, g2, g3, _, _⟩ := S'.own i k1
  rw [k2, h1] at g1
  cases g1
  rw [k3, h2] at g2
  cases g2
  exact .inr ⟨p, rfl, g3⟩
theorem walk_lst {x : Addr} {ds : List D} (hq : Stand c src ρ σ F1 (.lst ds) (.ref x)) : Walk c src ρ σ F1 (Itl c.K x) ds := by
  intro i H F μ' ρ' σ' S k hs
  obtain ⟨x', us, e, h1, h2⟩ := (hq H F μ' ρ' σ' S k hs).lst S.sub
  cases e
  refine ⟨fun hi => ⟨us, h1, by rw [h2.length]; exact hi⟩, fun d hd => ?_⟩
  obtain ⟨v, e1, r⟩ := h2.get hd
  refine ⟨⟨us, v, h1, e1⟩, fun x H' hy => ?_⟩
  obtain ⟨rfl, hy⟩ := hy
  have := hy us h1
  rw [e1] at this
  cases this
  exact ⟨F, Ext.refl S.sub, r⟩
theorem walk_tup {x : Addr} {ds : List D} (hq : Stand c src ρ σ F1 (.tup ds) (.ref x)) : Walk c src ρ σ F1 (Itt c.K x) ds := by
  intro i H F μ' ρ' σ' S k hs
  obtain ⟨x', us, e, h1, h2⟩ := (hq H F μ' ρ' σ' S k hs).tup S.sub
  cases e
  refine ⟨fun hi => ⟨us, h1, by rw [h2.length]; exact hi⟩, fun d hd => ?_⟩
  obtain ⟨v, e1, r⟩ := h2.get hd
  refine ⟨⟨us, v, h1, e1⟩, fun x H' hy => ?_⟩
  obtain ⟨rfl, hy⟩ := hy
  have := hy us h1
  rw [e1] at this
  cases this
  exact ⟨F, Ext.refl S.sub, r⟩
theorem walk_str {x : PySem.Str} : Walk c src ρ σ F1 (Its x) (x.cps.toList.map fun c => D.str ⟨#[c]⟩) := by
  intro i H F μ' ρ' σ' S k hs
  refine ⟨fun hi => by simpa [Its] using hi, fun d hd => ?_⟩
  rw [List.getElem?_map, Option.map_eq_some_iff] at hd
  obtain ⟨z, h1, rfl⟩ := hd
  refine ⟨by
    have := (List.getElem?_eq_some_iff.mp h1).1
    simpa [Its] using this, fun v H' hy => ?_⟩
  obtain ⟨rfl, z', h2, rfl⟩ := hy
  have : z' = z := by
    have h1 : x.cps[i]? = some z := by simpa using h1
    rw [h1] at h2; cases h2; rfl
  subst this
  exact ⟨F, Ext.refl S.sub, by simp [Rp]⟩
theorem Kept.self {μ : List Md} (hs : ∀ j ∈ src, μ[j]? = some Md.own) : Kept src ρ σ μ ρ σ := fun j hj => ⟨hs j hj, rfl, rfl⟩
theorem Kept.app {μ' : List Md} {ρ' : Env} {σ' : L2.St} (k : Kept (src ++ src2) ρ σ μ' ρ' σ') : Kept src ρ σ μ' ρ' σ' ∧ Kept src2 ρ σ μ' ρ' σ' :=
  ⟨fun j hj => k j (List.mem_append_left _ hj), fun j hj => k j (List.mem_append_right _ hj)⟩
/-- a list, a tuple, a text by its value -/
theorem i_seq (hK : X.K = c.K) (hs : ∀ j ∈ src, μ[j]? = some Md.own) (ha : PE X e (rV c W μ src eva)) : PI X tg e (rI c W μ src fun ρ => (eva ρ).bind fun s => R.of (itemsOf s)) := by
  refine ⟨fun pins s σ H T I h => ?_⟩
  obtain ⟨ρ, F, S, h⟩ := h
  have h : RK c W σ (fun ds F H => ∀ J H1 F1, Ext H F H1 F1 → Walk c src ρ σ F1 J ds → T J H1) F H ((eva ρ).bind fun s => R.of (itemsOf s)) := h
  cases q : eva ρ with
  | stuck => rw [q] at h; exact h.elim
  | exc x r =>
    rw [q] at h
    refine (pi_list ha).run pins s σ H T I ⟨ρ, F, S, ?_⟩
    rw [q]; exact h
  | ok dd =>
    rw [q] at h
    obtain ⟨ds, e1, h⟩ := RK.of h
    cases dd <;> simp only [itemsOf] at e1 <;> try contradiction
    · cases e1
      refine (pi_str ha).run pins s σ H T I ⟨ρ, F, S, ?_⟩
      rw [q]
      intro v H1 F1 e2 st
      have r := st H1 F1 μ ρ σ (S.ext e2) (Same.refl _) (Kept.self hs)
      exact ⟨_, r.str, h _ H1 F1 e2 walk_str⟩
    · cases e1
      refine (pi_tup ha).run pins s σ H T I ⟨ρ, F, S, ?_⟩
      rw [q]
      intro v H1 F1 e2 st
      obtain ⟨x, us, rfl, h1, h2⟩ := (st H1 F1 μ ρ σ (S.ext e2) (Same.refl _) (Kept.self hs)).tup e2.sub
      rw [hK]
      exact ⟨x, rfl, ⟨us, h1⟩, h _ H1 F1 e2 (walk_tup st)⟩
    · cases e1
      refine (pi_list ha).run pins s σ H T I ⟨ρ, F, S, ?_⟩
      rw [q]
      intro v H1 F1 e2 st
      obtain ⟨x, us, rfl, h1, h2⟩ := (st H1 F1 μ ρ σ (S.ext e2) (Same.refl _) (Kept.self hs)).lst e2.sub
      rw [hK]
      exact ⟨x, rfl, ⟨us, h1⟩, h _ H1 F1 e2 (walk_lst st)⟩
/-- range -/
theorem walk_rng {lo hi : Int} : Walk c src ρ σ F1 (Itr lo (hi - lo).toNat) (rngL lo hi) := by
  intro i H F μ' ρ' σ' S k hs
  refine ⟨fun hi => by simpa [Itr, rngL] using hi, fun d hd => ?_⟩
  unfold rngL at hd
  rw [List.getElem?_map, Option.map_eq_some_iff] at hd
  obtain ⟨z, h1, rfl⟩ := hd
  have hz := List.getElem?_range (n := (hi - lo).toNat) (i := i)
  have hlt : i < (hi - lo).toNat := by
    have := (List.getElem?_eq_some_iff.mp h1).1
    simpa using this
  rw [hz hlt] at h1
  cases h1
  refine ⟨hlt, fun v H' hy => ?_⟩
  obtain ⟨rfl, rfl⟩ := hy
  exact ⟨F, Ext.refl S.sub, by simp [Rp]⟩
theorem walk_rngC {lo cc : Int} {n : Nat} : Walk c src ρ σ F1 (Itc lo cc n) ((List.range n).map fun (k : Nat) => D.int (lo + k * cc)) := by
  intro i H F μ' ρ' σ' S k hs
  refine ⟨fun hi => by simpa [Itc] using hi, fun d hd => ?_⟩
  rw [List.getElem?_map, Option.map_eq_some_iff] at hd
  obtain ⟨z, h1, rfl⟩ := hd
  have hlt : i < n := by
    have := (List.getElem?_eq_some_iff.mp h1).1
    simpa using this
  rw [List.getElem?_range hlt] at h1
  cases h1
  refine ⟨hlt, fun v H' hy => ?_⟩
  obtain ⟨rfl, rfl⟩ := hy
  exact ⟨F, Ext.refl S.sub, by simp [Rp]⟩
theorem big62_iff {i : Int} (h : big62 i = true) : -(2 ^ 62) ≤ i ∧ i < 2 ^ 62 := by
  unfold big62 at h
  rw [Bool.and_eq_true, decide_eq_true_eq, decide_eq_true_eq] at h
  exact ⟨by omega, by omega⟩
theorem rng_lst {es : List D} {d : D} (h : rngD es = some d) : ∃ ds, d = .lst ds := by
  unfold rngD at h
  split at h <;> first | (split at h <;> first | (cases h; exact ⟨_, rfl⟩) | cases h) | cases h
theorem i_rng1 {p : Pos} (hg : Gl X "range") (hm : X.mg "range" = none) (ha : PA X [a] (rA c W μ [.B] evs)) (hs : starEach [a] X.env = [(false, eval a X.env)])  (hlen : ∀ ρ ds, evs ρ = .ok ds → ds.length = 1) :
    PI X tg (.Call (.Name "range" p) [a] [] pos) (rI c W μ [] fun ρ => ((evs ρ).bind fun xs => R.of (rngD xs)).bind fun s => R.of (itemsOf s)) := by
  refine PI.weak (pi_range1 hg hm ha hs) ?_
  rintro σ H T ⟨ρ, F, S, h⟩
  have h : RK c W σ (fun ds F H => ∀ J H1 F1, Ext H F H1 F1 → Walk c [] ρ σ F1 J ds → T J H1) F H (((evs ρ).bind fun xs => R.of (rngD xs)).bind fun s => R.of (itemsOf s)) := h
  rw [R.bind_assoc] at h
  refine ⟨ρ, F, S, ?_⟩
  cases q : evs ρ with
  | stuck => rw [q] at h; exact h
  | exc x r => rw [q] at h; exact h
  | ok ds =>
    have hl := hlen ρ ds q
    rw [q] at h
    obtain ⟨dl, h1, h⟩ := RK.of (RK.bnd h)
    obtain ⟨xs, h2, h⟩ := RK.of h
    intro vs H1 F1 e1 r
    match ds, hl with
    | [x], _ =>
      cases x <;> simp only [rngD] at h1 <;> try contradiction
      rename_i j _
      split at h1
      · rename_i hj
        cases h1
        cases h2
        have r := r.allB (by simp)
        obtain ⟨v, rfl, r1⟩ := Rbs.one r
        obtain ⟨b1, b2⟩ := big62_iff hj
        refine ⟨j, by rw [r1.int], b1, b2, ?_⟩
        have := h (Itr 0 (j - 0).toNat) H1 F1 e1 walk_rng
        simpa using this
      · cases h1
theorem i_rng2 {p : Pos} (hg : Gl X "range") (hm : X.mg "range" = none) (ha : PA X [a, b] (rA c W μ [.B, .B] evs)) (hs : starEach [a, b] X.env = [(false, eval a X.env), (false, eval b X.env)]) (hs2 : starEach [b] X.env = [(false, eval b X.env)]) (hlen : ∀ ρ ds, evs ρ = .ok ds → ds.length = 2) :
    PI X tg (.Call (.Name "range" p) [a, b] [] pos) (rI c W μ [] fun ρ => ((evs ρ).bind fun xs => R.of (rngD xs)).bind fun s => R.of (itemsOf s)) := by
  refine PI.weak (pi_range2 hg hm ha hs hs2) ?_
  rintro σ H T ⟨ρ, F, S, h⟩
  have h : RK c W σ (fun ds F H => ∀ J H1 F1, Ext H F H1 F1 → Walk c [] ρ σ F1 J ds → T J H1) F H (((evs ρ).bind fun xs => R.of (rngD xs)).bind fun s => R.of (itemsOf s)) := h
  rw [R.bind_assoc] at h
  refine ⟨ρ, F, S, ?_⟩
  cases q : evs ρ with
  | stuck => rw [q] at h; exact h
  | exc x r => rw [q] at h; exact h
  | ok ds =>
    have hl := hlen ρ ds q
    rw [q] at h
    obtain ⟨dl, h1, h⟩ := RK.of (RK.bnd h)
    obtain ⟨xs, h2, h⟩ := RK.of h
    intro vs H1 F1 e1 r
    match ds, hl with
    | [x, y], _ =>
      cases x <;> cases y <;> simp only [rngD] at h1 <;> try contradiction
      rename_i j k _
      split at h1
      · rename_i hj
        rw [Bool.and_eq_true] at hj
        cases h1
        cases h2
        have r := r.allB (by simp)
        obtain ⟨v, u, rfl, r1, r2⟩ := Rbs.two r
        obtain ⟨b1, b2⟩ := big62_iff hj.1
        obtain ⟨b3, b4⟩ := big62_iff hj.2
        exact ⟨j, k, by rw [r1.int, r2.int], ⟨b1, b2, b3, b4⟩, h (Itr j (k - j).toNat) H1 F1 e1 walk_rng⟩
      · cases h1
/-- enumerate -/
theorem enmL_get : ∀ {xs : List D} {n i : Nat}, (enmL n xs)[i]? = (xs[i]?).map fun x => .tup [.int ((n + i : Nat) : Int), x]
  | [], _, _ => by simp [enmL]
  | x :: xs, n, 0 => by simp [enmL]
  | x :: xs, n, i + 1 => by
    simp only [enmL, List.getElem?_cons_succ]
    rw [enmL_get]
    have : n + 1 + i = n + (i + 1) := by omega
    rw [this]
theorem enmL_len : ∀ {xs : List D} {n : Nat}, (enmL n xs).length = xs.length
  | [], _ => rfl
  | x :: xs, n => by simp [enmL, enmL_len]
theorem Rp.pair {F H : Hp} {x y : D} {u v : V} {T : Addr} (hd : dictB [x, y] = false) (s : Same F H) (h : H T = none) (r1 : Rp c F x u) (r2 : Rp c F y v) : Ext H F (upd H T (.tup [u, v])) (upd F T (.tup [u, v])) ∧ Rp c (upd F T (.tup [u, v])) (.tup [x, y]) (.ref T) := by
  refine ⟨ext_new s h, ?_⟩
  simp only [Rp]
  have m := same_new (o := .tup [u, v]) (free_sub s h)
  exact ⟨T, _, rfl, SqT.of upd_same, .cons (Rp.mono m _ _ r1) (.cons (Rp.mono m _ _ r2) .nil), fun q => by rw [hd] at q; cases q⟩
theorem walk_enm {x : Addr} {ds : List D} (hq : Stand c src ρ σ F1 (.lst ds) (.ref x)) : Walk c src ρ σ F1 (Ite c.K x) (enmL 0 ds) := by
  intro i H F μ' ρ' σ' S k hs
  obtain ⟨x', us, e, h1, h2⟩ := (hq H F μ' ρ' σ' S k hs).lst S.sub
  cases e
  refine ⟨fun hi => ⟨us, h1, by rw [h2.length]; rwa [enmL_len] at hi⟩, fun d hd => ?_⟩
  rw [enmL_get, Option.map_eq_some_iff] at hd
  obtain ⟨z, hz, rfl⟩ := hd
  obtain ⟨v, e1, r⟩ := h2.get hz
  refine ⟨⟨us, v, h1, e1⟩, fun x H' hy => ?_⟩
  obtain ⟨T, y, rfl, hT, rfl, hy⟩ := hy
  have := hy us h1
  rw [e1] at this
  cases this
  rw [Nat.zero_add]
  exact ⟨_, Rp.pair rfl S.sub hT (by simp [Rp]) r⟩
theorem pa_one {t : TE} (h : PE X a t) (hs : starEach [a] X.env = [(false, eval a X.env)]) : PA X [a] (tCons t tNil) := pa_cons h pa_nil (by rw [hs]; rfl)
theorem i_enm {p tpos : Pos} {elts : List Expr} {kk : Nat} (hK : X.K = c.K) (hsr : ∀ j ∈ src, μ[j]? = some Md.own) (hg : Gl X "enumerate") (hm : X.mg "enumerate" = none) (ha : PE X a (rV c W μ src eva)) (hs : starEach [a] X.env = [(false, eval a X.env)]) :
    PI X (.Tuple elts kk tpos) (.Call (.Name "enumerate" p) [a] [] pos) (rI c W μ src fun ρ => ((eva ρ).bind fun s => (R.of (lstOf s)).bind fun xs => .ok (.lst (enmL 0 xs))).bind fun s => R.of (itemsOf s)) := by
  refine PI.weak (pi_enum hg hm (pa_one ha hs) hs) ?_
  rintro σ H T ⟨ρ, F, S, h⟩
  have h : RK c W σ (fun ds F H => ∀ J H1 F1, Ext H F H1 F1 → Walk c src ρ σ F1 J ds → T J H1) F H (((eva ρ).bind fun s => (R.of (lstOf s)).bind fun xs => .ok (.lst (enmL 0 xs))).bind fun s => R.of (itemsOf s)) := h
  rw [R.bind_assoc] at h
  refine ⟨ρ, F, S, ?_⟩
  cases q : eva ρ with
  | stuck => rw [q] at h; exact h
  | exc x r => rw [q] at h; exact h
  | ok ds =>
    rw [q] at h
    obtain ⟨xs, h1, h⟩ := RK.of (RK.bnd (RK.bnd h))
    cases ds <;> simp only [lstOf] at h1 <;> try contradiction
    cases h1
    intro v H1 F1 e1 st
    obtain ⟨x, us, rfl, h1, h2⟩ := (st H1 F1 μ ρ σ (S.ext e1) (Same.refl _) (Kept.self hsr)).lst e1.sub
    rw [hK]
    exact ⟨x, us, rfl, h1, h _ H1 F1 e1 (walk_enm st)⟩
/-- reversed -/
theorem i_rvs {p : Pos} (hK : X.K = c.K) (hsr : ∀ j ∈ src, μ[j]? = some Md.own) (hg : Gl X "reversed") (hm : X.mg "reversed" = none) (ha : PE X a (rV c W μ src eva)) (hs : starEach [a] X.env = [(false, eval a X.env)]) :
    PI X tg (.Call (.Name "reversed" p) [a] [] pos) (rI c W μ src fun ρ => ((eva ρ).bind fun s => (R.of (seqOf s)).bind fun xs => .ok (.lst xs.reverse)).bind fun s => R.of (itemsOf s)) := by
  refine PI.weak (RT.pi_revA hg hm ha hs) ?_
  rintro σ H T ⟨ρ, F, S, h⟩
  have h : RK c W σ (fun ds F H => ∀ J H1 F1, Ext H F H1 F1 → Walk c src ρ σ F1 J ds → T J H1) F H (((eva ρ).bind fun s => (R.of (seqOf s)).bind fun xs => .ok (.lst xs.reverse)).bind fun s => R.of (itemsOf s)) := h
  rw [R.bind_assoc] at h
  refine ⟨ρ, F, S, ?_⟩
  cases q : eva ρ with
  | stuck => rw [q] at h; exact h
  | exc x r => rw [q] at h; exact h
  | ok ds =>
    rw [q] at h
    obtain ⟨xs, h1, h⟩ := RK.of (RK.bnd (RK.bnd h))
    have rev_at : ∀ {xs : List D} {us : List V} {F : Hp} {i : Nat} {d : D}, Rps c F xs us → xs.reverse[i]? = some d → i < us.length ∧ ∃ v, us[us.length - 1 - i]? = some v ∧ Rp c F d v := fun {xs us F i d} r e => by
      have hi : i < xs.length := by simpa using (List.getElem?_eq_some_iff.mp e).1
      have hl := r.length
      rw [List.getElem?_reverse hi] at e
      refine ⟨by omega, ?_⟩
      rw [hl]
      exact r.get e
    intro v H1 F1 e1 st
    cases ds <;> simp only [seqOf] at h1 <;> try contradiction
    · cases h1
      obtain ⟨x, us, rfl, h1, h2⟩ := (st H1 F1 μ ρ σ (S.ext e1) (Same.refl _) (Kept.self hsr)).tup e1.sub
      rw [hK]
      refine ⟨x, us, rfl, .inr ⟨h1, h _ H1 F1 e1 ?_⟩⟩
      intro i H F μ' ρ' σ' S k hs
      obtain ⟨x', vs, e, g1, g2⟩ := (st H F μ' ρ' σ' S k hs).tup S.sub
      cases e
      have hl : us.length = vs.length := by rw [h2.length, g2.length]
      refine ⟨fun hi => by
        show us.length ≤ i
        rw [h2.length]; simpa using hi, fun d hd => ?_⟩
      obtain ⟨hi, v, e3, r⟩ := rev_at g2 hd
      rw [← hl] at hi e3
      refine ⟨⟨hi, vs, v, g1, e3⟩, fun x H' hy => ?_⟩
      obtain ⟨rfl, hy⟩ := hy
      have := hy vs g1
      rw [e3] at this
      cases this
      exact ⟨F, Ext.refl S.sub, r⟩
    · cases h1
      obtain ⟨x, us, rfl, h1, h2⟩ := (st H1 F1 μ ρ σ (S.ext e1) (Same.refl _) (Kept.self hsr)).lst e1.sub
      rw [hK]
      refine ⟨x, us, rfl, .inl ⟨h1, h _ H1 F1 e1 ?_⟩⟩
      intro i H F μ' ρ' σ' S k hs
      obtain ⟨x', vs, e, g1, g2⟩ := (st H F μ' ρ' σ' S k hs).lst S.sub
      cases e
      have hl : us.length = vs.length := by rw [h2.length, g2.length]
      refine ⟨fun hi => by
        show us.length ≤ i
        rw [h2.length]; simpa using hi, fun d hd => ?_⟩
      obtain ⟨hi, v, e3, r⟩ := rev_at g2 hd
      rw [← hl] at hi e3
      refine ⟨⟨hi, vs, v, g1, e3⟩, fun x H' hy => ?_⟩
      obtain ⟨rfl, hy⟩ := hy
      have := hy vs g1
      rw [e3] at this
      cases this
      exact ⟨F, Ext.refl S.sub, r⟩
/-- zip -/
theorem zipL_get : ∀ {xs ys : List D} {i : Nat} {d : D}, (zipL xs ys)[i]? = some d → ∃ x y, d = .tup [x, y] ∧ xs[i]? = some x ∧ ys[i]? = some y
  | [], _, _, _, h => by simp [zipL] at h
  | _ :: _, [], _, _, h => by simp [zipL] at h
  | x :: xs, y :: ys, 0, d, h => by
    simp [zipL] at h
    exact ⟨x, y, h.symm, rfl, rfl⟩
  | x :: xs, y :: ys, i + 1, d, h => by
    simp only [zipL, List.getElem?_cons_succ] at h ⊢
    exact zipL_get h
theorem zipL_len : ∀ {xs ys : List D}, (zipL xs ys).length = min xs.length ys.length
  | [], _ => by simp [zipL]
  | _ :: _, [] => by simp [zipL]
  | x :: xs, y :: ys => by
    simp only [zipL, List.length_cons, zipL_len]
    omega
theorem i_zip {p tpos : Pos} {elts : List Expr} {kk : Nat} (hK : X.K = c.K) (hsr : ∀ j ∈ src, μ[j]? = some Md.own) (hsr2 : ∀ j ∈ src2, μ[j]? = some Md.own) (hg : Gl X "zip") (hm : X.mg "zip" = none) (ha : PE X a (rV c W μ src eva)) (hb : PE X b (rV c W μ src2 evb))
    (hs : starEach [a, b] X.env = [(false, eval a X.env), (false, eval b X.env)]) (hs2 : starEach [b] X.env = [(false, eval b X.env)]) :
    PI X (.Tuple elts kk tpos) (.Call (.Name "zip" p) [a, b] [] pos) (rI c W μ (src ++ src2) fun ρ => ((eva ρ).bind fun s => (evb ρ).bind fun t => (R.of (zipD s t)).bind fun xs => .ok (.lst xs)).bind fun s => R.of (itemsOf s)) := by
  refine PI.weak (RZ.pi_zipA hg hm (pa_cons ha (pa_one hb hs2) (by rw [hs, hs2])) (by rw [hs, hs2]) (by rw [hs2]; rfl)) ?_
  rintro σ H T ⟨ρ, F, S, h⟩
  have h : RK c W σ (fun ds F H => ∀ J H1 F1, Ext H F H1 F1 → Walk c (src ++ src2) ρ σ F1 J ds → T J H1) F H (((eva ρ).bind fun s => (evb ρ).bind fun t => (R.of (zipD s t)).bind fun xs => .ok (.lst xs)).bind fun s => R.of (itemsOf s)) := h
  rw [R.bind_assoc] at h
  refine ⟨ρ, F, S, ?_⟩
  cases q : eva ρ with
  | stuck => rw [q] at h; exact h
  | exc x r => rw [q] at h; exact h
  | ok da =>
    rw [q, R.ok_bind, R.bind_assoc] at h
    intro v H1 F1 e1 st
    refine ⟨ρ, F1, S.ext e1, ?_⟩
    cases q2 : evb ρ with
    | stuck => rw [q2] at h; exact h
    | exc x r => rw [q2] at h; exact WantX.mono h e1
    | ok db =>
      rw [q2] at h
      obtain ⟨xs, h1, h⟩ := RK.of (RK.bnd (RK.bnd h))
      intro u H2 F2 e2 st2
      have S2 := (S.ext e1).ext e2
      have e12 := e1.trans e2
      have hF : Same F1 F2 := e2.frs e1.sub
      unfold zipD at h1
      have zs : ∀ {l : List D}, l.all (fun d => !dictB (partsD d)) = true → ∀ {i : Nat} {x y : D}, l[i]? = some (.tup [x, y]) → dictB [x, y] = false := fun {l} h {i x y} e => by
        rw [List.all_eq_true] at h
        simpa [partsD] using h _ (List.mem_of_getElem? e)
      split at h1
      rotate_left 2
      · cases h1
      all_goals (split at h1 <;> cases h1)
      all_goals rename_i hq
      · obtain ⟨x, us, rfl, h1, h2⟩ := (st H2 F2 μ ρ σ S2 hF (Kept.self hsr)).lst e2.sub
        obtain ⟨y, vs, rfl, h3, h4⟩ := (st2 H2 F2 μ ρ σ S2 (Same.refl _) (Kept.self hsr2)).lst e2.sub
        rw [hK]
        refine ⟨x, y, us, vs, rfl, .inl ⟨h1, h3, h _ H2 F2 e12 ?_⟩⟩
        intro i H F μ' ρ' σ' S k hs
        obtain ⟨k1, k2⟩ := hs.app
        obtain ⟨x', us', e, g1, g2⟩ := (st H F μ' ρ' σ' S (hF.trans k) k1).lst S.sub
        cases e
        obtain ⟨y', vs', e, g3, g4⟩ := (st2 H F μ' ρ' σ' S k k2).lst S.sub
        cases e
        refine ⟨fun hi => ⟨us', vs', g1, g3, by rw [zipL_len] at hi; rw [g2.length, g4.length]; omega⟩, fun d hd => ?_⟩
        obtain ⟨dx, dy, rfl, hx, hy⟩ := zipL_get hd
        obtain ⟨vx, ex, rx⟩ := g2.get hx
        obtain ⟨vy, ey, ry⟩ := g4.get hy
        refine ⟨⟨us', vs', vx, vy, g1, g3, ex, ey⟩, fun v H' hv => ?_⟩
        obtain ⟨T, x1, y1, rfl, hT, rfl, f1, f2⟩ := hv
        have f1 := f1 us' g1
        have f2 := f2 vs' g3
        rw [ex] at f1; rw [ey] at f2
        cases f1; cases f2
        exact ⟨_, Rp.pair (zs hq hd) S.sub hT rx ry⟩
      · obtain ⟨x, us, rfl, h1, h2⟩ := (st H2 F2 μ ρ σ S2 hF (Kept.self hsr)).tup e2.sub
        obtain ⟨y, vs, rfl, h3, h4⟩ := (st2 H2 F2 μ ρ σ S2 (Same.refl _) (Kept.self hsr2)).tup e2.sub
        rw [hK]
        refine ⟨x, y, us, vs, rfl, .inr ⟨h1, h3, h _ H2 F2 e12 ?_⟩⟩
        intro i H F μ' ρ' σ' S k hs
        obtain ⟨k1, k2⟩ := hs.app
        obtain ⟨x', us', e, g1, g2⟩ := (st H F μ' ρ' σ' S (hF.trans k) k1).tup S.sub
        cases e
        obtain ⟨y', vs', e, g3, g4⟩ := (st2 H F μ' ρ' σ' S k k2).tup S.sub
        cases e
        refine ⟨fun hi => ⟨us', vs', g1, g3, by rw [zipL_len] at hi; rw [g2.length, g4.length]; omega⟩, fun d hd => ?_⟩
        obtain ⟨dx, dy, rfl, hx, hy⟩ := zipL_get hd
        obtain ⟨vx, ex, rx⟩ := g2.get hx
        obtain ⟨vy, ey, ry⟩ := g4.get hy
        refine ⟨⟨us', vs', vx, vy, g1, g3, ex, ey⟩, fun v H' hv => ?_⟩
        obtain ⟨T, x1, y1, rfl, hT, rfl, f1, f2⟩ := hv
        have f1 := f1 us' g1
        have f2 := f2 vs' g3
        rw [ex] at f1; rw [ey] at f2
        cases f1; cases f2
        exact ⟨_, Rp.pair (zs hq hd) S.sub hT rx ry⟩

/-! ### list comprehensions -/
theorem upd_base {B H : Hp} {p : Addr} {o : HO} (s : Same B H) (h : B p = none) : Same B (upd H p o) := fun b x e => by
  rw [upd_ne (ne_of_none e h)]; exact s _ _ e
/-- an object that is nobody's, changed -/
theorem SR.poke {μ : List Md} {H F : Hp} {p : Addr} {o : HO} (S : SR c μ ρ σ H F) (hF : F p = none) (hB : c.B p = none) (ho : ∀ i : Nat, μ[i]? = some Md.own → σ[i]? ≠ some (some (.ref p))) : SR c μ ρ σ (L2.upd H p o) F := by
  refine ⟨S.lenS, S.lenR, upd_base S.sub hF, upd_base S.base hB, S.fr, S.imm, S.bor, fun i hi => ?_, S.sep, S.pin⟩
  obtain ⟨q, d, h1, h2, h3, h4, h5⟩ := S.own i hi
  have hq : q ≠ p := fun e => ho i hi (by rw [h1, e])
  refine ⟨q, d, h1, h2, ?_, h4, h5⟩
  cases d <;> simp only [Ob] at h3 ⊢
  · obtain ⟨vs, g1, g2⟩ := h3; exact ⟨vs, by rw [upd_ne hq]; exact g1, g2⟩
  · obtain ⟨vs, g1, g2⟩ := h3; exact ⟨vs, by rw [upd_ne hq]; exact g1, g2⟩
theorem Want.lstAt {m : RM} {F H H' F' : Hp} {ds : List D} {vs : List V} {p : Addr} {Q : VK} (w : Want c m F H (.lst ds) Q) (e : Ext H F H' F') (h : H p = none) (hF : F' p = none) (hp : H' p = some (.lst vs)) (r : Rps c F' ds vs) : Q (.ref p) H' := by
  cases m
  · exact w _ _ F' e (.inr ⟨p, rfl, vs, hp, r⟩)
  · refine w _ _ (upd F' p (.lst vs)) ⟨e.same, fun a o q => ?_, fun a ha => ?_⟩ ?_
    · by_cases ea : a = p
      · subst ea; rw [upd_same] at q; cases q; exact hp
      · rw [upd_ne ea] at q; exact e.sub _ _ q
    · rw [upd_ne (fun e => by rw [e] at ha; exact ha h)]; exact e.fr a ha
    · simp only [Res, Rp]; exact ⟨p, vs, rfl, SqL.of upd_same, Rps.mono (same_new hF) _ _ r⟩
  · exact w _ _ F' e (by simp only [Res, isOwn, if_true]; exact ⟨p, rfl, h, hF, vs, hp, r⟩)
def W0 : WX := fun _ _ _ _ => False
theorem noX_inv {α : Type} {x : R α} {a : α} (h : noX x = .ok a) : x = .ok a := by
  cases x <;> simp only [noX] at h <;> first | exact h | cases h
theorem bind_ok {α β : Type} {x : R α} {f : α → R β} {b : β} (h : x.bind f = .ok b) : ∃ a, x = .ok a ∧ f a = .ok b := by
  cases x with
  | ok a => exact ⟨a, rfl, h⟩
  | exc => cases h
  | stuck => cases h
theorem wipe_idem {vs : List Nat} : wipe (wipe σ vs) vs = wipe σ vs := wipe_same (wipe_length _ _) fun j hj => wipe_get hj
theorem SR.wipe {μ : List Md} {H F : Hp} {vs : List Nat} (S : SR c μ ρ σ H F) : SR c (msets μ vs .dead) ρ (wipe σ vs) H F := by
  refine S.kill (msets_length _ _ _) (wipe_length _ _) rfl fun i k hi hk => ?_
  by_cases h : i ∈ vs
  · exact absurd (msets_in h hi) hk
  · rw [msets_out h] at hi
    exact ⟨hi, wipe_get h, rfl⟩
/-- the turn of a comprehension, by the evaluator -/
def turnL (T : Tg) (evc : Env → R Bool) (eve : Env → R D) (ρ : Env) : D → R (Option D) := fun x => (bindT T x ρ).bind fun ρ' => (evc ρ').bind fun c => if c then (eve ρ').bind fun y => .ok (some y) else .ok none
theorem lc_rd {own : List (PySem.Str × Nat)} {g : TG} {T : Tg} {evi : Env → R (List D)} {evc : Env → R Bool} {eve : Env → R D} {m : RM}
    (hT : TgS c T μ.length g) (hsub : ∀ i ∈ tgSlots T, i ∈ own.map (·.2)) (hsrc : ∀ j ∈ src, μ[j]? = some Md.own ∧ j ∉ own.map (·.2)) : ∀ σ H Q,
    rE c W μ m (fun ρ => (evi ρ).bind fun xs => (noX (compM (turnL T evc eve ρ) xs)).bind fun ys => if ys.length ≤ lineN then .ok (.lst ys) else .stuck) σ H Q →
    tLc (rI c W μ src evi) g (rT c W0 (msets (msets μ (own.map (·.2)) .dead) (tgSlots T) .imm) evc) (rE c W0 (msets (msets μ (own.map (·.2)) .dead) (tgSlots T) .imm) .V eve) (own.map (·.2)) σ H Q := by
  rintro σ H Q ⟨ρ, F, S, h⟩
  refine ⟨ρ, F, S, RK.imp (RK.bnd h) fun xs hx => ?_⟩
  intro J H1 F1 e1 wk L hL
  have S1 := S.ext e1
  obtain ⟨total, q1, h2⟩ : ∃ ys, noX (compM (turnL T evc eve ρ) xs) = .ok ys ∧ RK c W σ (WD c m Q) F H (if ys.length ≤ lineN then R.ok (D.lst ys) else .stuck) := by
    cases q : noX (compM (turnL T evc eve ρ) xs) with
    | ok ys => rw [q] at hx; exact ⟨ys, rfl, hx⟩
    | exc x r =>
      exfalso
      cases q' : compM (turnL T evc eve ρ) xs <;> rw [q'] at q <;> cases q
    | stuck => rw [q] at hx; exact hx.elim
  have q1 := noX_inv q1
  obtain ⟨hlen, hw⟩ : total.length ≤ lineN ∧ WD c m Q (.lst total) F H := by
    split at h2
    · exact ⟨by assumption, h2⟩
    · exact h2.elim
  have hw : Want c m F1 H1 (.lst total) Q := WD.mono e1 hw
  have hF1 := free_sub e1.sub hL
  have hB : c.B L = none := S1.base.free hL
  have hown : ∀ i : Nat, μ[i]? = some Md.own → σ[i]? ≠ some (some (V.ref L)) := fun i hi e => by
    obtain ⟨p, d, g1, _, g3, _⟩ := S1.own i hi
    rw [e] at g1; cases g1
    exact g3.ne hL
  refine ⟨fun i n H => n = xs.length - i ∧ i ≤ xs.length ∧ ∃ F acc ys zs, SR c μ ρ σ H F ∧ Ext H1 F1 H F ∧ H L = some (.lst acc) ∧ F L = none ∧ Rps c F ys acc ∧ total = ys ++ zs ∧ compM (turnL T evc eve ρ) (xs.drop i) = .ok zs,
    ⟨xs.length, by simp, Nat.zero_le _, F1, [], [], total, S1.poke hF1 hB hown, ext_own e1.sub hL, upd_same, hF1, .nil, rfl, by simpa using q1⟩, ?_⟩
  rintro i n H2 ⟨rfl, hle, F2, acc, ys', zs, S2, e2, hLa, hF2, r2, rfl, q2⟩
  have wk2 := wk i H2 F2 μ ρ σ S2 (e2.frs e1.sub) fun j hj => ⟨(hsrc j hj).1, rfl, rfl⟩
  by_cases hlt : i < xs.length
  · obtain ⟨x, hx⟩ : ∃ x, xs[i]? = some x := ⟨_, List.getElem?_eq_getElem hlt⟩
    have hd : xs.drop i = x :: xs.drop (i + 1) := by
      rw [List.drop_eq_getElem_cons hlt]
      rw [List.getElem?_eq_getElem hlt] at hx
      cases hx; rfl
    rw [hd] at q2
    obtain ⟨go, yl⟩ := wk2.2 x hx
    obtain ⟨oy, t1, q3⟩ := bind_ok q2
    obtain ⟨zs', t2, q4⟩ := bind_ok q3
    obtain ⟨ρ', b1, t3⟩ := bind_ok t1
    obtain ⟨k, b2, t4⟩ := bind_ok t3
    refine .inr ⟨go, fun H => ∃ m', m' < xs.length - i ∧ m' = xs.length - (i + 1) ∧ i + 1 ≤ xs.length ∧ ∃ F acc ys us, SR c μ ρ σ H F ∧ Ext H1 F1 H F ∧ H L = some (.lst acc) ∧ F L = none ∧ Rps c F ys acc ∧ ys' ++ zs = ys ++ us ∧ compM (turnL T evc eve ρ) (xs.drop (i + 1)) = .ok us, fun H' p => ?_, fun v H' hy => ?_⟩
    · obtain ⟨m', h1, h2, h3, p⟩ := p
      exact ⟨m', h1, h2, h3, p⟩
    · obtain ⟨F3, e3, rx⟩ := yl v H' hy
      have S3 := S2.ext e3
      have SW := S3.wipe (vs := own.map (·.2))
      refine hT x v _ H' F3 ρ ρ' _ e3.sub rx (by rw [wipe_length]; exact S3.lenS) (by rw [S3.lenR]) b1 fun σ' U hw' => ?_
      have SB := SW.upd U
      refine ⟨by rw [hw' _ hsub, wipe_idem], ρ', F3, SB, ?_⟩
      rw [b2]
      intro H4 F4 e4
      have L4 : ∀ {H F H' F' : Hp} {acc : List V}, Ext H F H' F' → H L = some (.lst acc) → F L = none → H' L = some (.lst acc) ∧ F' L = none := fun e h hF => ⟨e.same _ _ h, e.keepNone (by rw [h]; simp) hF⟩
      obtain ⟨a3, f3⟩ := L4 e3 hLa hF2
      obtain ⟨a4, f4⟩ := L4 e4 a3 f3
      cases k with
      | false =>
        cases t4
        cases q4
        exact ⟨_, by omega, rfl, hlt, F4, acc, ys', _, S3.ext e4, (e2.trans e3).trans e4, a4, f4, Rps.mono ((e3.trans e4).frs S2.sub) _ _ r2, rfl, t2⟩
      | true =>
        obtain ⟨y, b3, t5⟩ := bind_ok t4
        cases t5
        cases q4
        refine ⟨ρ', F4, SB.ext e4, ?_⟩
        rw [b3]
        intro vy H5 F5 e5 ry
        obtain ⟨a5, f5⟩ := L4 e5 a4 f4
        have e15 := ((e2.trans e3).trans e4).trans e5
        have S5 := (S3.ext e4).ext e5
        refine ⟨acc, a5, ?_, ?_⟩
        · have := r2.length
          rw [← lineN_eq, this]
          simp only [List.length_append, List.length_cons] at hlen
          omega
        · refine ⟨_, by omega, rfl, hlt, F5, acc ++ [vy], ys' ++ [y], zs', S5.poke f5 hB hown, ⟨fun b o q => ?_, ?_, e15.fr⟩, upd_same, f5, (Rps.mono (((e3.trans e4).trans e5).frs S2.sub) _ _ r2).append (.cons ry .nil), by simp, t2⟩
          · rw [upd_ne (ne_of_none q hL)]; exact e15.same _ _ q
          · exact upd_base e15.sub f5
  · have e : i = xs.length := by omega
    subst e
    rw [List.drop_length] at q2
    cases q2
    refine .inl ⟨wk2.1 (Nat.le_refl _), ?_⟩
    rw [List.append_nil] at hw
    exact hw.lstAt e2 hL hF2 hLa r2
theorem e_lc {elt iter : Expr} {ifs : List Expr} {scope : Scope} {own : List (PySem.Str × Nat)} {g : TG} {T : Tg} {evi : Env → R (List D)} {evc : Env → R Bool} {eve : Env → R D} {m : RM} (hc : X.calm = true) (hN : X.N.Nodup)
    (hi : PI X tg iter (rI c W μ src evi)) (ok : BlkOk X.N X.env.scope scope own) (hT : TgS c T μ.length g) (hsub : ∀ i ∈ tgSlots T, i ∈ own.map (·.2)) (hsrc : ∀ j ∈ src, μ[j]? = some Md.own ∧ j ∉ own.map (·.2))
    (hg : ∀ (s : Shared) (H : Hp) (C : Addr) (cl : List (PySem.Str × Addr)) (fp : List Addr), PG (X.blk s H scope (compEnvC scope cl C X.env) fp) tg g)
    (ht : ∀ (s : Shared) (H : Hp) (C : Addr) (cl : List (PySem.Str × Addr)) (fp : List Addr), PTs (X.blk s H scope (compEnvC scope cl C X.env) fp) ifs (rT c W0 (msets (msets μ (own.map (·.2)) .dead) (tgSlots T) .imm) evc))
    (he : ∀ (s : Shared) (H : Hp) (C : Addr) (cl : List (PySem.Str × Addr)) (fp : List Addr), PE (X.blk s H scope (compEnvC scope cl C X.env) fp) elt (rE c W0 (msets (msets μ (own.map (·.2)) .dead) (tgSlots T) .imm) .V eve))
    (hs : ∀ x, foldedSetIterable iter X.env x = pure x) :
    PE X (.ListComp elt [⟨tg, iter, ifs, 0⟩] scope pos) (rE c W μ m fun ρ => (evi ρ).bind fun xs => (noX (compM (turnL T evc eve ρ) xs)).bind fun ys => if ys.length ≤ lineN then .ok (.lst ys) else .stuck) :=
  (pe_lc hc hN hi ok hg ht he hs).weak (lc_rd hT hsub hsrc)
end
end Mi

/-! Mi, part C4: tests; statements. -/
namespace Mi
open PySem L2 PySem.Spec PyProof.Rows

section
variable {X : Cx} {c : Cn} {m : RM} {W : WX} {μ : List Md} {pos : Pos} {a b d e : Expr} {eva evb evd : Env → R D}
/-! ### tests -/
/-- an evaluation whose end is a bool -/
def asB (ev : Env → R D) : Env → R Bool := fun ρ => (ev ρ).bind fun x => R.of (boolD x)
theorem t_of {t : TE} {ev : Env → R D} (ht : ∀ σ H Q, rE c W μ .B ev σ H Q → t σ H Q) : ∀ σ H Q, rT c W μ (asB ev) σ H Q → tB t σ H Q := by
  rintro σ H Q ⟨ρ, F, S, h⟩
  have h : RK c W σ (WT Q) F H ((ev ρ).bind fun x => R.of (boolD x)) := h
  refine ht σ H _ ⟨ρ, F, S, ?_⟩
  cases q : ev ρ with
  | stuck => rw [q] at h; exact h
  | exc x r => rw [q] at h; exact h
  | ok d =>
    rw [q] at h
    obtain ⟨k, e1, h⟩ := RK.of h
    obtain rfl := boolD_inv e1
    intro v H1 F1 e2 r
    have r : Rb c F1 H1 (.bl k) v := r
    exact ⟨k, r.bl, h H1 F1 e2⟩
theorem t_val (ha : PE X e (rE c W μ .B eva)) (he : ∀ whole, isTrue e X.env whole = (do let v ← whole; standAt e.pos; holding [v] (truthy v))) : PT X e (rT c W μ (asB eva)) :=
  (pt_val ha he).weak (t_of fun _ _ _ h => h)
theorem t_cmp {op : CmpOp} {g : D → D → Option D} (ho : Op2 X c .B (compareOp op) g) (ha : PE X a (rE c W μ .B eva)) (hb : PE X b (rE c W μ .B evb)) (hm : behindInMarks op b = false) :
    PT X (.Compare a [op] [b] pos) (rT c W μ (asB fun ρ => (eva ρ).bind fun x => (evb ρ).bind fun y => R.of (g x y))) := by
  refine (pt_cmpR ho ha hb hm).weak (t_of ?_)
  rintro σ H Q ⟨ρ, F, S, h⟩
  refine ⟨ρ, F, S, h.bnd.imp fun dx hx => ?_⟩
  intro vx H1 F1 e1 rx
  have hx := RK.mono (fun _ => WD.mono e1) hx e1
  refine ⟨ρ, F1, S.ext e1, hx.bnd.imp fun dy hy => ?_⟩
  intro vy H2 F2 e2 ry
  obtain ⟨z, e3, hz⟩ := (RK.mono (fun _ => WD.mono e2) hy e2).of
  exact ⟨F2, dx, dy, z, e2.sub, Rb.mono (e2.frs e1.sub) e2.same rx, ry, e3, hz⟩
theorem t_isN (ha : PE X a (rE c W μ .B eva)) {j p2} : PT X (.Compare a [.Is] [.Constant .none j p2] pos) (rT c W μ (asB fun ρ => (eva ρ).bind fun x => .ok (.bl (isNon x)))) := by
  refine (pt_cmpR op_isN ha pe_non (nomark _)).weak (t_of ?_)
  rintro σ H Q ⟨ρ, F, S, h⟩
  refine ⟨ρ, F, S, h.bnd.imp fun dx hx => ?_⟩
  intro vx H1 F1 e1 rx
  have hz : Want c .B F1 H1 (.bl _) Q := RK.mono (fun _ => WD.mono e1) hx e1
  exact ⟨rfl, by rw [Rb.none_iff rx]; exact hz.bl e1.sub⟩
theorem t_nisN (ha : PE X a (rE c W μ .B eva)) {j p2} : PT X (.Compare a [.IsNot] [.Constant .none j p2] pos) (rT c W μ (asB fun ρ => (eva ρ).bind fun x => .ok (.bl (!isNon x)))) := by
  refine (pt_cmpR op_notN ha pe_non (nomark _)).weak (t_of ?_)
  rintro σ H Q ⟨ρ, F, S, h⟩
  refine ⟨ρ, F, S, h.bnd.imp fun dx hx => ?_⟩
  intro vx H1 F1 e1 rx
  have hz : Want c .B F1 H1 (.bl _) Q := RK.mono (fun _ => WD.mono e1) hx e1
  exact ⟨rfl, by rw [Rb.none_iff rx]; exact hz.bl e1.sub⟩
theorem t_isB (ha : PE X a (rE c W μ .B eva)) {j p2} {b : Bool} : PT X (.Compare a [.Is] [.Constant (.bool b) j p2] pos) (rT c W μ (asB fun ρ => (eva ρ).bind fun x => (R.of (boolD x)).bind fun k => .ok (.bl (k == b)))) := by
  refine (pt_cmpR op_is_bl ha pe_bl (nomark _)).weak (t_of ?_)
  rintro σ H Q ⟨ρ, F, S, h⟩
  refine ⟨ρ, F, S, h.bnd.imp fun dx hx => ?_⟩
  intro vx H1 F1 e1 rx
  have hx := RK.mono (fun _ => WD.mono e1) hx e1
  obtain ⟨t, e3, hz⟩ := hx.bnd.of
  obtain rfl := boolD_inv e3
  have hz : Want c .B F1 H1 (.bl _) Q := hz
  exact ⟨t, b, rx.bl, rfl, by rw [← beq_dec]; exact hz.bl e1.sub⟩
theorem t_nisB (ha : PE X a (rE c W μ .B eva)) {j p2} {b : Bool} : PT X (.Compare a [.IsNot] [.Constant (.bool b) j p2] pos) (rT c W μ (asB fun ρ => (eva ρ).bind fun x => (R.of (boolD x)).bind fun k => .ok (.bl (!(k == b))))) := by
  refine (pt_cmpR op_isnot_bl ha pe_bl (nomark _)).weak (t_of ?_)
  rintro σ H Q ⟨ρ, F, S, h⟩
  refine ⟨ρ, F, S, h.bnd.imp fun dx hx => ?_⟩
  intro vx H1 F1 e1 rx
  have hx := RK.mono (fun _ => WD.mono e1) hx e1
  obtain ⟨t, e3, hz⟩ := hx.bnd.of
  obtain rfl := boolD_inv e3
  have hz : Want c .B F1 H1 (.bl _) Q := hz
  exact ⟨t, b, rx.bl, rfl, by rw [← beq_dec]; exact hz.bl e1.sub⟩
theorem t_chn {op op' : CmpOp} {g g' : D → D → Option D} (ho : Op2 X c .B (compareOp op) g) (ho' : Op2 X c .B (compareOp op') g') (ha : PE X a (rE c W μ .B eva)) (hb : PE X b (rE c W μ .B evb)) (hd : PE X d (rE c W μ .B evd))
    (hm : lastMarks [op, op'] [b, d] = false) :
    PT X (.Compare a [op, op'] [b, d] pos) (rT c W μ (asB fun ρ => (eva ρ).bind fun x => (evb ρ).bind fun y => (R.of (g x y)).bind fun t => (R.of (boolD t)).bind fun t => if t then (evd ρ).bind fun z => R.of (g' y z) else .ok (.bl false))) := by
  refine (pt_chain ho ho' ha hb hd hm).weak (t_of ?_)
  rintro σ H Q ⟨ρ, F, S, h⟩
  refine ⟨ρ, F, S, h.bnd.imp fun dx hx => ?_⟩
  intro vx H1 F1 e1 rx
  have hx := RK.mono (fun _ => WD.mono e1) hx e1
  refine ⟨ρ, F1, S.ext e1, hx.bnd.imp fun dy hy => ?_⟩
  intro vy H2 F2 e2 ry
  obtain ⟨z, e3, hz⟩ := (RK.mono (fun _ => WD.mono e2) hy e2).bnd.of
  obtain ⟨t, e4, hz⟩ := hz.bnd.of
  obtain rfl := boolD_inv e4
  refine ⟨F2, dx, dy, .bl t, e2.sub, Rb.mono (e2.frs e1.sub) e2.same rx, ry, e3, ?_⟩
  intro v3 H3 F3 e5 r3
  refine ⟨t, Rb.bl r3, ?_⟩
  have S3 := ((S.ext e1).ext e2).ext e5
  cases t with
  | false =>
    have hz : Want c .B F2 H2 (.bl false) Q := hz
    exact Want.bl (hz.mono e5) e5.sub
  | true =>
    have hz : RK c W σ (WD c .B Q) F2 H2 ((evd ρ).bind fun z => R.of (g' dy z)) := hz
    have hz := RK.mono (fun _ => WD.mono e5) hz e5
    refine ⟨ρ, F3, S3, hz.bnd.imp fun dw hw => ?_⟩
    intro vw H4 F4 e6 r4
    obtain ⟨u, e7, hu⟩ := (RK.mono (fun _ => WD.mono e6) hw e6).of
    exact ⟨F4, dy, dw, u, e6.sub, Rb.mono ((e5.trans e6).frs e2.sub) (e5.same.trans e6.same) ry, r4, e7, hu⟩
theorem t_not (ha : PT X a (rT c W μ (asB eva))) : PT X (.UnaryOp .Not a pos) (rT c W μ (asB fun ρ => (eva ρ).bind fun x => (R.of (boolD x)).bind fun b => .ok (.bl (!b)))) := by
  refine (pt_not ha).weak ?_
  rintro σ H Q ⟨ρ, F, S, h⟩
  refine ⟨ρ, F, S, ?_⟩
  have h : RK c W σ (WT Q) F H (((eva ρ).bind fun x => (R.of (boolD x)).bind fun b => .ok (.bl (!b))).bind fun x => R.of (boolD x)) := h
  show RK c W σ (WT fun k H' => Q (!k) H') F H ((eva ρ).bind fun x => R.of (boolD x))
  cases q : eva ρ with
  | stuck => rw [q] at h; exact h
  | exc x r => rw [q] at h; exact h
  | ok d =>
    rw [q] at h
    have h : RK c W σ (WT Q) F H (((R.of (boolD d)).bind fun b => .ok (.bl (!b))).bind fun x => R.of (boolD x)) := h
    show RK c W σ (WT fun k H' => Q (!k) H') F H (R.of (boolD d))
    cases q2 : boolD d with
    | none => rw [q2] at h; exact h
    | some k => rw [q2] at h; exact h
theorem t_and {rest : List Expr} (ha : PT X a (rT c W μ (asB eva))) (hb : PW X (.BoolOp .And (b :: rest) pos) (rT c W μ (asB evb))) :
    PW X (.BoolOp .And (a :: b :: rest) pos) (rT c W μ (asB fun ρ => (eva ρ).bind fun x => (R.of (boolD x)).bind fun k => if k then evb ρ else .ok (.bl false))) := by
  refine ⟨fun wh pins s σ H Q I h => (pw_and ha hb).run wh pins s σ H Q I ?_⟩
  obtain ⟨ρ, F, S, h⟩ := h
  refine ⟨ρ, F, S, ?_⟩
  have h : RK c W σ (WT Q) F H (((eva ρ).bind fun x => (R.of (boolD x)).bind fun k => if k then evb ρ else .ok (.bl false)).bind fun x => R.of (boolD x)) := h
  show RK c W σ _ F H ((eva ρ).bind fun x => R.of (boolD x))
  cases q : eva ρ with
  | stuck => rw [q] at h; exact h
  | exc x r => rw [q] at h; exact h
  | ok d =>
    rw [q] at h
    have h : RK c W σ (WT Q) F H (((R.of (boolD d)).bind fun k => if k then evb ρ else .ok (.bl false)).bind fun x => R.of (boolD x)) := h
    show RK c W σ _ F H (R.of (boolD d))
    cases q2 : boolD d with
    | none => rw [q2] at h; exact h
    | some k =>
      rw [q2] at h
      intro H1 F1 e1
      cases k with
      | true => exact ⟨ρ, F1, S.ext e1, RK.mono (fun _ => WT.mono e1) h e1⟩
      | false => exact h H1 F1 e1
theorem t_or {rest : List Expr} (ha : PT X a (rT c W μ (asB eva))) (hb : PW X (.BoolOp .Or (b :: rest) pos) (rT c W μ (asB evb))) :
    PW X (.BoolOp .Or (a :: b :: rest) pos) (rT c W μ (asB fun ρ => (eva ρ).bind fun x => (R.of (boolD x)).bind fun k => if k then .ok (.bl true) else evb ρ)) := by
  refine ⟨fun wh pins s σ H Q I h => (pw_or ha hb).run wh pins s σ H Q I ?_⟩
  obtain ⟨ρ, F, S, h⟩ := h
  refine ⟨ρ, F, S, ?_⟩
  have h : RK c W σ (WT Q) F H (((eva ρ).bind fun x => (R.of (boolD x)).bind fun k => if k then .ok (.bl true) else evb ρ).bind fun x => R.of (boolD x)) := h
  show RK c W σ _ F H ((eva ρ).bind fun x => R.of (boolD x))
  cases q : eva ρ with
  | stuck => rw [q] at h; exact h
  | exc x r => rw [q] at h; exact h
  | ok d =>
    rw [q] at h
    have h : RK c W σ (WT Q) F H (((R.of (boolD d)).bind fun k => if k then .ok (.bl true) else evb ρ).bind fun x => R.of (boolD x)) := h
    show RK c W σ _ F H (R.of (boolD d))
    cases q2 : boolD d with
    | none => rw [q2] at h; exact h
    | some k =>
      rw [q2] at h
      intro H1 F1 e1
      cases k with
      | false => exact ⟨ρ, F1, S.ext e1, RK.mono (fun _ => WT.mono e1) h e1⟩
      | true => exact h H1 F1 e1
end

/-! ### statements -/
/-- the ground: what stood at the entry stands -/
structure Bs (c : Cn) (H F : Hp) : Prop where
  base : Same c.B H
  sub : Same F H
  fr : ∀ a, c.B a ≠ none → F a = c.F0 a
theorem SR.bs {c : Cn} {μ : List Md} {ρ : Env} {σ : L2.St} {H F : Hp} (S : SR c μ ρ σ H F) : Bs c H F := ⟨S.base, S.sub, S.fr⟩
theorem Bs.ext {c : Cn} {H F H' F' : Hp} (S : Bs c H F) (e : Ext H F H' F') : Bs c H' F' := by
  refine ⟨S.base.trans e.same, e.sub, fun a ha => ?_⟩
  have : H a ≠ none := by
    cases q : c.B a with
    | none => exact absurd q ha
    | some o => rw [S.base a o q]; simp
  rw [e.fr a this, S.fr a ha]
/-- what a def tells at its end -/
def ResF (c : Cn) (fr : Bool) (F' H' : Hp) (d : D) (v : V) : Prop := match c.io with
  | none => Res c (rmOf fr) c.B F' H' d v
  | some (_, p) => ∃ r y, d = .tup [r, y] ∧ Rp c F' r v ∧ Ob c F' H' p y ∧ F' p = none
theorem ResF.of {c : Cn} {fr : Bool} {F' H' : Hp} {d : D} {v : V} (hio : c.io = none) (h : Res c (rmOf fr) c.B F' H' d v) : ResF c fr F' H' d v := by
  unfold ResF; rw [hio]; exact h
/-- what is wanted of a statement's flow: nx under μ', ct under μc; an exception with the slots ms forgotten -/
def FK (c : Cn) (W : WX) (μ : List Md) (μ' : Option (List Md)) (μc : List Md) (ms : List Nat) (fr : Bool) (ρ : Env) (E : Ends) (F : Hp) : FL → Prop
  | .nx ρ' => match μ' with
    | none => True
    | some μ' => ∀ σ' H' F', SR c μ' ρ' σ' H' F' → Same F F' → E.nx σ' H'
  | .rt d => ∀ v H' F', Bs c H' F' → ResF c fr F' H' d v → E.rt v H'
  | .ct ρ' => ∀ σ' H' F', SR c μc ρ' σ' H' F' → Same F F' → E.ct σ' H'
  | .exc x r => ∀ σ' H' F' cls dx, SR c (msets μ ms .dead) ρ σ' H' F' → Same F F' → Xr c x r cls dx H' → W cls dx σ' H'
  | .stuck => False
def rS (c : Cn) (W : WX) (μ : List Md) (μ' : Option (List Md)) (μc : List Md) (ms : List Nat) (fr : Bool) (ev : Env → FL) : TS := fun E σ H => ∃ ρ F, SR c μ ρ σ H F ∧ FK c W μ μ' μc ms fr ρ E F (ev ρ)
theorem _root_.L2.PS.weak {X : Cx} {e : Stmt} {t t' : TS} (h : PS X e t) (k : ∀ E σ H, t' E σ H → t E σ H) : PS X e t' := ⟨fun pins s σ H Q I q => h.run pins s σ H Q I (k _ _ _ q)⟩
theorem _root_.L2.PSs.weak {X : Cx} {e : List Stmt} {t t' : TS} (h : PSs X e t) (k : ∀ E σ H, t' E σ H → t E σ H) : PSs X e t' := ⟨fun pins s σ H Q I q => h.run pins s σ H Q I (k _ _ _ q)⟩
section
variable {X : Cx} {c : Cn} {m : RM} {W : WX} {μ : List Md} {μ' : Option (List Md)} {μc : List Md} {ms : List Nat} {fr : Bool} {pos px : Pos} {a b d e : Expr} {eva evb evd : Env → R D} {ρ : Env} {σ : L2.St} {H F H' F' : Hp} {i : Nat} {x : PySem.Str}
theorem SR.dead (S : SR c μ ρ σ H F) (is : List Nat) : SR c (msets μ is .dead) ρ σ H F := by
  refine S.kill (msets_length _ _ _) rfl rfl fun i k hi hk => ?_
  by_cases h : i ∈ is
  · exact absurd (msets_in h hi) hk
  · rw [msets_out h] at hi
    exact ⟨hi, rfl, rfl⟩
/-- the first step of a statement: an expression's value -/
theorem fk_e {E : Ends} {f : D → FL} {Q : VK} {r : R D} (S : SR c μ ρ σ H F) (h : FK c W μ μ' μc ms fr ρ E F (FL.of r f))
    (k : ∀ dd v H1 F1, r = .ok dd → Ext H F H1 F1 → Res c m H F1 H1 dd v → FK c W μ μ' μc ms fr ρ E F (f dd) → Q v H1) : RK c W σ (WD c m Q) F H r := by
  cases r with
  | stuck => exact h
  | exc x r =>
    intro H1 F1 cls dx e1 xr
    exact h σ H1 F1 cls dx ((S.ext e1).dead ms) (e1.frs S.sub) xr
  | ok dd =>
    intro v H1 F1 e1 rr
    exact k dd v H1 F1 rfl e1 rr h
theorem FK.of {E : Ends} {α : Type} {o : Option α} {f : α → FL} (h : FK c W μ μ' μc ms fr ρ E F (FL.of (R.of o) f)) : ∃ z, o = some z ∧ FK c W μ μ' μc ms fr ρ E F (f z) := by
  cases o with
  | none => exact h.elim
  | some z => exact ⟨z, rfl, h⟩
theorem Upd.one {v : V} {dd : D} (hi : i < σ.length) (hr : ρ.length = σ.length) (r : Rp c F dd v) : Upd c F [i] σ ρ (σ.set i (some v)) (setE ρ i dd) := by
  refine ⟨by simp, length_setE _ _ _, fun j hj => ?_, fun j hj => ?_⟩
  · have hj : j ≠ i := by simpa using hj
    exact ⟨List.getElem?_set_ne (Ne.symm hj), getE_set_ne hj⟩
  · have hj : j = i := by simpa using hj
    subst hj
    exact ⟨v, dd, List.getElem?_set_self (by omega), getE_set (by omega), r⟩
theorem SR.setV {v : V} {dd : D} (S : SR c μ ρ σ H F) (hi : i < μ.length) (r : Rp c F dd v) : SR c (μ.set i .imm) (setE ρ i dd) (σ.set i (some v)) H F :=
  S.upd (Upd.one (by rw [S.lenS]; exact hi) (by rw [S.lenS, S.lenR]) r)
theorem SR.setO {p : Addr} {dd : D} (S : SR c μ ρ σ H F) (hi : i < μ.length) (hO : Ob c F H p dd) (hB : c.B p = none) (hF : F p = none) (hne : ∀ j : Nat, j ≠ i → μ[j]? = some Md.own → σ[j]? ≠ some (some (.ref p))) (hio : ∀ q, c.io ≠ some (i, q)) :
    SR c (μ.set i .own) (setE ρ i dd) (σ.set i (some (.ref p))) H F := by
  have hs : i < σ.length := by rw [S.lenS]; exact hi
  have hr : i < ρ.length := by rw [S.lenR]; exact hi
  have key : ∀ {j : Nat} {k : Md}, (μ.set i .own)[j]? = some k → j ≠ i → μ[j]? = some k ∧ (σ.set i (some (.ref p)))[j]? = σ[j]? ∧ getE (setE ρ i dd) j = getE ρ j := fun {j k} e hj => by
    rw [List.getElem?_set_ne (Ne.symm hj)] at e
    exact ⟨e, List.getElem?_set_ne (Ne.symm hj), getE_set_ne hj⟩
  have at_ : ∀ {k : Md}, (μ.set i .own)[i]? = some k → k = .own := fun {k} e => by
    rw [List.getElem?_set_self (by omega)] at e
    exact (Option.some.inj e).symm
  refine ⟨by simp [S.lenS], by rw [length_setE, S.lenR]; simp, S.sub, S.base, S.fr, fun j hj => ?_, fun j hj => ?_, fun j hj => ?_, fun j k q h1 h2 e1 e2 => ?_, fun j q e hj => by
    have hji : j ≠ i := fun z => by subst z; exact hio q e
    obtain ⟨h1, h2, _⟩ := key hj hji
    rw [h2]; exact S.pin j q e h1⟩
  · have hji : j ≠ i := fun e => by subst e; cases at_ hj
    obtain ⟨h1, h2, h3⟩ := key hj hji
    rw [h2, h3]; exact S.imm j h1
  · have hji : j ≠ i := fun e => by subst e; cases at_ hj
    obtain ⟨h1, h2, h3⟩ := key hj hji
    rw [h2, h3]; exact S.bor j h1
  · by_cases hji : j = i
    · subst hji
      exact ⟨p, dd, List.getElem?_set_self hs, getE_set hr, hO, hB, hF⟩
    · obtain ⟨h1, h2, h3⟩ := key hj hji
      rw [h2, h3]; exact S.own j h1
  · by_cases hji : j = i
    · by_cases hki : k = i
      · rw [hji, hki]
      · subst hji
        obtain ⟨g1, g2, _⟩ := key h2 hki
        rw [List.getElem?_set_self hs] at e1
        cases e1
        rw [g2] at e2
        exact absurd e2 (hne k hki g1)
    · by_cases hki : k = i
      · subst hki
        obtain ⟨g1, g2, _⟩ := key h1 hji
        rw [List.getElem?_set_self hs] at e2
        cases e2
        rw [g2] at e1
        exact absurd e1 (hne j hji g1)
      · obtain ⟨g1, g2, _⟩ := key h1 hji
        obtain ⟨g3, g4, _⟩ := key h2 hki
        rw [g2] at e1
        rw [g4] at e2
        exact S.sep j k q g1 g3 e1 e2
/-- one's own thing, changed in place -/
theorem SR.chg {p : Addr} {dd : D} {o : HO} (S : SR c μ ρ σ H F) (hμ : μ[i]? = some .own) (hp : σ[i]? = some (some (.ref p))) (hO : Ob c F (L2.upd H p o) p dd) : SR c μ (setE ρ i dd) σ (L2.upd H p o) F := by
  obtain ⟨q, d0, h1, h2, h3, h4, h5⟩ := S.own i hμ
  rw [hp] at h1; cases h1
  have hr : i < ρ.length := by rw [S.lenR]; exact (List.getElem?_eq_some_iff.mp hμ).1
  have ne : ∀ {j : Nat} {k : Md}, μ[j]? = some k → k ≠ .own → j ≠ i := fun {j k} e hk hj => by subst hj; rw [hμ] at e; cases e; exact hk rfl
  refine ⟨S.lenS, by rw [length_setE]; exact S.lenR, upd_base S.sub h5, upd_base S.base h4, S.fr, fun j hj => ?_, fun j hj => ?_, fun j hj => ?_, S.sep, S.pin⟩
  · rw [getE_set_ne (ne hj (by decide))]; exact S.imm j hj
  · rw [getE_set_ne (ne hj (by decide))]; exact S.bor j hj
  · by_cases hji : j = i
    · subst hji
      exact ⟨p, dd, hp, getE_set hr, hO, h4, h5⟩
    · obtain ⟨q, d1, g1, g2, g3, g4, g5⟩ := S.own j hj
      have hq : q ≠ p := fun e => hji (S.sep j i p hj hμ (by rw [g1, e]) hp)
      rw [getE_set_ne hji]
      refine ⟨q, d1, g1, g2, ?_, g4, g5⟩
      cases d1 <;> simp only [Ob] at g3 ⊢
      · obtain ⟨vs, k1, k2⟩ := g3; exact ⟨vs, by rw [upd_ne hq]; exact k1, k2⟩
      · obtain ⟨vs, k1, k2⟩ := g3; exact ⟨vs, by rw [upd_ne hq]; exact k1, k2⟩
/-- frozen from here on -/
theorem SR.frz (S : SR c μ ρ σ H F) (hμ : μ[i]? = some .own) : ∃ F', SR c (μ.set i .imm) ρ σ H F' ∧ Same F F' := by
  obtain ⟨p, d, h1, h2, h3, h4, h5⟩ := S.own i hμ
  have fin : ∀ o : HO, H p = some o → Rp c (L2.upd F p o) d (.ref p) → ∃ F', SR c (μ.set i .imm) ρ σ H F' ∧ Same F F' := fun o ho hR => by
    have sF : Same F (L2.upd F p o) := same_new h5
    have hi : i < μ.length := (List.getElem?_eq_some_iff.mp hμ).1
    have key : ∀ {j : Nat} {k : Md}, (μ.set i .imm)[j]? = some k → j ≠ i → μ[j]? = some k := fun {j k} e hj => by
      rw [List.getElem?_set_ne (Ne.symm hj)] at e; exact e
    have at_ : ∀ {k : Md}, (μ.set i .imm)[i]? = some k → k = .imm := fun {k} e => by
      rw [List.getElem?_set_self (by omega)] at e
      exact (Option.some.inj e).symm
    refine ⟨L2.upd F p o, ⟨by simp [S.lenS], by simp [S.lenR], fun b x e => ?_, S.base, fun b hb => ?_, fun j hj => ?_, fun j hj => ?_, fun j hj => ?_, fun j k q g1 g2 e1 e2 => ?_, fun j q e hj => by
      have hji : j ≠ i := fun z => by subst z; cases at_ hj
      exact S.pin j q e (key hj hji)⟩, sF⟩
    · by_cases eb : b = p
      · subst eb; rw [upd_same] at e; cases e; exact ho
      · rw [upd_ne eb] at e; exact S.sub _ _ e
    · rw [upd_ne (fun e => by rw [e] at hb; exact hb h4)]; exact S.fr b hb
    · by_cases hji : j = i
      · subst hji; exact ⟨_, d, h1, h2, hR⟩
      · obtain ⟨v, d1, g1, g2, g3⟩ := S.imm j (key hj hji)
        exact ⟨v, d1, g1, g2, Rp.mono sF _ _ g3⟩
    · have hji : j ≠ i := fun e => by subst e; cases at_ hj
      obtain ⟨v, d1, g1, g2, g3⟩ := S.bor j (key hj hji)
      exact ⟨v, d1, g1, g2, g3.mono sF (Same.refl _)⟩
    · have hji : j ≠ i := fun e => by subst e; cases at_ hj
      obtain ⟨q, d1, g1, g2, g3, g4, g5⟩ := S.own j (key hj hji)
      have hq : q ≠ p := fun e => hji (S.sep j i p (key hj hji) hμ (by rw [g1, e]) h1)
      exact ⟨q, d1, g1, g2, g3.mono sF (Same.refl _), g4, by rw [upd_ne hq]; exact g5⟩
    · have hji : j ≠ i := fun e => by subst e; cases at_ g1
      have hki : k ≠ i := fun e => by subst e; cases at_ g2
      exact S.sep j k q (key g1 hji) (key g2 hki) e1 e2
  cases d <;> simp only [Ob] at h3
  · obtain ⟨vs, k1, k2⟩ := h3
    refine fin _ k1 ?_
    simp only [Rp]
    exact ⟨p, vs, rfl, SqL.of upd_same, Rps.mono (same_new h5) _ _ k2⟩
  · obtain ⟨vs, k1, k2⟩ := h3
    refine fin _ k1 ?_
    simp only [Rp]
    exact ⟨p, vs, rfl, upd_same, Rpk.mono (same_new h5) _ _ k2⟩
/-- name = e -/
theorem SR.lt {k : Md} (S : SR c μ ρ σ H F) (h : μ[i]? = some k) : i < μ.length := (List.getElem?_eq_some_iff.mp h).1
def evSet (i : Nat) (ev : Env → R D) : Env → FL := fun ρ => FL.of (ev ρ) fun d => .nx (setE ρ i d)
theorem set_rd (hi : i < μ.length) : ∀ E σ H, rS c W μ (some (μ.set i .imm)) μc ms fr (evSet i eva) E σ H → tAsg (rE c W μ .V eva) (gName i) E σ H := by
  rintro E σ H ⟨ρ, F, S, h⟩
  refine ⟨ρ, F, S, fk_e S h fun dd v H1 F1 _ e1 r k => ?_⟩
  exact k _ H1 F1 ((S.ext e1).setV hi r) (e1.frs S.sub)
def evSetO (i : Nat) (ev : Env → R D) : Env → FL := fun ρ => FL.of (ev ρ) fun d => if isOwn d then .nx (setE ρ i d) else .stuck
theorem setO_rd (hi : i < μ.length) (hio : ∀ q, c.io ≠ some (i, q)) : ∀ E σ H, rS c W μ (some (μ.set i .own)) μc ms fr (evSetO i eva) E σ H → tAsg (rE c W μ .O eva) (gName i) E σ H := by
  rintro E σ H ⟨ρ, F, S, h⟩
  refine ⟨ρ, F, S, fk_e S h fun dd v H1 F1 _ e1 r k => ?_⟩
  split at k
  · rename_i hd
    simp only [Res, hd, if_true] at r
    obtain ⟨p, rfl, n1, n2, hO⟩ := r
    refine k _ H1 F1 ((S.ext e1).setO hi hO (S.base.free n1) n2 (fun j hj hm he => ?_) hio) (e1.frs S.sub)
    obtain ⟨q, d1, g1, _, g3, _⟩ := S.own j hm
    rw [he] at g1; cases g1
    exact g3.ne n1
  · exact k.elim
theorem s_set {y : PySem.Str} {pn : Pos} (hN : X.N.Nodup) (hi : X.N[i]? = some y) (hx : Loc X.env.scope y) (hf : X.env.scope.names.lookup y = some .local ∨ X.fn y = true) (hl : i < μ.length) (ha : PE X e (rE c W μ .V eva)) (hs : swapsWith e (some (.Name y pn)) pos.line X.env = pure false) :
    PS X (.Assign [.Name y pn] e pos) (rS c W μ (some (μ.set i .imm)) μc ms fr (evSet i eva)) := (ps_set hN hi hx ha hs hf.symm).weak (set_rd hl)
theorem s_setO (hio : ∀ q, c.io ≠ some (i, q)) {y : PySem.Str} {pn : Pos} (hN : X.N.Nodup) (hi : X.N[i]? = some y) (hx : Loc X.env.scope y) (hf : X.env.scope.names.lookup y = some .local ∨ X.fn y = true) (hl : i < μ.length) (ha : PE X e (rE c W μ .O eva)) (hs : swapsWith e (some (.Name y pn)) pos.line X.env = pure false) :
    PS X (.Assign [.Name y pn] e pos) (rS c W μ (some (μ.set i .own)) μc ms fr (evSetO i eva)) := (ps_set hN hi hx ha hs hf.symm).weak (setO_rd hl hio)
/-- a, b = e -/
def evSetT (is : List Nat) (ev : Env → R D) : Env → FL := fun ρ => FL.of (ev ρ) fun d => FL.of (R.of (tupOf d)) fun ds => FL.of (bindMany is ds ρ) fun ρ' => .nx ρ'
theorem setT_rd {is : List Nat} (hi : ∀ i ∈ is, i < μ.length) (nd : is.Nodup) : ∀ E σ H, rS c W μ (some (msets μ is .imm)) μc ms fr (evSetT is eva) E σ H → tAsg (rE c W μ .V eva) (gTup c.K is.length (gMany is)) E σ H := by
  rintro E σ H ⟨ρ, F, S, h⟩
  refine ⟨ρ, F, S, fk_e S h fun dd v H1 F1 _ e1 r k => ?_⟩
  obtain ⟨ds, q1, k'⟩ := FK.of k
  cases dd <;> simp only [tupOf] at q1 <;> try contradiction
  cases q1
  have k : FK c W μ (some (msets μ is .imm)) μc ms fr ρ E F (FL.of (bindMany is ds ρ) fun ρ' => .nx ρ') := k'
  have S1 := S.ext e1
  cases q2 : bindMany is ds ρ with
  | stuck => rw [q2] at k; exact k.elim
  | exc x r =>
    exfalso
    have : ∀ (is : List Nat) (ds : List D) (ρ : Env) (x : Nat) (r : Int), bindMany is ds ρ ≠ .exc x r := by
      intro is
      induction is with
      | nil => intro ds ρ x r; cases ds <;> exact fun h => by cases h
      | cons i is ih => intro ds ρ x r; cases ds with
        | nil => exact fun h => by cases h
        | cons d ds => exact ih ds _ x r
    exact this _ _ _ _ _ q2
  | ok ρ' =>
    rw [q2] at k
    refine tg_many hi nd (.tup ds) v σ H1 F1 ρ ρ' _ e1.sub r S.lenS S.lenR q2 fun σ' U _ => ?_
    exact k σ' H1 F1 (S1.upd U) (e1.frs S.sub)
/-- what is told by an expression dropped -/
def evX (ev : Env → R D) : Env → FL := fun ρ => FL.of (ev ρ) fun _ => .nx ρ
theorem s_expr (ha : PE X e (rE c W μ .B eva)) (hs : swapsWith e none pos.line X.env = pure false) : PS X (.Expr e pos) (rS c W μ (some μ) μc ms fr (evX eva)) := by
  refine (ps_expr ha hs).weak ?_
  rintro E σ H ⟨ρ, F, S, h⟩
  exact ⟨ρ, F, S, fk_e S h fun dd v H1 F1 _ e1 r k => k σ H1 F1 (S.ext e1) (e1.frs S.sub)⟩
def evRet (ev : Env → R D) : Env → FL := fun ρ => FL.of (ev ρ) fun d => .rt d
theorem s_ret (hio : c.io = none) (ha : PE X e (rE c W μ (rmOf fr) eva)) : PS X (.Return (some e) pos) (rS c W μ none μc ms fr (evRet eva)) := by
  refine (ps_ret ha).weak ?_
  rintro E σ H ⟨ρ, F, S, h⟩
  exact ⟨ρ, F, S, fk_e S h fun dd v H1 F1 _ e1 r k => k v H1 F1 (S.bs.ext e1) (.of hio (r.weak S.base))⟩
theorem s_retN (hio : c.io = none) : PS X (.Return none pos) (rS c W μ none μc ms fr (evRet fun _ => .ok .non)) := by
  refine ps_retN.weak ?_
  rintro E σ H ⟨ρ, F, S, h⟩
  exact h .non H F S.bs (.of hio (Res.of_rp (by simp [Rp]) rfl))
/-- an own list in a slot, told -/
theorem s_retO (hio : c.io = none) {y : PySem.Str} {pn : Pos} (hN : X.N[i]? = some y) (hv : Vis X.env.scope y) (hd : (y == ("__debug__" : PySem.Str)) = false) (hcd : (y == ("__classdict__" : PySem.Str)) = false) (hμ : μ[i]? = some .own) :
    PS X (.Return (some (.Name y pn)) pos) (rS c W μ none μc ms fr (evRet fun ρ => getE ρ i)) := by
  refine (ps_ret (pe_var (i := i) hN hv hd hcd)).weak ?_
  rintro E σ H ⟨ρ, F, S, h⟩
  obtain ⟨p, d, h1, h2, h3, h4, h5⟩ := S.own i hμ
  have h : FK c W μ none μc ms fr ρ E F (FL.of (getE ρ i) fun d => .rt d) := h
  rw [h2] at h
  refine ⟨_, h1, ?_⟩
  have h : ∀ v H' F', Bs c H' F' → Res c (rmOf fr) c.B F' H' d v → E.rt v H' := fun v H' F' b r => h v H' F' b (.of hio r)
  cases fr with
  | true =>
    refine h _ H F S.bs ?_
    have hw : isOwn d = true := by cases d <;> first | rfl | exact h3.elim
    simp only [rmOf, Res, hw, if_true]
    exact ⟨p, rfl, h4, h5, h3⟩
  | false =>
    have fin : ∀ o : HO, H p = some o → Rp c (L2.upd F p o) d (.ref p) → E.rt (.ref p) H := fun o ho hR => by
      refine h _ H (L2.upd F p o) ⟨S.base, fun b x e => ?_, fun b hb => ?_⟩ hR
      · by_cases eb : b = p
        · subst eb; rw [upd_same] at e; cases e; exact ho
        · rw [upd_ne eb] at e; exact S.sub _ _ e
      · rw [upd_ne (fun e => by rw [e] at hb; exact hb h4)]; exact S.fr b hb
    cases d <;> simp only [Ob] at h3
    · obtain ⟨vs, k1, k2⟩ := h3
      refine fin _ k1 ?_
      simp only [Rp]
      exact ⟨p, vs, rfl, SqL.of upd_same, Rps.mono (same_new h5) _ _ k2⟩
    · obtain ⟨vs, k1, k2⟩ := h3
      refine fin _ k1 ?_
      simp only [Rp]
      exact ⟨p, vs, rfl, upd_same, Rpk.mono (same_new h5) _ _ k2⟩
theorem s_cont (hc : ∀ (i : Nat) (k : Md), μc[i]? = some k → k ≠ Md.dead → μ[i]? = some k) (hl : μc.length = μ.length) : PS X (.Continue pos) (rS c W μ none μc ms fr fun ρ => .ct ρ) := by
  refine ps_continue.weak ?_
  rintro E σ H ⟨ρ, F, S, h⟩
  exact h σ H F (S.kill hl rfl rfl fun i k h1 h2 => ⟨hc i k h1 h2, rfl, rfl⟩) (Same.refl _)
theorem s_pass : PS X (.Pass pos) (rS c W μ (some μ) μc ms fr fun ρ => .nx ρ) := by
  refine ps_pass.weak ?_
  rintro E σ H ⟨ρ, F, S, h⟩
  exact h σ H F S (Same.refl _)
end
end Mi

/-! Mi, part C5: statements that change things; blocks, loops. -/
namespace Mi
open PySem L2 PySem.Spec PyProof.Rows

/-! ### the slots that a statement writes -/
mutual
def modS : MS → List Nat
  | .set i _ => [i]
  | .seto i _ => [i]
  | .setT is _ => is
  | .setIdx i _ _ => [i]
  | .app i _ => [i]
  | .ext i _ => [i]
  | .rev i => [i]
  | .sdef i _ _ => [i]
  | .aug i _ => [i]
  | .expr _ => []
  | .frz i => [i]
  | .ife _ a b => modSs a ++ modSs b
  | .for tg _ body dead => tgSlots tg ++ (dead ++ modSs body)
  | .ret _ => []
  | .raise _ _ => []
  | .try body _ x h => modSs body ++ (x.toList ++ modSs h)
  | .cont => []
  | .whl _ _ body dead => dead ++ modSs body
  | .eff t i _ _ s => [t, i] ++ modS s
def modSs : List MS → List Nat
  | [] => []
  | s :: ss => modS s ++ modSs ss
end
def Keeps (ev : Env → FL) (ms : List Nat) : Prop := ∀ ρ ρ', (ev ρ = .nx ρ' ∨ ev ρ = .ct ρ') → ∀ i, i ∉ ms → getE ρ' i = getE ρ i
theorem getE_kill : ∀ {ρ : Env} {i j : Nat}, j ≠ i → getE (killE ρ i) j = getE ρ j
  | [], _, _, _ => rfl
  | _ :: _, 0, 0, h => absurd rfl h
  | _ :: _, 0, _ + 1, _ => rfl
  | _ :: _, _ + 1, 0, _ => rfl
  | _ :: r, i + 1, j + 1, h => by
    show getE (killE r i) j = getE r j
    exact getE_kill fun e => h (by rw [e])
theorem getE_killAll : ∀ {is : List Nat} {ρ : Env} {j : Nat}, j ∉ is → getE (killAll ρ is) j = getE ρ j
  | [], _, _, _ => rfl
  | i :: is, ρ, j, h => by
    rw [List.mem_cons, not_or] at h
    show getE (killAll (killE ρ i) is) j = _
    rw [getE_killAll h.2, getE_kill h.1]
theorem length_killE : ∀ (ρ : Env) (i : Nat), (killE ρ i).length = ρ.length
  | [], _ => rfl
  | _ :: _, 0 => rfl
  | _ :: r, i + 1 => by
    show (killE r i).length + 1 = r.length + 1
    rw [length_killE r i]
theorem length_killAll : ∀ (is : List Nat) (ρ : Env), (killAll ρ is).length = ρ.length
  | [], _ => rfl
  | i :: is, ρ => by
    show (killAll (killE ρ i) is).length = _
    rw [length_killAll is, length_killE]
theorem bindMany_out : ∀ {is : List Nat} {ds : List D} {ρ ρ' : Env}, bindMany is ds ρ = .ok ρ' → ∀ i, i ∉ is → getE ρ' i = getE ρ i
  | [], [], ρ, ρ', h, _, _ => by cases h; rfl
  | [], _ :: _, _, _, h, _, _ => by cases h
  | _ :: _, [], _, _, h, _, _ => by cases h
  | i :: is, d :: ds, ρ, ρ', h, j, hj => by
    rw [List.mem_cons, not_or] at hj
    have h : bindMany is ds (setE ρ i d) = .ok ρ' := h
    rw [bindMany_out h j hj.2, getE_set_ne hj.1]
theorem bindT_out {tg : Tg} {d : D} {ρ ρ' : Env} (h : bindT tg d ρ = .ok ρ') (i : Nat) (hi : i ∉ tgSlots tg) : getE ρ' i = getE ρ i := by
  cases tg with
  | one j => cases h; exact getE_set_ne (by simpa [tgSlots] using hi)
  | many is =>
    cases d <;> simp only [bindT] at h <;> try contradiction
    exact bindMany_out h i hi
theorem fl_of {α : Type} {r : R α} {f : α → FL} {ρ' : Env} (h : FL.of r f = .nx ρ' ∨ FL.of r f = .ct ρ') : ∃ a, r = .ok a ∧ (f a = .nx ρ' ∨ f a = .ct ρ') := by
  cases r with
  | ok a => exact ⟨a, rfl, h⟩
  | exc => rcases h with h | h <;> cases h
  | stuck => rcases h with h | h <;> cases h
theorem fl_nx {ρ ρ' : Env} (h : FL.nx ρ = .nx ρ' ∨ FL.nx ρ = .ct ρ') : ρ' = ρ := by
  rcases h with h | h <;> cases h
  rfl
theorem keep_set {r : R D} {ρ ρ' : Env} {i : Nat} (h : (FL.of r fun d => .nx (setE ρ i d)) = .nx ρ' ∨ (FL.of r fun d => .nx (setE ρ i d)) = .ct ρ') (j : Nat) (hj : j ∉ [i]) : getE ρ' j = getE ρ j := by
  obtain ⟨a, _, h⟩ := fl_of h
  rw [fl_nx h]
  exact getE_set_ne (by simpa using hj)
theorem keep_for {dead : List Nat} {turn : D → Env → FL} {ms : List Nat} (hd : ∀ i ∈ dead, i ∈ ms) (ht : ∀ x, Keeps (turn x) ms) : ∀ (xs : List D), Keeps (forL dead turn xs) ms
  | [], ρ, ρ', h, i, hi => by
    rw [fl_nx h]
    exact getE_killAll fun e => hi (hd i e)
  | x :: xs, ρ, ρ', h, i, hi => by
    unfold forL at h
    have k := getE_killAll (ρ := ρ) (is := dead) (j := i) fun e => hi (hd i e)
    cases q : turn x (killAll ρ dead) with
    | nx ρ1 =>
      rw [q] at h
      rw [keep_for hd ht xs ρ1 ρ' h i hi, ht x _ ρ1 (.inl q) i hi, k]
    | ct ρ1 =>
      rw [q] at h
      rw [keep_for hd ht xs ρ1 ρ' h i hi, ht x _ ρ1 (.inr q) i hi, k]
    | rt d => rw [q] at h; rcases h with h | h <;> cases h
    | exc x r => rw [q] at h; rcases h with h | h <;> cases h
    | stuck => rw [q] at h; rcases h with h | h <;> cases h
theorem keep_whl {dead : List Nat} {test : Env → R Bool} {turn : Env → FL} {ms : List Nat} (hd : ∀ i ∈ dead, i ∈ ms) (ht : Keeps turn ms) : ∀ (n : Nat), Keeps (whlL dead test turn n) ms
  | 0, ρ, ρ', h, i, hi => by unfold whlL at h; rcases h with h | h <;> cases h
  | n + 1, ρ, ρ', h, i, hi => by
    unfold whlL at h
    obtain ⟨b, _, h⟩ := fl_of h
    have k := getE_killAll (ρ := ρ) (is := dead) (j := i) fun e => hi (hd i e)
    cases b with
    | false =>
      rw [if_neg (by decide)] at h
      rw [fl_nx h, k]
    | true =>
      rw [if_pos rfl] at h
      cases q : turn (killAll ρ dead) with
      | nx ρ1 =>
        rw [q] at h
        rw [keep_whl hd ht n ρ1 ρ' h i hi, ht _ ρ1 (.inl q) i hi, k]
      | ct ρ1 =>
        rw [q] at h
        rw [keep_whl hd ht n ρ1 ρ' h i hi, ht _ ρ1 (.inr q) i hi, k]
      | rt d => rw [q] at h; rcases h with h | h <;> cases h
      | exc x r => rw [q] at h; rcases h with h | h <;> cases h
      | stuck => rw [q] at h; rcases h with h | h <;> cases h
theorem bindMany_noexc : ∀ {is : List Nat} {ds : List D} {ρ : Env} {x : Nat} {r : Int}, bindMany is ds ρ ≠ .exc x r
  | [], [], _, _, _ => fun h => by cases h
  | [], _ :: _, _, _, _ => fun h => by cases h
  | _ :: _, [], _, _, _ => fun h => by cases h
  | i :: is, d :: ds, ρ, x, r => bindMany_noexc (is := is) (ds := ds) (ρ := setE ρ i d)
theorem eff_out {Φ : Phi} {t i f : Nat} {es : List ME} {ρ ρ' : Env} (h : effR Φ t i f es ρ = .ok ρ') : ∀ j, j ∉ [t, i] → getE ρ' j = getE ρ j := by
  obtain ⟨y, _, h⟩ := bind_ok (noX_inv h)
  obtain ⟨xs, _, h⟩ := bind_ok h
  obtain ⟨d, _, h⟩ := bind_ok h
  obtain ⟨ds, _, h⟩ := bind_ok h
  exact fun j hj => bindMany_out h j hj
mutual
theorem keepS (Φ : Phi) : ∀ s : MS, Keeps (evS Φ s) (modS s)
  | .set i e, ρ, ρ', h, j, hj => keep_set h j hj
  | .seto i e, ρ, ρ', h, j, hj => by
    obtain ⟨d, _, h⟩ := fl_of h
    split at h
    · rw [fl_nx h]; exact getE_set_ne (by simpa [modS] using hj)
    · rcases h with h | h <;> cases h
  | .setT is e, ρ, ρ', h, j, hj => by
    obtain ⟨d, _, h⟩ := fl_of h
    obtain ⟨ds, _, h⟩ := fl_of h
    obtain ⟨ρ1, q, h⟩ := fl_of h
    rw [fl_nx h]
    exact bindMany_out q j hj
  | .setIdx i k e, ρ, ρ', h, j, hj => by
    obtain ⟨d, _, h⟩ := fl_of h
    obtain ⟨q, _, h⟩ := fl_of h
    obtain ⟨x, _, h⟩ := fl_of h
    exact keep_set h j hj
  | .app i e, ρ, ρ', h, j, hj => by
    obtain ⟨x, _, h⟩ := fl_of h
    obtain ⟨xs, _, h⟩ := fl_of h
    obtain ⟨d, _, h⟩ := fl_of h
    exact keep_set h j hj
  | .ext i e, ρ, ρ', h, j, hj => by
    obtain ⟨x, _, h⟩ := fl_of h
    obtain ⟨xs, _, h⟩ := fl_of h
    obtain ⟨d, _, h⟩ := fl_of h
    exact keep_set h j hj
  | .rev i, ρ, ρ', h, j, hj => by
    obtain ⟨x, _, h⟩ := fl_of h
    exact keep_set h j hj
  | .sdef i k e, ρ, ρ', h, j, hj => by
    obtain ⟨d, _, h⟩ := fl_of h
    obtain ⟨q, _, h⟩ := fl_of h
    obtain ⟨x, _, h⟩ := fl_of h
    exact keep_set h j hj
  | .aug i e, ρ, ρ', h, j, hj => by
    obtain ⟨x, _, h⟩ := fl_of h
    obtain ⟨y, _, h⟩ := fl_of h
    exact keep_set h j hj
  | .expr e, ρ, ρ', h, j, hj => by
    obtain ⟨d, _, h⟩ := fl_of h
    rw [fl_nx h]
  | .frz i, ρ, ρ', h, j, hj => by
    have h : FL.nx ρ = .nx ρ' ∨ FL.nx ρ = .ct ρ' := h
    rw [fl_nx h]
  | .ife c a b, ρ, ρ', h, j, hj => by
    obtain ⟨d, _, h⟩ := fl_of h
    obtain ⟨t, _, h⟩ := fl_of h
    have hj : j ∉ modSs a ++ modSs b := hj
    rw [List.mem_append, not_or] at hj
    cases t with
    | true => exact keepSs Φ a ρ ρ' h j hj.1
    | false => exact keepSs Φ b ρ ρ' h j hj.2
  | .for tg it body dead, ρ, ρ', h, j, hj => by
    obtain ⟨d, _, h⟩ := fl_of h
    obtain ⟨xs, _, h⟩ := fl_of h
    refine keep_for (ms := modS (.for tg it body dead)) (fun i hi => by simp [modS, hi]) (fun x ρ ρ' h i hi => ?_) xs ρ ρ' h j hj
    obtain ⟨ρ1, q, h⟩ := fl_of h
    have hi : i ∉ tgSlots tg ++ (dead ++ modSs body) := hi
    rw [List.mem_append, List.mem_append, not_or, not_or] at hi
    rw [keepSs Φ body ρ1 ρ' h i hi.2.2, bindT_out q i hi.1]
  | .ret e, ρ, ρ', h, j, hj => by
    obtain ⟨d, _, h⟩ := fl_of h
    rcases h with h | h <;> cases h
  | .raise c none, ρ, ρ', h, j, hj => by
    have h : FL.exc c 0 = .nx ρ' ∨ FL.exc c 0 = .ct ρ' := h
    rcases h with h | h <;> cases h
  | .raise c (some e), ρ, ρ', h, j, hj => by
    obtain ⟨d, _, h⟩ := fl_of h
    obtain ⟨d, _, h⟩ := fl_of h
    rcases h with h | h <;> cases h
  | .try body cs x hb, ρ, ρ', h, j, hj => by
    have hj : j ∉ modSs body ++ (x.toList ++ modSs hb) := hj
    rw [List.mem_append, List.mem_append, not_or, not_or] at hj
    unfold evS at h
    cases q : evSs Φ body ρ with
    | exc k r =>
      rw [q] at h
      dsimp only at h
      split at h
      · rw [keepSs Φ hb _ ρ' h j hj.2.2]
        cases x with
        | none => rfl
        | some i => exact getE_set_ne (by simpa using hj.2.1)
      · rcases h with h | h <;> cases h
    | nx ρ1 => rw [q] at h; exact keepSs Φ body ρ ρ' (by rw [q]; exact h) j hj.1
    | ct ρ1 => rw [q] at h; exact keepSs Φ body ρ ρ' (by rw [q]; exact h) j hj.1
    | rt d => rw [q] at h; rcases h with h | h <;> cases h
    | stuck => rw [q] at h; rcases h with h | h <;> cases h
  | .cont, ρ, ρ', h, j, hj => by
    have h : FL.ct ρ = .nx ρ' ∨ FL.ct ρ = .ct ρ' := h
    rcases h with h | h <;> cases h
    rfl
  | .whl n c body dead, ρ, ρ', h, j, hj => by
    refine keep_whl (ms := modS (.whl n c body dead)) (fun i hi => by simp [modS, hi]) (fun ρ ρ' h i hi => ?_) n ρ ρ' h j hj
    have hi : i ∉ dead ++ modSs body := hi
    rw [List.mem_append, not_or] at hi
    exact keepSs Φ body ρ ρ' h i hi.2
  | .eff t i f es s, ρ, ρ', h, j, hj => by
    obtain ⟨ρ1, q, h⟩ := fl_of h
    have hj : j ∉ [t, i] ++ modS s := hj
    rw [List.mem_append, not_or] at hj
    rw [keepS Φ s ρ1 ρ' h j hj.2]
    exact eff_out q j hj.1
theorem keepSs (Φ : Phi) : ∀ ss : List MS, Keeps (evSs Φ ss) (modSs ss)
  | [], ρ, ρ', h, j, hj => by
    have h : FL.nx ρ = .nx ρ' ∨ FL.nx ρ = .ct ρ' := h
    rw [fl_nx h]
  | s :: ss, ρ, ρ', h, j, hj => by
    have hj : j ∉ modS s ++ modSs ss := hj
    rw [List.mem_append, not_or] at hj
    have h : (evS Φ s ρ).seq (fun ρ' => evSs Φ ss ρ') = .nx ρ' ∨ (evS Φ s ρ).seq (fun ρ' => evSs Φ ss ρ') = .ct ρ' := h
    cases q : evS Φ s ρ with
    | nx ρ1 =>
      rw [q] at h
      rw [keepSs Φ ss ρ1 ρ' h j hj.2, keepS Φ s ρ ρ1 (.inl q) j hj.1]
    | ct ρ1 =>
      rw [q] at h
      rcases h with h | h <;> cases h
      exact keepS Φ s ρ ρ' (.inr q) j hj.1
    | rt d => rw [q] at h; rcases h with h | h <;> cases h
    | exc x r => rw [q] at h; rcases h with h | h <;> cases h
    | stuck => rw [q] at h; rcases h with h | h <;> cases h
end

section
variable {X : Cx} {c : Cn} {m : RM} {W : WX} {μ : List Md} {μ' : Option (List Md)} {μc : List Md} {ms : List Nat} {fr : Bool} {pos px : Pos} {a b d e : Expr} {eva evb evd : Env → R D} {ρ : Env} {σ : L2.St} {H F H' F' : Hp} {i : Nat} {x : PySem.Str}
/-! ### changes in place -/
theorem Rpk.any {F : Hp} : ∀ {ks : List (Key × D)} {vs : List (Key × V)} (k : Key), Rpk c F ks vs → (vs.any fun kv => decide (kv.1 = k)) = ks.any fun kv => decide (kv.1 = k)
  | [], vs, k, h => by simp only [Rpk] at h; subst h; rfl
  | (q, d) :: r, vs, k, h => by
    simp only [Rpk] at h
    obtain ⟨v, s, rfl, _, h2⟩ := h
    simp only [List.any_cons, Rpk.any k h2]
theorem Rpk.mapK {F : Hp} {d : D} {v : V} (hr : Rp c F d v) : ∀ {ks : List (Key × D)} {vs : List (Key × V)} (k : Key), Rpk c F ks vs → Rpk c F (ks.map fun kv => if kv.1 = k then (kv.1, d) else kv) (vs.map fun kv => if kv.1 = k then (kv.1, v) else kv)
  | [], vs, k, h => by simp only [Rpk] at h; subst h; simp [Rpk]
  | (q, z) :: r, vs, k, h => by
    simp only [Rpk] at h
    obtain ⟨u, s, rfl, h1, h2⟩ := h
    simp only [List.map_cons]
    by_cases e : q = k
    · simp only [e, if_true, Rpk]; exact ⟨v, _, rfl, hr, Rpk.mapK hr k h2⟩
    · simp only [e, if_false, Rpk]; exact ⟨u, _, rfl, h1, Rpk.mapK hr k h2⟩
theorem Rpk.app {F : Hp} {d : D} {v : V} (hr : Rp c F d v) : ∀ {ks : List (Key × D)} {vs : List (Key × V)} (k : Key), Rpk c F ks vs → Rpk c F (ks ++ [(k, d)]) (vs ++ [(k, v)])
  | [], vs, k, h => by simp only [Rpk] at h; subst h; simp only [List.nil_append, Rpk]; exact ⟨v, [], rfl, hr, rfl⟩
  | (q, z) :: r, vs, k, h => by
    simp only [Rpk] at h
    obtain ⟨u, s, rfl, h1, h2⟩ := h
    simp only [List.cons_append, Rpk]
    exact ⟨u, _, rfl, h1, Rpk.app hr k h2⟩
theorem Rpk.put {F : Hp} {d : D} {v : V} (hr : Rp c F d v) {ks : List (Key × D)} {vs : List (Key × V)} (k : Key) (h : Rpk c F ks vs) : Rpk c F (putK k d ks) (L2.putK vs k v) := by
  unfold putK L2.putK
  rw [Rpk.any k h]
  split
  · exact Rpk.mapK hr k h
  · exact Rpk.app hr k h
theorem tyL {a : Addr} {vs : List V} (h : SqL X.K H a vs) : tyV X.K "list" (.ref a) H := .inl ⟨rfl, vs, h⟩
def evApp (i : Nat) (ev : Env → R D) : Env → FL := fun ρ => FL.of (getE ρ i) fun x => FL.of (R.of (lstOf x)) fun xs => FL.of (ev ρ) fun d => FL.of (R.of (appD xs d)) fun y => .nx (setE ρ i y)
theorem s_app {y : PySem.Str} {pn ap cp : Pos} (hN : X.N[i]? = some y) (hv : Vis X.env.scope y) (hd : (y == ("__debug__" : PySem.Str)) = false) (hcd : (y == ("__classdict__" : PySem.Str)) = false) (hμ : μ[i]? = some .own) (ha : PE X e (rE c W μ .V eva))
    (hbase : attributeBase (.Name y pn) "append" X.env (eval (.Name y pn) X.env) = eval (.Name y pn) X.env)
    (hfew : ((backTo cp (starEach [e] X.env)).all (fun x => !x.1) && (backToKw cp (keywordEach [] X.env)).all (fun x => x.1.isSome) && decide (([e] : List Expr).length + ([] : List Keyword).length + (if ([] : List Keyword).isEmpty then 0 else 1) < 30)) = true)
    (hline : (ap.endLine == cp.line) = true) (hs : starEach [e] X.env = [(false, eval e X.env)]) (hsw : swapsWith (.Call (.Attribute (.Name y pn) "append" ap) [e] [] cp) none pos.line X.env = pure false) :
    PS X (.Expr (.Call (.Attribute (.Name y pn) "append" ap) [e] [] cp) pos) (rS c W μ (some μ) μc ms fr (evApp i eva)) := by
  refine (ps_expr (pe_bm PySem.F.plainAttrs_list PySem.F.slot_list_append PySem.F.type_list_append mt_append (pe_var (i := i) hN hv hd hcd) (pa_one ha hs) hbase hfew hline hs rfl) hsw).weak ?_
  rintro E σ H ⟨ρ, F, S, h⟩
  obtain ⟨p, d0, h1, h2, h3, h4, h5⟩ := S.own i hμ
  have h : FK c W μ (some μ) μc ms fr ρ E F (FL.of (getE ρ i) fun x => FL.of (R.of (lstOf x)) fun xs => FL.of (eva ρ) fun d => FL.of (R.of (appD xs d)) fun y => .nx (setE ρ i y)) := h
  rw [h2] at h
  obtain ⟨ds, q1, h⟩ := FK.of h
  cases d0 <;> simp only [lstOf] at q1 <;> try contradiction
  cases q1
  obtain ⟨vs0, g1, g2⟩ := h3
  refine ⟨_, h1, tyL (SqL.of g1), ρ, F, S, fk_e S h fun dd v H1 F1 _ e1 r k => ?_⟩
  obtain ⟨z, q2, k⟩ := FK.of k
  unfold appD at q2
  split at q2
  · rename_i hlen
    cases q2
    have S1 := S.ext e1
    have eF := e1.frs S.sub
    have g3 := Rps.mono eF _ _ g2
    have g4 := e1.same _ _ g1
    have r : Rp c F1 dd v := r
    refine ⟨p, vs0, v, rfl, rfl, g4, by rw [g3.length, ← lineN_eq]; exact hlen, ?_⟩
    exact k σ _ F1 (S1.chg hμ h1 (by simp only [Ob]; exact ⟨_, upd_same, g3.append (.cons r .nil)⟩)) eF
  · cases q2
def evExt (i : Nat) (ev : Env → R D) : Env → FL := fun ρ => FL.of (getE ρ i) fun x => FL.of (R.of (lstOf x)) fun xs => FL.of (ev ρ) fun d => FL.of (R.of (extD xs d)) fun y => .nx (setE ρ i y)
theorem s_ext {y : PySem.Str} {pn ap cp : Pos} (hK : X.K = c.K) (hN : X.N[i]? = some y) (hv : Vis X.env.scope y) (hd : (y == ("__debug__" : PySem.Str)) = false) (hcd : (y == ("__classdict__" : PySem.Str)) = false) (hμ : μ[i]? = some .own) (ha : PE X e (rE c W μ .B eva))
    (hbase : attributeBase (.Name y pn) "extend" X.env (eval (.Name y pn) X.env) = eval (.Name y pn) X.env)
    (hfew : ((backTo cp (starEach [e] X.env)).all (fun x => !x.1) && (backToKw cp (keywordEach [] X.env)).all (fun x => x.1.isSome) && decide (([e] : List Expr).length + ([] : List Keyword).length + (if ([] : List Keyword).isEmpty then 0 else 1) < 30)) = true)
    (hline : (ap.endLine == cp.line) = true) (hs : starEach [e] X.env = [(false, eval e X.env)]) (hsw : swapsWith (.Call (.Attribute (.Name y pn) "extend" ap) [e] [] cp) none pos.line X.env = pure false) :
    PS X (.Expr (.Call (.Attribute (.Name y pn) "extend" ap) [e] [] cp) pos) (rS c W μ (some μ) μc ms fr (evExt i eva)) := by
  refine (ps_expr (pe_bm PySem.F.plainAttrs_list PySem.F.slot_list_extend PySem.F.type_list_extend mt_extL (pe_var (i := i) hN hv hd hcd) (pa_one ha hs) hbase hfew hline hs rfl) hsw).weak ?_
  rintro E σ H ⟨ρ, F, S, h⟩
  obtain ⟨p, d0, h1, h2, h3, h4, h5⟩ := S.own i hμ
  have h : FK c W μ (some μ) μc ms fr ρ E F (FL.of (getE ρ i) fun x => FL.of (R.of (lstOf x)) fun xs => FL.of (eva ρ) fun d => FL.of (R.of (extD xs d)) fun y => .nx (setE ρ i y)) := h
  rw [h2] at h
  obtain ⟨ds, q1, h⟩ := FK.of h
  cases d0 <;> simp only [lstOf] at q1 <;> try contradiction
  cases q1
  obtain ⟨vs0, g1, g2⟩ := h3
  refine ⟨_, h1, tyL (SqL.of g1), ρ, F, S, fk_e S h fun dd v H1 F1 _ e1 r k => ?_⟩
  obtain ⟨z, q2, k⟩ := FK.of k
  cases dd <;> simp only [extD] at q2 <;> try contradiction
  split at q2
  · rename_i hlen
    cases q2
    have S1 := S.ext e1
    have eF := e1.frs S.sub
    have g3 := Rps.mono eF _ _ g2
    have g4 := e1.same _ _ g1
    have r : Rb c F1 H1 _ v := r
    obtain ⟨q, us, rfl, r1, r2⟩ := r.lst e1.sub
    refine ⟨p, q, vs0, us, rfl, rfl, g4, by rw [hK]; exact r1, by rw [g3.length, r2.length, ← lineN_eq]; exact hlen, ?_⟩
    exact k σ _ F1 (S1.chg hμ h1 (by simp only [Ob]; exact ⟨_, upd_same, g3.append r2⟩)) eF
  · cases q2
def evRev (i : Nat) : Env → FL := fun ρ => FL.of (getE ρ i) fun x => FL.of (R.of (revD x)) fun y => .nx (setE ρ i y)
theorem s_rev {y : PySem.Str} {pn ap cp : Pos} (hN : X.N[i]? = some y) (hv : Vis X.env.scope y) (hd : (y == ("__debug__" : PySem.Str)) = false) (hcd : (y == ("__classdict__" : PySem.Str)) = false) (hμ : μ[i]? = some .own)
    (hbase : attributeBase (.Name y pn) "reverse" X.env (eval (.Name y pn) X.env) = eval (.Name y pn) X.env)
    (hline : (ap.endLine == cp.line) = true) (hsw : swapsWith (.Call (.Attribute (.Name y pn) "reverse" ap) [] [] cp) none pos.line X.env = pure false) :
    PS X (.Expr (.Call (.Attribute (.Name y pn) "reverse" ap) [] [] cp) pos) (rS c W μ (some μ) μc ms fr (evRev i)) := by
  refine (ps_expr (pe_bm0 PySem.F.plainAttrs_list PySem.F.slot_list_reverse PySem.F.type_list_reverse mt_reverse (pe_var (i := i) hN hv hd hcd) hbase hline) hsw).weak ?_
  rintro E σ H ⟨ρ, F, S, h⟩
  obtain ⟨p, d0, h1, h2, h3, h4, h5⟩ := S.own i hμ
  have h : FK c W μ (some μ) μc ms fr ρ E F (FL.of (getE ρ i) fun x => FL.of (R.of (revD x)) fun y => .nx (setE ρ i y)) := h
  rw [h2] at h
  obtain ⟨z, q1, h⟩ := FK.of h
  cases d0 <;> simp only [revD] at q1 <;> try contradiction
  cases q1
  obtain ⟨vs0, g1, g2⟩ := h3
  refine ⟨_, h1, tyL (SqL.of g1), p, vs0, rfl, rfl, g1, ?_⟩
  exact h σ _ F (S.chg hμ h1 (by simp only [Ob]; exact ⟨_, upd_same, g2.reverse⟩)) (Same.refl _)
/-- x[k] = e, x a slot of one's own -/
theorem idxL_range {n : Nat} {i : Int} {j : Nat} (e : idxL (List.range n) i = some j) : ixN n i = some j := by
  unfold idxL at e
  unfold ixN
  rw [List.length_range] at e
  split at e
  · rename_i h
    rw [if_pos h]
    have h1 := (List.getElem?_eq_some_iff.mp e).1
    rw [List.length_range] at h1
    rw [List.getElem?_range h1] at e
    rw [if_pos (by omega)]; exact e
  · rename_i h
    rw [if_neg h]
    split at e
    · rename_i h2
      rw [if_pos h2]
      have h1 := (List.getElem?_eq_some_iff.mp e).1
      rw [List.length_range] at h1
      rw [List.getElem?_range h1] at e
      exact e
    · cases e
def evSetIdx (i : Nat) (evk ev : Env → R D) : Env → FL := fun ρ => FL.of (ev ρ) fun d => FL.of (evk ρ) fun q => FL.of (getE ρ i) fun x => FL.of (R.of (setIdxD x q d)) fun y => .nx (setE ρ i y)
theorem set_any (hu : X.A.units + 1 < cLine) : PSet X (fun o i v H Q => rSetL o i v H Q ∨ rSetD o i v H Q) := by
  intro pins s σ H o i v ov iv u Q I ro ri rv h
  rcases h with h | h
  · exact set_list pins s σ H o i v ov iv u Q I ro ri rv h
  · exact set_dict hu pins s σ H o i v ov iv u Q I ro ri rv h
theorem s_setIdx {y : PySem.Str} {pn sp : Pos} {evk : Env → R D} (hu : X.A.units + 1 < cLine) (hN : X.N[i]? = some y) (hv : Vis X.env.scope y) (hd : (y == ("__debug__" : PySem.Str)) = false) (hcd : (y == ("__classdict__" : PySem.Str)) = false) (hμ : μ[i]? = some .own)
    (ha : PE X e (rE c W μ .V eva)) (hk : PE X b (rE c W μ .B evk))
    (hasg : ∀ v, assign (.Subscript (.Name y pn) b sp) X.env v = (do
      let ov ← holding [v] (eval (.Name y pn) X.env)
      let iv ← holding [v, ov] (eval b X.env)
      standAt sp
      holding [v, ov, iv] (setItem ov iv v)
      release [v, ov, iv] []))
    (hs : swapsWithSole [.Subscript (.Name y pn) b sp] e pos.line X.env = pure false) (hw : swappedStores [.Subscript (.Name y pn) b sp] e X.env = pure none) (h1 : (assignEach [.Subscript (.Name y pn) b sp] X.env).map (·.2) = [assign (.Subscript (.Name y pn) b sp) X.env]) :
    PS X (.Assign [.Subscript (.Name y pn) b sp] e pos) (rS c W μ (some μ) μc ms fr (evSetIdx i evk eva)) := by
  refine (ps_asg ha (pg_sub (pe_var (i := i) hN hv hd hcd) hk (set_any hu) hasg) hs hw h1).weak ?_
  rintro E σ H ⟨ρ, F, S, h⟩
  refine ⟨ρ, F, S, fk_e S h fun dd v H1 F1 _ e1 r k => ?_⟩
  have S1 := S.ext e1
  obtain ⟨p, d0, g1, g2, g3, g4, g5⟩ := S1.own i hμ
  have eF := e1.frs S.sub
  refine ⟨_, g1, ρ, F1, S1, ?_⟩
  cases q : evk ρ with
  | stuck => rw [q] at k; exact k.elim
  | exc x r =>
    rw [q] at k
    intro H2 F2 cls dx e2 xr
    exact k σ H2 F2 cls dx ((S1.ext e2).dead ms) (eF.trans (e2.frs S1.sub)) xr
  | ok dk =>
    rw [q] at k
    intro vk H2 F2 e2 rk
    have k : FK c W μ (some μ) μc ms fr ρ E F (FL.of (getE ρ i) fun x => FL.of (R.of (setIdxD x dk dd)) fun y => .nx (setE ρ i y)) := k
    rw [g2] at k
    obtain ⟨z, q2, k⟩ := FK.of k
    have S2 := S1.ext e2
    have eF2 := e2.frs S1.sub
    have rv : Rp c F2 dd v := Rp.mono eF2 _ _ r
    have rk : Rb c F2 H2 dk vk := rk
    have g3 := g3.mono eF2 e2.same
    cases d0 <;> simp only [Ob] at g3
    · rename_i ds
      obtain ⟨vs0, k1, k2⟩ := g3
      cases dk <;> simp only [setIdxD] at q2 <;> try contradiction
      rw [Option.map_eq_some_iff] at q2
      obtain ⟨j, q2, rfl⟩ := q2
      refine .inl ⟨p, vs0, _, j, rfl, rk.int, k1, by rw [k2.length]; exact idxL_range q2, ?_⟩
      exact k σ _ F2 (S2.chg hμ g1 (by simp only [Ob]; exact ⟨_, upd_same, k2.set j rv⟩)) (eF.trans eF2)
    · rename_i ks
      obtain ⟨vs0, k1, k2⟩ := g3
      simp only [setIdxD] at q2
      split at q2
      · rename_i hlen
        rw [Option.map_eq_some_iff] at q2
        obtain ⟨kk, q2, rfl⟩ := q2
        refine .inr ⟨p, _, rfl, ?_, k σ _ F2 (S2.chg hμ g1 (by simp only [Ob]; exact ⟨_, upd_same, k2.put rv kk⟩)) (eF.trans eF2)⟩
        rw [rk.key q2]
        exact DPut.k k1 (by rw [k2.length, ← lineN_eq]; exact hlen)
      · cases q2
/-- name += int -/
def evAug (i : Nat) (ev : Env → R D) : Env → FL := fun ρ => FL.of (getE ρ i) fun x => FL.of (ev ρ) fun y => FL.of (R.of (augD x y)) fun z => .nx (setE ρ i z)
theorem s_aug {y : PySem.Str} {pn : Pos} (hN : X.N.Nodup) (hi : X.N[i]? = some y) (hx : Loc X.env.scope y) (hf : X.env.scope.names.lookup y = some .local ∨ X.fn y = true) (hμ : μ[i]? = some .imm) (ha : PE X e (rE c W μ .B eva)) :
    PS X (.AugAssign (.Name y pn) .Add e pos) (rS c W μ (some (μ.set i .imm)) μc ms fr (evAug i eva)) := by
  refine (ps_aug hN hi hx ha ip_add hf.symm).weak ?_
  rintro E σ H ⟨ρ, F, S, h⟩
  obtain ⟨v0, d0, h1, h2, h3⟩ := S.imm i hμ
  have h : FK c W μ (some (μ.set i .imm)) μc ms fr ρ E F (FL.of (getE ρ i) fun x => FL.of (eva ρ) fun y => FL.of (R.of (augD x y)) fun z => .nx (setE ρ i z)) := h
  rw [h2] at h
  refine ⟨_, h1, ρ, F, S, fk_e S h fun dd v H1 F1 _ e1 r k => ?_⟩
  obtain ⟨z, q2, k⟩ := FK.of k
  cases d0 <;> cases dd <;> simp only [augD] at q2 <;> try contradiction
  cases q2
  have r : Rb c F1 H1 _ v := r
  simp only [Rp] at h3
  refine ⟨_, _, h3, r.int, ?_⟩
  exact k _ H1 F1 ((S.ext e1).setV (S.lt hμ) (by simp [Rp])) (e1.frs S.sub)

/-! ### blocks -/
theorem ss_nil : PSs X [] (rS c W μ (some μ) μc ms fr fun ρ => .nx ρ) := by
  refine pss_nil.weak ?_
  rintro E σ H ⟨ρ, F, S, h⟩
  exact h σ H F S (Same.refl _)
theorem SR.excTo {ms' : List Nat} {μ1 : List Md} {ρ1 : Env} (S : SR c (msets μ1 ms' .dead) ρ1 σ H F) (hl : μ1.length = μ.length) (hr : ρ.length = μ.length) (h : ∀ i : Nat, i ∉ ms → i ∉ ms' ∧ μ1[i]? = μ[i]? ∧ getE ρ1 i = getE ρ i) : SR c (msets μ ms .dead) ρ σ H F := by
  have l1 := S.lenR
  rw [msets_length] at l1
  refine S.kill (by rw [msets_length, msets_length, hl]) rfl (by omega) fun i k hi hk => ?_
  by_cases hm : i ∈ ms
  · exact absurd (msets_in hm hi) hk
  · rw [msets_out hm] at hi
    obtain ⟨h1, h2, h3⟩ := h i hm
    rw [msets_out h1, h2]
    exact ⟨hi, rfl, h3.symm⟩
theorem ss_cons {st : Stmt} {rest : List Stmt} {μ1 : List Md} {ms1 ms2 : List Nat} {ev1 ev2 : Env → FL} (h1 : PS X st (rS c W μ (some μ1) μc ms1 fr ev1)) (h2 : PSs X rest (rS c W μ1 μ' μc ms2 fr ev2)) (hk : Keeps ev1 ms1) (hl : μ1.length = μ.length) (ho : ∀ i : Nat, i ∉ ms1 → μ1[i]? = μ[i]?) :
    PSs X (st :: rest) (rS c W μ μ' μc (ms1 ++ ms2) fr fun ρ => (ev1 ρ).seq ev2) := by
  refine (pss_cons h1 h2).weak ?_
  rintro E σ H ⟨ρ, F, S, h⟩
  refine ⟨ρ, F, S, ?_⟩
  have h : FK c W μ μ' μc (ms1 ++ ms2) fr ρ E F ((ev1 ρ).seq ev2) := h
  cases q : ev1 ρ with
  | nx ρ1 =>
    rw [q] at h
    have h : FK c W μ μ' μc (ms1 ++ ms2) fr ρ E F (ev2 ρ1) := h
    intro σ1 H1 F1 S1 e1
    refine ⟨ρ1, F1, S1, ?_⟩
    cases q2 : ev2 ρ1 with
    | nx ρ2 =>
      rw [q2] at h
      cases μ' with
      | none => trivial
      | some μ2 => exact fun σ' H' F' S' e' => h σ' H' F' S' (e1.trans e')
    | rt d => rw [q2] at h; exact h
    | ct ρ2 => rw [q2] at h; exact fun σ' H' F' S' e' => h σ' H' F' S' (e1.trans e')
    | exc x r =>
      rw [q2] at h
      intro σ' H' F' cls dx S' e' xr
      refine h σ' H' F' cls dx (S'.excTo hl S.lenR fun i hi => ?_) (e1.trans e') xr
      rw [List.mem_append, not_or] at hi
      exact ⟨hi.2, ho i hi.1, hk ρ ρ1 (.inl q) i hi.1⟩
    | stuck => rw [q2] at h; exact h
  | rt d => rw [q] at h; exact h
  | ct ρ2 => rw [q] at h; exact h
  | exc x r =>
    rw [q] at h
    intro σ' H' F' cls dx S' e' xr
    refine h σ' H' F' cls dx (S'.excTo rfl S.lenR fun i hi => ?_) e' xr
    rw [List.mem_append, not_or] at hi
    exact ⟨hi.1, rfl, rfl⟩
  | stuck => rw [q] at h; exact h
/-- the last one, that does not end -/
theorem ss_last {st : Stmt} {ms1 ms2 : List Nat} {ev1 ev2 : Env → FL} (h1 : PS X st (rS c W μ none μc ms1 fr ev1)) (hn : ∀ ρ ρ', ev1 ρ ≠ .nx ρ') : PSs X [st] (rS c W μ none μc (ms1 ++ ms2) fr fun ρ => (ev1 ρ).seq ev2) := by
  refine (pss_one h1).weak ?_
  rintro E σ H ⟨ρ, F, S, h⟩
  refine ⟨ρ, F, S, ?_⟩
  have h : FK c W μ none μc (ms1 ++ ms2) fr ρ E F ((ev1 ρ).seq ev2) := h
  cases q : ev1 ρ with
  | nx ρ1 => exact absurd q (hn ρ ρ1)
  | rt d => rw [q] at h; exact h
  | ct ρ2 => rw [q] at h; exact h
  | exc x r =>
    rw [q] at h
    intro σ' H' F' cls dx S' e' xr
    refine h σ' H' F' cls dx (S'.excTo rfl S.lenR fun i hi => ?_) e' xr
    rw [List.mem_append, not_or] at hi
    exact ⟨hi.1, rfl, rfl⟩
  | stuck => rw [q] at h; exact h
/-- μ is known where μw is -/
def Le (μw μ : List Md) : Prop := μw.length = μ.length ∧ ∀ (i : Nat) (k : Md), μw[i]? = some k → k ≠ Md.dead → μ[i]? = some k
theorem Le.sr {μw : List Md} (l : Le μw μ) (S : SR c μ ρ σ H F) : SR c μw ρ σ H F := S.kill l.1 rfl rfl fun i k h1 h2 => ⟨l.2 i k h1 h2, rfl, rfl⟩
def LeO : Option (List Md) → Option (List Md) → Prop
  | some a, some b => Le a b
  | some _, none => True
  | none, none => True
  | none, some _ => False
/-- weaker: less is known behind, more slots are forgotten -/
theorem FK.weak {ms' : List Nat} {μ1 : Option (List Md)} {E : Ends} {f : FL} (hm : ∀ i : Nat, i ∈ ms → i ∈ ms') (hl : LeO μ' μ1) (hn : μ1 = none → ∀ ρ', f ≠ .nx ρ') (h : FK c W μ μ' μc ms' fr ρ E F f) (hr : ρ.length = μ.length) : FK c W μ μ1 μc ms fr ρ E F f := by
  cases f with
  | nx ρ2 =>
    cases μ1 with
    | none => trivial
    | some m1 =>
      cases μ' with
      | none => exact hl.elim
      | some m' => exact fun σ' H' F' S' e' => h σ' H' F' (Le.sr hl S') e'
  | rt d => exact h
  | ct ρ2 => exact h
  | exc x r =>
    intro σ' H' F' cls dx S' e' xr
    exact h σ' H' F' cls dx (S'.excTo rfl hr fun i hi => ⟨fun e => hi (hm i e), rfl, rfl⟩) e' xr
  | stuck => exact h
def evIf (evt : Env → R Bool) (ea eb : Env → FL) : Env → FL := fun ρ => FL.of (evt ρ) fun t => if t then ea ρ else eb ρ
theorem s_if {p q : List Stmt} {evt : Env → R Bool} {ea eb : Env → FL} {μa μb : Option (List Md)} {msa msb : List Nat} (hc : PT X e (rT c W μ evt)) (ha : PSs X p (rS c W μ μa μc msa fr ea)) (hb : PSs X q (rS c W μ μb μc msb fr eb))
    (la : LeO μ' μa) (lb : LeO μ' μb) (na : μa = none → ∀ ρ ρ', ea ρ ≠ .nx ρ') (nb : μb = none → ∀ ρ ρ', eb ρ ≠ .nx ρ') : PS X (.If e p q pos) (rS c W μ μ' μc (msa ++ msb) fr (evIf evt ea eb)) := by
  refine (ps_if hc ha hb).weak ?_
  rintro E σ H ⟨ρ, F, S, h⟩
  refine ⟨ρ, F, S, ?_⟩
  have h : FK c W μ μ' μc (msa ++ msb) fr ρ E F (FL.of (evt ρ) fun t => if t then ea ρ else eb ρ) := h
  cases q : evt ρ with
  | stuck => rw [q] at h; exact h
  | exc x r =>
    rw [q] at h
    intro H1 F1 cls dx e1 xr
    exact h σ H1 F1 cls dx ((S.ext e1).dead _) (e1.frs S.sub) xr
  | ok t =>
    rw [q] at h
    intro H1 F1 e1
    have S1 := S.ext e1
    have eF := e1.frs S.sub
    have up : ∀ {μ' : Option (List Md)} {ms : List Nat} {f : FL}, FK c W μ μ' μc ms fr ρ E F f → FK c W μ μ' μc ms fr ρ E F1 f := fun {μ' ms f} h => by
      cases f with
      | nx ρ2 =>
        cases μ' with
        | none => trivial
        | some m => exact fun σ' H' F' S' e' => h σ' H' F' S' (eF.trans e')
      | rt d => exact h
      | ct ρ2 => exact fun σ' H' F' S' e' => h σ' H' F' S' (eF.trans e')
      | exc x r => exact fun σ' H' F' cls dx S' e' xr => h σ' H' F' cls dx S' ((e1.frs S.sub).trans e') xr
      | stuck => exact h
    cases t with
    | true => exact ⟨ρ, F1, S1, FK.weak (fun i hi => List.mem_append_left _ hi) la (fun n => na n ρ) (up h) S.lenR⟩
    | false => exact ⟨ρ, F1, S1, FK.weak (fun i hi => List.mem_append_right _ hi) lb (fun n => nb n ρ) (up h) S.lenR⟩
end
end Mi

/-! Mi, part C6: for; raise; comprehensions stored. -/
namespace Mi
open PySem L2 PySem.Spec PyProof.Rows

section
variable {X : Cx} {c : Cn} {m : RM} {W : WX} {μ : List Md} {μ' : Option (List Md)} {μc : List Md} {ms : List Nat} {fr : Bool} {pos px : Pos} {a b d e : Expr} {eva evb evd : Env → R D} {ρ : Env} {σ : L2.St} {H F H' F' : Hp} {i : Nat} {x : PySem.Str}
theorem FK.up {E : Ends} {f : FL} {F1 : Hp} (eF : Same F F1) (h : FK c W μ μ' μc ms fr ρ E F f) : FK c W μ μ' μc ms fr ρ E F1 f := by
  cases f with
  | nx ρ2 =>
    cases μ' with
    | none => trivial
    | some m => exact fun σ' H' F' S' e' => h σ' H' F' S' (eF.trans e')
  | rt d => exact h
  | ct ρ2 => exact fun σ' H' F' S' e' => h σ' H' F' S' (eF.trans e')
  | exc x r => exact fun σ' H' F' cls dx S' e' xr => h σ' H' F' cls dx S' (eF.trans e') xr
  | stuck => exact h
def turnF (T : Tg) (evb : Env → FL) : D → Env → FL := fun x ρ => FL.of (bindT T x ρ) fun ρ' => evb ρ'
def evFor (T : Tg) (evi : Env → R (List D)) (dead : List Nat) (evb : Env → FL) : Env → FL := fun ρ => FL.of (evi ρ) fun xs => forL dead (turnF T evb) xs ρ
theorem bindT_noexc {T : Tg} {d : D} {ρ : Env} {x : Nat} {r : Int} : bindT T d ρ ≠ .exc x r := by
  have many : ∀ (is : List Nat) (ds : List D) (ρ : Env) (x : Nat) (r : Int), bindMany is ds ρ ≠ .exc x r := by
    intro is
    induction is with
    | nil => intro ds ρ x r; cases ds <;> exact fun h => by cases h
    | cons i is ih => intro ds ρ x r; cases ds with
      | nil => exact fun h => by cases h
      | cons d ds => exact ih ds _ x r
  cases T with
  | one i => exact fun h => by cases h
  | many is => cases d <;> first | exact fun h => by cases h | exact many _ _ _ _ _
/-- what a loop asks -/
def LoopG (g : TG) (tb : TS) (D : Ends) (σ : L2.St) (J : It) (H1 : Hp) : Prop := ∃ W : Nat → Nat → L2.St → Hp → Prop, (∃ m, W 0 m σ H1) ∧ ∀ i m σ H, W i m σ H →
  (J.stop i H ∧ D.nx σ H) ∨ (J.go i H ∧ ∃ N : L2.St → Hp → Prop, (∀ σ' H', N σ' H' → ∃ m', m' < m ∧ W (i + 1) m' σ' H') ∧ ∀ x H', J.yld i H x H' → g x σ H' fun σ2 H2 => tb { D with nx := N, ct := N, bk := D.nx } σ2 H2)
theorem for_core {T : Tg} {g : TG} {evb : Env → FL} {dead msb : List Nat} {μE : Option (List Md)} (hT : TgS c T μ.length g)
    (hE : ∀ m, μE = some m → Le (msets μ dead .dead) m) (hn : μE = none → ∀ ρ ρ', evb ρ ≠ .nx ρ') (hk : Keeps evb msb) {E : Ends} {J : It} {H1 F1 : Hp} {xs : List D} (S1 : SR c μ ρ σ H1 F1) (wk : Walk c [] ρ σ F1 J xs)
    (h : FK c W μ (some (msets μ dead .dead)) μc (tgSlots T ++ (dead ++ msb)) fr ρ E F1 (forL dead (turnF T evb) xs ρ)) :
    LoopG g (rS c W (msets (msets μ dead .dead) (tgSlots T) .imm) μE (msets μ dead .dead) msb fr evb) E σ J H1 := by
  generalize ht : forL dead (turnF T evb) xs ρ = total at h
  refine ⟨fun i n σ H => n = xs.length - i ∧ i ≤ xs.length ∧ ∃ ρi F, SR c (msets μ dead .dead) ρi σ H F ∧ Same F1 F ∧ (∀ j : Nat, j ∉ tgSlots T ++ (dead ++ msb) → getE ρi j = getE ρ j) ∧ forL dead (turnF T evb) (xs.drop i) ρi = total,
    ⟨xs.length, by simp, Nat.zero_le _, ρ, F1, S1.dead _, Same.refl _, fun _ _ => rfl, by simpa using ht⟩, ?_⟩
  rintro i n σ2 H2 ⟨rfl, hle, ρi, F2, S2, e2, k2, q2⟩
  have SK : SR c (msets μ dead .dead) (killAll ρi dead) σ2 H2 F2 := by
    refine S2.kill rfl rfl (length_killAll _ _) fun j k hj hk => ⟨hj, rfl, ?_⟩
    by_cases hjd : j ∈ dead
    · exact absurd (msets_in hjd hj) hk
    · exact getE_killAll hjd
  have wk2 := wk i H2 F2 _ _ σ2 SK e2 fun j hj => by simp at hj
  by_cases hlt : i < xs.length
  · obtain ⟨x, hx⟩ : ∃ x, xs[i]? = some x := ⟨_, List.getElem?_eq_getElem hlt⟩
    have hdr : xs.drop i = x :: xs.drop (i + 1) := by
      rw [List.drop_eq_getElem_cons hlt]
      rw [List.getElem?_eq_getElem hlt] at hx
      cases hx; rfl
    rw [hdr] at q2
    unfold forL at q2
    obtain ⟨go, yl⟩ := wk2.2 x hx
    refine .inr ⟨go, fun σ' H' => ∃ m', m' < xs.length - i ∧ m' = xs.length - (i + 1) ∧ i + 1 ≤ xs.length ∧ ∃ ρi F, SR c (msets μ dead .dead) ρi σ' H' F ∧ Same F1 F ∧ (∀ j : Nat, j ∉ tgSlots T ++ (dead ++ msb) → getE ρi j = getE ρ j) ∧ forL dead (turnF T evb) (xs.drop (i + 1)) ρi = total, fun σ' H' p => ?_, fun v H' hy => ?_⟩
    · obtain ⟨m', h1, p⟩ := p
      exact ⟨m', h1, p⟩
    · obtain ⟨F3, e3, rx⟩ := yl v H' hy
      have S3 := SK.ext e3
      cases qb : bindT T x (killAll ρi dead) with
      | stuck =>
        have : turnF T evb x (killAll ρi dead) = .stuck := by unfold turnF; rw [qb]; rfl
        rw [this] at q2
        subst q2
        exact h.elim
      | exc y r => exact absurd qb bindT_noexc
      | ok ρ' =>
        have hturn : turnF T evb x (killAll ρi dead) = evb ρ' := by unfold turnF; rw [qb]; rfl
        rw [hturn] at q2
        refine hT x v σ2 H' F3 (killAll ρi dead) ρ' _ e3.sub rx (by rw [S3.lenS, msets_length]) (by rw [S3.lenR, msets_length]) qb fun σ' U _ => ?_
        have SB := S3.upd U
        have eF3 : Same F1 F3 := e2.trans (e3.frs S2.sub)
        have keep : ∀ j : Nat, j ∉ tgSlots T ++ (dead ++ msb) → getE ρ' j = getE ρ j := fun j hj => by
          have hj2 := hj
          rw [List.mem_append, List.mem_append, not_or, not_or] at hj2
          rw [(U.out j hj2.1).2, getE_killAll hj2.2.1, k2 j hj]
        refine ⟨ρ', F3, SB, ?_⟩
        have again : ∀ {ρ2 : Env} {σ' : L2.St} {H' F' : Hp}, (evb ρ' = .nx ρ2 ∨ evb ρ' = .ct ρ2) → SR c (msets μ dead .dead) ρ2 σ' H' F' → Same F3 F' → forL dead (turnF T evb) (xs.drop (i + 1)) ρ2 = total →
            ∃ m', m' < xs.length - i ∧ m' = xs.length - (i + 1) ∧ i + 1 ≤ xs.length ∧ ∃ ρi F, SR c (msets μ dead .dead) ρi σ' H' F ∧ Same F1 F ∧ (∀ j : Nat, j ∉ tgSlots T ++ (dead ++ msb) → getE ρi j = getE ρ j) ∧ forL dead (turnF T evb) (xs.drop (i + 1)) ρi = total := fun {ρ2 σ' H' F'} qq S' e' tt =>
          ⟨_, by omega, rfl, hlt, ρ2, F', S', eF3.trans e', fun j hj => by
            have hj2 := hj
            rw [List.mem_append, List.mem_append, not_or, not_or] at hj2
            rw [hk ρ' ρ2 qq j hj2.2.2, keep j hj], tt⟩
        cases q3 : evb ρ' with
        | nx ρ2 =>
          rw [q3] at q2
          cases hμ : μE with
          | none => exact absurd q3 (hn hμ ρ' ρ2)
          | some m => exact fun σ' H' F' S' e' => again (.inl q3) (Le.sr (hE m hμ) S') e' q2
        | ct ρ2 =>
          rw [q3] at q2
          exact fun σ' H' F' S' e' => again (.inr q3) S' e' q2
        | rt d =>
          rw [q3] at q2
          subst q2
          exact h
        | exc y r =>
          rw [q3] at q2
          subst q2
          intro σ' H' F' cls dx S' e' xr
          refine h σ' H' F' cls dx (S'.excTo (by rw [msets_length, msets_length]) S1.lenR fun j hj => ?_) (eF3.trans e') xr
          have hj2 := hj
          rw [List.mem_append, List.mem_append, not_or, not_or] at hj2
          exact ⟨hj2.2.2, by rw [msets_out hj2.1, msets_out hj2.2.1], keep j hj⟩
        | stuck => rw [q3] at q2; subst q2; exact h.elim
  · have e : i = xs.length := by omega
    subst e
    rw [List.drop_length] at q2
    subst q2
    exact .inl ⟨wk2.1 (Nat.le_refl _), h σ2 H2 F2 SK e2⟩
theorem s_for {tg iter : Expr} {body : List Stmt} {T : Tg} {g : TG} {evi : Env → R (List D)} {evb : Env → FL} {dead msb : List Nat} {μE : Option (List Md)} (hp : PassesOwn (model X.prog X.w) X.A X.env X.xe) (hc : X.calm = true)
    (hi : PI X tg iter (rI c W μ [] evi)) (hg : PG X tg g) (hT : TgS c T μ.length g) (hb : PSs X body (rS c W (msets (msets μ dead .dead) (tgSlots T) .imm) μE (msets μ dead .dead) msb fr evb))
    (hE : ∀ m, μE = some m → Le (msets μ dead .dead) m) (hn : μE = none → ∀ ρ ρ', evb ρ ≠ .nx ρ') (hk : Keeps evb msb) (hd : ∀ i ∈ tgSlots T, i ∈ dead)
    (hs : ∀ x, foldedSetIterable iter X.env x = pure x) :
    PS X (.For tg iter body [] pos) (rS c W μ (some (msets μ dead .dead)) μc (tgSlots T ++ (dead ++ msb)) fr (evFor T evi dead evb)) := by
  refine (ps_for hp hc hi hg hb hs).weak ?_
  rintro E σ H ⟨ρ, F, S, h⟩
  refine ⟨ρ, F, S, ?_⟩
  have h : FK c W μ (some (msets μ dead .dead)) μc (tgSlots T ++ (dead ++ msb)) fr ρ E F (FL.of (evi ρ) fun xs => forL dead (turnF T evb) xs ρ) := h
  cases q0 : evi ρ with
  | stuck => rw [q0] at h; exact h
  | exc x r =>
    rw [q0] at h
    intro H1 F1 cls dx e1 xr
    exact h σ H1 F1 cls dx ((S.ext e1).dead _) (e1.frs S.sub) xr
  | ok xs =>
    rw [q0] at h
    intro J H1 F1 e1 wk
    exact for_core hT hE hn hk (S.ext e1) wk (FK.up (e1.frs S.sub) h)
/-- raise C('m') -/
theorem s_raise {k : Nat} {C : Addr} (hc : X.calm = true) (tk : Takes X W) (he : PMk X e fun _ H Q => Q (.ref C) none H) (hm : c.mg (excName k) = some (.ref C)) (hk : ¬(k = 8 ∨ k = 9)) :
    PS X (.Raise (some e) none pos) (rS c W μ none μc ms fr fun _ => .exc k 0) := by
  refine (L2.ps_raise hc tk he).weak ?_
  rintro E σ H ⟨ρ, F, S, h⟩
  exact h σ H F (.ref C) none (S.dead ms) (Same.refl _) ⟨C, rfl, hm, by rw [if_neg hk]⟩
/-- name = [.. for ..] on one line -/
theorem s_setLc {y : PySem.Str} {py spos : Pos} {elt tg iter : Expr} {ifs : List Expr} {scope : Scope} {own : List (PySem.Str × Nat)} {src : List Nat} {g : TG} {T : Tg} {evi : Env → R (List D)} {evc : Env → R Bool} {eve : Env → R D} (hc : X.calm = true) (hN : X.N.Nodup)
    (hy : X.N[i]? = some y) (hyl : X.env.scope.names.lookup y = some .local) (hsw : swapsWith (.ListComp elt [⟨tg, iter, ifs, 0⟩] scope pos) (some (.Name y py)) spos.line X.env = pure true) (hl : i < μ.length)
    (hi : PI X tg iter (rI c W μ src evi)) (ok : BlkOk X.N X.env.scope scope own) (hT : TgS c T μ.length g) (hsub : ∀ i ∈ tgSlots T, i ∈ own.map (·.2)) (hsrc : ∀ j ∈ src, μ[j]? = some Md.own ∧ j ∉ own.map (·.2))
    (hg : ∀ (s : Shared) (H : Hp) (C : Addr) (cl : List (PySem.Str × Addr)) (fp : List Addr), PG (X.blk s H scope (compEnvC scope cl C X.env) fp) tg g)
    (ht : ∀ (s : Shared) (H : Hp) (C : Addr) (cl : List (PySem.Str × Addr)) (fp : List Addr), PTs (X.blk s H scope (compEnvC scope cl C X.env) fp) ifs (rT c W0 (msets (msets μ (own.map (·.2)) .dead) (tgSlots T) .imm) evc))
    (he : ∀ (s : Shared) (H : Hp) (C : Addr) (cl : List (PySem.Str × Addr)) (fp : List Addr), PE (X.blk s H scope (compEnvC scope cl C X.env) fp) elt (rE c W0 (msets (msets μ (own.map (·.2)) .dead) (tgSlots T) .imm) .V eve))
    (hs : ∀ x, foldedSetIterable iter X.env x = pure x) (o : Bool) (hio : o = true → ∀ q, c.io ≠ some (i, q)) :
    PS X (.Assign [.Name y py] (.ListComp elt [⟨tg, iter, ifs, 0⟩] scope pos) spos) (rS c W μ (some (μ.set i (if o then .own else .imm))) μc ms fr
      ((if o then evSetO i else evSet i) fun ρ => (evi ρ).bind fun xs => (noX (compM (turnL T evc eve ρ) xs)).bind fun ys => if ys.length ≤ lineN then .ok (.lst ys) else .stuck)) := by
  refine (ps_setLc hc hN hy hyl hsw hi ok hg ht he hs).weak ?_
  cases o with
  | true =>
    intro E σ H h
    exact lc_rd (m := .O) hT hsub hsrc _ _ _ (setO_rd hl (hio rfl) E σ H h)
  | false =>
    intro E σ H h
    exact lc_rd (m := .V) hT hsub hsrc _ _ _ (set_rd hl E σ H h)
end
end Mi

/-! Mi, part C7: more built-in functions: sorted, dict, max of three, get. -/
namespace Mi
open PySem L2 PySem.Spec PyProof.Rows

section
variable {X : Cx} {c : Cn} {m : RM} {W : WX} {μ : List Md}
theorem each_vals {F : Hp} : ∀ {ds : List D} {vs : List V} {us : List Value}, Rps c F ds vs → Vals vs us → PySem.W.EachIs (fun (u : Value) (d : D) => ∃ v, RelV v u ∧ Rp c F d v) us ds
  | [], vs, us, h, r => by
    simp only [Rps] at h
    subst h
    cases r
    exact .nil
  | d :: ds, vs, us, h, r => by
    simp only [Rps] at h
    obtain ⟨v, vs', rfl, h1, h2⟩ := h
    cases r with
    | cons r1 r2 => exact .cons ⟨v, r1, h1⟩ (each_vals h2 r2)
theorem vals_each {F : Hp} : ∀ {ds : List D} {us : List Value}, PySem.W.EachIs (fun (u : Value) (d : D) => ∃ v, RelV v u ∧ Rp c F d v) us ds → ∃ vs, Vals vs us ∧ Rps c F ds vs
  | [], us, h => by
    cases h
    exact ⟨[], .nil, .nil⟩
  | d :: ds, us, h => by
    cases h with
    | cons h1 h2 =>
      obtain ⟨v, r1, r2⟩ := h1
      obtain ⟨vs, q1, q2⟩ := vals_each h2
      exact ⟨v :: vs, .cons r1 q1, .cons r2 q2⟩
theorem py_some {d : D} {p : PyData} (h : d.py = some p) : pyOf d = p := by unfold pyOf; rw [h]; rfl
theorem b_sorted (hK : X.K = c.K) (hu : X.A.units + 66 < cLine) : OpN X c m (.builtin "sorted") (bltD .sorted) := by
  intro pins s σ H xs us Q I r h
  obtain ⟨F, ds, d, sF, rb, e, w⟩ := h
  match ds with
  | [] => cases e
  | _ :: _ :: _ => cases e
  | [dx] =>
    obtain ⟨v, rfl, rb1⟩ := Rbs.one rb
    have e : sortedD dx = some d := e
    unfold sortedD at e
    rw [Option.bind_eq_some_iff] at e
    obtain ⟨zs, e1, e2⟩ := e
    split at e2
    · rename_i hk
      cases e2
      rw [Bool.and_eq_true, decide_eq_true_eq] at hk
      obtain ⟨hk, hz⟩ := hk
      cases dx <;> simp only [lstOf] at e1 <;> try contradiction
      cases e1
      obtain ⟨a, vs, rfl, h1, h2⟩ := rb1.lst sF
      obtain ⟨u, rfl, ru⟩ := Vals.one r
      cases ru
      rw [← hK] at h1
      obtain ⟨its, rv, pl, hzz⟩ := I.list h1
      unfold sortOk at hk
      simp only [Bool.and_eq_true, List.all_eq_true, decide_eq_true_eq, Bool.or_eq_true] at hk
      obtain ⟨⟨hpy, hal⟩, hso⟩ := hk
      have hev := each_vals h2 rv
      have er : PySem.W.EachIs (fun (u : Value) (d : D) => ∃ as, Reads s.heap u (pyOf d) as) its zs := by
        have : ∀ {ds : List D} {us : List Value}, PySem.W.EachIs (fun (u : Value) (d : D) => ∃ v, RelV v u ∧ Rp c F d v) us ds → (∀ d ∈ ds, (d.py).isSome = true) → PySem.W.EachIs (fun (u : Value) (d : D) => ∃ as, Reads s.heap u (pyOf d) as) us ds := by
          intro ds us h
          induction h with
          | nil => intro _; exact .nil
          | cons h1 h2 ih =>
            intro hp
            obtain ⟨v, r1, r2⟩ := h1
            obtain ⟨p, hp1⟩ := Option.isSome_iff_exists.mp (hp _ List.mem_cons_self)
            refine .cons ?_ (ih fun d hd => hp d (List.mem_cons_of_mem _ hd))
            rw [py_some hp1]
            have := Rp.dp sF _ _ _ r2 hp1
            rw [← hK] at this
            exact Dp.reads I _ _ _ this r1
        exact this hev fun d hd => (hpy d hd).1
      have alk : PySem.W.AllAlike (zs.map pyOf) := by
        intro p hp q hq
        obtain ⟨x, hx, rfl⟩ := List.mem_map.mp hp
        obtain ⟨y, hy, rfl⟩ := List.mem_map.mp hq
        unfold alikeB at hal
        rw [List.all_eq_true] at hal
        have := hal x hx
        rw [List.all_eq_true] at this
        exact this y hy
      have srt : PySem.W.Sortable (zs.map pyOf) := by
        rcases hso with hso | hso
        · refine .inl fun p hp => ?_
          obtain ⟨x, hx, rfl⟩ := List.mem_map.mp hp
          have := hso x hx
          unfold headTup at this
          split at this
          · rename_i y r q
            exact ⟨y, r, q⟩
          · cases this
        · refine .inr fun p hp => ?_
          obtain ⟨x, hx, rfl⟩ := List.mem_map.mp hp
          have := hso x hx
          unfold noTup at this
          split at this
          · cases this
          · cases this
          · rename_i q1 q2
            exact ⟨q2, fun ys e => q1 ys e⟩
      rw [lineN_eq] at hz
      refine PySem.W.sorted_data (vs := its) (bs := zs) (enc := pyOf) pl.isList hev er alk srt hz (fun b hb => ?_) fun out ho hout => ?_
      · have := (hpy b hb).2
        omega
      · obtain ⟨vs', q1, q2⟩ := vals_each hout
        obtain ⟨ep, he'⟩ := PyProof.Rows.sortedAll_at s.heap its out.toArray
        have hln : vs'.length ≤ sizeLine := by rw [q1.length, ho]; exact hz
        have hnone : H (s.heap.objs.size + 1) = none := I.hok.fresh (Nat.le_succ _)
        exact ⟨.ref _, upd H (s.heap.objs.size + 1) (.lst vs'), I.laid (t' := s.toks) (fun _ _ => PyProof.Rows.sortedAll_old) (Nat.le_succ _) ⟨hln, out, ep, q1, he'⟩, rfl, w.lst sF hnone q2⟩
    · cases e2

/-- dict(xs) -/
theorem PlT.obj {s : Shared} {σ : L2.St} {H F : Hp} {pins : List (Addr × Obj)} {a : Addr} (I : Inv X pins σ H s) (sF : Same F H) (hK : X.K = c.K) (h : PlT c.K F a) : ∃ o, s.heap.get? a = some o ∧ o.dict = none := by
  rcases h with ⟨o, xs, h1, h2⟩ | ⟨o, h1, h2⟩
  · exact ⟨o, (I.hok a _ (sF _ _ h1)).1, h2⟩
  · exact ⟨o, I.kIn a o (by rw [hK]; exact h1), h2⟩
theorem look_pairs {F : Hp} : ∀ {ds : List D} {ps : List (Key × D)}, dictOf ds = some ps → ds = ps.map fun p => .tup [keyD p.1, p.2]
  | [], ps, h => by cases h; rfl
  | d :: ds, ps, h => by
    simp only [dictOf, Option.bind_eq_some_iff, Option.map_eq_some_iff] at h
    obtain ⟨p, h1, qs, h2, rfl⟩ := h
    rw [List.map_cons, ← look_pairs (F := F) h2]
    congr 1
    unfold pairOf at h1
    split at h1
    · rename_i k v
      rw [Option.map_eq_some_iff] at h1
      obtain ⟨q, h1, rfl⟩ := h1
      cases k <;> simp only [keyOf] at h1 <;> cases h1 <;> rfl
    · cases h1

abbrev pairT (p : Key × D) : D := .tup [keyD p.1, p.2]
theorem Rp.keyV {F : Hp} {k : Key} {v : V} (h : Rp c F (keyD k) v) : v = kV k := by
  cases k <;> simpa [keyD, Rp, kV] using h
/-- the pairs as they lie -/
theorem dict_items {s : Shared} {σ : L2.St} {H F : Hp} {pins : List (Addr × Obj)} (I : Inv X pins σ H s) (sF : Same F H) (hK : X.K = c.K) : ∀ {ps : List (Key × D)} {vs : List V} {its : List Value}, Rps c F (ps.map pairT) vs → Vals vs its →
    ∃ (Ts : List Addr) (pr : List (Value × Value)) (kv : List (Key × Value)) (kw : List (Key × V)), its = Ts.map Value.ref ∧ pr.length = ps.length ∧ kv.length = ps.length ∧ Ts.length = ps.length ∧ KV kw kv ∧ Rpk c F ps kw ∧
      (∀ (j : Nat) (k v : Value), pr[j]? = some (k, v) → ∃ (b : Addr) (q : Key), Ts[j]? = some b ∧ IsTup s.heap b #[k, v] ∧ kv[j]? = some (q, v) ∧ keyIs q k = true)
  | [], vs, its, h, r => by
    simp only [List.map_nil, Rps] at h
    subst h
    cases r
    exact ⟨[], [], [], [], rfl, rfl, rfl, rfl, .nil, by simp [Rpk], fun j k v e => by simp at e⟩
  | p :: ps, vs, its, h, r => by
    simp only [List.map_cons, Rps] at h
    obtain ⟨v, vs', rfl, h1, h2⟩ := h
    cases r with
    | cons r1 r2 =>
      obtain ⟨Ts, pr, kv, kw, e1, e2, e3, e4, e5, e6, e7⟩ := dict_items I sF hK h2 r2
      simp only [Rp] at h1
      obtain ⟨a, ws, rfl, g1, g2, _⟩ := h1
      simp only [Rps] at g2
      obtain ⟨wk, ws', rfl, g3, wv, ws'', rfl, g4, rfl⟩ := g2
      cases r1
      have g1 := SqT.mono sF g1
      rw [← hK] at g1
      obtain ⟨it, ri, ht, _⟩ := I.tuple g1
      obtain ⟨uk, uv, rfl, ru, rv⟩ := vals2 ri
      have hk := Rp.keyV g3
      subst hk
      refine ⟨a :: Ts, (uk, uv) :: pr, (p.1, uv) :: kv, (p.1, wv) :: kw, by rw [e1]; rfl, by simp [e2], by simp [e3], by simp [e4], .cons ⟨rfl, rv⟩ e5, ?_, fun j k v e => ?_⟩
      · simp only [Rpk]; exact ⟨wv, kw, rfl, g4, e6⟩
      · cases j with
        | zero =>
          have e : (uk, uv) = (k, v) := by simpa using e
          cases e
          exact ⟨a, p.1, rfl, ht, rfl, kV_is (P := X.prog) (w := X.w) ru⟩
        | succ j =>
          obtain ⟨b, q, f1, f2, f3, f4⟩ := e7 j k v (by simpa using e)
          exact ⟨b, q, by simpa using f1, f2, by simpa using f3, f4⟩
theorem Rpk.merge {F : Hp} : ∀ {ps : List (Key × D)} {kw : List (Key × V)} {qs : List (Key × D)} {kz : List (Key × V)}, Rpk c F ps kw → Rpk c F qs kz → Rpk c F (putAll qs ps) (mergeK kz kw)
  | [], kw, qs, kz, h, k => by
    simp only [Rpk] at h
    subst h
    exact k
  | (q, d) :: ps, kw, qs, kz, h, k => by
    simp only [Rpk] at h
    obtain ⟨v, r, rfl, h1, h2⟩ := h
    exact Rpk.merge (qs := putK q d qs) (kz := L2.putK kz q v) h2 (Rpk.put h1 q k)
theorem b_dict (hK : X.K = c.K) (hc : X.calm = true) : OpN X c m (.type "dict") (bltD .dict) := by
  intro pins s σ H xs us Q I r h
  obtain ⟨F, ds, d, sF, rb, e, w⟩ := h
  match ds with
  | [] => cases e
  | _ :: _ :: _ => cases e
  | [dx] =>
    obtain ⟨v, rfl, rb1⟩ := Rbs.one rb
    have e : dictD dx = some d := e
    obtain ⟨u, rfl, ru⟩ := Vals.one r
    have fin : ∀ {T : String} {a : Addr} {fp wr : List Addr} {n : Nat} {Rel : Nat → Value → Value → Prop} {OK : Heap → Prop} {ps : List (Key × D)} {kv : List (Key × Value)} {kw : List (Key × V)}, PairArg X.prog X.w T a fp wr n Rel OK → wr = [] → OK s.heap → PairsHave (mixKind X.prog X.w) n Rel kv → n ≤ sizeLine → n = kw.length → KV kw kv → Rpk c F ps kw → d = .dct (putAll [] ps) →
        wpAny (model X.prog X.w) X.A (call (.type "dict") [.ref a]) (EP X pins σ Q) X.xe s := fun {T a fp wr n Rel OK ps kv kw} P hw ok hp hn hl kr rp hd => by
      subst hd
      refine call_dict_pairs P (I.ok.hd hc) ok hp hn fun h' tk hd' k => ?_
      have hm : (s.heap.objs.size == sysModules) = false := beq_eq_false_iff_ne.mpr (Nat.ne_of_gt I.big)
      have hlen : (mergeK [] kw).length ≤ sizeLine := by
        have := length_mergeK kw []
        simp only [List.length_nil] at this
        omega
      have hf : H s.heap.objs.size = none := I.hok.fresh (Nat.le_refl _)
      exact ⟨.ref s.heap.objs.size, upd H s.heap.objs.size (.dK (mergeK [] kw)), I.laid (t' := tk) (fun b o eo => k b o (by rw [hw]; simp) eo) (Nat.le_refl _) (show ObjOk X.prog X.w _ _ _ (.dK (mergeK [] kw)) from ⟨hlen, hm, merged [] kv, KV.merge kr .nil, hd'⟩), rfl,
        w.dct sF hf (Rpk.merge rp (by simp [Rpk]))⟩
    have pack : ∀ {zs : List D} {ps : List (Key × D)} {vs : List V} {its : List Value}, dictOf zs = some ps → Rps c F zs vs → Vals vs its → zs.length < lineN →
        ∃ (Ts : Nat → Addr) (pr : List (Value × Value)) (kv : List (Key × Value)) (kw : List (Key × V)), PairItems s.heap its.toArray Ts pr ∧ PairsHave (mixKind X.prog X.w) pr.length (PairRel pr) kv ∧ pr.length ≤ sizeLine ∧ pr.length = kw.length ∧ KV kw kv ∧ Rpk c F ps kw := fun {zs ps vs its} e1 h2 rv hz => by
      have ez := look_pairs (F := F) e1
      subst ez
      obtain ⟨Ts, pr, kv, kw, q1, q2, q3, q4, q5, q6, q7⟩ := dict_items I sF hK h2 rv
      refine ⟨fun j => Ts.getD j 0, pr, kv, kw, ⟨by rw [q1]; simp [q4, q2], fun j k v ej => ?_⟩, ⟨by rw [q3, q2], fun i k v ei => ?_⟩, ?_, ?_, q5, q6⟩
      · obtain ⟨b, q, f1, f2, f3, f4⟩ := q7 j k v ej
        refine ⟨?_, .inl ?_⟩
        · rw [q1]; simp [f1, List.getD_eq_getElem?_getD]
        · show s.heap.IsTuple (Ts.getD j 0) #[k, v]
          rw [List.getD_eq_getElem?_getD, f1]; exact f2
      · obtain ⟨b, q, f1, f2, f3, f4⟩ := q7 i k v ei
        exact ⟨q, f3, f4⟩
      · rw [lineN_eq] at hz
        rw [List.length_map] at hz
        omega
      · rw [q2, q6.length]
    cases dx <;> simp only [dictD] at e <;> try contradiction
    · split at e
      · rename_i zs hk
        rw [Bool.and_eq_true, decide_eq_true_eq] at hk
        rw [Option.map_eq_some_iff] at e
        obtain ⟨ps, e1, hd⟩ := e
        rcases rb1 with rx | ⟨_, _, rx⟩
        · simp only [Rp] at rx
          obtain ⟨a, vs, rfl, h1, h2, h3⟩ := rx
          cases ru
          obtain ⟨o, ho, hdn⟩ := (h3 hk.2).obj I sF hK
          have h1 := SqT.mono sF h1
          rw [← hK] at h1
          obtain ⟨its, rv, ht, _⟩ := I.tuple h1
          obtain ⟨Ts, pr, kv, kw, q1, q2, q3, q4, q5, q6⟩ := pack e1 h2 rv hk.1
          obtain ⟨o', ho', hc', n, hdat⟩ := ht
          rw [ho] at ho'
          cases ho'
          exact fin (PairArg.tuple a its.toArray Ts pr) rfl ⟨⟨o, n, ho, hc', hdn, hdat⟩, q1⟩ q2 q3 q4 q5 q6 hd.symm
        · simp only [Ob] at rx
      · cases e
    · split at e
      · rename_i zs hk
        rw [Option.map_eq_some_iff] at e
        obtain ⟨ps, e1, hd⟩ := e
        obtain ⟨a, vs, rfl, h1, h2⟩ := rb1.lst sF
        cases ru
        rw [← hK] at h1
        obtain ⟨its, rv, pl, hz⟩ := I.list h1
        obtain ⟨Ts, pr, kv, kw, q1, q2, q3, q4, q5, q6⟩ := pack e1 h2 rv hk
        obtain ⟨o, n, ho, hco, hdo, hdat⟩ := pl
        exact fin (PairArg.list a its.toArray Ts pr) rfl ⟨⟨o, n, ho, hco, hdo, hdat⟩, q1⟩ q2 q3 q4 q5 q6 hd.symm
      · cases e

/-! d.get -/
variable {pos apos : Pos} {a b d e : Expr} {eva evb evd : Env → R D}
theorem Want.rp' {F H H' F' : Hp} {dd : D} {v : V} {Q : VK} (hm : m ≠ .O) (w : Want c m F H dd Q) (e : Ext H F H' F') (r : Rp c F' dd v) : Q v H' := by
  refine w v H' F' e ?_
  cases m
  · exact .inl r
  · exact r
  · exact absurd rfl hm
theorem e_get1 (hu : X.A.units + 1 < cLine) (hm : m ≠ .O) (ha : PE X a (rE c W μ .B eva)) (hb : PE X b (rE c W μ .B evb)) (M : M1 X a "get" apos b pos) :
    PE X (.Call (.Attribute a "get" apos) [b] [] pos) (rE c W μ m fun ρ => (eva ρ).bind fun x => (R.of (mthRc .get x)).bind fun _ => (evb ρ).bind fun k => R.of (mthD .get x [k])) := by
  refine (pe_dget1 hu ha hb M).weak ?_
  rintro σ H Q ⟨ρ, F, S, h⟩
  refine ⟨ρ, F, S, RK.imp h.bnd fun dx hx => ?_⟩
  intro vx H1 F1 e1 rx
  obtain ⟨_, q1, hx⟩ := (RK.bnd (RK.mono (fun _ => WD.mono e1) hx e1)).of
  cases dx <;> simp only [mthRc] at q1 <;> try contradiction
  obtain ⟨x, us, rfl, h1, h2⟩ := rx.dct e1.sub
  refine ⟨x, rfl, .inl ⟨us, .inl h1⟩, ρ, F1, S.ext e1, RK.imp (RK.bnd hx) fun dk hk => ?_⟩
  intro vk H2 F2 e2 rk
  obtain ⟨z, q2, hz⟩ := (RK.mono (fun _ => WD.mono e2) hk e2).of
  simp only [mthD, Option.map_eq_some_iff] at q2
  obtain ⟨k, q3, rfl⟩ := q2
  have rk : Rb c F2 H2 dk vk := rk
  have h2 := Rpk.mono (e2.frs e1.sub) _ _ h2
  obtain ⟨g1, g2⟩ := Rpk.get k h2
  refine ⟨valV us k, by rw [rk.key q3]; exact DGet.k (e2.same _ _ h1), ?_⟩
  cases q : look k _ with
  | none =>
    rw [g2 q]
    rw [q] at hz
    have hz : Want c m F2 H2 .non Q := hz
    exact hz.non e2.sub
  | some d0 =>
    obtain ⟨v0, f1, f2⟩ := g1 d0 q
    rw [f1]
    rw [q] at hz
    have hz : Want c m F2 H2 d0 Q := hz
    exact hz.rp' hm (Ext.refl e2.sub) f2
theorem e_get2 (hu : X.A.units + 1 < cLine) (hm : m ≠ .O) (ha : PE X a (rE c W μ .B eva)) (hb : PE X b (rE c W μ .B evb)) (hd : PE X d (rE c W μ .V evd)) (M : M2 X a "get" apos b d pos) :
    PE X (.Call (.Attribute a "get" apos) [b, d] [] pos) (rE c W μ m fun ρ => (eva ρ).bind fun x => (R.of (mthRc .get3 x)).bind fun _ => (evb ρ).bind fun k => (evd ρ).bind fun z => R.of (mthD .get3 x [k, z])) := by
  refine (pe_dget2 hu ha hb hd M).weak ?_
  rintro σ H Q ⟨ρ, F, S, h⟩
  refine ⟨ρ, F, S, RK.imp h.bnd fun dx hx => ?_⟩
  intro vx H1 F1 e1 rx
  obtain ⟨_, q1, hx⟩ := (RK.bnd (RK.mono (fun _ => WD.mono e1) hx e1)).of
  cases dx <;> simp only [mthRc] at q1 <;> try contradiction
  obtain ⟨x, us, rfl, h1, h2⟩ := rx.dct e1.sub
  refine ⟨x, rfl, .inl ⟨us, .inl h1⟩, ρ, F1, S.ext e1, RK.imp (RK.bnd hx) fun dk hk => ?_⟩
  intro vk H2 F2 e2 rk
  have hk := RK.mono (fun _ => WD.mono e2) hk e2
  refine ⟨ρ, F2, (S.ext e1).ext e2, RK.imp (RK.bnd hk) fun dz hz => ?_⟩
  intro vz H3 F3 e3 rz
  obtain ⟨z, q2, hz⟩ := (RK.mono (fun _ => WD.mono e3) hz e3).of
  simp only [mthD, Option.map_eq_some_iff] at q2
  obtain ⟨k, q3, rfl⟩ := q2
  have rk : Rb c F2 H2 dk vk := rk
  have e23 := e2.trans e3
  have h2 := Rpk.mono (e23.frs e1.sub) _ _ h2
  obtain ⟨g1, g2⟩ := Rpk.get k h2
  refine ⟨valV us k, by rw [rk.key q3]; exact DGet.k (e23.same _ _ h1), ?_⟩
  cases q : look k _ with
  | none =>
    rw [g2 q]
    rw [q] at hz
    have hz : Want c m F3 H3 dz Q := hz
    exact hz.rp' hm (Ext.refl e3.sub) rz
  | some d0 =>
    obtain ⟨v0, f1, f2⟩ := g1 d0 q
    rw [f1]
    rw [q] at hz
    have hz : Want c m F3 H3 d0 Q := hz
    exact hz.rp' hm (Ext.refl e3.sub) f2

theorem nu_max3 (i j k : Int) : nuMax3 (.int i) (.int j) (.int k) = some (.int (max (max i j) k)) := by
  have h2 : ∀ a b : Int, nuMax2 (.int a) (.int b) = some (.int (max a b)) := fun a b => by
    show (some (decide (a < b))).map (fun c => if c = true then V.int b else V.int a) = _
    by_cases h : a < b
    · simp [h]; omega
    · simp [h]; omega
  show (nuMax2 (.int i) (.int j)).bind (fun m => nuMax2 m (.int k)) = _
  rw [h2]
  exact h2 _ _
theorem b_max3 (hc : X.calm = true) : OpN X c m (.builtin "max") (bltD .max3) := by
  refine CallR.imp (call_max3Nu hc) ?_
  rintro xs H Q ⟨F, ds, d, s, r, e, w⟩
  match ds, e with
  | [x, y, z], e =>
    have e : ((mm2D max x y).bind fun w => mm2D max w z) = some d := e
    rw [Option.bind_eq_some_iff] at e
    obtain ⟨w1, e1, e2⟩ := e
    obtain ⟨i, j, rfl, rfl, rfl⟩ := mm2_inv e1
    obtain ⟨i2, k, e3, rfl, rfl⟩ := mm2_inv e2
    cases e3
    simp only [Rbs] at r
    obtain ⟨v1, _, rfl, r1, v2, _, rfl, r2, v3, _, rfl, r3, rfl⟩ := r
    exact ⟨_, _, _, _, rfl, by rw [r1.int, r2.int, r3.int]; exact nu_max3 i j k, w.int s⟩
end
end Mi

/-! Mi, part C8: slices with a step. -/
namespace Mi
open PySem L2 PySem.Spec PyProof.Rows
theorem pick_step (items : Array Value) (l c : Nat) (hc : 0 < c) : slicePick items (some (l : Int)) none (some (c : Int)) = (everyL c (items.toList.drop l)).toArray := by
  have hcp : (c : Int) > 0 := by omega
  unfold slicePick sliceBounds everyL
  simp only [Option.getD_some, hcp, if_true, gt_iff_lt, if_neg (show ¬ ((l : Int) < 0) by omega)]
  congr 1
  unfold sliceRange
  simp only [hcp, gt_iff_lt, if_true]
  rw [List.filterMap_map]
  by_cases hl : l < items.size
  · have e1 : max 0 (min (l : Int) (items.size : Int)) = (l : Int) := by omega
    rw [e1, if_pos (by omega)]
    have e2 : (((items.size : Int) - (l : Int) + (c : Int) - 1) / (c : Int)).toNat = ((items.toList.drop l).length + (c - 1)) / c := by
      rw [List.length_drop, Array.length_toList]
      have : (items.size : Int) - (l : Int) + (c : Int) - 1 = ((items.size - l + (c - 1) : Nat) : Int) := by omega
      rw [this, ← Int.natCast_ediv, Int.toNat_natCast]
    rw [e2]
    congr 1
    funext m
    show items[((l : Int) + (c : Int) * (m : Int)).toNat]? = _
    rw [List.getElem?_drop, Array.getElem?_toList]
    congr 1
    rw [show ((l : Int) + (c : Int) * (m : Int)) = ((l + m * c : Nat) : Int) by push_cast; rw [Int.mul_comm]]
    exact Int.toNat_natCast _
  · have e1 : max 0 (min (l : Int) (items.size : Int)) = (items.size : Int) := by omega
    rw [e1, if_neg (by omega)]
    have e2 : (items.toList.drop l) = [] := List.drop_eq_nil_of_le (by rw [Array.length_toList]; omega)
    rw [e2]
    have : ((0 + (c - 1)) / c) = 0 := Nat.div_eq_of_lt (by omega)
    simp [this]

section
variable {X : Cx} {c : Cn} {m : RM} {W : WX} {μ : List Md} {pos p2 : Pos} {a b d : Expr} {eva evb evd : Env → R D}
theorem everyL_rps {F : Hp} {ds : List D} {vs : List V} (h : Rps c F ds vs) (k : Nat) : Rps c F (everyL k ds) (everyL k vs) := by
  unfold everyL
  rw [h.length]
  generalize (ds.length + (k - 1)) / k = n
  induction n with
  | zero => exact .nil
  | succ n ih =>
    rw [List.range_succ, List.filterMap_append, List.filterMap_append]
    refine ih.append ?_
    simp only [List.filterMap_cons, List.filterMap_nil]
    cases q : ds[n * k]? with
    | none =>
      have : vs[n * k]? = none := by
        rw [List.getElem?_eq_none_iff] at q ⊢
        rw [h.length]; exact q
      rw [this]; exact .nil
    | some x =>
      obtain ⟨v, e1, r⟩ := h.get q
      rw [e1]
      exact .cons r .nil
theorem everyL_vals {vs : List V} {us : List Value} (h : Vals vs us) (k : Nat) : Vals (everyL k vs) (everyL k us) := by
  unfold everyL
  rw [h.length]
  generalize (us.length + (k - 1)) / k = n
  induction n with
  | zero => exact .nil
  | succ n ih =>
    rw [List.range_succ, List.filterMap_append, List.filterMap_append]
    refine Vals.append ih ?_
    simp only [List.filterMap_cons, List.filterMap_nil]
    cases q : vs[n * k]? with
    | none =>
      have : us[n * k]? = none := by
        rw [List.getElem?_eq_none_iff] at q ⊢
        rw [← h.length]; exact q
      rw [this]; exact .nil
    | some x =>
      obtain ⟨u, e1, r⟩ := h.get q
      rw [e1]
      exact .cons r .nil
theorem everyL_len {α : Type} (xs : List α) (k : Nat) (hk : 0 < k) : (everyL k xs).length ≤ xs.length := by
  unfold everyL
  refine Nat.le_trans (List.length_filterMap_le _ _) ?_
  rw [List.length_range]
  rcases Nat.eq_zero_or_pos xs.length with h | h
  · rw [h, Nat.div_eq_of_lt (by omega)]; exact Nat.le_refl _
  · rw [Nat.div_le_iff_le_mul_add_pred hk]
    have := Nat.mul_le_mul_right xs.length hk
    omega
/-- xs[lo::st] -/
theorem e_sls (hK : X.K = c.K) (ha : PE X a (rE c W μ .B eva)) (hb : PE X b (rE c W μ .B evb)) (hd : PE X d (rE c W μ .B evd)) :
    PE X (.Subscript a (.Slice (some b) none (some d) p2) pos) (rE c W μ m fun ρ => (eva ρ).bind fun x => (evb ρ).bind fun l => (R.of (intOf l)).bind fun l => (evd ρ).bind fun k => (R.of (intOf k)).bind fun k => R.of (sliceStepD x l k)) := by
  refine ⟨fun pins s σ H Q I h => ?_⟩
  obtain ⟨ρ, F, S, h⟩ := h
  refine Subscript_ (thn (ha.run pins s σ H (fun vx H1 => ∃ F1 dx, Ext H F H1 F1 ∧ Rb c F1 H1 dx vx ∧ RK c W σ (WD c m Q) F1 H1 ((evb ρ).bind fun l => (R.of (intOf l)).bind fun l => (evd ρ).bind fun k => (R.of (intOf k)).bind fun k => R.of (sliceStepD dx l k))) I ⟨ρ, F, S, ?_⟩) fun v s1 ⟨x, H1, I1, r1, F1, dx, e1, rx, h1⟩ => ?_)
  · exact RK.imp (RK.bnd h) fun dx hx vx H1 F1 e1 rx => ⟨F1, dx, e1, rx, RK.mono (fun _ => WD.mono e1) hx e1⟩
  have S1 := S.ext e1
  refine wpAny_Slice (thn ((po_some hb).run pins s1 σ H1 (fun o H2 => ∃ F2 l, o = some l ∧ Ext H1 F1 H2 F2 ∧ RK c W σ (WD c m Q) F2 H2 ((evd ρ).bind fun k => (R.of (intOf k)).bind fun k => R.of (sliceStepD dx l k))) I1 ⟨ρ, F1, S1, ?_⟩) fun vl s2 ⟨lo, H2, I2, pl, F2, l, el, e2, h2⟩ => ?_)
  · refine RK.imp (RK.bnd h1) fun dl hl vl H2 F2 e2 rl => ?_
    obtain ⟨l, q1, hl2⟩ := (RK.bnd (RK.mono (fun _ => WD.mono e2) hl e2)).of
    obtain rfl := intOf_inv q1
    have rl : Rb c F2 H2 (.int l) vl := rl
    exact ⟨l, rl.int, F2, l, rfl, e2, hl2⟩
  subst el
  have S2 := S1.ext e2
  refine thn (po_none.run pins s2 σ H2 (fun o H3 => o = none ∧ H3 = H2) I2 ⟨rfl, rfl⟩) fun vu s3 ⟨hi, H3, I3, pu, eo, eH⟩ => ?_
  subst eo eH
  refine thn ((po_some hd).run pins s3 σ H3 (fun o H4 => ∃ F4 k, o = some k ∧ Ext H3 F2 H4 F4 ∧ RK c W σ (WD c m Q) F4 H4 (R.of (sliceStepD dx l k))) I3 ⟨ρ, F2, S2, ?_⟩) fun vs s4 ⟨st, H4, I4, ps, F4, k, ek, e4, h4⟩ => ?_
  · refine RK.imp (RK.bnd h2) fun dk hk vk H4 F4 e4 rk => ?_
    obtain ⟨k, q1, hk2⟩ := (RK.bnd (RK.mono (fun _ => WD.mono e4) hk e4)).of
    obtain rfl := intOf_inv q1
    have rk : Rb c F4 H4 (.int k) vk := rk
    exact ⟨k, rk.int, F4, k, rfl, e4, hk2⟩
  subst ek
  obtain ⟨z, q1, hz⟩ := RK.of h4
  obtain ⟨xs, rfl⟩ : ∃ xs, dx = .lst xs := by
    cases dx <;> simp only [sliceStepD] at q1 <;> first | exact ⟨_, rfl⟩ | cases q1
  simp only [sliceStepD] at q1
  split at q1
  · rename_i hq
    cases q1
    simp only [Bool.and_eq_true, decide_eq_true_eq] at hq
    obtain ⟨⟨⟨hk0, hl0⟩, hk1⟩, hl1⟩ := hq
    have e24 := e2.trans e4
    have rx4 : Rb c F4 H4 (.lst xs) x := Rb.mono (e24.frs e1.sub) e24.same rx
    obtain ⟨ad, vs0, rfl, g1, g2⟩ := rx4.lst e4.sub
    cases r1
    have J : Inv X pins σ H4 { s4 with heap := s4.heap.push { cls := .type "slice", data := .fields #[vl, vu, vs] } } := I4.kept (t' := s4.toks) fun b ob q => Heap.get?_push_of_some _ q
    rw [← hK] at g1
    obtain ⟨its, ri, pl0, hzz⟩ := J.list g1
    obtain ⟨l', rfl⟩ := Int.eq_ofNat_of_zero_le hl0
    obtain ⟨k', rfl⟩ := Int.eq_ofNat_of_zero_le (show 0 ≤ k by omega)
    refine tail_any (ops := [.ref ad, .ref s4.heap.objs.size]) pl0.isList.typeIs slot_list_getitem.lookup (wpAny_getItem_list_slice pl0.isList (Heap.IsSliceOf.new ..) pl pu ps (by intro e; have := Option.some.inj e; omega) ?_ (by rw [List.size_toArray, ← ri.length]; exact hzz)) (by with_unfolding_all rfl)
    rw [pick_step _ _ _ (by omega)]
    have hlen := everyL_len ((its.drop l')) k' (by omega)
    have hv : Vals (everyL k' (vs0.drop l')) (everyL k' (its.drop l')) := everyL_vals (ri.drop l') k'
    have hsz : (everyL k' (vs0.drop l')).length ≤ sizeLine := by
      rw [hv.length]
      rw [List.length_drop, ← ri.length] at hlen
      omega
    have hw : Want c m F4 H4 (.lst (everyL k' (xs.drop l'))) Q := hz
    exact ⟨.ref _, _, J.laid (t' := _) (o := .lst (everyL k' (vs0.drop l'))) (fun b ob q => Heap.get?_push_of_some _ q) (Nat.le_refl _) ⟨hsz, _, 0, hv, Heap.get?_push_size _ rfl⟩, rfl, hw.lst e4.sub (J.hok.fresh (Nat.le_refl _)) (everyL_rps (g2.drop l') k')⟩
  · cases q1
end
end Mi

/-! Mi, part C9: sorted(d.items()). -/
namespace Mi
open PySem L2 PySem.Spec PyProof.Rows

theorem paired_at {α β : Type} {R : α → β → Prop} : ∀ {xs : List α} {ys : List β}, xs.length = ys.length → (∀ (j : Nat) (x : α) (y : β), xs[j]? = some x → ys[j]? = some y → R x y) → Paired R xs ys
  | [], [], _, _ => .nil
  | [], _ :: _, h, _ => by simp at h
  | _ :: _, [], h, _ => by simp at h
  | x :: xs, y :: ys, h, k => .cons (k 0 x y rfl rfl) (paired_at (by simpa using h) fun j a b e1 e2 => k (j + 1) a b (by simpa using e1) (by simpa using e2))
section
variable {X : Cx} {c : Cn} {m : RM} {W : WX} {μ : List Md} {pos p2 : Pos} {a b d : Expr} {eva evb evd : Env → R D}
/-- the pair at an address -/
def PairAt (h : Heap) (a : Addr) (p : Key × V) : Prop := ∃ key x, h.get? a = some ({ cls := .type "tuple", data := .seq #[key, x] } : Obj) ∧ RelV (kV p.1) key ∧ RelV p.2 x
theorem lay_pairs {pins : List (Addr × Obj)} {σ : L2.St} {s0 s : Shared} {H0 : Hp} (I0 : Inv X pins σ H0 s0) : ∀ {as : List Addr} {ps : List (Key × D)} {kvs : List (Key × V)} {H F : Hp}, Inv X pins σ H s → Same F H → Rpk c F ps kvs → as.Nodup →
    (∀ a ∈ as, s0.heap.objs.size ≤ a ∧ H a = none) → Paired (PairAt s.heap) as kvs → ∃ H2 F2, Ext H F H2 F2 ∧ Inv X pins σ H2 s ∧ Rps c F2 (ps.map pairT) (as.map V.ref)
  | [], [], _, H, F, I, sF, hr, _, _, hp => by
    cases hp
    exact ⟨H, F, Ext.refl sF, I, .nil⟩
  | [], p :: ps, _, H, F, I, sF, hr, _, _, hp => by
    cases hp
    simp [Rpk] at hr
  | a :: as, [], _, H, F, I, sF, hr, _, _, hp => by
    simp only [Rpk] at hr
    subst hr
    cases hp
  | a :: as, (k, d) :: ps, _, H, F, I, sF, hr, nd, hn, hp => by
    simp only [Rpk] at hr
    obtain ⟨v, kvs, rfl, r1, r2⟩ := hr
    cases hp with
    | cons h1 h2 =>
      obtain ⟨key, x, g1, g2, g3⟩ := h1
      obtain ⟨hb, ha⟩ := hn a List.mem_cons_self
      have nd' := List.nodup_cons.mp nd
      have hF := free_sub sF ha
      have J := I.take (t' := s.toks) (o := .frz { cls := .type "tuple", data := .seq #[key, x] } (.tup [kV k, v])) (fun b ob _ q => q) (I0.fpOk hb ha)
        ⟨g1, by show 2 ≤ sizeLine; decide, [key, x], .cons g2 (.cons g3 .nil), ⟨_, g1, rfl, _, rfl⟩⟩
      have e1 : Ext H F (upd H a (.frz { cls := .type "tuple", data := .seq #[key, x] } (.tup [kV k, v]))) (upd F a (.frz { cls := .type "tuple", data := .seq #[key, x] } (.tup [kV k, v]))) := ext_new sF ha
      have eF : Same F (upd F a (.frz { cls := .type "tuple", data := .seq #[key, x] } (.tup [kV k, v]))) := same_new hF
      obtain ⟨H2, F2, e2, J2, q⟩ := lay_pairs I0 (as := as) (ps := ps) J e1.sub (Rpk.mono eF _ _ r2) nd'.2 (fun b hb' => ⟨(hn b (List.mem_cons_of_mem _ hb')).1, by
        rw [upd_ne (fun z => nd'.1 (by rw [← z]; exact hb'))]
        exact (hn b (List.mem_cons_of_mem _ hb')).2⟩) h2
      refine ⟨H2, F2, e1.trans e2, J2, ?_⟩
      refine .cons ?_ q
      have eF2 := e2.frs e1.sub
      simp only [pairT, Rp]
      have hA : F2 a = some (.frz { cls := .type "tuple", data := .seq #[key, x] } (.tup [kV k, v])) := eF2 _ _ upd_same
      refine ⟨a, [kV k, v], rfl, .inl (.inr ⟨_, hA⟩), .cons ?_ (.cons (Rp.mono (eF.trans eF2) _ _ r1) .nil), fun _ => .inl ⟨_, _, hA, rfl⟩⟩
      cases k <;> simp [keyD, Rp, kV]
/-- the values' trees read off the heap -/
theorem eachReads {s : Shared} {pins : List (Addr × Obj)} {σ : L2.St} {H F : Hp} (hK : X.K = c.K) (I : Inv X pins σ H s) (sF : Same F H) : ∀ {ds : List D} {us : List Value}, PySem.W.EachIs (fun (u : Value) (d : D) => ∃ v, RelV v u ∧ Rp c F d v) us ds → (∀ d ∈ ds, (d.py).isSome = true) → PySem.W.EachIs (fun (u : Value) (d : D) => ∃ as, Reads s.heap u (pyOf d) as) us ds := by
  intro ds us h
  induction h with
  | nil => intro _; exact .nil
  | cons h1 h2 ih =>
    intro hp
    obtain ⟨v, r1, r2⟩ := h1
    obtain ⟨p, hp1⟩ := Option.isSome_iff_exists.mp (hp _ List.mem_cons_self)
    refine .cons ?_ (ih fun d hd => hp d (List.mem_cons_of_mem _ hd))
    rw [py_some hp1]
    have := Rp.dp sF _ _ _ r2 hp1
    rw [← hK] at this
    exact Dp.reads I _ _ _ this r1
theorem sortOk_parts {zs : List D} (hk : sortOk zs = true) : (∀ d ∈ zs, (d.py).isSome = true ∧ (pyOf d).depth ≤ 64) ∧ PySem.W.AllAlike (zs.map pyOf) ∧ PySem.W.Sortable (zs.map pyOf) := by
  unfold sortOk at hk
  simp only [Bool.and_eq_true, List.all_eq_true, decide_eq_true_eq, Bool.or_eq_true] at hk
  obtain ⟨⟨hpy, hal⟩, hso⟩ := hk
  refine ⟨hpy, fun p hp q hq => ?_, ?_⟩
  · obtain ⟨x, hx, rfl⟩ := List.mem_map.mp hp
    obtain ⟨y, hy, rfl⟩ := List.mem_map.mp hq
    unfold alikeB at hal
    rw [List.all_eq_true] at hal
    have := hal x hx
    rw [List.all_eq_true] at this
    exact this y hy
  · rcases hso with hso | hso
    · refine .inl fun p hp => ?_
      obtain ⟨x, hx, rfl⟩ := List.mem_map.mp hp
      have := hso x hx
      unfold headTup at this
      split at this
      · rename_i y r q
        exact ⟨y, r, q⟩
      · cases this
    · refine .inr fun p hp => ?_
      obtain ⟨x, hx, rfl⟩ := List.mem_map.mp hp
      have := hso x hx
      unfold noTup at this
      split at this
      · cases this
      · cases this
      · rename_i q1 q2
        exact ⟨q2, fun ys e => q1 ys e⟩
theorem refs_vals : ∀ as : List Addr, Vals (as.map V.ref) (as.map Value.ref)
  | [] => .nil
  | _ :: as => .cons rfl (refs_vals as)
/-- sorted(d.items()) -/
theorem e_sortItems {l : Expr} {ap cp p : Pos} (hK : X.K = c.K) (hc : X.calm = true) (hu : X.A.units + 66 < cLine) (he : PE X l (rE c W μ .B eva)) (hg : Gl X "sorted") (hm : X.mg "sorted" = none) (hbase : attributeBase l "items" X.env (eval l X.env) = eval l X.env) (hline : (ap.endLine == cp.line) = true) :
    PE X (.Call (.Name "sorted" p) [.Call (.Attribute l "items" ap) [] [] cp] [] pos) (rE c W μ m fun ρ => (eva ρ).bind fun x => (R.of (mthRc .items x)).bind fun _ => (R.of (mthD .items x [])).bind fun y => R.of (bltD .sorted [y])) := by
  refine ⟨fun pins s σ H Q I h => ?_⟩
  obtain ⟨ρ, F, S, h⟩ := h
  refine wpAny_Call_Name_kw (ld_blt (u := .builtin "sorted") I hg hm rfl ?_)
  have hs : starEach [.Call (.Attribute l "items" ap) [] [] cp] X.env = (false, eval (.Call (.Attribute l "items" ap) [] [] cp) X.env) :: starEach [] X.env := rfl
  refine PyProof.Rows.callWith_builtin1 ?_ hs rfl
  rw [hs]
  show wpAny _ _ (spliced ((false, eval (.Call (.Attribute l "items" ap) [] [] cp) X.env) :: backTo pos (starEach [] X.env))) _ _ s
  refine Calls.spliced_cons ?_
  refine wpAny_Call_method (T := "dict") (id := "dict.items") hbase rfl hline PySem.F.plainAttrs_dict PySem.F.slot_dict_items PySem.F.type_dict_items (thn (he.run pins s σ H (fun vx H1 => ∃ F1 dx, Ext H F H1 F1 ∧ Rb c F1 H1 dx vx ∧ RK c W σ (WD c m Q) F1 H1 ((R.of (mthRc .items dx)).bind fun _ => (R.of (mthD .items dx [])).bind fun y => R.of (bltD .sorted [y]))) I ⟨ρ, F, S, ?_⟩) fun u s1 ⟨x, H1, I1, rx, F1, dx, e1, rb, h1⟩ => ?_)
  · exact RK.imp (RK.bnd h) fun dx hx vx H1 F1 e1 rx => ⟨F1, dx, e1, rx, RK.mono (fun _ => WD.mono e1) hx e1⟩
  obtain ⟨ps, rfl⟩ : ∃ ps, dx = .dct ps := by
    cases dx <;> first | exact ⟨_, rfl⟩ | exact h1.elim
  have h1 : RK c W σ (WD c m Q) F1 H1 (R.of (sortedD (.lst (ps.map pairT)))) := h1
  obtain ⟨z, q1, hz⟩ := RK.of h1
  have sF1 := e1.sub
  obtain ⟨d, kvs, rfl, hd, hr⟩ : ∃ d kvs, x = .ref d ∧ H1 d = some (.dK kvs) ∧ Rpk c F1 ps kvs := by
    rcases rb with r | ⟨q, rfl, ws, w1, w2⟩
    · simp only [Rp] at r
      obtain ⟨q, ws, rfl, w1, w2⟩ := r
      exact ⟨q, ws, rfl, sF1 _ _ w1, w2⟩
    · exact ⟨q, ws, rfl, w1, w2⟩
  obtain rfl : u = Value.ref d := rx
  obtain ⟨hzz, hs0, vs, kv, hdo⟩ := I1.hok d _ hd
  obtain ⟨ep, hat⟩ := hdo.dictAt
  have lk : kvs.length = vs.length := Paired.length kv
  have I2 : Inv X pins σ H1 { s1 with heap := s1.heap.push { cls := .type "dict_items", data := .fields #[.ref d] } } := I1.kept (t' := s1.toks) fun b ob q => Heap.get?_push_of_some _ q
  refine ⟨hdo.typeIs, hdo.mapOf.noDict, ?_⟩
  show wpAny _ _ (callWith cp (.builtin "dict.items") [.ref d] [] []) _ X.xe s1
  refine method_meetsIn PySem.F.slot_dict_items PySem.F.entry_dict_items rfl (PySem.evalArgs_none ⟨rfl, hdo.typeIs, PySem.F.args_dict_items_1 _, _, meets_dict_items (mixKind X.prog X.w) d hs0, ⟨vs, hdo⟩, ?_⟩)
  refine Calls.spliced_nil ?_
  refine Calls.call_function_entry kind_sorted plain_sorted entry_sorted (args_sorted1 _) ?_
  unfold Builtin.«sorted»
  refine wpAny_bind (m := checkCount "sorted" 1 1 _) (wpAny_pure ?_)
  refine wpAny_bind (PySem.W.kdx_collect (A := X.A.in1) (knd := mixKind X.prog X.w) (kvs := vs) (ep := ep) (I1.ok.hd hc) ⟨_, Heap.get?_push_size _ rfl, rfl, rfl⟩ (hat.push _) (by omega) fun h' tk as hk hl hG => ?_)
  -- the pairs are laid
  have I3 : Inv X pins σ H1 { s1 with heap := h', toks := tk } := I2.kept (t' := tk) hk
  have lr := Rpk.length hr
  have hnd : as.Nodup := List.Pairwise.imp (fun {a b} (h : a < b) => Nat.ne_of_lt h) hG.rise
  have hpr : Paired (PairAt h') as kvs := by
    refine paired_at (by omega) fun j a p e1 e2 => ?_
    obtain ⟨key, k, x, f1, f2, f3⟩ := hG.pairs j a e1
    obtain ⟨qv, g1, g2, g3⟩ := LiI.paired_get kv e2
    rw [f1] at g1
    cases g1
    refine ⟨key, x, f3, ?_, g3⟩
    rw [g2]
    exact relV_key (show keyIs k key = true from f2)
  obtain ⟨H2, F2, e2, J2, hrp⟩ := lay_pairs (c := c) I2 I3 sF1 hr hnd (fun a ha => ⟨Nat.le_of_lt (hG.above a ha), I2.hok.fresh (Nat.le_of_lt (hG.above a ha))⟩) hpr
  -- the sort
  have q1 : (if (sortOk (ps.map pairT) && decide ((ps.map pairT).length ≤ lineN)) = true then some (D.lst (sortD (ps.map pairT))) else none) = some z := q1
  split at q1
  · rename_i hk1
    cases q1
    rw [Bool.and_eq_true, decide_eq_true_eq] at hk1
    obtain ⟨hk1, hz1⟩ := hk1
    obtain ⟨hpy, alk, srt⟩ := sortOk_parts hk1
    rw [lineN_eq] at hz1
    have hl2 : (as.map Value.ref).length ≤ sizeLine := by rw [List.length_map]; omega
    refine wpAny_bind (wpAny_newList ?_ hl2)
    generalize hb : h'.push ({ cls := .type "list", data := .seq (as.map Value.ref).toArray } : Obj) = hB
    have ho : hB.get? h'.objs.size = some (seqObj "list" (as.map Value.ref).toArray 0) := by rw [← hb]; exact Heap.get?_push_size _ rfl
    have J3 : Inv X pins σ H2 { s1 with heap := hB, toks := tk } := by
      rw [← hb]
      exact J2.kept (t' := tk) fun b ob q => Heap.get?_push_of_some _ q
    have hev := each_vals hrp (refs_vals as)
    have er := eachReads hK J2 e2.sub hev fun d hd => (hpy d hd).1
    have er' : PySem.W.EachIs (fun v b => ∃ xs, Reads (PySem.W.sortingHeap hB h'.objs.size (as.map Value.ref)) v (pyOf b) xs) (as.map Value.ref) (ps.map pairT) := er.mono fun _ _ ⟨x, r⟩ => ⟨x, PyProof.Rows.Reads.keeps (fun b o q => by
      refine PySem.W.sortingHeap_old (Nat.ne_of_lt (Heap.lt_size q)) ?_
      rw [← hb]; exact Heap.get?_push_of_some _ q) r⟩
    let s4 : Shared := { s1 with heap := PySem.W.sortingHeap hB h'.objs.size (as.map Value.ref), toks := tk }
    have ev : PySem.W.EachIs (fun v d => ∃ xs, Reads s4.heap v d xs) (as.map Value.ref) ((ps.map pairT).map pyOf) := PySem.W.each_map (R := fun v d => ∃ xs, Reads (PySem.W.sortingHeap hB h'.objs.size (as.map Value.ref)) v d xs) pyOf er'
    refine wpAny_bind (wpAny_holding (wpAny_mono (wpAny_call_entry (Q := fun _ s' => ∃ H' , Inv X pins σ H' s' ∧ Q (.ref h'.objs.size) H') slot_list_sort ⟨_, ho, rfl⟩ entry_list_sort (PySem.W.list_sort_vals (κ := PySem.W.dataKind (PySem.W.sortingHeap hB h'.objs.size (as.map Value.ref)) ((ps.map pairT).map pyOf)) ho (PySem.W.SortsAt.data (s := s4) ev alk srt (PySem.W.bound_map fun b hb => ?_)) hl2 ?_)) (fun _ s' x => ?_) fun _ _ e => e))
    · have := (hpy b hb).2
      show X.A.units + 1 + 1 + _ < cLine
      omega
    · have hout := PySem.W.sortVals_data false hev er' alk
      obtain ⟨vs', k1, k2⟩ := vals_each hout
      have hle : (PySem.W.sortVals (PySem.W.dataKind (PySem.W.sortingHeap hB h'.objs.size (as.map Value.ref)) ((ps.map pairT).map pyOf)) false (as.map Value.ref) (as.map Value.ref)).length = (as.map Value.ref).length := PySem.W.sortVals_length false rfl
      obtain ⟨cc, hc2⟩ := sortedHeap_at (vs := as.map Value.ref) (out := (PySem.W.sortVals (PySem.W.dataKind (PySem.W.sortingHeap hB h'.objs.size (as.map Value.ref)) ((ps.map pairT).map pyOf)) false (as.map Value.ref) (as.map Value.ref)).toArray) ho
      have hnone : H2 h'.objs.size = none := J2.hok.fresh (Nat.le_refl _)
      refine ⟨_, rfl, upd H2 h'.objs.size (.lst vs'), J2.laid (t' := tk) (fun b ob q => ?_) (Nat.le_refl _) ⟨by rw [k1.length, hle]; exact hl2, _, cc, k1, hc2⟩, ?_⟩
      · rw [PyProof.Rows.sortedHeap_old (Nat.ne_of_lt (Heap.lt_size q)) (by rw [← hb, Heap.size_push]; exact Nat.lt_succ_of_lt (Heap.lt_size q)), ← hb]
        exact Heap.get?_push_of_some _ q
      · have hw : Want c m F2 H2 (.lst (sortD (ps.map pairT))) Q := Want.mono hz e2
        exact hw.lst e2.sub hnone k2
    · obtain ⟨H', J, q⟩ := x
      exact wpAny_pure ⟨_, rfl, .ref _, H', J, rfl, q⟩
  · cases q1
end
end Mi

/-! Mi, part C10: the classes of errors; try .. except X. -/
namespace Mi
open PySem L2 PySem.Spec PyProof.Rows

/-- what is known of a class of errors: it may be raised, and what it catches -/
def XFact (K : PySem.W.Frag) (mg : PySem.Str → Option Value) (k : Nat) : Prop := k ≤ 7 ∧ ∃ C, mg (excName k) = some (.ref C) ∧ PySem.W.excIn K C [.type "ValueError", .type "Exception", .type "BaseException", .type "object"] "ValueError.__new__" = true ∧
  PySem.W.keepIn K (.ref C) = true ∧ PySem.W.subIn K (.ref C) (.type "BaseException") = some true ∧ PySem.W.typeIn K (.ref C) = some (.type "type") ∧
  ∀ (x : Nat), x ≤ 9 → ∀ D, mg (excName x) = some (.ref D) → PySem.W.exmOne K (.ref D) (.ref C) = some (isCl (.exc x 0) k)
/-- isinstance asks an error that bears no number rightly: the class of number k; the errors' own classes; what is known by number -/
def IFact (K : PySem.W.Frag) (mg : PySem.Str → Option Value) (k : Nat) : Prop := ∃ (v : V) (cv : Value), ((k = 100 ∧ v = .ty "ValueError" ∧ cv = .type "ValueError" ∧ mg "ValueError" = none) ∨ (k ≤ 9 ∧ ∃ C, mg (excName k) = some (.ref C) ∧ v = .ref C ∧ cv = .ref C)) ∧
  ∀ (x : Nat), x < 8 → ∀ D, mg (excName x) = some (.ref D) → PySem.W.kitOne K (.ref D) cv = some (isCl (.exc x 0) k)
def EFact (K : PySem.W.Frag) (mg : PySem.Str → Option Value) : Prop := ∀ (x : Nat), x < 8 → ∀ D, mg (excName x) = some (.ref D) → ExcC K D
def XF (K : PySem.W.Frag) (mg : PySem.Str → Option Value) (k : Nat) : Prop := if k < 300 then XFact K mg k else if k = 499 then EFact K mg else IFact K mg (k - 300)
theorem XF.lo {K : PySem.W.Frag} {mg : PySem.Str → Option Value} {k : Nat} (h : XF K mg k) (l : k < 300) : XFact K mg k := by unfold XF at h; rw [if_pos l] at h; exact h
theorem XF.of {K : PySem.W.Frag} {mg : PySem.Str → Option Value} {k : Nat} (h : XFact K mg k) : XF K mg k := by
  have := h.1
  unfold XF; rw [if_pos (by omega)]; exact h
theorem XF.is {K : PySem.W.Frag} {mg : PySem.Str → Option Value} {k : Nat} (h : XF K mg (300 + k)) (l : k ≤ 100) : IFact K mg k := by
  unfold XF at h; rw [if_neg (by omega), if_neg (by omega), Nat.add_sub_cancel_left] at h; exact h
theorem XF.all {K : PySem.W.Frag} {mg : PySem.Str → Option Value} (h : XF K mg 499) : EFact K mg := by
  unfold XF at h; rw [if_neg (by omega), if_pos rfl] at h; exact h
theorem isCl_exc (x : Nat) (r : Int) (k : Nat) : isCl (.exc x r) k = (k == x || k == 0 || k == 100) := rfl
theorem excName_big {x : Nat} (h : 9 ≤ x) : excName x = "NoName" := by
  match x, h with
  | n + 9, _ => rfl
theorem XFact.catches {K : PySem.W.Frag} {mg : PySem.Str → Option Value} {k : Nat} (h : XFact K mg k) : ∃ C, mg (excName k) = some (.ref C) ∧ ∀ (x : Nat) (r : Int) (D : Addr), mg (excName x) = some (.ref D) → PySem.W.exmOne K (.ref D) (.ref C) = some (isCl (.exc x r) k) := by
  obtain ⟨hk, C, h1, _, _, _, _, h6⟩ := h
  refine ⟨C, h1, fun x r D q => ?_⟩
  by_cases hx : x ≤ 9
  · exact h6 x hx D q
  · rw [excName_big (by omega)] at q
    rw [h6 9 (Nat.le_refl _) D q, isCl_exc, isCl_exc]
    have e1 : (k == 9) = false := by simp; omega
    have e2 : (k == x) = false := by simp; omega
    rw [e1, e2]
section
variable {X : Cx} {c : Cn} {m : RM} {W : WX} {μ : List Md} {μ' : Option (List Md)} {μc : List Md} {ms : List Nat} {fr : Bool} {pos px : Pos} {a b d e : Expr} {eva evb evd : Env → R D} {i : Nat}
theorem FK.other {E : Ends} {f : FL} {W' : WX} {ρ : Env} {F F1 : Hp} {μ0 : List Md} {μ1 : Option (List Md)} {ms' : List Nat} (eF : Same F F1) (hl : LeO μ' μ1) (hn : μ1 = none → ∀ ρ', f ≠ .nx ρ') (hx : ∀ x r, f ≠ .exc x r) (h : FK c W μ μ' μc ms fr ρ E F f) : FK c W' μ0 μ1 μc ms' fr ρ E F1 f := by
  cases f with
  | nx ρ2 =>
    cases μ1 with
    | none => trivial
    | some m1 =>
      cases μ' with
      | none => exact hl.elim
      | some m' => exact fun σ' H' F' S' e' => h σ' H' F' (Le.sr hl S') (eF.trans e')
  | rt d => exact h
  | ct ρ2 => exact fun σ' H' F' S' e' => h σ' H' F' S' (eF.trans e')
  | exc x r => exact absurd rfl (hx x r)
  | stuck => exact h
def evTry (cs : List Nat) (evb evh : Env → FL) : Env → FL := fun ρ => match evb ρ with
  | .exc x r => if cs.any (isCl (.exc x r)) then evh ρ else .exc x r
  | f => f
/-- try: .. except C: .. -/
theorem s_try {body suite : List Stmt} {b₀ : Stmt} {x : PySem.Str} {np pos' : Pos} {q : Nat} {evb evh : Env → FL} {μb μh : Option (List Md)} {msb msh : List Nat} (hK : X.K = c.K) (hst : X.stack = X.env :: X.outer) (hf : X.env.frame = some X.env.locals) (tk : Takes X W) (hx : XFact c.K c.mg q) (hmg : X.mg = c.mg) (hg : Gl X x) (hdb : (x == ("__debug__" : PySem.Str)) = false) (hxn : x = excName q)
    (hb : ∀ (W' : WX) (pn : List (Addr × Obj)) (xe : Value → Shared → Prop), Takes (X.tr pn xe) W' → PassesOwn (model X.prog X.w) X.A X.env xe → PSs (X.tr pn xe) body (rS c W' μ μb μc msb fr evb))
    (hh : ∀ (a : Addr) (pn : List (Addr × Obj)), PSs (X.suite a pn) (b₀ :: suite) (rS c W0 (msets μ msb .dead) μh μc msh fr evh)) (la : LeO μ' μb) (lb : LeO μ' μh) (na : μb = none → ∀ ρ ρ', evb ρ ≠ .nx ρ') (nb : μh = none → ∀ ρ ρ', evh ρ ≠ .nx ρ') (nx : ∀ ρ x r, evh ρ ≠ .exc x r) :
    PS X (.Try body [.ExceptHandler (some (.Name x np)) none (b₀ :: suite) pos'] [] [] pos) (rS c W μ μ' μc (msb ++ msh) fr (evTry [q] evb evh)) := by
  obtain ⟨Cq, hm, hcat⟩ := hx.catches
  refine (ps_try_only (X := X) (c := .ref Cq) (tb := fun W' => rS c W' μ μb μc msb fr evb) (ts := fun _ _ _ => rS c W0 (msets μ msb .dead) μh μc msh fr evh) hst hf ⟨hg, hdb, .inl (by rw [hmg, hxn]; exact hm)⟩ tk hb (fun a oe cls d pn _ _ => hh a _)).weak ?_
  rintro E σ H ⟨ρ, F, S, h⟩
  refine ⟨ρ, F, S, ?_⟩
  have h : FK c W μ μ' μc (msb ++ msh) fr ρ E F (evTry [q] evb evh ρ) := h
  cases q0 : evb ρ with
  | nx ρ2 =>
    have e : evTry [q] evb evh ρ = .nx ρ2 := by unfold evTry; rw [q0]
    rw [e] at h
    exact FK.other (Same.refl _) la (fun n ρ' z => na n ρ ρ' (by rw [q0]; exact z)) (fun _ _ z => by cases z) h
  | rt d =>
    have e : evTry [q] evb evh ρ = .rt d := by unfold evTry; rw [q0]
    rw [e] at h; exact h
  | ct ρ2 =>
    have e : evTry [q] evb evh ρ = .ct ρ2 := by unfold evTry; rw [q0]
    rw [e] at h; exact h
  | stuck =>
    have e : evTry [q] evb evh ρ = .stuck := by unfold evTry; rw [q0]
    rw [e] at h; exact h
  | exc k r =>
    have e : evTry [q] evb evh ρ = if isCl (.exc k r) q then evh ρ else .exc k r := by unfold evTry; rw [q0]; simp
    rw [e] at h
    intro σ' H' F' cls dx S' e' xr
    obtain ⟨C, rfl, hc, hrow⟩ := xr
    refine ⟨_, (by rw [hK]; exact hcat k r C hc), fun yes a ha => ?_, fun no => ?_⟩
    · rw [if_pos yes] at h
      exact ⟨ρ, F', S', FK.other e' lb (fun n ρ' => nb n ρ ρ') (nx ρ) h⟩
    · rw [if_neg (by rw [no]; decide)] at h
      exact h σ' H' F' _ dx (S'.excTo rfl S.lenR fun i hi => by
        rw [List.mem_append, not_or] at hi
        exact ⟨hi.1, rfl, rfl⟩) e' ⟨C, rfl, hc, hrow⟩
end
end Mi

/-! Mi, part C11: list(reversed(..)), list(range(..)). -/
namespace Mi
open PySem L2 PySem.Spec PyProof.Rows
section
variable {prog : Program} {w : World} {A : Around} {E : Value → Shared → Prop} {s : Shared}
theorem rev_init {it l S : Addr} {items : Array Value} {R : Result → Shared → Prop} (hh : A.handled = none) (hit : s.heap.IsRevIter it l ((items.size : Int) - 1)) (hl : s.heap.IsList l items) (hne : l ≠ it) (hn : items.size ≤ sizeLine) (hSi : S ≠ it) (hSl : S ≠ l) (hS : s.heap.get? S = some { cls := .type "list", data := .seq #[] })
    (hQ : ∀ (h' : Heap) (tk : Nat) (acc : Array Value) (c : Nat), (∀ b o, b ≠ it → b ≠ S → s.heap.get? b = some o → h'.get? b = some o) → h'.get? S = some { cls := .type "list", dict := none, data := .seq acc c, slots := #[] } → ItemsOf (fun i v => items[items.size - 1 - i]? = some v) acc items.size → R (.ok (.ret .none)) { s with heap := h', toks := tk }) :
    wpAny (model prog w) A.in1 (Builtin.«list.__init__» ⟨[.ref S, .ref it], []⟩)
      (fun fin s' => match fin with | .done f => R (.ok f) s' | .again c' => c'.quiet = true ∧ codeAny (model prog w) A c' R s') (fun e s' => R (.error e) s') s := by
  have W := (Walks.listRev (prog := prog) (w := w) (A := A.in1) hh it l hne items).toS
  have hSf : S ∉ [it, l] := by simp only [List.mem_cons, List.not_mem_nil, or_false, not_or]; exact ⟨hSi, hSl⟩
  show wpAny _ _ (do let old ← Builtin.List.listItems (.ref S); Builtin.List.listUpdate (.ref S) (fun _ => #[]); letGo old.toList.reverse; Builtin.List.listExtendWith (.ref S) (.ref it) .none) _ _ s
  refine wpAny_bind ?_
  unfold Builtin.List.listItems
  refine wpAny_bind (wpAny_seqItems hS rfl (wpAny_pure ?_))
  show wpAny _ _ (updateSeq S (fun _ => #[]) >>= fun _ => letGo (#[] : Array Value).toList.reverse >>= fun _ => Builtin.List.listExtendWith (.ref S) (.ref it) .none) _ _ s
  refine wpAny_bind (wpAny_updateSeq hS rfl ?_)
  have hS₁ := Heap.get?_update_self (Obj.mapSeq (fun _ => (#[] : Array Value))) hS rfl
  have oth : ∀ b o, b ≠ S → s.heap.get? b = some o → (s.heap.update S (Obj.mapSeq (fun _ => (#[] : Array Value)))).get? b = some o :=
    fun b o hb e => (Heap.get?_update_other _ _ (Ne.symm hb)).trans e
  refine wpAny_bind (wpAny_letGo ?_)
  have hit1 : (s.heap.update S (Obj.mapSeq (fun _ => (#[] : Array Value)))).IsRevIter it l ((items.size : Int) - 1) := hit.at fun o e => oth it o hSi.symm e
  have hl1 : (s.heap.update S (Obj.mapSeq (fun _ => (#[] : Array Value)))).IsList l items := hl.at fun o e => oth l o hSl.symm e
  have hT : ({ s with heap := s.heap.update S (Obj.mapSeq (fun _ => (#[] : Array Value))) } : Shared).TypeIs (.ref it) "list_reverseiterator" := Heap.IsRevIter.typeIs (s := { s with heap := s.heap.update S (Obj.mapSeq (fun _ => (#[] : Array Value))) }) hit1
  have h1 : Builtin.List.listSameRef (.ref S) (.ref it) = false := by simp [Builtin.List.listSameRef, hSi]
  unfold Builtin.List.listExtendWith
  refine wpAny_bind (wpAny_typeOf hT ?_)
  rw [if_neg (by rw [h1]; decide)]
  refine wpAny_bind (wpAny_pyIter_revIter (s := { s with heap := s.heap.update S (Obj.mapSeq (fun _ => (#[] : Array Value))) }) hit1 ?_)
  refine wpAny_bind (wpAny_holding ?_)
  unfold Builtin.List.listLengthHint
  refine wpAny_bind (wpAny_specialOf hT RT.nolen_lri ?_)
  show wpAny _ A.in1 (specialOf (Value.ref it) (Str.ofString "__length_hint__") >>= _) _ _ _
  refine wpAny_bind (wpAny_specialOf hT RT.hint_lri ?_)
  generalize hid : ("list_reverseiterator.__length_hint__" : String) = id0
  wp_delta
  rw [show splitId id0 = some ("list_reverseiterator", "__length_hint__") from by subst hid; decide +kernel]
  subst hid
  refine wpAny_bind (wpAny_isInstance (b := true) hT (by rw [isSubtype_type]; kernel_rfl) ?_)
  refine wpAny_pure ?_
  rw [if_neg (by decide)]
  have e0 : ((items.size : Nat) : Int) - 1 - ((0 : Nat) : Int) = (items.size : Int) - 1 := by omega
  refine wpAny_pure ⟨plainId_quiet PySem.F.plain_extend_loop _, codeAny_extend_loopS W hn _ hSf _ items.size 0 _ _ _ rfl (Nat.zero_le _) ⟨Nat.zero_le _, by rw [e0]; exact hit1, hl1⟩ hS₁ (ItemsOf.nil _) fun s' acc' c' hm hS' hacc => ?_⟩
  rw [Moved.eq_with hm]
  refine hQ s'.heap s'.toks acc' c' (fun b o hb hb2 e => hm.heap b o (fun hmem => ?_) (oth b o hb2 e)) hS' hacc
  rcases List.mem_cons.mp hmem with e' | hmem
  · exact hb2 e'
  · exact hb (List.mem_singleton.mp hmem)
theorem call_list_rev {it l : Addr} {items : Array Value} {Q : Value → Shared → Prop} (hh : A.handled = none) (hit : s.heap.IsRevIter it l ((items.size : Int) - 1)) (hl : s.heap.IsList l items) (hne : l ≠ it) (hn : items.size ≤ sizeLine)
    (hQ : ∀ (h' : Heap) (tk : Nat) (acc : Array Value) (c : Nat), (∀ b o, b ≠ it → s.heap.get? b = some o → h'.get? b = some o) → h'.get? s.heap.objs.size = some { cls := .type "list", dict := none, data := .seq acc c, slots := #[] } → ItemsOf (fun i v => items[items.size - 1 - i]? = some v) acc items.size →
      Q (.ref s.heap.objs.size) { s with heap := h', toks := tk }) :
    wpAny (model prog w) A (call (.type "list") [.ref it]) Q E s := by
  refine callType_codes (Q₁ := fun obj s₁ => obj = .ref s.heap.objs.size ∧ s₁ = { s with heap := s.heap.push { cls := .type "list", data := .seq #[] } }) PySem.F.called_list (PySem.F.typeCall_list_1 _) PySem.F.entry_list_init
    (code_list_new _ ⟨rfl, rfl⟩) fun obj s₁ h₁ => ?_
  obtain ⟨rfl, rfl⟩ := h₁
  have hS : (s.heap.push { cls := .type "list", data := .seq #[] }).get? s.heap.objs.size = some { cls := .type "list", data := .seq #[] } := Heap.get?_push_size _ rfl
  obtain ⟨oi, hoi, _⟩ := id hit
  obtain ⟨ol, hol, _⟩ := id hl
  refine ⟨⟨_, hS, rfl⟩, PySem.F.args_list_init_2 _ _, rev_init (A := A.in1) hh (hit.at fun o e => Heap.get?_push_of_some _ e) (hl.push _) hne hn (Nat.ne_of_gt (Heap.lt_size hoi)) (Nat.ne_of_gt (Heap.lt_size hol)) hS (fun h' tk acc c hk hS' hacc => ?_)⟩
  exact ⟨rfl, hQ h' tk acc c (fun b o hb e => hk b o hb (Nat.ne_of_lt (Heap.lt_size e)) (Heap.get?_push_of_some _ e)) hS' hacc⟩
end
section
variable {X : Cx} {c : Cn} {m : RM} {W : WX} {μ : List Md} {pos pos2 p p2 : Pos} {e : Expr} {eva : Env → R D}
/-- list(reversed(a list)) -/
theorem e_listRev (hK : X.K = c.K) (hc : X.calm = true) (hg : Gl X "list") (hm : X.mg "list" = none) (hg2 : Gl X "reversed") (hm2 : X.mg "reversed" = none) (he : PE X e (rE c W μ .B eva))
    (hs : starEach [e] X.env = (false, eval e X.env) :: starEach [] X.env) :
    PE X (.Call (.Name "list" p) [.Call (.Name "reversed" p2) [e] [] pos2] [] pos) (rE c W μ m fun ρ => (eva ρ).bind fun s => (R.of (lstOf s)).bind fun xs => .ok (.lst xs.reverse)) := by
  have hs2 : starEach [.Call (.Name "reversed" p2) [e] [] pos2] X.env = (false, eval (.Call (.Name "reversed" p2) [e] [] pos2) X.env) :: starEach [] X.env := rfl
  refine ⟨fun pins s σ H Q I h => ?_⟩
  obtain ⟨ρ, F, S, h⟩ := h
  refine Call_ (ld_blt I hg hm boot_list (PyProof.Rows.callWith_type1 (args_cons (Call_ (ld_blt I hg2 hm2 PyProof.Rows.boot_reversed (PyProof.Rows.callWith_type1 (args_cons (thn (he.run pins s σ H (fun vx H1 => ∃ F1 dx, Ext H F H1 F1 ∧ Rb c F1 H1 dx vx ∧ RK c W σ (WD c m Q) F1 H1 ((R.of (lstOf dx)).bind fun xs => .ok (.lst xs.reverse))) I ⟨ρ, F, S, ?_⟩) fun u s1 ⟨v, H1, I1, r1, F1, dx, e1, rb, h1⟩ => args_nil ?_) hs) hs rfl))) hs2) hs2 rfl))
  · exact RK.imp (RK.bnd h) fun dx hx vx H1 F1 e1 rx => ⟨F1, dx, e1, rx, RK.mono (fun _ => WD.mono e1) hx e1⟩
  obtain ⟨xs, rfl⟩ : ∃ xs, dx = .lst xs := by
    cases dx <;> first | exact ⟨_, rfl⟩ | exact h1.elim
  have h1 : Want c m F1 H1 (.lst xs.reverse) Q := h1
  obtain ⟨a, vs, rfl, g1, g2⟩ := rb.lst e1.sub
  rw [← hK] at g1
  obtain rfl : u = Value.ref a := r1
  obtain ⟨its, rv, p', hz⟩ := I1.list g1
  refine call_reversed_list p'.isList (args_nil ?_)
  have k0 : ∀ b o, s1.heap.get? b = some o → (s1.heap.push (revObj a ((its.toArray.size : Int) - 1))).get? b = some o := fun b o e => Heap.get?_push_of_some _ e
  have I2 : Inv X pins σ H1 { s1 with heap := s1.heap.push (revObj a ((its.toArray.size : Int) - 1)) } := I1.kept (t' := s1.toks) k0
  obtain ⟨f0, f1, f2, f3, f4, f5⟩ := I1.fpOk (H' := H1) (b := s1.heap.objs.size) (Nat.le_refl _) (I1.hok.fresh (Nat.le_refl _))
  have hl := p'.isList
  obtain ⟨ol, hol, _⟩ := id hl
  have hne : a ≠ s1.heap.objs.size := Nat.ne_of_lt (Heap.lt_size hol)
  have hn : its.toArray.size ≤ sizeLine := by rw [List.size_toArray, ← rv.length]; exact hz
  refine call_list_rev (s := { s1 with heap := s1.heap.push (revObj a ((its.toArray.size : Int) - 1)) }) (I1.ok.hd hc) ⟨_, Heap.get?_push_size _ rfl, rfl, rfl⟩ (hl.push _) hne hn fun h' tk acc cc hk hS hi => ?_
  generalize hS0 : (s1.heap.push (revObj a ((its.toArray.size : Int) - 1))).objs.size = S0 at hS ⊢
  have hbig : s1.heap.objs.size ≤ S0 ∧ (s1.heap.push (revObj a ((its.toArray.size : Int) - 1))).objs.size ≤ S0 := by
    rw [← hS0, Heap.size_push]; exact ⟨Nat.le_succ _, Nat.le_refl _⟩
  have hnone : H1 S0 = none := I1.hok.fresh hbig.1
  have I3 : Inv X pins σ H1 { s1 with heap := h', toks := tk } := I2.turned (t' := tk) (fun b o hb e => hk b o hb e) f0 f1 f3 f4 f5
  have I4 := I3.take (t' := tk) (h' := h') (o := .lst vs.reverse) (fun b ob _ q => q) (I2.fpOk (H' := H1) hbig.2 hnone) ⟨by rw [List.length_reverse]; exact hz, acc.toList, cc, RT.vals_rev rv hi, by rw [Array.toArray_toList]; exact hS⟩
  exact ⟨.ref S0, _, I4, rfl, h1.lst e1.sub hnone g2.reverse⟩
/-- list(range(n)) -/
theorem e_listRng (hc : X.calm = true) (hg : Gl X "list") (hm : X.mg "list" = none) (hg2 : Gl X "range") (hm2 : X.mg "range" = none) (he : PE X e (rE c W μ .B eva))
    (hs : starEach [e] X.env = (false, eval e X.env) :: starEach [] X.env) :
    PE X (.Call (.Name "list" p) [.Call (.Name "range" p2) [e] [] pos2] [] pos) (rE c W μ m fun ρ => (eva ρ).bind fun s => R.of (listRD s)) := by
  refine (pe_listRg hc hg hm (prg_1 hg2 hm2 he hs) rfl).weak ?_
  rintro σ H Q ⟨ρ, F, S, h⟩
  refine ⟨ρ, F, S, RK.imp (RK.bnd h) fun dx hx vx H1 F1 e1 rx => ?_⟩
  have hx := RK.mono (fun _ => WD.mono e1) hx e1
  obtain ⟨z, q1, hz⟩ := RK.of hx
  obtain ⟨n, rfl⟩ : ∃ n, dx = .int n := by
    cases dx <;> first | exact ⟨_, rfl⟩ | cases q1
  have q1 : (if -16777216 ≤ n ∧ n ≤ 16777216 then some (D.lst ((List.range n.toNat).map fun (k : Nat) => .int k)) else none) = some z := q1
  split at q1
  · rename_i hn
    cases q1
    have rx : Rb c F1 H1 (.int n) vx := rx
    refine ⟨n, rx.int, ?_, fun q hq => ?_⟩
    · exact ⟨by omega, by omega, by omega, by omega, by omega⟩
    · have hw : Want c m F1 H1 (.lst ((List.range n.toNat).map fun (k : Nat) => .int k)) Q := hz
      refine hw.lst e1.sub hq ?_
      unfold rgV
      rw [Int.sub_zero]
      generalize n.toNat = j
      induction j with
      | zero => exact .nil
      | succ j ih =>
        rw [List.range_succ, List.map_append, List.map_append]
        refine ih.append (.cons ?_ .nil)
        simp [Rp]
  · cases q1
end
end Mi

/-! Mi, part C12: sorted(set(a tuple of ints)). -/
namespace Mi
open PySem L2 PySem.Spec PyProof.Rows
theorem insU_mem (x y : Int) : ∀ s : List Int, y ∈ insU x s ↔ y = x ∨ y ∈ s
  | [] => by simp [insU]
  | z :: r => by
    unfold insU
    split
    · simp
    · split
      · rename_i h; subst h; simp
      · rw [List.mem_cons, insU_mem x y r, List.mem_cons]
        exact ⟨fun h => h.elim (fun h => .inr (.inl h)) fun h => h.elim .inl fun h => .inr (.inr h), fun h => h.elim (fun h => .inr (.inl h)) fun h => h.elim .inl fun h => .inr (.inr h)⟩
theorem insU_up (x : Int) : ∀ s : List Int, s.Pairwise (· < ·) → (insU x s).Pairwise (· < ·)
  | [], _ => by simp [insU]
  | z :: r, h => by
    rw [List.pairwise_cons] at h
    unfold insU
    split
    · rename_i hx
      exact .cons (fun y hy => by
        rcases List.mem_cons.mp hy with rfl | hy
        · exact hx
        · have := h.1 y hy; omega) (.cons h.1 h.2)
    · split
      · exact .cons h.1 h.2
      · rename_i h1 h2
        refine .cons (fun y hy => ?_) (insU_up x r h.2)
        rcases (insU_mem x y r).mp hy with rfl | hy
        · omega
        · exact h.1 y hy
theorem upSet_mem (y : Int) : ∀ s : List Int, y ∈ upSet s ↔ y ∈ s
  | [] => by simp [upSet]
  | x :: r => by
    show y ∈ insU x (upSet r) ↔ _
    rw [insU_mem, upSet_mem y r, List.mem_cons]
theorem upSet_up : ∀ s : List Int, (upSet s).Pairwise (· < ·)
  | [] => by simp [upSet]
  | x :: r => insU_up x _ (upSet_up r)
theorem up_ext : ∀ {a b : List Int}, a.Pairwise (· < ·) → b.Pairwise (· < ·) → (∀ t, t ∈ a ↔ t ∈ b) → a = b
  | [], [], _, _, _ => rfl
  | [], y :: b, _, _, h => absurd ((h y).mpr List.mem_cons_self) List.not_mem_nil
  | x :: a, [], _, _, h => absurd ((h x).mp List.mem_cons_self) List.not_mem_nil
  | x :: a, y :: b, ha, hb, h => by
    rw [List.pairwise_cons] at ha hb
    have e : x = y := by
      rcases List.mem_cons.mp ((h x).mp List.mem_cons_self) with e | e
      · exact e
      · rcases List.mem_cons.mp ((h y).mpr List.mem_cons_self) with e2 | e2
        · exact e2.symm
        · have := ha.1 y e2; have := hb.1 x e; omega
    subst e
    rw [up_ext ha.2 hb.2 fun t => ?_]
    constructor
    · intro ht
      rcases List.mem_cons.mp ((h t).mp (List.mem_cons_of_mem _ ht)) with e | e
      · have := ha.1 t ht; omega
      · exact e
    · intro ht
      rcases List.mem_cons.mp ((h t).mpr (List.mem_cons_of_mem _ ht)) with e | e
      · have := hb.1 t ht; omega
      · exact e
section
variable {X : Cx} {c : Cn} {m : RM} {W : WX} {μ : List Md} {pos pos2 p p2 : Pos} {e : Expr} {eva : Env → R D}
def rSetTI (K : PySem.W.Frag) (w : World) : List V → Hp → VK → Prop := fun xs H Q => ∃ (l : Addr) (ns : List Int), xs = [.ref l] ∧ SqT K H l (ns.map V.int) ∧ ns.length < 64 ∧ ∀ a k, H a = none → k ≤ ns.length → Q (.ref a) (upd H a (SetO w a (fun j => decide (j ∈ ns)) k))
theorem intsAre : ∀ {ns : List Int} {us : List Value}, Vals (ns.map V.int) us → PyProof.Rows.IntsAre us ns
  | [], _, h => by cases h; exact .nil
  | n :: ns, _, h => by
    cases h with
    | cons h1 h2 =>
      obtain ⟨t, rfl⟩ := h1
      exact .cons _ _ (intsAre h2)
theorem cr_setTI (hc : X.calm = true) : CallR X (.type "set") (rSetTI X.K X.w) := by
  intro pins s σ H xs us Q I rv h
  obtain ⟨l, ns, rfl, h1, h2, q⟩ := h
  obtain ⟨u, rfl, ru⟩ := rv.one
  cases ru
  obtain ⟨its, r, ht, hz⟩ := I.tuple h1
  refine call_set_tupI ns (I.ok.hd hc) ht (intsAre (by simpa using r)) (Nat.lt_of_lt_of_le (show ns.length + 1 < 65 by omega) (by decide)) fun h' tk k hS hk hkeep => ?_
  have hf : H s.heap.objs.size = none := I.hok.fresh (Nat.le_refl _)
  exact ⟨.ref s.heap.objs.size, _, I.take (t' := tk) (h' := h') (fun b ob _ q => hkeep b ob q) (I.fpOk (Nat.le_refl _) hf) (setO_new hS), rfl, q _ k hf hk⟩
/-- sorted(set(a tuple of ints)) -/
theorem e_setSorted (hK : X.K = c.K) (hc : X.calm = true) (hg : Gl X "sorted") (hm : X.mg "sorted" = none) (hg2 : Gl X "set") (hm2 : X.mg "set" = none) (he : PE X e (rE c W μ .B eva))
    (hs : starEach [e] X.env = (false, eval e X.env) :: starEach [] X.env) :
    PE X (.Call (.Name "sorted" p) [.Call (.Name "set" p2) [e] [] pos2] [] pos) (rE c W μ m fun ρ => (eva ρ).bind fun s => R.of (setSortedD s)) := by
  have h1 := pe_callTy (pos := pos2) (p := p2) (cr_setTI hc) hg2 hm2 (by rfl) (pa_cons he pa_nil hs) (by decide +kernel) (by decide +kernel) hs (by rfl)
  have hs2 : starEach [.Call (.Name "set" p2) [e] [] pos2] X.env = (false, eval (.Call (.Name "set" p2) [e] [] pos2) X.env) :: starEach [] X.env := rfl
  refine (pe_callB (pos := pos) (p := p) (cr_sortedSet hc) hg hm (by rfl) (pa_cons h1 pa_nil hs2) (by decide +kernel) (by decide +kernel) hs2 (by rfl)).weak ?_
  rintro σ H Q ⟨ρ, F, S, h⟩
  refine ⟨ρ, F, S, RK.imp (RK.bnd h) fun dx hx vx H1 F1 e1 rx => ?_⟩
  have hx := RK.mono (fun _ => WD.mono e1) hx e1
  obtain ⟨z, q1, hz⟩ := RK.of hx
  obtain ⟨ds, rfl⟩ : ∃ ds, dx = .tup ds := by
    cases dx <;> first | exact ⟨_, rfl⟩ | cases q1
  simp only [setSortedD] at q1
  rw [Option.bind_eq_some_iff] at q1
  obtain ⟨is, q2, q1⟩ := q1
  split at q1 <;> cases q1
  rename_i hl
  have rx : Rb c F1 H1 (.tup ds) vx := rx
  obtain ⟨a, vs, rfl, g1, g2⟩ := rx.tup e1.sub
  obtain rfl := g2.ints q2
  refine ⟨a, is, rfl, by rw [hK]; exact g1, hl, fun b k hb hk => ?_⟩
  refine ⟨b, _, k, rfl, upd_same, by omega, fun ns p' hup hmem _ hp' => ?_⟩
  have : ns = upSet is := up_ext hup (upSet_up is) fun t => by rw [hmem, upSet_mem]; exact decide_eq_true_iff
  subst this
  have e2 : Ext H1 F1 (upd H1 b (SetO X.w b (fun j => decide (j ∈ is)) k)) F1 := ext_own e1.sub hb
  have hw : Want c m F1 (upd H1 b (SetO X.w b (fun j => decide (j ∈ is)) k)) (.lst ((upSet is).map .int)) Q := Want.mono hz e2
  refine hw.lst e2.sub hp' ?_
  generalize upSet is = js
  induction js with
  | nil => exact .nil
  | cons j js ih => exact .cons (by simp [Rp]) ih
end
end Mi

/-! Mi, part C13: objects: their fields read, and made. -/
namespace Mi
open PySem L2 PySem.Spec PyProof.Rows

/-! ### the ground does not matter to what stands for what -/
section
variable {K : PySem.W.Frag} {mg : PySem.Str → Option Value} {B F0 B' F0' : Hp} {io io' : Option (Nat × Addr)}
mutual
theorem Rp.cn (F : Hp) : ∀ (d : D) (v : V), Rp ⟨K, mg, B, F0, io⟩ F d v = Rp ⟨K, mg, B', F0', io'⟩ F d v
  | .non, v => by simp only [Rp]
  | .bl _, v => by simp only [Rp]
  | .int _, v => by simp only [Rp]
  | .str _, v => by simp only [Rp]
  | .tup ds, v => by simp only [Rp, Rps.cn F ds]
  | .lst ds, v => by simp only [Rp, Rps.cn F ds]
  | .dct ds, v => by simp only [Rp, Rpk.cn F ds]
  | .obj k ds, v => by simp only [Rp, Rps.cn F ds]
  | .exc _ _, v => by simp only [Rp]
theorem Rps.cn (F : Hp) : ∀ (ds : List D) (vs : List V), Rps ⟨K, mg, B, F0, io⟩ F ds vs = Rps ⟨K, mg, B', F0', io'⟩ F ds vs
  | [], vs => by simp only [Rps]
  | d :: ds, vs => by simp only [Rps, Rp.cn F d, Rps.cn F ds]
theorem Rpk.cn (F : Hp) : ∀ (ds : List (Key × D)) (vs : List (Key × V)), Rpk ⟨K, mg, B, F0, io⟩ F ds vs = Rpk ⟨K, mg, B', F0', io'⟩ F ds vs
  | [], vs => by simp only [Rpk]
  | (k, d) :: ds, vs => by simp only [Rpk, Rp.cn F d, Rpk.cn F ds]
end
theorem Ob.cn (F H : Hp) (p : Addr) (d : D) : Ob ⟨K, mg, B, F0, io⟩ F H p d = Ob ⟨K, mg, B', F0', io'⟩ F H p d := by
  cases d <;> simp only [Ob]
  · simp only [Rps.cn (B := B) (F0 := F0) (B' := B') (F0' := F0') (io := io) (io' := io') F]
  · simp only [Rpk.cn (B := B) (F0 := F0) (B' := B') (F0' := F0') (io := io) (io' := io') F]
theorem Rb.cn (F H : Hp) (d : D) (v : V) : Rb ⟨K, mg, B, F0, io⟩ F H d v = Rb ⟨K, mg, B', F0', io'⟩ F H d v := by
  unfold Rb
  rw [Rp.cn (B' := B') (F0' := F0') (io' := io') F d v]
  simp only [Ob.cn (B := B) (F0 := F0) (B' := B') (F0' := F0') (io := io) (io' := io') F]
theorem Res.cn (m : RM) (H F' H' : Hp) (d : D) (v : V) : Res ⟨K, mg, B, F0, io⟩ m H F' H' d v = Res ⟨K, mg, B', F0', io'⟩ m H F' H' d v := by
  cases m <;> simp only [Res]
  · exact Rb.cn _ _ _ _
  · exact Rp.cn _ _ _
  · rw [Rp.cn (B' := B') (F0' := F0') (io' := io') F' d v]
    simp only [Ob.cn (B := B) (F0 := F0) (B' := B') (F0' := F0') (io := io) (io' := io') F']
end
def bltNames' : List PySem.Str := ["list"]
def fldName : Nat → PySem.Str
  | 0 => "name" | 1 => "givens" | 2 => "rows" | 4 => "plans" | _ => "row"
def fldCls : Nat → Nat
  | 4 => 1
  | _ => 0
def mkModes : Nat → List RM
  | 0 => [.V, .B, .B]
  | _ => [.B]
def initPs : Nat → List PySem.Str
  | 0 => ["self", "name", "givens", "rows"]
  | _ => ["self", "plans"]
/-- a store of a list made of the parameter -/
def mtFldL (f : PySem.Str) : Stmt → Bool
  | .Assign [.Attribute (.Name s _) g _] (.Call (.Name l _) [.Name n _] [] _) _ => decide (s = "self") && decide (g = f) && decide (l = "list") && decide (n = f)
  | _ => false
def mtFldV (f : PySem.Str) : Stmt → Bool
  | .Assign [.Attribute (.Name s _) g _] (.Name n _) _ => decide (s = "self") && decide (g = f) && decide (n = f)
  | _ => false
theorem mtFldL_inv {f : PySem.Str} {s : Stmt} (h : mtFldL f s = true) : ∃ p1 p2 p3 p4 p5 p6, s = .Assign [.Attribute (.Name "self" p1) f p2] (.Call (.Name "list" p3) [.Name f p4] [] p5) p6 := by
  unfold mtFldL at h
  split at h
  · simp only [Bool.and_eq_true, decide_eq_true_eq] at h
    obtain ⟨⟨⟨rfl, rfl⟩, rfl⟩, rfl⟩ := h
    exact ⟨_, _, _, _, _, _, rfl⟩
  · cases h
theorem mtFldV_inv {f : PySem.Str} {s : Stmt} (h : mtFldV f s = true) : ∃ p1 p2 p3 p4, s = .Assign [.Attribute (.Name "self" p1) f p2] (.Name f p3) p4 := by
  unfold mtFldV at h
  split at h
  · simp only [Bool.and_eq_true, decide_eq_true_eq] at h
    obtain ⟨⟨rfl, rfl⟩, rfl⟩ := h
    exact ⟨_, _, _, _, rfl⟩
  · cases h
def mtInit : Nat → List Stmt → Bool
  | 0, [a, b, c] => mtFldV "name" a && mtFldL "givens" b && mtFldL "rows" c
  | 1, [a] => mtFldL "plans" a
  | _, _ => false
/-- what an __init__ is asked -/
def spInit (K : PySem.W.Frag) (mg : PySem.Str → Option Value) (k : Nat) : Sp := fun vs H Q E => ∃ (B F : Hp) (x C dx : Addr) (ds : List D) (us : List V) (d : D), vs = .ref x :: us ∧ Same F B ∧ B x = none ∧ B dx = none ∧ dx ≠ x ∧ H = upd (upd B dx (.own x)) x (.ins C dx []) ∧ mg (clsName k) = some (.ref C) ∧
  Resl ⟨K, mg, B, F, none⟩ (mkModes k) B F B ds us ∧ mkD k ds = some d ∧ ∀ H' F', Ext B F H' F' → Rp ⟨K, mg, B, F, none⟩ F' d (.ref x) → Q .non H'
/-- a class as it stands in the module -/
structure ClsF (K : PySem.W.Frag) (mg : PySem.Str → Option Value) (k : Nat) : Prop where
  le : k ≤ 1
  ex : ∃ (C f : Addr) (fd : FuncData) (st : Stmt) (qual : PySem.Str), mg (clsName k) = some (.ref C) ∧ Cls K C ∧ (∀ g ∈ clsFlds k, NoAttr K C g) ∧ Mk K C f ∧ Fun K "__init__" qual st f fd ∧ (∀ us : List Value, us.length = (initPs k).length → bindArgs fd ⟨us, []⟩ = pure ((initPs k).zip us)) ∧ C8.scC (initPs k) (initPs k) (defScope st) = true ∧ mtInit k (defBody st) = true ∧ (defScope st).names.lookup ("list" : PySem.Str) = some .globalImplicit ∧
    ∀ n ∈ initPs k, (defScope st).names.lookup n = some .local
theorem ext_ins {B F H F3 : Hp} {x dx C : Addr} {fs : List (PySem.Str × V)} (nx : B x = none) (nd : B dx = none) (ne : dx ≠ x) (b : Same B H) (s : Same F3 H) (fr : ∀ a, B a ≠ none → F3 a = F a) (hx : H x = some (.ins C dx fs)) (hd : H dx = some (.own x)) :
    Ext B F H (upd (upd F3 dx (.own x)) x (.ins C dx fs)) := by
  refine ⟨b, fun a o q => ?_, fun a ha => ?_⟩
  · by_cases e : a = x
    · subst e; rw [upd_same] at q; cases q; exact hx
    · rw [upd_ne e] at q
      by_cases e2 : a = dx
      · subst e2; rw [upd_same] at q; cases q; exact hd
      · rw [upd_ne e2] at q; exact s a o q
  · rw [upd_ne (fun e => by rw [e] at ha; exact ha nx), upd_ne (fun e => by rw [e] at ha; exact ha nd)]
    exact fr a ha
theorem same_two {F3 : Hp} {x dx : Addr} {o o' : HO} (n1 : F3 x = none) (n2 : F3 dx = none) : Same F3 (upd (upd F3 dx o) x o') := fun a u q => by
  rw [upd_ne (fun e => by rw [e, n1] at q; cases q), upd_ne (fun e => by rw [e, n2] at q; cases q)]; exact q
section
variable {X : Cx} {c : Cn} {m : RM} {W : WX} {μ : List Md} {pos pos2 p p2 : Pos} {e : Expr} {eva : Env → R D}
/-- a field read -/
theorem e_fld {k : Nat} {f : PySem.Str} (hK : X.K = c.K) (hk : k = 0 ∨ k = 1 ∨ k = 2 ∨ k = 4) (hf : f = fldName k) (hc : ClsF c.K c.mg (fldCls k)) (hm : m ≠ .O) (he : PE X e (rE c W μ .B eva)) (hb : attributeBase e f X.env (eval e X.env) = eval e X.env) :
    PE X (.Attribute e f pos) (rE c W μ m fun ρ => (eva ρ).bind fun x => R.of (fldD x k)) := by
  subst hf
  refine (pe_fld he hb).weak ?_
  rintro σ H Q ⟨ρ, F, S, h⟩
  refine ⟨ρ, F, S, RK.imp (RK.bnd h) fun dx hx vx H1 F1 e1 rx => ?_⟩
  have hx := RK.mono (fun _ => WD.mono e1) hx e1
  obtain ⟨z, q1, hz⟩ := RK.of hx
  obtain ⟨C, _, _, _, _, hC, hcl, hna, _⟩ := hc.ex
  have rx : Rb c F1 H1 dx vx := rx
  have fin : ∀ v, Rp c F1 z v → Q v H1 := fun v hv => by
    refine hz v H1 F1 (Ext.refl e1.sub) ?_
    cases m with
    | B => exact .inl hv
    | V => exact hv
    | O => exact absurd rfl hm
  cases dx with
  | obj j fs =>
    rcases rx with rx | ⟨_, _, rx⟩
    · simp only [Rp] at rx
      obtain ⟨a, C', dx', vs, rfl, g1, g2, g3, g4, g5⟩ := rx
      match j, q1 with
      | 0, q1 =>
        have hk' : k < 3 ∧ fs[k]? = some z := by
          have q1 : (if k < 3 then fs[k]? else none) = some z := q1
          split at q1
          · rename_i h; exact ⟨h, q1⟩
          · cases q1
        obtain ⟨v, h1, h2⟩ := g5.get hk'.2
        have e0 : fldCls k = 0 := by rcases hk with rfl | rfl | rfl | rfl <;> first | rfl | omega
        rw [e0] at hC hna
        rw [g3] at hC; cases hC
        have hl : vs.length = 3 := g4
        obtain ⟨v0, v1, v2, rfl⟩ : ∃ v0 v1 v2, vs = [v0, v1, v2] := by
          match vs, hl with
          | [a, b, d], _ => exact ⟨a, b, d, rfl⟩
        refine ⟨a, _, dx', _, v, rfl, e1.sub _ _ g1, by rw [hK]; exact hcl, ?_, ?_, fin v h2⟩
        · rw [hK]
          refine hna _ ?_
          rcases hk with rfl | rfl | rfl | rfl <;> first | decide | omega
        · rcases hk with rfl | rfl | rfl | rfl
          · cases h1; rfl
          · cases h1; rfl
          · cases h1; rfl
          · omega
      | 1, q1 =>
        have hk' : k = 4 ∧ fs[0]? = some z := by
          have q1 : (if k = 4 then fs[0]? else none) = some z := q1
          split at q1
          · rename_i h; exact ⟨h, q1⟩
          · cases q1
        obtain ⟨rfl, q2⟩ := hk'
        obtain ⟨v, h1, h2⟩ := g5.get q2
        have hC : c.mg (clsName 1) = some (.ref C) := hC
        rw [g3] at hC; cases hC
        have hl : vs.length = 1 := g4
        obtain ⟨v0, rfl⟩ : ∃ v0, vs = [v0] := by
          match vs, hl with
          | [a], _ => exact ⟨a, rfl⟩
        refine ⟨a, _, dx', _, v, rfl, e1.sub _ _ g1, by rw [hK]; exact hcl, by rw [hK]; exact hna _ (by decide), ?_, fin v h2⟩
        cases h1; rfl
      | j + 2, q1 => cases q1
    · simp only [Ob] at rx
  | exc j r =>
    rcases rx with rx | ⟨_, _, rx⟩
    · simp only [Rp] at rx
    · simp only [Ob] at rx
  | _ => cases q1
theorem sr_init {ρ : Env} {σ : L2.St} {H F : Hp} {us : List V} {ds : List D} {x : V} {ms : List Md} (hσ : σ = (some x) :: us.map some) (hρ : ρ = none :: ds.map some) (l1 : us.length = ms.length) (l2 : ds.length = ms.length) (s : Same F H) (b : Same c.B H) (fr : ∀ a, c.B a ≠ none → F a = c.F0 a)
    (hm : ∀ (i : Nat) (k : Md), ms[i]? = some k → ∃ v d, us[i]? = some v ∧ ds[i]? = some d ∧ ((k = .imm ∧ Rp c F d v) ∨ (k = .bor ∧ Rb c F c.B d v))) : SR c (.dead :: ms) ρ σ H F := by
  subst hσ hρ
  have get : ∀ (i : Nat) (k : Md), (Md.dead :: ms)[i]? = some k → k ≠ .dead → ∃ v d, ((some x) :: us.map some : L2.St)[i]? = some (some v) ∧ getE (none :: ds.map some) i = .ok d ∧ ((k = .imm ∧ Rp c F d v) ∨ (k = .bor ∧ Rb c F c.B d v)) := fun i k h hk => by
    cases i with
    | zero => cases h; exact absurd rfl hk
    | succ i =>
      obtain ⟨v, d, h1, h2, h3⟩ := hm i k (by simpa using h)
      refine ⟨v, d, by simp [h1], ?_, h3⟩
      show getE (ds.map some) i = _
      clear h hm h1 l2
      induction ds generalizing i with
      | nil => simp at h2
      | cons y ys ih =>
        cases i with
        | zero => have : y = d := by simpa using h2
                  subst this; rfl
        | succ i => exact ih i (by simpa using h2)
  refine ⟨by simp [l1], by simp [l2], s, b, fr, fun i hi => ?_, fun i hi => ?_, fun i hi => ?_, fun i j p hi _ _ _ => ?_, fun i p _ hi => by
    obtain ⟨v, d, h1, h2, h3⟩ := get i _ hi (by decide)
    rcases h3 with ⟨h3, _⟩ | ⟨h3, _⟩ <;> cases h3⟩
  · obtain ⟨v, d, h1, h2, h3⟩ := get i _ hi (by decide)
    rcases h3 with ⟨_, h3⟩ | ⟨h3, _⟩
    · exact ⟨v, d, h1, h2, h3⟩
    · cases h3
  · obtain ⟨v, d, h1, h2, h3⟩ := get i _ hi (by decide)
    rcases h3 with ⟨h3, _⟩ | ⟨_, h3⟩
    · cases h3
    · exact ⟨v, d, h1, h2, h3⟩
  · obtain ⟨v, d, h1, h2, h3⟩ := get i _ hi (by decide)
    rcases h3 with ⟨h3, _⟩ | ⟨h3, _⟩ <;> cases h3
  · obtain ⟨v, d, h1, h2, h3⟩ := get i _ hi (by decide)
    rcases h3 with ⟨h3, _⟩ | ⟨h3, _⟩ <;> cases h3

theorem lk_vis {sc : Scope} {n : PySem.Str} (h : sc.names.lookup n = some .local) : Vis sc n := .inl h
/-- list(a parameter) -/
theorem e_listP {i : Nat} {n : PySem.Str} {md : Md} (hK : X.K = c.K) (hN : X.N[i]? = some n) (hv : Vis X.env.scope n) (hd : (n == ("__debug__" : PySem.Str)) = false) (hcd : (n == ("__classdict__" : PySem.Str)) = false) (hμ : μ[i]? = some md) (hmd : modeOk .B md = true) (hg : Gl X "list") (hm : X.mg "list" = none) :
    PE X (.Call (.Name "list" p) [.Name n p2] [] pos) (rE c W μ .V fun ρ => (getE ρ i).bind fun x => R.of (listD x)) := by
  have h := e_bty (W := W) (μ := μ) (p := p) (pos := pos) (m := .V) (b_list (X := X) (m := .V) hK) hg hm (by rfl) (a_cons (ms := []) (m := .B) (e_var (W := W) (pos := p2) hN hv hd hcd hμ hmd) a_nil (by rfl)) (by simp) (by decide +kernel) (by decide +kernel) (by rfl) (by rfl)
  refine h.weak ?_
  rintro σ H Q ⟨ρ, F, S, q⟩
  refine ⟨ρ, F, S, ?_⟩
  have : ((fun ρ => ((getE ρ i).bind fun x => (R.ok []).bind fun xs => R.ok (x :: xs)).bind fun xs => R.of (bltD .list xs)) ρ) = (getE ρ i).bind fun x => R.of (listD x) := by
    simp only [R.bind_assoc, R.ok_bind]
    rfl
  exact this ▸ q

/-- an object half made -/
structure Sv (B F0 : Hp) (x dx C : Addr) (H F : Hp) (fs : List (PySem.Str × V)) : Prop where
  sub : Same F H
  base : Same B H
  fr : ∀ a, B a ≠ none → F a = F0 a
  at_ : H x = some (.ins C dx fs)
  dat : H dx = some (.own x)
  fx : F x = none
  fd : F dx = none
theorem Sv.step {B F0 H F H' F' : Hp} {x dx C : Addr} {fs fs' : List (PySem.Str × V)} (nx : B x = none) (ne : dx ≠ x) (h : Sv B F0 x dx C H F fs) (e : Ext H F H' F') : Sv B F0 x dx C (upd H' x (.ins C dx fs')) F' fs' := by
  have fx : F' x = none := by rw [e.fr x (by rw [h.at_]; simp)]; exact h.fx
  refine ⟨fun a o q => ?_, fun a o q => ?_, fun a ha => ?_, upd_same, by rw [upd_ne ne]; exact e.same _ _ h.dat, fx, ?_⟩
  · rw [upd_ne (fun z => by rw [z, fx] at q; cases q)]; exact e.sub a o q
  · rw [upd_ne (fun z => by rw [z, nx] at q; cases q)]; exact e.same a o (h.base a o q)
  · cases q : B a with
    | none => exact absurd q ha
    | some o => rw [e.fr a (by rw [h.base a o q]; simp), h.fr a ha]
  · rw [e.fr dx (by rw [h.dat]; simp)]; exact h.fd
theorem fld_step {ev : Env → R D} {dd : D} {ρ : Env} {σ : L2.St} {H F : Hp} {D' : Ends} {x C dx : Addr} {fs : List (PySem.Str × V)} {f : PySem.Str} {K : PySem.W.Frag} (hσ : σ[0]? = some (some (.ref x))) (hx : H x = some (.ins C dx fs)) (hC : Cls K C) (hN : NoAttr K C f) (hl : fs.length < 1000) (S : SR c μ ρ σ H F) (he : ev ρ = .ok dd)
    (k : ∀ v H' F', Ext H F H' F' → Rp c F' dd v → D'.nx σ (upd H' x (.ins C dx (putF f v fs)))) : sFld K (tVar 0) (rE c W μ .V ev) f D' σ H := by
  refine ⟨ρ, F, S, ?_⟩
  rw [he]
  intro v H' F' e r
  exact ⟨.ref x, hσ, x, C, dx, fs, rfl, e.same _ _ hx, hC, hN, hl, k v H' F' e r⟩
theorem init_fn {P : Program} {w : World} {K : PySem.W.Frag} {mg : PySem.Str → Option Value} {base : Heap} {k n : Nat} {C f : Addr} {fd : FuncData} {st : Stmt} {qual : PySem.Str} (hb : ∀ x ∈ bltNames', mg x = none) (hk : k ≤ 1) (hmg : mg (clsName k) = some (.ref C)) (hC : Cls K C) (hNA : ∀ g ∈ clsFlds k, NoAttr K C g) (hf : Fun K "__init__" qual st f fd)
    (hsc : C8.scC (initPs k) (initPs k) (defScope st) = true) (hbd : mtInit k (defBody st) = true) (hlist : (defScope st).names.lookup ("list" : PySem.Str) = some .globalImplicit) (hloc : ∀ n ∈ initPs k, (defScope st).names.lookup n = some .local) :
    FnOk P w K mg base (L2.CX P w) (n + 1) f fd (initPs k) (spInit K mg k) := by
  have S := C8.fnScope_by hsc
  have hml : mg "list" = none := hb _ (by simp [bltNames'])
  rcases (by omega : k = 0 ∨ k = 1) with rfl | rfl
  · refine hf.okX S (fun vs H Q E h => ?_) (fun cdv A outer s H vs Q E hroom h => ?_)
    · obtain ⟨B, F, x, C, dx, ds, us, d, rfl, _, _, _, _, _, _, hr, hd, _⟩ := h
      match ds, hd with
      | [a, b, e], _ =>
        match us, hr with
        | [u, v, z], _ => rfl
    · obtain ⟨B, F, x, C', dx, ds, us, d, rfl, sFB, nx, nd, ne, rfl, hmg', hr, hd, hQ⟩ := h
      rw [hmg] at hmg'; cases hmg'
      obtain ⟨d0, d1, d2, rfl⟩ : ∃ a b e, ds = [a, b, e] := by
        match ds, hd with
        | [a, b, e], _ => exact ⟨a, b, e, rfl⟩
      obtain ⟨v0, v1, v2, rfl⟩ : ∃ a b e, us = [a, b, e] := by
        match us, hr with
        | [a, b, e], _ => exact ⟨a, b, e, rfl⟩
      have hd : ((seqOf d1).bind fun g => (seqOf d2).map fun r => D.obj 0 [d0, .lst g, .lst r]) = some d := hd
      rw [Option.bind_eq_some_iff] at hd
      obtain ⟨g1, hg1, hd⟩ := hd
      rw [Option.map_eq_some_iff] at hd
      obtain ⟨g2, hg2, rfl⟩ := hd
      simp only [mkModes, Resl, Res, and_true] at hr
      obtain ⟨r0, r1, r2⟩ := hr
      generalize hX : cxOf (L2.CX P w) P w K mg base (initPs 0) qual (defScope st) f cdv A outer s _ E = X
      have eN : X.N = initPs 0 := by rw [← hX]; rfl
      have eS : X.env.scope = defScope st := by rw [← hX]; rfl
      have eK : X.K = K := by rw [← hX]; rfl
      have eM : X.mg = mg := by rw [← hX]; rfl
      have hv : ∀ n ∈ initPs 0, Vis X.env.scope n := fun n hn => by rw [eS]; exact .inl (hloc n hn)
      have hgl : Gl X "list" := by show X.env.scope.names.lookup _ = _; rw [eS]; exact hlist
      generalize defBody st = body at hbd ⊢
      match body, hbd with
      | [a, b, e], hbd =>
        simp only [mtInit, Bool.and_eq_true] at hbd
        obtain ⟨⟨m1, m2⟩, m3⟩ := hbd
        obtain ⟨_, _, _, _, rfl⟩ := mtFldV_inv m1
        obtain ⟨_, _, _, _, _, _, rfl⟩ := mtFldL_inv m2
        obtain ⟨_, _, _, _, _, _, rfl⟩ := mtFldL_inv m3
        let c : Cn := ⟨K, mg, B, F, none⟩
        have hself : ∀ pos, PE X (.Name "self" pos) (tVar 0) := fun pos => pe_var (by rw [eN]; rfl) (hv _ (by decide)) (by rfl) (by rfl)
        have x1 : ∀ pos, PE X (.Name "name" pos) (rE c W0 [.dead, .imm, .bor, .bor] .V fun ρ => getE ρ 1) := fun pos => e_var (md := .imm) (by rw [eN]; rfl) (hv _ (by decide)) (by rfl) (by rfl) rfl rfl
        have x2 : ∀ p p2 pos, PE X (.Call (.Name "list" p) [.Name "givens" p2] [] pos) (rE c W0 [.dead, .imm, .bor, .bor] .V fun ρ => (getE ρ 2).bind fun x => R.of (listD x)) := fun _ _ _ => e_listP (md := .bor) eK (by rw [eN]; rfl) (hv _ (by decide)) (by rfl) (by rfl) rfl rfl hgl (by rw [eM]; exact hml)
        have x3 : ∀ p p2 pos, PE X (.Call (.Name "list" p) [.Name "rows" p2] [] pos) (rE c W0 [.dead, .imm, .bor, .bor] .V fun ρ => (getE ρ 3).bind fun x => R.of (listD x)) := fun _ _ _ => e_listP (md := .bor) eK (by rw [eN]; rfl) (hv _ (by decide)) (by rfl) (by rfl) rfl rfl hgl (by rw [eM]; exact hml)
        refine ⟨_, pss_cons (ps_fld (hself _) (x1 _) (by rfl)) (pss_cons (ps_fld (hself _) (x2 _ _ _) (by rfl)) (pss_cons (ps_fld (hself _) (x3 _ _ _) (by rfl)) pss_nil)), ?_⟩
        have sr : ∀ {H F' : Hp} {fs : List (PySem.Str × V)}, Sv B F x dx C H F' fs → Same F F' → SR c [.dead, .imm, .bor, .bor] [none, some d0, some d1, some d2] (start (initPs 0) [.ref x, v0, v1, v2]) H F' := fun {H F' fs} h sm => by
          refine sr_init (x := .ref x) (us := [v0, v1, v2]) (ds := [d0, d1, d2]) rfl rfl rfl rfl h.sub h.base h.fr fun i k hi => ?_
          match i, hi with
          | 0, hi => cases hi; exact ⟨v0, d0, rfl, rfl, .inl ⟨rfl, Rp.mono sm _ _ r0⟩⟩
          | 1, hi => cases hi; exact ⟨v1, d1, rfl, rfl, .inr ⟨rfl, r1.mono sm (Same.refl _)⟩⟩
          | 2, hi => cases hi; exact ⟨v2, d2, rfl, rfl, .inr ⟨rfl, r2.mono sm (Same.refl _)⟩⟩
          | i + 3, hi => simp at hi
        have h0 : Sv B F x dx C (upd (upd B dx (.own x)) x (.ins C dx [])) F [] := by
          have fx : F x = none := by
            cases q : F x with
            | none => rfl
            | some o => rw [sFB x o q] at nx; cases nx
          have fdx : F dx = none := by
            cases q : F dx with
            | none => rfl
            | some o => rw [sFB dx o q] at nd; cases nd
          have sB : Same B (upd (upd B dx (.own x)) x (.ins C dx [])) := same_two nx nd
          exact ⟨sFB.trans sB, sB, fun _ _ => rfl, upd_same, by rw [upd_ne ne]; exact upd_same, fx, fdx⟩
        have l1 : listD d1 = some (.lst g1) := by unfold listD; rw [hg1]; rfl
        have l2 : listD d2 = some (.lst g2) := by unfold listD; rw [hg2]; rfl
        have e1 : ∀ ρ : Env, ρ = [none, some d0, some d1, some d2] → ((getE ρ 2).bind fun x => R.of (listD x)) = .ok (.lst g1) := fun ρ q => by subst q; show R.of (listD d1) = _; rw [l1]; rfl
        have e2 : ∀ ρ : Env, ρ = [none, some d0, some d1, some d2] → ((getE ρ 3).bind fun x => R.of (listD x)) = .ok (.lst g2) := fun ρ q => by subst q; show R.of (listD d2) = _; rw [l2]; rfl
        rw [eK]
        refine fld_step (dd := d0) (by rfl) h0.at_ hC (hNA _ (by decide)) (by simp) (sr h0 (Same.refl _)) rfl fun u1 H1 F1 q1 t1 => ?_
        have h1 := h0.step (fs' := [("name", u1)]) nx ne q1
        refine fld_step (dd := .lst g1) (by rfl) h1.at_ hC (hNA _ (by decide)) (by simp) (sr h1 (q1.frs h0.sub)) (e1 _ rfl) fun u2 H2 F2 q2 t2 => ?_
        have h2 := h1.step (fs' := [("name", u1), ("givens", u2)]) nx ne q2
        refine fld_step (dd := .lst g2) (by rfl) h2.at_ hC (hNA _ (by decide)) (by simp) (sr h2 ((q1.frs h0.sub).trans (q2.frs h1.sub))) (e2 _ rfl) fun u3 H3 F3 q3 t3 => ?_
        have h3 := h2.step (fs' := [("name", u1), ("givens", u2), ("rows", u3)]) nx ne q3
        have st := same_two (o := HO.own x) (o' := HO.ins C dx [("name", u1), ("givens", u2), ("rows", u3)]) h3.fx h3.fd
        refine hQ _ (upd (upd F3 dx (.own x)) x (.ins C dx [("name", u1), ("givens", u2), ("rows", u3)])) (ext_ins nx nd ne h3.base h3.sub h3.fr h3.at_ h3.dat) ?_
        simp only [Rp]
        refine ⟨x, C, dx, [u1, u2, u3], rfl, upd_same, by rw [upd_ne ne]; exact upd_same, hmg, rfl, ?_⟩
        exact .cons (Rp.mono ((q2.frs h1.sub).trans ((q3.frs h2.sub).trans st)) _ _ t1) (.cons (Rp.mono ((q3.frs h2.sub).trans st) _ _ t2) (.cons (Rp.mono st _ _ t3) .nil))
  · refine hf.okX S (fun vs H Q E h => ?_) (fun cdv A outer s H vs Q E hroom h => ?_)
    · obtain ⟨B, F, x, C, dx, ds, us, d, rfl, _, _, _, _, _, _, hr, hd, _⟩ := h
      match ds, hd with
      | [a], _ =>
        match us, hr with
        | [u], _ => rfl
    · obtain ⟨B, F, x, C', dx, ds, us, d, rfl, sFB, nx, nd, ne, rfl, hmg', hr, hd, hQ⟩ := h
      rw [hmg] at hmg'; cases hmg'
      obtain ⟨d1, rfl⟩ : ∃ a, ds = [a] := by
        match ds, hd with
        | [a], _ => exact ⟨a, rfl⟩
      obtain ⟨v1, rfl⟩ : ∃ a, us = [a] := by
        match us, hr with
        | [a], _ => exact ⟨a, rfl⟩
      have hd : ((seqOf d1).map fun g => D.obj 1 [.lst g]) = some d := hd
      rw [Option.map_eq_some_iff] at hd
      obtain ⟨g1, hg1, rfl⟩ := hd
      simp only [mkModes, Resl, Res, and_true] at hr
      generalize hX : cxOf (L2.CX P w) P w K mg base (initPs 1) qual (defScope st) f cdv A outer s _ E = X
      have eN : X.N = initPs 1 := by rw [← hX]; rfl
      have eS : X.env.scope = defScope st := by rw [← hX]; rfl
      have eK : X.K = K := by rw [← hX]; rfl
      have eM : X.mg = mg := by rw [← hX]; rfl
      have hv : ∀ n ∈ initPs 1, Vis X.env.scope n := fun n hn => by rw [eS]; exact .inl (hloc n hn)
      have hgl : Gl X "list" := by show X.env.scope.names.lookup _ = _; rw [eS]; exact hlist
      generalize defBody st = body at hbd ⊢
      match body, hbd with
      | [b], hbd =>
        have m2 : mtFldL "plans" b = true := hbd
        obtain ⟨_, _, _, _, _, _, rfl⟩ := mtFldL_inv m2
        let c : Cn := ⟨K, mg, B, F, none⟩
        have hself : ∀ pos, PE X (.Name "self" pos) (tVar 0) := fun pos => pe_var (by rw [eN]; rfl) (hv _ (by decide)) (by rfl) (by rfl)
        have x2 : ∀ p p2 pos, PE X (.Call (.Name "list" p) [.Name "plans" p2] [] pos) (rE c W0 [.dead, .bor] .V fun ρ => (getE ρ 1).bind fun x => R.of (listD x)) := fun _ _ _ => e_listP (md := .bor) eK (by rw [eN]; rfl) (hv _ (by decide)) (by rfl) (by rfl) rfl rfl hgl (by rw [eM]; exact hml)
        refine ⟨_, pss_cons (ps_fld (hself _) (x2 _ _ _) (by rfl)) pss_nil, ?_⟩
        have sr : ∀ {H F' : Hp} {fs : List (PySem.Str × V)}, Sv B F x dx C H F' fs → Same F F' → SR c [.dead, .bor] [none, some d1] (start (initPs 1) [.ref x, v1]) H F' := fun {H F' fs} h sm => by
          refine sr_init (x := .ref x) (us := [v1]) (ds := [d1]) rfl rfl rfl rfl h.sub h.base h.fr fun i k hi => ?_
          match i, hi with
          | 0, hi => cases hi; exact ⟨v1, d1, rfl, rfl, .inr ⟨rfl, hr.mono sm (Same.refl _)⟩⟩
          | i + 1, hi => simp at hi
        have h0 : Sv B F x dx C (upd (upd B dx (.own x)) x (.ins C dx [])) F [] := by
          have fx : F x = none := by
            cases q : F x with
            | none => rfl
            | some o => rw [sFB x o q] at nx; cases nx
          have fdx : F dx = none := by
            cases q : F dx with
            | none => rfl
            | some o => rw [sFB dx o q] at nd; cases nd
          have sB : Same B (upd (upd B dx (.own x)) x (.ins C dx [])) := same_two nx nd
          exact ⟨sFB.trans sB, sB, fun _ _ => rfl, upd_same, by rw [upd_ne ne]; exact upd_same, fx, fdx⟩
        have l1 : listD d1 = some (.lst g1) := by unfold listD; rw [hg1]; rfl
        have e1 : ∀ ρ : Env, ρ = [none, some d1] → ((getE ρ 1).bind fun x => R.of (listD x)) = .ok (.lst g1) := fun ρ q => by subst q; show R.of (listD d1) = _; rw [l1]; rfl
        rw [eK]
        refine fld_step (dd := .lst g1) (by rfl) h0.at_ hC (hNA _ (by decide)) (by simp) (sr h0 (Same.refl _)) (e1 _ rfl) fun u1 H1 F1 q1 t1 => ?_
        have h1 := h0.step (fs' := [("plans", u1)]) nx ne q1
        have st := same_two (o := HO.own x) (o' := HO.ins C dx [("plans", u1)]) h1.fx h1.fd
        refine hQ _ (upd (upd F1 dx (.own x)) x (.ins C dx [("plans", u1)])) (ext_ins nx nd ne h1.base h1.sub h1.fr h1.at_ h1.dat) ?_
        simp only [Rp]
        exact ⟨x, C, dx, [u1], rfl, upd_same, by rw [upd_ne ne]; exact upd_same, hmg, rfl, .cons (Rp.mono st _ _ t1) .nil⟩
theorem passE0 : Passes (L2.CX X.prog X.w) X E0 := fun _ _ _ _ _ _ _ h => by
  obtain ⟨_, _, _, _, _, _, _, _, _, _, _, _, z⟩ := h
  exact z.elim
theorem mkD_len {k : Nat} (hk : k ≤ 1) {ds : List D} {d : D} (h : mkD k ds = some d) : ds.length = (mkModes k).length := by
  rcases (by omega : k = 0 ∨ k = 1) with rfl | rfl
  · match ds, h with
    | [a, b, e], _ => rfl
  · match ds, h with
    | [a], _ => rfl
theorem mkD_not {k : Nat} (hk : k ≤ 1) {ds : List D} {d : D} (h : mkD k ds = some d) : isOwn d = false := by
  rcases (by omega : k = 0 ∨ k = 1) with rfl | rfl
  · match ds, h with
    | [a, b, e], h =>
      have h : ((seqOf b).bind fun g => (seqOf e).map fun r => D.obj 0 [a, .lst g, .lst r]) = some d := h
      rw [Option.bind_eq_some_iff] at h
      obtain ⟨g1, hg1, h⟩ := h
      rw [Option.map_eq_some_iff] at h
      obtain ⟨g2, hg2, rfl⟩ := h
      rfl
  · match ds, h with
    | [a], h =>
      have h : ((seqOf a).map fun g => D.obj 1 [.lst g]) = some d := h
      rw [Option.map_eq_some_iff] at h
      obtain ⟨g2, hg2, rfl⟩ := h
      rfl
/-- an object made -/
theorem e_mk {k j : Nat} {C f : Addr} {fd : FuncData} {es : List Expr} {evs : Env → R (List D)} {x : PySem.Str} (hk : k ≤ 1) (hx : x = clsName k) (hK : X.K = c.K) (hmg : X.mg = c.mg) (hM : Mk X.K C f) (Fn : FnOk X.prog X.w X.K X.mg X.base (L2.CX X.prog X.w) j f fd (initPs k) (spInit c.K c.mg k)) (hr : Room (j + 1) X.A) (hg : Gl X x) (hm : c.mg (clsName k) = some (.ref C))
    (hb : Binds X.K fd (initPs k) []) (ha : PA X (e :: es) (rA c W μ (mkModes k) evs)) (hlen : ∀ ρ ds, evs ρ = .ok ds → True) (he : starEach (e :: es) X.env = (false, eval e X.env) :: starEach es X.env) (hpl : (backTo pos (starEach es X.env)).any (·.1) = false) :
    PE X (.Call (.Name x p) (e :: es) [] pos) (rE c W μ m fun ρ => (evs ρ).bind fun xs => R.of (mkD k xs)) := by
  subst hx
  have hdb : (clsName k == ("__debug__" : PySem.Str)) = false := by
    rcases (by omega : k = 0 ∨ k = 1) with rfl | rfl <;> rfl
  refine (pe_make (dvs := []) (ds := []) hM Fn hr hg (by rw [hmg]; exact hm) hb .nil passE0 ha hdb he hpl).weak ?_
  rintro σ H Q ⟨ρ, F, S, h⟩
  refine rA_use (ms := mkModes k) (m := m) (Q := Q) (g := fun xs => R.of (mkD k xs)) S h fun ds vs H1 F1 e1 r q => ?_
  obtain ⟨z, e3, hz⟩ := (RK.mono (fun _ => WD.mono e1) q e1).of
  intro x dx nx nd ne
  rw [List.append_nil]
  have fx : F1 x = none := by
    cases q : F1 x with
    | none => rfl
    | some o => rw [e1.sub x o q] at nx; cases nx
  refine ⟨H1, F1, x, C, dx, ds, vs, z, rfl, e1.sub, nx, nd, ne, rfl, hm, ?_, e3, fun H' F' e' r' => ⟨rfl, ?_⟩⟩
  · have hl := mkD_len hk e3
    rcases (by omega : k = 0 ∨ k = 1) with rfl | rfl
    · match ds, vs, r, hl with
      | [a, b, d], [u, v, w], r, _ =>
        simp only [mkModes, Resl, Res, and_true] at r ⊢
        exact ⟨by rw [Rp.cn (B' := c.B) (F0' := c.F0)]; exact r.1, by rw [Rb.cn (B' := c.B) (F0' := c.F0)]; exact r.2.1, by rw [Rb.cn (B' := c.B) (F0' := c.F0)]; exact r.2.2⟩
    · match ds, vs, r, hl with
      | [a], [u], r, _ =>
        simp only [mkModes, Resl, Res, and_true] at r ⊢
        rw [Rb.cn (B' := c.B) (F0' := c.F0)]; exact r
  · refine hz _ H' F' e' (Res.of_rp ?_ (mkD_not hk e3))
    rw [Rp.cn (B' := H1) (F0' := F1)]
    exact r'
end
end Mi

/-! Mi, part C14: the module's constants. -/
namespace Mi
open PySem L2 PySem.Spec PyProof.Rows

inductive GC where
  | int (i : Int) | str (x : PySem.Str) | strs (xs : List PySem.Str)
def GC.d : GC → D
  | .int i => .int i
  | .str x => .str x
  | .strs xs => .tup (xs.map .str)
def eqG : D → GC → Bool
  | .int i, .int j => decide (i = j)
  | .str x, .str y => decide (x = y)
  | .tup ds, .strs xs => decide (strsOf ds = some xs)
  | _, _ => false
theorem strsOf_inv : ∀ {ds : List D} {xs : List PySem.Str}, strsOf ds = some xs → ds = xs.map .str
  | [], xs, h => by cases h; rfl
  | d :: ds, xs, h => by
    cases d <;> simp only [strsOf] at h <;> try contradiction
    rw [Option.map_eq_some_iff] at h
    obtain ⟨ys, h1, rfl⟩ := h
    rw [strsOf_inv h1]; rfl
theorem eqG_inv {d : D} {g : GC} (h : eqG d g = true) : d = g.d := by
  cases d <;> cases g <;> simp only [eqG] at h <;> try contradiction
  · rw [of_decide_eq_true h]; rfl
  · rw [of_decide_eq_true h]; rfl
  · rw [strsOf_inv (of_decide_eq_true h)]; rfl
theorem GC.not_own (g : GC) : isOwn g.d = false := by cases g <;> rfl
def GF (K : PySem.W.Frag) (mg : PySem.Str → Option Value) (p : PySem.Str × GC) : Prop := ∃ v u, mg p.1 = some u ∧ RelV v u ∧ ∀ (mg' : PySem.Str → Option Value) (B F0 F : Hp) (io : Option (Nat × Addr)), Rp ⟨K, mg', B, F0, io⟩ F p.2.d v
section
variable {K : PySem.W.Frag} {h : Heap} {mg : PySem.Str → Option Value} {x : PySem.Str}
theorem gf_int {i : Int} {t : Tok} (X : K.In h) (G : h.Ns mainGlobals mg) (a : PySem.W.nsIn K mainGlobals x = some (some (.int i t))) : GF K mg (x, .int i) :=
  ⟨.int i, _, PySem.W.mg_of X G a, ⟨_, rfl⟩, fun _ _ _ _ _ => by simp [GC.d, Rp]⟩
theorem gf_str {s : PySem.Str} {t : Tok} (X : K.In h) (G : h.Ns mainGlobals mg) (a : PySem.W.nsIn K mainGlobals x = some (some (.str s t))) : GF K mg (x, .str s) :=
  ⟨.str s, _, PySem.W.mg_of X G a, ⟨_, rfl⟩, fun _ _ _ _ _ => by simp [GC.d, Rp]⟩
theorem rps_strs {c : Cn} {F : Hp} : ∀ xs : List PySem.Str, Rps c F (xs.map .str) (xs.map .str)
  | [] => .nil
  | x :: xs => .cons (by simp [Rp]) (rps_strs xs)
theorem dictB_strs (xs : List PySem.Str) : dictB (xs.map .str) = false := by cases xs <;> rfl
theorem gf_strs {xs : List PySem.Str} {ad : Addr} {od : Option Addr} {its : Array Value} {n : Nat} {sl : Array (Option Value)} (X : K.In h) (G : h.Ns mainGlobals mg) (a : PySem.W.nsIn K mainGlobals x = some (some (.ref ad))) (l : K.lookup ad = some ⟨.type "tuple", od, .seq its n, sl⟩) (z : its.size ≤ sizeLine) (v : Vals (xs.map V.str) its.toList) : GF K mg (x, .strs xs) :=
  ⟨.ref ad, _, PySem.W.mg_of X G a, rfl, fun mg' B F0 F _ => by
    simp only [GC.d, Rp]
    exact ⟨ad, _, rfl, .inr ⟨_, its, n, l, rfl, rfl, z, v⟩, rps_strs xs, fun q => by rw [dictB_strs] at q; cases q⟩⟩
theorem gf_cons {p : PySem.Str × GC} {r : List (PySem.Str × GC)} (h : GF K mg p) (t : ∀ q ∈ r, GF K mg q) : ∀ q ∈ p :: r, GF K mg q := fun q hq => by
  rcases List.mem_cons.mp hq with rfl | e
  · exact h
  · exact t _ e
theorem gf_nil : ∀ q ∈ ([] : List (PySem.Str × GC)), GF K mg q := fun _ h => by simp at h
end
section
variable {X : Cx} {c : Cn} {m : RM} {W : WX} {μ : List Md} {pos : Pos}
theorem e_glob {x : PySem.Str} {g : GC} (hK : X.K = c.K) (hmg : X.mg = c.mg) (hg : Gl X x) (hd : (x == ("__debug__" : PySem.Str)) = false) (h : GF c.K c.mg (x, g)) : PE X (.Name x pos) (rE c W μ m fun _ => .ok g.d) := by
  obtain ⟨v, u, h1, h2, h3⟩ := h
  exact e_const (pe_glob hg (by rw [hmg]; exact h1) h2 hd) (fun F => h3 _ _ _ _ _) g.not_own
end
end Mi

/-! Mi, part C15: a walk over a dict that only looks at its values, and may raise. -/
namespace Mi
open PySem L2 PySem.Spec PyProof.Rows

theorem takes_lock {X : Cx} {W : WX} {d : Addr} {u : HO} (tk : Takes X W) (hn : ∀ o' u', X.H_0 d ≠ some (.frz o' u')) : Takes X (fun cls dx σ H => ∃ od, H d = some (.frz od u) ∧ W cls dx σ (upd H d u)) := by
  rintro z s' ⟨a, B, sI, pins, σ, H, cls, dd, e, I, nb, up, sky, na, os, ag, od, h1, w⟩
  refine tk z s' ⟨a, B, sI, pins, σ, upd H d u, cls, dd, e, I.unlock h1 hn, nb, up, sky, ?_, os, ag, w⟩
  rw [upd_ne (fun z => by rw [z, h1] at na; cases na)]
  exact na
theorem Rpk.nth {c : Cn} {F : Hp} : ∀ {ks : List (Key × D)} {vs : List (Key × V)} {q : Nat} {k : Key} {v : V}, Rpk c F ks vs → vs[q]? = some (k, v) → ∃ d, ks[q]? = some (k, d)
  | [], vs, q, k, v, h, e => by
    simp only [Rpk] at h
    subst h
    simp at e
  | (k0, d0) :: ks, vs, q, k, v, h, e => by
    simp only [Rpk] at h
    obtain ⟨v0, r, rfl, _, h⟩ := h
    cases q with
    | zero =>
      simp only [List.getElem?_cons_zero, Option.some.injEq, Prod.mk.injEq] at e
      exact ⟨d0, by simp [e.1]⟩
    | succ q =>
      obtain ⟨d, hd⟩ := Rpk.nth h (by simpa using e)
      exact ⟨d, by simpa using hd⟩
theorem keyOf_keyD (k : Key) : keyOf (keyD k) = some k := by cases k <;> rfl
section
variable {X : Cx} {c : Cn} {W : WX} {μ μc : List Md} {ms : List Nat} {fr : Bool}
theorem s_dwalk {tgx iter ye xe re : Expr} {k : Nat} {C : Addr} {i j : Nat} {N : Int} {jj : Nat} {p3 p4 p5 p6 p7 pos : Pos} {evb : Env → FL} (hp : PassesOwn (model X.prog X.w) X.A X.env X.xe) (hc : X.calm = true) (hu : X.A.units + 1 < cLine)
    (tk : Takes X W) (he : ∀ W', Takes X W' → PS X (.Raise (some re) none p6) (fun _ σ H => W' (.ref C) none σ H)) (hm : c.mg (excName k) = some (.ref C)) (hk : ¬(k = 8 ∨ k = 9))
    (hg : PG X tgx (gName i)) (hy : PE X iter (tVar j)) (hy2 : PE X ye (tVar j)) (hx : PE X xe (tVar i)) (hs : ∀ x, foldedSetIterable iter X.env x = pure x) (hns : NoSl xe) (hμ : μ[j]? = some .imm) (hij : j ≠ i) (hi : i < μ.length) (hms : i ∈ ms)
    (hev : ∀ ρ, evb ρ = FL.of (((getE ρ j).bind fun s => (getE ρ i).bind fun z => R.of (idxD s z)).bind fun v => (R.of (cmpD .gt v (.int N))).bind fun t => R.of (boolD t)) fun b => if b then .exc k 0 else .nx ρ) :
    PS X (.For tgx iter [.If (.Compare (.Subscript ye xe p3) [.Gt] [.Constant (.int N) jj p4] p5) [.Raise (some re) none p6] [] p7] [] pos)
      (rS c W μ (some (msets μ [i] .dead)) μc ms fr (evFor (.one i) (fun ρ => (getE ρ j).bind fun s => R.of (keysOf s)) [i] evb)) := by
  refine ⟨fun pins s σ H D I hw => ?_⟩
  obtain ⟨ρ, F, S, h⟩ := hw
  obtain ⟨v, d, h1, h2, h3⟩ := S.imm j hμ
  have h : FK c W μ (some (msets μ [i] .dead)) μc ms fr ρ D F (FL.of ((getE ρ j).bind fun s => R.of (keysOf s)) fun xs => forL [i] (turnF (.one i) evb) xs ρ) := h
  rw [h2] at h
  cases d with
  | dct kds =>
    obtain ⟨a, vs, rfl, h4, h5⟩ : ∃ a kvs, v = .ref a ∧ F a = some (.dK kvs) ∧ Rpk c F kds kvs := h3
    have hH := S.sub a _ h4
    have hn := I.nofrz hH trivial
    have hl := h5.length
    have hb := pss_one (ps_if (pos := p7) (pt_cmp (pos := p5) (pc_gt (pe_dget (pos := p3) hu hy2 hx hns) (pe_int (i := N) (j := jj) (pos := p4)))) (pss_one (he _ (takes_lock (u := .dK vs) tk hn))) pss_nil)
    have h6 := ps_for (pos := pos) hp hc (pi_keys hy) hg hb hs
    refine (ps_lock h6).run pins s σ H D I ⟨a, .dK vs, hH, trivial, fun od => ?_⟩
    generalize eL : upd H a (.frz od (.dK vs)) = HL
    have hL : HL a = some (.frz od (.dK vs)) := by rw [← eL]; exact upd_same
    have hU : upd HL a (.dK vs) = H := by
      funext b
      by_cases e : b = a
      · subst e; rw [upd_same, hH]
      · rw [upd_ne e, ← eL, upd_ne e]
    refine ⟨.ref a, h1, a, od, rfl, .inl ⟨vs, hL, ?_⟩⟩
    have h : FK c W μ (some (msets μ [i] .dead)) μc ms fr ρ D F (forL [i] (turnF (.one i) evb) (kds.map fun p => keyD p.1) ρ) := h
    generalize ht : forL [i] (turnF (.one i) evb) (kds.map fun p => keyD p.1) ρ = total at h
    have hSX : ∀ (σ' : L2.St), σ'.length = σ.length → (∀ t, t ≠ i → σ'[t]? = σ[t]?) → SR c (msets μ ms .dead) ρ σ' H F := fun σ' l1 l2 => S.kill (msets_length _ _ _) l1 rfl fun t m ht hm => by
      by_cases e : t ∈ ms
      · exact absurd (msets_in e ht) hm
      · rw [msets_out e] at ht
        exact ⟨ht, l2 t fun z => e (z ▸ hms), rfl⟩
    have hSR : ∀ (σ' : L2.St) (ρ' : Env), σ'.length = σ.length → (∀ t, t ≠ i → σ'[t]? = σ[t]?) → ρ'.length = ρ.length → (∀ t, t ≠ i → getE ρ' t = getE ρ t) → SR c (msets μ [i] .dead) ρ' σ' H F := fun σ' ρ' l1 l2 l3 l4 => S.kill (msets_length _ _ _) l1 l3 fun t m ht hm => by
      by_cases e : t ∈ [i]
      · exact absurd (msets_in e ht) hm
      · rw [msets_out e] at ht
        have e : t ≠ i := by simpa using e
        exact ⟨ht, l2 t e, l4 t e⟩
    refine ⟨fun q n σ' H' => n = vs.length - q ∧ q ≤ vs.length ∧ H' = HL ∧ σ'.length = σ.length ∧ (∀ t, t ≠ i → σ'[t]? = σ[t]?) ∧ ∃ ρi : Env, ρi.length = ρ.length ∧ (∀ t, t ≠ i → getE ρi t = getE ρ t) ∧ forL [i] (turnF (.one i) evb) ((kds.drop q).map fun p => keyD p.1) ρi = total,
      ⟨vs.length, by simp, Nat.zero_le _, rfl, rfl, fun _ _ => rfl, ρ, rfl, fun _ _ => rfl, by simpa using ht⟩, ?_⟩
    rintro q n σ2 H2 ⟨rfl, hle, rfl, hσ, hσ2, ρi, hρ, hρ2, hq⟩
    by_cases hlt : q < vs.length
    · refine .inr ⟨⟨hL, hlt⟩, fun σ' H' => H' = H2 ∧ σ'.length = σ.length ∧ (∀ t, t ≠ i → σ'[t]? = σ[t]?) ∧ ∃ ρi : Env, ρi.length = ρ.length ∧ (∀ t, t ≠ i → getE ρi t = getE ρ t) ∧ forL [i] (turnF (.one i) evb) ((kds.drop (q + 1)).map fun p => keyD p.1) ρi = total, fun σ' H' hN => ⟨vs.length - (q + 1), by omega, rfl, by omega, hN⟩, ?_⟩
      rintro x H' ⟨rfl, key, val, hkv, rfl⟩
      obtain ⟨dd, hd⟩ := h5.nth hkv
      have hdr : kds.drop q = (key, dd) :: kds.drop (q + 1) := by
        have hq' := (List.getElem?_eq_some_iff.mp hd)
        obtain ⟨z, e⟩ := hq'
        rw [List.drop_eq_getElem_cons z, e]
      rw [hdr, List.map_cons] at hq
      unfold forL at hq
      have e1 : turnF (.one i) evb (keyD key) (killAll ρi [i]) = evb (setE (killAll ρi [i]) i (keyD key)) := rfl
      simp only at hq
      rw [e1, hev] at hq
      have l1 : (setE (killAll ρi [i]) i (keyD key)).length = ρ.length := by rw [length_setE, length_killAll, hρ]
      have l2 : ∀ t, t ≠ i → getE (setE (killAll ρi [i]) i (keyD key)) t = getE ρ t := fun t e => by
        rw [getE_set_ne e, getE_killAll (by simpa using e), hρ2 t e]
      have l3 : getE (setE (killAll ρi [i]) i (keyD key)) i = .ok (keyD key) := getE_set (by rw [length_killAll, hρ, S.lenR]; exact hi)
      rw [l2 j hij, h2, l3] at hq
      generalize setE (killAll ρi [i]) i (keyD key) = ρ' at hq l1 l2
      have l4 : ((σ2.set i (some (kV key))).length = σ.length) := by rw [List.length_set]; exact hσ
      have l5 : ∀ t, t ≠ i → (σ2.set i (some (kV key)))[t]? = σ[t]? := fun t e => by rw [List.getElem?_set_ne (fun z => e z.symm)]; exact hσ2 t e
      have ei : idxD (.dct kds) (keyD key) = look key kds := by
        show (keyOf (keyD key)).bind (fun k => look k kds) = _
        rw [keyOf_keyD]; rfl
      have hq : (match FL.of (((R.ok (Mi.D.dct kds)).bind fun s => (R.ok (keyD key)).bind fun z => R.of (idxD s z)).bind fun v => (R.of (cmpD .gt v (.int N))).bind fun t => R.of (boolD t)) (fun b => if b then FL.exc k 0 else FL.nx ρ') with
        | .nx ρ' => forL [i] (turnF (.one i) evb) ((kds.drop (q + 1)).map fun p => keyD p.1) ρ'
        | .ct ρ' => forL [i] (turnF (.one i) evb) ((kds.drop (q + 1)).map fun p => keyD p.1) ρ'
        | .rt d => .rt d
        | .exc c r => .exc c r
        | .stuck => .stuck) = total := hq
      simp only [R.ok_bind, ei] at hq
      cases el : look key kds with
      | none => rw [el] at hq; subst hq; exact h.elim
      | some w =>
        rw [el] at hq
        obtain ⟨z, e3, r⟩ := (h5.get key).1 w el
        cases w with
        | int w =>
          have hz : z = .int w := r
          subst hz
          refine ⟨.ref a, by rw [l5 j hij]; exact h1, kV key, by rw [List.getElem?_set_self (by rw [hσ, S.lenS]; exact hi)], a, .int w, rfl, .inl ⟨vs, key, .inr ⟨od, hL⟩, rfl, e3.symm⟩, w, N, rfl, rfl, decide (N < w), rfl, ?_⟩
          show (if decide (N < w) = true then _ else _)
          by_cases cw : N < w
          · rw [if_pos (decide_eq_true cw)]
            refine ⟨od, hL, ?_⟩
            rw [hU]
            have e : total = .exc k 0 := by
              rw [← hq]
              show (match (if decide (N < w) = true then FL.exc k 0 else FL.nx ρ') with | .nx ρ' => _ | .ct ρ' => _ | .rt d => _ | .exc c r => _ | .stuck => _) = _
              rw [if_pos (decide_eq_true cw)]
            rw [e] at h
            exact h _ H F (.ref C) none (hSX _ l4 l5) (Same.refl _) ⟨C, rfl, hm, by rw [if_neg hk]⟩
          · rw [if_neg (by simpa using cw)]
            refine ⟨rfl, l4, l5, ρ', l1, l2, ?_⟩
            rw [← hq]
            show _ = (match (if decide (N < w) = true then FL.exc k 0 else FL.nx ρ') with | .nx ρ' => _ | .ct ρ' => _ | .rt d => _ | .exc c r => _ | .stuck => _)
            rw [if_neg (by simpa using cw)]
        | _ => subst hq; exact h.elim
    · have hq0 : q = vs.length := by omega
      refine .inl ⟨⟨hL, by omega⟩, hL, ?_⟩
      rw [hU]
      rw [hq0, hl, List.drop_length] at hq
      have e : total = .nx (killAll ρi [i]) := hq.symm
      rw [e] at h
      exact h σ2 H F (hSR _ _ hσ hσ2 (by rw [length_killAll, hρ]) fun t e => by rw [getE_killAll (by simpa using e), hρ2 t e]) (Same.refl _)
  | _ => exact h.elim
end
end Mi

/-! Mi, part C16: a call of a def that changes its first argument, within an expression. -/
namespace Mi
open PySem L2 PySem.Spec PyProof.Rows

section
variable {X : Cx} {c : Cn} {m : RM} {W : WX} {μ : List Md} {μ' : Option (List Md)} {μc : List Md} {ms : List Nat} {fr : Bool} {pos px : Pos} {a b d e : Expr} {es : List Expr} {eva evb evd : Env → R D} {evs : Env → R (List D)} {ρ : Env} {σ : L2.St} {H F H' F' : Hp} {i j : Nat} {x : PySem.Str} {cl : Env → R Env}
/-- as it is wanted behind an effect -/
def ResX (c : Cn) : RM → Hp → Hp → D → V → Prop
  | .V, F', _, d, v => Rp c F' d v
  | _, F', H', d, v => Rb c F' H' d v
theorem ResX.of {H0 : Hp} {dd : D} {v : V} (hm : m ≠ .O) (h : Res c m H0 F' H' dd v) : ResX c m F' H' dd v := by
  cases m
  · exact h
  · exact h
  · exact absurd rfl hm
/-- a reading with an effect: the slots stand behind it as cl tells -/
def rX (c : Cn) (μ : List Md) (m : RM) (cl : Env → R Env) (ev : Env → R D) : TE := fun σ H Q => ∃ ρ F, SR c μ ρ σ H F ∧ ∃ ρ', cl ρ = .ok ρ' ∧ ∃ d, ev ρ' = .ok d ∧ ∀ v H' F', SR c μ ρ' σ H' F' → Same F F' → ResX c m F' H' d v → Q v H'
def rXT (c : Cn) (μ : List Md) (cl : Env → R Env) (ev : Env → R Bool) : TT := fun σ H Q => ∃ ρ F, SR c μ ρ σ H F ∧ ∃ ρ', cl ρ = .ok ρ' ∧ ∃ b, ev ρ' = .ok b ∧ ∀ H' F', SR c μ ρ' σ H' F' → Same F F' → Q b H'
def rXA (c : Cn) (μ : List Md) (cl : Env → R Env) (ev : Env → R (List D)) : TA := fun σ H Q => ∃ ρ F, SR c μ ρ σ H F ∧ ∃ ρ', cl ρ = .ok ρ' ∧ ∃ ds, ev ρ' = .ok ds ∧ ∀ vs H' F', SR c μ ρ' σ H' F' → Same F F' → Rps c F' ds vs → Q vs H'
/-! ### the call -/
theorem SR.io {p : Addr} {t : Nat} {r y : D} {F1 H1 : Hp} (S : SR c μ ρ σ H1 F1) (hμ : μ[i]? = some .own) (ht : μ[t]? = some .dead) (hp : σ[i]? = some (some (.ref p))) (o : Out (without H1 p) F1 H' F') (hO : Ob c F' H' p y) (hF : F' p = none) :
    SR c μ (setE (setE ρ t r) i y) σ H' F' ∧ Same F1 F' := by
  obtain ⟨q, d0, h1, h2, h3, h4, h5⟩ := S.own i hμ
  rw [hp] at h1; cases h1
  have hi : i < ρ.length := by rw [S.lenR]; exact (List.getElem?_eq_some_iff.mp hμ).1
  have wn : ∀ {a}, a ≠ p → without H1 p a = H1 a := fun {a} ha => by unfold without; rw [if_neg ha]
  have hbase : ∀ a, c.B a ≠ none → without H1 p a ≠ none ∧ without H1 p a = H1 a := fun a ha => by
    have hap : a ≠ p := fun e => ha (by rw [e]; exact h4)
    rw [wn hap]
    refine ⟨?_, rfl⟩
    cases q : c.B a with
    | none => exact absurd q ha
    | some u => rw [S.base a u q]; simp
  have eF : Same F1 F' := fun a u hu => by
    have hap : a ≠ p := fun e => by rw [e, h5] at hu; cases hu
    have hH := S.sub a u hu
    rw [o.fr a (by rw [wn hap, hH]; simp)]; exact hu
  have ne : ∀ {j : Nat} {k : Md}, μ[j]? = some k → k ≠ .own → k ≠ .dead → getE (setE (setE ρ t r) i y) j = getE ρ j := fun {j k} e h1 h2 => by
    have e1 : j ≠ i := fun z => by rw [z, hμ] at e; cases e; exact h1 rfl
    have e2 : j ≠ t := fun z => by rw [z, ht] at e; cases e; exact h2 rfl
    rw [getE_set_ne e1, getE_set_ne e2]
  refine ⟨⟨S.lenS, by rw [length_setE, length_setE]; exact S.lenR, o.sub, fun a u hu => ?_, fun a ha => ?_, fun j hj => ?_, fun j hj => ?_, fun j hj => ?_, S.sep, S.pin⟩, eF⟩
  · have := (hbase a (by rw [hu]; simp)).2
    exact o.same a u (by rw [this]; exact S.base a u hu)
  · rw [o.fr a (hbase a ha).1, S.fr a ha]
  · obtain ⟨v, d, g1, g2, g3⟩ := S.imm j hj
    exact ⟨v, d, g1, by rw [ne hj (by decide) (by decide)]; exact g2, Rp.mono eF _ _ g3⟩
  · obtain ⟨v, d, g1, g2, g3⟩ := S.bor j hj
    exact ⟨v, d, g1, by rw [ne hj (by decide) (by decide)]; exact g2, g3.mono eF (Same.refl _)⟩
  · by_cases hji : j = i
    · subst hji
      exact ⟨p, y, hp, getE_set (by rw [length_setE]; exact hi), hO, h4, hF⟩
    · obtain ⟨q, d1, g1, g2, g3, g4, g5⟩ := S.own j hj
      have hq : q ≠ p := fun e => hji (S.sep j i p hj hμ (by rw [g1, e]) hp)
      have e2 : j ≠ t := fun z => by rw [z, ht] at hj; cases hj
      have hHq : H' q = H1 q := by
        cases z : H1 q with
        | none => exact absurd z g3.ne
        | some u => exact o.same q u (by rw [wn hq]; exact z)
      refine ⟨q, d1, g1, by rw [getE_set_ne hji, getE_set_ne e2]; exact g2, ?_, g4, by rw [o.fr q (by rw [wn hq]; exact g3.ne)]; exact g5⟩
      cases d1 <;> simp only [Ob] at g3 ⊢
      · obtain ⟨vs, k1, k2⟩ := g3; exact ⟨vs, by rw [hHq]; exact k1, Rps.mono eF _ _ k2⟩
      · obtain ⟨vs, k1, k2⟩ := g3; exact ⟨vs, by rw [hHq]; exact k1, Rpk.mono eF _ _ k2⟩
/-- the arguments: a slot of one's own, then others -/
def rIO (c : Cn) (W : WX) (μ : List Md) (i : Nat) (ms : List RM) (ev : Env → R (List D)) : TA := fun σ H Q => ∃ ρ F p, SR c μ ρ σ H F ∧ σ[i]? = some (some (.ref p)) ∧ RK c W σ (fun ds F0 H0 => ∀ vs H' F', Ext F0 F0 F0 F0 → Ext H F H' F' → Resl c ms H F' H' ds vs → Q (.ref p :: vs) H') F H (ev ρ)
theorem eff_inv {Φ : Phi} {t i f : Nat} {mes : List ME} {ρ ρ' : Env} (h : effR Φ t i f mes ρ = .ok ρ') : ∃ y xs r y', getE ρ i = .ok y ∧ evEs Φ mes ρ = .ok xs ∧ Φ f (y :: xs) = .ok (.tup [r, y']) ∧ ρ' = setE (setE ρ t r) i y' := by
  obtain ⟨y, h1, h⟩ := bind_ok (noX_inv h)
  obtain ⟨xs, h2, h⟩ := bind_ok h
  obtain ⟨d, h3, h⟩ := bind_ok h
  obtain ⟨ds, h4, h⟩ := bind_ok h
  have h4 : tupOf d = some ds := by
    cases q : tupOf d with
    | none => rw [q] at h4; cases h4
    | some z => rw [q] at h4; cases h4; rfl
  cases d <;> simp only [tupOf] at h4 <;> cases h4
  match ds, h with
  | [r, y'], h => cases h; exact ⟨y, xs, r, y', h1, h2, h3, rfl⟩
  | [], h => cases h
  | [_], h => cases h
  | _ :: _ :: _ :: _, h => cases h
theorem eff_noexc {Φ : Phi} {t i f : Nat} {mes : List ME} {ρ : Env} {k : Nat} {r : Int} : effR Φ t i f mes ρ ≠ .exc k r := by
  unfold effR noX
  split
  · exact fun h => by cases h
  · rename_i h; intro z; exact h _ _ z
theorem xx_call {Φ : Phi} {fx : PySem.Str} {p py : Pos} {y : PySem.Str} {k t i f : Nat} {fa : Addr} {fd : FuncData} {ps : List PySem.Str} {pms : List Md} {fr : Bool} {mes : List ME} (hK : X.K = c.K) (tk : Takes X W)
    (Fn : FnOk X.prog X.w X.K X.mg X.base (L2.CX X.prog X.w) k fa fd ps (spOf c (.io :: pms) fr (Φ f))) (hr : Room k X.A) (hg : Gl X fx) (hm : X.mg fx = some (.ref fa)) (hk : PySem.W.keepIn X.K (.ref fa) = true) (hb : Binds X.K fd ps [])
    (hN : X.N[i]? = some y) (hv : Vis X.env.scope y) (hd1 : (y == ("__debug__" : PySem.Str)) = false) (hcd : (y == ("__classdict__" : PySem.Str)) = false) (hμ : μ[i]? = some .own) (ht : μ[t]? = some .dead)
    (ha : PA X es (rA c W μ (pms.map rmArg) (evEs Φ mes))) (hpm : (pms.all fun k => decide (k = .imm)) = true) (hlen : ∀ ρ ds, evEs Φ mes ρ = .ok ds → ds.length = pms.length)
    (hdb : (fx == ("__debug__" : PySem.Str)) = false) (hs : starEach (.Name y py :: es) X.env = (false, eval (.Name y py) X.env) :: starEach es X.env) (hpl : (backTo pos (starEach es X.env)).any (·.1) = false) :
    PE X (.Call (.Name fx p) (.Name y py :: es) [] pos) (rX c μ .V (effR Φ t i f mes) fun ρ => getE ρ t) := by
  refine (pe_callSD (E := WE W) Fn hr hg hm hk hb .nil (fun σ => passAt tk σ) (pa_cons (pe_var (i := i) hN hv hd1 hcd) ha hs) hdb hs hpl).weak ?_
  rintro σ H Q ⟨ρ, F, S, ρ', hcl, d, hev, k⟩
  obtain ⟨y0, xs, r, y', g1, g2, g3, rfl⟩ := eff_inv hcl
  obtain ⟨p, d0, o1, o2, o3, o4, o5⟩ := S.own i hμ
  rw [o2] at g1; cases g1
  refine ⟨_, o1, ρ, F, S, ?_⟩
  rw [g2]
  intro vs H1 F1 e1 rr
  show spOf c (Md.io :: pms) fr (Φ f) ((V.ref p :: vs) ++ []) H1 Q (WE W σ)
  rw [List.append_nil]
  have S1 := S.ext e1
  obtain ⟨p', d1, q1, q2, q3, q4, q5⟩ := S1.own i hμ
  rw [o1] at q1; cases q1
  rw [o2] at q2; cases q2
  have wn : ∀ a, a ≠ p → without H1 p a = H1 a := fun a ha => by unfold without; rw [if_neg ha]
  have wp : without H1 p p = none := by unfold without; rw [if_pos rfl]
  obtain ⟨i1, i2⟩ := args_imm (B := without H1 p) hpm rr (hlen ρ xs g2)
  refine ⟨without H1 p, F1, y0 :: xs, fun a u z => ?_, fun a u z => ?_, ?_, ?_, ?_⟩
  · rw [wn a (fun e => by rw [e, wp] at z; cases z)] at z; exact z
  · rw [wn a (fun e => by rw [e, q5] at z; cases z)]; exact S1.sub a u z
  · simp only [Args]
    exact ⟨⟨p, rfl, q3, wp, q5⟩, i1⟩
  · simpa [Apart] using i2
  · rw [g3]
    intro v H' F' o rv
    unfold ResR at rv
    have rv : ∃ r1 y1 p1 us, D.tup [r, y'] = .tup [r1, y1] ∧ (V.ref p :: vs) = .ref p1 :: us ∧ Rp c F' r1 v ∧ Ob c F' H' p1 y1 ∧ F' p1 = none := rv
    obtain ⟨r1, y1, p1, us, z1, z2, z3, z4, z5⟩ := rv
    cases z1; cases z2
    obtain ⟨S2, eF⟩ := S1.io (r := r) hμ ht o1 o z4 z5
    refine k v H' F' S2 ((e1.frs S.sub).trans eF) ?_
    have hti : t ≠ i := fun e => by rw [e, hμ] at ht; cases ht
    have hev : getE (setE (setE ρ t r) i y') t = .ok d := hev
    rw [getE_set_ne hti, getE_set (by rw [S.lenR]; exact (List.getElem?_eq_some_iff.mp ht).1)] at hev
    cases hev
    exact z3
/-! ### around the call -/
theorem x_binL {op : Operator} {g : D → D → Option D} (hm : m ≠ .O) (ho : Op2 X c m (binaryOp op) g) (ha : PE X a (rX c μ .B cl eva)) (hb : PE X b (rE c W μ .B evb)) :
    PE X (.BinOp a op b pos) (rX c μ m cl fun ρ => (eva ρ).bind fun x => (evb ρ).bind fun y => R.of (g x y)) := by
  refine (pe_op ho ha hb).weak ?_
  rintro σ H Q ⟨ρ, F, S, ρ', hcl, d, hev, k⟩
  obtain ⟨dx, e1, hev⟩ := bind_ok hev
  obtain ⟨dy, e2, hev⟩ := bind_ok hev
  refine ⟨ρ, F, S, ρ', hcl, dx, e1, fun v1 H1 F1 S1 eF r1 => ⟨ρ', F1, S1, ?_⟩⟩
  rw [e2]
  intro v2 H2 F2 e3 r2
  have hg : g dx dy = some d := by
    cases q : g dx dy with
    | none => rw [q] at hev; cases hev
    | some z => rw [q] at hev; cases hev; rfl
  exact ⟨F2, dx, dy, d, e3.sub, Rb.mono (e3.frs S1.sub) e3.same r1, r2, hg, fun v3 H3 F3 e4 r3 => k v3 H3 F3 ((S1.ext e3).ext e4) (eF.trans ((e3.trans e4).frs S1.sub)) (.of hm r3)⟩
theorem x_binR {op : Operator} {g : D → D → Option D} (hm : m ≠ .O) (ho : Op2 X c m (binaryOp op) g) (ha : PE X a (rE c W μ .V eva)) (hst : ∀ ρ ρ', cl ρ = .ok ρ' → eva ρ' = eva ρ) (hb : PE X b (rX c μ .B cl evb)) :
    PE X (.BinOp a op b pos) (rX c μ m cl fun ρ => (eva ρ).bind fun x => (evb ρ).bind fun y => R.of (g x y)) := by
  refine (pe_op ho ha hb).weak ?_
  rintro σ H Q ⟨ρ, F, S, ρ', hcl, d, hev, k⟩
  obtain ⟨dx, e1, hev⟩ := bind_ok hev
  obtain ⟨dy, e2, hev⟩ := bind_ok hev
  rw [hst ρ ρ' hcl] at e1
  refine ⟨ρ, F, S, ?_⟩
  rw [e1]
  intro v1 H1 F1 x1 r1
  have r1 : Rp c F1 dx v1 := r1
  refine ⟨ρ, F1, S.ext x1, ρ', hcl, dy, e2, fun v2 H2 F2 S2 eF r2 => ?_⟩
  have hg : g dx dy = some d := by
    cases q : g dx dy with
    | none => rw [q] at hev; cases hev
    | some z => rw [q] at hev; cases hev; rfl
  exact ⟨F2, dx, dy, d, S2.sub, .inl (Rp.mono eF _ _ r1), r2, hg, fun v3 H3 F3 e4 r3 => k v3 H3 F3 (S2.ext e4) (((x1.frs S.sub).trans eF).trans (e4.frs S2.sub)) (.of hm r3)⟩
theorem x_idxR {g : D → D → Option D} (hm : m ≠ .O) (ho : IxR X (fun x y H Q => ∃ F dx dy d, Same F H ∧ Rb c F H dx x ∧ Rb c F H dy y ∧ g dx dy = some d ∧ Want c m F H d Q)) (ha : PE X a (rV c W μ [] eva)) (hst : ∀ ρ ρ', cl ρ = .ok ρ' → eva ρ' = eva ρ) (hb : PE X b (rX c μ .B cl evb)) (hs : PlainIx b) :
    PE X (.Subscript a b pos) (rX c μ m cl fun ρ => (eva ρ).bind fun x => (evb ρ).bind fun y => R.of (g x y)) := by
  refine (pe_ix ho ha hb hs).weak ?_
  rintro σ H Q ⟨ρ, F, S, ρ', hcl, d, hev, k⟩
  obtain ⟨dx, e1, hev⟩ := bind_ok hev
  obtain ⟨dy, e2, hev⟩ := bind_ok hev
  rw [hst ρ ρ' hcl] at e1
  refine ⟨ρ, F, S, ?_⟩
  rw [e1]
  intro v1 H1 F1 x1 r1
  refine ⟨ρ, F1, S.ext x1, ρ', hcl, dy, e2, fun v2 H2 F2 S2 eF r2 => ?_⟩
  have hg : g dx dy = some d := by
    cases q : g dx dy with
    | none => rw [q] at hev; cases hev
    | some z => rw [q] at hev; cases hev; rfl
  exact ⟨F2, dx, dy, d, S2.sub, r1 H2 F2 μ ρ' σ S2 eF (fun j hj => by simp at hj), r2, hg, fun v3 H3 F3 e4 r3 => k v3 H3 F3 (S2.ext e4) (((x1.frs S.sub).trans eF).trans (e4.frs S2.sub)) (.of hm r3)⟩
theorem xt_cmp {op : CmpOp} {g : D → D → Option D} (ho : Op2 X c .B (compareOp op) g) (ha : PE X a (rX c μ .B cl eva)) (hb : PE X b (rE c W μ .B evb)) (hm : behindInMarks op b = false) :
    PT X (.Compare a [op] [b] pos) (rXT c μ cl (asB fun ρ => (eva ρ).bind fun x => (evb ρ).bind fun y => R.of (g x y))) := by
  refine (pt_cmpR ho ha hb hm).weak ?_
  rintro σ H Q ⟨ρ, F, S, ρ', hcl, kk, hev, k⟩
  obtain ⟨d, hev, hb2⟩ := bind_ok hev
  obtain ⟨dx, e1, hev⟩ := bind_ok hev
  obtain ⟨dy, e2, hev⟩ := bind_ok hev
  refine ⟨ρ, F, S, ρ', hcl, dx, e1, fun v1 H1 F1 S1 eF r1 => ⟨ρ', F1, S1, ?_⟩⟩
  rw [e2]
  intro v2 H2 F2 e3 r2
  have hg : g dx dy = some d := by
    cases q : g dx dy with
    | none => rw [q] at hev; cases hev
    | some z => rw [q] at hev; cases hev; rfl
  have hbd : boolD d = some kk := by
    cases q : boolD d with
    | none => rw [q] at hb2; cases hb2
    | some z => rw [q] at hb2; cases hb2; rfl
  obtain rfl := boolD_inv hbd
  exact ⟨F2, dx, dy, _, e3.sub, Rb.mono (e3.frs S1.sub) e3.same r1, r2, hg, fun v3 H3 F3 e4 r3 => ⟨kk, Rb.bl r3, k H3 F3 ((S1.ext e3).ext e4) (eF.trans ((e3.trans e4).frs S1.sub))⟩⟩
theorem xa_last (ha : PE X e (rX c μ .V cl eva)) (hs : starEach [e] X.env = (false, eval e X.env) :: starEach [] X.env) : PA X [e] (rXA c μ cl fun ρ => (eva ρ).bind fun x => (R.ok ([] : List D)).bind fun xs => .ok (x :: xs)) := by
  refine PA.weak (pa_cons ha pa_nil hs) ?_
  rintro σ H Q ⟨ρ, F, S, ρ', hcl, ds, hev, k⟩
  obtain ⟨d, e1, hev⟩ := bind_ok hev
  cases hev
  exact ⟨ρ, F, S, ρ', hcl, d, e1, fun v H' F' S' eF r => k [v] H' F' S' eF (.cons r .nil)⟩
theorem xa_cons (ha : PE X e (rE c W μ .V eva)) (hst : ∀ ρ ρ', cl ρ = .ok ρ' → eva ρ' = eva ρ) (hb : PA X es (rXA c μ cl evs)) (hs : starEach (e :: es) X.env = (false, eval e X.env) :: starEach es X.env) : PA X (e :: es) (rXA c μ cl fun ρ => (eva ρ).bind fun x => (evs ρ).bind fun xs => .ok (x :: xs)) := by
  refine PA.weak (pa_cons ha hb hs) ?_
  rintro σ H Q ⟨ρ, F, S, ρ', hcl, ds, hev, k⟩
  obtain ⟨d, e1, hev⟩ := bind_ok hev
  obtain ⟨xs, e2, hev⟩ := bind_ok hev
  cases hev
  rw [hst ρ ρ' hcl] at e1
  refine ⟨ρ, F, S, ?_⟩
  rw [e1]
  intro v H1 F1 x1 r1
  have r1 : Rp c F1 d v := r1
  exact ⟨ρ, F1, S.ext x1, ρ', hcl, xs, e2, fun vs H2 F2 S2 eF r2 => k (v :: vs) H2 F2 S2 ((x1.frs S.sub).trans eF) (.cons (Rp.mono eF _ _ r1) r2)⟩
theorem xx_tup {x1 : Nat} (ha : PA X es (rXA c μ cl evs)) (hl : es.length ≤ lineN) (hlen : ∀ ρ ds, evs ρ = .ok ds → ds.length = es.length) :
    PE X (.Tuple es x1 pos) (rX c μ .V cl fun ρ => (evs ρ).bind fun xs => .ok (.tup xs)) := by
  refine (pe_tupF ha).weak ?_
  rintro σ H Q ⟨ρ, F, S, ρ', hcl, d, hev, k⟩
  obtain ⟨ds, e1, hev⟩ := bind_ok hev
  cases hev
  refine ⟨ρ, F, S, ρ', hcl, ds, e1, fun vs H1 F1 S1 eF r => ⟨by rw [r.length, hlen ρ' ds e1, ← lineN_eq]; exact hl, fun p o hp hod => ?_⟩⟩
  have w : Want c .V F1 H1 (.tup ds) Q := fun v H2 F2 e2 r2 => k v H2 F2 (S1.ext e2) (eF.trans (e2.frs S1.sub)) r2
  exact w.tupF S1.sub hp r hod
def rXI (c : Cn) (μ : List Md) (cl : Env → R Env) (ev : Env → R (List D)) : TI := fun σ H R => ∃ ρ F, SR c μ ρ σ H F ∧ ∃ ρ', cl ρ = .ok ρ' ∧ ∃ ds, ev ρ' = .ok ds ∧ ∀ J H' F', SR c μ ρ' σ H' F' → Same F F' → Walk c [] ρ' σ F' J ds → R J H'
theorem xi_rng {tg : Expr} {p : Pos} (hg : Gl X "range") (hm : X.mg "range" = none) (ha : PE X a (rX c μ .B cl eva)) (hs : starEach [a] X.env = (false, eval a X.env) :: starEach [] X.env) :
    PI X tg (.Call (.Name "range" p) [a] [] pos) (rXI c μ cl fun ρ => ((eva ρ).bind fun x => R.of (rngD [x])).bind fun s => R.of (itemsOf s)) := by
  refine PI.weak (pi_range1 hg hm (pa_cons ha pa_nil hs) hs) ?_
  rintro σ H T ⟨ρ, F, S, ρ', hcl, ds, hev, k⟩
  obtain ⟨s, hev, h2⟩ := bind_ok hev
  obtain ⟨x, e1, h1⟩ := bind_ok hev
  cases x <;> simp only [rngD] at h1 <;> try (cases h1)
  rename_i j
  split at h1
  · rename_i hj
    cases h1
    cases h2
    obtain ⟨b1, b2⟩ := big62_iff hj
    refine ⟨ρ, F, S, ρ', hcl, _, e1, fun v H1 F1 S1 eF r => ?_⟩
    have r : Rb c F1 H1 (.int j) v := r
    refine ⟨j, by rw [r.int], b1, b2, ?_⟩
    have := k (Itr 0 (j - 0).toNat) H1 F1 S1 eF walk_rng
    simpa using this
  · cases h1
/-! ### statements -/
def evEff (cl : Env → R Env) (k : Env → FL) : Env → FL := fun ρ => FL.of (cl ρ) k
theorem FK.eff {E : Ends} {k : Env → FL} (hx : ∀ ρ x r, cl ρ ≠ .exc x r) (h : FK c W μ μ' μc ms fr ρ E F (evEff cl k ρ)) : ∃ ρ', cl ρ = .ok ρ' ∧ FK c W μ μ' μc ms fr ρ E F (k ρ') := by
  unfold evEff at h
  cases q : cl ρ with
  | ok ρ' => rw [q] at h; exact ⟨ρ', rfl, h⟩
  | exc x r => exact absurd q (hx ρ x r)
  | stuck => rw [q] at h; exact h.elim
theorem FK.evOk {E : Ends} {f : D → FL} {r : R D} (hx : ∀ x k, r ≠ .exc x k) (h : FK c W μ μ' μc ms fr ρ E F (FL.of r f)) : ∃ d, r = .ok d ∧ FK c W μ μ' μc ms fr ρ E F (f d) := by
  cases r with
  | ok d => exact ⟨d, rfl, h⟩
  | exc x k => exact absurd rfl (hx x k)
  | stuck => exact h.elim
theorem FK.rho {E : Ends} {f : FL} {ρ' : Env} (hl : ρ.length = μ.length) (hag : ∀ i : Nat, i ∉ ms → getE ρ' i = getE ρ i) (h : FK c W μ μ' μc ms fr ρ E F f) : FK c W μ μ' μc ms fr ρ' E F f := by
  cases f with
  | nx ρ2 => exact h
  | rt d => exact h
  | ct ρ2 => exact h
  | exc x r => exact fun σ' H' F' cls dx S' e' xr => h σ' H' F' cls dx (S'.excTo rfl hl fun i hi => ⟨hi, rfl, hag i hi⟩) e' xr
  | stuck => exact h
theorem sx_set {y : PySem.Str} {pn : Pos} (hN : X.N.Nodup) (hi : X.N[j]? = some y) (hx : Loc X.env.scope y) (hf : X.env.scope.names.lookup y = some .local ∨ X.fn y = true) (hl : j < μ.length) (hc : ∀ ρ x r, cl ρ ≠ .exc x r) (hev : ∀ ρ x r, eva ρ ≠ .exc x r) (ha : PE X e (rX c μ .V cl eva)) (hs : swapsWith e (some (.Name y pn)) pos.line X.env = pure false) :
    PS X (.Assign [.Name y pn] e pos) (rS c W μ (some (μ.set j .imm)) μc ms fr (evEff cl (evSet j eva))) := by
  refine (ps_set hN hi hx ha hs hf.symm).weak ?_
  rintro E σ H ⟨ρ, F, S, h⟩
  obtain ⟨ρ', h1, h⟩ := FK.eff hc h
  obtain ⟨d, h2, h⟩ := FK.evOk (hev ρ') h
  exact ⟨ρ, F, S, ρ', h1, d, h2, fun v H1 F1 S1 eF r => h _ H1 F1 (S1.setV hl r) eF⟩
theorem sx_app {y : PySem.Str} {pn ap cp : Pos} (hN : X.N[j]? = some y) (hv : Vis X.env.scope y) (hd : (y == ("__debug__" : PySem.Str)) = false) (hcd : (y == ("__classdict__" : PySem.Str)) = false) (hμ : μ[j]? = some .own) (hc : ∀ ρ x r, cl ρ ≠ .exc x r) (hev : ∀ ρ x r, eva ρ ≠ .exc x r) (hkp : ∀ ρ ρ', cl ρ = .ok ρ' → getE ρ' j = getE ρ j) (ha : PE X e (rX c μ .V cl eva))
    (hbase : attributeBase (.Name y pn) "append" X.env (eval (.Name y pn) X.env) = eval (.Name y pn) X.env)
    (hfew : ((backTo cp (starEach [e] X.env)).all (fun x => !x.1) && (backToKw cp (keywordEach [] X.env)).all (fun x => x.1.isSome) && decide (([e] : List Expr).length + ([] : List Keyword).length + (if ([] : List Keyword).isEmpty then 0 else 1) < 30)) = true)
    (hline : (ap.endLine == cp.line) = true) (hs : starEach [e] X.env = [(false, eval e X.env)]) (hsw : swapsWith (.Call (.Attribute (.Name y pn) "append" ap) [e] [] cp) none pos.line X.env = pure false) :
    PS X (.Expr (.Call (.Attribute (.Name y pn) "append" ap) [e] [] cp) pos) (rS c W μ (some μ) μc ms fr (evEff cl (evApp j eva))) := by
  refine (ps_expr (pe_bm PySem.F.plainAttrs_list PySem.F.slot_list_append PySem.F.type_list_append mt_append (pe_var (i := j) hN hv hd hcd) (pa_one ha hs) hbase hfew hline hs rfl) hsw).weak ?_
  rintro E σ H ⟨ρ, F, S, h⟩
  obtain ⟨ρ', h1, h⟩ := FK.eff hc h
  obtain ⟨p, d0, o1, o2, o3, o4, o5⟩ := S.own j hμ
  have h : FK c W μ (some μ) μc ms fr ρ E F (FL.of (getE ρ' j) fun x => FL.of (R.of (lstOf x)) fun xs => FL.of (eva ρ') fun d => FL.of (R.of (appD xs d)) fun y => .nx (setE ρ' j y)) := h
  rw [hkp ρ ρ' h1, o2] at h
  obtain ⟨ds, q1, h⟩ := FK.of h
  cases d0 <;> simp only [lstOf] at q1 <;> try contradiction
  cases q1
  obtain ⟨vs0, g1, g2⟩ := id o3
  obtain ⟨d, h2, h⟩ := FK.evOk (hev ρ') h
  obtain ⟨z, q2, k⟩ := FK.of h
  unfold appD at q2
  split at q2
  · rename_i hlen
    cases q2
    refine ⟨_, o1, tyL (SqL.of g1), ρ, F, S, ρ', h1, d, h2, fun v H1 F1 S1 eF r => ?_⟩
    obtain ⟨p', d1, k1, k2, k3, _, _⟩ := S1.own j hμ
    rw [o1] at k1; cases k1
    rw [hkp ρ ρ' h1, o2] at k2; cases k2
    obtain ⟨vs1, g3, g4⟩ := k3
    have r : Rp c F1 d v := r
    refine ⟨p, vs1, v, rfl, rfl, g3, by rw [g4.length, ← lineN_eq]; exact hlen, ?_⟩
    exact k σ _ F1 (S1.chg hμ o1 (by simp only [Ob]; exact ⟨_, upd_same, g4.append (.cons r .nil)⟩)) eF
  · cases q2
/-- return e, where the caller gets slot k back -/
theorem sx_ret {k : Nat} {p : Addr} (hio : c.io = some (k, p)) (hμ : μ[k]? = some .own) (hc : ∀ ρ x r, cl ρ ≠ .exc x r) (hev : ∀ ρ x r, eva ρ ≠ .exc x r) (ha : PE X e (rX c μ .V cl eva)) :
    PS X (.Return (some e) pos) (rS c W μ none μc ms fr (evEff cl (evRet fun ρ => (eva ρ).bind fun x => (getE ρ k).bind fun y => .ok (.tup [x, y])))) := by
  refine (ps_ret ha).weak ?_
  rintro E σ H ⟨ρ, F, S, h⟩
  obtain ⟨ρ', h1, h⟩ := FK.eff hc h
  have h : FK c W μ none μc ms fr ρ E F (FL.of ((eva ρ').bind fun x => (getE ρ' k).bind fun y => .ok (.tup [x, y])) fun d => .rt d) := h
  cases q : eva ρ' with
  | stuck => rw [q] at h; exact h.elim
  | exc x r => exact absurd q (hev ρ' x r)
  | ok d =>
    refine ⟨ρ, F, S, ρ', h1, d, q, fun v H1 F1 S1 eF r => ?_⟩
    obtain ⟨p', y, k1, k2, k3, k4, k5⟩ := S1.own k hμ
    have := S1.pin k p hio hμ
    rw [k1] at this; cases this
    rw [q, R.ok_bind, k2] at h
    have h : ∀ v H' F', Bs c H' F' → ResF c fr F' H' (.tup [d, y]) v → E.rt v H' := h
    refine h v H1 F1 S1.bs ?_
    unfold ResF
    rw [hio]
    exact ⟨d, y, rfl, r, k3, k5⟩
theorem s_retIO {k : Nat} {p : Addr} (hio : c.io = some (k, p)) (hμ : μ[k]? = some .own) (ha : PE X e (rE c W μ .V eva)) :
    PS X (.Return (some e) pos) (rS c W μ none μc ms fr (evRet fun ρ => (eva ρ).bind fun x => (getE ρ k).bind fun y => .ok (.tup [x, y]))) := by
  refine (ps_ret ha).weak ?_
  rintro E σ H ⟨ρ, F, S, h⟩
  have h : FK c W μ none μc ms fr ρ E F (FL.of ((eva ρ).bind fun x => (getE ρ k).bind fun y => .ok (.tup [x, y])) fun d => .rt d) := h
  refine ⟨ρ, F, S, ?_⟩
  cases q : eva ρ with
  | stuck => rw [q] at h; exact h.elim
  | exc x r =>
    rw [q] at h
    intro H1 F1 cls dx e1 xr
    exact h σ H1 F1 cls dx ((S.ext e1).dead ms) (e1.frs S.sub) xr
  | ok d =>
    intro v H1 F1 e1 r
    have S1 := S.ext e1
    obtain ⟨p', y, k1, k2, k3, k4, k5⟩ := S1.own k hμ
    have := S1.pin k p hio hμ
    rw [k1] at this; cases this
    rw [q, R.ok_bind, k2] at h
    have h : ∀ v H' F', Bs c H' F' → ResF c fr F' H' (.tup [d, y]) v → E.rt v H' := h
    refine h v H1 F1 S1.bs ?_
    unfold ResF
    rw [hio]
    exact ⟨d, y, rfl, r, k3, k5⟩
theorem sx_if {p q : List Stmt} {evt : Env → R Bool} {ea eb : Env → FL} {μa μb : Option (List Md)} {msa msb : List Nat} (hc : ∀ ρ x r, cl ρ ≠ .exc x r) (hkp : ∀ ρ ρ', cl ρ = .ok ρ' → ∀ i, i ∉ ms → getE ρ' i = getE ρ i) (hev : ∀ ρ x r, evt ρ ≠ .exc x r) (ht : PT X e (rXT c μ cl evt)) (ha : PSs X p (rS c W μ μa μc msa fr ea)) (hb : PSs X q (rS c W μ μb μc msb fr eb))
    (la : LeO μ' μa) (lb : LeO μ' μb) (na : μa = none → ∀ ρ ρ', ea ρ ≠ .nx ρ') (nb : μb = none → ∀ ρ ρ', eb ρ ≠ .nx ρ') (hma : ∀ i : Nat, i ∈ msa → i ∈ ms) (hmb : ∀ i : Nat, i ∈ msb → i ∈ ms) : PS X (.If e p q pos) (rS c W μ μ' μc ms fr (evEff cl (evIf evt ea eb))) := by
  refine (ps_if ht ha hb).weak ?_
  rintro E σ H ⟨ρ, F, S, h⟩
  obtain ⟨ρ', h1, h⟩ := FK.eff hc h
  have h : FK c W μ μ' μc ms fr ρ E F (FL.of (evt ρ') fun t => if t then ea ρ' else eb ρ') := h
  cases q : evt ρ' with
  | stuck => rw [q] at h; exact h.elim
  | exc x r => exact absurd q (hev ρ' x r)
  | ok t =>
    rw [q] at h
    refine ⟨ρ, F, S, ρ', h1, t, q, fun H1 F1 S1 eF => ?_⟩
    cases t with
    | true =>
      have h : FK c W μ μ' μc ms fr ρ E F (ea ρ') := h
      exact ⟨ρ', F1, S1, FK.weak hma la (fun n => na n ρ') (FK.rho S.lenR (hkp ρ ρ' h1) (FK.up eF h)) S1.lenR⟩
    | false =>
      have h : FK c W μ μ' μc ms fr ρ E F (eb ρ') := h
      exact ⟨ρ', F1, S1, FK.weak hmb lb (fun n => nb n ρ') (FK.rho S.lenR (hkp ρ ρ' h1) (FK.up eF h)) S1.lenR⟩
theorem sx_for {tg iter : Expr} {body : List Stmt} {T : Tg} {g : TG} {evi : Env → R (List D)} {evb : Env → FL} {dead msb : List Nat} {μE : Option (List Md)} (hp : PassesOwn (model X.prog X.w) X.A X.env X.xe) (hc : X.calm = true)
    (hx : ∀ ρ x r, cl ρ ≠ .exc x r) (hkp : ∀ ρ ρ', cl ρ = .ok ρ' → ∀ i, i ∉ ms → getE ρ' i = getE ρ i) (hev : ∀ ρ x r, evi ρ ≠ .exc x r)
    (hi : PI X tg iter (rXI c μ cl evi)) (hg : PG X tg g) (hT : TgS c T μ.length g) (hb : PSs X body (rS c W (msets (msets μ dead .dead) (tgSlots T) .imm) μE (msets μ dead .dead) msb fr evb))
    (hE : ∀ m, μE = some m → Le (msets μ dead .dead) m) (hn : μE = none → ∀ ρ ρ', evb ρ ≠ .nx ρ') (hk : Keeps evb msb) (hms : ∀ i : Nat, i ∈ tgSlots T ++ (dead ++ msb) → i ∈ ms)
    (hs : ∀ x, foldedSetIterable iter X.env x = pure x) :
    PS X (.For tg iter body [] pos) (rS c W μ (some (msets μ dead .dead)) μc ms fr (evEff cl (evFor T evi dead evb))) := by
  refine (ps_for hp hc hi hg hb hs).weak ?_
  rintro E σ H ⟨ρ, F, S, h⟩
  obtain ⟨ρ', h1, h⟩ := FK.eff hx h
  have h : FK c W μ (some (msets μ dead .dead)) μc ms fr ρ E F (FL.of (evi ρ') fun xs => forL dead (turnF T evb) xs ρ') := h
  cases q0 : evi ρ' with
  | stuck => rw [q0] at h; exact h.elim
  | exc x r => exact absurd q0 (hev ρ' x r)
  | ok xs =>
    rw [q0] at h
    refine ⟨ρ, F, S, ρ', h1, xs, q0, fun J H1 F1 S1 eF wk => ?_⟩
    refine for_core (μc := μc) hT hE hn hk S1 wk ?_
    have h : FK c W μ (some (msets μ dead .dead)) μc ms fr ρ E F (forL dead (turnF T evb) xs ρ') := h
    exact FK.weak hms (by exact ⟨rfl, fun _ _ h _ => h⟩) (fun z => by cases z) (FK.rho S.lenR (hkp ρ ρ' h1) (FK.up eF h)) S1.lenR
end
end Mi

/-! Mi, part D: the match of a mini program with the code; expressions. -/
namespace Mi
open PySem L2 PySem.Spec PyProof.Rows

/-- the defs as they may be called: name, the parameters' modes, whether what is told is new -/
structure Sg where
  fn : Nat → Option (PySem.Str × List Md × Bool)
  /-- the classes of errors that may be raised and caught -/
  xs : List Nat
  /-- the classes of objects -/
  cs : List Nat := []
  /-- the module's constants -/
  gs : List (PySem.Str × GC) := []
  /-- the slot that the caller gets back -/
  io : Option Nat := none
def isGl (sc : Scope) (x : PySem.Str) : Bool := decide (sc.names.lookup x = some .globalImplicit)
def isVis (sc : Scope) (x : PySem.Str) : Bool := match sc.names.lookup x with
  | some .local => true
  | some .cell => true
  | some .free => true
  | _ => false
def notDbg (x : PySem.Str) : Bool := !(x == ("__debug__" : PySem.Str)) && !(x == ("__classdict__" : PySem.Str))
def bltName : B → PySem.Str
  | .len => "len" | .abs => "abs" | .max1 => "max" | .min1 => "min" | .max2 => "max" | .min2 => "min" | .max3 => "max" | .sum => "sum" | .any => "any" | .all => "all" | .sorted => "sorted" | .list => "list" | .tuple => "tuple"
  | .dict => "dict" | .listR => "" | .listV => "" | .setlen => "" | .setsorted => "" | .str => "str" | .int => "int"
def bltNames : List PySem.Str := ["len", "abs", "max", "min", "sum", "any", "all", "sorted", "list", "tuple", "dict", "set", "str", "int", "range", "enumerate", "zip", "reversed", "isinstance", "bool"]
def noStar : Expr → Bool
  | .Starred _ _ => false
  | _ => true
def noSet : Expr → Bool
  | .Set _ _ _ => false
  | _ => true
def noSlice : Expr → Bool
  | .Slice _ _ _ _ => false
  | _ => true
def mtSlot (N : List PySem.Str) (sc : Scope) (i : Nat) (y : PySem.Str) : Bool := decide (N[i]? = some y) && isVis sc y && notDbg y
def noSup : Expr → Bool
  | .Call _ [] _ _ => false
  | _ => true
/-- a target's name is the block's own -/
def mtTgt (N : List PySem.Str) (sc scI : Scope) (i : Nat) : Expr → Bool
  | .Name y _ => decide (N[i]? = some y) && (decide (sc.names.lookup y = some .local) || (decide (sc.names.lookup y = some .cell) && decide (scI.names.lookup y = some .cell)))
  | _ => false
def mtTgts (N : List PySem.Str) (sc scI : Scope) : List Nat → List Expr → Bool
  | [], [] => true
  | i :: is, e :: es => mtTgt N sc scI i e && mtTgts N sc scI is es
  | _, _ => false
def mtTg (N : List PySem.Str) (sc scI : Scope) : Tg → Expr → Bool
  | .one i, e => mtTgt N sc scI i e && decide (i < N.length)
  | .many is, .Tuple es _ _ => mtTgts N sc scI is es && decide is.Nodup && is.all fun i => decide (i < N.length)
  | .many _, _ => false
def ownOf (N : List PySem.Str) (scope : Scope) : List (PySem.Str × Nat) := scope.names.filterMap fun p => match p.2 with
  | .local => (N.findIdx? fun y => decide (y = p.1)).map fun i => (p.1, i)
  | .cell => (N.findIdx? fun y => decide (y = p.1)).map fun i => (p.1, i)
  | _ => none
/-- the slot that is walked, where it may be changed later -/
def srcOf (μ : List Md) : ME → List Nat
  | .v i => if μ[i]? = some .own then [i] else []
  | _ => []
def tyArg : Nat → PySem.Str
  | 200 => "int" | 201 => "bool" | 202 => "str" | 203 => "list" | 204 => "tuple" | _ => ""

section
variable (sg : Sg) (N : List PySem.Str)
mutual
def mtE : ME → Scope → Scope → List Md → RM → Option Expr → Expr → Bool
  | .v i, sc, scI, μ, m, w, x => match x with
    | .Name y _ => mtSlot N sc i y && (match μ[i]? with
      | some md => (match w with
        | none => modeOk m md
        | some _ => decide (md ≠ .dead) && decide (md ≠ .io))
      | none => false)
    | _ => false
  | .int i, sc, scI, μ, m, w, x => match x with
    | .Constant (.int j) _ _ => decide (i = j)
    | _ => false
  | .str i, sc, scI, μ, m, w, x => match x with
    | .Constant (.str j) _ _ => decide (i = j)
    | _ => false
  | .bl i, sc, scI, μ, m, w, x => match x with
    | .Constant (.bool j) _ _ => decide (i = j)
    | _ => false
  | .non, sc, scI, μ, m, w, x => match x with
    | .Constant .none _ _ => true
    | _ => false
  | .bin o a b, sc, scI, μ, m, w, x => match x with
    | .BinOp l op r _ => decide (op = aopOf o) && mtE a sc scI μ .B none l && mtE b sc scI μ .B none r
    | _ => false
  | .neg a, sc, scI, μ, m, w, x => match x with
    | .UnaryOp .USub l _ => mtE a sc scI μ .B none l
    | _ => false
  | .not a, sc, scI, μ, m, w, x => match x with
    | .UnaryOp .Not l _ => mtE a sc scI μ .B none l
    | _ => false
  | .and a b, sc, scI, μ, m, w, x => match x with
    | .BoolOp .And (l :: r :: rest) p => mtE a sc scI μ .B none l && (match rest with
      | [] => mtE b sc scI μ m none r
      | _ :: _ => mtE b sc scI μ m none (.BoolOp .And (r :: rest) p))
    | _ => false
  | .or a b, sc, scI, μ, m, w, x => match x with
    | .BoolOp .Or (l :: r :: rest) p => mtE a sc scI μ .B none l && (match rest with
      | [] => mtE b sc scI μ m none r
      | _ :: _ => mtE b sc scI μ m none (.BoolOp .Or (r :: rest) p))
    | _ => false
  | .cmp o a b, sc, scI, μ, m, w, x => match x with
    | .Compare l [op] [r] _ => decide (op = copOf o) && noSet r && mtE a sc scI μ .B none l && mtE b sc scI μ .B none r
    | _ => false
  | .chn o p a b c, sc, scI, μ, m, w, x => match x with
    | .Compare l [op, op'] [r, q] _ => decide (op = copOf o) && decide (op' = copOf p) && noSet q && mtE a sc scI μ .B none l && mtE b sc scI μ .B none r && mtE c sc scI μ .B none q
    | _ => false
  | .isN a, sc, scI, μ, m, w, x => match x with
    | .Compare l [.Is] [.Constant .none _ _] _ => mtE a sc scI μ .B none l
    | _ => false
  | .nisN a, sc, scI, μ, m, w, x => match x with
    | .Compare l [.IsNot] [.Constant .none _ _] _ => mtE a sc scI μ .B none l
    | _ => false
  | .isB a b, sc, scI, μ, m, w, x => match x with
    | .Compare l [.Is] [.Constant (.bool k) _ _] _ => decide (k = b) && mtE a sc scI μ .B none l
    | _ => false
  | .nisB a b, sc, scI, μ, m, w, x => match x with
    | .Compare l [.IsNot] [.Constant (.bool k) _ _] _ => decide (k = b) && mtE a sc scI μ .B none l
    | _ => false
  | .tup es, sc, scI, μ, m, w, x => match x with
    | .Tuple xs _ _ => decide (es.length ≤ lineN) && mtEs es sc scI μ (es.map fun _ => .V) xs
    | _ => false
  | .lst es, sc, scI, μ, m, w, x => match x with
    | .List xs _ => decide (es.length ≤ lineN) && mtEs es sc scI μ (es.map fun _ => .V) xs
    | _ => false
  | .dnil, sc, scI, μ, m, w, x => match x with
    | .Dict [] [] _ => true
    | _ => false
  | .idx a b, sc, scI, μ, m, w, x => match x with
    | .Subscript l r _ => decide (m ≠ .O) && noSlice r && mtE a sc scI μ .B none l && mtE b sc scI μ .B none r
    | _ => false
  | .sl a lo hi, sc, scI, μ, m, w, x => match x with
    | .Subscript l (.Slice lo' hi' none _) _ => mtE a sc scI μ .B none l && mtO lo sc scI μ lo' && mtO hi sc scI μ hi'
    | _ => false
  | .sls a lo k, sc, scI, μ, m, w, x => match x with
    | .Subscript l (.Slice (some p) none (some q) _) _ => mtE a sc scI μ .B none l && mtE lo sc scI μ .B none p && mtE k sc scI μ .B none q
    | _ => false
  | .call f es, sc, scI, μ, m, w, x => match x with
    | .Call (.Name y _) (l :: ls) [] _ => (match sg.fn f with
      | some (z, pm, fr) => decide (y = z) && isGl sc y && notDbg y && decide (es.length = pm.length) && ((pm.all fun k => decide (k = .imm) || decide (k = .bor)) || oneOwn pm) && (fr || decide (m ≠ .O)) && mtEs es sc scI μ (pm.map rmArg) (l :: ls)
      | none => false)
    | _ => false
  | .blt b es, sc, scI, μ, m, w, x => match b, es, x with
    | .sorted, [.mth .items a []], .Call (.Name y _) [.Call (.Attribute l nm ap) [] [] cp] [] _ => decide (y = "sorted") && isGl sc y && decide (nm = "items") && (ap.endLine == cp.line) && noSup l && mtE a sc scI μ .B none l
    | .listV, [a], .Call (.Name y _) [.Call (.Name z _) [l] [] _] [] _ => decide (y = "list") && decide (z = "reversed") && isGl sc y && isGl sc z && noStar l && mtE a sc scI μ .B none l
    | .listR, [a], .Call (.Name y _) [.Call (.Name z _) [l] [] _] [] _ => decide (y = "list") && decide (z = "range") && isGl sc y && isGl sc z && noStar l && mtE a sc scI μ .B none l
    | .setsorted, [a], .Call (.Name y _) [.Call (.Name z _) [l] [] _] [] _ => decide (y = "sorted") && decide (z = "set") && isGl sc y && isGl sc z && noStar l && mtE a sc scI μ .B none l
    | b, es, .Call (.Name y _) (l :: ls) [] _ => decide (y = bltName b) && decide (y ∈ bltNames) && isGl sc y && notDbg y && mtEs es sc scI μ (es.map fun _ => .B) (l :: ls)
    | _, _, _ => false
  | .lc elt tg it ifs, sc, scI, μ, m, w, x => match x with
    | .ListComp e [⟨t, i, fs, 0⟩] scope _ => noSet i && blkC N sc scope (ownOf N scope) && mtTg N (relS scope sc) scope tg t && ((tgSlots tg).all fun i => decide (i ∈ (ownOf N scope).map (·.2))) && ((srcOf μ it).all fun i => !decide (i ∈ (ownOf N scope).map (·.2))) && decide (μ.length = N.length) &&
        mtE it sc scI μ .V (some t) i &&
        mtE elt (relS scope sc) scope (msets (msets μ ((ownOf N scope).map (·.2)) .dead) (tgSlots tg) .imm) .V none e && mtC ifs (relS scope sc) scope (msets (msets μ ((ownOf N scope).map (·.2)) .dead) (tgSlots tg) .imm) fs
    | _ => false
  | .isi a ks, sc, scI, μ, m, w, x => match x with
    | .Call (.Name y _) [l, .Name z _] [] _ => (match ks with
      | [k] => decide (y = "isinstance") && decide (200 ≤ k) && decide (k ≤ 204) && decide (z = tyArg k) && isGl sc y && isGl sc z && decide (z ∈ bltNames) && noStar l && mtE a sc scI μ .B none l
      | _ => false)
    | _ => false
  | .mth k a es, sc, scI, μ, m, w, x => match k, es, x with
    | .get, [b], .Call (.Attribute l nm ap) [r] [] cp => decide (nm = "get") && (ap.endLine == cp.line) && noSup l && noStar r && decide (m ≠ .O) && mtE a sc scI μ .B none l && mtE b sc scI μ .B none r
    | .get3, [b, d], .Call (.Attribute l nm ap) [r, q] [] cp => decide (nm = "get") && (ap.endLine == cp.line) && noSup l && noStar r && noStar q && decide (m ≠ .O) && mtE a sc scI μ .B none l && mtE b sc scI μ .B none r && mtE d sc scI μ .V none q
    | _, _, _ => false
  | .glob y d, sc, scI, μ, m, w, x => match x with
    | .Name z _ => decide (z = y) && isGl sc z && notDbg z && sg.gs.any fun p => decide (p.1 = z) && eqG d p.2
    | _ => false
  | .fld a k, sc, scI, μ, m, w, x => match x with
    | .Attribute l f _ => (decide (k = 0) || decide (k = 1) || decide (k = 2) || decide (k = 4)) && decide (f = fldName k) && decide (fldCls k ∈ sg.cs) && noSup l && decide (m ≠ .O) && mtE a sc scI μ .B none l
    | _ => false
  | .mk k es, sc, scI, μ, m, w, x => match x with
    | .Call (.Name y _) (l :: ls) [] _ => decide (k ∈ sg.cs) && decide (y = clsName k) && isGl sc y && mtEs es sc scI μ (mkModes k) (l :: ls)
    | _ => false
  | .rng es, sc, scI, μ, m, w, x => match w, x with
    | some _, .Call (.Name y _) [l] [] _ => decide (y = "range") && isGl sc y && mtEs es sc scI μ [.B] [l]
    | some _, .Call (.Name y _) [l, r] [] _ => decide (y = "range") && isGl sc y && mtEs es sc scI μ [.B, .B] [l, r]
    | _, _ => false
  | .enm a, sc, scI, μ, m, w, x => match w, x with
    | some (.Tuple _ _ _), .Call (.Name y _) [l] [] _ => decide (y = "enumerate") && isGl sc y && noStar l && mtE a sc scI μ .V none l
    | _, _ => false
  | .rvs a, sc, scI, μ, m, w, x => match w, x with
    | some _, .Call (.Name y _) [l] [] _ => decide (y = "reversed") && isGl sc y && noStar l && mtE a sc scI μ .V none l
    | _, _ => false
  | .zp a b, sc, scI, μ, m, w, x => match w, x with
    | some (.Tuple _ _ _), .Call (.Name y _) [l, r] [] _ => decide (y = "zip") && isGl sc y && noStar l && noStar r && mtE a sc scI μ .V none l && mtE b sc scI μ .V none r
    | _, _ => false
  | _, _, _, _, _, _, _ => false
def mtEs : List ME → Scope → Scope → List Md → List RM → List Expr → Bool
  | [], sc, scI, μ, ms, xs => match ms, xs with
    | [], [] => true
    | _, _ => false
  | e :: es, sc, scI, μ, ms, xs => match ms, xs with
    | m :: ms, x :: xs => noStar x && mtE e sc scI μ m none x && mtEs es sc scI μ ms xs
    | _, _ => false
def mtO : Option ME → Scope → Scope → List Md → Option Expr → Bool
  | none, sc, scI, μ, x => match x with
    | none => true
    | some _ => false
  | some e, sc, scI, μ, x => match x with
    | none => false
    | some x => mtE e sc scI μ .B none x
def mtC : Option ME → Scope → Scope → List Md → List Expr → Bool
  | none, sc, scI, μ, xs => match xs with
    | [] => true
    | _ => false
  | some e, sc, scI, μ, xs => match xs with
    | [x] => mtE e sc scI μ .B none x
    | _ => false
end
end

theorem exc_dbg {k : Nat} (h : k ≤ 7) : (excName k == ("__debug__" : PySem.Str)) = false := by
  match k, h with
  | 0, _ => rfl
  | 1, _ => rfl
  | 2, _ => rfl
  | 3, _ => rfl
  | 4, _ => rfl
  | 5, _ => rfl
  | 6, _ => rfl
  | 7, _ => rfl
/-- what the code around gives -/
structure Gd (X : Cx) (c : Cn) (sc scI : Scope) (sg : Sg) (N : List PySem.Str) (Φ : Phi) (W : WX) : Prop where
  K : X.K = c.K
  mg : X.mg = c.mg
  sc : X.env.scope = sc
  names : X.N = N
  nd : N.Nodup
  calm : X.calm = true
  kind : X.env.scope.kind = .function
  un : X.A.units + 66 < cLine
  tk : Takes X W
  blt : ∀ x ∈ bltNames, c.mg x = none
  fn : ∀ x, scI.names.lookup x = some .cell → X.fn x = true
  exc : ∀ k ∈ sg.xs, XF c.K c.mg k
  cls : ∀ k ∈ sg.cs, ClsF c.K c.mg k
  gls : ∀ p ∈ sg.gs, GF c.K c.mg p
  mks : ∀ k ∈ sg.cs, ∃ (j : Nat) (C f : Addr) (fd : FuncData), Mk c.K C f ∧ FnOk X.prog X.w X.K X.mg X.base (L2.CX X.prog X.w) j f fd (initPs k) (spInit c.K c.mg k) ∧ Room (j + 1) X.A ∧ c.mg (clsName k) = some (.ref C) ∧ Binds X.K fd (initPs k) []
  io : c.io.map (·.1) = sg.io
  call : ∀ f x pm fr, sg.fn f = some (x, pm, fr) → ∃ (k : Nat) (a : Addr) (fd : FuncData) (ps : List PySem.Str), FnOk X.prog X.w X.K X.mg X.base (L2.CX X.prog X.w) k a fd ps (spOf c pm fr (Φ f)) ∧ Room k X.A ∧ c.mg x = some (.ref a) ∧ PySem.W.keepIn X.K (.ref a) = true ∧ Binds X.K fd ps [] ∧ ∀ ds, Φ f ds ≠ .stuck → ownOk pm ds = true
section
variable {X : Cx} {c : Cn} {sc scI : Scope} {sg : Sg} {N : List PySem.Str} {Φ : Phi} {W : WX} {μ : List Md}
theorem Gd.blk (G : Gd X c sc scI sg N Φ W) (s : Shared) (H : Hp) (scope : Scope) (hk : scope.kind = .function) (C : Addr) (cl : List (PySem.Str × Addr)) (fp : List Addr) : Gd (X.blk s H scope (compEnvC scope cl C X.env) fp) c (relS scope sc) scope sg N Φ W0 := by
  refine ⟨G.K, G.mg, ?_, G.names, G.nd, G.calm, hk, G.un, takes0, G.blt, fun x h => ?_, G.exc, G.cls, G.gls, G.mks, G.io, G.call⟩
  · show relS scope X.env.scope = _
    rw [G.sc]
  · show (scope.names.lookup x == some .cell) = true
    rw [h]; rfl
theorem gl_of (G : Gd X c sc scI sg N Φ W) {x : PySem.Str} (h : isGl sc x = true) : Gl X x := by
  unfold isGl at h
  show X.env.scope.names.lookup x = _
  rw [G.sc]
  exact of_decide_eq_true h
theorem vis_of (G : Gd X c sc scI sg N Φ W) {x : PySem.Str} (h : isVis sc x = true) : Vis X.env.scope x := by
  rw [G.sc]
  unfold isVis at h
  split at h
  · exact .inl (by assumption)
  · exact .inr (.inl (by assumption))
  · exact .inr (.inr (by assumption))
  · cases h
theorem dbg_of {x : PySem.Str} (h : notDbg x = true) : (x == ("__debug__" : PySem.Str)) = false ∧ (x == ("__classdict__" : PySem.Str)) = false := by
  unfold notDbg at h
  simpa using h
end
end Mi

/-! Mi, part D2: the match is sound: expressions. -/
namespace Mi
open PySem L2 PySem.Spec PyProof.Rows

theorem star_of {l : Expr} {es : List Expr} {env : PySem.Env} (h : noStar l = true) : starEach (l :: es) env = (false, eval l env) :: starEach es env := by
  cases l <;> first | rfl | (exact absurd h (by decide)) | (simp [noStar] at h)
theorem behind_of {op : CmpOp} {r : Expr} (h : noSet r = true) : behindInMarks op r = false := by
  cases r <;> first | rfl | (simp [noSet] at h)
theorem slice_of {r : Expr} (h : noSlice r = true) : PlainIx r := by
  intro o i
  cases r <;> first | rfl | (simp [noSlice] at h)
theorem folded_of {e : Expr} {env : PySem.Env} (h : noSet e = true) : ∀ x, foldedSetIterable e env x = pure x := by
  intro x
  cases e <;> first | rfl | (simp [noSet] at h)
section
variable {X : Cx} {c : Cn} {sc scI : Scope} {sg : Sg} {N : List PySem.Str} {Φ : Phi} {W : WX} {μ : List Md} {m : RM}
theorem mtEs_star : ∀ {es : List ME} {ms : List RM} {xs : List Expr} {env : PySem.Env}, mtEs sg N es sc scI μ ms xs = true → ((starEach xs env).any (·.1) = false) ∧ xs.length = es.length
  | [], ms, xs, env, h => by
    unfold mtEs at h
    split at h
    · exact ⟨rfl, rfl⟩
    · cases h
  | e :: es, ms, xs, env, h => by
    unfold mtEs at h
    split at h
    · rename_i m ms x xs
      simp only [Bool.and_eq_true] at h
      obtain ⟨⟨h1, h2⟩, h3⟩ := h
      obtain ⟨k1, k2⟩ := mtEs_star (env := env) h3
      rw [star_of h1]
      exact ⟨by simpa using k1, by simp [k2]⟩
    · cases h
theorem mtEs_head {es : List ME} {ms : List RM} {l : Expr} {ls : List Expr} (h : mtEs sg N es sc scI μ ms (l :: ls) = true) : noStar l = true := by
  cases es with
  | nil => unfold mtEs at h; split at h <;> simp_all
  | cons e es =>
    unfold mtEs at h
    split at h
    · rename_i q
      cases q
      simp only [Bool.and_eq_true] at h
      exact h.1.1
    · cases h
theorem mtEs_tail {es : List ME} {ms : List RM} {l : Expr} {ls : List Expr} {env : PySem.Env} (h : mtEs sg N es sc scI μ ms (l :: ls) = true) : (starEach ls env).any (·.1) = false := by
  have k := (mtEs_star (env := env) h).1
  rw [star_of (mtEs_head h)] at k
  simpa using k
theorem back_of {pos : Pos} : ∀ {l : List (Bool × Sem Value)}, l.any (·.1) = false → (backTo pos l).any (·.1) = false
  | [], _ => rfl
  | (b, t) :: r, h => by
    simp only [List.any_cons, Bool.or_eq_false_iff] at h
    show (b || (backTo pos r).any (·.1)) = false
    rw [h.1, back_of h.2]; rfl
theorem evEs_len {ρ : Env} : ∀ {es : List ME} {ds : List D}, evEs Φ es ρ = .ok ds → ds.length = es.length
  | [], ds, h => by cases h; rfl
  | e :: es, ds, h => by
    obtain ⟨x, _, h⟩ := bind_ok h
    obtain ⟨xs, h2, h⟩ := bind_ok h
    cases h
    simp [evEs_len h2]
theorem slot_of (G : Gd X c sc scI sg N Φ W) {i : Nat} {y : PySem.Str} (h : mtSlot N sc i y = true) : X.N[i]? = some y ∧ Vis X.env.scope y ∧ (y == ("__debug__" : PySem.Str)) = false ∧ (y == ("__classdict__" : PySem.Str)) = false := by
  unfold mtSlot at h
  simp only [Bool.and_eq_true, decide_eq_true_eq] at h
  obtain ⟨⟨h1, h2⟩, h3⟩ := h
  obtain ⟨h4, h5⟩ := dbg_of h3
  exact ⟨by rw [G.names]; exact h1, vis_of G h2, h4, h5⟩
/-! targets -/
def gOf (K : PySem.W.Frag) : Tg → TG
  | .one i => gName i
  | .many is => gTup K is.length (gMany is)
theorem tgt_of (G : Gd X c sc scI sg N Φ W) {i : Nat} {e : Expr} (h : mtTgt N sc scI i e = true) : PG X e (gName i) ∧ ∃ y p, e = .Name y p := by
  unfold mtTgt at h
  split at h
  · rename_i y p
    simp only [Bool.and_eq_true, decide_eq_true_eq, Bool.or_eq_true] at h
    obtain ⟨h1, h2⟩ := h
    refine ⟨pg_name (by rw [G.names]; exact G.nd) (by rw [G.names]; exact h1) ?_ ?_, y, p, rfl⟩
    · rw [G.sc]
      rcases h2 with h2 | h2
      · exact .inl h2
      · exact .inr h2.1
    · rw [G.sc]
      rcases h2 with h2 | h2
      · exact .inr h2
      · exact .inl (G.fn y h2.2)
  · cases h
theorem tgts_of (G : Gd X c sc scI sg N Φ W) : ∀ {is : List Nat} {es : List Expr}, mtTgts N sc scI is es = true → PGs X es (gMany is) ∧ (assignEach es X.env).length = is.length ∧ (assignEach es X.env).findIdx? (·.1) = none
  | [], [], _ => ⟨pgs_nil, rfl, rfl⟩
  | [], _ :: _, h => by simp [mtTgts] at h
  | _ :: _, [], h => by simp [mtTgts] at h
  | i :: is, e :: es, h => by
    simp only [mtTgts, Bool.and_eq_true] at h
    obtain ⟨h1, y, p, rfl⟩ := tgt_of G h.1
    obtain ⟨h2, h3, h4⟩ := tgts_of G h.2
    refine ⟨pgs_cons h1 h2 rfl, ?_, ?_⟩
    · show (assignEach es X.env).length + 1 = _
      rw [h3]; rfl
    · show ((false, assign (.Name y p) X.env) :: assignEach es X.env).findIdx? (·.1) = none
      rw [List.findIdx?_cons]
      simp [h4]
theorem tgS_of {T : Tg} {e : Expr} (h : mtTg N sc scI T e = true) : TgS c T N.length (gOf c.K T) := by
  cases T with
  | one i =>
    simp only [mtTg, Bool.and_eq_true, decide_eq_true_eq] at h
    exact tg_one h.2
  | many is =>
    cases e <;> simp only [mtTg] at h <;> try contradiction
    simp only [Bool.and_eq_true, decide_eq_true_eq, List.all_eq_true] at h
    obtain ⟨⟨h1, h2⟩, h3⟩ := h
    exact tg_many (fun i hi => h3 i hi) h2
theorem tg_of (G : Gd X c sc scI sg N Φ W) {T : Tg} {e : Expr} (h : mtTg N sc scI T e = true) : PG X e (gOf c.K T) := by
  cases T with
  | one i =>
    simp only [mtTg, Bool.and_eq_true, decide_eq_true_eq] at h
    exact (tgt_of G h.1).1
  | many is =>
    cases e <;> simp only [mtTg] at h <;> try contradiction
    simp only [Bool.and_eq_true, decide_eq_true_eq, List.all_eq_true] at h
    obtain ⟨⟨h1, h2⟩, h3⟩ := h
    obtain ⟨k1, k2, k3⟩ := tgts_of G h1
    show PG X _ (gTup c.K is.length (gMany is))
    rw [← G.K]
    exact pg_tup G.calm k1 k2 k3
theorem ownOf_ix {scope : Scope} (ok : BlkOk N sc scope (ownOf N scope)) : True := trivial
/-! builtins -/
theorem blt_of (G : Gd X c sc scI sg N Φ W) (b : B) (hs : bltName b ∈ bltNames) : (∃ id, bootBuiltins (bltName b) = some (.builtin id) ∧ OpN X c m (.builtin id) (bltD b)) ∨ (∃ id, bootBuiltins (bltName b) = some (.type id) ∧ OpN X c m (.type id) (bltD b)) := by
  have hK := G.K
  have hc := G.calm
  cases b
  · exact .inl ⟨_, by rfl, b_len hK⟩
  · exact .inl ⟨_, by rfl, b_abs⟩
  · exact .inl ⟨_, by rfl, b_max1 hK hc⟩
  · exact .inl ⟨_, by rfl, b_min1 hK hc⟩
  · exact .inl ⟨_, by rfl, b_max2 hc⟩
  · exact .inl ⟨_, by rfl, b_min2 hc⟩
  · exact .inl ⟨_, by rfl, b_max3 hc⟩
  · exact .inl ⟨_, by rfl, b_sum hK hc⟩
  · exact .inl ⟨_, by rfl, b_any hK hc⟩
  · exact .inl ⟨_, by rfl, b_all hK hc⟩
  · exact .inl ⟨_, by rfl, b_sorted hK G.un⟩
  · exact .inr ⟨_, by rfl, b_list hK⟩
  · exact absurd hs (by decide +kernel)
  · exact absurd hs (by decide +kernel)
  · exact .inr ⟨_, by rfl, b_tuple hK⟩
  · exact .inr ⟨_, by rfl, b_dict hK hc⟩
  · exact absurd hs (by decide +kernel)
  · exact absurd hs (by decide +kernel)
  · exact .inr ⟨_, by rfl, b_str⟩
  · exact .inr ⟨_, by rfl, b_int⟩
theorem sup_of {l : Expr} {nm : PySem.Str} {env : PySem.Env} (h : noSup l = true) : attributeBase l nm env (eval l env) = eval l env := by
  cases l <;> try rfl
  rename_i f as ks p
  cases as with
  | nil => simp [noSup] at h
  | cons x xs => cases f <;> rfl
theorem m1_of {l r : Expr} {nm : PySem.Str} {ap cp : Pos} (h1 : noSup l = true) (h2 : (ap.endLine == cp.line) = true) (h3 : noStar r = true) : M1 X l nm ap r cp := by
  have e := star_of (es := []) (env := X.env) h3
  refine ⟨sup_of h1, ?_, h2, ?_⟩
  · rw [e]; rfl
  · rw [e]; rfl
theorem m2_of {l r q : Expr} {nm : PySem.Str} {ap cp : Pos} (h1 : noSup l = true) (h2 : (ap.endLine == cp.line) = true) (h3 : noStar r = true) (h4 : noStar q = true) : M2 X l nm ap r q cp := by
  have e := star_of (es := [q]) (env := X.env) h3
  have e2 := star_of (es := []) (env := X.env) h4
  refine ⟨sup_of h1, ?_, h2, ?_⟩
  · rw [e, e2]; rfl
  · rw [e, e2]; rfl
end
end Mi

/-! Mi, part C17: except C as e: m = [isinstance(e, ..), ..]. -/
namespace Mi
open PySem L2 PySem.Spec PyProof.Rows

/-- the name of an error's class -/
def nmOf (k : Nat) : PySem.Str := if k = 100 then "ValueError" else excName k
def isB (ks : List Nat) (x : Nat) : Bool := ks.any (isCl (.exc x 0))
theorem nm_facts {k : Nat} (h : k ≤ 9 ∨ k = 100) : nmOf k ≠ "__name__" ∧ (nmOf k == ("__debug__" : PySem.Str)) = false := by
  have : k = 0 ∨ k = 1 ∨ k = 2 ∨ k = 3 ∨ k = 4 ∨ k = 5 ∨ k = 6 ∨ k = 7 ∨ k = 8 ∨ k = 9 ∨ k = 100 := by omega
  rcases this with rfl | rfl | rfl | rfl | rfl | rfl | rfl | rfl | rfl | rfl | rfl <;> decide +kernel
theorem boot_val : bootBuiltins "ValueError" = some (.type "ValueError") := by rfl
theorem any_kit {K : PySem.W.Frag} {t : Value} {f : Nat → Bool} : ∀ {ks : List Nat} {cvs : List Value}, Paired (fun k cv => PySem.W.kitOne K t cv = some (f k)) ks cvs → PySem.W.kitAny K t cvs = some (ks.any f)
  | [], _, .nil => rfl
  | k :: ks, _, .cons h r => by
    have ih := any_kit r
    unfold PySem.W.kitAny
    rw [h]
    cases q : f k with
    | true => simp [q]
    | false => simp [q, ih]
/-- isinstance(e, (C, ..)), e the exception that the suite holds -/
def rIsT (K : PySem.W.Frag) (D a : Addr) : List V → Hp → VK → Prop := fun xs H Q => ∃ (t : Addr) (cs : List V) (cvs : List Value) (b : Bool), xs = [.ref a, .ref t] ∧ H t = some (.tup cs) ∧ (∀ us, Vals cs us → us = cvs) ∧ PySem.W.kitAny K (.ref D) cvs = some b ∧ Q (.bl b) H
theorem call_isET {X : Cx} {a D : Addr} {oe : Obj} {pn : List (Addr × Obj)} (C : ExcC X.K D) (hz : Zc (.ref D) none oe) (hf : ∃ vs, oe.data = .fields vs) : CallR (X.suite a ((a, oe) :: pn)) (.builtin "isinstance") (rIsT X.K D a) := by
  intro pins s σ H xs us Q I r h
  obtain ⟨t, cs, cvs, b, rfl, ht, hcv, e, q⟩ := h
  cases r with
  | cons rx rr =>
    cases rr with
    | cons rt rr =>
      cases rr
      cases rx
      cases rt
      obtain ⟨hget, _⟩ := I.pin (a, oe) (List.mem_append.mpr (.inl List.mem_cons_self))
      obtain ⟨vs, hv⟩ := hf
      have J : PySem.W.InstAt s.heap a oe D none := by
        obtain ⟨oc, od, oda, osl⟩ := oe
        obtain ⟨h1, h2⟩ := hz
        dsimp only at h1 h2 hv
        subst h1 h2 hv
        exact ⟨hget, rfl, rfl, trivial⟩
      obtain ⟨_, its, hvs, ob, ho, hc, n, hd⟩ := I.hok t _ ht
      have ei := hcv its hvs
      subst ei
      obtain ⟨oc, od, oda, osl⟩ := ob
      dsimp only at hc hd
      subst hc hd
      exact PySem.W.kia_tup (PySem.W.handS_kitx_exc C.hg C.hk C.hs C.hd C.ha C.hn C.ht C.hm) I.kIn J ho e (fun z => nomatch z) fun tk => ⟨.bl b, H, I.kept (t' := tk) fun _ _ z => z, rfl, q⟩
/-- what a test of the caught error tells -/
def tIs (i : Nat) (a : Addr) (b : Bool) : TE := fun σ H Q => σ[i]? = some (some (.ref a)) ∧ ∀ H', Same H H' → Q (.bl b) H'
def tIsL (i : Nat) (a : Addr) (bs : List Bool) : TA := fun σ H Q => σ[i]? = some (some (.ref a)) ∧ ∀ H', Same H H' → Q (bs.map V.bl) H'
section
variable (xs : List Nat) (sc : Scope)
def okC (k : Nat) (z : PySem.Str) : Bool := decide (z = nmOf k) && decide (300 + k ∈ xs) && decide (k ≤ 9 ∨ k = 100) && isGl sc z
def mtNm : List Nat → List Expr → Bool
  | [], [] => true
  | k :: ks, .Name z _ :: es => okC xs sc k z && mtNm ks es
  | _, _ => false
def mtI1 (n : PySem.Str) (ks : List Nat) : Expr → Bool
  | .Call (.Name y _) [.Name n2 _, .Name z _] [] _ => decide (y = "isinstance") && isGl sc y && decide (n2 = n) && (match ks with | [k] => okC xs sc k z | _ => false)
  | .Call (.Name y _) [.Name n2 _, .Tuple es _ _] [] _ => decide (y = "isinstance") && isGl sc y && decide (n2 = n) && mtNm xs sc ks es && decide (es.length ≤ 100)
  | _ => false
def mtI (i : Nat) (n : PySem.Str) : List ME → List Expr → Bool
  | [], [] => true
  | .isi (.v i2) ks :: es, x :: xs2 => decide (i2 = i) && (ks.any fun k => decide (k < 200)) && mtI1 xs sc n ks x && mtI i n es xs2
  | _, _ => false
def kss : List ME → List (List Nat)
  | .isi _ ks :: es => ks :: kss es
  | _ => []
end
section
variable {X : Cx} {xs : List Nat} {sc : Scope} {a D : Addr} {oe : Obj} {pn : List (Addr × Obj)} {x i : Nat} {n : PySem.Str}
theorem pe_cls {k : Nat} {z : PySem.Str} {p : Pos} {K : PySem.W.Frag} {mg : PySem.Str → Option Value} (hK : X.K = K) (hmg : X.mg = mg) (hx : ∀ k ∈ xs, XF K mg k) (hsc : ∀ y, isGl sc y = true → Gl X y) (h : okC xs sc k z = true) (hx8 : x < 8) (hD : mg (excName x) = some (.ref D)) :
    ∃ (v : V) (cv : Value), PE X (.Name z p) (tC v) ∧ (∀ u, RelV v u → u = cv) ∧ PySem.W.kitOne X.K (.ref D) cv = some (isCl (.exc x 0) k) := by
  simp only [okC, Bool.and_eq_true, decide_eq_true_eq] at h
  obtain ⟨⟨⟨rfl, h2⟩, h3⟩, h4⟩ := h
  obtain ⟨v, cv, h5, h6⟩ := (hx _ h2).is (by omega)
  obtain ⟨f1, f2⟩ := nm_facts h3
  refine ⟨v, cv, ?_, ?_, by rw [hK]; exact h6 x hx8 D hD⟩
  · rcases h5 with ⟨rfl, rfl, rfl, hn⟩ | ⟨hk, C, h7, rfl, rfl⟩
    · exact pe_bltn (hsc _ h4) (by rw [hmg]; exact hn) boot_val rfl f1 f2
    · have e : nmOf k = excName k := by unfold nmOf; rw [if_neg (by omega)]
      exact pe_glob (hsc _ h4) (by rw [hmg, e]; exact h7) rfl f2
  · rcases h5 with ⟨rfl, rfl, rfl, hn⟩ | ⟨hk, C, h7, rfl, rfl⟩ <;> exact fun u h => h
theorem pa_cls {K : PySem.W.Frag} {mg : PySem.Str → Option Value} (hK : X.K = K) (hmg : X.mg = mg) (hx : ∀ k ∈ xs, XF K mg k) (hsc : ∀ y, isGl sc y = true → Gl X y) (hx8 : x < 8) (hD : mg (excName x) = some (.ref D)) : ∀ (ks : List Nat) (es : List Expr), mtNm xs sc ks es = true →
    ∃ (vs : List V) (cvs : List Value), PA X es (fun _ H Q => Q vs H) ∧ (∀ us, Vals vs us → us = cvs) ∧ Paired (fun k cv => PySem.W.kitOne X.K (.ref D) cv = some (isCl (.exc x 0) k)) ks cvs ∧ vs.length = es.length
  | [], [], _ => ⟨[], [], pa_nil, (fun us h => by cases h; rfl), .nil, rfl⟩
  | [], _ :: _, h => by simp [mtNm] at h
  | _ :: _, [], h => by simp [mtNm] at h
  | k :: ks, e :: es, h => by
    cases e <;> simp only [mtNm, Bool.false_eq_true] at h
    rename_i z p
    simp only [Bool.and_eq_true] at h
    obtain ⟨v, cv, h1, h2, h3⟩ := pe_cls (p := p) hK hmg hx hsc h.1 hx8 hD
    obtain ⟨vs, cvs, k1, k2, k3, k4⟩ := pa_cls hK hmg hx hsc hx8 hD ks es h.2
    exact ⟨v :: vs, cv :: cvs, PA.weak (pa_cons h1 k1 (by rfl)) fun _ _ _ q => q, (fun us h => by cases h with | cons r1 r2 => rw [h2 _ r1, k2 _ r2]), .cons h3 k3, by simp [k4]⟩
theorem pe_isE {K : PySem.W.Frag} {mg : PySem.Str → Option Value} {ks : List Nat} {e : Expr} (hK : X.K = K) (hmg : X.mg = mg) (hx : ∀ k ∈ xs, XF K mg k) (h499 : 499 ∈ xs) (hsc : ∀ y, isGl sc y = true → Gl X y) (hib : X.mg "isinstance" = none) (hN : X.N[i]? = some n) (hv : Vis X.env.scope n) (hd : (n == ("__debug__" : PySem.Str)) = false) (hcd : (n == ("__classdict__" : PySem.Str)) = false)
    (hx8 : x < 8) (hD : mg (excName x) = some (.ref D)) (hz : Zc (.ref D) none oe) (hf : ∃ vs, oe.data = .fields vs) (h : mtI1 xs sc n ks e = true) : PE (X.suite a ((a, oe) :: pn)) e (tIs i a (isB ks x)) := by
  have hC : ExcC X.K D := by rw [hK]; exact (hx _ h499).all x hx8 D hD
  unfold mtI1 at h
  split at h
  · rename_i y p1 n2 p2 z p3 p4
    simp only [Bool.and_eq_true, decide_eq_true_eq] at h
    obtain ⟨⟨⟨rfl, h2⟩, rfl⟩, h4⟩ := h
    split at h4
    · rename_i k
      obtain ⟨v, cv, k1, k2, k3⟩ := pe_cls (X := X.suite a ((a, oe) :: pn)) (p := p3) hK hmg hx hsc h4 hx8 hD
      refine (pe_callB (X := X.suite a ((a, oe) :: pn)) (call_isE hC hz hf) (hsc _ h2) hib (by rfl) (pa_cons (pe_var (X := X.suite a ((a, oe) :: pn)) (i := i) hN hv hd hcd) (pa_cons k1 pa_nil (by rfl)) (by rfl)) (by decide +kernel) (by decide +kernel) (by rfl) (by rfl)).weak ?_
      rintro σ H Q ⟨q1, q2⟩
      refine ⟨_, q1, _, _, _, rfl, k2, k3, ?_⟩
      have : isB [k] x = isCl (.exc x 0) k := by simp [isB]
      rw [← this]
      exact q2 H (Same.refl _)
    · cases h4
  · rename_i y p1 n2 p2 es p3 p4 p5
    simp only [Bool.and_eq_true, decide_eq_true_eq] at h
    obtain ⟨⟨⟨⟨rfl, h2⟩, rfl⟩, h4⟩, h5⟩ := h
    obtain ⟨vs, cvs, k1, k2, k3, k4⟩ := pa_cls (X := X.suite a ((a, oe) :: pn)) hK hmg hx hsc hx8 hD ks es h4
    refine (pe_callB (X := X.suite a ((a, oe) :: pn)) (call_isET hC hz hf) (hsc _ h2) hib (by rfl) (pa_cons (pe_var (X := X.suite a ((a, oe) :: pn)) (i := i) hN hv hd hcd) (pa_cons (pe_tup k1) pa_nil (by rfl)) (by rfl)) (by decide +kernel) (by decide +kernel) (by rfl) (by rfl)).weak ?_
    rintro σ H Q ⟨q1, q2⟩
    refine ⟨_, q1, ?_, fun p hp => ?_⟩
    · rw [k4, sizeLine_eq]; omega
    · exact ⟨p, vs, cvs, _, rfl, upd_same, k2, any_kit k3, q2 _ (same_new hp)⟩
  · cases h
theorem pa_isE {K : PySem.W.Frag} {mg : PySem.Str → Option Value} (hK : X.K = K) (hmg : X.mg = mg) (hx : ∀ k ∈ xs, XF K mg k) (h499 : 499 ∈ xs) (hsc : ∀ y, isGl sc y = true → Gl X y) (hib : X.mg "isinstance" = none) (hN : X.N[i]? = some n) (hv : Vis X.env.scope n) (hd : (n == ("__debug__" : PySem.Str)) = false) (hcd : (n == ("__classdict__" : PySem.Str)) = false)
    (hx8 : x < 8) (hD : mg (excName x) = some (.ref D)) (hz : Zc (.ref D) none oe) (hf : ∃ vs, oe.data = .fields vs) : ∀ (mes : List ME) (es : List Expr), mtI xs sc i n mes es = true → PA (X.suite a ((a, oe) :: pn)) es (tIsL i a ((kss mes).map fun ks => isB ks x)) ∧ es.length = (kss mes).length
  | [], [], _ => ⟨PA.weak pa_nil fun σ H Q h => h.2 H (Same.refl _), rfl⟩
  | [], _ :: _, h => by simp [mtI] at h
  | m :: mes, [], h => by cases m <;> simp [mtI] at h
  | m :: mes, e :: es, h => by
    have ih := pa_isE hK hmg hx h499 hsc hib hN hv hd hcd hx8 hD hz hf mes es
    unfold mtI at h
    split at h
    · rename_i h1 h2; cases h1
    · rename_i i2 ks ms2 e2 es2 q1 q2
      cases q1; cases q2
      simp only [Bool.and_eq_true, decide_eq_true_eq] at h
      obtain ⟨⟨⟨rfl, _⟩, h2⟩, h3⟩ := h
      obtain ⟨k1, k2⟩ := ih h3
      have hst : starEach (e :: es) (X.suite a ((a, oe) :: pn)).env = (false, eval e (X.suite a ((a, oe) :: pn)).env) :: starEach es (X.suite a ((a, oe) :: pn)).env := star_of (by
        unfold mtI1 at h2
        split at h2 <;> first | rfl | cases h2)
      refine ⟨PA.weak (pa_cons (pe_isE (a := a) (pn := pn) hK hmg hx h499 hsc hib hN hv hd hcd hx8 hD hz hf h2) k1 hst) ?_, by simp [kss, k2]⟩
      rintro σ H Q ⟨q1, q2⟩
      exact ⟨q1, fun H1 s1 => ⟨q1, fun H2 s2 => q2 H2 (s1.trans s2)⟩⟩
    · cases h
end
theorem isi_exc {ks : List Nat} {k : Nat} {r : Int} (h : (ks.any fun k => decide (k < 200)) = true) : isiD ks (.exc k r) = if k < 8 then some (.bl (isB ks k)) else none := by
  have h1 : (ks.all fun k => decide (200 ≤ k) && decide (k < 210)) = false := by
    rw [List.any_eq_true] at h
    obtain ⟨x, hx, h⟩ := h
    rw [List.all_eq_false]
    exact ⟨x, hx, by have := of_decide_eq_true h; simp; omega⟩
  unfold isiD
  by_cases h8 : k < 8
  · rw [if_neg (by rw [h1]; show ¬ (false && _ || decide (8 ≤ k)) = true; simp; omega), if_pos h8]; rfl
  · rw [if_pos (by rw [h1]; show (false && _ || decide (8 ≤ k)) = true; simp; omega), if_neg h8]
theorem evs_isi {Φ : Phi} {xs : List Nat} {sc : Scope} {i : Nat} {n : PySem.Str} {ρ : Env} {k : Nat} {r : Int} (hg : getE ρ i = .ok (.exc k r)) : ∀ (mes : List ME) (es : List Expr), mtI xs sc i n mes es = true → (k < 8 → evEs Φ mes ρ = .ok ((kss mes).map fun ks => .bl (isB ks k))) ∧ (¬ k < 8 → mes ≠ [] → evEs Φ mes ρ = .stuck)
  | [], [], _ => ⟨fun _ => rfl, fun _ h => absurd rfl h⟩
  | [], _ :: _, h => by simp [mtI] at h
  | m :: mes, [], h => by cases m <;> simp [mtI] at h
  | m :: mes, e :: es, h => by
    have ih := evs_isi (Φ := Φ) (xs := xs) (sc := sc) (n := n) hg mes es
    unfold mtI at h
    split at h
    · rename_i h1 h2; cases h1
    · rename_i i2 ks ms2 e2 es2 q1 q2
      cases q1; cases q2
      simp only [Bool.and_eq_true, decide_eq_true_eq] at h
      obtain ⟨⟨⟨rfl, h1⟩, h2⟩, h3⟩ := h
      have e1 : evEs Φ (.isi (.v i2) ks :: mes) ρ = ((getE ρ i2).bind fun x => R.of (isiD ks x)).bind fun x => (evEs Φ mes ρ).bind fun xs => .ok (x :: xs) := rfl
      rw [e1, hg, R.ok_bind, isi_exc h1]
      refine ⟨fun k8 => ?_, fun k8 _ => ?_⟩
      · rw [if_pos k8, (ih h3).1 k8]; rfl
      · rw [if_neg k8]; rfl
    · cases h
def evTryI (q i : Nat) (evb evh : Env → FL) : Env → FL := fun ρ => match evb ρ with
  | .exc x r => if [q].any (isCl (.exc x r)) then evh (setE ρ i (.exc x r)) else .exc x r
  | f => f
theorem rps_bl {c : Cn} {F : Hp} : ∀ (bs : List Bool), Rps c F (bs.map D.bl) (bs.map V.bl)
  | [] => Rps.nil
  | b :: bs => Rps.cons (by simp only [Rp]) (rps_bl bs)
section
variable {X : Cx} {c : Cn} {W : WX} {μ : List Md} {μ' : Option (List Md)} {μc : List Md} {fr : Bool} {xs : List Nat} {sc : Scope}
/-- try: .. except C as e: y = [isinstance(e, ..), ..] -/
theorem s_tryI {body : List Stmt} {x n y : PySem.Str} {np py pos pos2 pos3 lp : Pos} {q i j : Nat} {mes : List ME} {es : List Expr} {evb evh : Env → FL} {μb : Option (List Md)} {msb : List Nat} (hev : ∀ ρ k r, i < ρ.length → evh (setE ρ i (.exc k r)) = if k < 8 then .nx (setE (setE ρ i (.exc k r)) j (.lst ((kss mes).map fun ks => .bl (isB ks k)))) else .stuck) (hK : X.K = c.K) (hst : X.stack = X.env :: X.outer) (hf : X.env.frame = some X.env.locals) (tk : Takes X W) (hxq : XFact c.K c.mg q) (hmg : X.mg = c.mg) (hg : Gl X x) (hdb : (x == ("__debug__" : PySem.Str)) = false) (hxn : x = excName q)
    (hx : ∀ k ∈ xs, XF c.K c.mg k) (h499 : 499 ∈ xs) (hsc : ∀ z, isGl sc z = true → Gl X z) (hib : X.mg "isinstance" = none) (hNd : X.N.Nodup) (hN : X.N[i]? = some n) (hln : X.env.kindOf n = some .local) (hd : (n == ("__debug__" : PySem.Str)) = false) (hcd : (n == ("__classdict__" : PySem.Str)) = false)
    (hy : X.N[j]? = some y) (hyl : Loc X.env.scope y) (hyf : X.env.scope.names.lookup y = some .local ∨ X.fn y = true) (hj : j < μ.length) (hi : μ[i]? = some .dead) (hij : i ≠ j) (hsw : swapsWith (.List es lp) (some (.Name y py)) pos.line X.env = pure false) (hm : mtI xs sc i n mes es = true) (hlen : es.length ≤ 100)
    (hb : ∀ (W' : WX) (pn : List (Addr × Obj)) (xe : Value → Shared → Prop), Takes (X.tr pn xe) W' → PassesOwn (model X.prog X.w) X.A X.env xe → PSs (X.tr pn xe) body (rS c W' μ μb μc msb fr evb))
    (la : LeO μ' μb) (lb : LeO μ' (some ((msets μ msb .dead).set j .imm))) (na : μb = none → ∀ ρ ρ', evb ρ ≠ .nx ρ') :
    PS X (.Try body [.ExceptHandler (some (.Name x np)) (some n) [.Assign [.Name y py] (.List es lp) pos] pos2] [] [] pos3) (rS c W μ μ' μc (msb ++ [i, j]) fr (evTryI q i evb evh)) := by
  obtain ⟨Cq, hmq, hcat⟩ := hxq.catches
  have hsl : mes.length = mes.length := rfl
  let ts : Addr → Value → Option Addr → TS := fun a cls d E σ H => ∃ (x : Nat) (D : Addr), x < 8 ∧ cls = .ref D ∧ d = none ∧ c.mg (excName x) = some (.ref D) ∧ ∃ μ0 ρ F, SR c μ0 ρ σ H F ∧ j < μ0.length ∧ σ[i]? = some (some (.ref a)) ∧
    ∀ σ' H' F', SR c (μ0.set j .imm) (setE ρ j (.lst ((kss mes).map fun ks => .bl (isB ks x)))) σ' H' F' → Same F F' → E.nx σ' H'
  refine (ps_try_as (X := X) (c := .ref Cq) (i := i) (tb := fun W' => rS c W' μ μb μc msb fr evb) (ts := ts) hst hf hNd hN hln ⟨hg, hdb, .inl (by rw [hmg, hxn]; exact hmq)⟩ tk hb (fun a oe cls d pn hz hfl => ⟨?_⟩)).weak ?_
  · intro pins s σ H E I ht
    obtain ⟨x8, D, g1, rfl, rfl, g2, μ0, ρ, F, S, g3, g4, k⟩ := ht
    obtain ⟨p1, p2⟩ := pa_isE (X := X) (a := a) (oe := oe) (pn := pn) (x := x8) (D := D) hK hmg hx h499 hsc hib hN (.inl hln) hd hcd g1 g2 hz hfl mes es hm
    refine (pss_one (ps_set (X := X.suite a ((a, oe) :: pn)) hNd hy hyl (pe_lst p1) hsw hyf.symm)).run pins s σ H E I ?_
    refine ⟨g4, fun H1 s1 => ⟨by rw [List.length_map, List.length_map, ← p2, sizeLine_eq]; omega, fun p hp => ?_⟩⟩
    have hp0 : H p = none := by
      cases q0 : H p with
      | none => rfl
      | some o => rw [s1 _ _ q0] at hp; cases hp
    have hF : F p = none := by
      cases q0 : F p with
      | none => rfl
      | some o => rw [S.sub _ _ q0] at hp0; cases hp0
    have w : Want c .V F H (.lst ((kss mes).map fun ks => .bl (isB ks x8))) (fun v H' => E.nx (σ.set j (some v)) H') := fun v H' F' e r => k _ H' F' ((S.ext e).setV g3 r) (e.frs S.sub)
    have r := rps_bl (c := c) (F := F) ((kss mes).map fun ks => isB ks x8)
    rw [List.map_map] at r
    exact Want.lstAt (H' := upd H1 p _) w ⟨s1.trans (same_new hp), (S.sub.trans s1).trans (same_new hp), fun _ _ => rfl⟩ hp0 hF upd_same r
  · rintro E σ H ⟨ρ, F, S, h⟩
    refine ⟨ρ, F, S, ?_⟩
    have h : FK c W μ μ' μc (msb ++ [i, j]) fr ρ E F (evTryI q i evb evh ρ) := h
    cases q0 : evb ρ with
    | nx ρ2 =>
      have e : evTryI q i evb evh ρ = .nx ρ2 := by unfold evTryI; rw [q0]
      rw [e] at h
      exact FK.other (Same.refl _) la (fun n ρ' z => na n ρ ρ' (by rw [q0]; exact z)) (fun _ _ z => by cases z) h
    | rt d =>
      have e : evTryI q i evb evh ρ = .rt d := by unfold evTryI; rw [q0]
      rw [e] at h; exact h
    | ct ρ2 =>
      have e : evTryI q i evb evh ρ = .ct ρ2 := by unfold evTryI; rw [q0]
      rw [e] at h; exact h
    | stuck =>
      have e : evTryI q i evb evh ρ = .stuck := by unfold evTryI; rw [q0]
      rw [e] at h; exact h
    | exc k r =>
      have e : evTryI q i evb evh ρ = if isCl (.exc k r) q then (if k < 8 then .nx (setE (setE ρ i (.exc k r)) j (.lst ((kss mes).map fun ks => .bl (isB ks k)))) else .stuck) else .exc k r := by
        unfold evTryI; rw [q0]
        simp only [List.any_cons, List.any_nil, Bool.or_false]
        rw [hev ρ k r (by rw [S.lenR]; exact (List.getElem?_eq_some_iff.mp hi).1)]
      rw [e] at h
      intro σ' H' F' cls dx S' e' xr
      obtain ⟨C, rfl, hc, hrow⟩ := xr
      refine ⟨_, (by rw [hK]; exact hcat k r C hc), fun yes a ha => ?_, fun no => ?_⟩
      · rw [if_pos yes] at h
        by_cases k8 : k < 8
        · rw [if_pos k8] at h
          have hdx : dx = none := by rw [if_neg (by omega)] at hrow; exact hrow
          have hid : (msets μ msb .dead)[i]? = some .dead := by
            by_cases hm2 : i ∈ msb
            · have hl : i < (msets μ msb .dead).length := by rw [msets_length]; exact (List.getElem?_eq_some_iff.mp hi).1
              have e := List.getElem?_eq_getElem hl
              rw [e, msets_in hm2 e]
            · rw [msets_out hm2]; exact hi
          have hil : i < σ'.length := by rw [S'.lenS]; exact (List.getElem?_eq_some_iff.mp hid).1
          have hri : i < ρ.length := by rw [S'.lenR]; exact (List.getElem?_eq_some_iff.mp hid).1
          refine ⟨k, C, k8, rfl, hdx, hc, msets μ msb .dead, setE ρ i (.exc k r), F', ?_, by rw [msets_length]; exact hj, by rw [List.getElem?_set_self hil], fun σ2 H2 F2 S2 e2 => ?_⟩
          · refine S'.kill rfl (by simp) (length_setE _ _ _) fun i2 k2 h1 h2 => ?_
            have ne : i ≠ i2 := fun z => by subst z; rw [hid] at h1; cases h1; exact h2 rfl
            exact ⟨h1, List.getElem?_set_ne ne, getE_set_ne (fun z => ne z.symm)⟩
          · have hid2 : ((msets μ msb .dead).set j .imm)[i]? = some .dead := by rw [List.getElem?_set_ne (Ne.symm hij)]; exact hid
            have S3 : SR c ((msets μ msb .dead).set j .imm) (setE (setE ρ i (.exc k r)) j (.lst ((kss mes).map fun ks => .bl (isB ks k)))) (σ2.set i none) H2 F2 := S2.kill rfl (by simp) rfl fun i2 k2 h1 h2 => by
              have ne : i ≠ i2 := fun z => by subst z; rw [hid2] at h1; cases h1; exact h2 rfl
              exact ⟨h1, List.getElem?_set_ne ne, rfl⟩
            cases μ' with
            | none => exact lb.elim
            | some m' => exact h _ H2 F2 (Le.sr lb S3) (e'.trans e2)
        · rw [if_neg k8] at h; exact h.elim
      · rw [if_neg (by rw [no]; decide)] at h
        exact h σ' H' F' _ dx (S'.excTo rfl S.lenR fun i hi => by
          rw [List.mem_append, not_or] at hi
          exact ⟨hi.1, rfl, rfl⟩) e' ⟨C, rfl, hc, hrow⟩
end
end Mi

/-! Mi, part D3: the match is sound: expressions, by recursion. -/
namespace Mi
open PySem L2 PySem.Spec PyProof.Rows

section
variable {X : Cx} {c : Cn} {sc scI : Scope} {sg : Sg} {N : List PySem.Str} {Φ : Phi} {W : WX} {μ : List Md} {m : RM}
theorem pe_tyn {x : PySem.Str} {T : String} {p : Pos} (hg : Gl X x) (hm : X.mg x = none) (hv : bootBuiltins x = some (.type T)) (hn : x ≠ "__name__") (hdb : (x == ("__debug__" : PySem.Str)) = false) : PE X (.Name x p) (tC (.ty T)) :=
  ⟨fun pins s σ H Q I h => ld_blt I hg hm hv ⟨.ty T, H, I, rfl, h⟩ hn hdb⟩
theorem blt_facts {x : PySem.Str} (h : x ∈ bltNames) : x ≠ "__name__" ∧ (x == ("__debug__" : PySem.Str)) = false := by
  have : bltNames.all (fun x => decide (x ≠ "__name__") && !(x == ("__debug__" : PySem.Str))) = true := by decide +kernel
  rw [List.all_eq_true] at this
  have := this x h
  simp only [Bool.and_eq_true, decide_eq_true_eq, Bool.not_eq_true'] at this
  exact this
theorem ty_boot (k : Nat) (h1 : 200 ≤ k) (h2 : k ≤ 204) : bootBuiltins (tyArg k) = some (.type (tyName k)) := by
  have : k = 200 ∨ k = 201 ∨ k = 202 ∨ k = 203 ∨ k = 204 := by omega
  rcases this with rfl | rfl | rfl | rfl | rfl <;> rfl
theorem e_isi {k : Nat} {l : Expr} {eva : Env → R D} {y z : PySem.Str} {p p2 pos : Pos} (G : Gd X c sc scI sg N Φ W) (hy : y = "isinstance") (h1 : 200 ≤ k) (h2 : k ≤ 204) (hz : z = tyArg k) (gy : Gl X y) (gz : Gl X z) (hzb : z ∈ bltNames) (hs : noStar l = true) (ha : PE X l (rE c W μ .B eva)) :
    PE X (.Call (.Name y p) [l, .Name z p2] [] pos) (rE c W μ m fun ρ => (eva ρ).bind fun x => R.of (isiD [k] x)) := by
  subst hy
  have hk : k = 200 ∨ k = 201 ∨ k = 202 ∨ k = 203 ∨ k = 204 := by omega
  obtain ⟨f1, f2⟩ := blt_facts hzb
  have hpz : PE X (.Name z p2) (tC (.ty (tyName k))) := pe_tyn gz (by rw [G.mg]; exact G.blt z hzb) (by rw [hz]; exact ty_boot k h1 h2) f1 f2
  refine (pe_callB (b_isi (m := m) k hk G.K) gy (by rw [G.mg]; exact G.blt _ (by decide +kernel)) (by rfl) (pa_cons ha (pa_cons hpz pa_nil (by rfl)) (star_of hs)) (by decide +kernel) (by decide +kernel) (star_of hs) (by rfl)).weak ?_
  rintro σ H Q ⟨ρ, F, S, h⟩
  refine ⟨ρ, F, S, RK.imp h.bnd fun dx hx => ?_⟩
  intro v H1 F1 e1 r
  obtain ⟨d, e3, hz⟩ := (RK.mono (fun _ => WD.mono e1) hx e1).of
  exact ⟨F1, dx, v, d, rfl, e1.sub, r, e3, hz⟩
theorem tgSlots_lt {T : Tg} {t : Expr} (h : mtTg N sc scI T t = true) : ∀ i ∈ tgSlots T, i < N.length := by
  intro i hi
  cases T with
  | one j =>
    simp only [mtTg, Bool.and_eq_true, decide_eq_true_eq] at h
    have : i = j := by simpa [tgSlots] using hi
    rw [this]; exact h.2
  | many is =>
    cases t <;> simp only [mtTg] at h <;> try contradiction
    simp only [Bool.and_eq_true, decide_eq_true_eq, List.all_eq_true] at h
    exact h.2 i hi
/-- what walks: its evaluation -/
def evI (Φ : Phi) (it : ME) : Env → R (List D) := fun ρ => (evE Φ it ρ).bind fun s => R.of (itemsOf s)
theorem ev_lc (elt : ME) (tg : Tg) (it : ME) (ifs : Option ME) (ρ : Env) : evE Φ (.lc elt tg it ifs) ρ = (evI Φ it ρ).bind fun xs => (noX (compM (turnL tg (evC Φ ifs) (evE Φ elt) ρ) xs)).bind fun ys => if ys.length ≤ lineN then .ok (.lst ys) else .stuck := by
  unfold evI
  rw [R.bind_assoc]
  rfl
theorem srcOf_own {it : ME} : ∀ j ∈ srcOf μ it, μ[j]? = some Md.own := by
  intro j hj
  unfold srcOf at hj
  split at hj
  · split at hj
    · rename_i h
      have e := List.mem_singleton.mp hj
      rw [e]; exact h
    · exact absurd hj List.not_mem_nil
  · exact absurd hj List.not_mem_nil
/-- what is told of an expression: its value; what walks it under a target -/
abbrev Gl2 (X : Cx) (c : Cn) (W : WX) (μ : List Md) (m : RM) (Φ : Phi) (e : ME) (x : Expr) : Option Expr → Prop
  | none => PE X x (rE c W μ m (evE Φ e))
  | some t => m = .V → PI X t x (rI c W μ (srcOf μ e) (evI Φ e))
theorem Gl2.of' {e : ME} {x : Expr} {w : Option Expr} (hK : X.K = c.K) (hs : srcOf μ e = []) (h : PE X x (rE c W μ m (evE Φ e))) : Gl2 X c W μ m Φ e x w := by
  cases w with
  | none => exact h
  | some t =>
    intro hm
    subst hm
    rw [hs]
    exact i_seq hK (by simp) (v_val h)
theorem mtEs_second {es : List ME} {ms : List RM} {l r : Expr} {ls : List Expr} (h : mtEs sg N es sc scI μ ms (l :: r :: ls) = true) : noStar r = true := by
  cases es with
  | nil => unfold mtEs at h; split at h <;> simp_all
  | cons e es =>
    unfold mtEs at h
    split at h
    · rename_i q
      cases q
      simp only [Bool.and_eq_true] at h
      exact mtEs_head h.2
    · cases h
theorem pts_none : PTs X [] (rT c W μ fun _ => .ok true) := by
  refine ⟨fun pins s σ H Q I h => ?_⟩
  obtain ⟨ρ, F, S, h⟩ := h
  exact pts_nil.run pins s σ H Q I (h H F (Ext.refl S.sub))
def plainT : Expr → Bool
  | .Name _ _ => true
  | .Constant _ _ _ => true
  | .BinOp _ _ _ _ => true
  | .UnaryOp .USub _ _ => true
  | .Tuple _ _ _ => true
  | .List _ _ => true
  | .Dict _ _ _ => true
  | .Subscript _ _ _ => true
  | .Call _ _ _ _ => true
  | .ListComp _ _ _ _ => true
  | .Attribute _ _ _ => true
  | _ => false
theorem plainT_of {x : Expr} {env : PySem.Env} (h : plainT x = true) : ∀ whole, isTrue x env whole = (do let v ← whole; standAt x.pos; holding [v] (truthy v)) := by
  intro whole
  cases x <;> first | rfl | (exact absurd h (by decide)) | (simp [plainT] at h; done) | skip
  rename_i op _ _
  cases op <;> first | rfl | (exact absurd h (by simp [plainT]))
theorem tst_of {x : Expr} {e : ME} (h : PE X x (rE c W μ .B (evE Φ e))) (hp : plainT x = true) : PT X x (rT c W μ (asB (evE Φ e))) ∧ ∀ o vs p, x = .BoolOp o vs p → PW X x (rT c W μ (asB (evE Φ e))) :=
  ⟨t_val h (plainT_of hp), fun o vs p q => by rw [q] at hp; cases hp⟩
theorem ev_get1 (a b : ME) : evE Φ (.mth .get a [b]) = fun ρ => (evE Φ a ρ).bind fun x => (R.of (mthRc .get x)).bind fun _ => (evE Φ b ρ).bind fun k => R.of (mthD .get x [k]) := by
  funext ρ
  show ((evE Φ a ρ).bind fun x => (R.of (mthRc .get x)).bind fun _ => ((evE Φ b ρ).bind fun k => R.ok [k]).bind fun xs => R.of (mthD .get x xs)) = _
  simp only [R.bind_assoc, R.ok_bind]
theorem ev_get3 (a b d : ME) : evE Φ (.mth .get3 a [b, d]) = fun ρ => (evE Φ a ρ).bind fun x => (R.of (mthRc .get3 x)).bind fun _ => (evE Φ b ρ).bind fun k => (evE Φ d ρ).bind fun z => R.of (mthD .get3 x [k, z]) := by
  funext ρ
  show ((evE Φ a ρ).bind fun x => (R.of (mthRc .get3 x)).bind fun _ => ((evE Φ b ρ).bind fun k => ((evE Φ d ρ).bind fun z => R.ok [z]).bind fun xs => R.ok (k :: xs)).bind fun xs => R.of (mthD .get3 x xs)) = _
  simp only [R.bind_assoc, R.ok_bind]
theorem ev_sortItems (a : ME) : evE Φ (.blt .sorted [.mth .items a []]) = fun ρ => (evE Φ a ρ).bind fun x => (R.of (mthRc .items x)).bind fun _ => (R.of (mthD .items x [])).bind fun y => R.of (bltD .sorted [y]) := by
  funext ρ
  show ((((evE Φ a ρ).bind fun x => (R.of (mthRc .items x)).bind fun _ => (R.ok []).bind fun xs => R.of (mthD .items x xs)).bind fun d => R.ok [d]).bind fun xs => R.of (bltD .sorted xs)) = _
  simp only [R.bind_assoc, R.ok_bind]
theorem ev_listRev (a : ME) : evE Φ (.blt .listV [a]) = fun ρ => (evE Φ a ρ).bind fun s => (R.of (lstOf s)).bind fun xs => .ok (.lst xs.reverse) := by
  funext ρ
  show (((evE Φ a ρ).bind fun d => R.ok [d]).bind fun xs => R.of (bltD .listV xs)) = _
  simp only [R.bind_assoc, R.ok_bind]
  congr 1
  funext s
  cases s <;> rfl
theorem ev_setSorted (a : ME) : evE Φ (.blt .setsorted [a]) = fun ρ => (evE Φ a ρ).bind fun s => R.of (setSortedD s) := by
  funext ρ
  show (((evE Φ a ρ).bind fun d => R.ok [d]).bind fun xs => R.of (bltD .setsorted xs)) = _
  simp only [R.bind_assoc, R.ok_bind]; rfl
theorem ev_listR (a : ME) : evE Φ (.blt .listR [a]) = fun ρ => (evE Φ a ρ).bind fun s => R.of (listRD s) := by
  funext ρ
  show (((evE Φ a ρ).bind fun d => R.ok [d]).bind fun xs => R.of (bltD .listR xs)) = _
  simp only [R.bind_assoc, R.ok_bind]; rfl
set_option maxHeartbeats 2000000
mutual
theorem sndE : ∀ (e : ME) (X : Cx) (sc scI : Scope) (μ : List Md) (m : RM) (w : Option Expr) (W : WX) (x : Expr), Gd X c sc scI sg N Φ W → mtE sg N e sc scI μ m w x = true → Gl2 X c W μ m Φ e x w
  | .v i, X, sc, scI, μ, m, w, W, x, G, h => by
    unfold mtE at h
    split at h
    · simp only [Bool.and_eq_true] at h
      obtain ⟨h1, h2⟩ := h
      obtain ⟨s1, s2, s3, s4⟩ := slot_of G h1
      split at h2
      · rename_i md q
        split at h2
        · exact e_var s1 s2 s3 s4 q h2
        · intro _
          have hsr : ∀ j ∈ srcOf μ (.v i), μ[j]? = some Md.own := srcOf_own
          rw [Bool.and_eq_true, decide_eq_true_eq, decide_eq_true_eq] at h2
          cases md with
          | dead => exact absurd rfl h2.1
          | io => exact absurd rfl h2.2
          | imm =>
            have : srcOf μ (.v i) = [] := by show (if μ[i]? = some Md.own then [i] else []) = _; rw [q]; rfl
            rw [this]
            exact i_seq G.K (by simp) (v_val (e_var s1 s2 s3 s4 q rfl))
          | own =>
            have : srcOf μ (.v i) = [i] := by show (if μ[i]? = some Md.own then [i] else []) = _; rw [q]; rfl
            rw [this] at hsr ⊢
            exact i_seq G.K hsr (v_own s1 s2 s3 s4 q)
          | bor =>
            have : srcOf μ (.v i) = [] := by show (if μ[i]? = some Md.own then [i] else []) = _; rw [q]; rfl
            rw [this]
            exact i_seq G.K (by simp) (v_bor s1 s2 s3 s4 q)
      · cases h2
    · cases h
  | .int i, X, sc, scI, μ, m, w, W, x, G, h => by
    unfold mtE at h
    split at h
    · have := of_decide_eq_true h
      subst this
      exact Gl2.of' G.K rfl (e_const pe_int (fun F => by simp [Rp]) rfl)
    · cases h
  | .str i, X, sc, scI, μ, m, w, W, x, G, h => by
    unfold mtE at h
    split at h
    · have := of_decide_eq_true h
      subst this
      exact Gl2.of' G.K rfl (e_const pe_str (fun F => by simp [Rp]) rfl)
    · cases h
  | .bl i, X, sc, scI, μ, m, w, W, x, G, h => by
    unfold mtE at h
    split at h
    · have := of_decide_eq_true h
      subst this
      exact Gl2.of' G.K rfl (e_const pe_bl (fun F => by simp [Rp]) rfl)
    · cases h
  | .non, X, sc, scI, μ, m, w, W, x, G, h => by
    unfold mtE at h
    split at h
    · exact Gl2.of' G.K rfl (e_const pe_non (fun F => by simp [Rp]) rfl)
    · cases h
  | .bin o a b, X, sc, scI, μ, m, w, W, x, G, h => by
    unfold mtE at h
    split at h
    · simp only [Bool.and_eq_true, decide_eq_true_eq] at h
      obtain ⟨⟨rfl, h1⟩, h2⟩ := h
      exact Gl2.of' G.K rfl (e_bin (o_bin G.K o) (sndE a X sc scI μ .B none W _ G h1) (sndE b X sc scI μ .B none W _ G h2))
    · cases h
  | .neg a, X, sc, scI, μ, m, w, W, x, G, h => by
    unfold mtE at h
    split at h
    · exact Gl2.of' G.K rfl (e_un o_neg (sndE a X sc scI μ .B none W _ G h))
    · cases h
  | .not a, X, sc, scI, μ, m, w, W, x, G, h => by
    unfold mtE at h
    split at h
    · exact Gl2.of' G.K rfl (e_not (sndE a X sc scI μ .B none W _ G h))
    · cases h
  | .and a b, X, sc, scI, μ, m, w, W, x, G, h => by
    unfold mtE at h
    split at h
    · simp only [Bool.and_eq_true] at h
      obtain ⟨h1, h2⟩ := h
      split at h2
      · exact Gl2.of' G.K rfl (e_and (p2 := ⟨0, 0, 0, 0⟩) (sndE a X sc scI μ .B none W _ G h1) (pe_one (sndE b X sc scI μ m none W _ G h2)))
      · exact Gl2.of' G.K rfl (e_and (p2 := ⟨0, 0, 0, 0⟩) (sndE a X sc scI μ .B none W _ G h1) (sndE b X sc scI μ m none W _ G h2))
    · cases h
  | .or a b, X, sc, scI, μ, m, w, W, x, G, h => by
    unfold mtE at h
    split at h
    · simp only [Bool.and_eq_true] at h
      obtain ⟨h1, h2⟩ := h
      split at h2
      · exact Gl2.of' G.K rfl (e_or (sndE a X sc scI μ .B none W _ G h1) (pe_one (sndE b X sc scI μ m none W _ G h2)))
      · exact Gl2.of' G.K rfl (e_or (sndE a X sc scI μ .B none W _ G h1) (sndE b X sc scI μ m none W _ G h2))
    · cases h
  | .cmp o a b, X, sc, scI, μ, m, w, W, x, G, h => by
    unfold mtE at h
    split at h
    · simp only [Bool.and_eq_true, decide_eq_true_eq] at h
      obtain ⟨⟨⟨rfl, h0⟩, h1⟩, h2⟩ := h
      exact Gl2.of' G.K rfl (e_cmp (o_cmp G.K (Nat.lt_of_le_of_lt (Nat.le_succ _) G.un) o) (sndE a X sc scI μ .B none W _ G h1) (sndE b X sc scI μ .B none W _ G h2) (behind_of h0))
    · cases h
  | .chn o p a b d, X, sc, scI, μ, m, w, W, x, G, h => by
    unfold mtE at h
    split at h
    · simp only [Bool.and_eq_true, decide_eq_true_eq] at h
      obtain ⟨⟨⟨⟨⟨rfl, rfl⟩, h0⟩, h1⟩, h2⟩, h3⟩ := h
      exact Gl2.of' G.K rfl (e_chn (o_cmp G.K (Nat.lt_of_le_of_lt (Nat.le_succ _) G.un) o) (o_cmp G.K (Nat.lt_of_le_of_lt (Nat.le_succ _) G.un) p) (sndE a X sc scI μ .B none W _ G h1) (sndE b X sc scI μ .B none W _ G h2) (sndE d X sc scI μ .B none W _ G h3) (behind_of (op := copOf p) h0))
    · cases h
  | .isN a, X, sc, scI, μ, m, w, W, x, G, h => by
    unfold mtE at h
    split at h
    · exact Gl2.of' G.K rfl (e_isN (sndE a X sc scI μ .B none W _ G h))
    · cases h
  | .nisN a, X, sc, scI, μ, m, w, W, x, G, h => by
    unfold mtE at h
    split at h
    · exact Gl2.of' G.K rfl (e_nisN (sndE a X sc scI μ .B none W _ G h))
    · cases h
  | .tup es, X, sc, scI, μ, m, w, W, x, G, h => by
    unfold mtE at h
    split at h
    · simp only [Bool.and_eq_true, decide_eq_true_eq] at h
      obtain ⟨h1, h2⟩ := h
      have hl := (mtEs_star (env := X.env) h2).2
      exact Gl2.of' G.K rfl (e_tup (sndEs es X sc scI μ _ W _ G h2) (by simp) (by rw [hl]; exact h1) (fun ρ ds q => by rw [evEs_len q, hl]))
    · cases h
  | .lst es, X, sc, scI, μ, m, w, W, x, G, h => by
    unfold mtE at h
    split at h
    · simp only [Bool.and_eq_true, decide_eq_true_eq] at h
      obtain ⟨h1, h2⟩ := h
      have hl := (mtEs_star (env := X.env) h2).2
      exact Gl2.of' G.K rfl (e_lst (sndEs es X sc scI μ _ W _ G h2) (by simp) (by rw [hl]; exact h1) (fun ρ ds q => by rw [evEs_len q, hl]))
    · cases h
  | .dnil, X, sc, scI, μ, m, w, W, x, G, h => by
    unfold mtE at h
    split at h
    · exact Gl2.of' G.K rfl (e_dnil)
    · cases h
  | .idx a b, X, sc, scI, μ, m, w, W, x, G, h => by
    unfold mtE at h
    split at h
    · simp only [Bool.and_eq_true, decide_eq_true_eq] at h
      obtain ⟨⟨⟨h0, h1⟩, h2⟩, h3⟩ := h
      exact Gl2.of' G.K rfl (e_idx (o_idx G.K (Nat.lt_of_le_of_lt (Nat.le_succ _) G.un) h0) (sndE a X sc scI μ .B none W _ G h2) (sndE b X sc scI μ .B none W _ G h3) (slice_of h1))
    · cases h
  | .sl a lo hi, X, sc, scI, μ, m, w, W, x, G, h => by
    unfold mtE at h
    split at h
    · simp only [Bool.and_eq_true] at h
      obtain ⟨⟨h1, h2⟩, h3⟩ := h
      exact Gl2.of' G.K rfl (e_sl G.K (sndE a X sc scI μ .B none W _ G h1) (sndO lo X sc scI μ W _ G h2) (sndO hi X sc scI μ W _ G h3))
    · cases h
  | .call f es, X, sc, scI, μ, m, w, W, x, G, h => by
    unfold mtE at h
    split at h
    · split at h
      · rename_i q
        simp only [Bool.and_eq_true, decide_eq_true_eq, List.all_eq_true, Bool.or_eq_true] at h
        obtain ⟨⟨⟨⟨⟨⟨rfl, h1⟩, h2⟩, h3⟩, h4⟩, h5⟩, h6⟩ := h
        obtain ⟨k, a, fd, ps, F, hr, hm, hk, hb, how⟩ := G.call f _ _ _ q
        have hst := mtEs_star (env := X.env) h6
        have hns := sndEs es X sc scI μ _ W _ G h6
        refine Gl2.of' G.K rfl (e_call (p := _) G.K G.tk F hr (gl_of G h1) (by rw [G.mg]; exact hm) hk hb hns h4 how (fun ρ ds q => by rw [evEs_len q, h3]) (fun e => ?_) (dbg_of h2).1 ?_ ?_)
        · rcases h5 with h5 | h5
          · exact h5
          · exact absurd e h5
        · have := mtEs_head h6
          exact star_of this
        · exact back_of (mtEs_tail h6)
      · cases h
    · cases h
  | .blt b es, X, sc, scI, μ, m, w, W, x, G, h => by
    unfold mtE at h
    split at h
    · simp only [Bool.and_eq_true, decide_eq_true_eq] at h
      obtain ⟨⟨⟨⟨⟨rfl, h1⟩, rfl⟩, h3⟩, h4⟩, h5⟩ := h
      refine Gl2.of' G.K rfl ?_
      rw [ev_sortItems]
      exact e_sortItems G.K G.calm G.un (sndE _ X sc scI μ .B none W _ G h5) (gl_of G h1) (by rw [G.mg]; exact G.blt _ (by decide +kernel)) (sup_of h4) h3
    · simp only [Bool.and_eq_true, decide_eq_true_eq] at h
      obtain ⟨⟨⟨⟨⟨rfl, rfl⟩, h1⟩, h2⟩, h3⟩, h4⟩ := h
      refine Gl2.of' G.K rfl ?_
      rw [ev_listRev]
      exact e_listRev G.K G.calm (gl_of G h1) (by rw [G.mg]; exact G.blt _ (by decide +kernel)) (gl_of G h2) (by rw [G.mg]; exact G.blt _ (by decide +kernel)) (sndE _ X sc scI μ .B none W _ G h4) (star_of h3)
    · simp only [Bool.and_eq_true, decide_eq_true_eq] at h
      obtain ⟨⟨⟨⟨⟨rfl, rfl⟩, h1⟩, h2⟩, h3⟩, h4⟩ := h
      refine Gl2.of' G.K rfl ?_
      rw [ev_listR]
      exact e_listRng G.calm (gl_of G h1) (by rw [G.mg]; exact G.blt _ (by decide +kernel)) (gl_of G h2) (by rw [G.mg]; exact G.blt _ (by decide +kernel)) (sndE _ X sc scI μ .B none W _ G h4) (star_of h3)
    · simp only [Bool.and_eq_true, decide_eq_true_eq] at h
      obtain ⟨⟨⟨⟨⟨rfl, rfl⟩, h1⟩, h2⟩, h3⟩, h4⟩ := h
      refine Gl2.of' G.K rfl ?_
      rw [ev_setSorted]
      exact e_setSorted G.K G.calm (gl_of G h1) (by rw [G.mg]; exact G.blt _ (by decide +kernel)) (gl_of G h2) (by rw [G.mg]; exact G.blt _ (by decide +kernel)) (sndE _ X sc scI μ .B none W _ G h4) (star_of h3)
    · simp only [Bool.and_eq_true, decide_eq_true_eq] at h
      obtain ⟨⟨⟨⟨rfl, h1⟩, h2⟩, h3⟩, h4⟩ := h
      obtain ⟨f1, f2⟩ := blt_facts h1
      have hm : X.mg (bltName b) = none := by rw [G.mg]; exact G.blt _ h1
      rcases blt_of (m := m) G b h1 with ⟨id, hv, ho⟩ | ⟨id, hv, ho⟩
      · exact Gl2.of' G.K rfl (e_blt ho (gl_of G h2) hm hv (sndEs es X sc scI μ _ W _ G h4) (by simp) f1 f2 (star_of (mtEs_head h4)) (back_of (mtEs_tail h4)))
      · exact Gl2.of' G.K rfl (e_bty ho (gl_of G h2) hm hv (sndEs es X sc scI μ _ W _ G h4) (by simp) f1 f2 (star_of (mtEs_head h4)) (back_of (mtEs_tail h4)))
    · cases h
  | .lc elt tg it ifs, X, sc, scI, μ, m, w, W, x, G, h => by
    unfold mtE at h
    split at h
    · simp only [Bool.and_eq_true, decide_eq_true_eq, List.all_eq_true, Bool.not_eq_true', decide_eq_false_iff_not] at h
      obtain ⟨⟨⟨⟨⟨⟨⟨⟨h1, h2⟩, h3⟩, h4⟩, h5⟩, h6⟩, h7⟩, h8⟩, h9⟩ := h
      have ev : evE Φ (.lc elt tg it ifs) = fun ρ => (evI Φ it ρ).bind fun xs => (noX (compM (turnL tg (evC Φ ifs) (evE Φ elt) ρ) xs)).bind fun ys => if ys.length ≤ lineN then .ok (.lst ys) else .stuck := funext fun ρ => ev_lc elt tg it ifs ρ
      refine Gl2.of' G.K rfl ?_
      rw [ev]
      refine e_lc (own := ownOf N _) (g := gOf c.K tg) G.calm (by rw [G.names]; exact G.nd) (sndE it X sc scI μ .V (some _) W _ G h7 rfl) ?_ ?_ h4 (fun j hj => ⟨srcOf_own j hj, h5 j hj⟩) (fun s H C cl fp => ?_) (fun s H C cl fp => ?_) (fun s H C cl fp => ?_) (folded_of h1)
      · rw [G.names, G.sc]; exact blkOk_by h2
      · rw [h6]
        exact tgS_of h3
      · exact tg_of (G.blk s H _ (blkOk_by h2).kind C cl fp) h3
      · exact sndC ifs _ _ _ _ W0 _ (G.blk s H _ (blkOk_by h2).kind C cl fp) h9
      · exact sndE elt _ _ _ _ .V none W0 _ (G.blk s H _ (blkOk_by h2).kind C cl fp) h8
    · cases h
  | .isi a ks, X, sc, scI, μ, m, w, W, x, G, h => by
    unfold mtE at h
    split at h
    · split at h
      · simp only [Bool.and_eq_true, decide_eq_true_eq] at h
        obtain ⟨⟨⟨⟨⟨⟨⟨⟨h1, h2⟩, h3⟩, h4⟩, h5⟩, h6⟩, h7⟩, h8⟩, h9⟩ := h
        exact Gl2.of' G.K rfl (e_isi G h1 h2 h3 h4 (gl_of G h5) (gl_of G h6) h7 h8 (sndE a X sc scI μ .B none W _ G h9))
      · cases h
    · cases h
  | .glob y d, X, sc, scI, μ, m, w, W, x, G, h => by
    unfold mtE at h
    split at h
    · simp only [Bool.and_eq_true, decide_eq_true_eq, List.any_eq_true] at h
      obtain ⟨⟨⟨rfl, h1⟩, h2⟩, p, h3, h4, h5⟩ := h
      obtain rfl := eqG_inv h5
      obtain ⟨q1, q2⟩ := p
      have h4 : q1 = _ := h4
      subst h4
      exact Gl2.of' G.K rfl (e_glob G.K G.mg (gl_of G h1) (dbg_of h2).1 (G.gls _ h3))
    · cases h
  | .isB a b, X, sc, scI, μ, m, w, W, x, G, h => by
    unfold mtE at h
    split at h
    · simp only [Bool.and_eq_true, decide_eq_true_eq] at h
      obtain ⟨rfl, h1⟩ := h
      exact Gl2.of' G.K rfl (e_isB (sndE a X sc scI μ .B none W _ G h1))
    · cases h
  | .nisB a b, X, sc, scI, μ, m, w, W, x, G, h => by
    unfold mtE at h
    split at h
    · simp only [Bool.and_eq_true, decide_eq_true_eq] at h
      obtain ⟨rfl, h1⟩ := h
      exact Gl2.of' G.K rfl (e_nisB (sndE a X sc scI μ .B none W _ G h1))
    · cases h
  | .sls a lo k, X, sc, scI, μ, m, w, W, x, G, h => by
    unfold mtE at h
    split at h
    · simp only [Bool.and_eq_true] at h
      obtain ⟨⟨h1, h2⟩, h3⟩ := h
      exact Gl2.of' G.K rfl (e_sls G.K (sndE a X sc scI μ .B none W _ G h1) (sndE lo X sc scI μ .B none W _ G h2) (sndE k X sc scI μ .B none W _ G h3))
    · cases h
  | .mth k a es, X, sc, scI, μ, m, w, W, x, G, h => by
    unfold mtE at h
    split at h
    · simp only [Bool.and_eq_true, decide_eq_true_eq] at h
      obtain ⟨⟨⟨⟨⟨⟨rfl, h1⟩, h2⟩, h3⟩, h4⟩, h5⟩, h6⟩ := h
      refine Gl2.of' G.K rfl ?_
      rw [ev_get1]
      exact (e_get1 (Nat.lt_of_le_of_lt (Nat.add_le_add_left (by decide) _) G.un) h4 (sndE a X sc scI μ .B none W _ G h5) (sndE _ X sc scI μ .B none W _ G h6) (m1_of h2 h1 h3))
    · simp only [Bool.and_eq_true, decide_eq_true_eq] at h
      obtain ⟨⟨⟨⟨⟨⟨⟨⟨rfl, h1⟩, h2⟩, h3⟩, h4⟩, h5⟩, h6⟩, h7⟩, h8⟩ := h
      refine Gl2.of' G.K rfl ?_
      rw [ev_get3]
      exact (e_get2 (Nat.lt_of_le_of_lt (Nat.add_le_add_left (by decide) _) G.un) h5 (sndE a X sc scI μ .B none W _ G h6) (sndE _ X sc scI μ .B none W _ G h7) (sndE _ X sc scI μ .V none W _ G h8) (m2_of h2 h1 h3 h4))
    · cases h
  | .dks _, X, sc, scI, μ, m, w, W, x, G, h => by cases h
  | .fld a k, X, sc, scI, μ, m, w, W, x, G, h => by
    unfold mtE at h
    split at h
    · simp only [Bool.and_eq_true, Bool.or_eq_true, decide_eq_true_eq] at h
      obtain ⟨⟨⟨⟨⟨h1, h2⟩, h3⟩, h4⟩, h5⟩, h6⟩ := h
      exact Gl2.of' G.K rfl (e_fld G.K (by omega) h2 (G.cls _ h3) h5 (sndE a X sc scI μ .B none W _ G h6) (sup_of h4))
    · cases h
  | .mk k es, X, sc, scI, μ, m, w, W, x, G, h => by
    unfold mtE at h
    split at h
    · simp only [Bool.and_eq_true, decide_eq_true_eq] at h
      obtain ⟨⟨⟨h1, h2⟩, h3⟩, h4⟩ := h
      obtain ⟨j, C, f, fd, g1, g2, g3, g4, g5⟩ := G.mks k h1
      exact Gl2.of' G.K rfl (e_mk (G.cls k h1).le h2 G.K G.mg (by rw [G.K]; exact g1) g2 g3 (gl_of G h3) g4 g5 (sndEs es X sc scI μ _ W _ G h4) (fun _ _ _ => trivial) (star_of (mtEs_head h4)) (back_of (mtEs_tail h4)))
    · cases h
  | .rng es, X, sc, scI, μ, m, w, W, x, G, h => by
    unfold mtE at h
    split at h
    · simp only [Bool.and_eq_true, decide_eq_true_eq] at h
      obtain ⟨⟨rfl, h1⟩, h2⟩ := h
      intro _
      exact i_rng1 (gl_of G h1) (by rw [G.mg]; exact G.blt _ (by decide +kernel)) (sndEs es X sc scI μ _ W _ G h2) (star_of (mtEs_head h2)) (fun ρ ds q => by
        rw [evEs_len q, ← (mtEs_star (env := X.env) h2).2]; rfl)
    · simp only [Bool.and_eq_true, decide_eq_true_eq] at h
      obtain ⟨⟨rfl, h1⟩, h2⟩ := h
      intro _
      have hr := mtEs_second h2
      exact i_rng2 (gl_of G h1) (by rw [G.mg]; exact G.blt _ (by decide +kernel)) (sndEs es X sc scI μ _ W _ G h2) ((star_of (mtEs_head h2)).trans (by rw [star_of hr]; rfl)) (star_of hr) (fun ρ ds q => by
        rw [evEs_len q, ← (mtEs_star (env := X.env) h2).2]; rfl)
    · cases h
  | .enm a, X, sc, scI, μ, m, w, W, x, G, h => by
    unfold mtE at h
    split at h
    · simp only [Bool.and_eq_true, decide_eq_true_eq] at h
      obtain ⟨⟨⟨rfl, h1⟩, h2⟩, h3⟩ := h
      intro _
      exact i_enm (src := []) G.K (by simp) (gl_of G h1) (by rw [G.mg]; exact G.blt _ (by decide +kernel)) (v_val (sndE a X sc scI μ .V none W _ G h3)) (star_of h2)
    · cases h
  | .rvs a, X, sc, scI, μ, m, w, W, x, G, h => by
    unfold mtE at h
    split at h
    · simp only [Bool.and_eq_true, decide_eq_true_eq] at h
      obtain ⟨⟨⟨rfl, h1⟩, h2⟩, h3⟩ := h
      intro _
      exact i_rvs (src := []) G.K (by simp) (gl_of G h1) (by rw [G.mg]; exact G.blt _ (by decide +kernel)) (v_val (sndE a X sc scI μ .V none W _ G h3)) (star_of h2)
    · cases h
  | .zp a b, X, sc, scI, μ, m, w, W, x, G, h => by
    unfold mtE at h
    split at h
    · simp only [Bool.and_eq_true, decide_eq_true_eq] at h
      obtain ⟨⟨⟨⟨⟨rfl, h1⟩, h2⟩, h3⟩, h4⟩, h5⟩ := h
      intro _
      exact i_zip (src := []) (src2 := []) G.K (by simp) (by simp) (gl_of G h1) (by rw [G.mg]; exact G.blt _ (by decide +kernel)) (v_val (sndE a X sc scI μ .V none W _ G h4)) (v_val (sndE b X sc scI μ .V none W _ G h5)) ((star_of h2).trans (by rw [star_of h3]; rfl)) (star_of h3)
    · cases h
theorem sndEs : ∀ (es : List ME) (X : Cx) (sc scI : Scope) (μ : List Md) (ms : List RM) (W : WX) (xs : List Expr), Gd X c sc scI sg N Φ W → mtEs sg N es sc scI μ ms xs = true → PA X xs (rA c W μ ms (evEs Φ es))
  | [], X, sc, scI, μ, ms, W, xs, G, h => by
    unfold mtEs at h
    split at h
    · exact a_nil
    · cases h
  | e :: es, X, sc, scI, μ, ms, W, xs, G, h => by
    unfold mtEs at h
    split at h
    · simp only [Bool.and_eq_true] at h
      obtain ⟨⟨h1, h2⟩, h3⟩ := h
      exact a_cons (sndE e X sc scI μ _ none W _ G h2) (sndEs es X sc scI μ _ W _ G h3) (star_of h1)
    · cases h
theorem sndO : ∀ (o : Option ME) (X : Cx) (sc scI : Scope) (μ : List Md) (W : WX) (x : Option Expr), Gd X c sc scI sg N Φ W → mtO sg N o sc scI μ x = true → PO X x (rO c W μ (evO Φ o))
  | none, X, sc, scI, μ, W, x, G, h => by
    unfold mtO at h
    split at h
    · exact o_none
    · cases h
  | some e, X, sc, scI, μ, W, x, G, h => by
    unfold mtO at h
    split at h
    · cases h
    · exact o_some (sndE e X sc scI μ .B none W _ G h)
theorem sndC : ∀ (o : Option ME) (X : Cx) (sc scI : Scope) (μ : List Md) (W : WX) (xs : List Expr), Gd X c sc scI sg N Φ W → mtC sg N o sc scI μ xs = true → PTs X xs (rT c W μ (evC Φ o))
  | none, X, sc, scI, μ, W, x, G, h => by
    unfold mtC at h
    split at h
    · exact pts_none
    · cases h
  | some e, X, sc, scI, μ, W, x, G, h => by
    unfold mtC at h
    split at h
    · exact pts_one (sndT e X sc scI μ W _ G h).1
    · cases h
/-- as a test -/
theorem sndT : ∀ (e : ME) (X : Cx) (sc scI : Scope) (μ : List Md) (W : WX) (x : Expr), Gd X c sc scI sg N Φ W → mtE sg N e sc scI μ .B none x = true → PT X x (rT c W μ (asB (evE Φ e))) ∧ ∀ o vs p, x = .BoolOp o vs p → PW X x (rT c W μ (asB (evE Φ e)))
  | .not a, X, sc, scI, μ, W, x, G, h => by
    unfold mtE at h
    split at h
    · exact ⟨t_not (sndT a X sc scI μ W _ G h).1, fun _ _ _ e => by cases e⟩
    · cases h
  | .and a b, X, sc, scI, μ, W, x, G, h => by
    unfold mtE at h
    split at h
    · simp only [Bool.and_eq_true] at h
      obtain ⟨h1, h2⟩ := h
      refine (fun k => ⟨PW.pt k, fun _ _ _ _ => k⟩ : PW X _ (rT c W μ (asB (evE Φ (.and a b)))) → _) ?_
      · split at h2
        · exact t_and (sndT a X sc scI μ W _ G h1).1 (pw_and1 (sndT b X sc scI μ W _ G h2).1)
        · exact t_and (sndT a X sc scI μ W _ G h1).1 ((sndT b X sc scI μ W _ G h2).2 _ _ _ rfl)
    · cases h
  | .or a b, X, sc, scI, μ, W, x, G, h => by
    unfold mtE at h
    split at h
    · simp only [Bool.and_eq_true] at h
      obtain ⟨h1, h2⟩ := h
      refine (fun k => ⟨PW.pt k, fun _ _ _ _ => k⟩ : PW X _ (rT c W μ (asB (evE Φ (.or a b)))) → _) ?_
      · split at h2
        · exact t_or (sndT a X sc scI μ W _ G h1).1 (pw_or1 (sndT b X sc scI μ W _ G h2).1)
        · exact t_or (sndT a X sc scI μ W _ G h1).1 ((sndT b X sc scI μ W _ G h2).2 _ _ _ rfl)
    · cases h
  | .cmp o a b, X, sc, scI, μ, W, x, G, h => by
    unfold mtE at h
    split at h
    · simp only [Bool.and_eq_true, decide_eq_true_eq] at h
      obtain ⟨⟨⟨rfl, h0⟩, h1⟩, h2⟩ := h
      exact ⟨t_cmp (o_cmp G.K (Nat.lt_of_le_of_lt (Nat.le_succ _) G.un) o) (sndE a X sc scI μ .B none W _ G h1) (sndE b X sc scI μ .B none W _ G h2) (behind_of h0), fun _ _ _ e => by cases e⟩
    · cases h
  | .chn o p a b d, X, sc, scI, μ, W, x, G, h => by
    unfold mtE at h
    split at h
    · simp only [Bool.and_eq_true, decide_eq_true_eq] at h
      obtain ⟨⟨⟨⟨⟨rfl, rfl⟩, h0⟩, h1⟩, h2⟩, h3⟩ := h
      exact ⟨t_chn (o_cmp G.K (Nat.lt_of_le_of_lt (Nat.le_succ _) G.un) o) (o_cmp G.K (Nat.lt_of_le_of_lt (Nat.le_succ _) G.un) p) (sndE a X sc scI μ .B none W _ G h1) (sndE b X sc scI μ .B none W _ G h2) (sndE d X sc scI μ .B none W _ G h3) (behind_of (op := copOf p) h0), fun _ _ _ e => by cases e⟩
    · cases h
  | .isN a, X, sc, scI, μ, W, x, G, h => by
    unfold mtE at h
    split at h
    · exact ⟨t_isN (sndE a X sc scI μ .B none W _ G h), fun _ _ _ e => by cases e⟩
    · cases h
  | .nisN a, X, sc, scI, μ, W, x, G, h => by
    unfold mtE at h
    split at h
    · exact ⟨t_nisN (sndE a X sc scI μ .B none W _ G h), fun _ _ _ e => by cases e⟩
    · cases h
  | .v i, X, sc, scI, μ, W, x, G, h => tst_of (sndE (.v i) X sc scI μ .B none W _ G h) (by unfold mtE at h; split at h <;> first | rfl | cases h)
  | .int i, X, sc, scI, μ, W, x, G, h => tst_of (sndE (.int i) X sc scI μ .B none W _ G h) (by unfold mtE at h; split at h <;> first | rfl | cases h)
  | .str i, X, sc, scI, μ, W, x, G, h => tst_of (sndE (.str i) X sc scI μ .B none W _ G h) (by unfold mtE at h; split at h <;> first | rfl | cases h)
  | .bl b, X, sc, scI, μ, W, x, G, h => tst_of (sndE (.bl b) X sc scI μ .B none W _ G h) (by unfold mtE at h; split at h <;> first | rfl | cases h)
  | .non, X, sc, scI, μ, W, x, G, h => tst_of (sndE (.non) X sc scI μ .B none W _ G h) (by unfold mtE at h; split at h <;> first | rfl | cases h)
  | .bin o a b, X, sc, scI, μ, W, x, G, h => tst_of (sndE (.bin o a b) X sc scI μ .B none W _ G h) (by unfold mtE at h; split at h <;> first | rfl | cases h)
  | .neg a, X, sc, scI, μ, W, x, G, h => tst_of (sndE (.neg a) X sc scI μ .B none W _ G h) (by unfold mtE at h; split at h <;> first | rfl | cases h)
  | .tup es, X, sc, scI, μ, W, x, G, h => tst_of (sndE (.tup es) X sc scI μ .B none W _ G h) (by unfold mtE at h; split at h <;> first | rfl | cases h)
  | .lst es, X, sc, scI, μ, W, x, G, h => tst_of (sndE (.lst es) X sc scI μ .B none W _ G h) (by unfold mtE at h; split at h <;> first | rfl | cases h)
  | .dnil, X, sc, scI, μ, W, x, G, h => tst_of (sndE (.dnil) X sc scI μ .B none W _ G h) (by unfold mtE at h; split at h <;> first | rfl | cases h)
  | .idx a b, X, sc, scI, μ, W, x, G, h => tst_of (sndE (.idx a b) X sc scI μ .B none W _ G h) (by unfold mtE at h; split at h <;> first | rfl | cases h)
  | .sl a lo hi, X, sc, scI, μ, W, x, G, h => tst_of (sndE (.sl a lo hi) X sc scI μ .B none W _ G h) (by unfold mtE at h; split at h <;> first | rfl | cases h)
  | .call f es, X, sc, scI, μ, W, x, G, h => tst_of (sndE (.call f es) X sc scI μ .B none W _ G h) (by unfold mtE at h; split at h <;> first | rfl | cases h)
  | .blt b es, X, sc, scI, μ, W, x, G, h => tst_of (sndE (.blt b es) X sc scI μ .B none W _ G h) (by unfold mtE at h; split at h <;> first | rfl | cases h)
  | .lc elt tg it ifs, X, sc, scI, μ, W, x, G, h => tst_of (sndE (.lc elt tg it ifs) X sc scI μ .B none W _ G h) (by unfold mtE at h; split at h <;> first | rfl | cases h)
  | .isi a ks, X, sc, scI, μ, W, x, G, h => tst_of (sndE (.isi a ks) X sc scI μ .B none W _ G h) (by unfold mtE at h; split at h <;> first | rfl | cases h)
  | .glob y d, X, sc, scI, μ, W, x, G, h => tst_of (sndE (.glob y d) X sc scI μ .B none W _ G h) (by unfold mtE at h; split at h <;> first | rfl | cases h)
  | .isB a b, X, sc, scI, μ, W, x, G, h => by
    unfold mtE at h
    split at h
    · simp only [Bool.and_eq_true, decide_eq_true_eq] at h
      obtain ⟨rfl, h1⟩ := h
      exact ⟨t_isB (sndE a X sc scI μ .B none W _ G h1), fun _ _ _ e => by cases e⟩
    · cases h
  | .nisB a b, X, sc, scI, μ, W, x, G, h => by
    unfold mtE at h
    split at h
    · simp only [Bool.and_eq_true, decide_eq_true_eq] at h
      obtain ⟨rfl, h1⟩ := h
      exact ⟨t_nisB (sndE a X sc scI μ .B none W _ G h1), fun _ _ _ e => by cases e⟩
    · cases h
  | .sls a lo k, X, sc, scI, μ, W, x, G, h => tst_of (sndE (.sls a lo k) X sc scI μ .B none W _ G h) (by unfold mtE at h; split at h <;> first | rfl | cases h)
  | .mth k a es, X, sc, scI, μ, W, x, G, h => tst_of (sndE (.mth k a es) X sc scI μ .B none W _ G h) (by unfold mtE at h; split at h <;> first | rfl | cases h)
  | .dks _, X, sc, scI, μ, W, x, G, h => by cases h
  | .fld a k, X, sc, scI, μ, W, x, G, h => tst_of (sndE (.fld a k) X sc scI μ .B none W _ G h) (by unfold mtE at h; split at h <;> first | rfl | cases h)
  | .mk k es, X, sc, scI, μ, W, x, G, h => tst_of (sndE (.mk k es) X sc scI μ .B none W _ G h) (by unfold mtE at h; split at h <;> first | rfl | cases h)
  | .rng es, X, sc, scI, μ, W, x, G, h => by unfold mtE at h; split at h <;> first | cases h | (rename_i q; cases q)
  | .enm a, X, sc, scI, μ, W, x, G, h => by unfold mtE at h; split at h <;> first | cases h | (rename_i q; cases q)
  | .rvs a, X, sc, scI, μ, W, x, G, h => by unfold mtE at h; split at h <;> first | cases h | (rename_i q; cases q)
  | .zp a b, X, sc, scI, μ, W, x, G, h => by unfold mtE at h; split at h <;> first | cases h | (rename_i q; cases q)
end
end
end Mi

/-! Mi, part E: the match of statements. -/
namespace Mi
open PySem L2 PySem.Spec PyProof.Rows

def noComp : Expr → Bool
  | .ListComp _ _ _ _ => false
  | .SetComp _ _ _ _ => false
  | .DictComp _ _ _ _ _ => false
  | _ => true
def noTupX : Expr → Bool
  | .Tuple _ _ _ => false
  | _ => true
theorem swaps_of {e : Expr} {t : Option Expr} {l : Nat} {env : PySem.Env} (h : noComp e = true) : swapsWith e t l env = pure false := by
  cases e <;> first | rfl | (simp [noComp] at h)
theorem solo_of {e : Expr} {l : Nat} {env : PySem.Env} {ts : List Expr} {k : Nat} {p : Pos} : swapsWithSole [.Tuple ts k p] e l env = pure false := by
  cases e <;> rfl
theorem soloS_of {e a b : Expr} {l : Nat} {env : PySem.Env} {p : Pos} : swapsWithSole [.Subscript a b p] e l env = pure false := by
  cases e <;> rfl
theorem stores_of {e : Expr} {env : PySem.Env} {ts : List Expr} {k : Nat} {p : Pos} (h : noTupX e = true) : swappedStores [.Tuple ts k p] e env = pure none := by
  cases e <;> first | rfl | (simp [noTupX] at h)
theorem storesS_of {e a b : Expr} {env : PySem.Env} {p : Pos} : swappedStores [.Subscript a b p] e env = pure none := by
  cases e <;> rfl
theorem asgSub_of {a b : Expr} {p : Pos} {env : PySem.Env} (h : noSlice b = true) : ∀ v, assign (.Subscript a b p) env v = (do
      let ov ← holding [v] (eval a env)
      let iv ← holding [v, ov] (eval b env)
      standAt p
      holding [v, ov, iv] (setItem ov iv v)
      release [v, ov, iv] []) := by
  intro v
  cases b <;> first | rfl | (simp [noSlice] at h)
/-- a comprehension's store on one line, into a local that is not the block's own -/
def swB (sc scope : Scope) (y : PySem.Str) (py pos : Pos) : Bool := decide (sc.names.lookup y = some .local) && (py.line == pos.line) && !(scope.names.any fun (n, k) => n == y && (k == .local || k == .cell))
theorem sw_no {elt : Expr} {gs : List Comprehension} {sc scope : Scope} {pos py : Pos} {y : PySem.Str} {l : Nat} {env : PySem.Env} (he : env.scope = sc) (h : swB sc scope y py pos = false) : swapsWith (.ListComp elt gs scope pos) (some (.Name y py)) l env = pure false := by
  have : (env.blockKind == .function && env.kindOf y == some .local && py.line == pos.line && !(scope.names.any fun (n, k) => n == y && (k == .local || k == .cell))) = false := by
    unfold swB at h
    by_cases h1 : sc.names.lookup y = some .local
    · rw [decide_eq_true h1, Bool.true_and] at h
      rw [Bool.and_assoc, h, Bool.and_false]
    · have : (env.kindOf y == some NameKind.local) = false := by
        rw [beq_eq_false_iff_ne]
        show env.scope.names.lookup y ≠ _
        rw [he]; exact h1
      rw [this, Bool.and_false, Bool.false_and, Bool.false_and]
  show (pure (env.blockKind == .function && env.kindOf y == some .local && py.line == pos.line && !(scope.names.any fun (n, k) => n == y && (k == .local || k == .cell))) : Sem Bool) = _
  rw [this]
def mtStore (N : List PySem.Str) (sc : Scope) (i : Nat) (y : PySem.Str) : Bool := decide (N[i]? = some y) && (decide (sc.names.lookup y = some .local) || decide (sc.names.lookup y = some .cell))
def agree (ms : List Nat) (μ μ1 : List Md) : Bool := decide (μ1.length = μ.length) && (List.range μ.length).all fun i => decide (i ∈ ms) || decide (μ1[i]? = μ[i]?)
def leB (a b : List Md) : Bool := decide (a.length = b.length) && (List.range a.length).all fun i => decide (a[i]? = some .dead) || decide (b[i]? = a[i]?)
def meetL : List Md → List Md → List Md
  | x :: xs, y :: ys => (if x = y then x else .dead) :: meetL xs ys
  | _, _ => []
def meetO : Option (List Md) → Option (List Md) → Option (List Md)
  | some a, some b => some (meetL a b)
  | some a, none => some a
  | none, o => o
def leO : Option (List Md) → Option (List Md) → Bool
  | some a, some b => leB a b
  | _, none => true
  | none, some _ => false
theorem Le.of {a b : List Md} (h : leB a b = true) : Le a b := by
  unfold leB at h
  simp only [Bool.and_eq_true, decide_eq_true_eq, List.all_eq_true, List.mem_range, Bool.or_eq_true] at h
  refine ⟨h.1, fun i k h1 h2 => ?_⟩
  have hi : i < a.length := (List.getElem?_eq_some_iff.mp h1).1
  rcases h.2 i hi with q | q
  · rw [h1] at q; cases q; exact absurd rfl h2
  · rw [q, h1]
theorem LeO.of {a b : Option (List Md)} (h : leO a b = true) : LeO a b := by
  cases a <;> cases b <;> simp only [leO] at h <;> first | trivial | (exact Le.of h) | cases h

/-- a constant -/
def isConst : ME → Expr → Bool
  | .int i, .Constant (.int j) _ _ => decide (i = j)
  | .str i, .Constant (.str j) _ _ => decide (i = j)
  | .bl i, .Constant (.bool j) _ _ => decide (i = j)
  | .non, .Constant .none _ _ => true
  | _, _ => false
mutual
/-- it calls nothing, and reads none of these slots -/
def stab (bad : List Nat) : ME → Bool
  | .v j => !decide (j ∈ bad)
  | .int _ => true
  | .str _ => true
  | .bl _ => true
  | .non => true
  | .glob _ _ => true
  | .bin _ a b => stab bad a && stab bad b
  | .neg a => stab bad a
  | .cmp _ a b => stab bad a && stab bad b
  | .idx a b => stab bad a && stab bad b
  | .fld a _ => stab bad a
  | .tup es => stabs bad es
  | .lst es => stabs bad es
  | .blt _ es => stabs bad es
  | _ => false
def stabs (bad : List Nat) : List ME → Bool
  | [] => true
  | e :: es => stab bad e && stabs bad es
end
section
variable {Φ : Phi} {bad : List Nat} {ρ ρ' : Env}
mutual
theorem stab_agree (h : ∀ j, j ∉ bad → getE ρ' j = getE ρ j) : ∀ e : ME, stab bad e = true → evE Φ e ρ' = evE Φ e ρ
  | .v j, k => h j (by simpa [stab] using k)
  | .int _, _ => rfl
  | .str _, _ => rfl
  | .bl _, _ => rfl
  | .non, _ => rfl
  | .glob _ _, _ => rfl
  | .bin o a b, k => by
    simp only [stab, Bool.and_eq_true] at k
    simp only [evE, stab_agree h a k.1, stab_agree h b k.2]
  | .neg a, k => by
    simp only [stab] at k
    simp only [evE, stab_agree h a k]
  | .cmp o a b, k => by
    simp only [stab, Bool.and_eq_true] at k
    simp only [evE, stab_agree h a k.1, stab_agree h b k.2]
  | .idx a b, k => by
    simp only [stab, Bool.and_eq_true] at k
    simp only [evE, stab_agree h a k.1, stab_agree h b k.2]
  | .fld a _, k => by
    simp only [stab] at k
    simp only [evE, stab_agree h a k]
  | .tup es, k => by
    simp only [stab] at k
    simp only [evE, stabs_agree h es k]
  | .lst es, k => by
    simp only [stab] at k
    simp only [evE, stabs_agree h es k]
  | .blt _ es, k => by
    simp only [stab] at k
    simp only [evE, stabs_agree h es k]
  | .not _, k => by simp [stab] at k
  | .and _ _, k => by simp [stab] at k
  | .or _ _, k => by simp [stab] at k
  | .chn _ _ _ _ _, k => by simp [stab] at k
  | .isN _, k => by simp [stab] at k
  | .nisN _, k => by simp [stab] at k
  | .isB _ _, k => by simp [stab] at k
  | .nisB _ _, k => by simp [stab] at k
  | .dnil, k => by simp [stab] at k
  | .sl _ _ _, k => by simp [stab] at k
  | .sls _ _ _, k => by simp [stab] at k
  | .call _ _, k => by simp [stab] at k
  | .mth _ _ _, k => by simp [stab] at k
  | .lc _ _ _ _, k => by simp [stab] at k
  | .rng _, k => by simp [stab] at k
  | .enm _, k => by simp [stab] at k
  | .zp _ _, k => by simp [stab] at k
  | .rvs _, k => by simp [stab] at k
  | .dks _, k => by simp [stab] at k
  | .isi _ _, k => by simp [stab] at k
  | .mk _ _, k => by simp [stab] at k
theorem stabs_agree (h : ∀ j, j ∉ bad → getE ρ' j = getE ρ j) : ∀ es : List ME, stabs bad es = true → evEs Φ es ρ' = evEs Φ es ρ
  | [], _ => rfl
  | e :: es, k => by
    simp only [stabs, Bool.and_eq_true] at k
    simp only [evEs, stab_agree h e k.1, stabs_agree h es k.2]
end
theorem bind_noexc {α β : Type} {x : R α} {f : α → R β} {k : Nat} {r : Int} (h : x ≠ .exc k r) (g : ∀ a, f a ≠ .exc k r) : x.bind f ≠ .exc k r := by
  cases x with
  | ok a => exact g a
  | exc a b => intro z; cases z; exact h rfl
  | stuck => exact fun z => by cases z
theorem of_noexc {α : Type} {o : Option α} {k : Nat} {r : Int} : R.of o ≠ .exc k r := by cases o <;> exact fun z => by cases z
theorem getE_noexc {k : Nat} {r : Int} : ∀ (ρ : Env) (j : Nat), getE ρ j ≠ .exc k r
  | [], _ => fun z => by cases z
  | x :: _, 0 => of_noexc
  | _ :: ρ, j + 1 => getE_noexc ρ j
mutual
theorem stab_noexc {k : Nat} {r : Int} : ∀ e : ME, stab bad e = true → evE Φ e ρ ≠ .exc k r
  | .v j, _ => getE_noexc _ _
  | .int _, _ => fun z => by cases z
  | .str _, _ => fun z => by cases z
  | .bl _, _ => fun z => by cases z
  | .non, _ => fun z => by cases z
  | .glob _ _, _ => fun z => by cases z
  | .bin o a b, k => by
    simp only [stab, Bool.and_eq_true] at k
    simp only [evE]
    exact bind_noexc (stab_noexc a k.1) fun _ => bind_noexc (stab_noexc b k.2) fun _ => of_noexc
  | .neg a, k => by
    simp only [stab] at k
    simp only [evE]
    exact bind_noexc (stab_noexc a k) fun _ => of_noexc
  | .cmp o a b, k => by
    simp only [stab, Bool.and_eq_true] at k
    simp only [evE]
    exact bind_noexc (stab_noexc a k.1) fun _ => bind_noexc (stab_noexc b k.2) fun _ => of_noexc
  | .idx a b, k => by
    simp only [stab, Bool.and_eq_true] at k
    simp only [evE]
    exact bind_noexc (stab_noexc a k.1) fun _ => bind_noexc (stab_noexc b k.2) fun _ => of_noexc
  | .fld a _, k => by
    simp only [stab] at k
    simp only [evE]
    exact bind_noexc (stab_noexc a k) fun _ => of_noexc
  | .tup es, k => by
    simp only [stab] at k
    simp only [evE]
    exact bind_noexc (stabs_noexc es k) fun _ => fun z => by cases z
  | .lst es, k => by
    simp only [stab] at k
    simp only [evE]
    exact bind_noexc (stabs_noexc es k) fun _ => fun z => by cases z
  | .blt _ es, k => by
    simp only [stab] at k
    simp only [evE]
    exact bind_noexc (stabs_noexc es k) fun _ => of_noexc
  | .not _, k => by simp [stab] at k
  | .and _ _, k => by simp [stab] at k
  | .or _ _, k => by simp [stab] at k
  | .chn _ _ _ _ _, k => by simp [stab] at k
  | .isN _, k => by simp [stab] at k
  | .nisN _, k => by simp [stab] at k
  | .isB _ _, k => by simp [stab] at k
  | .nisB _ _, k => by simp [stab] at k
  | .dnil, k => by simp [stab] at k
  | .sl _ _ _, k => by simp [stab] at k
  | .sls _ _ _, k => by simp [stab] at k
  | .call _ _, k => by simp [stab] at k
  | .mth _ _ _, k => by simp [stab] at k
  | .lc _ _ _ _, k => by simp [stab] at k
  | .rng _, k => by simp [stab] at k
  | .enm _, k => by simp [stab] at k
  | .zp _ _, k => by simp [stab] at k
  | .rvs _, k => by simp [stab] at k
  | .dks _, k => by simp [stab] at k
  | .isi _ _, k => by simp [stab] at k
  | .mk _ _, k => by simp [stab] at k
theorem stabs_noexc {k : Nat} {r : Int} : ∀ es : List ME, stabs bad es = true → evEs Φ es ρ ≠ .exc k r
  | [], _ => fun z => by cases z
  | e :: es, k => by
    simp only [stabs, Bool.and_eq_true] at k
    simp only [evEs]
    exact bind_noexc (stab_noexc e k.1) fun _ => bind_noexc (stabs_noexc es k.2) fun _ => fun z => by cases z
end
end
section
variable (sg : Sg) (N : List PySem.Str)
/-- the call that changes slot i -/
def mtHole (i f : Nat) (mes : List ME) (sc : Scope) (μ : List Md) : Expr → Bool
  | .Call (.Name y _) (.Name z _ :: ls) [] _ => (match sg.fn f with
      | some (zf, .io :: pms, _) => decide (y = zf) && isGl sc y && notDbg y && mtSlot N sc i z && decide (mes.length = pms.length) && (pms.all fun k => decide (k = .imm)) && mtEs sg N mes sc sc μ (pms.map rmArg) ls
      | _ => false)
  | _ => false
mutual
/-- an expression with such a call at the place of slot t -/
def mtX (t i f : Nat) (mes : List ME) : ME → Scope → List Md → RM → Expr → Bool
  | .v j, sc, μ, m, x => decide (j = t) && mtHole sg N i f mes sc μ x
  | .bin o a b, sc, μ, m, x => match x with
    | .BinOp l op r _ => decide (op = aopOf o) && decide (m ≠ .O) && (if stab [t, i] a then mtE sg N a sc sc μ .V none l && mtX t i f mes b sc μ .B r else mtX t i f mes a sc μ .B l && stab [] b && mtE sg N b sc sc μ .B none r)
    | _ => false
  | .idx a b, sc, μ, m, x => match x with
    | .Subscript l r _ => decide (m ≠ .O) && noSlice r && stab [t, i] a && (mtE sg N a sc sc μ .V none l || (match a, l with
      | .v j, .Name y _ => mtSlot N sc j y && decide (μ[j]? = some .bor)
      | _, _ => false)) && mtX t i f mes b sc μ .B r
    | _ => false
  | .tup es, sc, μ, m, x => match x with
    | .Tuple xs _ _ => decide (m = .V) && decide (es.length ≤ lineN) && mtXs t i f mes es sc μ xs
    | _ => false
  | _, _, _, _, _ => false
def mtXs (t i f : Nat) (mes : List ME) : List ME → Scope → List Md → List Expr → Bool
  | [e], sc, μ, xs => match xs with
    | [x] => noStar x && mtX t i f mes e sc μ .V x
    | _ => false
  | e :: es, sc, μ, xs => match xs with
    | x :: xs => noStar x && stab [t, i] e && mtE sg N e sc sc μ .V none x && mtXs t i f mes es sc μ xs
    | _ => false
  | _, _, _, _ => false
end
end
section
variable (sg : Sg) (N : List PySem.Str) (fr : Bool)
/-- for k in d: if d[k] > M: raise C('m') -/
def mtW : Tg → ME → List MS → List Nat → Scope → List Md → Expr → Expr → List Stmt → Option (Option (List Md))
  | .one x, .dks (.v j), [.ife (.cmp .gt (.idx (.v j2) (.v x2)) (.int M)) [.raise k none] []], [x3], sc, μ, t, .Name y py, [.If (.Compare (.Subscript (.Name y2 _) (.Name z2 _) _) [.Gt] [.Constant (.int M2) _ _] _) [.Raise (some (.Call (.Name ye _) [.Constant (.str _) _ _] [] _)) none _] [] _] =>
    if mtTg N sc sc (.one x) t && decide (j2 = j) && decide (x2 = x) && decide (x3 = x) && decide (M2 = M) && decide (j ≠ x) && decide (x < μ.length) && decide (μ[j]? = some .imm) && mtSlot N sc j y && mtSlot N sc j y2 && mtSlot N sc x z2 && decide (ye = excName k) && decide (k ∈ sg.xs ∧ k < 300) && isGl sc ye then some (some (msets μ [x] .dead)) else none
  | _, _, _, _, _, _, _, _, _ => none
mutual
/-- none: no match; some none: matched, and it never comes behind -/
def mtS : MS → Scope → List Md → List Md → Stmt → Option (Option (List Md))
  | .set i e, sc, μ, μc, st => match st with
    | .Assign [.Name y py] x pos => if mtStore N sc i y && decide (i < μ.length) && mtE sg N e sc sc μ .V none x && noComp x then some (some (μ.set i .imm)) else (match e, x with
      | .lc elt tg it ifs, .ListComp e [⟨t, j, fs, 0⟩] scope cpos => if mtStore N sc i y && decide (i < μ.length) && mtE sg N (.lc elt tg it ifs) sc sc μ .V none (.ListComp e [⟨t, j, fs, 0⟩] scope cpos) then some (some (μ.set i .imm)) else none
      | _, _ => none)
    | _ => none
  | .seto i e, sc, μ, μc, st => match st with
    | .Assign [.Name y py] x pos => if decide (sg.io ≠ some i) && mtStore N sc i y && decide (i < μ.length) && mtE sg N e sc sc μ .O none x && noComp x then some (some (μ.set i .own)) else (match e, x with
      | .lc elt tg it ifs, .ListComp e [⟨t, j, fs, 0⟩] scope cpos => if decide (sg.io ≠ some i) && mtStore N sc i y && decide (i < μ.length) && mtE sg N (.lc elt tg it ifs) sc sc μ .O none (.ListComp e [⟨t, j, fs, 0⟩] scope cpos) then some (some (μ.set i .own)) else none
      | _, _ => none)
    | _ => none
  | .setT is e, sc, μ, μc, st => match st with
    | .Assign [.Tuple es k p] x pos => if mtTg N sc sc (.many is) (.Tuple es k p) && decide (μ.length = N.length) && mtE sg N e sc sc μ .V none x && noComp x && noTupX x then some (some (msets μ is .imm)) else none
    | _ => none
  | .setIdx i k e, sc, μ, μc, st => match st with
    | .Assign [.Subscript (.Name y _) q _] x pos => if mtSlot N sc i y && decide (μ[i]? = some .own) && noSlice q && mtE sg N k sc sc μ .B none q && mtE sg N e sc sc μ .V none x then some (some μ) else none
    | _ => none
  | .app i e, sc, μ, μc, st => match st with
    | .Expr (.Call (.Attribute (.Name y _) a ap) [x] [] cp) _ => if decide (a = "append") && (ap.endLine == cp.line) && mtSlot N sc i y && decide (μ[i]? = some .own) && noStar x && mtE sg N e sc sc μ .V none x then some (some μ) else none
    | _ => none
  | .ext i e, sc, μ, μc, st => match st with
    | .Expr (.Call (.Attribute (.Name y _) a ap) [x] [] cp) _ => if decide (a = "extend") && (ap.endLine == cp.line) && mtSlot N sc i y && decide (μ[i]? = some .own) && noStar x && mtE sg N e sc sc μ .B none x then some (some μ) else none
    | _ => none
  | .rev i, sc, μ, μc, st => match st with
    | .Expr (.Call (.Attribute (.Name y _) a ap) [] [] cp) _ => if decide (a = "reverse") && (ap.endLine == cp.line) && mtSlot N sc i y && decide (μ[i]? = some .own) then some (some μ) else none
    | _ => none
  | .aug i e, sc, μ, μc, st => match st with
    | .AugAssign (.Name y _) .Add x _ => if mtStore N sc i y && decide (μ[i]? = some .imm) && mtE sg N e sc sc μ .B none x then some (some (μ.set i .imm)) else none
    | _ => none
  | .expr e, sc, μ, μc, st => match st with
    | .Expr x _ => if mtE sg N e sc sc μ .B none x && noComp x then some (some μ) else none
    | _ => none
  | .ife c a b, sc, μ, μc, st => match st with
    | .If t p q _ => if mtE sg N c sc sc μ .B none t then (match mtSs a sc μ μc p, mtSs b sc μ μc q with
      | some ra, some rb => if leO (meetO ra rb) ra && leO (meetO ra rb) rb then some (meetO ra rb) else none
      | _, _ => none) else none
    | _ => none
  | .for tg it body dead, sc, μ, μc, st => match st with
    | .For t i b [] _ => if noSet i && mtTg N sc sc tg t && decide (μ.length = N.length) && decide (srcOf μ it = []) && ((tgSlots tg).all fun i => decide (i ∈ dead)) && mtE sg N it sc sc μ .V (some t) i then
        (match mtSs body sc (msets (msets μ dead .dead) (tgSlots tg) .imm) (msets μ dead .dead) b with
        | some r => if leO (some (msets μ dead .dead)) r then some (some (msets μ dead .dead)) else none
        | none => none) else mtW sg N tg it body dead sc μ t i b
    | _ => none
  | .ret e, sc, μ, μc, st => match st with
    | .Return none _ => (match e with
      | .non => if decide (sg.io = none) then some none else none
      | _ => none)
    | .Return (some x) _ => if decide (sg.io = none) && mtE sg N e sc sc μ (rmOf fr) none x then some none else (match e, x with
      | .v i, .Name y _ => if decide (sg.io = none) && mtSlot N sc i y && decide (μ[i]? = some .own) then some none else none
      | .tup [e, .v k], x => if decide (sg.io = some k) && decide (μ[k]? = some .own) && mtE sg N e sc sc μ .V none x then some none else none
      | _, _ => none)
    | _ => none
  | .cont, sc, μ, μc, st => match st with
    | .Continue _ => if leB μc μ then some none else none
    | _ => none
  | .raise k none, sc, μ, μc, st => match st with
    | .Raise (some (.Call (.Name y _) [.Constant (.str _) _ _] [] _)) none _ => if decide (y = excName k) && decide (k ∈ sg.xs ∧ k < 300) && isGl sc y then some none else none
    | _ => none
  | .try body cs none h, sc, μ, μc, st => match cs, h, st with
    | [q], [.set i e], .Try b [.ExceptHandler (some (.Name x _)) none [.Assign [.Name y py] ex pos] _] [] [] _ => if decide (x = excName q) && decide (q ∈ sg.xs ∧ q < 300) && isGl sc x && mtStore N sc i y && decide (i < μ.length) && isConst e ex then (match mtSs body sc μ μc b with
      | some rb => if leO (meetO rb (some ((msets μ (modSs body) .dead).set i .imm))) rb && leO (meetO rb (some ((msets μ (modSs body) .dead).set i .imm))) (some ((msets μ (modSs body) .dead).set i .imm)) then some (meetO rb (some ((msets μ (modSs body) .dead).set i .imm))) else none
      | none => none) else none
    | _, _, _ => none
  | .try body cs (some i) h, sc, μ, μc, st => match cs, h, st with
    | [q], [.set j (.lst es)], .Try b [.ExceptHandler (some (.Name x _)) (some n) [.Assign [.Name y py] (.List xs lp) pos] _] [] [] _ => if decide (x = excName q) && decide (q ∈ sg.xs ∧ q < 300) && isGl sc x && mtStore N sc j y && decide (j < μ.length) && decide (μ[i]? = some .dead) && decide (i ≠ j) && decide (N[i]? = some n) && decide (sc.names.lookup n = some .local) && notDbg n && decide (499 ∈ sg.xs) && mtI sg.xs sc i n es xs && decide (xs.length ≤ 100) && decide (es ≠ []) then (match mtSs body sc μ μc b with
      | some rb => if leO (meetO rb (some ((msets μ (modSs body) .dead).set j .imm))) rb && leO (meetO rb (some ((msets μ (modSs body) .dead).set j .imm))) (some ((msets μ (modSs body) .dead).set j .imm)) then some (meetO rb (some ((msets μ (modSs body) .dead).set j .imm))) else none
      | none => none) else none
    | _, _, _ => none
  | .eff t i f mes s, sc, μ, μc, st => if decide (μ[t]? = some .dead) && decide (μ[i]? = some .own) then mtF t i f mes s sc μ μc st else none
  | _, _, _, _, _ => none
/-- a statement with a call that changes slot i, at the place of slot t -/
def mtF (t i f : Nat) (mes : List ME) : MS → Scope → List Md → List Md → Stmt → Option (Option (List Md))
  | .set j e, sc, μ, μc, st => match st with
    | .Assign [.Name y py] x pos => if mtStore N sc j y && decide (j < μ.length) && stab [] e && mtX sg N t i f mes e sc μ .V x && noComp x then some (some (μ.set j .imm)) else none
    | _ => none
  | .app j e, sc, μ, μc, st => match st with
    | .Expr (.Call (.Attribute (.Name y _) a ap) [x] [] cp) _ => if decide (j ≠ t) && decide (j ≠ i) && decide (a = "append") && (ap.endLine == cp.line) && mtSlot N sc j y && decide (μ[j]? = some .own) && noStar x && stab [] e && mtX sg N t i f mes e sc μ .V x then some (some μ) else none
    | _ => none
  | .ret e, sc, μ, μc, st => match e, st with
    | .tup [e, .v k], .Return (some x) _ => if decide (sg.io = some k) && decide (μ[k]? = some .own) && stab [] e && mtX sg N t i f mes e sc μ .V x then some none else none
    | _, _ => none
  | .ife c a b, sc, μ, μc, st => match c, st with
    | .cmp o ca cb, .If (.Compare l [op] [r] _) p q _ => if decide (op = copOf o) && noSet r && stab [] ca && stab [] cb && mtX sg N t i f mes ca sc μ .B l && mtE sg N cb sc sc μ .B none r then (match mtSs a sc μ μc p, mtSs b sc μ μc q with
      | some ra, some rb => if leO (meetO ra rb) ra && leO (meetO ra rb) rb then some (meetO ra rb) else none
      | _, _ => none) else none
    | _, _ => none
  | .for tg it body dead, sc, μ, μc, st => match it, st with
    | .rng [e], .For tt (.Call (.Name y _) [l] [] _) b [] _ => if decide (y = "range") && isGl sc y && noStar l && mtTg N sc sc tg tt && decide (μ.length = N.length) && stab [] e && mtX sg N t i f mes e sc μ .B l then
        (match mtSs body sc (msets (msets μ dead .dead) (tgSlots tg) .imm) (msets μ dead .dead) b with
        | some r => if leO (some (msets μ dead .dead)) r then some (some (msets μ dead .dead)) else none
        | none => none) else none
    | _, _ => none
  | _, _, _, _, _ => none
def mtSs : List MS → Scope → List Md → List Md → List Stmt → Option (Option (List Md))
  | [], sc, μ, μc, sts => match sts with
    | [] => some (some μ)
    | [.Pass _] => some (some μ)
    | _ => none
  | s :: ss, sc, μ, μc, sts => match s with
    | .frz i => if decide (μ[i]? = some .own) then mtSs ss sc (μ.set i .imm) μc sts else none
    | _ => match sts with
      | [] => none
      | st :: rest => match mtS s sc μ μc st with
        | some (some μ1) => if agree (modS s) μ μ1 then mtSs ss sc μ1 μc rest else none
        | some none => (match ss, rest with
          | [], [] => some none
          | _, _ => none)
        | none => none
end
end
end Mi

/-! Mi, part E2: the match of statements is sound. -/
namespace Mi
open PySem L2 PySem.Spec PyProof.Rows

theorem meetL_length : ∀ {a b : List Md}, a.length = b.length → (meetL a b).length = a.length
  | [], [], _ => rfl
  | [], _ :: _, h => by simp at h
  | _ :: _, [], h => by simp at h
  | x :: a, y :: b, h => by
    show (meetL a b).length + 1 = _
    rw [meetL_length (by simpa using h)]; rfl
section
variable {X : Cx} {c : Cn} {sc scI : Scope} {sg : Sg} {N : List PySem.Str} {Φ : Phi} {W : WX} {μ : List Md} {μc : List Md} {m : RM} {fr : Bool}
theorem store_of (G : Gd X c sc sc sg N Φ W) {i : Nat} {y : PySem.Str} (h : mtStore N sc i y = true) : X.N[i]? = some y ∧ Loc X.env.scope y ∧ (X.env.scope.names.lookup y = some .local ∨ X.fn y = true) := by
  unfold mtStore at h
  simp only [Bool.and_eq_true, decide_eq_true_eq, Bool.or_eq_true] at h
  obtain ⟨h1, h2⟩ := h
  rw [G.sc, G.names]
  refine ⟨h1, ?_, ?_⟩
  · exact h2
  · rcases h2 with h2 | h2
    · exact .inl h2
    · exact .inr (G.fn y h2)
theorem ndX (G : Gd X c sc scI sg N Φ W) : X.N.Nodup := by rw [G.names]; exact G.nd
theorem fl_nx1 {α : Type} {r : R α} {f : α → FL} {ρ' : Env} (h : FL.of r f = .nx ρ') : ∃ a, r = .ok a ∧ f a = .nx ρ' := by
  cases r with
  | ok a => exact ⟨a, rfl, h⟩
  | exc => cases h
  | stuck => cases h
theorem ev_retIO (Φ : Phi) (e : ME) (k : Nat) (ρ : Env) : evS Φ (.ret (.tup [e, .v k])) ρ = evRet (fun ρ => (evE Φ e ρ).bind fun x => (getE ρ k).bind fun y => .ok (.tup [x, y])) ρ := by
  show FL.of (((evE Φ e ρ).bind fun x => ((getE ρ k).bind fun y => (R.ok []).bind fun xs => .ok (y :: xs)).bind fun xs => .ok (x :: xs)).bind fun xs => .ok (.tup xs)) (fun d => .rt d) = _
  unfold evRet
  simp only [R.bind_assoc, R.ok_bind]
theorem rt_nx (Φ : Phi) (e : ME) (ρ ρ' : Env) : evS Φ (.ret e) ρ ≠ .nx ρ' := by
  intro h
  have h : FL.of (evE Φ e ρ) (fun d => .rt d) = .nx ρ' := h
  cases q : evE Φ e ρ <;> rw [q] at h <;> cases h
theorem ss_pass {pos : Pos} {ms : List Nat} : PSs X [.Pass pos] (rS c W μ (some μ) μc ms fr fun ρ => .nx ρ) := by
  exact pss_one s_pass
theorem ss_frz {i : Nat} {sts : List Stmt} {r : Option (List Md)} {ms : List Nat} {ev : Env → FL} (hμ : μ[i]? = some .own) (h : PSs X sts (rS c W (μ.set i .imm) r μc ms fr ev)) : PSs X sts (rS c W μ r μc ([i] ++ ms) fr ev) := by
  refine h.weak ?_
  rintro E σ H ⟨ρ, F, S, h⟩
  obtain ⟨F', S', eF⟩ := S.frz hμ
  refine ⟨ρ, F', S', ?_⟩
  have h : FK c W μ r μc ([i] ++ ms) fr ρ E F' (ev ρ) := FK.up eF h
  cases q : ev ρ with
  | nx ρ2 => rw [q] at h; exact h
  | rt d => rw [q] at h; exact h
  | ct ρ2 => rw [q] at h; exact h
  | stuck => rw [q] at h; exact h
  | exc x r =>
    rw [q] at h
    intro σ' H' F' cls dx S' e' xr
    refine h σ' H' F' cls dx (S'.excTo (by simp) S.lenR fun j hj => ?_) e' xr
    rw [List.mem_append, not_or] at hj
    exact ⟨hj.2, List.getElem?_set_ne fun e => hj.1 (by simp [e]), rfl⟩
theorem few_of {x : Expr} {cp : Pos} {env : PySem.Env} (h : noStar x = true) : ((backTo cp (starEach [x] env)).all (fun x => !x.1) && (backToKw cp (keywordEach [] env)).all (fun x => x.1.isSome) && decide (([x] : List Expr).length + ([] : List Keyword).length + (if ([] : List Keyword).isEmpty then 0 else 1) < 30)) = true := by
  rw [star_of h]; rfl
theorem setLc_of (G : Gd X c sc sc sg N Φ W) {i : Nat} {y : PySem.Str} {py cpos pos : Pos} {elt it : ME} {tg : Tg} {ifs : Option ME} {e t j : Expr} {fs : List Expr} {scope : Scope} {o : Bool} {ms : List Nat} (hst : mtStore N sc i y = true) (hi : i < μ.length)
    (h : mtE sg N (.lc elt tg it ifs) sc sc μ m none (.ListComp e [⟨t, j, fs, 0⟩] scope cpos) = true) (hm : m = if o then .O else .V) (hio : o = true → ∀ q, c.io ≠ some (i, q)) :
    PS X (.Assign [.Name y py] (.ListComp e [⟨t, j, fs, 0⟩] scope cpos) pos) (rS c W μ (some (μ.set i (if o then .own else .imm))) μc ms fr ((if o then evSetO i else evSet i) (evE Φ (.lc elt tg it ifs)))) := by
  obtain ⟨s1, s2, s3⟩ := store_of G hst
  have hE := sndE (Φ := Φ) (.lc elt tg it ifs) X sc sc μ m none W _ G h
  by_cases hsw : swB sc scope y py cpos = true
  · have hsw' := hsw
    unfold swB at hsw
    simp only [Bool.and_eq_true, decide_eq_true_eq, Bool.not_eq_true'] at hsw
    obtain ⟨⟨w1, w2⟩, w3⟩ := hsw
    unfold mtE at h
    simp only [Bool.and_eq_true, decide_eq_true_eq, List.all_eq_true, Bool.not_eq_true', decide_eq_false_iff_not] at h
    obtain ⟨⟨⟨⟨⟨⟨⟨⟨h1, h2⟩, h3⟩, h4⟩, h5⟩, h6⟩, h7⟩, h8⟩, h9⟩ := h
    have ev : evE Φ (.lc elt tg it ifs) = fun ρ => (evI Φ it ρ).bind fun xs => (noX (compM (turnL tg (evC Φ ifs) (evE Φ elt) ρ) xs)).bind fun ys => if ys.length ≤ lineN then .ok (.lst ys) else .stuck := funext fun ρ => ev_lc elt tg it ifs ρ
    rw [ev]
    have hyl : X.env.scope.names.lookup y = some .local := by rw [G.sc]; exact w1
    refine s_setLc (own := ownOf N scope) (g := gOf c.K tg) G.calm (ndX G) s1 hyl (sw_true ?_ hyl w2 w3) hi (sndE it X sc sc μ .V (some _) W _ G h7 rfl) ?_ ?_ h4 (fun j hj => ⟨srcOf_own j hj, h5 j hj⟩) (fun s H C cl fp => ?_) (fun s H C cl fp => ?_) (fun s H C cl fp => ?_) (folded_of h1) o hio
    · exact G.kind
    · rw [G.names, G.sc]; exact blkOk_by h2
    · rw [h6]
      exact tgS_of h3
    · exact tg_of (G.blk s H _ (blkOk_by h2).kind C cl fp) h3
    · exact sndC ifs _ _ _ _ W0 _ (G.blk s H _ (blkOk_by h2).kind C cl fp) h9
    · exact sndE elt _ _ _ _ .V none W0 _ (G.blk s H _ (blkOk_by h2).kind C cl fp) h8
  · have hsw : swB sc scope y py cpos = false := by simpa using hsw
    cases o with
    | true => subst hm; exact s_setO (hio rfl) (ndX G) s1 s2 s3 hi hE (sw_no G.sc hsw)
    | false => subst hm; exact s_set (ndX G) s1 s2 s3 hi hE (sw_no G.sc hsw)

theorem meetL_le : ∀ {a b : List Md}, True := trivial
/-- a block that never comes behind -/
def NoNx (r : Option (List Md)) (ev : Env → FL) : Prop := r = none → ∀ ρ ρ', ev ρ ≠ .nx ρ'
theorem NoNx.some {μ1 : List Md} {ev : Env → FL} : NoNx (some μ1) ev := fun h => by cases h
theorem name_base {y a : PySem.Str} {pn : Pos} {env : PySem.Env} : attributeBase (.Name y pn) a env (eval (.Name y pn) env) = eval (.Name y pn) env := rfl
/-- the context of a def's statements -/
structure At (X : Cx) : Prop where
  pass : PassesOwn (model X.prog X.w) X.A X.env X.xe
  st : X.stack = X.env :: X.outer
  fr : X.env.frame = some X.env.locals
theorem Gd.tr (G : Gd X c sc scI sg N Φ W) {W' : WX} {pn : List (Addr × Obj)} {xe : Value → Shared → Prop} (tk : Takes (X.tr pn xe) W') : Gd (X.tr pn xe) c sc scI sg N Φ W' :=
  ⟨G.K, G.mg, G.sc, G.names, G.nd, G.calm, G.kind, G.un, tk, G.blt, G.fn, G.exc, G.cls, G.gls, G.mks, G.io, G.call⟩
theorem const_of {e : ME} {x : Expr} (h : isConst e x = true) : (∀ (X : Cx) (c : Cn) (W : WX) (μ : List Md), PE X x (rE c W μ .V (evE Φ e))) ∧ noComp x = true ∧ ∃ d, ∀ ρ, evE Φ e ρ = .ok d := by
  unfold isConst at h
  split at h
  · obtain rfl := of_decide_eq_true h
    exact ⟨fun X c W μ => e_const pe_int (fun F => by simp [Rp]) rfl, rfl, _, fun _ => rfl⟩
  · obtain rfl := of_decide_eq_true h
    exact ⟨fun X c W μ => e_const pe_str (fun F => by simp [Rp]) rfl, rfl, _, fun _ => rfl⟩
  · obtain rfl := of_decide_eq_true h
    exact ⟨fun X c W μ => e_const pe_bl (fun F => by simp [Rp]) rfl, rfl, _, fun _ => rfl⟩
  · exact ⟨fun X c W μ => e_const pe_non (fun F => by simp [Rp]) rfl, rfl, _, fun _ => rfl⟩
  · cases h
theorem io_none (G : Gd X c sc scI sg N Φ W) (h : sg.io = none) : c.io = none := by
  have := G.io
  rw [h] at this
  cases q : c.io with
  | none => rfl
  | some p => rw [q] at this; cases this
theorem io_some (G : Gd X c sc scI sg N Φ W) {k : Nat} (h : sg.io = some k) : ∃ p, c.io = some (k, p) := by
  have := G.io
  rw [h] at this
  cases q : c.io with
  | none => rw [q] at this; cases this
  | some p =>
    rw [q] at this
    have e : p.1 = k := by simpa using this
    exact ⟨p.2, by rw [← e]⟩
theorem io_ne (G : Gd X c sc scI sg N Φ W) {i : Nat} (h : sg.io ≠ some i) : ∀ q, c.io ≠ some (i, q) := fun q e => by
  have := G.io
  rw [e] at this
  exact h this.symm
/-! ### calls that change a slot -/
theorem hole_ok {t i f : Nat} {mes : List ME} {x : Expr} (G : Gd X c sc sc sg N Φ W) (ht : μ[t]? = some .dead) (hi : μ[i]? = some .own) (h : mtHole sg N i f mes sc μ x = true) : PE X x (rX c μ .V (effR Φ t i f mes) fun ρ => getE ρ t) := by
  unfold mtHole at h
  split at h
  · split at h
    · rename_i q
      simp only [Bool.and_eq_true, decide_eq_true_eq] at h
      obtain ⟨⟨⟨⟨⟨⟨rfl, h1⟩, h2⟩, h3⟩, h4⟩, h5⟩, h6⟩ := h
      obtain ⟨k, a, fd, ps, F, hr, hm, hk, hb, how⟩ := G.call f _ _ _ q
      obtain ⟨s1, s2, s3, s4⟩ := slot_of G h3
      have hst := mtEs_star (env := X.env) h6
      exact xx_call G.K G.tk F hr (gl_of G h1) (by rw [G.mg]; exact hm) hk hb s1 s2 s3 s4 hi ht (sndEs mes X sc sc μ _ W _ G h6) h5 (fun ρ ds q => by rw [evEs_len q, h4]) (dbg_of h2).1 (star_of rfl) (back_of hst.1)
    · cases h
  · cases h
theorem stab_mono {bad : List Nat} : True := trivial
mutual
theorem sndX (t i f : Nat) (mes : List ME) : ∀ (e : ME) (X : Cx) (sc : Scope) (μ : List Md) (m : RM) (W : WX) (x : Expr), Gd X c sc sc sg N Φ W → μ[t]? = some .dead → μ[i]? = some .own → mtX sg N t i f mes e sc μ m x = true → PE X x (rX c μ m (effR Φ t i f mes) (evE Φ e))
  | .v j, X, sc, μ, m, W, x, G, ht, hi, h => by
    simp only [mtX, Bool.and_eq_true, decide_eq_true_eq] at h
    obtain ⟨rfl, h⟩ := h
    refine (hole_ok (Φ := Φ) G ht hi h).weak ?_
    rintro σ H Q ⟨ρ, F, S, ρ', h1, d, h2, k⟩
    refine ⟨ρ, F, S, ρ', h1, d, h2, fun v H' F' S' eF r => k v H' F' S' eF ?_⟩
    cases m
    · exact .inl r
    · exact r
    · exact .inl r
  | .bin o a b, X, sc, μ, m, W, x, G, ht, hi, h => by
    unfold mtX at h
    split at h
    · simp only [Bool.and_eq_true, decide_eq_true_eq] at h
      obtain ⟨⟨rfl, h1⟩, h2⟩ := h
      split at h2
      · rename_i hs
        rw [Bool.and_eq_true] at h2
        exact x_binR h1 (o_bin G.K o) (sndE a X sc sc μ .V none W _ G h2.1) (fun ρ ρ' q => stab_agree (eff_out q) a hs) (sndX t i f mes b X sc μ .B W _ G ht hi h2.2)
      · simp only [Bool.and_eq_true] at h2
        exact x_binL h1 (o_bin G.K o) (sndX t i f mes a X sc μ .B W _ G ht hi h2.1.1) (sndE b X sc sc μ .B none W _ G h2.2)
    · cases h
  | .idx a b, X, sc, μ, m, W, x, G, ht, hi, h => by
    unfold mtX at h
    split at h
    · simp only [Bool.and_eq_true, decide_eq_true_eq, Bool.or_eq_true] at h
      obtain ⟨⟨⟨⟨h1, h2⟩, h3⟩, h4⟩, h5⟩ := h
      refine x_idxR (W := W) h1 (o_idx G.K (Nat.lt_of_le_of_lt (Nat.le_succ _) G.un) h1) ?_ (fun ρ ρ' q => stab_agree (eff_out q) a h3) (sndX t i f mes b X sc μ .B W _ G ht hi h5) (slice_of h2)
      rcases h4 with h4 | h4
      · exact v_val (sndE a X sc sc μ .V none W _ G h4)
      · split at h4
        · simp only [Bool.and_eq_true, decide_eq_true_eq] at h4
          obtain ⟨s1, s2, s3, s4⟩ := slot_of G h4.1
          exact v_bor s1 s2 s3 s4 h4.2
        · cases h4
    · cases h
  | .tup es, X, sc, μ, m, W, x, G, ht, hi, h => by
    unfold mtX at h
    split at h
    · simp only [Bool.and_eq_true, decide_eq_true_eq] at h
      obtain ⟨⟨rfl, h1⟩, h2⟩ := h
      obtain ⟨k1, k2⟩ := sndXs t i f mes es X sc μ W _ G ht hi h2
      exact xx_tup k1 (by rw [k2]; exact h1) (fun ρ ds q => by rw [evEs_len q, k2])
    · cases h
  | .int _, X, sc, μ, m, W, x, G, ht, hi, h => by cases h
  | .str _, X, sc, μ, m, W, x, G, ht, hi, h => by cases h
  | .bl _, X, sc, μ, m, W, x, G, ht, hi, h => by cases h
  | .non, X, sc, μ, m, W, x, G, ht, hi, h => by cases h
  | .glob _ _, X, sc, μ, m, W, x, G, ht, hi, h => by cases h
  | .neg _, X, sc, μ, m, W, x, G, ht, hi, h => by cases h
  | .not _, X, sc, μ, m, W, x, G, ht, hi, h => by cases h
  | .and _ _, X, sc, μ, m, W, x, G, ht, hi, h => by cases h
  | .or _ _, X, sc, μ, m, W, x, G, ht, hi, h => by cases h
  | .cmp _ _ _, X, sc, μ, m, W, x, G, ht, hi, h => by cases h
  | .chn _ _ _ _ _, X, sc, μ, m, W, x, G, ht, hi, h => by cases h
  | .isN _, X, sc, μ, m, W, x, G, ht, hi, h => by cases h
  | .nisN _, X, sc, μ, m, W, x, G, ht, hi, h => by cases h
  | .isB _ _, X, sc, μ, m, W, x, G, ht, hi, h => by cases h
  | .nisB _ _, X, sc, μ, m, W, x, G, ht, hi, h => by cases h
  | .lst _, X, sc, μ, m, W, x, G, ht, hi, h => by cases h
  | .dnil, X, sc, μ, m, W, x, G, ht, hi, h => by cases h
  | .sl _ _ _, X, sc, μ, m, W, x, G, ht, hi, h => by cases h
  | .sls _ _ _, X, sc, μ, m, W, x, G, ht, hi, h => by cases h
  | .call _ _, X, sc, μ, m, W, x, G, ht, hi, h => by cases h
  | .blt _ _, X, sc, μ, m, W, x, G, ht, hi, h => by cases h
  | .mth _ _ _, X, sc, μ, m, W, x, G, ht, hi, h => by cases h
  | .lc _ _ _ _, X, sc, μ, m, W, x, G, ht, hi, h => by cases h
  | .rng _, X, sc, μ, m, W, x, G, ht, hi, h => by cases h
  | .enm _, X, sc, μ, m, W, x, G, ht, hi, h => by cases h
  | .zp _ _, X, sc, μ, m, W, x, G, ht, hi, h => by cases h
  | .rvs _, X, sc, μ, m, W, x, G, ht, hi, h => by cases h
  | .dks _, X, sc, μ, m, W, x, G, ht, hi, h => by cases h
  | .fld _ _, X, sc, μ, m, W, x, G, ht, hi, h => by cases h
  | .isi _ _, X, sc, μ, m, W, x, G, ht, hi, h => by cases h
  | .mk _ _, X, sc, μ, m, W, x, G, ht, hi, h => by cases h
theorem sndXs (t i f : Nat) (mes : List ME) : ∀ (es : List ME) (X : Cx) (sc : Scope) (μ : List Md) (W : WX) (xs : List Expr), Gd X c sc sc sg N Φ W → μ[t]? = some .dead → μ[i]? = some .own → mtXs sg N t i f mes es sc μ xs = true → PA X xs (rXA c μ (effR Φ t i f mes) (evEs Φ es)) ∧ xs.length = es.length
  | [], X, sc, μ, W, xs, G, ht, hi, h => by simp [mtXs] at h
  | [e], X, sc, μ, W, xs, G, ht, hi, h => by
    unfold mtXs at h
    split at h
    · rw [Bool.and_eq_true] at h
      exact ⟨xa_last (sndX t i f mes e X sc μ .V W _ G ht hi h.2) (star_of h.1), rfl⟩
    · cases h
  | e :: e2 :: es, X, sc, μ, W, xs, G, ht, hi, h => by
    unfold mtXs at h
    split at h
    · simp only [Bool.and_eq_true] at h
      obtain ⟨⟨⟨h1, h2⟩, h3⟩, h4⟩ := h
      obtain ⟨k1, k2⟩ := sndXs t i f mes (e2 :: es) X sc μ W _ G ht hi h4
      exact ⟨xa_cons (sndE e X sc sc μ .V none W _ G h3) (fun ρ ρ' q => stab_agree (eff_out q) e h2) k1 (star_of h1), by rw [List.length_cons, k2]; rfl⟩
    · cases h
end
theorem mtW_ok {tg : Tg} {it : ME} {body : List MS} {dead : List Nat} {t i : Expr} {b : List Stmt} {pos : Pos} {r : Option (List Md)} (G : Gd X c sc sc sg N Φ W) (P : At X) (h : mtW sg N tg it body dead sc μ t i b = some r) :
    PS X (.For t i b [] pos) (rS c W μ r μc (modS (.for tg it body dead)) fr (evS Φ (.for tg it body dead))) ∧ NoNx r (evS Φ (.for tg it body dead)) := by
  unfold mtW at h
  split at h
  · rename_i x j j2 x2 M k x3 y py y2 p9 z2 p8 p7 M2 jj p6 p5 ye p4 msg jj2 p3 p2 p1 p0
    split at h
    · rename_i q
      cases h
      simp only [Bool.and_eq_true, decide_eq_true_eq] at q
      obtain ⟨⟨⟨⟨⟨⟨⟨⟨⟨⟨⟨⟨⟨q1, rfl⟩, rfl⟩, rfl⟩, rfl⟩, q2⟩, q3⟩, q4⟩, q5⟩, q6⟩, q7⟩, rfl⟩, q8⟩, q9⟩ := q
      obtain ⟨a1, a2, a3, a4⟩ := slot_of G q5
      obtain ⟨b1, b2, b3, b4⟩ := slot_of G q6
      obtain ⟨d1, d2, d3, d4⟩ := slot_of G q7
      obtain ⟨hk, C, h1, h2, h3, h4, h5, _⟩ := (G.exc k q8.1).lo q8.2
      refine ⟨(s_dwalk (ms := modS (.for (.one x3) (.dks (.v j2)) [.ife (.cmp .gt (.idx (.v j2) (.v x3)) (.int M2)) [.raise k none] []] [x3])) (W := W) (μ := μ) (μc := μc) (fr := fr) (c := c) (N := M2) (evb := evSs Φ [.ife (.cmp .gt (.idx (.v j2) (.v x3)) (.int M2)) [.raise k none] []]) P.pass G.calm (by have := G.un; omega) G.tk (fun W' tk' => L2.ps_raise (t := fun _ H Q => Q (.ref C) none H) G.calm tk' (pmk_own PySem.F.excBase_ValueError (by rw [G.K]; exact h2) (by rw [G.mg]; exact h1) (by rw [G.K]; exact h3) (raises_own (by rw [G.K]; exact h4) (by rw [G.K]; exact h5)) (gl_of G q9) (exc_dbg hk))) h1 (by omega) (tg_of G q1) (pe_var a1 a2 a3 a4) (pe_var b1 b2 b3 b4) (pe_var d1 d2 d3 d4) (fun _ => rfl) (fun _ _ => rfl) q4 q2 q3 (show x3 ∈ [x3] ++ _ from List.mem_append_left _ (List.mem_singleton.mpr rfl)) (fun ρ => ?_)).weak ?_, .some⟩
      · show FL.seq (FL.of ((((getE ρ j2).bind fun s => (getE ρ x3).bind fun z => R.of (idxD s z)).bind fun v => R.of (cmpD .gt v (.int M2)))) fun x => FL.of (R.of (boolD x)) fun t => if t then FL.seq (.exc k 0) (fun ρ' => evSs Φ [] ρ') else .nx ρ) (fun ρ' => .nx ρ') = _
        cases ((getE ρ j2).bind fun s => (getE ρ x3).bind fun z => R.of (idxD s z)) with
        | stuck => rfl
        | exc => rfl
        | ok v =>
          show FL.seq (FL.of (R.of (cmpD .gt v (.int M2))) fun x => FL.of (R.of (boolD x)) fun t => if t then FL.seq (.exc k 0) (fun ρ' => evSs Φ [] ρ') else .nx ρ) (fun ρ' => .nx ρ') = FL.of ((R.of (cmpD .gt v (.int M2))).bind fun t => R.of (boolD t)) fun b => if b then FL.exc k 0 else FL.nx ρ
          cases cmpD .gt v (.int M2) with
          | none => rfl
          | some w =>
            show FL.seq (FL.of (R.of (boolD w)) fun t => if t then FL.seq (.exc k 0) (fun ρ' => evSs Φ [] ρ') else .nx ρ) (fun ρ' => .nx ρ') = FL.of (R.of (boolD w)) fun b => if b then FL.exc k 0 else FL.nx ρ
            cases boolD w with
            | none => rfl
            | some b => cases b <;> rfl
      · rintro E σ H ⟨ρ, F, S, h⟩
        refine ⟨ρ, F, S, ?_⟩
        have e : evS Φ (.for (.one x3) (.dks (.v j2)) [.ife (.cmp .gt (.idx (.v j2) (.v x3)) (.int M2)) [.raise k none] []] [x3]) ρ = evFor (.one x3) (fun ρ => (getE ρ j2).bind fun s => R.of (keysOf s)) [x3] (evSs Φ [.ife (.cmp .gt (.idx (.v j2) (.v x3)) (.int M2)) [.raise k none] []]) ρ := by
          show FL.of ((getE ρ j2).bind fun s => (R.of (keysOf s)).bind fun xs => .ok (.lst xs)) (fun s => FL.of (R.of (itemsOf s)) fun xs => forL [x3] (fun x ρ => FL.of (bindT (.one x3) x ρ) fun ρ' => evSs Φ [.ife (.cmp .gt (.idx (.v j2) (.v x3)) (.int M2)) [.raise k none] []] ρ') xs ρ) = FL.of ((getE ρ j2).bind fun s => R.of (keysOf s)) fun xs => forL [x3] (turnF (.one x3) (evSs Φ [.ife (.cmp .gt (.idx (.v j2) (.v x3)) (.int M2)) [.raise k none] []])) xs ρ
          cases getE ρ j2 with
          | stuck => rfl
          | exc => rfl
          | ok s =>
            simp only [R.ok_bind]
            cases keysOf s <;> rfl
        rw [← e]
        exact h
    · cases h
  · cases h
set_option maxHeartbeats 2000000
mutual
theorem sndS : ∀ (s : MS) (X : Cx) (sc : Scope) (μ μc : List Md) (W : WX) (st : Stmt) (r : Option (List Md)), Gd X c sc sc sg N Φ W → At X → mtS sg N fr s sc μ μc st = some r →
    PS X st (rS c W μ r μc (modS s) fr (evS Φ s)) ∧ NoNx r (evS Φ s)
  | .set i e, X, sc, μ, μc, W, st, r, G, P, h => by
    unfold mtS at h
    split at h
    · split at h
      · rename_i q
        cases h
        simp only [Bool.and_eq_true, decide_eq_true_eq] at q
        obtain ⟨⟨⟨q1, q2⟩, q3⟩, q4⟩ := q
        obtain ⟨s1, s2, s3⟩ := store_of G q1
        exact ⟨s_set (ndX G) s1 s2 s3 q2 (sndE e X sc sc μ .V none W _ G q3) (swaps_of q4), .some⟩
      · split at h
        · split at h
          · rename_i q
            cases h
            simp only [Bool.and_eq_true, decide_eq_true_eq] at q
            obtain ⟨⟨q1, q2⟩, q3⟩ := q
            exact ⟨setLc_of (o := false) G q1 q2 q3 rfl (fun z => by cases z), .some⟩
          · cases h
        · cases h
    · cases h
  | .seto i e, X, sc, μ, μc, W, st, r, G, P, h => by
    unfold mtS at h
    split at h
    · split at h
      · rename_i q
        cases h
        simp only [Bool.and_eq_true, decide_eq_true_eq] at q
        obtain ⟨⟨⟨⟨q0, q1⟩, q2⟩, q3⟩, q4⟩ := q
        obtain ⟨s1, s2, s3⟩ := store_of G q1
        exact ⟨s_setO (io_ne G q0) (ndX G) s1 s2 s3 q2 (sndE e X sc sc μ .O none W _ G q3) (swaps_of q4), .some⟩
      · split at h
        · split at h
          · rename_i q
            cases h
            simp only [Bool.and_eq_true, decide_eq_true_eq] at q
            obtain ⟨⟨⟨q0, q1⟩, q2⟩, q3⟩ := q
            exact ⟨setLc_of (o := true) G q1 q2 q3 rfl (fun _ => io_ne G q0), .some⟩
          · cases h
        · cases h
    · cases h
  | .setT is e, X, sc, μ, μc, W, st, r, G, P, h => by
    unfold mtS at h
    split at h
    · split at h
      · rename_i q
        cases h
        simp only [Bool.and_eq_true, decide_eq_true_eq] at q
        obtain ⟨⟨⟨⟨q1, q2⟩, q3⟩, q4⟩, q5⟩ := q
        have hg := tg_of G q1
        have hlt := tgSlots_lt q1
        have nd : is.Nodup := by
          simp only [mtTg, Bool.and_eq_true, decide_eq_true_eq] at q1
          exact q1.1.2
        exact ⟨(ps_asg (sndE (Φ := Φ) e X sc sc μ .V none W _ G q3) hg solo_of (stores_of q5) rfl).weak (setT_rd (fun i hi => by rw [q2]; exact hlt i hi) nd), .some⟩
      · cases h
    · cases h
  | .setIdx i k e, X, sc, μ, μc, W, st, r, G, P, h => by
    unfold mtS at h
    split at h
    · split at h
      · rename_i q
        cases h
        simp only [Bool.and_eq_true, decide_eq_true_eq] at q
        obtain ⟨⟨⟨⟨q1, q2⟩, q3⟩, q4⟩, q5⟩ := q
        obtain ⟨s1, s2, s3, s4⟩ := slot_of G q1
        exact ⟨s_setIdx (Nat.lt_of_le_of_lt (Nat.add_le_add_left (by decide) _) G.un) s1 s2 s3 s4 q2 (sndE e X sc sc μ .V none W _ G q5) (sndE k X sc sc μ .B none W _ G q4) (asgSub_of q3) soloS_of storesS_of rfl, .some⟩
      · cases h
    · cases h
  | .app i e, X, sc, μ, μc, W, st, r, G, P, h => by
    unfold mtS at h
    split at h
    · split at h
      · rename_i q
        cases h
        simp only [Bool.and_eq_true, decide_eq_true_eq] at q
        obtain ⟨⟨⟨⟨⟨rfl, q0⟩, q1⟩, q2⟩, q3⟩, q4⟩ := q
        obtain ⟨s1, s2, s3, s4⟩ := slot_of G q1
        exact ⟨s_app s1 s2 s3 s4 q2 (sndE e X sc sc μ .V none W _ G q4) name_base (few_of q3) q0 (star_of q3) (swaps_of rfl), .some⟩
      · cases h
    · cases h
  | .ext i e, X, sc, μ, μc, W, st, r, G, P, h => by
    unfold mtS at h
    split at h
    · split at h
      · rename_i q
        cases h
        simp only [Bool.and_eq_true, decide_eq_true_eq] at q
        obtain ⟨⟨⟨⟨⟨rfl, q0⟩, q1⟩, q2⟩, q3⟩, q4⟩ := q
        obtain ⟨s1, s2, s3, s4⟩ := slot_of G q1
        exact ⟨s_ext G.K s1 s2 s3 s4 q2 (sndE e X sc sc μ .B none W _ G q4) name_base (few_of q3) q0 (star_of q3) (swaps_of rfl), .some⟩
      · cases h
    · cases h
  | .rev i, X, sc, μ, μc, W, st, r, G, P, h => by
    unfold mtS at h
    split at h
    · split at h
      · rename_i q
        cases h
        simp only [Bool.and_eq_true, decide_eq_true_eq] at q
        obtain ⟨⟨⟨rfl, q0⟩, q1⟩, q2⟩ := q
        obtain ⟨s1, s2, s3, s4⟩ := slot_of G q1
        exact ⟨s_rev s1 s2 s3 s4 q2 name_base q0 (swaps_of rfl), .some⟩
      · cases h
    · cases h
  | .aug i e, X, sc, μ, μc, W, st, r, G, P, h => by
    unfold mtS at h
    split at h
    · split at h
      · rename_i q
        cases h
        simp only [Bool.and_eq_true, decide_eq_true_eq] at q
        obtain ⟨⟨q1, q2⟩, q3⟩ := q
        obtain ⟨s1, s2, s3⟩ := store_of G q1
        exact ⟨s_aug (ndX G) s1 s2 s3 q2 (sndE e X sc sc μ .B none W _ G q3), .some⟩
      · cases h
    · cases h
  | .expr e, X, sc, μ, μc, W, st, r, G, P, h => by
    unfold mtS at h
    split at h
    · split at h
      · rename_i q
        cases h
        simp only [Bool.and_eq_true, decide_eq_true_eq] at q
        exact ⟨s_expr (sndE e X sc sc μ .B none W _ G q.1) (swaps_of q.2), .some⟩
      · cases h
    · cases h
  | .ife t a b, X, sc, μ, μc, W, st, r, G, P, h => by
    unfold mtS at h
    split at h
    · split at h
      · rename_i q
        split at h
        · rename_i ra rb ha hb
          split at h
          · rename_i l
            cases h
            simp only [Bool.and_eq_true] at l
            obtain ⟨k1, n1⟩ := sndSs a X sc μ μc W _ _ G P ha
            obtain ⟨k2, n2⟩ := sndSs b X sc μ μc W _ _ G P hb
            refine ⟨(s_if (sndT t X sc sc μ W _ G q).1 k1 k2 (LeO.of l.1) (LeO.of l.2) n1 n2).weak ?_, fun hr ρ ρ' e => ?_⟩
            · rintro E σ H ⟨ρ, F, S, h⟩
              refine ⟨ρ, F, S, ?_⟩
              have e : evS Φ (.ife t a b) ρ = evIf (asB (evE Φ t)) (evSs Φ a) (evSs Φ b) ρ := by
                show FL.of (evE Φ t ρ) (fun x => FL.of (R.of (boolD x)) fun t => if t then evSs Φ a ρ else evSs Φ b ρ) = FL.of ((evE Φ t ρ).bind fun x => R.of (boolD x)) fun t => if t then evSs Φ a ρ else evSs Φ b ρ
                cases evE Φ t ρ <;> rfl
              rw [← e]
              exact h
            have hab : ra = none ∧ rb = none := by
              cases ra <;> cases rb <;> simp only [meetO] at hr <;> first | exact ⟨rfl, rfl⟩ | cases hr
            have e : FL.of (evE Φ t ρ) (fun x => FL.of (R.of (boolD x)) fun t => if t then evSs Φ a ρ else evSs Φ b ρ) = .nx ρ' := e
            cases q1 : evE Φ t ρ with
            | exc => rw [q1] at e; cases e
            | stuck => rw [q1] at e; cases e
            | ok d =>
              rw [q1] at e
              have e : FL.of (R.of (boolD d)) (fun t => if t then evSs Φ a ρ else evSs Φ b ρ) = .nx ρ' := e
              cases q2 : boolD d with
              | none => rw [q2] at e; cases e
              | some k =>
                rw [q2] at e
                cases k with
                | true => exact n1 hab.1 ρ ρ' e
                | false => exact n2 hab.2 ρ ρ' e
          · cases h
        · cases h
      · cases h
    · cases h
  | .for tg it body dead, X, sc, μ, μc, W, st, r, G, P, h => by
    unfold mtS at h
    split at h
    · split at h
      · rename_i q
        simp only [Bool.and_eq_true, decide_eq_true_eq, List.all_eq_true] at q
        obtain ⟨⟨⟨⟨⟨q1, q2⟩, q3⟩, q4⟩, q5⟩, q6⟩ := q
        split at h
        · rename_i rb hb
          split at h
          · rename_i l
            cases h
            obtain ⟨k1, n1⟩ := sndSs body X sc _ _ W _ _ G P hb
            have hi := sndE (Φ := Φ) it X sc sc μ .V (some _) W _ G q6 rfl
            rw [q4] at hi
            have hT : TgS c tg μ.length (gOf c.K tg) := by rw [q3]; exact tgS_of q2
            refine ⟨(s_for (fr := fr) (μc := μc) P.pass G.calm hi (tg_of G q2) hT k1 (fun m hm => by
              subst hm
              exact Le.of l) n1 (keepSs Φ body) q5 (folded_of q1)).weak ?_, .some⟩
            rintro E σ H ⟨ρ, F, S, h⟩
            refine ⟨ρ, F, S, ?_⟩
            have e : evS Φ (.for tg it body dead) ρ = evFor tg (evI Φ it) dead (evSs Φ body) ρ := by
              show FL.of (evE Φ it ρ) (fun s => FL.of (R.of (itemsOf s)) fun xs => forL dead (fun x ρ => FL.of (bindT tg x ρ) fun ρ' => evSs Φ body ρ') xs ρ) = FL.of ((evE Φ it ρ).bind fun s => R.of (itemsOf s)) fun xs => forL dead (turnF tg (evSs Φ body)) xs ρ
              cases evE Φ it ρ <;> rfl
            rw [← e]
            exact h
          · cases h
        · cases h
      · exact mtW_ok G P h
    · cases h
  | .ret e, X, sc, μ, μc, W, st, r, G, P, h => by
    unfold mtS at h
    split at h
    · split at h
      · split at h
        · rename_i q
          cases h
          exact ⟨s_retN (io_none G (of_decide_eq_true q)), fun _ ρ ρ' => rt_nx Φ _ ρ ρ'⟩
        · cases h
      · cases h
    · split at h
      · rename_i q
        cases h
        rw [Bool.and_eq_true, decide_eq_true_eq] at q
        exact ⟨s_ret (io_none G q.1) (sndE e X sc sc μ _ none W _ G q.2), fun _ ρ ρ' => rt_nx Φ _ ρ ρ'⟩
      · split at h
        · split at h
          · rename_i q
            cases h
            simp only [Bool.and_eq_true, decide_eq_true_eq] at q
            obtain ⟨s1, s2, s3, s4⟩ := slot_of G q.1.2
            exact ⟨s_retO (io_none G q.1.1) s1 s2 s3 s4 q.2, fun _ ρ ρ' => rt_nx Φ _ ρ ρ'⟩
          · cases h
        · split at h
          · rename_i q
            cases h
            simp only [Bool.and_eq_true, decide_eq_true_eq] at q
            obtain ⟨p, hp⟩ := io_some G q.1.1
            refine ⟨?_, fun _ ρ ρ' => rt_nx Φ _ ρ ρ'⟩
            rw [funext (ev_retIO Φ _ _)]
            exact s_retIO hp q.1.2 (sndE _ X sc sc μ .V none W _ G q.2)
          · cases h
        · cases h
    · cases h
  | .cont, X, sc, μ, μc, W, st, r, G, P, h => by
    unfold mtS at h
    split at h
    · split at h
      · rename_i q
        cases h
        have l := Le.of q
        exact ⟨s_cont l.2 l.1, fun _ ρ ρ' e => by cases e⟩
      · cases h
    · cases h
  | .frz _, X, sc, μ, μc, W, st, r, G, P, h => by cases h
  | .sdef _ _ _, X, sc, μ, μc, W, st, r, G, P, h => by cases h
  | .raise k none, X, sc, μ, μc, W, st, r, G, P, h => by
    unfold mtS at h
    split at h
    · split at h
      · rename_i q
        cases h
        simp only [Bool.and_eq_true, decide_eq_true_eq] at q
        obtain ⟨⟨rfl, q2⟩, q3⟩ := q
        obtain ⟨hk, C, h1, h2, h3, h4, h5, _⟩ := (G.exc k q2.1).lo q2.2
        refine ⟨s_raise G.calm G.tk (pmk_own PySem.F.excBase_ValueError (by rw [G.K]; exact h2) (by rw [G.mg]; exact h1) (by rw [G.K]; exact h3) (raises_own (by rw [G.K]; exact h4) (by rw [G.K]; exact h5)) (gl_of G q3) (exc_dbg hk)) h1 (by omega), fun _ ρ ρ' e => by cases e⟩
      · cases h
    · cases h
  | .raise _ (some _), X, sc, μ, μc, W, st, r, G, P, h => by cases h
  | .try body cs none hd, X, sc, μ, μc, W, st, r, G, P, h => by
    unfold mtS at h
    split at h
    · split at h
      · rename_i q i e b x np y py ex pos pos' pos2 hq
        simp only [Bool.and_eq_true, decide_eq_true_eq] at hq
        obtain ⟨⟨⟨⟨⟨rfl, q2⟩, q3⟩, q4⟩, q5⟩, q6⟩ := hq
        split at h
        · rename_i rb hb
          split at h
          · rename_i hl
            cases h
            rw [Bool.and_eq_true] at hl
            obtain ⟨s1, s2, s3⟩ := store_of G q4
            obtain ⟨ce, cn, d, cd⟩ := const_of (Φ := Φ) q6
            have hx := (G.exc q q2.1).lo q2.2
            have hnd : X.N.Nodup := ndX G
            obtain ⟨hk, _⟩ := id hx
            have n1 := (sndSs body X sc μ μc W _ _ G P hb).2
            have ks := s_try (fr := fr) (msh := [i]) (msb := modSs body) (evb := evSs Φ body) (evh := evSet i (evE Φ e)) (b₀ := .Assign [.Name y py] ex pos) (suite := []) (np := np) (pos' := pos') (pos := pos2) G.K P.st P.fr G.tk hx G.mg (gl_of G q3) (exc_dbg hk) rfl (fun W' pn xe tk ps => (sndSs body (X.tr pn xe) sc μ μc W' _ _ (G.tr tk) ⟨ps, P.st, P.fr⟩ hb).1)
              (fun a pn => pss_one (s_set (X := X.suite a pn) hnd s1 s2 s3 (by rw [msets_length]; exact q5) (ce _ _ _ _) (swaps_of cn))) (LeO.of hl.1) (LeO.of hl.2) (fun hr ρ ρ' => n1 hr ρ ρ') (fun z => by cases z) (fun ρ x r z => by
                unfold evSet at z
                rw [cd ρ] at z
                cases z)
            have ev : evS Φ (.try body [q] none [.set i e]) = evTry [q] (evSs Φ body) (evSet i (evE Φ e)) := by
              funext ρ
              show (match evSs Φ body ρ with | .exc c r => if [q].any (isCl (.exc c r)) then evSs Φ [.set i e] ρ else .exc c r | f => f) = _
              have e1 : evSs Φ [.set i e] ρ = evSet i (evE Φ e) ρ := by
                show (evS Φ (.set i e) ρ).seq (fun ρ' => .nx ρ') = _
                show (evSet i (evE Φ e) ρ).seq (fun ρ' => .nx ρ') = _
                unfold evSet
                rw [cd ρ]; rfl
              unfold evTry
              cases evSs Φ body ρ <;> simp only [e1]
            have hm : modS (.try body [q] none [.set i e]) = modSs body ++ [i] := by simp [modS, modSs]
            rw [ev, hm]
            refine ⟨ks, ?_⟩
            cases rb <;> exact .some
          · cases h
        · cases h
      · cases h
    · cases h
  | .try body cs (some i) hd, X, sc, μ, μc, W, st, r, G, P, h => by
    unfold mtS at h
    split at h
    · split at h
      · rename_i q j es b x np n y py xs lp pos pos2 pos3 hq
        simp only [Bool.and_eq_true, decide_eq_true_eq] at hq
        obtain ⟨⟨⟨⟨⟨⟨⟨⟨⟨⟨⟨⟨⟨rfl, q2⟩, q3⟩, q4⟩, q5⟩, q6⟩, q7⟩, q8⟩, q9⟩, q10⟩, q11⟩, q12⟩, q13⟩, q14⟩ := hq
        split at h
        · rename_i rb hb
          split at h
          · rename_i hl
            cases h
            rw [Bool.and_eq_true] at hl
            obtain ⟨s1, s2, s3⟩ := store_of G q4
            have hx := (G.exc q q2.1).lo q2.2
            have hnd : X.N.Nodup := ndX G
            obtain ⟨hk, _⟩ := id hx
            have n1 := (sndSs body X sc μ μc W _ _ G P hb).2
            have hi : i < μ.length := (List.getElem?_eq_some_iff.mp q6).1
            have nd : (n == ("__debug__" : PySem.Str)) = false ∧ (n == ("__classdict__" : PySem.Str)) = false := by
              unfold notDbg at q10
              simpa using q10
            have ks := s_tryI (fr := fr) (W := W) (msb := modSs body) (μ := μ) (evb := evSs Φ body) (evh := evSs Φ [.set j (.lst es)]) (np := np) (pos := pos) (pos2 := pos2) (pos3 := pos3) (py := py) (lp := lp) (i := i) (j := j) (mes := es) (es := xs) (n := n) (y := y) (xs := sg.xs) (sc := sc)
              (fun ρ k r hr => by
                obtain ⟨e1, e2⟩ := evs_isi (Φ := Φ) (ρ := setE ρ i (.exc k r)) (getE_set hr) es xs q12
                have e3 : evSs Φ [.set j (.lst es)] (setE ρ i (.exc k r)) = (FL.of ((evEs Φ es (setE ρ i (.exc k r))).bind fun xs => .ok (.lst xs)) fun d => .nx (setE (setE ρ i (.exc k r)) j d)).seq (fun ρ' => .nx ρ') := rfl
                rw [e3]
                by_cases k8 : k < 8
                · rw [e1 k8, if_pos k8]; rfl
                · rw [e2 k8 q14, if_neg k8]; rfl)
              G.K P.st P.fr G.tk hx G.mg (gl_of G q3) (exc_dbg hk) rfl G.exc q11 (fun z hz => gl_of G hz) (by rw [G.mg]; exact G.blt _ (by decide +kernel)) hnd (by rw [G.names]; exact q8) (by show X.env.scope.names.lookup n = _; rw [G.sc]; exact q9) nd.1 nd.2 s1 s2 s3 q5 q6 q7 (swaps_of rfl) q12 q13
              (fun W' pn xe tk ps => (sndSs body (X.tr pn xe) sc μ μc W' _ _ (G.tr tk) ⟨ps, P.st, P.fr⟩ hb).1) (LeO.of hl.1) (LeO.of hl.2) (fun hr ρ ρ' => n1 hr ρ ρ')
            have ev : evS Φ (.try body [q] (some i) [.set j (.lst es)]) = evTryI q i (evSs Φ body) (evSs Φ [.set j (.lst es)]) := by
              funext ρ
              show (match evSs Φ body ρ with | .exc c r => if [q].any (isCl (.exc c r)) then evSs Φ [.set j (.lst es)] (setE ρ i (.exc c r)) else .exc c r | f => f) = _
              unfold evTryI
              cases evSs Φ body ρ <;> rfl
            have hm : modS (.try body [q] (some i) [.set j (.lst es)]) = modSs body ++ [i, j] := by simp [modS, modSs]
            rw [ev, hm]
            refine ⟨ks, ?_⟩
            cases rb <;> exact .some
          · cases h
        · cases h
      · cases h
    · cases h
  | .whl _ _ _ _, X, sc, μ, μc, W, st, r, G, P, h => by cases h
  | .eff t i f mes s, X, sc, μ, μc, W, st, r, G, P, h => by
    unfold mtS at h
    split at h
    · rename_i q
      simp only [Bool.and_eq_true, decide_eq_true_eq] at q
      exact sndF t i f mes s X sc μ μc W st r G P q.1 q.2 h
    · cases h
theorem sndF (t i f : Nat) (mes : List ME) : ∀ (s : MS) (X : Cx) (sc : Scope) (μ μc : List Md) (W : WX) (st : Stmt) (r : Option (List Md)), Gd X c sc sc sg N Φ W → At X → μ[t]? = some .dead → μ[i]? = some .own → mtF sg N fr t i f mes s sc μ μc st = some r →
    PS X st (rS c W μ r μc (modS (.eff t i f mes s)) fr (evS Φ (.eff t i f mes s))) ∧ NoNx r (evS Φ (.eff t i f mes s))
  | .set j e, X, sc, μ, μc, W, st, r, G, P, q1, q2, h => by
    unfold mtF at h
    split at h
    · split at h
      · rename_i q
        cases h
        simp only [Bool.and_eq_true, decide_eq_true_eq] at q
        obtain ⟨⟨⟨⟨q3, q4⟩, q5⟩, q6⟩, q7⟩ := q
        obtain ⟨s1, s2, s3⟩ := store_of G q3
        exact ⟨sx_set (ndX G) s1 s2 s3 q4 (fun _ _ _ => eff_noexc) (fun _ _ _ => stab_noexc e q5) (sndX t i f mes e X sc μ .V W _ G q1 q2 q6) (swaps_of q7), .some⟩
      · cases h
    · cases h
  | .app j e, X, sc, μ, μc, W, st, r, G, P, q1, q2, h => by
    unfold mtF at h
    split at h
    · split at h
      · rename_i q
        cases h
        simp only [Bool.and_eq_true, decide_eq_true_eq] at q
        obtain ⟨⟨⟨⟨⟨⟨⟨⟨hjt, q3⟩, rfl⟩, q4⟩, q5⟩, q6⟩, q7⟩, q8⟩, q9⟩ := q
        obtain ⟨s1, s2, s3, s4⟩ := slot_of G q5
        exact ⟨sx_app s1 s2 s3 s4 q6 (fun _ _ _ => eff_noexc) (fun _ _ _ => stab_noexc e q8) (fun ρ ρ' z => eff_out z j (by simp [hjt, q3])) (sndX t i f mes e X sc μ .V W _ G q1 q2 q9) name_base (few_of q7) q4 (star_of q7) (swaps_of rfl), .some⟩
      · cases h
    · cases h
  | .ret e0, X, sc, μ, μc, W, st, r, G, P, q1, q2, h => by
    unfold mtF at h
    split at h
    · split at h
      · rename_i e k x pos q
        cases h
        simp only [Bool.and_eq_true, decide_eq_true_eq] at q
        obtain ⟨⟨⟨q3, q4⟩, q5⟩, q6⟩ := q
        obtain ⟨p, hp⟩ := io_some G q3
        refine ⟨?_, fun _ ρ ρ' z => ?_⟩
        · have e2 : evS Φ (.eff t i f mes (.ret (.tup [e, .v k]))) = evEff (effR Φ t i f mes) (evS Φ (.ret (.tup [e, .v k]))) := rfl
          rw [e2, funext (ev_retIO Φ e k)]
          exact sx_ret hp q4 (fun _ _ _ => eff_noexc) (fun _ _ _ => stab_noexc e q5) (sndX t i f mes e X sc μ .V W _ G q1 q2 q6)
        · have z : FL.of (effR Φ t i f mes ρ) (fun ρ' => evS Φ (.ret (.tup [e, .v k])) ρ') = .nx ρ' := z
          obtain ⟨ρ1, _, z⟩ := fl_nx1 z
          exact rt_nx Φ _ ρ1 ρ' z
      · cases h
    · cases h
  | .ife c0 a b, X, sc, μ, μc, W, st, r, G, P, q1, q2, h => by
    unfold mtF at h
    split at h
    · split at h
      · rename_i o ca cb l op rx p1 p q0 p2 q
        simp only [Bool.and_eq_true, decide_eq_true_eq] at q
        obtain ⟨⟨⟨⟨⟨rfl, q4⟩, q5⟩, q6⟩, q7⟩, q8⟩ := q
        split at h
        · rename_i ra rb ha hb
          split at h
          · rename_i l
            cases h
            simp only [Bool.and_eq_true] at l
            obtain ⟨k1, n1⟩ := sndSs a X sc μ μc W _ _ G P ha
            obtain ⟨k2, n2⟩ := sndSs b X sc μ μc W _ _ G P hb
            have hT : PT X _ (rXT c μ (effR Φ t i f mes) (asB (evE Φ (.cmp o ca cb)))) := xt_cmp (pos := p1) (o_cmp G.K (Nat.lt_of_le_of_lt (Nat.le_succ _) G.un) o) (sndX t i f mes ca X sc μ .B W _ G q1 q2 q7) (sndE cb X sc sc μ .B none W _ G q8) (behind_of q4)
            have ev : evS Φ (.eff t i f mes (.ife (.cmp o ca cb) a b)) = evEff (effR Φ t i f mes) (evIf (asB (evE Φ (.cmp o ca cb))) (evSs Φ a) (evSs Φ b)) := by
              funext ρ
              show FL.of (effR Φ t i f mes ρ) (fun ρ' => evS Φ (.ife (.cmp o ca cb) a b) ρ') = FL.of (effR Φ t i f mes ρ) (evIf (asB (evE Φ (.cmp o ca cb))) (evSs Φ a) (evSs Φ b))
              congr 1
              funext ρ
              show FL.of (evE Φ (.cmp o ca cb) ρ) (fun x => FL.of (R.of (boolD x)) fun t => if t then evSs Φ a ρ else evSs Φ b ρ) = FL.of ((evE Φ (.cmp o ca cb) ρ).bind fun x => R.of (boolD x)) fun t => if t then evSs Φ a ρ else evSs Φ b ρ
              cases evE Φ (.cmp o ca cb) ρ <;> rfl
            rw [ev]
            refine ⟨sx_if (ms := modS (.eff t i f mes (.ife (.cmp o ca cb) a b))) (fun _ _ _ => eff_noexc) (fun ρ ρ' z j hj => eff_out z j fun hm => hj (List.mem_append_left _ hm)) (fun ρ x r => ?_) hT k1 k2 (LeO.of l.1) (LeO.of l.2) n1 n2 (fun j hj => List.mem_append_right _ (List.mem_append_left _ hj)) (fun j hj => List.mem_append_right _ (List.mem_append_right _ hj)), fun hr ρ ρ' e => ?_⟩
            · exact bind_noexc (stab_noexc (bad := []) (.cmp o ca cb) (by simp only [stab, q5, q6, Bool.and_self])) fun _ => of_noexc
            · have hab : ra = none ∧ rb = none := by
                cases ra <;> cases rb <;> simp only [meetO] at hr <;> first | exact ⟨rfl, rfl⟩ | cases hr
              obtain ⟨ρ1, _, e⟩ := fl_nx1 e
              obtain ⟨t, _, e⟩ := fl_nx1 e
              cases t with
              | true => exact n1 hab.1 ρ1 ρ' e
              | false => exact n2 hab.2 ρ1 ρ' e
          · cases h
        · cases h
      · cases h
    · cases h
  | .for tg it0 body dead, X, sc, μ, μc, W, st, r, G, P, q1, q2, h => by
    unfold mtF at h
    split at h
    · split at h
      · rename_i e tt y p1 l p2 b p3 q
        simp only [Bool.and_eq_true, decide_eq_true_eq] at q
        obtain ⟨⟨⟨⟨⟨⟨rfl, q3⟩, q4⟩, q5⟩, q6⟩, q7⟩, q8⟩ := q
        split at h
        · rename_i rb hb
          split at h
          · rename_i l
            cases h
            obtain ⟨k1, n1⟩ := sndSs body X sc _ _ W _ _ G P hb
            have hT : TgS c tg μ.length (gOf c.K tg) := by rw [q6]; exact tgS_of q5
            have hI := xi_rng (tg := tt) (p := p1) (pos := p2) (gl_of G q3) (by rw [G.mg]; exact G.blt _ (by decide +kernel)) (sndX t i f mes e X sc μ .B W _ G q1 q2 q8) (star_of q4)
            have ev : evS Φ (.eff t i f mes (.for tg (.rng [e]) body dead)) = evEff (effR Φ t i f mes) (evFor tg (fun ρ => ((evE Φ e ρ).bind fun x => R.of (rngD [x])).bind fun s => R.of (itemsOf s)) dead (evSs Φ body)) := by
              funext ρ
              show FL.of (effR Φ t i f mes ρ) (fun ρ' => evS Φ (.for tg (.rng [e]) body dead) ρ') = FL.of (effR Φ t i f mes ρ) _
              congr 1
              funext ρ
              show FL.of (((evE Φ e ρ).bind fun x => (R.ok []).bind fun xs => .ok (x :: xs)).bind fun xs => R.of (rngD xs)) (fun s => FL.of (R.of (itemsOf s)) fun xs => forL dead (fun x ρ => FL.of (bindT tg x ρ) fun ρ' => evSs Φ body ρ') xs ρ) = FL.of (((evE Φ e ρ).bind fun x => R.of (rngD [x])).bind fun s => R.of (itemsOf s)) fun xs => forL dead (turnF tg (evSs Φ body)) xs ρ
              cases evE Φ e ρ with
              | stuck => rfl
              | exc => rfl
              | ok x =>
                simp only [R.ok_bind]
                cases rngD [x] <;> rfl
            rw [ev]
            exact ⟨sx_for (fr := fr) (μc := μc) (ms := modS (.eff t i f mes (.for tg (.rng [e]) body dead))) P.pass G.calm (fun _ _ _ => eff_noexc) (fun ρ ρ' z j hj => eff_out z j fun hm => hj (List.mem_append_left _ hm)) (fun ρ x r => bind_noexc (bind_noexc (stab_noexc e q7) fun _ => of_noexc) fun _ => of_noexc) hI (tg_of G q5) hT k1 (fun m hm => by
              subst hm
              exact Le.of l) n1 (keepSs Φ body) (fun j hj => List.mem_append_right _ hj) (folded_of rfl), .some⟩
          · cases h
        · cases h
      · cases h
    · cases h
  | .seto _ _, X, sc, μ, μc, W, st, r, G, P, q1, q2, h => by cases h
  | .setT _ _, X, sc, μ, μc, W, st, r, G, P, q1, q2, h => by cases h
  | .setIdx _ _ _, X, sc, μ, μc, W, st, r, G, P, q1, q2, h => by cases h
  | .ext _ _, X, sc, μ, μc, W, st, r, G, P, q1, q2, h => by cases h
  | .rev _, X, sc, μ, μc, W, st, r, G, P, q1, q2, h => by cases h
  | .sdef _ _ _, X, sc, μ, μc, W, st, r, G, P, q1, q2, h => by cases h
  | .aug _ _, X, sc, μ, μc, W, st, r, G, P, q1, q2, h => by cases h
  | .expr _, X, sc, μ, μc, W, st, r, G, P, q1, q2, h => by cases h
  | .frz _, X, sc, μ, μc, W, st, r, G, P, q1, q2, h => by cases h
  | .raise _ _, X, sc, μ, μc, W, st, r, G, P, q1, q2, h => by cases h
  | .try _ _ _ _, X, sc, μ, μc, W, st, r, G, P, q1, q2, h => by cases h
  | .cont, X, sc, μ, μc, W, st, r, G, P, q1, q2, h => by cases h
  | .whl _ _ _ _, X, sc, μ, μc, W, st, r, G, P, q1, q2, h => by cases h
  | .eff _ _ _ _ _, X, sc, μ, μc, W, st, r, G, P, q1, q2, h => by cases h
theorem sndSs : ∀ (ss : List MS) (X : Cx) (sc : Scope) (μ μc : List Md) (W : WX) (sts : List Stmt) (r : Option (List Md)), Gd X c sc sc sg N Φ W → At X → mtSs sg N fr ss sc μ μc sts = some r →
    PSs X sts (rS c W μ r μc (modSs ss) fr (evSs Φ ss)) ∧ NoNx r (evSs Φ ss)
  | [], X, sc, μ, μc, W, sts, r, G, P, h => by
    unfold mtSs at h
    split at h
    · cases h; exact ⟨ss_nil, .some⟩
    · cases h; exact ⟨ss_pass, .some⟩
    · cases h
  | s :: ss, X, sc, μ, μc, W, sts, r, G, P, h => by
    unfold mtSs at h
    split at h
    · rename_i i
      split at h
      · rename_i q
        obtain ⟨k, n⟩ := sndSs ss X sc _ μc W _ _ G P h
        exact ⟨ss_frz (of_decide_eq_true q) k, fun hr ρ ρ' e => n hr ρ ρ' e⟩
      · cases h
    · split at h
      · cases h
      · split at h
        · rename_i q
          split at h
          · rename_i ha
            obtain ⟨k1, n1⟩ := sndS s X sc μ μc W _ _ G P q
            obtain ⟨k2, n2⟩ := sndSs ss X sc _ μc W _ _ G P h
            unfold agree at ha
            simp only [Bool.and_eq_true, decide_eq_true_eq, List.all_eq_true, List.mem_range, Bool.or_eq_true] at ha
            refine ⟨ss_cons k1 k2 (keepS Φ s) ha.1 fun i hi => ?_, fun hr ρ ρ' e => ?_⟩
            · by_cases hl : i < μ.length
              · rcases ha.2 i hl with z | z
                · exact absurd z hi
                · exact z
              · rw [List.getElem?_eq_none (by omega), List.getElem?_eq_none (by omega)]
            · have e : (evS Φ s ρ).seq (fun ρ' => evSs Φ ss ρ') = .nx ρ' := e
              cases q1 : evS Φ s ρ with
              | nx ρ1 => rw [q1] at e; exact n2 hr ρ1 ρ' e
              | rt d => rw [q1] at e; cases e
              | ct d => rw [q1] at e; cases e
              | exc x y => rw [q1] at e; cases e
              | stuck => rw [q1] at e; cases e
          · cases h
        · rename_i q
          split at h
          · cases h
            obtain ⟨k1, n1⟩ := sndS s X sc μ μc W _ _ G P q
            refine ⟨ss_last k1 (n1 rfl), fun hr ρ ρ' e => ?_⟩
            have e : (evS Φ s ρ).seq (fun ρ' => evSs Φ [] ρ') = .nx ρ' := e
            cases q1 : evS Φ s ρ with
            | nx ρ1 => exact n1 rfl ρ ρ1 q1
            | rt d => rw [q1] at e; cases e
            | ct d => rw [q1] at e; cases e
            | exc x y => rw [q1] at e; cases e
            | stuck => rw [q1] at e; cases e
          · cases h
        · cases h
end
end
end Mi

/-! Mi, part F: the defs of a text keep their promises. -/
namespace Mi
open PySem L2 PySem.Spec PyProof.Rows

section
variable {K : PySem.W.Frag} {mg : PySem.Str → Option Value} {B F0 B' F0' : Hp} {io io' : Option (Nat × Addr)}
theorem Args.cn (B1 F H : Hp) : ∀ (pm : List Md) (ds : List D) (vs : List V), Args ⟨K, mg, B, F0, io⟩ B1 F H pm ds vs = Args ⟨K, mg, B', F0', io'⟩ B1 F H pm ds vs
  | [], [], [] => by simp only [Args]
  | [], [], _ :: _ => by simp only [Args]
  | [], _ :: _, _ => by simp only [Args]
  | _ :: _, [], _ => by simp only [Args]
  | _ :: _, _ :: _, [] => by simp only [Args]
  | m :: ms, d :: ds, v :: vs => by
    simp only [Args, Args.cn B1 F H ms ds vs]
    cases m
    · rfl
    · simp only [Rp.cn (B := B) (F0 := F0) (B' := B') (F0' := F0') (io := io) (io' := io') F]
    · simp only [Ob.cn (B := B) (F0 := F0) (B' := B') (F0' := F0') (io := io) (io' := io') F]
    · simp only [Rb.cn (B := B) (F0 := F0) (B' := B') (F0' := F0') (io := io) (io' := io') F]
    · simp only [Ob.cn (B := B) (F0 := F0) (B' := B') (F0' := F0') (io := io) (io' := io') F]
theorem ResR.cn (pm : List Md) (fr : Bool) (B1 F H : Hp) (vs : List V) (d : D) (v : V) : ResR ⟨K, mg, B, F0, io⟩ pm fr B1 F H vs d v = ResR ⟨K, mg, B', F0', io'⟩ pm fr B1 F H vs d v := by
  unfold ResR
  split
  · simp only [Rp.cn (B := B) (F0 := F0) (B' := B') (F0' := F0') (io := io) (io' := io') F, Ob.cn (B := B) (F0 := F0) (B' := B') (F0' := F0') (io := io) (io' := io') F]
  · exact Res.cn _ _ _ _ _ _
theorem spOf_cn {pm : List Md} {fr : Bool} {g : List D → R D} {vs : List V} {H : Hp} {Q : VK} {E : XK} (h : spOf ⟨K, mg, B, F0, io⟩ pm fr g vs H Q E) : spOf ⟨K, mg, B', F0', io'⟩ pm fr g vs H Q E := by
  obtain ⟨B1, F, ds, h1, h2, h3, h4, h5⟩ := h
  refine ⟨B1, F, ds, h1, h2, by rw [Args.cn (B' := B) (F0' := F0) (io' := io)]; exact h3, h4, ?_⟩
  cases q : g ds with
  | ok d =>
    rw [q] at h5
    intro v H' F' o r
    exact h5 v H' F' o (by rw [ResR.cn (B' := B') (F0' := F0') (io' := io')]; exact r)
  | exc x r => rw [q] at h5; exact h5
  | stuck => rw [q] at h5; exact h5
end

/-! ### entry -/
section
variable {c : Cn}
theorem Args.get : ∀ {pm : List Md} {B F H : Hp} {ds : List D} {vs : List V} {i : Nat} {m : Md}, Args c B F H pm ds vs → pm[i]? = some m → ∃ v d, vs[i]? = some v ∧ ds[i]? = some d ∧ (match m with
      | .imm => Rp c F d v
      | .bor => Rb c F B d v
      | .own => ∃ p, v = .ref p ∧ Ob c F H p d ∧ B p = none ∧ F p = none
      | .io => ∃ p, v = .ref p ∧ Ob c F H p d ∧ B p = none ∧ F p = none
      | .dead => False)
  | [], _, _, _, _, _, _, _, _, e => by simp at e
  | _ :: _, _, _, _, [], _, _, _, h, _ => by simp [Args] at h
  | _ :: _, _, _, _, _ :: _, [], _, _, h, _ => by simp [Args] at h
  | m :: ms, _, _, _, d :: ds, v :: vs, 0, k, h, e => by
    simp only [Args] at h
    have e : m = k := by simpa using e
    subst e
    exact ⟨v, d, rfl, rfl, h.1⟩
  | m :: ms, _, _, _, d :: ds, v :: vs, i + 1, k, h, e => by
    simp only [Args] at h
    obtain ⟨v', d', h1, h2, h3⟩ := Args.get (i := i) h.2 (by simpa using e)
    exact ⟨v', d', by simpa using h1, by simpa using h2, h3⟩
theorem Apart.sep : ∀ {pm : List Md} {vs : List V}, Apart pm vs → pm.length = vs.length → ∀ (i j : Nat) (v : V), pm[i]? = some Md.own → pm[j]? = some Md.own → vs[i]? = some v → vs[j]? = some v → i = j
  | [], _, _, _, i, _, _, h, _, _, _ => by simp at h
  | _ :: _, [], _, h, _, _, _, _, _, _, _ => by simp at h
  | m :: ms, u :: us, h, hl, i, j, v, h1, h2, h3, h4 => by
    have ih : Apart ms us := by
      cases m <;> simp only [Apart] at h <;> first | exact h | exact h.2
    cases i with
    | zero =>
      cases j with
      | zero => rfl
      | succ j =>
        have e1 : m = .own := by simpa using h1
        subst e1
        simp only [Apart] at h
        have e2 : u = v := by simpa using h3
        subst e2
        exact absurd (by simpa using h4) (h.1 j (by simpa using h2))
    | succ i =>
      cases j with
      | zero =>
        have e1 : m = .own := by simpa using h2
        subst e1
        simp only [Apart] at h
        have e2 : u = v := by simpa using h4
        subst e2
        exact absurd (by simpa using h3) (h.1 i (by simpa using h1))
      | succ j =>
        rw [Apart.sep ih (by simpa using hl) i j v (by simpa using h1) (by simpa using h2) (by simpa using h3) (by simpa using h4)]
theorem getE_at : ∀ {ρ : Env} {i : Nat} {d : D}, ρ[i]? = some (some d) → getE ρ i = .ok d
  | [], _, _, h => by simp at h
  | x :: r, 0, d, h => by
    have h : x = some d := by simpa using h
    subst h; rfl
  | x :: r, i + 1, d, h => by
    show getE r i = _
    exact getE_at (by simpa using h)
theorem start_at {N : List PySem.Str} {vs : List V} {i : Nat} {v : V} (h : vs[i]? = some v) : (start N vs)[i]? = some (some v) := by
  have hi := (List.getElem?_eq_some_iff.mp h).1
  unfold L2.start
  rw [List.getElem?_append_left (by simpa using hi), List.getElem?_map, h]; rfl
theorem envOf_at {ns : Nat} {ds : List D} {i : Nat} {d : D} (h : ds[i]? = some d) : (envOf ns ds)[i]? = some (some d) := by
  have hi := (List.getElem?_eq_some_iff.mp h).1
  unfold envOf
  rw [List.getElem?_append_left (by simpa using hi), List.getElem?_map, h]; rfl
/-- a param's mode as its slot has it -/
def mdIn : Md → Md
  | .io => .own
  | m => m
def mu0 (pm : List Md) (ns : Nat) : List Md := pm.map mdIn ++ List.replicate (ns - pm.length) .dead
/-- one argument at most is lent to be changed, the first; or none, and others are given away -/
def oneIO : List Md → Bool
  | .io :: ms => ms.all fun k => decide (k = .imm)
  | ms => ms.all fun k => decide (k ≠ .io)
theorem sr_start {K : PySem.W.Frag} {mg : PySem.Str → Option Value} {B F H : Hp} {pm : List Md} {ds : List D} {vs : List V} {N : List PySem.Str} {io : Option (Nat × Addr)} (h1 : Same B H) (h2 : Same F B) (h3 : Args ⟨K, mg, B, F, io⟩ B F H pm ds vs) (h4 : Apart pm vs) (hn : pm.length ≤ N.length) (ho : oneIO pm = true) (hio : ∀ i p, io = some (i, p) → vs[i]? = some (.ref p)) :
    SR ⟨K, mg, B, F, io⟩ (mu0 pm N.length) (envOf N.length ds) (start N vs) H F := by
  obtain ⟨l1, l2⟩ := h3.length
  have at_ : ∀ {i : Nat} {k : Md}, (mu0 pm N.length)[i]? = some k → k ≠ .dead → ∃ m, pm[i]? = some m ∧ mdIn m = k := fun {i k} e hk => by
    unfold mu0 at e
    by_cases hi : i < pm.length
    · rw [List.getElem?_append_left (by simpa using hi), List.getElem?_map, Option.map_eq_some_iff] at e
      obtain ⟨m, e1, e2⟩ := e
      exact ⟨m, e1, e2⟩
    · rw [List.getElem?_append_right (by simpa using hi), List.getElem?_replicate] at e
      split at e
      · cases e; exact absurd rfl hk
      · cases e
  have imm_ : ∀ {m : Md}, mdIn m = .imm → m = .imm := fun {m} e => by cases m <;> first | rfl | cases e
  have bor_ : ∀ {m : Md}, mdIn m = .bor → m = .bor := fun {m} e => by cases m <;> first | rfl | cases e
  have own_ : ∀ {m : Md}, mdIn m = .own → m = .own ∨ m = .io := fun {m} e => by cases m <;> first | exact .inl rfl | exact .inr rfl | cases e
  refine ⟨?_, ?_, h2.trans h1, h1, fun _ _ => rfl, fun i hi => ?_, fun i hi => ?_, fun i hi => ?_, fun i j p hi hj e1 e2 => ?_, fun i p e hi => ?_⟩
  · simp only [L2.start, mu0, List.length_append, List.length_map, List.length_replicate]; omega
  · simp only [envOf, mu0, List.length_append, List.length_map, List.length_replicate]; omega
  · obtain ⟨m, e1, e2⟩ := at_ hi (by decide)
    obtain rfl := imm_ e2
    obtain ⟨v, d, g1, g2, g3⟩ := h3.get e1
    exact ⟨v, d, start_at g1, getE_at (envOf_at g2), g3⟩
  · obtain ⟨m, e1, e2⟩ := at_ hi (by decide)
    obtain rfl := bor_ e2
    obtain ⟨v, d, g1, g2, g3⟩ := h3.get e1
    exact ⟨v, d, start_at g1, getE_at (envOf_at g2), g3⟩
  · obtain ⟨m, e1, e2⟩ := at_ hi (by decide)
    rcases own_ e2 with rfl | rfl
    · obtain ⟨v, d, g1, g2, p, rfl, g3, g4, g5⟩ := h3.get e1
      exact ⟨p, d, start_at g1, getE_at (envOf_at g2), g3, g4, g5⟩
    · obtain ⟨v, d, g1, g2, p, rfl, g3, g4, g5⟩ := h3.get e1
      exact ⟨p, d, start_at g1, getE_at (envOf_at g2), g3, g4, g5⟩
  · obtain ⟨m, g1, z1⟩ := at_ hi (by decide)
    obtain ⟨m', g2, z2⟩ := at_ hj (by decide)
    have z1 := own_ z1
    have z2 := own_ z2
    obtain ⟨v, d, k1, _⟩ := h3.get g1
    obtain ⟨u, d', k2, _⟩ := h3.get g2
    rw [start_at k1] at e1
    rw [start_at k2] at e2
    cases e1; cases e2
    -- with an argument that comes back there is no other one
    by_cases hb : ∃ ms, pm = .io :: ms
    · obtain ⟨ms, rfl⟩ := hb
      have ho : (ms.all fun k => decide (k = .imm)) = true := ho
      rw [List.all_eq_true] at ho
      have zero : ∀ {i : Nat} {m : Md}, (Md.io :: ms)[i]? = some m → (m = .own ∨ m = .io) → i = 0 := fun {i m} e z => by
        cases i with
        | zero => rfl
        | succ i =>
          have := of_decide_eq_true (ho m (List.mem_of_getElem? (by simpa using e)))
          subst this
          rcases z with z | z <;> cases z
      rw [zero g1 z1, zero g2 z2]
    · have ho : (pm.all fun k => decide (k ≠ .io)) = true := by
        match pm, hb, ho with
        | [], _, _ => rfl
        | .io :: ms, hb, _ => exact absurd ⟨ms, rfl⟩ hb
        | .own :: ms, _, ho => exact ho
        | .imm :: ms, _, ho => exact ho
        | .bor :: ms, _, ho => exact ho
        | .dead :: ms, _, ho => exact ho
      rw [List.all_eq_true] at ho
      have e1 : m = .own := z1.resolve_right fun z => of_decide_eq_true (ho m (List.mem_of_getElem? g1)) z
      have e2 : m' = .own := z2.resolve_right fun z => of_decide_eq_true (ho m' (List.mem_of_getElem? g2)) z
      subst e1; subst e2
      exact h4.sep l1.symm i j _ g1 g2 k1 k2
  · exact start_at (hio i p e)
end

theorem Args.ownOk {c : Cn} : ∀ {pm : List Md} {B F H : Hp} {ds : List D} {vs : List V}, Args c B F H pm ds vs → Mi.ownOk pm ds = true
  | [], _, _, _, _, _, _ => by unfold Mi.ownOk; rfl
  | m :: ms, _, _, _, [], vs, h => by cases m <;> rfl
  | m :: ms, _, _, _, d :: ds, [], h => by simp [Args] at h
  | m :: ms, _, _, _, d :: ds, v :: vs, h => by
    simp only [Args] at h
    have ih := Args.ownOk h.2
    cases m with
    | own =>
      obtain ⟨p, _, hO, _⟩ := h.1
      show (isOwn d && Mi.ownOk ms ds) = true
      rw [ih, Bool.and_true]
      cases d <;> first | rfl | exact hO.elim
    | io =>
      obtain ⟨p, _, hO, _⟩ := h.1
      show (isOwn d && Mi.ownOk ms ds) = true
      rw [ih, Bool.and_true]
      cases d <;> first | rfl | exact hO.elim
    | imm => exact ih
    | bor => exact ih
    | dead => exact ih
theorem phi_own {prog : Prog} {n f : Nat} {d : FD} {ds : List D} (hd : prog f = some d) (h : phi prog n f ds ≠ .stuck) : Mi.ownOk d.pm ds = true := by
  cases n with
  | zero => exact absurd rfl h
  | succ n =>
    have e : phi prog (n + 1) f ds = runB (phi prog n) d ds := by
      show (match prog f with | some fd => runB (phi prog n) fd ds | none => .stuck) = _
      rw [hd]
    rw [e] at h
    unfold runB at h
    split at h
    · rename_i q; exact q.2
    · exact absurd rfl h
/-! ### a text -/
structure TD where
  id : Nat
  name : PySem.Str
  N : List PySem.Str
  np : Nat
  st : Stmt
def sgOf (prog : Prog) (text : List TD) (xs cs : List Nat) (gs : List (PySem.Str × GC)) (io : Option Nat) : Sg := ⟨fun f => (text.find? fun t => decide (t.id = f)).bind fun t => (prog f).map fun d => (t.name, d.pm, d.fr), xs, cs, gs, io⟩
def ioOf (pm : List Md) : Option Nat := if ioB pm then some 0 else none
def chk (prog : Prog) (text : List TD) (xs cs : List Nat) (gs : List (PySem.Str × GC)) (t : TD) : Bool := match prog t.id with
  | some d => decide (t.np = d.np) && C8.scC t.N (t.N.take d.np) (defScope t.st) && decide (t.N.length = d.ns) && decide (d.pm.length = d.np) && decide (d.np ≤ d.ns) && oneIO d.pm && (match mtSs (sgOf prog text xs cs gs (ioOf d.pm)) t.N d.fr d.body (defScope t.st) (mu0 d.pm t.N.length) [] (defBody t.st) with
      | some none => true
      | some (some _) => !ioB d.pm
      | none => false)
  | none => false
/-- a def of the text stands in the module -/
structure In (K : PySem.W.Frag) (mg : PySem.Str → Option Value) (t : TD) : Prop where
  ex : ∃ f fd, Fun K t.name t.name t.st f fd ∧ mg t.name = some (.ref f) ∧ ∀ us : List Value, us.length = (t.N.take t.np).length → bindArgs fd ⟨us, []⟩ = pure ((t.N.take t.np).zip us)
theorem blt_list {x : PySem.Str} (h : x ∈ bltNames') : x ∈ bltNames := by
  rw [List.mem_singleton.mp h]
  decide +kernel
theorem text_ok {P : Program} {w : World} {K : PySem.W.Frag} {mg : PySem.Str → Option Value} {base : Heap} {prog : Prog} {text : List TD} {xs cs : List Nat} {gs : List (PySem.Str × GC)} (hc : ∀ t ∈ text, chk prog text xs cs gs t = true) (hi : ∀ t ∈ text, In K mg t) (hx : ∀ k ∈ xs, XF K mg k) (hk : ∀ k ∈ cs, ClsF K mg k) (hg : ∀ p ∈ gs, GF K mg p) (hb : ∀ x ∈ bltNames, mg x = none) :
    ∀ (n : Nat) (t : TD) (d : FD) (f : Addr) (fd : FuncData) (B F : Hp), t ∈ text → prog t.id = some d → Fun K t.name t.name t.st f fd → FnOk P w K mg base (L2.CX P w) (n + 2) f fd (t.N.take d.np) (spOf ⟨K, mg, B, F, none⟩ d.pm d.fr (phi prog n t.id))
  | 0, t, d, f, fd, B, F, ht, hd, hf => by
    refine ⟨fun vs H Q E h => ?_, fun A outer s H args us vs Q E hr e0 hbt r h => ?_⟩
    · obtain ⟨_, _, _, _, _, _, _, z⟩ := h
      exact z.elim
    · obtain ⟨_, _, _, _, _, _, _, z⟩ := h
      exact z.elim
  | n + 1, t, d, f, fd, B, F, ht, hd, hf => by
    have k := hc t ht
    unfold chk at k
    rw [hd] at k
    simp only [Bool.and_eq_true, decide_eq_true_eq] at k
    obtain ⟨⟨⟨⟨⟨⟨k0, k1⟩, k2⟩, k3⟩, k4⟩, k6⟩, k5⟩ := k
    obtain ⟨r, hr, hrn⟩ : ∃ r, mtSs (sgOf prog text xs cs gs (ioOf d.pm)) t.N d.fr d.body (defScope t.st) (mu0 d.pm t.N.length) [] (defBody t.st) = some r ∧ (ioB d.pm = true → r = none) := by
      split at k5
      · rename_i e; exact ⟨none, e, fun _ => rfl⟩
      · rename_i e; exact ⟨_, e, fun z => by rw [z] at k5; cases k5⟩
      · cases k5
    have S := C8.fnScope_by k1
    have hlen : (t.N.take d.np).length = d.np := by rw [List.length_take]; omega
    refine hf.okX S (fun vs H Q E h => ?_) (fun cdv A outer s H vs Q E hroom h => ?_)
    · obtain ⟨_, _, _, _, _, h3, _, _⟩ := h
      rw [hlen, ← k3]; exact h3.length.1
    · obtain ⟨B1, F1, ds, h1, h2, h3, h4, h5⟩ := h
      obtain ⟨io, hio1, hio2, hio3⟩ : ∃ io : Option (Nat × Addr), io.map (·.1) = ioOf d.pm ∧ (∀ i p, io = some (i, p) → vs[i]? = some (.ref p)) ∧ (ioB d.pm = true → ∃ p us, io = some (0, p) ∧ vs = .ref p :: us) := by
        unfold ioOf
        by_cases hb : ioB d.pm = true
        · obtain ⟨ms, hpm⟩ : ∃ ms, d.pm = .io :: ms := by
            revert hb
            match d.pm with
            | [] => intro hb; cases hb
            | .io :: ms => intro _; exact ⟨ms, rfl⟩
            | .own :: ms => intro hb; cases hb
            | .imm :: ms => intro hb; cases hb
            | .bor :: ms => intro hb; cases hb
            | .dead :: ms => intro hb; cases hb
          obtain ⟨v, d', g1, g2, p, rfl, _⟩ := h3.get (i := 0) (m := .io) (by rw [hpm]; rfl)
          refine ⟨some (0, p), by rw [if_pos hb]; rfl, fun i q e => by cases e; exact g1, fun _ => ?_⟩
          match vs, g1 with
          | v :: us, g1 =>
            have : v = .ref p := by simpa using g1
            exact ⟨p, us, rfl, by rw [this]⟩
        · exact ⟨none, by rw [if_neg hb]; rfl, fun i p e => (by cases e), fun z => absurd z hb⟩
      have G : Gd (cxOf (L2.CX P w) P w K mg base t.N t.name (defScope t.st) f cdv A outer s H E) ⟨K, mg, B1, F1, io⟩ (defScope t.st) (defScope t.st) (sgOf prog text xs cs gs (ioOf d.pm)) t.N (phi prog n) (fun cls d _ H => E cls d H) := by
        refine ⟨rfl, rfl, rfl, rfl, S.nd, rfl, S.kind, ?_, takes_of rfl rfl rfl (E := E) rfl, hb, fun _ _ => rfl, hx, hk, hg, fun k q => ?_, hio1, fun g x pm fr q => ?_⟩
        · have := hroom.un
          show (A.deeper _).units + 66 < cLine
          omega
        · obtain ⟨C, f', fd', st, qual, g1, g2, g3, g4, g5, g6, g7, g8, g9, g10⟩ := (hk k q).ex
          exact ⟨n + 1, C, f', fd', g4, init_fn (fun x hx => hb x (blt_list hx)) (hk k q).le g1 g2 g3 g5 g7 g8 g9 g10, hroom, g1, .all g6⟩
        · unfold sgOf at q
          rw [Option.bind_eq_some_iff] at q
          obtain ⟨t', q1, q2⟩ := q
          rw [Option.map_eq_some_iff] at q2
          obtain ⟨d', q2, q3⟩ := q2
          cases q3
          have hm := List.mem_of_find?_eq_some q1
          have hid : t'.id = g := by simpa using List.find?_some q1
          subst hid
          obtain ⟨f', fd', g1, g2, g3⟩ := (hi t' hm).ex
          have hnp : t'.np = d'.np := by
            have k := hc t' hm
            unfold chk at k
            rw [q2] at k
            simp only [Bool.and_eq_true, decide_eq_true_eq] at k
            exact k.1.1.1.1.1.1
          rw [hnp] at g3
          exact ⟨n + 2, f', fd', t'.N.take d'.np, (text_ok hc hi hx hk hg hb n t' d' f' fd' B1 F1 hm q2 g1).imp fun _ _ _ _ h => spOf_cn h, hroom, g2, g1.kp, .all g3, fun ds => phi_own q2⟩
      obtain ⟨kk, _⟩ := sndSs d.body _ _ _ [] _ _ _ G ⟨passes_of rfl, rfl, rfl⟩ hr
      refine ⟨_, kk, ?_⟩
      have h3' : Args ⟨K, mg, B1, F1, io⟩ B1 F1 H d.pm ds vs := by rw [Args.cn (B' := B) (F0' := F) (io' := none)]; exact h3
      have SS := sr_start (N := t.N) h1 h2 h3' h4 (by omega) k6 hio2
      refine ⟨_, F1, SS, ?_⟩
      have hl : ds.length = d.np := by rw [← k3]; exact h3.length.2
      have e : phi prog (n + 1) t.id ds = endB (evSs (phi prog n) d.body (envOf t.N.length ds)) := by
        show (match prog t.id with | some fd => runB (phi prog n) fd ds | none => .stuck) = _
        rw [hd]
        show (if ds.length = d.np ∧ ownOk d.pm ds = true then endB (evSs (phi prog n) d.body (envOf d.ns ds)) else .stuck) = _
        rw [if_pos ⟨hl, h3.ownOk⟩, k2]
      rw [e] at h5
      have out : ∀ {H' F' : Hp}, Bs ⟨K, mg, B1, F1, io⟩ H' F' → Out B1 F1 H' F' := fun b => ⟨b.base, b.sub, b.fr⟩
      cases q : evSs (phi prog n) d.body (envOf t.N.length ds) with
      | nx ρ' =>
        rw [q] at h5
        cases r with
        | none => trivial
        | some μ' =>
          intro σ' H' F' S' e'
          refine h5 .non H' F' (out S'.bs) ?_
          unfold ResR
          rw [if_neg (fun z => by cases hrn z)]
          exact Res.of_rp (by simp [Rp]) rfl
      | rt dd =>
        rw [q] at h5
        intro v H' F' b rr
        refine h5 v H' F' (out b) ?_
        rw [ResR.cn (B' := B1) (F0' := F1) (io' := io)]
        unfold ResR
        unfold ResF at rr
        by_cases hb : ioB d.pm = true
        · rw [if_pos hb]
          obtain ⟨p, us, z1, z2⟩ := hio3 hb
          subst z1
          obtain ⟨r1, y1, e1, e2, e3, e4⟩ := rr
          exact ⟨r1, y1, p, us, e1, z2, e2, e3, e4⟩
        · rw [if_neg hb]
          have hn : io = none := by
            unfold ioOf at hio1
            rw [if_neg hb] at hio1
            cases q : io with
            | none => rfl
            | some z => rw [q] at hio1; cases hio1
          subst hn
          exact rr
      | ct ρ' => rw [q] at h5; exact h5.elim
      | exc x y =>
        rw [q] at h5
        intro σ' H' F' cls dx S' e' xr
        exact h5 H' F' cls dx (out S'.bs) xr
      | stuck => rw [q] at h5; exact h5.elim

/-! ### the end -/
theorem in_mk {K : PySem.W.Frag} {h : Heap} {mg : PySem.Str → Option Value} {t : TD} {f : Addr} {od an : Option Addr} {sl : Array (Option Value)} {oc kV dc pm cd ct : Value} (X : K.In h) (G : h.Ns mainGlobals mg)
    (a : PySem.W.nsIn K mainGlobals t.name = some (some (.ref f))) (l : K.lookup f = some ⟨oc, od, .func (PySem.W.fnOf t.name t.name (defArgs t.st) (defBody t.st) (defScope t.st) .none kV dc pm an cd ct), sl⟩) (c : PySem.W.codeIn K cd t.name = true) (k : PySem.W.keepIn K (.ref f) = true)
    (b : ∀ us : List Value, us.length = (t.N.take t.np).length → bindArgs (PySem.W.fnOf t.name t.name (defArgs t.st) (defBody t.st) (defScope t.st) .none kV dc pm an cd ct) ⟨us, []⟩ = pure ((t.N.take t.np).zip us)) : In K mg t :=
  ⟨f, _, fun_mk l c k, PySem.W.mg_of X G a, b⟩
theorem in_cons {K : PySem.W.Frag} {mg : PySem.Str → Option Value} {t : TD} {r : List TD} (h : In K mg t) (k : ∀ t ∈ r, In K mg t) : ∀ t' ∈ t :: r, In K mg t' := fun t' ht => by
  rcases List.mem_cons.mp ht with rfl | q
  · exact h
  · exact k _ q
theorem in_nil {K : PySem.W.Frag} {mg : PySem.Str → Option Value} : ∀ t ∈ ([] : List TD), In K mg t := fun _ h => by simp at h
/-- the law's promise: of a list of at most 63 numbers it tells True -/
def spLaw (K : PySem.W.Frag) : Sp := fun vs H Q _ => ∃ (a : Addr) (ns : List Int), vs = [.ref a] ∧ SqL K H a (ns.map V.int) ∧ ns.length ≤ 63 ∧ ∀ H', Q (.bl true) H'
theorem Rps.ofInts {c : Cn} {F : Hp} : ∀ ns : List Int, Rps c F (ns.map D.int) (ns.map V.int)
  | [] => .nil
  | n :: ns => .cons (by simp [Rp]) (Rps.ofInts ns)
theorem law_fn {P : Program} {w : World} {K : PySem.W.Frag} {mg : PySem.Str → Option Value} {base : Heap} {prog : Prog} {text : List TD} {xs cs : List Nat} {gs : List (PySem.Str × GC)} {t : TD} {d : FD} {n : Nat} {f : Addr} {fd : FuncData} (hc : (text.all fun t => chk prog text xs cs gs t) = true) (hi : ∀ t ∈ text, In K mg t) (hx : ∀ k ∈ xs, XF K mg k) (hk : ∀ k ∈ cs, ClsF K mg k) (hg : ∀ p ∈ gs, GF K mg p) (hb : ∀ x ∈ bltNames, mg x = none)
    (ht : t ∈ text) (hd : prog t.id = some d) (hpm : d.pm = [.imm]) (hps : t.N.take d.np = [("script" : PySem.Str)]) (hf : Fun K t.name t.name t.st f fd) (H : ∀ ns : List Int, ns.length ≤ 63 → phi prog n t.id [.lst (ns.map .int)] = .ok (.bl true)) :
    FnOk P w K mg base (L2.CX P w) (n + 2) f fd [("script" : PySem.Str)] (spLaw K) := by
  have F := text_ok (P := P) (w := w) (base := base) (List.all_eq_true.mp hc) hi hx hk hg hb n t d f fd (fun _ => none) (fun _ => none) ht hd hf
  rw [hps] at F
  refine F.imp fun vs H1 Q E h => ?_
  obtain ⟨a, ns, rfl, hS, hl, q⟩ := h
  refine ⟨H1, H1, [.lst (ns.map .int)], Same.refl _, Same.refl _, ?_, ?_, ?_⟩
  · rw [hpm]
    simp only [Args, Rp, and_true]
    exact ⟨a, _, rfl, hS, Rps.ofInts ns⟩
  · rw [hpm]; simp [Apart]
  · rw [H ns hl]
    intro v H' F' o r
    have hv : v = .bl true := by
      have : ∀ m, Res ⟨K, mg, fun _ => none, fun _ => none, none⟩ m H1 F' H' (.bl true) v → v = .bl true := fun m r => by
        cases m
        · exact Rb.bl r
        · simpa [Res, Rp] using r
        · simpa [Res, isOwn, Rp] using r
      unfold ResR at r
      rw [hpm, if_neg (show ¬ ioB [Md.imm] = true from fun z => by cases z)] at r
      exact this _ r
    subst hv
    exact q H'
theorem law_mk {K : PySem.W.Frag} {h : Heap} {mg : PySem.Str → Option Value} {fa : Addr} {prog : Prog} {text : List TD} {xs cs : List Nat} {gs : List (PySem.Str × GC)} {t : TD} {d : FD} {n : Nat} {l : PySem.W.OpenLaw} {w : World} (X : K.In h) (G : h.Ns mainGlobals mg) (hfa : mg "law" = some (.ref fa)) (hi : ∀ t ∈ text, In K mg t) (hx : ∀ k ∈ xs, XF K mg k) (hk : ∀ k ∈ cs, ClsF K mg k) (hg : ∀ p ∈ gs, GF K mg p)
    (hc : (text.all fun t => chk prog text xs cs gs t) = true) (ht : t ∈ text) (hd : prog t.id = some d) (hpm : d.pm = [.imm]) (hps : t.N.take d.np = [("script" : PySem.Str)]) (hnp : t.np = d.np) (hn : t.name = "law")
    (H : ∀ ns : List Int, ns.length ≤ 63 → phi prog n t.id [.lst (ns.map .int)] = .ok (.bl true)) (hb : ∀ x ∈ bltNames, PySem.W.nsIn K mainGlobals x = some none) :
    ∃ fd : FuncData, (∀ (s : Shared) (v : Value), BindsTo s fd ⟨[v], []⟩ [("script", v)]) ∧ ∀ base : Heap, K.In base → base.Ns mainGlobals mg → FnOk l.prog w K mg base (L2.CX l.prog w) (n + 2) fa fd [("script" : PySem.Str)] (spLaw K) := by
  obtain ⟨f, fd, F, hm, b⟩ := (hi t ht).ex
  rw [hn, hfa] at hm
  cases hm
  refine ⟨fd, fun s v => .of_eq ?_, fun base _ _ => law_fn hc hi hx hk hg (fun x hx => PySem.W.mg_none_of X G (hb x hx)) ht hd hpm hps F H⟩
  have := b [v] (by rw [hnp, hps]; rfl)
  rw [hnp, hps] at this
  exact this
theorem cx_none {P : Program} {w : World} : ∀ (H : Hp) (s : Shared) (e : Value) (s' : Shared), L2.CX P w [] H s (fun _ _ _ => False) e s' → False := fun _ _ _ _ h => by
  obtain ⟨_, _, _, _, _, _, _, _, _, _, _, _, z⟩ := h
  exact z.elim
theorem blt_cons {K : PySem.W.Frag} {x : PySem.Str} {r : List PySem.Str} (h : PySem.W.nsIn K mainGlobals x = some none) (k : ∀ x ∈ r, PySem.W.nsIn K mainGlobals x = some none) : ∀ y ∈ x :: r, PySem.W.nsIn K mainGlobals y = some none := fun y hy => by
  rcases List.mem_cons.mp hy with rfl | q
  · exact h
  · exact k _ q
theorem blt_nil {K : PySem.W.Frag} : ∀ x ∈ ([] : List PySem.Str), PySem.W.nsIn K mainGlobals x = some none := fun _ h => by simp at h
/-! the classes of errors, on the ground -/
theorem xf_at {K : PySem.W.Frag} {h : Heap} {mg : PySem.Str → Option Value} (X : K.In h) (G : h.Ns mainGlobals mg) {x : Nat} {C E : Addr} {b : Bool} (a : PySem.W.nsIn K mainGlobals (excName x) = some (some (.ref E))) (e : PySem.W.exmOne K (.ref E) (.ref C) = some b) : ∀ D, mg (excName x) = some (.ref D) → PySem.W.exmOne K (.ref D) (.ref C) = some b := fun D q => by
  rw [PySem.W.mg_of X G a] at q
  cases q; exact e
theorem xf_no {K : PySem.W.Frag} {h : Heap} {mg : PySem.Str → Option Value} (X : K.In h) (G : h.Ns mainGlobals mg) {x : Nat} {C : Addr} {b : Bool} (a : PySem.W.nsIn K mainGlobals (excName x) = some none) : ∀ D, mg (excName x) = some (.ref D) → PySem.W.exmOne K (.ref D) (.ref C) = some b := fun D q => by
  rw [PySem.W.mg_none_of X G a] at q
  cases q
theorem xf_mk {K : PySem.W.Frag} {h : Heap} {mg : PySem.Str → Option Value} {k : Nat} {C : Addr} (X : K.In h) (G : h.Ns mainGlobals mg) (hk : k ≤ 7) (a : PySem.W.nsIn K mainGlobals (excName k) = some (some (.ref C))) (e : PySem.W.excIn K C [.type "ValueError", .type "Exception", .type "BaseException", .type "object"] "ValueError.__new__" = true)
    (p : PySem.W.keepIn K (.ref C) = true) (s : PySem.W.subIn K (.ref C) (.type "BaseException") = some true) (t : PySem.W.typeIn K (.ref C) = some (.type "type"))
    (m0 : ∀ D, mg (excName 0) = some (.ref D) → PySem.W.exmOne K (.ref D) (.ref C) = some (isCl (.exc 0 0) k)) (m1 : ∀ D, mg (excName 1) = some (.ref D) → PySem.W.exmOne K (.ref D) (.ref C) = some (isCl (.exc 1 0) k)) (m2 : ∀ D, mg (excName 2) = some (.ref D) → PySem.W.exmOne K (.ref D) (.ref C) = some (isCl (.exc 2 0) k))
    (m3 : ∀ D, mg (excName 3) = some (.ref D) → PySem.W.exmOne K (.ref D) (.ref C) = some (isCl (.exc 3 0) k)) (m4 : ∀ D, mg (excName 4) = some (.ref D) → PySem.W.exmOne K (.ref D) (.ref C) = some (isCl (.exc 4 0) k)) (m5 : ∀ D, mg (excName 5) = some (.ref D) → PySem.W.exmOne K (.ref D) (.ref C) = some (isCl (.exc 5 0) k))
    (m6 : ∀ D, mg (excName 6) = some (.ref D) → PySem.W.exmOne K (.ref D) (.ref C) = some (isCl (.exc 6 0) k)) (m7 : ∀ D, mg (excName 7) = some (.ref D) → PySem.W.exmOne K (.ref D) (.ref C) = some (isCl (.exc 7 0) k)) (m8 : ∀ D, mg (excName 8) = some (.ref D) → PySem.W.exmOne K (.ref D) (.ref C) = some (isCl (.exc 8 0) k))
    (m9 : ∀ D, mg (excName 9) = some (.ref D) → PySem.W.exmOne K (.ref D) (.ref C) = some (isCl (.exc 9 0) k)) : XF K mg k :=
  XF.of ⟨hk, C, PySem.W.mg_of X G a, e, p, s, t, fun x hx => match x, hx with
    | 0, _ => m0 | 1, _ => m1 | 2, _ => m2 | 3, _ => m3 | 4, _ => m4 | 5, _ => m5 | 6, _ => m6 | 7, _ => m7 | 8, _ => m8 | 9, _ => m9⟩
/-! isinstance of errors, on the ground -/
theorem if_at {K : PySem.W.Frag} {h : Heap} {mg : PySem.Str → Option Value} (X : K.In h) (G : h.Ns mainGlobals mg) {x : Nat} {cv : Value} {E : Addr} {b : Bool} (a : PySem.W.nsIn K mainGlobals (excName x) = some (some (.ref E))) (e : PySem.W.kitOne K (.ref E) cv = some b) : ∀ D, mg (excName x) = some (.ref D) → PySem.W.kitOne K (.ref D) cv = some b := fun D q => by
  rw [PySem.W.mg_of X G a] at q
  cases q; exact e
theorem if_no {K : PySem.W.Frag} {h : Heap} {mg : PySem.Str → Option Value} (X : K.In h) (G : h.Ns mainGlobals mg) {x : Nat} {cv : Value} {b : Bool} (a : PySem.W.nsIn K mainGlobals (excName x) = some none) : ∀ D, mg (excName x) = some (.ref D) → PySem.W.kitOne K (.ref D) cv = some b := fun D q => by
  rw [PySem.W.mg_none_of X G a] at q
  cases q
theorem if_all {K : PySem.W.Frag} {mg : PySem.Str → Option Value} {k : Nat} {cv : Value} 
    (m0 : ∀ D, mg (excName 0) = some (.ref D) → PySem.W.kitOne K (.ref D) cv = some (isCl (.exc 0 0) k)) (m1 : ∀ D, mg (excName 1) = some (.ref D) → PySem.W.kitOne K (.ref D) cv = some (isCl (.exc 1 0) k)) (m2 : ∀ D, mg (excName 2) = some (.ref D) → PySem.W.kitOne K (.ref D) cv = some (isCl (.exc 2 0) k))
    (m3 : ∀ D, mg (excName 3) = some (.ref D) → PySem.W.kitOne K (.ref D) cv = some (isCl (.exc 3 0) k)) (m4 : ∀ D, mg (excName 4) = some (.ref D) → PySem.W.kitOne K (.ref D) cv = some (isCl (.exc 4 0) k)) (m5 : ∀ D, mg (excName 5) = some (.ref D) → PySem.W.kitOne K (.ref D) cv = some (isCl (.exc 5 0) k))
    (m6 : ∀ D, mg (excName 6) = some (.ref D) → PySem.W.kitOne K (.ref D) cv = some (isCl (.exc 6 0) k)) (m7 : ∀ D, mg (excName 7) = some (.ref D) → PySem.W.kitOne K (.ref D) cv = some (isCl (.exc 7 0) k)) : ∀ (x : Nat), x < 8 → ∀ D, mg (excName x) = some (.ref D) → PySem.W.kitOne K (.ref D) cv = some (isCl (.exc x 0) k) := fun x hx => match x, hx with
    | 0, _ => m0 | 1, _ => m1 | 2, _ => m2 | 3, _ => m3 | 4, _ => m4 | 5, _ => m5 | 6, _ => m6 | 7, _ => m7
theorem XF.mkI {K : PySem.W.Frag} {mg : PySem.Str → Option Value} {k : Nat} (hk : k ≤ 100) (h : IFact K mg k) : XF K mg (300 + k) := by
  unfold XF; rw [if_neg (by omega), if_neg (by omega), Nat.add_sub_cancel_left]; exact h
theorem if_own {K : PySem.W.Frag} {h : Heap} {mg : PySem.Str → Option Value} {k : Nat} {C : Addr} (X : K.In h) (G : h.Ns mainGlobals mg) (hk : k ≤ 9) (a : PySem.W.nsIn K mainGlobals (excName k) = some (some (.ref C))) (m : ∀ (x : Nat), x < 8 → ∀ D, mg (excName x) = some (.ref D) → PySem.W.kitOne K (.ref D) (.ref C) = some (isCl (.exc x 0) k)) : XF K mg (300 + k) :=
  XF.mkI (by omega) ⟨_, _, .inr ⟨hk, C, PySem.W.mg_of X G a, rfl, rfl⟩, m⟩
theorem if_val {K : PySem.W.Frag} {h : Heap} {mg : PySem.Str → Option Value} (X : K.In h) (G : h.Ns mainGlobals mg) (a : PySem.W.nsIn K mainGlobals "ValueError" = some none) (m : ∀ (x : Nat), x < 8 → ∀ D, mg (excName x) = some (.ref D) → PySem.W.kitOne K (.ref D) (.type "ValueError") = some (isCl (.exc x 0) 100)) : XF K mg 400 :=
  XF.mkI (k := 100) (by omega) ⟨_, _, .inl ⟨rfl, rfl, rfl, PySem.W.mg_none_of X G a⟩, m⟩
theorem ef_at {K : PySem.W.Frag} {h : Heap} {mg : PySem.Str → Option Value} (X : K.In h) (G : h.Ns mainGlobals mg) {x : Nat} {E : Addr} (a : PySem.W.nsIn K mainGlobals (excName x) = some (some (.ref E))) (e : ExcC K E) : ∀ D, mg (excName x) = some (.ref D) → ExcC K D := fun D q => by
  rw [PySem.W.mg_of X G a] at q
  cases q; exact e
theorem ef_no {K : PySem.W.Frag} {h : Heap} {mg : PySem.Str → Option Value} (X : K.In h) (G : h.Ns mainGlobals mg) {x : Nat} (a : PySem.W.nsIn K mainGlobals (excName x) = some none) : ∀ D, mg (excName x) = some (.ref D) → ExcC K D := fun D q => by
  rw [PySem.W.mg_none_of X G a] at q
  cases q
theorem ef_all {K : PySem.W.Frag} {mg : PySem.Str → Option Value} (m0 : ∀ D, mg (excName 0) = some (.ref D) → ExcC K D) (m1 : ∀ D, mg (excName 1) = some (.ref D) → ExcC K D) (m2 : ∀ D, mg (excName 2) = some (.ref D) → ExcC K D) (m3 : ∀ D, mg (excName 3) = some (.ref D) → ExcC K D)
    (m4 : ∀ D, mg (excName 4) = some (.ref D) → ExcC K D) (m5 : ∀ D, mg (excName 5) = some (.ref D) → ExcC K D) (m6 : ∀ D, mg (excName 6) = some (.ref D) → ExcC K D) (m7 : ∀ D, mg (excName 7) = some (.ref D) → ExcC K D) : XF K mg 499 := by
  unfold XF; rw [if_neg (by omega), if_pos rfl]
  exact fun x hx => match x, hx with
    | 0, _ => m0 | 1, _ => m1 | 2, _ => m2 | 3, _ => m3 | 4, _ => m4 | 5, _ => m5 | 6, _ => m6 | 7, _ => m7
theorem xf_cons {K : PySem.W.Frag} {mg : PySem.Str → Option Value} {k : Nat} {r : List Nat} (h : XF K mg k) (t : ∀ k ∈ r, XF K mg k) : ∀ j ∈ k :: r, XF K mg j := fun j hj => by
  rcases List.mem_cons.mp hj with rfl | q
  · exact h
  · exact t _ q
theorem xf_nil {K : PySem.W.Frag} {mg : PySem.Str → Option Value} : ∀ k ∈ ([] : List Nat), XF K mg k := fun _ h => by simp at h
/-! the classes of objects, on the ground -/
def methS : Stmt → Stmt
  | .ClassDef _ _ _ (s :: _) _ _ _ _ _ _ _ => s
  | s => s
theorem cls_mk {K : PySem.W.Frag} {h : Heap} {mg : PySem.Str → Option Value} {k : Nat} {C f : Addr} {od an : Option Addr} {sl : Array (Option Value)} {oc kV dc pm cd ct : Value} {st : Stmt} {qual : PySem.Str} (X : K.In h) (G : h.Ns mainGlobals mg) (hk : k ≤ 1) (a : PySem.W.nsIn K mainGlobals (clsName k) = some (some (.ref C)))
    (c1 : PySem.W.plainGet K C PySem.Str.empty = true) (c2 : PySem.W.hasDictIn K C = true) (c3 : PySem.W.plainOver K C = true) (c4 : PySem.W.findIn K (.ref C) "__setattr__" = some (some (.builtin "object.__setattr__")))
    (n0 : k = 0 → PySem.W.findIn K (.ref C) "name" = some none) (n1 : k = 0 → PySem.W.findIn K (.ref C) "givens" = some none) (n2 : k = 0 → PySem.W.findIn K (.ref C) "rows" = some none) (n3 : k = 1 → PySem.W.findIn K (.ref C) "plans" = some none)
    (m1 : PySem.W.makesIn K C = true) (m2 : PySem.W.findIn K (.ref C) "__init__" = some (some (.ref f))) (m3 : PySem.W.isFn K (.ref f) = true) (m4 : PySem.W.keepIn K (.ref C) = true)
    (l : K.lookup f = some ⟨oc, od, .func (PySem.W.fnOf "__init__" qual (defArgs st) (defBody st) (defScope st) .none kV dc pm an cd ct), sl⟩) (cc : PySem.W.codeIn K cd qual = true) (kp : PySem.W.keepIn K (.ref f) = true)
    (b : ∀ us : List Value, us.length = (initPs k).length → bindArgs (PySem.W.fnOf "__init__" qual (defArgs st) (defBody st) (defScope st) .none kV dc pm an cd ct) ⟨us, []⟩ = pure ((initPs k).zip us))
    (s1 : C8.scC (initPs k) (initPs k) (defScope st) = true) (s2 : mtInit k (defBody st) = true) (s3 : decide ((defScope st).names.lookup ("list" : PySem.Str) = some .globalImplicit) = true) (s4 : ((initPs k).all fun n => decide ((defScope st).names.lookup n = some .local)) = true) : ClsF K mg k :=
  ⟨hk, C, f, _, st, qual, PySem.W.mg_of X G a, ⟨c1, c2, c3, c4⟩, fun g hg => by
    rcases (by omega : k = 0 ∨ k = 1) with rfl | rfl
    · have hg : g = "name" ∨ g = "givens" ∨ g = "rows" := by simpa [clsFlds] using hg
      rcases hg with rfl | rfl | rfl
      · exact n0 rfl
      · exact n1 rfl
      · exact n2 rfl
    · have hg : g = "plans" := by simpa [clsFlds] using hg
      subst hg; exact n3 rfl, ⟨m1, m2, m3, m4⟩, fun_mk l cc kp, b, s1, s2, of_decide_eq_true s3, fun n hn => of_decide_eq_true (List.all_eq_true.mp s4 n hn)⟩
theorem cls_cons {K : PySem.W.Frag} {mg : PySem.Str → Option Value} {k : Nat} {r : List Nat} (h : ClsF K mg k) (t : ∀ k ∈ r, ClsF K mg k) : ∀ j ∈ k :: r, ClsF K mg j := fun j hj => by
  rcases List.mem_cons.mp hj with rfl | q
  · exact h
  · exact t _ q
theorem cls_nil {K : PySem.W.Frag} {mg : PySem.Str → Option Value} : ∀ k ∈ ([] : List Nat), ClsF K mg k := fun _ h => by simp at h
end Mi

/-! Mi, part M: rules by which the evaluator is run on paper. -/
namespace Mi
open PySem
/-- a loop of the mini program -/
def loopF (Φ : Phi) (dead : List Nat) (tg : Tg) (body : List MS) (xs : List D) (ρ : Env) : FL := forL dead (fun x ρ => FL.of (bindT tg x ρ) fun ρ' => evSs Φ body ρ') xs ρ
section
variable (Φ : Phi) (ρ : Env)
@[simp] theorem x_v (i : Nat) : evE Φ (.v i) ρ = getE ρ i := Eq.trans rfl rfl
@[simp] theorem x_int (i : Int) : evE Φ (.int i) ρ = .ok (.int i) := Eq.trans rfl rfl
@[simp] theorem x_str (i : Str) : evE Φ (.str i) ρ = .ok (.str i) := Eq.trans rfl rfl
@[simp] theorem x_bl (i : Bool) : evE Φ (.bl i) ρ = .ok (.bl i) := Eq.trans rfl rfl
@[simp] theorem x_non : evE Φ .non ρ = .ok .non := Eq.trans rfl rfl
@[simp] theorem x_bin (o : AOp) (a b : ME) : evE Φ (.bin o a b) ρ = (evE Φ a ρ).bind fun x => (evE Φ b ρ).bind fun y => R.of (binD o x y) := Eq.trans rfl rfl
@[simp] theorem x_neg (a : ME) : evE Φ (.neg a) ρ = (evE Φ a ρ).bind fun x => R.of (negD x) := Eq.trans rfl rfl
@[simp] theorem x_not (a : ME) : evE Φ (.not a) ρ = (evE Φ a ρ).bind fun x => (R.of (boolD x)).bind fun b => .ok (.bl (!b)) := Eq.trans rfl rfl
@[simp] theorem x_and (a b : ME) : evE Φ (.and a b) ρ = (evE Φ a ρ).bind fun x => (R.of (boolD x)).bind fun c => if c then evE Φ b ρ else .ok (.bl false) := Eq.trans rfl rfl
@[simp] theorem x_or (a b : ME) : evE Φ (.or a b) ρ = (evE Φ a ρ).bind fun x => (R.of (boolD x)).bind fun c => if c then .ok (.bl true) else evE Φ b ρ := Eq.trans rfl rfl
@[simp] theorem x_cmp (o : CO) (a b : ME) : evE Φ (.cmp o a b) ρ = (evE Φ a ρ).bind fun x => (evE Φ b ρ).bind fun y => R.of (cmpD o x y) := Eq.trans rfl rfl
@[simp] theorem x_chn (o p : CO) (a b c : ME) : evE Φ (.chn o p a b c) ρ = (evE Φ a ρ).bind fun x => (evE Φ b ρ).bind fun y => (R.of (cmpD o x y)).bind fun t => (R.of (boolD t)).bind fun t => if t then (evE Φ c ρ).bind fun z => R.of (cmpD p y z) else .ok (.bl false) := Eq.trans rfl rfl
@[simp] theorem x_isN (a : ME) : evE Φ (.isN a) ρ = (evE Φ a ρ).bind fun x => .ok (.bl (isNon x)) := Eq.trans rfl rfl
@[simp] theorem x_nisN (a : ME) : evE Φ (.nisN a) ρ = (evE Φ a ρ).bind fun x => .ok (.bl (!isNon x)) := Eq.trans rfl rfl
@[simp] theorem x_tup (es : List ME) : evE Φ (.tup es) ρ = (evEs Φ es ρ).bind fun xs => .ok (.tup xs) := Eq.trans rfl rfl
@[simp] theorem x_lst (es : List ME) : evE Φ (.lst es) ρ = (evEs Φ es ρ).bind fun xs => .ok (.lst xs) := Eq.trans rfl rfl
@[simp] theorem x_dnil : evE Φ .dnil ρ = .ok (.dct []) := Eq.trans rfl rfl
@[simp] theorem x_idx (a b : ME) : evE Φ (.idx a b) ρ = (evE Φ a ρ).bind fun x => (evE Φ b ρ).bind fun y => R.of (idxD x y) := Eq.trans rfl rfl
@[simp] theorem x_sl (a : ME) (lo hi : Option ME) : evE Φ (.sl a lo hi) ρ = (evE Φ a ρ).bind fun x => (evO Φ lo ρ).bind fun l => (evO Φ hi ρ).bind fun h => R.of (sliceD x l h) := Eq.trans rfl rfl
@[simp] theorem x_call (f : Nat) (es : List ME) : evE Φ (.call f es) ρ = (evEs Φ es ρ).bind fun xs => Φ f xs := Eq.trans rfl rfl
@[simp] theorem x_blt (b : B) (es : List ME) : evE Φ (.blt b es) ρ = (evEs Φ es ρ).bind fun xs => R.of (bltD b xs) := Eq.trans rfl rfl
@[simp] theorem x_rng (es : List ME) : evE Φ (.rng es) ρ = (evEs Φ es ρ).bind fun xs => R.of (rngD xs) := Eq.trans rfl rfl
@[simp] theorem x_enm (a : ME) : evE Φ (.enm a) ρ = (evE Φ a ρ).bind fun s => (R.of (lstOf s)).bind fun xs => .ok (.lst (enmL 0 xs)) := Eq.trans rfl rfl
@[simp] theorem x_zp (a b : ME) : evE Φ (.zp a b) ρ = (evE Φ a ρ).bind fun s => (evE Φ b ρ).bind fun t => (R.of (zipD s t)).bind fun xs => .ok (.lst xs) := Eq.trans rfl rfl
@[simp] theorem x_rvs (a : ME) : evE Φ (.rvs a) ρ = (evE Φ a ρ).bind fun s => (R.of (seqOf s)).bind fun xs => .ok (.lst xs.reverse) := Eq.trans rfl rfl
@[simp] theorem x_isi (a : ME) (cs : List Nat) : evE Φ (.isi a cs) ρ = (evE Φ a ρ).bind fun x => R.of (isiD cs x) := Eq.trans rfl rfl
@[simp] theorem x_lc (elt : ME) (tg : Tg) (it : ME) (ifs : Option ME) : evE Φ (.lc elt tg it ifs) ρ = (evE Φ it ρ).bind fun s => (R.of (itemsOf s)).bind fun xs => (noX (compM (turnL tg (evC Φ ifs) (evE Φ elt) ρ) xs)).bind fun ys => if ys.length ≤ lineN then .ok (.lst ys) else .stuck := Eq.trans rfl rfl
@[simp] theorem x_nil : evEs Φ [] ρ = .ok [] := Eq.trans rfl rfl
@[simp] theorem x_cons (e : ME) (es : List ME) : evEs Φ (e :: es) ρ = (evE Φ e ρ).bind fun x => (evEs Φ es ρ).bind fun xs => .ok (x :: xs) := Eq.trans rfl rfl
@[simp] theorem x_on : evO Φ none ρ = .ok none := Eq.trans rfl rfl
@[simp] theorem x_os (e : ME) : evO Φ (some e) ρ = (evE Φ e ρ).bind fun x => (R.of (intOf x)).bind fun i => .ok (some i) := Eq.trans rfl rfl
@[simp] theorem x_cn : evC Φ none ρ = .ok true := Eq.trans rfl rfl
@[simp] theorem x_cs (e : ME) : evC Φ (some e) ρ = (evE Φ e ρ).bind fun x => R.of (boolD x) := Eq.trans rfl rfl
@[simp] theorem y_set (i : Nat) (e : ME) : evS Φ (.set i e) ρ = FL.of (evE Φ e ρ) fun d => .nx (setE ρ i d) := Eq.trans rfl rfl
@[simp] theorem y_seto (i : Nat) (e : ME) : evS Φ (.seto i e) ρ = FL.of (evE Φ e ρ) fun d => if isOwn d then .nx (setE ρ i d) else .stuck := Eq.trans rfl rfl
@[simp] theorem y_setT (is : List Nat) (e : ME) : evS Φ (.setT is e) ρ = FL.of (evE Φ e ρ) fun d => FL.of (R.of (tupOf d)) fun ds => FL.of (bindMany is ds ρ) fun ρ' => .nx ρ' := Eq.trans rfl rfl
@[simp] theorem y_setIdx (i : Nat) (k e : ME) : evS Φ (.setIdx i k e) ρ = FL.of (evE Φ e ρ) fun d => FL.of (evE Φ k ρ) fun q => FL.of (getE ρ i) fun x => FL.of (R.of (setIdxD x q d)) fun y => .nx (setE ρ i y) := Eq.trans rfl rfl
@[simp] theorem y_app (i : Nat) (e : ME) : evS Φ (.app i e) ρ = FL.of (getE ρ i) fun x => FL.of (R.of (lstOf x)) fun xs => FL.of (evE Φ e ρ) fun d => FL.of (R.of (appD xs d)) fun y => .nx (setE ρ i y) := Eq.trans rfl rfl
@[simp] theorem y_ext (i : Nat) (e : ME) : evS Φ (.ext i e) ρ = FL.of (getE ρ i) fun x => FL.of (R.of (lstOf x)) fun xs => FL.of (evE Φ e ρ) fun d => FL.of (R.of (extD xs d)) fun y => .nx (setE ρ i y) := Eq.trans rfl rfl
@[simp] theorem y_rev (i : Nat) : evS Φ (.rev i) ρ = FL.of (getE ρ i) fun x => FL.of (R.of (revD x)) fun y => .nx (setE ρ i y) := Eq.trans rfl rfl
@[simp] theorem y_aug (i : Nat) (e : ME) : evS Φ (.aug i e) ρ = FL.of (getE ρ i) fun x => FL.of (evE Φ e ρ) fun y => FL.of (R.of (augD x y)) fun z => .nx (setE ρ i z) := Eq.trans rfl rfl
@[simp] theorem y_expr (e : ME) : evS Φ (.expr e) ρ = FL.of (evE Φ e ρ) fun _ => .nx ρ := Eq.trans rfl rfl
@[simp] theorem y_frz (i : Nat) : evS Φ (.frz i) ρ = .nx ρ := Eq.trans rfl rfl
@[simp] theorem y_ife (c : ME) (a b : List MS) : evS Φ (.ife c a b) ρ = FL.of (evE Φ c ρ) fun x => FL.of (R.of (boolD x)) fun t => if t then evSs Φ a ρ else evSs Φ b ρ := Eq.trans rfl rfl
@[simp] theorem y_for (tg : Tg) (it : ME) (body : List MS) (dead : List Nat) : evS Φ (.for tg it body dead) ρ = FL.of (evE Φ it ρ) fun s => FL.of (R.of (itemsOf s)) fun xs => loopF Φ dead tg body xs ρ := Eq.trans rfl rfl
@[simp] theorem y_ret (e : ME) : evS Φ (.ret e) ρ = FL.of (evE Φ e ρ) fun d => .rt d := Eq.trans rfl rfl
@[simp] theorem y_cont : evS Φ .cont ρ = .ct ρ := Eq.trans rfl rfl
@[simp] theorem y_raise (c : Nat) : evS Φ (.raise c none) ρ = .exc c 0 := Eq.trans rfl rfl
@[simp] theorem y_nil : evSs Φ [] ρ = .nx ρ := Eq.trans rfl rfl
@[simp] theorem y_cons (s : MS) (ss : List MS) : evSs Φ (s :: ss) ρ = (evS Φ s ρ).seq fun ρ' => evSs Φ ss ρ' := Eq.trans rfl rfl
end
@[simp] theorem g_0 (x : Option D) (r : Env) : getE (x :: r) 0 = R.of x := Eq.trans rfl rfl
@[simp] theorem g_s (x : Option D) (r : Env) (n : Nat) : getE (x :: r) (n + 1) = getE r n := Eq.trans rfl rfl
@[simp] theorem s_0 (x : Option D) (r : Env) (d : D) : setE (x :: r) 0 d = some d :: r := Eq.trans rfl rfl
@[simp] theorem s_s (x : Option D) (r : Env) (n : Nat) (d : D) : setE (x :: r) (n + 1) d = x :: setE r n d := Eq.trans rfl rfl
@[simp] theorem k_0 (x : Option D) (r : Env) : killE (x :: r) 0 = none :: r := Eq.trans rfl rfl
@[simp] theorem k_s (x : Option D) (r : Env) (n : Nat) : killE (x :: r) (n + 1) = x :: killE r n := Eq.trans rfl rfl
@[simp] theorem ka_nil (ρ : Env) : killAll ρ [] = ρ := Eq.trans rfl rfl
@[simp] theorem ka_cons (ρ : Env) (i : Nat) (is : List Nat) : killAll ρ (i :: is) = killAll (killE ρ i) is := Eq.trans rfl rfl
@[simp] theorem bm_nil (ρ : Env) : bindMany [] [] ρ = .ok ρ := Eq.trans rfl rfl
@[simp] theorem bm_cons (i : Nat) (is : List Nat) (d : D) (ds : List D) (ρ : Env) : bindMany (i :: is) (d :: ds) ρ = bindMany is ds (setE ρ i d) := Eq.trans rfl rfl
@[simp] theorem bt_one (i : Nat) (d : D) (ρ : Env) : bindT (.one i) d ρ = .ok (setE ρ i d) := Eq.trans rfl rfl
@[simp] theorem bt_many (is : List Nat) (ds : List D) (ρ : Env) : bindT (.many is) (.tup ds) ρ = bindMany is ds ρ := Eq.trans rfl rfl
@[simp] theorem fl_nil (dead : List Nat) (turn : D → Env → FL) (ρ : Env) : forL dead turn [] ρ = .nx (killAll ρ dead) := Eq.trans rfl rfl
theorem fl_cons (dead : List Nat) (turn : D → Env → FL) (x : D) (xs : List D) (ρ : Env) : forL dead turn (x :: xs) ρ = match turn x (killAll ρ dead) with
    | .nx ρ' => forL dead turn xs ρ'
    | .ct ρ' => forL dead turn xs ρ'
    | .rt d => .rt d
    | .exc c r => .exc c r
    | .stuck => .stuck := rfl
@[simp] theorem cm_nil (f : D → R (Option D)) : compM f [] = .ok [] := Eq.trans rfl rfl
theorem cm_cons (f : D → R (Option D)) (x : D) (xs : List D) : compM f (x :: xs) = (f x).bind fun y => (compM f xs).bind fun ys => .ok (match y with | some d => d :: ys | none => ys) := rfl
/-- a comprehension without a test, item by item -/
theorem cm_map {f : D → R (Option D)} {α : Type} {enc : α → D} {g : α → D} : ∀ {xs : List α}, (∀ x ∈ xs, f (enc x) = .ok (some (g x))) → compM f (xs.map enc) = .ok (xs.map g)
  | [], _ => rfl
  | x :: xs, h => by
    rw [List.map_cons, cm_cons, h x List.mem_cons_self, R.ok_bind, cm_map fun y hy => h y (List.mem_cons_of_mem _ hy)]
    rfl
theorem cm_filter {f : D → R (Option D)} {α : Type} {enc : α → D} {g : α → D} {p : α → Bool} : ∀ {xs : List α}, (∀ x ∈ xs, f (enc x) = .ok (if p x then some (g x) else none)) → compM f (xs.map enc) = .ok ((xs.filter p).map g)
  | [], _ => rfl
  | x :: xs, h => by
    rw [List.map_cons, cm_cons, h x List.mem_cons_self, R.ok_bind, cm_filter fun y hy => h y (List.mem_cons_of_mem _ hy)]
    cases q : p x <;> simp [q]
@[simp] theorem phi_zero (prog : Prog) (f : Nat) (ds : List D) : phi prog 0 f ds = .stuck := Eq.trans rfl rfl
theorem phi_at {prog : Prog} {n f : Nat} {d : FD} {ds : List D} (h : prog f = some d) (hl : ds.length = d.np) (ho : ownOk d.pm ds = true) : phi prog (n + 1) f ds = endB (evSs (phi prog n) d.body (envOf d.ns ds)) := by
  show (match prog f with | some fd => runB (phi prog n) fd ds | none => .stuck) = _
  rw [h]
  show (if ds.length = d.np ∧ ownOk d.pm ds = true then endB (evSs (phi prog n) d.body (envOf d.ns ds)) else .stuck) = _
  rw [if_pos ⟨hl, ho⟩]
@[simp] theorem e_rt (d : D) : endB (.rt d) = .ok d := Eq.trans rfl rfl
@[simp] theorem e_nx (ρ : Env) : endB (.nx ρ) = .ok .non := Eq.trans rfl rfl
@[simp] theorem e_ex (c : Nat) (r : Int) : endB (.exc c r) = .exc c r := Eq.trans rfl rfl
/-- a loop by its own step on a typed state: σ the state as an environment -/
theorem for_run {S α : Type} {dead : List Nat} {turn : D → Env → FL} {enc : α → D} {env : S → Env} {step : α → S → S} (h : ∀ x s, turn (enc x) (killAll (env s) dead) = .nx (env (step x s))) : ∀ (xs : List α) (s : S), forL dead turn (xs.map enc) (env s) = .nx (killAll (env (xs.foldl (fun s x => step x s) s)) dead)
  | [], s => rfl
  | x :: xs, s => by
    rw [List.map_cons, fl_cons, h x s]
    exact for_run h xs (step x s)
/-- binary operations on numbers -/
@[simp] theorem b_add (i j : Int) : binD .add (.int i) (.int j) = some (.int (i + j)) := Eq.trans rfl rfl
@[simp] theorem b_sub (i j : Int) : binD .sub (.int i) (.int j) = some (.int (i - j)) := Eq.trans rfl rfl
theorem b_mul {i j : Int} (h : small64 i = true ∨ small64 j = true) : binD .mul (.int i) (.int j) = some (.int (i * j)) := by
  show (if small64 i || small64 j || (wide i && wide j) then some (D.int (i * j)) else none) = _
  rw [if_pos]
  rcases h with h | h <;> simp [h]
theorem b_mulW {i j : Int} (h : wide i = true) (k : wide j = true) : binD .mul (.int i) (.int j) = some (.int (i * j)) := by
  show (if small64 i || small64 j || (wide i && wide j) then some (D.int (i * j)) else none) = _
  rw [if_pos]
  simp [h, k]
theorem b_fdiv {i j : Int} (h : 0 < j) (k : j < 1073741824) : binD .fdiv (.int i) (.int j) = some (.int (i / j)) := by
  show (if decide (0 < j) && (decide (j < 1073741824) || wide j) then some (D.int (i / j)) else none) = _
  rw [if_pos]
  simp [h, k]
theorem b_mod {i j : Int} (h : 0 < j) : binD .mod (.int i) (.int j) = some (.int (i % j)) := by
  show (if 0 < j then some (D.int (i % j)) else none) = _
  rw [if_pos h]
theorem sm_of {i : Int} (h1 : -18446744073709551616 < i) (h2 : i < 18446744073709551616) : small64 i = true := by
  unfold small64 two64
  simp [h1, h2]
@[simp] theorem c_lt (i j : Int) : cmpD .lt (.int i) (.int j) = some (.bl (decide (i < j))) := Eq.trans rfl rfl
@[simp] theorem c_le (i j : Int) : cmpD .le (.int i) (.int j) = some (.bl (decide (i ≤ j))) := Eq.trans rfl rfl
@[simp] theorem c_gt (i j : Int) : cmpD .gt (.int i) (.int j) = some (.bl (decide (j < i))) := Eq.trans rfl rfl
@[simp] theorem c_ge (i j : Int) : cmpD .ge (.int i) (.int j) = some (.bl (decide (j ≤ i))) := Eq.trans rfl rfl
@[simp] theorem bo_bl (b : Bool) : boolD (.bl b) = some b := Eq.trans rfl rfl
@[simp] theorem ng_int (i : Int) : negD (.int i) = some (.int (-i)) := Eq.trans rfl rfl
@[simp] theorem ln_l (xs : List D) : bltD .len [.lst xs] = some (.int xs.length) := Eq.trans rfl rfl
@[simp] theorem ln_t (xs : List D) : bltD .len [.tup xs] = some (.int xs.length) := Eq.trans rfl rfl
@[simp] theorem li_l (xs : List D) : bltD .list [.lst xs] = some (.lst xs) := Eq.trans rfl rfl
@[simp] theorem li_t (xs : List D) : bltD .list [.tup xs] = some (.lst xs) := Eq.trans rfl rfl
@[simp] theorem tu_l (xs : List D) : bltD .tuple [.lst xs] = some (.tup xs) := Eq.trans rfl rfl
@[simp] theorem tu_t (xs : List D) : bltD .tuple [.tup xs] = some (.tup xs) := Eq.trans rfl rfl
@[simp] theorem it_l (xs : List D) : itemsOf (.lst xs) = some xs := Eq.trans rfl rfl
@[simp] theorem it_t (xs : List D) : itemsOf (.tup xs) = some xs := Eq.trans rfl rfl
@[simp] theorem lo_l (xs : List D) : lstOf (.lst xs) = some xs := Eq.trans rfl rfl
@[simp] theorem so_l (xs : List D) : seqOf (.lst xs) = some xs := Eq.trans rfl rfl
@[simp] theorem so_t (xs : List D) : seqOf (.tup xs) = some xs := Eq.trans rfl rfl
@[simp] theorem ow_l (xs : List D) : isOwn (.lst xs) = true := Eq.trans rfl rfl
@[simp] theorem ow_d (xs : List (Key × D)) : isOwn (.dct xs) = true := Eq.trans rfl rfl
@[simp] theorem to_t (xs : List D) : tupOf (.tup xs) = some xs := Eq.trans rfl rfl
@[simp] theorem io_i (i : Int) : intOf (.int i) = some i := Eq.trans rfl rfl
@[simp] theorem rv_l (xs : List D) : revD (.lst xs) = some (.lst xs.reverse) := Eq.trans rfl rfl
@[simp] theorem au_i (i j : Int) : augD (.int i) (.int j) = some (.int (i + j)) := Eq.trans rfl rfl
/-- == of data of one kind -/
theorem eq_int (i j : Int) : eqD (.int i) (.int j) = some (decide (i = j)) := by
  unfold eqD
  simp only [D.py]
  have h1 : SeqAt.shaped (.int i) = true := by rfl
  have h2 : SeqAt.shaped (.int j) = true := by rfl
  rw [h1, h2]
  show some (PyData.eqv (.int i) (.int j)) = _
  congr 1

theorem cmp_eq_def (a b : D) : cmpD .eq a b = (eqE a b).map fun c => .bl c := rfl
theorem cmp_ne_def (a b : D) : cmpD .ne a b = (eqD a b).map fun c => .bl (!c) := rfl
@[simp] theorem c_eqi (i j : Int) : cmpD .eq (.int i) (.int j) = some (.bl (decide (i = j))) := by
  rw [cmp_eq_def, eqE_of (eq_int i j)]; rfl
@[simp] theorem c_nei (i j : Int) : cmpD .ne (.int i) (.int j) = some (.bl (!decide (i = j))) := by
  rw [cmp_ne_def, eq_int]; rfl
/-- e lays out data of one type, where == is equality -/
structure EqOk {α : Type} [DecidableEq α] (e : α → D) (k : Nat) : Prop where
  py : ∀ a, ∃ p, (e a).py = some p ∧ p.canLay0 = true ∧ p.depth ≤ k
  eq : ∀ a b p q, (e a).py = some p → (e b).py = some q → p.eqv q = decide (a = b)
theorem EqOk.int : EqOk D.int 0 := by
  refine ⟨fun a => ⟨.int a, by simp [D.py], by simp [PyData.canLay0], by simp [PyData.depth]⟩, fun a b p q h1 h2 => ?_⟩
  simp only [D.py] at h1 h2
  cases h1; cases h2
  simp only [PyData.eqv]
  exact Bool.beq_eq_decide_eq a b
theorem EqOk.bl : EqOk D.bl 0 := by
  refine ⟨fun a => ⟨.bool a, by simp [D.py], by simp [PyData.canLay0], by simp [PyData.depth]⟩, fun a b p q h1 h2 => ?_⟩
  simp only [D.py] at h1 h2
  cases h1; cases h2
  simp only [PyData.eqv]
  exact Bool.beq_eq_decide_eq a b
section
variable {α β : Type} [DecidableEq α] [DecidableEq β] {e : α → D} {f : β → D} {k : Nat}
theorem EqOk.pys (h : EqOk e k) : ∀ xs : List α, ∃ ps, D.pys (xs.map e) = some ps ∧ PyData.canLayAll0 ps = true ∧ ∀ p ∈ ps, p.depth ≤ k
  | [] => ⟨[], by simp [D.pys], by simp [PyData.canLayAll0], by simp⟩
  | x :: xs => by
    obtain ⟨p, h1, h2, h3⟩ := h.py x
    obtain ⟨ps, g1, g2, g3⟩ := EqOk.pys h xs
    refine ⟨p :: ps, by simp [D.pys, h1, g1], by simp [PyData.canLayAll0, h2, g2], fun q hq => ?_⟩
    rcases List.mem_cons.mp hq with rfl | hq
    · exact h3
    · exact g3 q hq
theorem EqOk.eqs (h : EqOk e k) : ∀ (xs ys : List α) (ps qs : List PyData), D.pys (xs.map e) = some ps → D.pys (ys.map e) = some qs → PyData.eqvAll ps qs = decide (xs = ys)
  | [], [], ps, qs, h1, h2 => by
    simp only [List.map_nil, D.pys] at h1 h2
    cases h1; cases h2; simp [PyData.eqvAll]
  | [], y :: ys, ps, qs, h1, h2 => by
    simp only [List.map_nil, D.pys] at h1
    cases h1
    simp only [List.map_cons, D.pys] at h2
    split at h2
    · cases h2; simp [PyData.eqvAll]
    · cases h2
  | x :: xs, [], ps, qs, h1, h2 => by
    simp only [List.map_nil, D.pys] at h2
    cases h2
    simp only [List.map_cons, D.pys] at h1
    split at h1
    · cases h1; simp [PyData.eqvAll]
    · cases h1
  | x :: xs, y :: ys, ps, qs, h1, h2 => by
    simp only [List.map_cons, D.pys] at h1 h2
    split at h1
    · rename_i p ps' q1 q2
      cases h1
      split at h2
      · rename_i q qs' q3 q4
        cases h2
        simp only [PyData.eqvAll]
        rw [h.eq x y _ _ q1 q3, EqOk.eqs h xs ys _ _ q2 q4]
        by_cases a : x = y <;> by_cases b : xs = ys <;> simp [a, b]
      · cases h2
    · cases h1
theorem depthAll_le {ps : List PyData} (h : ∀ p ∈ ps, p.depth ≤ k) : PyData.depthAll ps ≤ k := by
  induction ps with
  | nil => simp [PyData.depthAll]
  | cons p ps ih =>
    simp only [PyData.depthAll]
    exact Nat.max_le.mpr ⟨h p List.mem_cons_self, ih fun q hq => h q (List.mem_cons_of_mem _ hq)⟩
theorem EqOk.lst (h : EqOk e k) : EqOk (fun xs : List α => D.lst (xs.map e)) (k + 1) := by
  refine ⟨fun xs => ?_, fun xs ys p q h1 h2 => ?_⟩
  · obtain ⟨ps, g1, g2, g3⟩ := h.pys xs
    refine ⟨.list ps, by simp [D.py, g1], by simpa [PyData.canLay0] using g2, ?_⟩
    simp only [PyData.depth]
    have := depthAll_le g3
    omega
  · simp only [D.py, Option.map_eq_some_iff] at h1 h2
    obtain ⟨ps, g1, rfl⟩ := h1
    obtain ⟨qs, g2, rfl⟩ := h2
    simp only [PyData.eqv]
    exact h.eqs xs ys ps qs g1 g2
theorem EqOk.tup (h : EqOk e k) : EqOk (fun xs : List α => D.tup (xs.map e)) (k + 1) := by
  refine ⟨fun xs => ?_, fun xs ys p q h1 h2 => ?_⟩
  · obtain ⟨ps, g1, g2, g3⟩ := h.pys xs
    refine ⟨.tuple ps, by simp [D.py, g1], by simpa [PyData.canLay0] using g2, ?_⟩
    simp only [PyData.depth]
    have := depthAll_le g3
    omega
  · simp only [D.py, Option.map_eq_some_iff] at h1 h2
    obtain ⟨ps, g1, rfl⟩ := h1
    obtain ⟨qs, g2, rfl⟩ := h2
    simp only [PyData.eqv]
    exact h.eqs xs ys ps qs g1 g2
theorem EqOk.pair (h : EqOk e k) (g : EqOk f k) : EqOk (fun p : α × β => D.tup [e p.1, f p.2]) (k + 1) := by
  refine ⟨fun x => ?_, fun x y p q h1 h2 => ?_⟩
  · obtain ⟨p, a1, a2, a3⟩ := h.py x.1
    obtain ⟨q, b1, b2, b3⟩ := g.py x.2
    refine ⟨.tuple [p, q], by simp [D.py, D.pys, a1, b1], by simp [PyData.canLay0, PyData.canLayAll0, a2, b2], ?_⟩
    simp only [PyData.depth]
    have := depthAll_le (k := k) (ps := [p, q]) (by simp [a3, b3])
    omega
  · obtain ⟨p1, a1, _⟩ := h.py x.1
    obtain ⟨p2, b1, _⟩ := g.py x.2
    obtain ⟨q1, c1, _⟩ := h.py y.1
    obtain ⟨q2, d1, _⟩ := g.py y.2
    simp only [D.py, D.pys, a1, b1, c1, d1, Option.map_some, Option.some.injEq] at h1 h2
    subst h1; subst h2
    simp only [PyData.eqv, PyData.eqvAll, Bool.and_true]
    rw [h.eq _ _ _ _ a1 c1, g.eq _ _ _ _ b1 d1]
    by_cases u : x.1 = y.1 <;> by_cases v : x.2 = y.2 <;> simp [u, v, Prod.ext_iff]
theorem EqOk.eqD (h : EqOk e k) (hk : k ≤ 64) (a b : α) : eqD (e a) (e b) = some (decide (a = b)) := by
  obtain ⟨p, a1, a2, a3⟩ := h.py a
  obtain ⟨q, b1, b2, b3⟩ := h.py b
  unfold Mi.eqD
  rw [a1, b1]
  dsimp only
  have s1 : SeqAt.shaped p = true := by unfold SeqAt.shaped; simp [a2]; omega
  have s2 : SeqAt.shaped q = true := by unfold SeqAt.shaped; simp [b2]; omega
  rw [s1, s2, h.eq a b p q a1 b1]; rfl
theorem EqOk.ceq (h : EqOk e k) (hk : k ≤ 64) (a b : α) : cmpD .eq (e a) (e b) = some (.bl (decide (a = b))) := by
  rw [cmp_eq_def, eqE_of (h.eqD hk a b)]; rfl
theorem EqOk.cne (h : EqOk e k) (hk : k ≤ 64) (a b : α) : cmpD .ne (e a) (e b) = some (.bl (!decide (a = b))) := by
  rw [cmp_ne_def, h.eqD hk]; rfl
end
/-! the types at hand -/
abbrev dI : List Int → D := fun xs => .lst (xs.map D.int)
abbrev dP : Int × Int → D := fun p => .tup [.int p.1, .int p.2]
abbrev Row := List (Int × Int)
abbrev dR : Row → D := fun r => .tup (r.map dP)
abbrev dRl : Row → D := fun r => .lst (r.map dP)
abbrev dF : List Row → D := fun f => .lst (f.map dR)
theorem okI : EqOk dI 1 := EqOk.int.lst
theorem okP : EqOk dP 1 := EqOk.int.pair EqOk.int
theorem okR : EqOk dR 2 := okP.tup
theorem okRl : EqOk dRl 2 := okP.lst
theorem okF : EqOk dF 3 := okR.lst
/-! loops by an invariant -/
theorem for_inv {dead : List Nat} {turn : D → Env → FL} (I : Nat → Env → Prop) : ∀ (xs : List D) (k : Nat) (ρ : Env), I k (killAll ρ dead) → (∀ i x ρ, xs[i]? = some x → I (k + i) ρ → ∃ ρ', (turn x ρ = .nx ρ' ∨ turn x ρ = .ct ρ') ∧ I (k + i + 1) (killAll ρ' dead)) →
    ∃ ρ', forL dead turn xs ρ = .nx ρ' ∧ I (k + xs.length) ρ'
  | [], k, ρ, h0, _ => ⟨_, rfl, h0⟩
  | x :: xs, k, ρ, h0, hs => by
    obtain ⟨ρ1, h1, h2⟩ := hs 0 x _ rfl h0
    obtain ⟨ρ2, g1, g2⟩ := for_inv I xs (k + 1) ρ1 h2 fun i y ρ hi hI => by
      have := hs (i + 1) y ρ (by simpa using hi) (by rw [show k + (i + 1) = k + 1 + i by omega]; exact hI)
      rw [show k + (i + 1) + 1 = k + 1 + i + 1 by omega] at this
      exact this
    refine ⟨ρ2, ?_, by rw [show k + (x :: xs).length = k + 1 + xs.length by simp; omega]; exact g2⟩
    rw [fl_cons]
    rcases h1 with h1 | h1 <;> rw [h1] <;> exact g1
/-- a loop whose state is told by its index -/
theorem for_st {S : Type} {dead : List Nat} {turn : D → Env → FL} {env : S → Env} {xs : List D} (st : Nat → S) (ρ : Env) (h0 : killAll ρ dead = env (st 0)) (hs : ∀ i x, xs[i]? = some x → ∃ ρ', (turn x (env (st i)) = .nx ρ' ∨ turn x (env (st i)) = .ct ρ') ∧ killAll ρ' dead = env (st (i + 1))) :
    forL dead turn xs ρ = .nx (env (st xs.length)) := by
  obtain ⟨ρ', h1, h2⟩ := for_inv (fun i ρ => ρ = env (st i)) xs 0 ρ h0 fun i x ρ hi hI => by
    rw [Nat.zero_add] at hI ⊢
    subst hI
    exact hs i x hi
  rw [Nat.zero_add] at h2
  rw [h1, h2]
theorem idx_at {xs : List D} {i : Nat} {d : D} (h : xs[i]? = some d) : idxD (.lst xs) (.int (i : Int)) = some d := by
  show idxL xs (i : Int) = _
  unfold idxL
  rw [if_pos (Int.natCast_nonneg i)]
  simpa using h
theorem idx_atT {xs : List D} {i : Nat} {d : D} (h : xs[i]? = some d) : idxD (.tup xs) (.int (i : Int)) = some d := by
  show idxL xs (i : Int) = _
  unfold idxL
  rw [if_pos (Int.natCast_nonneg i)]
  simpa using h
theorem idx_int {ns : List Int} {i : Int} (h0 : 0 ≤ i) (h1 : i < ns.length) : idxD (dI ns) (.int i) = some (.int (ns.getD i.toNat 0)) := by
  obtain ⟨j, rfl⟩ := Int.eq_ofNat_of_zero_le h0
  have hj : j < ns.length := by omega
  refine idx_at ?_
  rw [List.getElem?_map, List.getElem?_eq_getElem hj]
  simp [List.getD_eq_getElem?_getD, List.getElem?_eq_getElem hj]
theorem ints_map : ∀ ns : List Int, intsOf (ns.map D.int) = some ns
  | [] => rfl
  | n :: ns => by
    rw [List.map_cons]
    show (intsOf (ns.map D.int)).map (n :: ·) = _
    rw [ints_map ns]; rfl
theorem max1_ints {ns : List Int} (h : ns ≠ []) : bltD .max1 [dI ns] = some (.int (maxI ns)) := by
  show mmD maxI (dI ns) = _
  show (intsOf (ns.map D.int)).bind (fun is => if is = [] then none else some (D.int (maxI is))) = _
  rw [ints_map]
  show (if ns = [] then none else some (D.int (maxI ns))) = _
  rw [if_neg h]
theorem min1_ints {ns : List Int} (h : ns ≠ []) : bltD .min1 [dI ns] = some (.int (minI ns)) := by
  show (intsOf (ns.map D.int)).bind (fun is => if is = [] then none else some (D.int (minI is))) = _
  rw [ints_map]
  show (if ns = [] then none else some (D.int (minI ns))) = _
  rw [if_neg h]

/-- a loop whose state is told by its index; ρ1 with the target stored, ρ2 behind the body -/
theorem loop_st {S : Type} {Φ : Phi} {dead : List Nat} {tg : Tg} {body : List MS} {xs : List D} {ρ : Env} (env : S → Env) (st : Nat → S) (h0 : killAll ρ dead = env (st 0))
    (hs : ∀ i x, xs[i]? = some x → ∃ ρ1 ρ2, bindT tg x (env (st i)) = .ok ρ1 ∧ (evSs Φ body ρ1 = .nx ρ2 ∨ evSs Φ body ρ1 = .ct ρ2) ∧ killAll ρ2 dead = env (st (i + 1))) : loopF Φ dead tg body xs ρ = .nx (env (st xs.length)) := by
  refine for_st st ρ h0 fun i x hx => ?_
  obtain ⟨ρ1, ρ2, h1, h2, h3⟩ := hs i x hx
  exact ⟨ρ2, by rw [h1]; exact h2, h3⟩
/-- every turn leaves all as it was -/
theorem loop_all {Φ : Phi} {dead : List Nat} {tg : Tg} {body : List MS} {xs : List D} {ρ ρ0 : Env} (h0 : killAll ρ dead = ρ0)
    (hs : ∀ x ∈ xs, ∃ ρ1 ρ2, bindT tg x ρ0 = .ok ρ1 ∧ (evSs Φ body ρ1 = .nx ρ2 ∨ evSs Φ body ρ1 = .ct ρ2) ∧ killAll ρ2 dead = ρ0) : loopF Φ dead tg body xs ρ = .nx ρ0 :=
  loop_st (S := Unit) (fun _ => ρ0) (fun _ => ()) h0 fun i x hx => hs x (List.mem_of_getElem? hx)
theorem comp_map {Φ : Phi} {tg : Tg} {elt : ME} {ρ : Env} {α : Type} {enc g : α → D} {ys : List α} (h : ∀ y ∈ ys, ∃ ρ', bindT tg (enc y) ρ = .ok ρ' ∧ evE Φ elt ρ' = .ok (g y)) : compM (turnL tg (evC Φ none) (evE Φ elt) ρ) (ys.map enc) = .ok (ys.map g) := by
  refine cm_map fun y hy => ?_
  obtain ⟨ρ', h1, h2⟩ := h y hy
  unfold turnL
  rw [h1]
  simp [h2]
theorem comp_filter {Φ : Phi} {tg : Tg} {elt cc : ME} {ρ : Env} {α : Type} {enc g : α → D} {p : α → Bool} {ys : List α} (h : ∀ y ∈ ys, ∃ ρ', bindT tg (enc y) ρ = .ok ρ' ∧ evE Φ cc ρ' = .ok (.bl (p y)) ∧ (p y = true → evE Φ elt ρ' = .ok (g y))) :
    compM (turnL tg (evC Φ (some cc)) (evE Φ elt) ρ) (ys.map enc) = .ok ((ys.filter p).map g) := by
  refine cm_filter fun y hy => ?_
  obtain ⟨ρ', h1, h2, h3⟩ := h y hy
  unfold turnL
  rw [h1]
  cases q : p y
  · simp [h2, q]
  · simp [h2, q, h3 q]
theorem rng1 {n : Nat} (h : n ≤ 1000000000) : rngD [D.int (n : Int)] = some (.lst ((List.range n).map fun (k : Nat) => D.int (k : Int))) := by
  have hb : big62 (n : Int) = true := by unfold big62; simp; omega
  show (if big62 (n : Int) then some (D.lst (rngL 0 n)) else none) = _
  rw [if_pos hb]
  simp [rngL]
theorem rng1_at {n i : Nat} {x : D} (h : ((List.range n).map fun (k : Nat) => D.int (k : Int))[i]? = some x) : i < n ∧ x = .int (i : Int) := by
  rw [List.getElem?_map, Option.map_eq_some_iff] at h
  obtain ⟨j, h1, h2⟩ := h
  have hi : i < n := by
    have := (List.getElem?_eq_some_iff.mp h1).1
    simpa using this
  rw [List.getElem?_range hi] at h1
  cases h1
  exact ⟨hi, h2.symm⟩
theorem app_ok {xs : List D} {d : D} (h : xs.length < 16777216) : appD xs d = some (.lst (xs ++ [d])) := by
  unfold appD lineN
  rw [if_pos h]

/-- a loop that ends at the first item that fails -/
theorem loop_chk {Φ : Phi} {dead : List Nat} {tg : Tg} {body : List MS} {α : Type} {enc : α → D} {p : α → Bool} {d : D} {ρ0 : Env} : ∀ {ys : List α} {ρ : Env}, killAll ρ dead = ρ0 →
    (∀ y ∈ ys, ∃ ρ1 ρ2, bindT tg (enc y) ρ0 = .ok ρ1 ∧ (p y = true → evSs Φ body ρ1 = .nx ρ2 ∧ killAll ρ2 dead = ρ0) ∧ (p y = false → evSs Φ body ρ1 = .rt d)) → loopF Φ dead tg body (ys.map enc) ρ = if ys.all p then .nx ρ0 else .rt d
  | [], ρ, h0, _ => by
    show FL.nx (killAll ρ dead) = _
    rw [h0]; rfl
  | y :: ys, ρ, h0, hs => by
    obtain ⟨ρ1, ρ2, h1, h2, h3⟩ := hs y List.mem_cons_self
    show (match FL.of (bindT tg (enc y) (killAll ρ dead)) (fun ρ' => evSs Φ body ρ') with
    | .nx ρ' => forL dead (fun x ρ => FL.of (bindT tg x ρ) fun ρ' => evSs Φ body ρ') (ys.map enc) ρ'
    | .ct ρ' => forL dead (fun x ρ => FL.of (bindT tg x ρ) fun ρ' => evSs Φ body ρ') (ys.map enc) ρ'
    | .rt d => .rt d
    | .exc c r => .exc c r
    | .stuck => .stuck) = _
    rw [h0, h1, FL.of_ok]
    cases q : p y with
    | false => rw [h3 q]; simp [q]
    | true =>
      obtain ⟨g1, g2⟩ := h2 q
      rw [g1]
      have := loop_chk (ys := ys) g2 fun z hz => hs z (List.mem_cons_of_mem _ hz)
      unfold loopF at this
      rw [List.all_cons, q, Bool.true_and]
      exact this
/-! rows as dicts -/
abbrev kvP (p : Int × Int) : Key × D := (.inl p.1, .int p.2)
def keysUp (r : Row) : Prop := (r.map (·.1)).Pairwise (· < ·)
def wOf (r : Row) (t : Int) : Option Int := (r.find? fun p => decide (p.1 = t)).map (·.2)
theorem dictOf_row : ∀ r : Row, dictOf (r.map dP) = some (r.map kvP)
  | [] => rfl
  | p :: r => by
    rw [List.map_cons]
    show ((pairOf (dP p)).bind fun q => (dictOf (r.map dP)).map (q :: ·)) = _
    rw [dictOf_row r]; rfl
theorem putK_new {k : Key} {d : D} {kvs : List (Key × D)} (h : ∀ p ∈ kvs, p.1 ≠ k) : putK k d kvs = kvs ++ [(k, d)] := by
  unfold putK
  rw [if_neg]
  intro q
  rw [List.any_eq_true] at q
  obtain ⟨p, hp, e⟩ := q
  exact h p hp (of_decide_eq_true e)
theorem putAll_row : ∀ (r : Row) (acc : Row), ((acc ++ r).map (·.1)).Nodup → putAll (acc.map kvP) (r.map kvP) = (acc ++ r).map kvP
  | [], acc, _ => by simp [putAll]
  | p :: r, acc, h => by
    show putAll (putK (.inl p.1) (.int p.2) (acc.map kvP)) (r.map kvP) = _
    rw [putK_new, ← List.map_singleton (f := kvP) (a := p), ← List.map_append, putAll_row r (acc ++ [p]) (by simpa using h)]
    · simp
    · intro q hq e
      obtain ⟨z, hz, rfl⟩ := List.mem_map.mp hq
      have e : z.1 = p.1 := by simpa using e
      rw [List.map_append, List.nodup_append] at h
      exact h.2.2 z.1 (List.mem_map_of_mem hz) p.1 (by simp) e
theorem nodup_up {r : Row} (h : keysUp r) : (r.map (·.1)).Nodup := h.imp fun h => Int.ne_of_lt h
theorem dictB_row {r : Row} (h : r ≠ []) : dictB (r.map dP) = true := by
  cases r with
  | nil => exact absurd rfl h
  | cons p r =>
    simp only [List.map_cons, dictB, Bool.and_eq_true, List.all_eq_true]
    refine ⟨rfl, fun x hx => ?_⟩
    obtain ⟨z, _, rfl⟩ := List.mem_map.mp hx
    rfl
theorem dict_row {r : Row} (h0 : r ≠ []) (h : keysUp r) (hl : r.length ≤ 1000000) : bltD .dict [dR r] = some (.dct (r.map kvP)) := by
  show dictD (dR r) = _
  show (if decide ((r.map dP).length < lineN) && dictB (r.map dP) then (dictOf (r.map dP)).map fun ps => D.dct (putAll [] ps) else none) = _
  rw [if_pos, dictOf_row]
  · have := putAll_row r [] (by simpa using nodup_up h)
    simp only [List.map_nil, List.nil_append] at this
    simp [this]
  · rw [dictB_row h0]
    have : r.length < lineN := by unfold lineN; omega
    simp [this]
theorem look_row (r : Row) (t : Int) : look (.inl t) (r.map kvP) = (wOf r t).map D.int := by
  unfold wOf
  induction r with
  | nil => rfl
  | cons p r ih =>
    simp only [List.map_cons, look, List.find?_cons]
    by_cases e : p.1 = t
    · simp [e]
    · simp [e, ih]
theorem in_row (r : Row) (t : Int) : cmpD .isin (.int t) (.dct (r.map kvP)) = some (.bl (wOf r t).isSome) := by
  show (inD (.int t) (.dct (r.map kvP))).map _ = _
  show (some (look (.inl t) (r.map kvP)).isSome).map _ = _
  rw [look_row]
  simp
theorem nin_row (r : Row) (t : Int) : cmpD .nin (.int t) (.dct (r.map kvP)) = some (.bl (!(wOf r t).isSome)) := by
  show (some (look (.inl t) (r.map kvP)).isSome).map (fun c => D.bl (!c)) = _
  rw [look_row]
  simp
theorem idx_row {r : Row} {t v : Int} (h : wOf r t = some v) : idxD (.dct (r.map kvP)) (.int t) = some (.int v) := by
  show look (.inl t) (r.map kvP) = _
  rw [look_row, h]; rfl
theorem wOf_mem {r : Row} {t v : Int} (h : wOf r t = some v) : (t, v) ∈ r := by
  unfold wOf at h
  rw [Option.map_eq_some_iff] at h
  obtain ⟨p, h1, rfl⟩ := h
  have h2 := List.mem_of_find?_eq_some h1
  have h3 := List.find?_some h1
  have h3 : p.1 = t := by simpa using h3
  rw [← h3]; exact h2
theorem wOf_of {r : Row} (h : keysUp r) {p : Int × Int} (hp : p ∈ r) : wOf r p.1 = some p.2 := by
  induction r with
  | nil => simp at hp
  | cons q r ih =>
    unfold keysUp at h
    rw [List.map_cons, List.pairwise_cons] at h
    unfold wOf
    rw [List.find?_cons]
    by_cases e : q.1 = p.1
    · simp only [e, decide_true, Option.map_some]
      rcases List.mem_cons.mp hp with rfl | hp
      · rfl
      · have := h.1 p.1 (List.mem_map_of_mem hp)
        omega
    · simp only [e, decide_false]
      rcases List.mem_cons.mp hp with rfl | hp
      · exact absurd rfl e
      · exact ih h.2 hp
theorem wOf_none {r : Row} {t : Int} (h : wOf r t = none) : ∀ p ∈ r, p.1 ≠ t := by
  intro p hp e
  unfold wOf at h
  rw [Option.map_eq_none_iff, List.find?_eq_none] at h
  exact h p hp (by simpa using e)
theorem maxI_snoc' (x : Int) (xs : List Int) (v : Int) : maxI (x :: xs ++ [v]) = max (maxI (x :: xs)) v := by
  show (xs ++ [v]).foldl max x = max (xs.foldl max x) v
  rw [List.foldl_append]; rfl
/-- a loop by an invariant -/
theorem loop_inv {Φ : Phi} {dead : List Nat} {tg : Tg} {body : List MS} {xs : List D} {ρ : Env} (I : Nat → Env → Prop) (h0 : I 0 (killAll ρ dead))
    (hs : ∀ i x ρ, xs[i]? = some x → I i ρ → ∃ ρ1 ρ2, bindT tg x ρ = .ok ρ1 ∧ (evSs Φ body ρ1 = .nx ρ2 ∨ evSs Φ body ρ1 = .ct ρ2) ∧ I (i + 1) (killAll ρ2 dead)) : ∃ ρ', loopF Φ dead tg body xs ρ = .nx ρ' ∧ I xs.length ρ' := by
  have := for_inv (dead := dead) (turn := fun x ρ => FL.of (bindT tg x ρ) fun ρ' => evSs Φ body ρ') I xs 0 ρ h0 fun i x ρ hx hI => by
    rw [Nat.zero_add] at hI ⊢
    obtain ⟨ρ1, ρ2, h1, h2, h3⟩ := hs i x ρ hx hI
    exact ⟨ρ2, by rw [h1]; exact h2, h3⟩
  rw [Nat.zero_add] at this
  exact this
theorem idx_neg {ns : List Int} {k : Nat} (h : k < ns.length) : ∃ v, idxD (dI ns) (.int (-1 - (k : Int))) = some (.int v) := by
  refine ⟨ns.getD (ns.length - 1 - k) 0, ?_⟩
  show idxL (ns.map D.int) (-1 - (k : Int)) = _
  unfold idxL
  rw [if_neg (by omega), if_pos (by rw [List.length_map]; omega)]
  have e : (-1 - (k : Int) + ((ns.map D.int).length : Nat)).toNat = ns.length - 1 - k := by rw [List.length_map]; omega
  rw [e, List.getElem?_map, List.getElem?_eq_getElem (by omega)]
  simp [List.getD_eq_getElem?_getD, List.getElem?_eq_getElem (show ns.length - 1 - k < ns.length by omega)]
theorem set_int {ns : List Int} {k : Nat} {v : Int} (h : k < ns.length) : setIdxD (dI ns) (.int (k : Int)) (.int v) = some (dI (ns.set k v)) := by
  show (idxL (List.range (ns.map D.int).length) (k : Int)).map (fun j => D.lst ((ns.map D.int).set j (.int v))) = _
  unfold idxL
  rw [if_pos (Int.natCast_nonneg k), Int.toNat_natCast, List.getElem?_range (by simpa using h)]
  simp [List.map_set]
@[simp] theorem x_mth (Φ : Phi) (ρ : Env) (m : Mth) (a : ME) (es : List ME) : evE Φ (.mth m a es) ρ = (evE Φ a ρ).bind fun x => (R.of (mthRc m x)).bind fun _ => (evEs Φ es ρ).bind fun xs => R.of (mthD m x xs) := Eq.trans rfl rfl
/-- a loop that folds -/
theorem loop_fold {S α : Type} {Φ : Phi} {dead : List Nat} {tg : Tg} {body : List MS} {enc : α → D} (env : S → Env) (step : S → α → S) : ∀ {ys : List α} {ρ : Env} {s : S}, killAll ρ dead = env s →
    (∀ y ∈ ys, ∀ s, ∃ ρ1 ρ2, bindT tg (enc y) (env s) = .ok ρ1 ∧ evSs Φ body ρ1 = .nx ρ2 ∧ killAll ρ2 dead = env (step s y)) → loopF Φ dead tg body (ys.map enc) ρ = .nx (env (ys.foldl step s))
  | [], ρ, s, h0, _ => by
    show FL.nx (killAll ρ dead) = _
    rw [h0]; rfl
  | y :: ys, ρ, s, h0, hs => by
    obtain ⟨ρ1, ρ2, h1, h2, h3⟩ := hs y List.mem_cons_self s
    have ih := loop_fold (ys := ys) (ρ := ρ2) (s := step s y) env step h3 fun z hz => hs z (List.mem_cons_of_mem _ hz)
    unfold loopF at ih ⊢
    rw [List.map_cons, fl_cons, h0, h1, FL.of_ok, h2, List.foldl_cons]
    exact ih
theorem get3_row (r : Row) (t z : Int) : mthD .get3 (.dct (r.map kvP)) [.int t, .int z] = some (.int ((wOf r t).getD z)) := by
  show some ((look (.inl t) (r.map kvP)).getD (.int z)) = _
  rw [look_row]
  cases wOf r t <;> rfl
@[simp] theorem x_sls (Φ : Phi) (ρ : Env) (a lo k : ME) : evE Φ (.sls a lo k) ρ = (evE Φ a ρ).bind fun x => (evE Φ lo ρ).bind fun l => (R.of (intOf l)).bind fun l => (evE Φ k ρ).bind fun k => (R.of (intOf k)).bind fun k => R.of (sliceStepD x l k) := Eq.trans rfl rfl
end Mi

/-! Mi, part T: typed mirrors of mini programs. -/
namespace Mi
open PySem

@[simp] theorem x_glob (Φ : Phi) (ρ : Env) (x : Str) (d : D) : evE Φ (.glob x d) ρ = .ok d := Eq.trans rfl rfl
@[simp] theorem x_isB (Φ : Phi) (ρ : Env) (a : ME) (b : Bool) : evE Φ (.isB a b) ρ = (evE Φ a ρ).bind fun x => (R.of (boolD x)).bind fun c => .ok (.bl (c == b)) := Eq.trans rfl rfl
@[simp] theorem x_nisB (Φ : Phi) (ρ : Env) (a : ME) (b : Bool) : evE Φ (.nisB a b) ρ = (evE Φ a ρ).bind fun x => (R.of (boolD x)).bind fun c => .ok (.bl (!(c == b))) := Eq.trans rfl rfl
@[simp] theorem x_dks (Φ : Phi) (ρ : Env) (a : ME) : evE Φ (.dks a) ρ = (evE Φ a ρ).bind fun s => (R.of (keysOf s)).bind fun xs => .ok (.lst xs) := Eq.trans rfl rfl
@[simp] theorem x_fld (Φ : Phi) (ρ : Env) (a : ME) (k : Nat) : evE Φ (.fld a k) ρ = (evE Φ a ρ).bind fun x => R.of (fldD x k) := Eq.trans rfl rfl
@[simp] theorem x_mk (Φ : Phi) (ρ : Env) (c : Nat) (es : List ME) : evE Φ (.mk c es) ρ = (evEs Φ es ρ).bind fun xs => R.of (mkD c xs) := Eq.trans rfl rfl
@[simp] theorem y_sdef (Φ : Phi) (ρ : Env) (i : Nat) (k e : ME) : evS Φ (.sdef i k e) ρ = FL.of (evE Φ k ρ) fun q => FL.of (evE Φ e ρ) fun d => FL.of (getE ρ i) fun x => FL.of (R.of (sdefD x q d)) fun y => .nx (setE ρ i y) := Eq.trans rfl rfl
@[simp] theorem y_raiseE (Φ : Phi) (ρ : Env) (c : Nat) (e : ME) : evS Φ (.raise c (some e)) ρ = FL.of (evE Φ e ρ) fun d => FL.of (R.of (intOf d)) fun r => .exc c r := Eq.trans rfl rfl

/-- what the evaluator tells, by what the mirror tells -/
def Sim {δ α : Type} (x : R δ) (t : R α) (e : α → δ) : Prop := match t with
  | .ok a => x = .ok (e a)
  | .exc c r => x = .exc c r
  | .stuck => True
/-- a def's promise -/
structure SimW {δ α : Type} (x : R δ) (t : R α) (e : α → δ) : Prop where
  out : Sim x t e
theorem Sim.of_ok {δ α : Type} {a : α} {e : α → δ} : Sim (.ok (e a)) (.ok a) e := rfl
theorem Sim.get {δ α : Type} {x : R δ} {t : R α} {a : α} {e : α → δ} (h : Sim x t e) (k : t = .ok a) : x = .ok (e a) := by
  subst k; exact h
theorem SimW.get {δ α : Type} {x : R δ} {t : R α} {a : α} {e : α → δ} (h : SimW x t e) (k : t = .ok a) : x = .ok (e a) := h.out.get k
theorem Sim.bind {δ δ' α β : Type} {x : R δ} {t : R α} {e : α → δ} {f : δ → R δ'} {g : α → R β} {e' : β → δ'} (h : Sim x t e) (k : ∀ a, Sim (f (e a)) (g a) e') : Sim (x.bind f) (t.bind g) e' := by
  cases t with
  | ok a => have h : x = .ok (e a) := h; subst h; exact k a
  | exc c r => have h : x = .exc c r := h; subst h; exact rfl
  | stuck => exact trivial
theorem Sim.stuck {δ α : Type} {x : R δ} {e : α → δ} : Sim x (.stuck : R α) e := trivial
theorem Sim.of {δ α : Type} {x : Option δ} {t : Option α} {e : α → δ} (h : ∀ a, t = some a → x = some (e a)) : Sim (R.of x) (R.of t) e := by
  cases t with
  | none => exact trivial
  | some a => rw [h a rfl]; exact rfl
theorem Sim.ite {δ α : Type} {x : R δ} {c : Prop} [Decidable c] {t : R α} {e : α → δ} (h : c → Sim x t e) : Sim x (if c then t else .stuck) e := by
  by_cases hc : c
  · rw [if_pos hc]; exact h hc
  · rw [if_neg hc]; exact trivial

/-! ### environments -/
/-- the first knows all that the second tells -/
inductive AgL : Env → Env → Prop
  | nil : AgL [] []
  | no {x : Option D} {r r' : Env} (h : AgL r r') : AgL (x :: r) (none :: r')
  | so {d : D} {r r' : Env} (h : AgL r r') : AgL (some d :: r) (some d :: r')
theorem AgL.refl : ∀ r : Env, AgL r r
  | [] => .nil
  | none :: r => .no (AgL.refl r)
  | some d :: r => .so (AgL.refl r)
theorem AgL.trans {a b c : Env} (h : AgL a b) (k : AgL b c) : AgL a c := by
  induction h generalizing c with
  | nil => exact k
  | no _ ih => cases k with
    | no k => exact .no (ih k)
  | so _ ih => cases k with
    | no k => exact .no (ih k)
    | so k => exact .so (ih k)
theorem AgL.get {a b : Env} (h : AgL a b) : ∀ {i : Nat} {d : D}, getE b i = .ok d → getE a i = .ok d := by
  induction h with
  | nil => intro i d e; exact e
  | no _ ih =>
    intro i d e
    cases i with
    | zero => cases e
    | succ i => exact ih e
  | so _ ih =>
    intro i d e
    cases i with
    | zero => exact e
    | succ i => exact ih e
theorem AgL.set {a b : Env} (h : AgL a b) (d : D) : ∀ i : Nat, AgL (setE a i d) (setE b i d) := by
  induction h with
  | nil => intro i; exact .nil
  | no h ih =>
    intro i
    cases i with
    | zero => exact .so h
    | succ i => exact .no (ih i)
  | so h ih =>
    intro i
    cases i with
    | zero => exact .so h
    | succ i => exact .so (ih i)
theorem AgL.kill {a b : Env} (h : AgL a b) : ∀ i : Nat, AgL (killE a i) (killE b i) := by
  induction h with
  | nil => intro i; exact .nil
  | no h ih =>
    intro i
    cases i with
    | zero => exact .no h
    | succ i => exact .no (ih i)
  | so h ih =>
    intro i
    cases i with
    | zero => exact .no h
    | succ i => exact .so (ih i)
theorem AgL.killAll : ∀ (is : List Nat) {a b : Env}, AgL a b → AgL (killAll a is) (killAll b is)
  | [], _, _, h => h
  | i :: is, _, _, h => AgL.killAll is (h.kill i)
theorem AgL.many : ∀ {is : List Nat} {ds : List D} {a b c : Env}, AgL a b → bindMany is ds b = .ok c → ∃ d, bindMany is ds a = .ok d ∧ AgL d c
  | [], [], a, b, c, h, e => by cases e; exact ⟨a, rfl, h⟩
  | [], _ :: _, _, _, _, _, e => by cases e
  | _ :: _, [], _, _, _, _, e => by cases e
  | i :: is, d :: ds, a, b, c, h, e => AgL.many (is := is) (ds := ds) (h.set d i) e
theorem AgL.bindT {tg : Tg} {d : D} {a b c : Env} (h : AgL a b) (e : bindT tg d b = .ok c) : ∃ c', bindT tg d a = .ok c' ∧ AgL c' c := by
  cases tg with
  | one i => cases e; exact ⟨_, rfl, h.set d i⟩
  | many is =>
    cases d <;> first | (cases e; done) | exact AgL.many h e

/-! ### expressions -/
def SE {α : Type} (Φ : Phi) (es : Env) (e : ME) (t : R α) (enc : α → D) : Prop := ∀ ρ, AgL ρ es → Sim (evE Φ e ρ) t enc
def SO (Φ : Phi) (es : Env) (e : Option ME) (t : R (Option Int)) : Prop := ∀ ρ, AgL ρ es → Sim (evO Φ e ρ) t id
/-- the encodings -/
def eL {α : Type} (e : α → D) (xs : List α) : D := .lst (xs.map e)
def eT {α : Type} (e : α → D) (xs : List α) : D := .tup (xs.map e)
def eP {α β : Type} (e : α → D) (f : β → D) (p : α × β) : D := .tup [e p.1, f p.2]
def eP3 {α β γ : Type} (e : α → D) (f : β → D) (g : γ → D) (p : α × β × γ) : D := .tup [e p.1, f p.2.1, g p.2.2]
def eP4 {α β γ δ : Type} (e : α → D) (f : β → D) (g : γ → D) (h : δ → D) (p : α × β × γ × δ) : D := .tup [e p.1, f p.2.1, g p.2.2.1, h p.2.2.2]
def eH2 {α β : Type} (e : α → D) (f : β → D) (p : α × β) : D := .lst [e p.1, f p.2]
def eH3 {α β γ : Type} (e : α → D) (f : β → D) (g : γ → D) (p : α × β × γ) : D := .lst [e p.1, f p.2.1, g p.2.2]
def eO {α : Type} (e : α → D) : Option α → D
  | none => .non
  | some a => e a
def eU (_ : Unit) : D := .non
def eM {κ α : Type} (k : κ → Key) (e : α → D) (kvs : List (κ × α)) : D := .dct (kvs.map fun p => (k p.1, e p.2))
def kI : Int → Key := .inl
def kS : Str → Key := .inr
/-- plans and books -/
abbrev PlanT := Str × List Str × List (Str × Str × List (Int × Int))
abbrev BookT := List PlanT
def eRow : Str × Str × List (Int × Int) → D := eP3 D.str D.str (eT (eP D.int D.int))
def ePlan (p : PlanT) : D := .obj 0 [.str p.1, eL D.str p.2.1, eL eRow p.2.2]
def eBook (b : BookT) : D := .obj 1 [eL ePlan b]

section
variable {Φ : Phi} {es : Env}
theorem SE.v {α : Type} {enc : α → D} {a : α} {i : Nat} (h : getE es i = .ok (enc a)) : SE Φ es (.v i) (.ok a) enc := fun ρ hρ => hρ.get h
theorem SE.int {i : Int} : SE Φ es (.int i) (.ok i) D.int := fun _ _ => rfl
theorem SE.str {i : Str} : SE Φ es (.str i) (.ok i) D.str := fun _ _ => rfl
theorem SE.bl {i : Bool} : SE Φ es (.bl i) (.ok i) D.bl := fun _ _ => rfl
theorem SE.non {α : Type} {e : α → D} : SE Φ es .non (.ok none) (eO e) := fun _ _ => rfl
theorem SE.nonU : SE Φ es .non (.ok ()) eU := fun _ _ => rfl
theorem SE.glob {α : Type} {enc : α → D} {x : Str} {d : D} {a : α} (h : d = enc a) : SE Φ es (.glob x d) (.ok a) enc := fun _ _ => by subst h; rfl
theorem SE.bin {α β γ : Type} {o : AOp} {a b : ME} {ta : R α} {tb : R β} {ea : α → D} {eb : β → D} {m : α → β → R γ} {e : γ → D} (ha : SE Φ es a ta ea) (hb : SE Φ es b tb eb) (hm : ∀ x y, Sim (R.of (binD o (ea x) (eb y))) (m x y) e) : SE Φ es (.bin o a b) (ta.bind fun x => tb.bind fun y => m x y) e := by
  intro ρ hρ
  rw [x_bin]
  exact (ha ρ hρ).bind fun x => (hb ρ hρ).bind fun y => hm x y
theorem SE.cmp {α β γ : Type} {o : CO} {a b : ME} {ta : R α} {tb : R β} {ea : α → D} {eb : β → D} {m : α → β → R γ} {e : γ → D} (ha : SE Φ es a ta ea) (hb : SE Φ es b tb eb) (hm : ∀ x y, Sim (R.of (cmpD o (ea x) (eb y))) (m x y) e) : SE Φ es (.cmp o a b) (ta.bind fun x => tb.bind fun y => m x y) e := by
  intro ρ hρ
  rw [x_cmp]
  exact (ha ρ hρ).bind fun x => (hb ρ hρ).bind fun y => hm x y
theorem SE.chn {α β γ : Type} {o p : CO} {a b c : ME} {ta : R α} {tb : R β} {tc : R γ} {ea : α → D} {eb : β → D} {ec : γ → D} {m : α → β → R Bool} {m' : β → γ → R Bool} (ha : SE Φ es a ta ea) (hb : SE Φ es b tb eb) (hm : ∀ x y, Sim (R.of (cmpD o (ea x) (eb y))) (m x y) D.bl) (hc : SE Φ es c tc ec) (hm' : ∀ x y, Sim (R.of (cmpD p (eb x) (ec y))) (m' x y) D.bl) :
    SE Φ es (.chn o p a b c) (ta.bind fun x => tb.bind fun y => (m x y).bind fun t => if t then tc.bind fun z => m' y z else .ok false) D.bl := by
  intro ρ hρ
  rw [x_chn]
  refine (ha ρ hρ).bind fun x => (hb ρ hρ).bind fun y => (hm x y).bind fun t => ?_
  rw [bo_bl, R.of_some, R.ok_bind]
  cases t
  · exact rfl
  · exact (hc ρ hρ).bind fun z => hm' y z
theorem SE.neg {a : ME} {t : R Int} (h : SE Φ es a t D.int) : SE Φ es (.neg a) (t.bind fun x => .ok (-x)) D.int := by
  intro ρ hρ
  rw [x_neg]
  exact (h ρ hρ).bind fun x => rfl
theorem SE.not {a : ME} {t : R Bool} (h : SE Φ es a t D.bl) : SE Φ es (.not a) (t.bind fun x => .ok (!x)) D.bl := by
  intro ρ hρ
  rw [x_not]
  exact (h ρ hρ).bind fun x => rfl
theorem SE.and {a b : ME} {t s : R Bool} (h : SE Φ es a t D.bl) (k : SE Φ es b s D.bl) : SE Φ es (.and a b) (t.bind fun x => if x then s else .ok false) D.bl := by
  intro ρ hρ
  rw [x_and]
  refine (h ρ hρ).bind fun x => ?_
  cases x
  · exact rfl
  · exact k ρ hρ
theorem SE.or {a b : ME} {t s : R Bool} (h : SE Φ es a t D.bl) (k : SE Φ es b s D.bl) : SE Φ es (.or a b) (t.bind fun x => if x then .ok true else s) D.bl := by
  intro ρ hρ
  rw [x_or]
  refine (h ρ hρ).bind fun x => ?_
  cases x
  · exact k ρ hρ
  · exact rfl
/-- never None -/
def NN {α : Type} (e : α → D) : Prop := ∀ a, isNon (e a) = false
theorem NN.int : NN D.int := fun _ => rfl
theorem NN.str : NN D.str := fun _ => rfl
theorem NN.bl : NN D.bl := fun _ => rfl
theorem NN.lst {α : Type} {e : α → D} : NN (eL e) := fun _ => rfl
theorem NN.tup {α : Type} {e : α → D} : NN (eT e) := fun _ => rfl
theorem NN.p2 {α β : Type} {e : α → D} {f : β → D} : NN (eP e f) := fun _ => rfl
theorem NN.p3 {α β γ : Type} {e : α → D} {f : β → D} {g : γ → D} : NN (eP3 e f g) := fun _ => rfl
theorem NN.h2 {α β : Type} {e : α → D} {f : β → D} : NN (eH2 e f) := fun _ => rfl
theorem SE.isN {α : Type} {a : ME} {t : R (Option α)} {e : α → D} (hn : NN e) (h : SE Φ es a t (eO e)) : SE Φ es (.isN a) (t.bind fun x => .ok x.isNone) D.bl := by
  intro ρ hρ
  rw [x_isN]
  refine (h ρ hρ).bind fun x => ?_
  cases x with
  | none => exact rfl
  | some x => exact congrArg (fun b => R.ok (D.bl b)) (hn x)
theorem SE.nisN {α : Type} {a : ME} {t : R (Option α)} {e : α → D} (hn : NN e) (h : SE Φ es a t (eO e)) : SE Φ es (.nisN a) (t.bind fun x => .ok x.isSome) D.bl := by
  intro ρ hρ
  rw [x_nisN]
  refine (h ρ hρ).bind fun x => ?_
  cases x with
  | none => exact rfl
  | some x => exact congrArg (fun b => R.ok (D.bl (!b))) (hn x)
/-- of what is never None -/
theorem SE.isN' {α : Type} {a : ME} {t : R α} {e : α → D} (hn : NN e) (h : SE Φ es a t e) : SE Φ es (.isN a) (t.bind fun _ => .ok false) D.bl := by
  intro ρ hρ
  rw [x_isN]
  exact (h ρ hρ).bind fun x => congrArg (fun b => R.ok (D.bl b)) (hn x)
theorem SE.nisN' {α : Type} {a : ME} {t : R α} {e : α → D} (hn : NN e) (h : SE Φ es a t e) : SE Φ es (.nisN a) (t.bind fun _ => .ok true) D.bl := by
  intro ρ hρ
  rw [x_nisN]
  exact (h ρ hρ).bind fun x => congrArg (fun b => R.ok (D.bl (!b))) (hn x)
/-- of what is always None -/
theorem SE.isNU {a : ME} {t : R Unit} (h : SE Φ es a t eU) : SE Φ es (.isN a) (t.bind fun _ => .ok true) D.bl := by
  intro ρ hρ
  rw [x_isN]
  exact (h ρ hρ).bind fun x => rfl
theorem SE.nisNU {a : ME} {t : R Unit} (h : SE Φ es a t eU) : SE Φ es (.nisN a) (t.bind fun _ => .ok false) D.bl := by
  intro ρ hρ
  rw [x_nisN]
  exact (h ρ hρ).bind fun x => rfl
theorem SE.isB {a : ME} {b : Bool} {t : R Bool} (h : SE Φ es a t D.bl) : SE Φ es (.isB a b) (t.bind fun x => .ok (x == b)) D.bl := by
  intro ρ hρ
  rw [x_isB]
  exact (h ρ hρ).bind fun x => rfl
theorem SE.nisB {a : ME} {b : Bool} {t : R Bool} (h : SE Φ es a t D.bl) : SE Φ es (.nisB a b) (t.bind fun x => .ok (!(x == b))) D.bl := by
  intro ρ hρ
  rw [x_nisB]
  exact (h ρ hρ).bind fun x => rfl
/-- what may be None, where it is not; and what is not, as what may be -/
theorem SE.get {α : Type} {a : ME} {t : R (Option α)} {e : α → D} (h : SE Φ es a t (eO e)) : SE Φ es a (t.bind R.of) e := by
  intro ρ hρ
  have := h ρ hρ
  cases t with
  | ok o =>
    cases o with
    | none => exact trivial
    | some x => exact this
  | exc c r => exact this
  | stuck => exact trivial
theorem SE.opt {α : Type} {a : ME} {t : R α} {e : α → D} (h : SE Φ es a t e) : SE Φ es a (t.bind fun x => .ok (some x)) (eO e) := by
  intro ρ hρ
  have := h ρ hρ
  cases t with
  | ok o => exact this
  | exc c r => exact this
  | stuck => exact trivial
/-- any value as it is -/
theorem SE.any {α : Type} {a : ME} {t : R α} {e : α → D} (h : SE Φ es a t e) : SE Φ es a (t.bind fun x => .ok (e x)) id := by
  intro ρ hρ
  have := h ρ hρ
  cases t with
  | ok o => exact this
  | exc c r => exact this
  | stuck => exact trivial
/-- a value by another way of writing -/
theorem SE.as {α β : Type} {a : ME} {t : R α} {e : α → D} {f : β → D} {g : α → β} (hg : ∀ x, e x = f (g x)) (h : SE Φ es a t e) : SE Φ es a (t.bind fun x => .ok (g x)) f := by
  intro ρ hρ
  have := h ρ hρ
  cases t with
  | ok o => exact Eq.trans this (congrArg R.ok (hg o))
  | exc c r => exact this
  | stuck => exact trivial
theorem SE.idx {α β γ : Type} {a b : ME} {ta : R α} {tb : R β} {ea : α → D} {eb : β → D} {m : α → β → R γ} {e : γ → D} (ha : SE Φ es a ta ea) (hb : SE Φ es b tb eb) (hm : ∀ x y, Sim (R.of (idxD (ea x) (eb y))) (m x y) e) : SE Φ es (.idx a b) (ta.bind fun x => tb.bind fun y => m x y) e := by
  intro ρ hρ
  rw [x_idx]
  exact (ha ρ hρ).bind fun x => (hb ρ hρ).bind fun y => hm x y
/-- a part by its place -/
theorem SE.prt {α γ : Type} {a : ME} {i : Int} {ta : R α} {ea : α → D} {m : α → γ} {e : γ → D} (ha : SE Φ es a ta ea) (hm : ∀ x, idxD (ea x) (.int i) = .some (e (m x))) : SE Φ es (.idx a (.int i)) (ta.bind fun x => .ok (m x)) e := by
  intro ρ hρ
  rw [x_idx, x_int]
  refine (ha ρ hρ).bind fun x => ?_
  show R.of (idxD (ea x) (.int i)) = _
  rw [hm x]; rfl
theorem SO.none : SO Φ es .none (.ok .none) := fun _ _ => rfl
theorem SO.some {e : ME} {t : R Int} (h : SE Φ es e t D.int) : SO Φ es (.some e) (t.bind fun x => .ok (.some x)) := by
  intro ρ hρ
  rw [x_os]
  exact (h ρ hρ).bind fun x => rfl
theorem SE.sl {α γ : Type} {a : ME} {lo hi : Option ME} {ta : R α} {tl th : R (Option Int)} {ea : α → D} {m : α → Option Int → Option Int → R γ} {e : γ → D} (ha : SE Φ es a ta ea) (hl : SO Φ es lo tl) (hh : SO Φ es hi th) (hm : ∀ x l h, Sim (R.of (sliceD (ea x) l h)) (m x l h) e) : SE Φ es (.sl a lo hi) (ta.bind fun x => tl.bind fun l => th.bind fun h => m x l h) e := by
  intro ρ hρ
  rw [x_sl]
  exact (ha ρ hρ).bind fun x => (hl ρ hρ).bind fun l => (hh ρ hρ).bind fun h => hm x l h
theorem SE.sls {α γ : Type} {a lo k : ME} {ta : R α} {tl tk : R Int} {ea : α → D} {m : α → Int → Int → R γ} {e : γ → D} (ha : SE Φ es a ta ea) (hl : SE Φ es lo tl D.int) (hk : SE Φ es k tk D.int) (hm : ∀ x l k, Sim (R.of (sliceStepD (ea x) l k)) (m x l k) e) : SE Φ es (.sls a lo k) (ta.bind fun x => tl.bind fun l => tk.bind fun k => m x l k) e := by
  intro ρ hρ
  rw [x_sls]
  exact (ha ρ hρ).bind fun x => (hl ρ hρ).bind fun l => (hk ρ hρ).bind fun k => hm x l k
theorem SE.lnil {α : Type} {e : α → D} : SE Φ es (.lst []) (.ok ([] : List α)) (eL e) := fun _ _ => rfl
theorem SE.tnil {α : Type} {e : α → D} : SE Φ es (.tup []) (.ok ([] : List α)) (eT e) := fun _ _ => rfl
theorem SE.dnil {κ α : Type} {k : κ → Key} {e : α → D} : SE Φ es .dnil (.ok ([] : List (κ × α))) (eM k e) := fun _ _ => rfl
theorem SE.lcons {α : Type} {a : ME} {l : List ME} {t : R α} {ts : R (List α)} {e : α → D} (h : SE Φ es a t e) (hs : SE Φ es (.lst l) ts (eL e)) : SE Φ es (.lst (a :: l)) (t.bind fun x => ts.bind fun xs => .ok (x :: xs)) (eL e) := by
  intro ρ hρ
  rw [x_lst, x_cons, R.bind_assoc]
  refine (h ρ hρ).bind fun x => ?_
  have := hs ρ hρ
  rw [x_lst] at this
  rw [R.bind_assoc]
  cases q : evEs Φ l ρ with
  | ok ds =>
    rw [q] at this
    cases ts with
    | ok xs =>
      have this : R.ok (D.lst ds) = .ok (eL e xs) := this
      injection this with this
      injection this with this
      show R.ok (D.lst (e x :: ds)) = _
      rw [this]; rfl
    | exc c r => cases this
    | stuck => exact trivial
  | exc c r =>
    rw [q] at this
    cases ts with
    | ok xs => cases this
    | exc c' r' => exact this
    | stuck => exact trivial
  | stuck =>
    rw [q] at this
    cases ts with
    | ok xs => cases this
    | exc c' r' => cases this
    | stuck => exact trivial
theorem SE.tcons {α : Type} {a : ME} {l : List ME} {t : R α} {ts : R (List α)} {e : α → D} (h : SE Φ es a t e) (hs : SE Φ es (.tup l) ts (eT e)) : SE Φ es (.tup (a :: l)) (t.bind fun x => ts.bind fun xs => .ok (x :: xs)) (eT e) := by
  intro ρ hρ
  rw [x_tup, x_cons, R.bind_assoc]
  refine (h ρ hρ).bind fun x => ?_
  have := hs ρ hρ
  rw [x_tup] at this
  rw [R.bind_assoc]
  cases q : evEs Φ l ρ with
  | ok ds =>
    rw [q] at this
    cases ts with
    | ok xs =>
      have this : R.ok (D.tup ds) = .ok (eT e xs) := this
      injection this with this
      injection this with this
      show R.ok (D.tup (e x :: ds)) = _
      rw [this]; rfl
    | exc c r => cases this
    | stuck => exact trivial
  | exc c r =>
    rw [q] at this
    cases ts with
    | ok xs => cases this
    | exc c' r' => exact this
    | stuck => exact trivial
  | stuck =>
    rw [q] at this
    cases ts with
    | ok xs => cases this
    | exc c' r' => cases this
    | stuck => exact trivial
theorem SE.enm {α : Type} {a : ME} {t : R (List α)} {e : α → D} (h : SE Φ es a t (eL e)) : SE Φ es (.enm a) (t.bind fun xs => .ok (xs.mapIdx fun i x => ((i : Int), x))) (eL (eP D.int e)) := by
  intro ρ hρ
  rw [x_enm]
  refine (h ρ hρ).bind fun xs => ?_
  show R.ok (D.lst (enmL 0 (xs.map e))) = R.ok (D.lst _)
  congr 2
  have : ∀ (n : Nat) (xs : List α), enmL n (xs.map e) = (xs.mapIdx fun i x => (((n + i : Nat) : Int), x)).map (eP D.int e) := by
    intro n xs
    induction xs generalizing n with
    | nil => rfl
    | cons x xs ih =>
      rw [List.map_cons, List.mapIdx_cons, List.map_cons]
      show D.tup [.int n, e x] :: enmL (n + 1) (xs.map e) = _
      rw [ih (n + 1)]
      have hf : (fun (i : Nat) (x : α) => (((n + 1 + i : Nat) : Int), x)) = fun (i : Nat) (x : α) => (((n + (i + 1) : Nat) : Int), x) := by
        funext i x
        rw [show n + 1 + i = n + (i + 1) by omega]
      rw [hf]; rfl
  have := this 0 xs
  simpa using this
@[irreducible] def zipR {α β : Type} (e : α → D) (f : β → D) (xs : List α) (ys : List β) : R (List (α × β)) := if ((xs.zip ys).all fun p => !dictB [e p.1, f p.2]) = true then .ok (xs.zip ys) else .stuck
theorem zipL_map {α β : Type} {e : α → D} {f : β → D} : ∀ (xs : List α) (ys : List β), zipL (xs.map e) (ys.map f) = (xs.zip ys).map (eP e f)
  | [], ys => by simp [zipL]
  | x :: xs, [] => by simp [zipL]
  | x :: xs, y :: ys => by simp [zipL, zipL_map xs ys, eP]
theorem SE.zp {α β : Type} {a b : ME} {t : R (List α)} {s : R (List β)} {e : α → D} {f : β → D} (h : SE Φ es a t (eL e)) (k : SE Φ es b s (eL f)) : SE Φ es (.zp a b) (t.bind fun xs => s.bind fun ys => zipR e f xs ys) (eL (eP e f)) := by
  intro ρ hρ
  rw [x_zp]
  refine (h ρ hρ).bind fun xs => (k ρ hρ).bind fun ys => ?_
  unfold zipR
  refine Sim.ite fun hc => ?_
  show (R.of (if (zipL (xs.map e) (ys.map f)).all (fun d => !dictB (partsD d)) = true then _ else none)).bind _ = _
  have hc : (zipL (xs.map e) (ys.map f)).all (fun d => !dictB (partsD d)) = true := by
    rw [zipL_map, List.all_map]; exact hc
  rw [if_pos hc, zipL_map]; rfl
theorem SE.rvsL {α : Type} {a : ME} {t : R (List α)} {e : α → D} (h : SE Φ es a t (eL e)) : SE Φ es (.rvs a) (t.bind fun xs => .ok xs.reverse) (eL e) := by
  intro ρ hρ
  rw [x_rvs]
  refine (h ρ hρ).bind fun xs => ?_
  show R.ok (D.lst (xs.map e).reverse) = R.ok (D.lst _)
  rw [List.map_reverse]
theorem SE.rvsT {α : Type} {a : ME} {t : R (List α)} {e : α → D} (h : SE Φ es a t (eT e)) : SE Φ es (.rvs a) (t.bind fun xs => .ok xs.reverse) (eL e) := by
  intro ρ hρ
  rw [x_rvs]
  refine (h ρ hρ).bind fun xs => ?_
  show R.ok (D.lst (xs.map e).reverse) = R.ok (D.lst _)
  rw [List.map_reverse]
theorem SE.dksI {α : Type} {a : ME} {t : R (List (Int × α))} {e : α → D} (h : SE Φ es a t (eM kI e)) : SE Φ es (.dks a) (t.bind fun xs => .ok (xs.map (·.1))) (eL D.int) := by
  intro ρ hρ
  rw [x_dks]
  refine (h ρ hρ).bind fun xs => ?_
  show R.ok (D.lst ((xs.map fun p => (kI p.1, e p.2)).map fun p => keyD p.1)) = R.ok (D.lst _)
  simp [kI, keyD]
theorem SE.dksS {α : Type} {a : ME} {t : R (List (Str × α))} {e : α → D} (h : SE Φ es a t (eM kS e)) : SE Φ es (.dks a) (t.bind fun xs => .ok (xs.map (·.1))) (eL D.str) := by
  intro ρ hρ
  rw [x_dks]
  refine (h ρ hρ).bind fun xs => ?_
  show R.ok (D.lst ((xs.map fun p => (kS p.1, e p.2)).map fun p => keyD p.1)) = R.ok (D.lst _)
  simp [kS, keyD]
theorem SE.fld {α γ : Type} {a : ME} {k : Nat} {ta : R α} {ea : α → D} {m : α → γ} {e : γ → D} (ha : SE Φ es a ta ea) (hm : ∀ x, fldD (ea x) k = .some (e (m x))) : SE Φ es (.fld a k) (ta.bind fun x => .ok (m x)) e := by
  intro ρ hρ
  rw [x_fld]
  refine (ha ρ hρ).bind fun x => ?_
  show R.of (fldD (ea x) k) = _
  rw [hm x]; rfl
theorem SE.isi {α : Type} {a : ME} {cs : List Nat} {ta : R α} {ea : α → D} {b : α → R Bool} (ha : SE Φ es a ta ea) (hm : ∀ x, Sim (R.of (isiD cs (ea x))) (b x) D.bl) : SE Φ es (.isi a cs) (ta.bind fun x => b x) D.bl := by
  intro ρ hρ
  rw [x_isi]
  exact (ha ρ hρ).bind fun x => hm x
/-! comprehensions -/
def mapM' {α β : Type} (f : α → R β) : List α → R (List β)
  | [] => .ok []
  | x :: xs => (f x).bind fun y => (mapM' f xs).bind fun ys => .ok (y :: ys)
def filM' {α β : Type} (p : α → R Bool) (f : α → R β) : List α → R (List β)
  | [] => .ok []
  | x :: xs => (p x).bind fun c => if c then (f x).bind fun y => (filM' p f xs).bind fun ys => .ok (y :: ys) else filM' p f xs
@[irreducible] def capR {α : Type} (t : R (List α)) : R (List α) := (noX t).bind fun ys => if ys.length ≤ lineN then .ok ys else .stuck
def mapC {α β : Type} (f : α → R β) (xs : List α) : R (List β) := capR (mapM' f xs)
def filC {α β : Type} (p : α → R Bool) (f : α → R β) (xs : List α) : R (List β) := capR (filM' p f xs)
theorem Sim.cap {α : Type} {x : R (List D)} {t : R (List α)} {e : α → D} (h : Sim x t (List.map e)) : Sim ((noX x).bind fun ys => if ys.length ≤ lineN then .ok (.lst ys) else .stuck) (capR t) (eL e) := by
  unfold capR
  cases t with
  | ok xs =>
    have h : x = .ok (xs.map e) := h
    subst h
    show Sim (if (xs.map e).length ≤ lineN then .ok (.lst (xs.map e)) else .stuck) (if xs.length ≤ lineN then .ok xs else .stuck) (eL e)
    refine Sim.ite fun hc => ?_
    rw [List.length_map, if_pos hc]; exact rfl
  | exc c r => exact trivial
  | stuck => exact trivial
theorem SE.map {γ α β : Type} {elt it : ME} {tg : Tg} {t : R γ} {e0 : γ → D} {its : γ → List α} {e : α → D} {f : α → R β} {e2 : β → D} {esb : α → Env} (hit : SE Φ es it t e0) (hi : ∀ a, itemsOf (e0 a) = .some ((its a).map e)) (hbt : ∀ x, bindT tg (e x) es = .ok (esb x))
    (hf : ∀ x, SE Φ (esb x) elt (f x) e2) : SE Φ es (.lc elt tg it none) (t.bind fun a => mapC f (its a)) (eL e2) := by
  intro ρ hρ
  rw [x_lc]
  refine (hit ρ hρ).bind fun a => ?_
  rw [hi a, R.of_some, R.ok_bind]
  refine Sim.cap ?_
  generalize its a = xs
  induction xs with
  | nil => exact rfl
  | cons x xs ih =>
    obtain ⟨ρ', h1, h2⟩ := hρ.bindT (hbt x)
    rw [List.map_cons, cm_cons]
    have := hf x ρ' h2
    unfold turnL
    rw [h1]
    simp only [R.ok_bind, x_cn, if_true]
    rw [R.bind_assoc]
    refine this.bind fun y => ?_
    rw [R.ok_bind]
    exact Sim.bind ih fun ys => rfl
theorem SE.fil {γ α β : Type} {elt it c : ME} {tg : Tg} {t : R γ} {e0 : γ → D} {its : γ → List α} {e : α → D} {p : α → R Bool} {f : α → R β} {e2 : β → D} {esb : α → Env} (hit : SE Φ es it t e0) (hi : ∀ a, itemsOf (e0 a) = .some ((its a).map e)) (hbt : ∀ x, bindT tg (e x) es = .ok (esb x))
    (hp : ∀ x, SE Φ (esb x) c (p x) D.bl) (hf : ∀ x, SE Φ (esb x) elt (f x) e2) : SE Φ es (.lc elt tg it (.some c)) (t.bind fun a => filC p f (its a)) (eL e2) := by
  intro ρ hρ
  rw [x_lc]
  refine (hit ρ hρ).bind fun a => ?_
  rw [hi a, R.of_some, R.ok_bind]
  refine Sim.cap ?_
  generalize its a = xs
  induction xs with
  | nil => exact rfl
  | cons x xs ih =>
    obtain ⟨ρ', h1, h2⟩ := hρ.bindT (hbt x)
    rw [List.map_cons, cm_cons]
    have hf := hf x ρ' h2
    have hp := hp x ρ' h2
    generalize compM (turnL tg (evC Φ (.some c)) (evE Φ elt) ρ) (xs.map e) = rest at ih ⊢
    unfold turnL
    rw [h1]
    simp only [R.ok_bind, x_cs]
    simp only [R.bind_assoc]
    refine hp.bind fun y => ?_
    simp only [bo_bl, R.of_some, R.ok_bind]
    cases y
    · show Sim (rest.bind fun ys => R.ok ys) (filM' p f xs) _
      have : ∀ z : R (List D), (z.bind fun ys => R.ok ys) = z := fun z => by cases z <;> rfl
      rw [this]
      exact ih
    · simp only [if_true]
      rw [R.bind_assoc]
      refine hf.bind fun y => ?_
      rw [R.ok_bind]
      show Sim (rest.bind fun ys => R.ok (e2 y :: ys)) ((filM' p f xs).bind fun ys => R.ok (y :: ys)) _
      exact Sim.bind ih fun ys => rfl
theorem SE.call1 {α0 β : Type} {f : Nat} {e0 : α0 → D} {t0 : R α0} {a0 : ME} {m : α0 → R β} {e : β → D} (h0 : SE Φ es a0 t0 e0) (hm : ∀ x0, SimW (Φ f [e0 x0]) (m x0) e) : SE Φ es (.call f [a0]) ((t0.bind fun x0 => m x0)) e := by
  intro ρ hρ
  simp only [x_call, x_cons, x_nil, R.bind_assoc, R.ok_bind]
  exact (h0 ρ hρ).bind fun x0 => (hm x0).out
theorem SE.blt1 {α0 β : Type} {b : B} {e0 : α0 → D} {t0 : R α0} {a0 : ME} {m : α0 → R β} {e : β → D} (h0 : SE Φ es a0 t0 e0) (hm : ∀ x0, Sim (R.of (bltD b [e0 x0])) (m x0) e) : SE Φ es (.blt b [a0]) ((t0.bind fun x0 => m x0)) e := by
  intro ρ hρ
  simp only [x_blt, x_cons, x_nil, R.bind_assoc, R.ok_bind]
  exact (h0 ρ hρ).bind fun x0 => hm x0
theorem SE.rng1 {α0 β : Type}  {e0 : α0 → D} {t0 : R α0} {a0 : ME} {m : α0 → R β} {e : β → D} (h0 : SE Φ es a0 t0 e0) (hm : ∀ x0, Sim (R.of (rngD [e0 x0])) (m x0) e) : SE Φ es (.rng [a0]) ((t0.bind fun x0 => m x0)) e := by
  intro ρ hρ
  simp only [x_rng, x_cons, x_nil, R.bind_assoc, R.ok_bind]
  exact (h0 ρ hρ).bind fun x0 => hm x0
theorem SE.mk1 {α0 β : Type} {c : Nat} {e0 : α0 → D} {t0 : R α0} {a0 : ME} {m : α0 → R β} {e : β → D} (h0 : SE Φ es a0 t0 e0) (hm : ∀ x0, Sim (R.of (mkD c [e0 x0])) (m x0) e) : SE Φ es (.mk c [a0]) ((t0.bind fun x0 => m x0)) e := by
  intro ρ hρ
  simp only [x_mk, x_cons, x_nil, R.bind_assoc, R.ok_bind]
  exact (h0 ρ hρ).bind fun x0 => hm x0
theorem SE.tupX1 {α0 β : Type}  {e0 : α0 → D} {t0 : R α0} {a0 : ME} {m : α0 → R β} {e : β → D} (h0 : SE Φ es a0 t0 e0) (hm : ∀ x0, Sim (R.ok (D.tup [e0 x0])) (m x0) e) : SE Φ es (.tup [a0]) ((t0.bind fun x0 => m x0)) e := by
  intro ρ hρ
  simp only [x_tup, x_cons, x_nil, R.bind_assoc, R.ok_bind]
  exact (h0 ρ hρ).bind fun x0 => hm x0
theorem SE.lstX1 {α0 β : Type}  {e0 : α0 → D} {t0 : R α0} {a0 : ME} {m : α0 → R β} {e : β → D} (h0 : SE Φ es a0 t0 e0) (hm : ∀ x0, Sim (R.ok (D.lst [e0 x0])) (m x0) e) : SE Φ es (.lst [a0]) ((t0.bind fun x0 => m x0)) e := by
  intro ρ hρ
  simp only [x_lst, x_cons, x_nil, R.bind_assoc, R.ok_bind]
  exact (h0 ρ hρ).bind fun x0 => hm x0
theorem SE.call2 {α0 α1 β : Type} {f : Nat} {e0 : α0 → D} {t0 : R α0} {a0 : ME} {e1 : α1 → D} {t1 : R α1} {a1 : ME} {m : α0 → α1 → R β} {e : β → D} (h0 : SE Φ es a0 t0 e0) (h1 : SE Φ es a1 t1 e1) (hm : ∀ x0 x1, SimW (Φ f [e0 x0, e1 x1]) (m x0 x1) e) : SE Φ es (.call f [a0, a1]) ((t0.bind fun x0 => (t1.bind fun x1 => m x0 x1))) e := by
  intro ρ hρ
  simp only [x_call, x_cons, x_nil, R.bind_assoc, R.ok_bind]
  exact (h0 ρ hρ).bind fun x0 => (h1 ρ hρ).bind fun x1 => (hm x0 x1).out
theorem SE.blt2 {α0 α1 β : Type} {b : B} {e0 : α0 → D} {t0 : R α0} {a0 : ME} {e1 : α1 → D} {t1 : R α1} {a1 : ME} {m : α0 → α1 → R β} {e : β → D} (h0 : SE Φ es a0 t0 e0) (h1 : SE Φ es a1 t1 e1) (hm : ∀ x0 x1, Sim (R.of (bltD b [e0 x0, e1 x1])) (m x0 x1) e) : SE Φ es (.blt b [a0, a1]) ((t0.bind fun x0 => (t1.bind fun x1 => m x0 x1))) e := by
  intro ρ hρ
  simp only [x_blt, x_cons, x_nil, R.bind_assoc, R.ok_bind]
  exact (h0 ρ hρ).bind fun x0 => (h1 ρ hρ).bind fun x1 => hm x0 x1
theorem SE.rng2 {α0 α1 β : Type}  {e0 : α0 → D} {t0 : R α0} {a0 : ME} {e1 : α1 → D} {t1 : R α1} {a1 : ME} {m : α0 → α1 → R β} {e : β → D} (h0 : SE Φ es a0 t0 e0) (h1 : SE Φ es a1 t1 e1) (hm : ∀ x0 x1, Sim (R.of (rngD [e0 x0, e1 x1])) (m x0 x1) e) : SE Φ es (.rng [a0, a1]) ((t0.bind fun x0 => (t1.bind fun x1 => m x0 x1))) e := by
  intro ρ hρ
  simp only [x_rng, x_cons, x_nil, R.bind_assoc, R.ok_bind]
  exact (h0 ρ hρ).bind fun x0 => (h1 ρ hρ).bind fun x1 => hm x0 x1
theorem SE.mk2 {α0 α1 β : Type} {c : Nat} {e0 : α0 → D} {t0 : R α0} {a0 : ME} {e1 : α1 → D} {t1 : R α1} {a1 : ME} {m : α0 → α1 → R β} {e : β → D} (h0 : SE Φ es a0 t0 e0) (h1 : SE Φ es a1 t1 e1) (hm : ∀ x0 x1, Sim (R.of (mkD c [e0 x0, e1 x1])) (m x0 x1) e) : SE Φ es (.mk c [a0, a1]) ((t0.bind fun x0 => (t1.bind fun x1 => m x0 x1))) e := by
  intro ρ hρ
  simp only [x_mk, x_cons, x_nil, R.bind_assoc, R.ok_bind]
  exact (h0 ρ hρ).bind fun x0 => (h1 ρ hρ).bind fun x1 => hm x0 x1
theorem SE.tupX2 {α0 α1 β : Type}  {e0 : α0 → D} {t0 : R α0} {a0 : ME} {e1 : α1 → D} {t1 : R α1} {a1 : ME} {m : α0 → α1 → R β} {e : β → D} (h0 : SE Φ es a0 t0 e0) (h1 : SE Φ es a1 t1 e1) (hm : ∀ x0 x1, Sim (R.ok (D.tup [e0 x0, e1 x1])) (m x0 x1) e) : SE Φ es (.tup [a0, a1]) ((t0.bind fun x0 => (t1.bind fun x1 => m x0 x1))) e := by
  intro ρ hρ
  simp only [x_tup, x_cons, x_nil, R.bind_assoc, R.ok_bind]
  exact (h0 ρ hρ).bind fun x0 => (h1 ρ hρ).bind fun x1 => hm x0 x1
theorem SE.lstX2 {α0 α1 β : Type}  {e0 : α0 → D} {t0 : R α0} {a0 : ME} {e1 : α1 → D} {t1 : R α1} {a1 : ME} {m : α0 → α1 → R β} {e : β → D} (h0 : SE Φ es a0 t0 e0) (h1 : SE Φ es a1 t1 e1) (hm : ∀ x0 x1, Sim (R.ok (D.lst [e0 x0, e1 x1])) (m x0 x1) e) : SE Φ es (.lst [a0, a1]) ((t0.bind fun x0 => (t1.bind fun x1 => m x0 x1))) e := by
  intro ρ hρ
  simp only [x_lst, x_cons, x_nil, R.bind_assoc, R.ok_bind]
  exact (h0 ρ hρ).bind fun x0 => (h1 ρ hρ).bind fun x1 => hm x0 x1
theorem SE.call3 {α0 α1 α2 β : Type} {f : Nat} {e0 : α0 → D} {t0 : R α0} {a0 : ME} {e1 : α1 → D} {t1 : R α1} {a1 : ME} {e2 : α2 → D} {t2 : R α2} {a2 : ME} {m : α0 → α1 → α2 → R β} {e : β → D} (h0 : SE Φ es a0 t0 e0) (h1 : SE Φ es a1 t1 e1) (h2 : SE Φ es a2 t2 e2) (hm : ∀ x0 x1 x2, SimW (Φ f [e0 x0, e1 x1, e2 x2]) (m x0 x1 x2) e) : SE Φ es (.call f [a0, a1, a2]) ((t0.bind fun x0 => (t1.bind fun x1 => (t2.bind fun x2 => m x0 x1 x2)))) e := by
  intro ρ hρ
  simp only [x_call, x_cons, x_nil, R.bind_assoc, R.ok_bind]
  exact (h0 ρ hρ).bind fun x0 => (h1 ρ hρ).bind fun x1 => (h2 ρ hρ).bind fun x2 => (hm x0 x1 x2).out
theorem SE.blt3 {α0 α1 α2 β : Type} {b : B} {e0 : α0 → D} {t0 : R α0} {a0 : ME} {e1 : α1 → D} {t1 : R α1} {a1 : ME} {e2 : α2 → D} {t2 : R α2} {a2 : ME} {m : α0 → α1 → α2 → R β} {e : β → D} (h0 : SE Φ es a0 t0 e0) (h1 : SE Φ es a1 t1 e1) (h2 : SE Φ es a2 t2 e2) (hm : ∀ x0 x1 x2, Sim (R.of (bltD b [e0 x0, e1 x1, e2 x2])) (m x0 x1 x2) e) : SE Φ es (.blt b [a0, a1, a2]) ((t0.bind fun x0 => (t1.bind fun x1 => (t2.bind fun x2 => m x0 x1 x2)))) e := by
  intro ρ hρ
  simp only [x_blt, x_cons, x_nil, R.bind_assoc, R.ok_bind]
  exact (h0 ρ hρ).bind fun x0 => (h1 ρ hρ).bind fun x1 => (h2 ρ hρ).bind fun x2 => hm x0 x1 x2
theorem SE.rng3 {α0 α1 α2 β : Type}  {e0 : α0 → D} {t0 : R α0} {a0 : ME} {e1 : α1 → D} {t1 : R α1} {a1 : ME} {e2 : α2 → D} {t2 : R α2} {a2 : ME} {m : α0 → α1 → α2 → R β} {e : β → D} (h0 : SE Φ es a0 t0 e0) (h1 : SE Φ es a1 t1 e1) (h2 : SE Φ es a2 t2 e2) (hm : ∀ x0 x1 x2, Sim (R.of (rngD [e0 x0, e1 x1, e2 x2])) (m x0 x1 x2) e) : SE Φ es (.rng [a0, a1, a2]) ((t0.bind fun x0 => (t1.bind fun x1 => (t2.bind fun x2 => m x0 x1 x2)))) e := by
  intro ρ hρ
  simp only [x_rng, x_cons, x_nil, R.bind_assoc, R.ok_bind]
  exact (h0 ρ hρ).bind fun x0 => (h1 ρ hρ).bind fun x1 => (h2 ρ hρ).bind fun x2 => hm x0 x1 x2
theorem SE.mk3 {α0 α1 α2 β : Type} {c : Nat} {e0 : α0 → D} {t0 : R α0} {a0 : ME} {e1 : α1 → D} {t1 : R α1} {a1 : ME} {e2 : α2 → D} {t2 : R α2} {a2 : ME} {m : α0 → α1 → α2 → R β} {e : β → D} (h0 : SE Φ es a0 t0 e0) (h1 : SE Φ es a1 t1 e1) (h2 : SE Φ es a2 t2 e2) (hm : ∀ x0 x1 x2, Sim (R.of (mkD c [e0 x0, e1 x1, e2 x2])) (m x0 x1 x2) e) : SE Φ es (.mk c [a0, a1, a2]) ((t0.bind fun x0 => (t1.bind fun x1 => (t2.bind fun x2 => m x0 x1 x2)))) e := by
  intro ρ hρ
  simp only [x_mk, x_cons, x_nil, R.bind_assoc, R.ok_bind]
  exact (h0 ρ hρ).bind fun x0 => (h1 ρ hρ).bind fun x1 => (h2 ρ hρ).bind fun x2 => hm x0 x1 x2
theorem SE.tupX3 {α0 α1 α2 β : Type}  {e0 : α0 → D} {t0 : R α0} {a0 : ME} {e1 : α1 → D} {t1 : R α1} {a1 : ME} {e2 : α2 → D} {t2 : R α2} {a2 : ME} {m : α0 → α1 → α2 → R β} {e : β → D} (h0 : SE Φ es a0 t0 e0) (h1 : SE Φ es a1 t1 e1) (h2 : SE Φ es a2 t2 e2) (hm : ∀ x0 x1 x2, Sim (R.ok (D.tup [e0 x0, e1 x1, e2 x2])) (m x0 x1 x2) e) : SE Φ es (.tup [a0, a1, a2]) ((t0.bind fun x0 => (t1.bind fun x1 => (t2.bind fun x2 => m x0 x1 x2)))) e := by
  intro ρ hρ
  simp only [x_tup, x_cons, x_nil, R.bind_assoc, R.ok_bind]
  exact (h0 ρ hρ).bind fun x0 => (h1 ρ hρ).bind fun x1 => (h2 ρ hρ).bind fun x2 => hm x0 x1 x2
theorem SE.lstX3 {α0 α1 α2 β : Type}  {e0 : α0 → D} {t0 : R α0} {a0 : ME} {e1 : α1 → D} {t1 : R α1} {a1 : ME} {e2 : α2 → D} {t2 : R α2} {a2 : ME} {m : α0 → α1 → α2 → R β} {e : β → D} (h0 : SE Φ es a0 t0 e0) (h1 : SE Φ es a1 t1 e1) (h2 : SE Φ es a2 t2 e2) (hm : ∀ x0 x1 x2, Sim (R.ok (D.lst [e0 x0, e1 x1, e2 x2])) (m x0 x1 x2) e) : SE Φ es (.lst [a0, a1, a2]) ((t0.bind fun x0 => (t1.bind fun x1 => (t2.bind fun x2 => m x0 x1 x2)))) e := by
  intro ρ hρ
  simp only [x_lst, x_cons, x_nil, R.bind_assoc, R.ok_bind]
  exact (h0 ρ hρ).bind fun x0 => (h1 ρ hρ).bind fun x1 => (h2 ρ hρ).bind fun x2 => hm x0 x1 x2
theorem SE.call4 {α0 α1 α2 α3 β : Type} {f : Nat} {e0 : α0 → D} {t0 : R α0} {a0 : ME} {e1 : α1 → D} {t1 : R α1} {a1 : ME} {e2 : α2 → D} {t2 : R α2} {a2 : ME} {e3 : α3 → D} {t3 : R α3} {a3 : ME} {m : α0 → α1 → α2 → α3 → R β} {e : β → D} (h0 : SE Φ es a0 t0 e0) (h1 : SE Φ es a1 t1 e1) (h2 : SE Φ es a2 t2 e2) (h3 : SE Φ es a3 t3 e3) (hm : ∀ x0 x1 x2 x3, SimW (Φ f [e0 x0, e1 x1, e2 x2, e3 x3]) (m x0 x1 x2 x3) e) : SE Φ es (.call f [a0, a1, a2, a3]) ((t0.bind fun x0 => (t1.bind fun x1 => (t2.bind fun x2 => (t3.bind fun x3 => m x0 x1 x2 x3))))) e := by
  intro ρ hρ
  simp only [x_call, x_cons, x_nil, R.bind_assoc, R.ok_bind]
  exact (h0 ρ hρ).bind fun x0 => (h1 ρ hρ).bind fun x1 => (h2 ρ hρ).bind fun x2 => (h3 ρ hρ).bind fun x3 => (hm x0 x1 x2 x3).out
theorem SE.mk4 {α0 α1 α2 α3 β : Type} {c : Nat} {e0 : α0 → D} {t0 : R α0} {a0 : ME} {e1 : α1 → D} {t1 : R α1} {a1 : ME} {e2 : α2 → D} {t2 : R α2} {a2 : ME} {e3 : α3 → D} {t3 : R α3} {a3 : ME} {m : α0 → α1 → α2 → α3 → R β} {e : β → D} (h0 : SE Φ es a0 t0 e0) (h1 : SE Φ es a1 t1 e1) (h2 : SE Φ es a2 t2 e2) (h3 : SE Φ es a3 t3 e3) (hm : ∀ x0 x1 x2 x3, Sim (R.of (mkD c [e0 x0, e1 x1, e2 x2, e3 x3])) (m x0 x1 x2 x3) e) : SE Φ es (.mk c [a0, a1, a2, a3]) ((t0.bind fun x0 => (t1.bind fun x1 => (t2.bind fun x2 => (t3.bind fun x3 => m x0 x1 x2 x3))))) e := by
  intro ρ hρ
  simp only [x_mk, x_cons, x_nil, R.bind_assoc, R.ok_bind]
  exact (h0 ρ hρ).bind fun x0 => (h1 ρ hρ).bind fun x1 => (h2 ρ hρ).bind fun x2 => (h3 ρ hρ).bind fun x3 => hm x0 x1 x2 x3
theorem SE.tupX4 {α0 α1 α2 α3 β : Type}  {e0 : α0 → D} {t0 : R α0} {a0 : ME} {e1 : α1 → D} {t1 : R α1} {a1 : ME} {e2 : α2 → D} {t2 : R α2} {a2 : ME} {e3 : α3 → D} {t3 : R α3} {a3 : ME} {m : α0 → α1 → α2 → α3 → R β} {e : β → D} (h0 : SE Φ es a0 t0 e0) (h1 : SE Φ es a1 t1 e1) (h2 : SE Φ es a2 t2 e2) (h3 : SE Φ es a3 t3 e3) (hm : ∀ x0 x1 x2 x3, Sim (R.ok (D.tup [e0 x0, e1 x1, e2 x2, e3 x3])) (m x0 x1 x2 x3) e) : SE Φ es (.tup [a0, a1, a2, a3]) ((t0.bind fun x0 => (t1.bind fun x1 => (t2.bind fun x2 => (t3.bind fun x3 => m x0 x1 x2 x3))))) e := by
  intro ρ hρ
  simp only [x_tup, x_cons, x_nil, R.bind_assoc, R.ok_bind]
  exact (h0 ρ hρ).bind fun x0 => (h1 ρ hρ).bind fun x1 => (h2 ρ hρ).bind fun x2 => (h3 ρ hρ).bind fun x3 => hm x0 x1 x2 x3
theorem SE.lstX4 {α0 α1 α2 α3 β : Type}  {e0 : α0 → D} {t0 : R α0} {a0 : ME} {e1 : α1 → D} {t1 : R α1} {a1 : ME} {e2 : α2 → D} {t2 : R α2} {a2 : ME} {e3 : α3 → D} {t3 : R α3} {a3 : ME} {m : α0 → α1 → α2 → α3 → R β} {e : β → D} (h0 : SE Φ es a0 t0 e0) (h1 : SE Φ es a1 t1 e1) (h2 : SE Φ es a2 t2 e2) (h3 : SE Φ es a3 t3 e3) (hm : ∀ x0 x1 x2 x3, Sim (R.ok (D.lst [e0 x0, e1 x1, e2 x2, e3 x3])) (m x0 x1 x2 x3) e) : SE Φ es (.lst [a0, a1, a2, a3]) ((t0.bind fun x0 => (t1.bind fun x1 => (t2.bind fun x2 => (t3.bind fun x3 => m x0 x1 x2 x3))))) e := by
  intro ρ hρ
  simp only [x_lst, x_cons, x_nil, R.bind_assoc, R.ok_bind]
  exact (h0 ρ hρ).bind fun x0 => (h1 ρ hρ).bind fun x1 => (h2 ρ hρ).bind fun x2 => (h3 ρ hρ).bind fun x3 => hm x0 x1 x2 x3
theorem SE.call5 {α0 α1 α2 α3 α4 β : Type} {f : Nat} {e0 : α0 → D} {t0 : R α0} {a0 : ME} {e1 : α1 → D} {t1 : R α1} {a1 : ME} {e2 : α2 → D} {t2 : R α2} {a2 : ME} {e3 : α3 → D} {t3 : R α3} {a3 : ME} {e4 : α4 → D} {t4 : R α4} {a4 : ME} {m : α0 → α1 → α2 → α3 → α4 → R β} {e : β → D} (h0 : SE Φ es a0 t0 e0) (h1 : SE Φ es a1 t1 e1) (h2 : SE Φ es a2 t2 e2) (h3 : SE Φ es a3 t3 e3) (h4 : SE Φ es a4 t4 e4) (hm : ∀ x0 x1 x2 x3 x4, SimW (Φ f [e0 x0, e1 x1, e2 x2, e3 x3, e4 x4]) (m x0 x1 x2 x3 x4) e) : SE Φ es (.call f [a0, a1, a2, a3, a4]) ((t0.bind fun x0 => (t1.bind fun x1 => (t2.bind fun x2 => (t3.bind fun x3 => (t4.bind fun x4 => m x0 x1 x2 x3 x4)))))) e := by
  intro ρ hρ
  simp only [x_call, x_cons, x_nil, R.bind_assoc, R.ok_bind]
  exact (h0 ρ hρ).bind fun x0 => (h1 ρ hρ).bind fun x1 => (h2 ρ hρ).bind fun x2 => (h3 ρ hρ).bind fun x3 => (h4 ρ hρ).bind fun x4 => (hm x0 x1 x2 x3 x4).out
theorem SE.mk5 {α0 α1 α2 α3 α4 β : Type} {c : Nat} {e0 : α0 → D} {t0 : R α0} {a0 : ME} {e1 : α1 → D} {t1 : R α1} {a1 : ME} {e2 : α2 → D} {t2 : R α2} {a2 : ME} {e3 : α3 → D} {t3 : R α3} {a3 : ME} {e4 : α4 → D} {t4 : R α4} {a4 : ME} {m : α0 → α1 → α2 → α3 → α4 → R β} {e : β → D} (h0 : SE Φ es a0 t0 e0) (h1 : SE Φ es a1 t1 e1) (h2 : SE Φ es a2 t2 e2) (h3 : SE Φ es a3 t3 e3) (h4 : SE Φ es a4 t4 e4) (hm : ∀ x0 x1 x2 x3 x4, Sim (R.of (mkD c [e0 x0, e1 x1, e2 x2, e3 x3, e4 x4])) (m x0 x1 x2 x3 x4) e) : SE Φ es (.mk c [a0, a1, a2, a3, a4]) ((t0.bind fun x0 => (t1.bind fun x1 => (t2.bind fun x2 => (t3.bind fun x3 => (t4.bind fun x4 => m x0 x1 x2 x3 x4)))))) e := by
  intro ρ hρ
  simp only [x_mk, x_cons, x_nil, R.bind_assoc, R.ok_bind]
  exact (h0 ρ hρ).bind fun x0 => (h1 ρ hρ).bind fun x1 => (h2 ρ hρ).bind fun x2 => (h3 ρ hρ).bind fun x3 => (h4 ρ hρ).bind fun x4 => hm x0 x1 x2 x3 x4
theorem SE.tupX5 {α0 α1 α2 α3 α4 β : Type}  {e0 : α0 → D} {t0 : R α0} {a0 : ME} {e1 : α1 → D} {t1 : R α1} {a1 : ME} {e2 : α2 → D} {t2 : R α2} {a2 : ME} {e3 : α3 → D} {t3 : R α3} {a3 : ME} {e4 : α4 → D} {t4 : R α4} {a4 : ME} {m : α0 → α1 → α2 → α3 → α4 → R β} {e : β → D} (h0 : SE Φ es a0 t0 e0) (h1 : SE Φ es a1 t1 e1) (h2 : SE Φ es a2 t2 e2) (h3 : SE Φ es a3 t3 e3) (h4 : SE Φ es a4 t4 e4) (hm : ∀ x0 x1 x2 x3 x4, Sim (R.ok (D.tup [e0 x0, e1 x1, e2 x2, e3 x3, e4 x4])) (m x0 x1 x2 x3 x4) e) : SE Φ es (.tup [a0, a1, a2, a3, a4]) ((t0.bind fun x0 => (t1.bind fun x1 => (t2.bind fun x2 => (t3.bind fun x3 => (t4.bind fun x4 => m x0 x1 x2 x3 x4)))))) e := by
  intro ρ hρ
  simp only [x_tup, x_cons, x_nil, R.bind_assoc, R.ok_bind]
  exact (h0 ρ hρ).bind fun x0 => (h1 ρ hρ).bind fun x1 => (h2 ρ hρ).bind fun x2 => (h3 ρ hρ).bind fun x3 => (h4 ρ hρ).bind fun x4 => hm x0 x1 x2 x3 x4
theorem SE.lstX5 {α0 α1 α2 α3 α4 β : Type}  {e0 : α0 → D} {t0 : R α0} {a0 : ME} {e1 : α1 → D} {t1 : R α1} {a1 : ME} {e2 : α2 → D} {t2 : R α2} {a2 : ME} {e3 : α3 → D} {t3 : R α3} {a3 : ME} {e4 : α4 → D} {t4 : R α4} {a4 : ME} {m : α0 → α1 → α2 → α3 → α4 → R β} {e : β → D} (h0 : SE Φ es a0 t0 e0) (h1 : SE Φ es a1 t1 e1) (h2 : SE Φ es a2 t2 e2) (h3 : SE Φ es a3 t3 e3) (h4 : SE Φ es a4 t4 e4) (hm : ∀ x0 x1 x2 x3 x4, Sim (R.ok (D.lst [e0 x0, e1 x1, e2 x2, e3 x3, e4 x4])) (m x0 x1 x2 x3 x4) e) : SE Φ es (.lst [a0, a1, a2, a3, a4]) ((t0.bind fun x0 => (t1.bind fun x1 => (t2.bind fun x2 => (t3.bind fun x3 => (t4.bind fun x4 => m x0 x1 x2 x3 x4)))))) e := by
  intro ρ hρ
  simp only [x_lst, x_cons, x_nil, R.bind_assoc, R.ok_bind]
  exact (h0 ρ hρ).bind fun x0 => (h1 ρ hρ).bind fun x1 => (h2 ρ hρ).bind fun x2 => (h3 ρ hρ).bind fun x3 => (h4 ρ hρ).bind fun x4 => hm x0 x1 x2 x3 x4
theorem SE.call6 {α0 α1 α2 α3 α4 α5 β : Type} {f : Nat} {e0 : α0 → D} {t0 : R α0} {a0 : ME} {e1 : α1 → D} {t1 : R α1} {a1 : ME} {e2 : α2 → D} {t2 : R α2} {a2 : ME} {e3 : α3 → D} {t3 : R α3} {a3 : ME} {e4 : α4 → D} {t4 : R α4} {a4 : ME} {e5 : α5 → D} {t5 : R α5} {a5 : ME} {m : α0 → α1 → α2 → α3 → α4 → α5 → R β} {e : β → D} (h0 : SE Φ es a0 t0 e0) (h1 : SE Φ es a1 t1 e1) (h2 : SE Φ es a2 t2 e2) (h3 : SE Φ es a3 t3 e3) (h4 : SE Φ es a4 t4 e4) (h5 : SE Φ es a5 t5 e5) (hm : ∀ x0 x1 x2 x3 x4 x5, SimW (Φ f [e0 x0, e1 x1, e2 x2, e3 x3, e4 x4, e5 x5]) (m x0 x1 x2 x3 x4 x5) e) : SE Φ es (.call f [a0, a1, a2, a3, a4, a5]) ((t0.bind fun x0 => (t1.bind fun x1 => (t2.bind fun x2 => (t3.bind fun x3 => (t4.bind fun x4 => (t5.bind fun x5 => m x0 x1 x2 x3 x4 x5))))))) e := by
  intro ρ hρ
  simp only [x_call, x_cons, x_nil, R.bind_assoc, R.ok_bind]
  exact (h0 ρ hρ).bind fun x0 => (h1 ρ hρ).bind fun x1 => (h2 ρ hρ).bind fun x2 => (h3 ρ hρ).bind fun x3 => (h4 ρ hρ).bind fun x4 => (h5 ρ hρ).bind fun x5 => (hm x0 x1 x2 x3 x4 x5).out
theorem SE.mk6 {α0 α1 α2 α3 α4 α5 β : Type} {c : Nat} {e0 : α0 → D} {t0 : R α0} {a0 : ME} {e1 : α1 → D} {t1 : R α1} {a1 : ME} {e2 : α2 → D} {t2 : R α2} {a2 : ME} {e3 : α3 → D} {t3 : R α3} {a3 : ME} {e4 : α4 → D} {t4 : R α4} {a4 : ME} {e5 : α5 → D} {t5 : R α5} {a5 : ME} {m : α0 → α1 → α2 → α3 → α4 → α5 → R β} {e : β → D} (h0 : SE Φ es a0 t0 e0) (h1 : SE Φ es a1 t1 e1) (h2 : SE Φ es a2 t2 e2) (h3 : SE Φ es a3 t3 e3) (h4 : SE Φ es a4 t4 e4) (h5 : SE Φ es a5 t5 e5) (hm : ∀ x0 x1 x2 x3 x4 x5, Sim (R.of (mkD c [e0 x0, e1 x1, e2 x2, e3 x3, e4 x4, e5 x5])) (m x0 x1 x2 x3 x4 x5) e) : SE Φ es (.mk c [a0, a1, a2, a3, a4, a5]) ((t0.bind fun x0 => (t1.bind fun x1 => (t2.bind fun x2 => (t3.bind fun x3 => (t4.bind fun x4 => (t5.bind fun x5 => m x0 x1 x2 x3 x4 x5))))))) e := by
  intro ρ hρ
  simp only [x_mk, x_cons, x_nil, R.bind_assoc, R.ok_bind]
  exact (h0 ρ hρ).bind fun x0 => (h1 ρ hρ).bind fun x1 => (h2 ρ hρ).bind fun x2 => (h3 ρ hρ).bind fun x3 => (h4 ρ hρ).bind fun x4 => (h5 ρ hρ).bind fun x5 => hm x0 x1 x2 x3 x4 x5
theorem SE.tupX6 {α0 α1 α2 α3 α4 α5 β : Type}  {e0 : α0 → D} {t0 : R α0} {a0 : ME} {e1 : α1 → D} {t1 : R α1} {a1 : ME} {e2 : α2 → D} {t2 : R α2} {a2 : ME} {e3 : α3 → D} {t3 : R α3} {a3 : ME} {e4 : α4 → D} {t4 : R α4} {a4 : ME} {e5 : α5 → D} {t5 : R α5} {a5 : ME} {m : α0 → α1 → α2 → α3 → α4 → α5 → R β} {e : β → D} (h0 : SE Φ es a0 t0 e0) (h1 : SE Φ es a1 t1 e1) (h2 : SE Φ es a2 t2 e2) (h3 : SE Φ es a3 t3 e3) (h4 : SE Φ es a4 t4 e4) (h5 : SE Φ es a5 t5 e5) (hm : ∀ x0 x1 x2 x3 x4 x5, Sim (R.ok (D.tup [e0 x0, e1 x1, e2 x2, e3 x3, e4 x4, e5 x5])) (m x0 x1 x2 x3 x4 x5) e) : SE Φ es (.tup [a0, a1, a2, a3, a4, a5]) ((t0.bind fun x0 => (t1.bind fun x1 => (t2.bind fun x2 => (t3.bind fun x3 => (t4.bind fun x4 => (t5.bind fun x5 => m x0 x1 x2 x3 x4 x5))))))) e := by
  intro ρ hρ
  simp only [x_tup, x_cons, x_nil, R.bind_assoc, R.ok_bind]
  exact (h0 ρ hρ).bind fun x0 => (h1 ρ hρ).bind fun x1 => (h2 ρ hρ).bind fun x2 => (h3 ρ hρ).bind fun x3 => (h4 ρ hρ).bind fun x4 => (h5 ρ hρ).bind fun x5 => hm x0 x1 x2 x3 x4 x5
theorem SE.lstX6 {α0 α1 α2 α3 α4 α5 β : Type}  {e0 : α0 → D} {t0 : R α0} {a0 : ME} {e1 : α1 → D} {t1 : R α1} {a1 : ME} {e2 : α2 → D} {t2 : R α2} {a2 : ME} {e3 : α3 → D} {t3 : R α3} {a3 : ME} {e4 : α4 → D} {t4 : R α4} {a4 : ME} {e5 : α5 → D} {t5 : R α5} {a5 : ME} {m : α0 → α1 → α2 → α3 → α4 → α5 → R β} {e : β → D} (h0 : SE Φ es a0 t0 e0) (h1 : SE Φ es a1 t1 e1) (h2 : SE Φ es a2 t2 e2) (h3 : SE Φ es a3 t3 e3) (h4 : SE Φ es a4 t4 e4) (h5 : SE Φ es a5 t5 e5) (hm : ∀ x0 x1 x2 x3 x4 x5, Sim (R.ok (D.lst [e0 x0, e1 x1, e2 x2, e3 x3, e4 x4, e5 x5])) (m x0 x1 x2 x3 x4 x5) e) : SE Φ es (.lst [a0, a1, a2, a3, a4, a5]) ((t0.bind fun x0 => (t1.bind fun x1 => (t2.bind fun x2 => (t3.bind fun x3 => (t4.bind fun x4 => (t5.bind fun x5 => m x0 x1 x2 x3 x4 x5))))))) e := by
  intro ρ hρ
  simp only [x_lst, x_cons, x_nil, R.bind_assoc, R.ok_bind]
  exact (h0 ρ hρ).bind fun x0 => (h1 ρ hρ).bind fun x1 => (h2 ρ hρ).bind fun x2 => (h3 ρ hρ).bind fun x3 => (h4 ρ hρ).bind fun x4 => (h5 ρ hρ).bind fun x5 => hm x0 x1 x2 x3 x4 x5
theorem SE.call7 {α0 α1 α2 α3 α4 α5 α6 β : Type} {f : Nat} {e0 : α0 → D} {t0 : R α0} {a0 : ME} {e1 : α1 → D} {t1 : R α1} {a1 : ME} {e2 : α2 → D} {t2 : R α2} {a2 : ME} {e3 : α3 → D} {t3 : R α3} {a3 : ME} {e4 : α4 → D} {t4 : R α4} {a4 : ME} {e5 : α5 → D} {t5 : R α5} {a5 : ME} {e6 : α6 → D} {t6 : R α6} {a6 : ME} {m : α0 → α1 → α2 → α3 → α4 → α5 → α6 → R β} {e : β → D} (h0 : SE Φ es a0 t0 e0) (h1 : SE Φ es a1 t1 e1) (h2 : SE Φ es a2 t2 e2) (h3 : SE Φ es a3 t3 e3) (h4 : SE Φ es a4 t4 e4) (h5 : SE Φ es a5 t5 e5) (h6 : SE Φ es a6 t6 e6) (hm : ∀ x0 x1 x2 x3 x4 x5 x6, SimW (Φ f [e0 x0, e1 x1, e2 x2, e3 x3, e4 x4, e5 x5, e6 x6]) (m x0 x1 x2 x3 x4 x5 x6) e) : SE Φ es (.call f [a0, a1, a2, a3, a4, a5, a6]) ((t0.bind fun x0 => (t1.bind fun x1 => (t2.bind fun x2 => (t3.bind fun x3 => (t4.bind fun x4 => (t5.bind fun x5 => (t6.bind fun x6 => m x0 x1 x2 x3 x4 x5 x6)))))))) e := by
  intro ρ hρ
  simp only [x_call, x_cons, x_nil, R.bind_assoc, R.ok_bind]
  exact (h0 ρ hρ).bind fun x0 => (h1 ρ hρ).bind fun x1 => (h2 ρ hρ).bind fun x2 => (h3 ρ hρ).bind fun x3 => (h4 ρ hρ).bind fun x4 => (h5 ρ hρ).bind fun x5 => (h6 ρ hρ).bind fun x6 => (hm x0 x1 x2 x3 x4 x5 x6).out
theorem SE.mk7 {α0 α1 α2 α3 α4 α5 α6 β : Type} {c : Nat} {e0 : α0 → D} {t0 : R α0} {a0 : ME} {e1 : α1 → D} {t1 : R α1} {a1 : ME} {e2 : α2 → D} {t2 : R α2} {a2 : ME} {e3 : α3 → D} {t3 : R α3} {a3 : ME} {e4 : α4 → D} {t4 : R α4} {a4 : ME} {e5 : α5 → D} {t5 : R α5} {a5 : ME} {e6 : α6 → D} {t6 : R α6} {a6 : ME} {m : α0 → α1 → α2 → α3 → α4 → α5 → α6 → R β} {e : β → D} (h0 : SE Φ es a0 t0 e0) (h1 : SE Φ es a1 t1 e1) (h2 : SE Φ es a2 t2 e2) (h3 : SE Φ es a3 t3 e3) (h4 : SE Φ es a4 t4 e4) (h5 : SE Φ es a5 t5 e5) (h6 : SE Φ es a6 t6 e6) (hm : ∀ x0 x1 x2 x3 x4 x5 x6, Sim (R.of (mkD c [e0 x0, e1 x1, e2 x2, e3 x3, e4 x4, e5 x5, e6 x6])) (m x0 x1 x2 x3 x4 x5 x6) e) : SE Φ es (.mk c [a0, a1, a2, a3, a4, a5, a6]) ((t0.bind fun x0 => (t1.bind fun x1 => (t2.bind fun x2 => (t3.bind fun x3 => (t4.bind fun x4 => (t5.bind fun x5 => (t6.bind fun x6 => m x0 x1 x2 x3 x4 x5 x6)))))))) e := by
  intro ρ hρ
  simp only [x_mk, x_cons, x_nil, R.bind_assoc, R.ok_bind]
  exact (h0 ρ hρ).bind fun x0 => (h1 ρ hρ).bind fun x1 => (h2 ρ hρ).bind fun x2 => (h3 ρ hρ).bind fun x3 => (h4 ρ hρ).bind fun x4 => (h5 ρ hρ).bind fun x5 => (h6 ρ hρ).bind fun x6 => hm x0 x1 x2 x3 x4 x5 x6
theorem SE.tupX7 {α0 α1 α2 α3 α4 α5 α6 β : Type}  {e0 : α0 → D} {t0 : R α0} {a0 : ME} {e1 : α1 → D} {t1 : R α1} {a1 : ME} {e2 : α2 → D} {t2 : R α2} {a2 : ME} {e3 : α3 → D} {t3 : R α3} {a3 : ME} {e4 : α4 → D} {t4 : R α4} {a4 : ME} {e5 : α5 → D} {t5 : R α5} {a5 : ME} {e6 : α6 → D} {t6 : R α6} {a6 : ME} {m : α0 → α1 → α2 → α3 → α4 → α5 → α6 → R β} {e : β → D} (h0 : SE Φ es a0 t0 e0) (h1 : SE Φ es a1 t1 e1) (h2 : SE Φ es a2 t2 e2) (h3 : SE Φ es a3 t3 e3) (h4 : SE Φ es a4 t4 e4) (h5 : SE Φ es a5 t5 e5) (h6 : SE Φ es a6 t6 e6) (hm : ∀ x0 x1 x2 x3 x4 x5 x6, Sim (R.ok (D.tup [e0 x0, e1 x1, e2 x2, e3 x3, e4 x4, e5 x5, e6 x6])) (m x0 x1 x2 x3 x4 x5 x6) e) : SE Φ es (.tup [a0, a1, a2, a3, a4, a5, a6]) ((t0.bind fun x0 => (t1.bind fun x1 => (t2.bind fun x2 => (t3.bind fun x3 => (t4.bind fun x4 => (t5.bind fun x5 => (t6.bind fun x6 => m x0 x1 x2 x3 x4 x5 x6)))))))) e := by
  intro ρ hρ
  simp only [x_tup, x_cons, x_nil, R.bind_assoc, R.ok_bind]
  exact (h0 ρ hρ).bind fun x0 => (h1 ρ hρ).bind fun x1 => (h2 ρ hρ).bind fun x2 => (h3 ρ hρ).bind fun x3 => (h4 ρ hρ).bind fun x4 => (h5 ρ hρ).bind fun x5 => (h6 ρ hρ).bind fun x6 => hm x0 x1 x2 x3 x4 x5 x6
theorem SE.lstX7 {α0 α1 α2 α3 α4 α5 α6 β : Type}  {e0 : α0 → D} {t0 : R α0} {a0 : ME} {e1 : α1 → D} {t1 : R α1} {a1 : ME} {e2 : α2 → D} {t2 : R α2} {a2 : ME} {e3 : α3 → D} {t3 : R α3} {a3 : ME} {e4 : α4 → D} {t4 : R α4} {a4 : ME} {e5 : α5 → D} {t5 : R α5} {a5 : ME} {e6 : α6 → D} {t6 : R α6} {a6 : ME} {m : α0 → α1 → α2 → α3 → α4 → α5 → α6 → R β} {e : β → D} (h0 : SE Φ es a0 t0 e0) (h1 : SE Φ es a1 t1 e1) (h2 : SE Φ es a2 t2 e2) (h3 : SE Φ es a3 t3 e3) (h4 : SE Φ es a4 t4 e4) (h5 : SE Φ es a5 t5 e5) (h6 : SE Φ es a6 t6 e6) (hm : ∀ x0 x1 x2 x3 x4 x5 x6, Sim (R.ok (D.lst [e0 x0, e1 x1, e2 x2, e3 x3, e4 x4, e5 x5, e6 x6])) (m x0 x1 x2 x3 x4 x5 x6) e) : SE Φ es (.lst [a0, a1, a2, a3, a4, a5, a6]) ((t0.bind fun x0 => (t1.bind fun x1 => (t2.bind fun x2 => (t3.bind fun x3 => (t4.bind fun x4 => (t5.bind fun x5 => (t6.bind fun x6 => m x0 x1 x2 x3 x4 x5 x6)))))))) e := by
  intro ρ hρ
  simp only [x_lst, x_cons, x_nil, R.bind_assoc, R.ok_bind]
  exact (h0 ρ hρ).bind fun x0 => (h1 ρ hρ).bind fun x1 => (h2 ρ hρ).bind fun x2 => (h3 ρ hρ).bind fun x3 => (h4 ρ hρ).bind fun x4 => (h5 ρ hρ).bind fun x5 => (h6 ρ hρ).bind fun x6 => hm x0 x1 x2 x3 x4 x5 x6
theorem SE.call8 {α0 α1 α2 α3 α4 α5 α6 α7 β : Type} {f : Nat} {e0 : α0 → D} {t0 : R α0} {a0 : ME} {e1 : α1 → D} {t1 : R α1} {a1 : ME} {e2 : α2 → D} {t2 : R α2} {a2 : ME} {e3 : α3 → D} {t3 : R α3} {a3 : ME} {e4 : α4 → D} {t4 : R α4} {a4 : ME} {e5 : α5 → D} {t5 : R α5} {a5 : ME} {e6 : α6 → D} {t6 : R α6} {a6 : ME} {e7 : α7 → D} {t7 : R α7} {a7 : ME} {m : α0 → α1 → α2 → α3 → α4 → α5 → α6 → α7 → R β} {e : β → D} (h0 : SE Φ es a0 t0 e0) (h1 : SE Φ es a1 t1 e1) (h2 : SE Φ es a2 t2 e2) (h3 : SE Φ es a3 t3 e3) (h4 : SE Φ es a4 t4 e4) (h5 : SE Φ es a5 t5 e5) (h6 : SE Φ es a6 t6 e6) (h7 : SE Φ es a7 t7 e7) (hm : ∀ x0 x1 x2 x3 x4 x5 x6 x7, SimW (Φ f [e0 x0, e1 x1, e2 x2, e3 x3, e4 x4, e5 x5, e6 x6, e7 x7]) (m x0 x1 x2 x3 x4 x5 x6 x7) e) : SE Φ es (.call f [a0, a1, a2, a3, a4, a5, a6, a7]) ((t0.bind fun x0 => (t1.bind fun x1 => (t2.bind fun x2 => (t3.bind fun x3 => (t4.bind fun x4 => (t5.bind fun x5 => (t6.bind fun x6 => (t7.bind fun x7 => m x0 x1 x2 x3 x4 x5 x6 x7))))))))) e := by
  intro ρ hρ
  simp only [x_call, x_cons, x_nil, R.bind_assoc, R.ok_bind]
  exact (h0 ρ hρ).bind fun x0 => (h1 ρ hρ).bind fun x1 => (h2 ρ hρ).bind fun x2 => (h3 ρ hρ).bind fun x3 => (h4 ρ hρ).bind fun x4 => (h5 ρ hρ).bind fun x5 => (h6 ρ hρ).bind fun x6 => (h7 ρ hρ).bind fun x7 => (hm x0 x1 x2 x3 x4 x5 x6 x7).out
theorem SE.mk8 {α0 α1 α2 α3 α4 α5 α6 α7 β : Type} {c : Nat} {e0 : α0 → D} {t0 : R α0} {a0 : ME} {e1 : α1 → D} {t1 : R α1} {a1 : ME} {e2 : α2 → D} {t2 : R α2} {a2 : ME} {e3 : α3 → D} {t3 : R α3} {a3 : ME} {e4 : α4 → D} {t4 : R α4} {a4 : ME} {e5 : α5 → D} {t5 : R α5} {a5 : ME} {e6 : α6 → D} {t6 : R α6} {a6 : ME} {e7 : α7 → D} {t7 : R α7} {a7 : ME} {m : α0 → α1 → α2 → α3 → α4 → α5 → α6 → α7 → R β} {e : β → D} (h0 : SE Φ es a0 t0 e0) (h1 : SE Φ es a1 t1 e1) (h2 : SE Φ es a2 t2 e2) (h3 : SE Φ es a3 t3 e3) (h4 : SE Φ es a4 t4 e4) (h5 : SE Φ es a5 t5 e5) (h6 : SE Φ es a6 t6 e6) (h7 : SE Φ es a7 t7 e7) (hm : ∀ x0 x1 x2 x3 x4 x5 x6 x7, Sim (R.of (mkD c [e0 x0, e1 x1, e2 x2, e3 x3, e4 x4, e5 x5, e6 x6, e7 x7])) (m x0 x1 x2 x3 x4 x5 x6 x7) e) : SE Φ es (.mk c [a0, a1, a2, a3, a4, a5, a6, a7]) ((t0.bind fun x0 => (t1.bind fun x1 => (t2.bind fun x2 => (t3.bind fun x3 => (t4.bind fun x4 => (t5.bind fun x5 => (t6.bind fun x6 => (t7.bind fun x7 => m x0 x1 x2 x3 x4 x5 x6 x7))))))))) e := by
  intro ρ hρ
  simp only [x_mk, x_cons, x_nil, R.bind_assoc, R.ok_bind]
  exact (h0 ρ hρ).bind fun x0 => (h1 ρ hρ).bind fun x1 => (h2 ρ hρ).bind fun x2 => (h3 ρ hρ).bind fun x3 => (h4 ρ hρ).bind fun x4 => (h5 ρ hρ).bind fun x5 => (h6 ρ hρ).bind fun x6 => (h7 ρ hρ).bind fun x7 => hm x0 x1 x2 x3 x4 x5 x6 x7
theorem SE.tupX8 {α0 α1 α2 α3 α4 α5 α6 α7 β : Type}  {e0 : α0 → D} {t0 : R α0} {a0 : ME} {e1 : α1 → D} {t1 : R α1} {a1 : ME} {e2 : α2 → D} {t2 : R α2} {a2 : ME} {e3 : α3 → D} {t3 : R α3} {a3 : ME} {e4 : α4 → D} {t4 : R α4} {a4 : ME} {e5 : α5 → D} {t5 : R α5} {a5 : ME} {e6 : α6 → D} {t6 : R α6} {a6 : ME} {e7 : α7 → D} {t7 : R α7} {a7 : ME} {m : α0 → α1 → α2 → α3 → α4 → α5 → α6 → α7 → R β} {e : β → D} (h0 : SE Φ es a0 t0 e0) (h1 : SE Φ es a1 t1 e1) (h2 : SE Φ es a2 t2 e2) (h3 : SE Φ es a3 t3 e3) (h4 : SE Φ es a4 t4 e4) (h5 : SE Φ es a5 t5 e5) (h6 : SE Φ es a6 t6 e6) (h7 : SE Φ es a7 t7 e7) (hm : ∀ x0 x1 x2 x3 x4 x5 x6 x7, Sim (R.ok (D.tup [e0 x0, e1 x1, e2 x2, e3 x3, e4 x4, e5 x5, e6 x6, e7 x7])) (m x0 x1 x2 x3 x4 x5 x6 x7) e) : SE Φ es (.tup [a0, a1, a2, a3, a4, a5, a6, a7]) ((t0.bind fun x0 => (t1.bind fun x1 => (t2.bind fun x2 => (t3.bind fun x3 => (t4.bind fun x4 => (t5.bind fun x5 => (t6.bind fun x6 => (t7.bind fun x7 => m x0 x1 x2 x3 x4 x5 x6 x7))))))))) e := by
  intro ρ hρ
  simp only [x_tup, x_cons, x_nil, R.bind_assoc, R.ok_bind]
  exact (h0 ρ hρ).bind fun x0 => (h1 ρ hρ).bind fun x1 => (h2 ρ hρ).bind fun x2 => (h3 ρ hρ).bind fun x3 => (h4 ρ hρ).bind fun x4 => (h5 ρ hρ).bind fun x5 => (h6 ρ hρ).bind fun x6 => (h7 ρ hρ).bind fun x7 => hm x0 x1 x2 x3 x4 x5 x6 x7
theorem SE.lstX8 {α0 α1 α2 α3 α4 α5 α6 α7 β : Type}  {e0 : α0 → D} {t0 : R α0} {a0 : ME} {e1 : α1 → D} {t1 : R α1} {a1 : ME} {e2 : α2 → D} {t2 : R α2} {a2 : ME} {e3 : α3 → D} {t3 : R α3} {a3 : ME} {e4 : α4 → D} {t4 : R α4} {a4 : ME} {e5 : α5 → D} {t5 : R α5} {a5 : ME} {e6 : α6 → D} {t6 : R α6} {a6 : ME} {e7 : α7 → D} {t7 : R α7} {a7 : ME} {m : α0 → α1 → α2 → α3 → α4 → α5 → α6 → α7 → R β} {e : β → D} (h0 : SE Φ es a0 t0 e0) (h1 : SE Φ es a1 t1 e1) (h2 : SE Φ es a2 t2 e2) (h3 : SE Φ es a3 t3 e3) (h4 : SE Φ es a4 t4 e4) (h5 : SE Φ es a5 t5 e5) (h6 : SE Φ es a6 t6 e6) (h7 : SE Φ es a7 t7 e7) (hm : ∀ x0 x1 x2 x3 x4 x5 x6 x7, Sim (R.ok (D.lst [e0 x0, e1 x1, e2 x2, e3 x3, e4 x4, e5 x5, e6 x6, e7 x7])) (m x0 x1 x2 x3 x4 x5 x6 x7) e) : SE Φ es (.lst [a0, a1, a2, a3, a4, a5, a6, a7]) ((t0.bind fun x0 => (t1.bind fun x1 => (t2.bind fun x2 => (t3.bind fun x3 => (t4.bind fun x4 => (t5.bind fun x5 => (t6.bind fun x6 => (t7.bind fun x7 => m x0 x1 x2 x3 x4 x5 x6 x7))))))))) e := by
  intro ρ hρ
  simp only [x_lst, x_cons, x_nil, R.bind_assoc, R.ok_bind]
  exact (h0 ρ hρ).bind fun x0 => (h1 ρ hρ).bind fun x1 => (h2 ρ hρ).bind fun x2 => (h3 ρ hρ).bind fun x3 => (h4 ρ hρ).bind fun x4 => (h5 ρ hρ).bind fun x5 => (h6 ρ hρ).bind fun x6 => (h7 ρ hρ).bind fun x7 => hm x0 x1 x2 x3 x4 x5 x6 x7
theorem SE.mth0 {γ β : Type} {k : Mth} {a : ME} {t : R γ} {ez : γ → D}  {m : γ → R β} {e : β → D} (h : SE Φ es a t ez) (hr : ∀ x, mthRc k (ez x) = Option.some ())  (hm : ∀ z, Sim (R.of (mthD k (ez z) [])) (m z) e) : SE Φ es (.mth k a []) (t.bind fun z => m z) e := by
  intro ρ hρ
  simp only [x_mth, x_cons, x_nil, R.bind_assoc, R.ok_bind]
  refine (h ρ hρ).bind fun z => ?_
  rw [hr z, R.of_some, R.ok_bind]
  exact hm z
theorem SE.mth1 {γ α0 β : Type} {k : Mth} {a : ME} {t : R γ} {ez : γ → D} {e0 : α0 → D} {t0 : R α0} {a0 : ME} {m : γ → α0 → R β} {e : β → D} (h : SE Φ es a t ez) (hr : ∀ x, mthRc k (ez x) = Option.some ()) (h0 : SE Φ es a0 t0 e0) (hm : ∀ z x0, Sim (R.of (mthD k (ez z) [e0 x0])) (m z x0) e) : SE Φ es (.mth k a [a0]) (t.bind fun z => (t0.bind fun x0 => m z x0)) e := by
  intro ρ hρ
  simp only [x_mth, x_cons, x_nil, R.bind_assoc, R.ok_bind]
  refine (h ρ hρ).bind fun z => ?_
  rw [hr z, R.of_some, R.ok_bind]
  exact (h0 ρ hρ).bind fun x0 => hm z x0
theorem SE.mth2 {γ α0 α1 β : Type} {k : Mth} {a : ME} {t : R γ} {ez : γ → D} {e0 : α0 → D} {t0 : R α0} {a0 : ME} {e1 : α1 → D} {t1 : R α1} {a1 : ME} {m : γ → α0 → α1 → R β} {e : β → D} (h : SE Φ es a t ez) (hr : ∀ x, mthRc k (ez x) = Option.some ()) (h0 : SE Φ es a0 t0 e0) (h1 : SE Φ es a1 t1 e1) (hm : ∀ z x0 x1, Sim (R.of (mthD k (ez z) [e0 x0, e1 x1])) (m z x0 x1) e) : SE Φ es (.mth k a [a0, a1]) (t.bind fun z => (t0.bind fun x0 => (t1.bind fun x1 => m z x0 x1))) e := by
  intro ρ hρ
  simp only [x_mth, x_cons, x_nil, R.bind_assoc, R.ok_bind]
  refine (h ρ hρ).bind fun z => ?_
  rw [hr z, R.of_some, R.ok_bind]
  exact (h0 ρ hρ).bind fun x0 => (h1 ρ hρ).bind fun x1 => hm z x0 x1
theorem SE.mth3 {γ α0 α1 α2 β : Type} {k : Mth} {a : ME} {t : R γ} {ez : γ → D} {e0 : α0 → D} {t0 : R α0} {a0 : ME} {e1 : α1 → D} {t1 : R α1} {a1 : ME} {e2 : α2 → D} {t2 : R α2} {a2 : ME} {m : γ → α0 → α1 → α2 → R β} {e : β → D} (h : SE Φ es a t ez) (hr : ∀ x, mthRc k (ez x) = Option.some ()) (h0 : SE Φ es a0 t0 e0) (h1 : SE Φ es a1 t1 e1) (h2 : SE Φ es a2 t2 e2) (hm : ∀ z x0 x1 x2, Sim (R.of (mthD k (ez z) [e0 x0, e1 x1, e2 x2])) (m z x0 x1 x2) e) : SE Φ es (.mth k a [a0, a1, a2]) (t.bind fun z => (t0.bind fun x0 => (t1.bind fun x1 => (t2.bind fun x2 => m z x0 x1 x2)))) e := by
  intro ρ hρ
  simp only [x_mth, x_cons, x_nil, R.bind_assoc, R.ok_bind]
  refine (h ρ hρ).bind fun z => ?_
  rw [hr z, R.of_some, R.ok_bind]
  exact (h0 ρ hρ).bind fun x0 => (h1 ρ hρ).bind fun x1 => (h2 ρ hρ).bind fun x2 => hm z x0 x1 x2
end
/-! ### operations -/
@[irreducible] def mulR (x y : Int) : R Int := if (small64 x || small64 y || (wide x && wide y)) = true then .ok (x * y) else .stuck
@[irreducible] def fdivR (x y : Int) : R Int := if (decide (0 < y) && (decide (y < 1073741824) || wide y)) = true then .ok (x / y) else .stuck
@[irreducible] def modR (x y : Int) : R Int := if 0 < y then .ok (x % y) else .stuck
@[irreducible] def powR (x y : Int) : R Int := if (decide (0 ≤ y) && decide (y ≤ 1000000) && small64 x) = true then .ok (x ^ y.toNat) else .stuck
theorem ot_add (x y : Int) : Sim (R.of (binD .add (.int x) (.int y))) (.ok (x + y)) D.int := rfl
theorem ot_sub (x y : Int) : Sim (R.of (binD .sub (.int x) (.int y))) (.ok (x - y)) D.int := rfl
theorem ot_mul (x y : Int) : Sim (R.of (binD .mul (.int x) (.int y))) (mulR x y) D.int := by
  unfold mulR
  refine Sim.ite fun h => ?_
  show R.of (if _ then _ else none) = _
  rw [if_pos h]; rfl
theorem ot_fdiv (x y : Int) : Sim (R.of (binD .fdiv (.int x) (.int y))) (fdivR x y) D.int := by
  unfold fdivR
  refine Sim.ite fun h => ?_
  show R.of (if _ then _ else none) = _
  rw [if_pos h]; rfl
theorem ot_mod (x y : Int) : Sim (R.of (binD .mod (.int x) (.int y))) (modR x y) D.int := by
  unfold modR
  refine Sim.ite fun h => ?_
  show R.of (if _ then _ else none) = _
  rw [if_pos h]; rfl
theorem ot_pow (x y : Int) : Sim (R.of (binD .pow (.int x) (.int y))) (powR x y) D.int := by
  unfold powR
  refine Sim.ite fun h => ?_
  show R.of (if _ then _ else none) = _
  rw [if_pos h]; rfl
section
variable {α β : Type}
@[irreducible] def catL (xs ys : List α) : R (List α) := if xs.length + ys.length ≤ lineN then .ok (xs ++ ys) else .stuck
@[irreducible] def catT (e : α → D) (xs ys : List α) : R (List α) := if xs.length + ys.length ≤ lineN then .ok (xs ++ ys) else .stuck
@[irreducible] def catS (x y : Str) : R Str := if x.length + y.length ≤ lineN then .ok (x ++ y) else .stuck
theorem ot_addL (e : α → D) (xs ys : List α) : Sim (R.of (binD .add (eL e xs) (eL e ys))) (catL xs ys) (eL e) := by
  unfold catL
  refine Sim.ite fun h => ?_
  show R.of (if (xs.map e).length + (ys.map e).length ≤ lineN then _ else none) = _
  rw [List.length_map, List.length_map, if_pos h, ← List.map_append]; rfl
theorem ot_addT (e : α → D) (xs ys : List α) : Sim (R.of (binD .add (eT e xs) (eT e ys))) (catT e xs ys) (eT e) := by
  unfold catT
  refine Sim.ite fun h => ?_
  show R.of (if (xs.map e).length + (ys.map e).length ≤ lineN then _ else none) = _
  rw [List.length_map, List.length_map, if_pos h, ← List.map_append]; rfl
theorem ot_addS (x y : Str) : Sim (R.of (binD .add (.str x) (.str y))) (catS x y) D.str := by
  unfold catS
  refine Sim.ite fun h => ?_
  show R.of (if _ then _ else none) = _
  rw [if_pos h]; rfl
@[irreducible] def repL (xs : List α) (k : Int) : R (List α) := if (decide (xs.length * k.toNat ≤ lineN) && decide (-9223372036854775808 ≤ k) && decide (k < 9223372036854775808)) = true then .ok (List.replicate k.toNat xs).flatten else .stuck
theorem ot_repL (e : α → D) (xs : List α) (k : Int) : Sim (R.of (binD .mul (eL e xs) (.int k))) (repL xs k) (eL e) := by
  unfold repL
  refine Sim.ite fun h => ?_
  show R.of (if (decide ((xs.map e).length * k.toNat ≤ lineN) && decide (-9223372036854775808 ≤ k) && decide (k < 9223372036854775808)) = true then _ else none) = _
  rw [List.length_map, if_pos h]
  show R.ok (D.lst _) = R.ok (D.lst _)
  rw [List.map_flatten, List.map_replicate]
/-! comparisons -/
theorem ot_lt (x y : Int) : Sim (R.of (cmpD .lt (.int x) (.int y))) (.ok (decide (x < y))) D.bl := rfl
theorem ot_le (x y : Int) : Sim (R.of (cmpD .le (.int x) (.int y))) (.ok (decide (x ≤ y))) D.bl := rfl
theorem ot_gt (x y : Int) : Sim (R.of (cmpD .gt (.int x) (.int y))) (.ok (decide (y < x))) D.bl := rfl
theorem ot_ge (x y : Int) : Sim (R.of (cmpD .ge (.int x) (.int y))) (.ok (decide (y ≤ x))) D.bl := rfl
/-- == is equality of what is laid out -/
def EqE [DecidableEq α] (e : α → D) : Prop := ∃ k, k ≤ 64 ∧ EqOk e k
theorem ot_eq [DecidableEq α] {e : α → D} (h : EqE e) (x y : α) : Sim (R.of (cmpD .eq (e x) (e y))) (.ok (decide (x = y))) D.bl := by
  obtain ⟨k, hk, h⟩ := h
  rw [h.ceq hk]; exact rfl
theorem ot_ne [DecidableEq α] {e : α → D} (h : EqE e) (x y : α) : Sim (R.of (cmpD .ne (e x) (e y))) (.ok (!decide (x = y))) D.bl := by
  obtain ⟨k, hk, h⟩ := h
  rw [h.cne hk]; exact rfl
theorem inL_dec [DecidableEq α] {e : α → D} (h : EqE e) (x : α) (ys : List α) (hk : ∃ k, k ≤ 63 ∧ EqOk e k) : inL (e x) (ys.map e) = some (decide (x ∈ ys)) := by
  obtain ⟨k, hk, h⟩ := hk
  obtain ⟨p, a1, a2, a3⟩ := h.py x
  obtain ⟨ps, b1, b2, b3⟩ := h.pys ys
  unfold inL
  rw [a1, b1]
  dsimp only
  have s1 : SeqAt.shaped p = true := by unfold SeqAt.shaped; simp [a2]; omega
  have s2 : SeqAt.shaped (.list ps) = true := by
    have hd := depthAll_le b3
    have he : (PyData.list ps).depth = PyData.depthAll ps + 1 := by simp [PyData.depth]
    have hf : (PyData.list ps).canLay0 = true := by simpa [PyData.canLay0] using b2
    unfold SeqAt.shaped
    rw [hf, he]
    have : PyData.depthAll ps + 1 ≤ 64 := by omega
    simpa using this
  rw [s1, s2]
  simp only [Bool.and_self, if_true, Option.some.injEq]
  clear s2 b2 b3
  induction ys generalizing ps with
  | nil =>
    simp only [List.map_nil, D.pys] at b1
    cases b1; simp
  | cons y ys ih =>
    simp only [List.map_cons, D.pys] at b1
    split at b1
    · rename_i q qs q1 q2
      cases b1
      rw [List.any_cons, ih qs q2, h.eq y x q p q1 a1]
      by_cases e1 : x = y
      · subst e1; simp
      · have e2 : ¬ y = x := fun e2 => e1 e2.symm
        simp [e1, e2]
    · cases b1
def EqI [DecidableEq α] (e : α → D) : Prop := ∃ k, k ≤ 63 ∧ EqOk e k
theorem EqI.e [DecidableEq α] {e : α → D} (h : EqI e) : EqE e := by
  obtain ⟨k, h1, h2⟩ := h; exact ⟨k, by omega, h2⟩
/-- is it one of these -/
def memB [DecidableEq α] (x : α) (ys : List α) : Bool := decide (x ∈ ys)
@[simp] theorem memB_eq [DecidableEq α] (x : α) (ys : List α) : memB x ys = decide (x ∈ ys) := Eq.trans rfl rfl
theorem ot_in [DecidableEq α] {e : α → D} (h : EqI e) (x : α) (ys : List α) : Sim (R.of (cmpD .isin (e x) (eL e ys))) (.ok (memB x ys)) D.bl := by
  show R.of ((inL (e x) (ys.map e)).map fun c => D.bl c) = _
  rw [inL_dec h.e x ys h]; rfl
theorem ot_nin [DecidableEq α] {e : α → D} (h : EqI e) (x : α) (ys : List α) : Sim (R.of (cmpD .nin (e x) (eL e ys))) (.ok (!memB x ys)) D.bl := by
  show R.of ((inL (e x) (ys.map e)).map fun c => D.bl (!c)) = _
  rw [inL_dec h.e x ys h]; rfl
theorem ot_inT [DecidableEq α] {e : α → D} (h : EqI e) (x : α) (ys : List α) : Sim (R.of (cmpD .isin (e x) (eT e ys))) (.ok (memB x ys)) D.bl := by
  show R.of ((inL (e x) (ys.map e)).map fun c => D.bl c) = _
  rw [inL_dec h.e x ys h]; rfl
theorem ot_ninT [DecidableEq α] {e : α → D} (h : EqI e) (x : α) (ys : List α) : Sim (R.of (cmpD .nin (e x) (eT e ys))) (.ok (!memB x ys)) D.bl := by
  show R.of ((inL (e x) (ys.map e)).map fun c => D.bl (!c)) = _
  rw [inL_dec h.e x ys h]; rfl
@[irreducible] def inS (x z : Str) : R Bool := if x.cps.size = 1 then .ok (decide (x.cps.getD 0 0 ∈ z.cps.toList)) else .stuck
theorem ot_inS (x z : Str) : Sim (R.of (cmpD .isin (.str x) (.str z))) (inS x z) D.bl := by
  unfold inS
  refine Sim.ite fun h => ?_
  show R.of ((if x.cps.size = 1 then some _ else none).map _) = _
  rw [if_pos h]; rfl
theorem ot_ninS (x z : Str) : Sim (R.of (cmpD .nin (.str x) (.str z))) ((inS x z).bind fun b => .ok (!b)) D.bl := by
  unfold inS
  by_cases h : x.cps.size = 1
  · rw [if_pos h]
    show R.of ((if x.cps.size = 1 then some _ else none).map _) = _
    rw [if_pos h]; rfl
  · rw [if_neg h]; exact trivial
/-! dicts -/
section
variable {κ : Type} [DecidableEq κ]
def lookT (k : κ) : List (κ × α) → Option α
  | [] => none
  | (q, d) :: r => if q = k then some d else lookT k r
def putT (k : κ) (d : α) (kvs : List (κ × α)) : List (κ × α) := if (kvs.any fun kv => decide (kv.1 = k)) = true then kvs.map (fun kv => if kv.1 = k then (kv.1, d) else kv) else kvs ++ [(k, d)]
def putAllT (kvs ps : List (κ × α)) : List (κ × α) := ps.foldl (fun a p => putT p.1 p.2 a) kvs
abbrev KeyOk (kf : κ → Key) (ke : κ → D) : Prop := (∀ k, keyOf (ke k) = some (kf k)) ∧ ∀ a b, kf a = kf b → a = b
theorem keyI : KeyOk kI D.int := ⟨fun _ => rfl, fun a b h => by injection h⟩
theorem keyS : KeyOk kS D.str := ⟨fun _ => rfl, fun a b h => by injection h⟩
variable {kf : κ → Key} {ke : κ → D} {e : α → D}
theorem look_map (hk : ∀ a b, kf a = kf b → a = b) (k : κ) : ∀ kvs : List (κ × α), look (kf k) (kvs.map fun p => (kf p.1, e p.2)) = (lookT k kvs).map e
  | [] => rfl
  | (q, d) :: r => by
    simp only [List.map_cons, look, lookT]
    by_cases h : q = k
    · simp [h]
    · have : ¬ kf q = kf k := fun x => h (hk _ _ x)
      simp [h, this, look_map hk k r]
theorem putK_map (hk : ∀ a b, kf a = kf b → a = b) (k : κ) (d : α) (kvs : List (κ × α)) : putK (kf k) (e d) (kvs.map fun p => (kf p.1, e p.2)) = (putT k d kvs).map fun p => (kf p.1, e p.2) := by
  have hd : ∀ p : κ × α, decide (kf p.1 = kf k) = decide (p.1 = k) := fun p => by
    by_cases h : p.1 = k
    · simp [h]
    · have : ¬ kf p.1 = kf k := fun x => h (hk _ _ x)
      simp [h, this]
  unfold putK putT
  rw [List.any_map]
  have ha : (kvs.any ((fun kv : Key × D => decide (kv.1 = kf k)) ∘ fun p : κ × α => (kf p.1, e p.2))) = kvs.any fun kv => decide (kv.1 = k) := by
    congr 1; funext p; exact hd p
  rw [ha]
  split
  · rw [List.map_map, List.map_map]
    apply List.map_congr_left
    intro p _
    have := hd p
    by_cases h : p.1 = k
    · simp [h]
    · have : ¬ kf p.1 = kf k := fun x => h (hk _ _ x)
      simp [h, this]
  · simp
theorem putAll_map (hk : ∀ a b, kf a = kf b → a = b) : ∀ (ps kvs : List (κ × α)), putAll (kvs.map fun p => (kf p.1, e p.2)) (ps.map fun p => (kf p.1, e p.2)) = (putAllT kvs ps).map fun p => (kf p.1, e p.2)
  | [], kvs => rfl
  | p :: ps, kvs => by
    show putAll (putK (kf p.1) (e p.2) _) (ps.map fun p => (kf p.1, e p.2)) = _
    rw [putK_map hk, putAll_map hk ps]; rfl
theorem dictOf_map (hk : ∀ k, keyOf (ke k) = some (kf k)) : ∀ ps : List (κ × α), dictOf (ps.map (eP ke e)) = some (ps.map fun p => (kf p.1, e p.2))
  | [] => rfl
  | p :: ps => by
    show ((pairOf (eP ke e p)).bind fun q => (dictOf (ps.map (eP ke e))).map (q :: ·)) = _
    rw [dictOf_map hk ps]
    show (((keyOf (ke p.1)).map fun k => (k, e p.2)).bind _) = _
    rw [hk]; rfl
@[irreducible] def dictL (ps : List (κ × α)) : R (List (κ × α)) := if ps.length < lineN then .ok (putAllT [] ps) else .stuck
@[irreducible] def dictT (ps : List (κ × α)) : R (List (κ × α)) := if ps.length < lineN ∧ ps ≠ [] then .ok (putAllT [] ps) else .stuck
theorem ot_dictL (hk : KeyOk kf ke) (ps : List (κ × α)) : Sim (R.of (bltD .dict [eL (eP ke e) ps])) (dictL ps) (eM kf e) := by
  unfold dictL
  refine Sim.ite fun h => ?_
  show R.of (if (ps.map (eP ke e)).length < lineN then (dictOf (ps.map (eP ke e))).map _ else none) = _
  rw [List.length_map, if_pos h, dictOf_map hk.1]
  have := putAll_map (e := e) hk.2 ps []
  show R.ok (D.dct _) = R.ok (D.dct _)
  rw [← this]; rfl
theorem isKey_of {d : D} {k : Key} (h : keyOf d = some k) : isKey d = true := by
  cases d <;> simp [keyOf] at h <;> rfl
theorem ot_dictT (hk : KeyOk kf ke) (ps : List (κ × α)) : Sim (R.of (bltD .dict [eT (eP ke e) ps])) (dictT ps) (eM kf e) := by
  unfold dictT
  refine Sim.ite fun h => ?_
  show R.of (if (decide ((ps.map (eP ke e)).length < lineN) && dictB (ps.map (eP ke e))) = true then (dictOf (ps.map (eP ke e))).map _ else none) = _
  have hp : ∀ p : κ × α, pairB (eP ke e p) = true := fun p => isKey_of (hk.1 p.1)
  have hb : dictB (ps.map (eP ke e)) = true := by
    obtain ⟨h1, h2⟩ := h
    cases ps with
    | nil => exact absurd rfl h2
    | cons p ps =>
      simp only [List.map_cons, dictB, hp, Bool.true_and, List.all_map, List.all_eq_true]
      intro q _; exact hp q
  rw [List.length_map, hb, Bool.and_true, if_pos (decide_eq_true h.1), dictOf_map hk.1]
  have := putAll_map (e := e) hk.2 ps []
  show R.ok (D.dct _) = R.ok (D.dct _)
  rw [← this]; rfl
theorem inD_dct {k : κ} {kvs : List (κ × α)} (hk : KeyOk kf ke) : inD (ke k) (eM kf e kvs) = some (lookT k kvs).isSome := by
  show (keyOf (ke k)).map _ = _
  rw [hk.1]
  show some (look (kf k) _).isSome = _
  rw [look_map hk.2]
  simp
theorem ot_inM (hk : KeyOk kf ke) (k : κ) (kvs : List (κ × α)) : Sim (R.of (cmpD .isin (ke k) (eM kf e kvs))) (.ok (lookT k kvs).isSome) D.bl := by
  show R.of ((inD (ke k) (eM kf e kvs)).map fun c => D.bl c) = _
  rw [inD_dct hk]; rfl
theorem ot_ninM (hk : KeyOk kf ke) (k : κ) (kvs : List (κ × α)) : Sim (R.of (cmpD .nin (ke k) (eM kf e kvs))) (.ok (!(lookT k kvs).isSome)) D.bl := by
  show R.of ((inD (ke k) (eM kf e kvs)).map fun c => D.bl (!c)) = _
  rw [inD_dct hk]; rfl
theorem ot_idxM (hk : KeyOk kf ke) (kvs : List (κ × α)) (k : κ) : Sim (R.of (idxD (eM kf e kvs) (ke k))) (R.of (lookT k kvs)) e := by
  show Sim (R.of ((keyOf (ke k)).bind fun k => look k _)) _ _
  rw [hk.1]
  show Sim (R.of (look (kf k) _)) _ _
  rw [look_map hk.2]
  exact Sim.of fun a h => by rw [h]; rfl
theorem ot_get (hk : KeyOk kf ke) (kvs : List (κ × α)) (k : κ) : Sim (R.of (mthD .get (eM kf e kvs) [ke k])) (.ok (lookT k kvs)) (eO e) := by
  show R.of ((keyOf (ke k)).map fun k => (look k _).getD .non) = _
  rw [hk.1]
  show R.ok ((look (kf k) _).getD .non) = _
  rw [look_map hk.2]
  cases lookT k kvs <;> rfl
theorem ot_get3 (hk : KeyOk kf ke) (kvs : List (κ × α)) (k : κ) (d : α) : Sim (R.of (mthD .get3 (eM kf e kvs) [ke k, e d])) (.ok ((lookT k kvs).getD d)) e := by
  show R.of ((keyOf (ke k)).map fun k => (look k _).getD (e d)) = _
  rw [hk.1]
  show R.ok ((look (kf k) _).getD (e d)) = _
  rw [look_map hk.2]
  cases lookT k kvs <;> rfl
theorem ot_items (hk : ∀ k, keyD (kf k) = ke k) (kvs : List (κ × α)) : Sim (R.of (mthD .items (eM kf e kvs) [])) (.ok kvs) (eL (eP ke e)) := by
  show R.ok (D.lst _) = R.ok (D.lst _)
  rw [List.map_map]
  congr 2
  apply List.map_congr_left
  intro p _
  show D.tup [keyD (kf p.1), e p.2] = _
  rw [hk]; rfl
end
/-! indices -/
@[irreducible] def idxR (xs : List α) (i : Int) : R α := R.of (idxL xs i)
theorem idxL_map (e : α → D) (xs : List α) (i : Int) : idxL (xs.map e) i = (idxL xs i).map e := by
  unfold idxL
  rw [List.length_map]
  split
  · rw [List.getElem?_map]
  · split
    · rw [List.getElem?_map]
    · rfl
theorem ot_idxL (e : α → D) (xs : List α) (i : Int) : Sim (R.of (idxD (eL e xs) (.int i))) (idxR xs i) e := by
  unfold idxR
  show Sim (R.of (idxL (xs.map e) i)) (R.of (idxL xs i)) e
  rw [idxL_map]
  exact Sim.of fun a h => by rw [h]; rfl
theorem ot_idxT (e : α → D) (xs : List α) (i : Int) : Sim (R.of (idxD (eT e xs) (.int i))) (idxR xs i) e := by
  unfold idxR
  show Sim (R.of (idxL (xs.map e) i)) (R.of (idxL xs i)) e
  rw [idxL_map]
  exact Sim.of fun a h => by rw [h]; rfl
@[irreducible] def idxS (z : Str) (i : Int) : R Str := if z.length ≤ lineN then R.of ((idxL z.cps.toList i).map fun c => ⟨#[c]⟩) else .stuck
theorem ot_idxS (z : Str) (i : Int) : Sim (R.of (idxD (.str z) (.int i))) (idxS z i) D.str := by
  unfold idxS
  refine Sim.ite fun h => ?_
  show Sim (R.of (if z.length ≤ lineN then (idxL z.cps.toList i).map fun c => D.str ⟨#[c]⟩ else none)) _ _
  rw [if_pos h]
  exact Sim.of fun a q => by
    rw [Option.map_eq_some_iff] at q
    obtain ⟨c, q1, rfl⟩ := q
    rw [q1]; rfl
/-! slices -/
theorem sIx_len {n m : Nat} (h : n = m) : sIx n = sIx m := by rw [h]
theorem cutL_map (e : α → D) (xs : List α) (lo hi : Option Int) : cutL (xs.map e) lo hi = (cutL xs lo hi).map e := by
  unfold cutL
  rw [List.length_map, List.map_take, List.map_drop]
theorem ot_slL (e : α → D) (xs : List α) (lo hi : Option Int) : Sim (R.of (sliceD (eL e xs) lo hi)) (.ok (cutL xs lo hi)) (eL e) := by
  show R.ok (D.lst (cutL (xs.map e) lo hi)) = _
  rw [cutL_map]; rfl
@[irreducible] def cutT (e : α → D) (xs : List α) (lo hi : Option Int) : R (List α) := .ok (cutL xs lo hi)
theorem ot_slT (e : α → D) (xs : List α) (lo hi : Option Int) : Sim (R.of (sliceD (eT e xs) lo hi)) (cutT e xs lo hi) (eT e) := by
  unfold cutT
  show R.ok (D.tup (cutL (xs.map e) lo hi)) = _
  rw [cutL_map]; rfl
@[irreducible] def cutS (z : Str) (lo hi : Option Int) : R Str := if z.length ≤ lineN then .ok ⟨(cutL z.cps.toList lo hi).toArray⟩ else .stuck
theorem ot_slS (z : Str) (lo hi : Option Int) : Sim (R.of (sliceD (.str z) lo hi)) (cutS z lo hi) D.str := by
  unfold cutS
  refine Sim.ite fun h => ?_
  show R.of (if z.length ≤ lineN then _ else none) = _
  rw [if_pos h]; rfl
theorem everyL_map (e : α → D) (c : Nat) (xs : List α) : everyL c (xs.map e) = (everyL c xs).map e := by
  unfold everyL
  rw [List.length_map, List.map_filterMap]
  congr 1
  funext m
  rw [List.getElem?_map]
@[irreducible] def stepR (xs : List α) (l c : Int) : R (List α) := if (decide (0 < c) && decide (0 ≤ l) && decide (c < 1073741824) && decide (l < 1073741824)) = true then .ok (everyL c.toNat (xs.drop l.toNat)) else .stuck
theorem ot_sls (e : α → D) (xs : List α) (l c : Int) : Sim (R.of (sliceStepD (eL e xs) l c)) (stepR xs l c) (eL e) := by
  unfold stepR
  refine Sim.ite fun h => ?_
  show R.of (if _ then some (D.lst (everyL c.toNat ((xs.map e).drop l.toNat))) else none) = _
  rw [if_pos h, ← List.map_drop, everyL_map]; rfl
/-! builtins -/
theorem ot_lenL (e : α → D) (xs : List α) : Sim (R.of (bltD .len [eL e xs])) (.ok (xs.length : Int)) D.int := by
  show R.ok (D.int ((xs.map e).length : Nat)) = _
  rw [List.length_map]
theorem ot_lenT (e : α → D) (xs : List α) : Sim (R.of (bltD .len [eT e xs])) (.ok (xs.length : Int)) D.int := by
  show R.ok (D.int ((xs.map e).length : Nat)) = _
  rw [List.length_map]
theorem ot_lenM {κ : Type} (k : κ → Key) (e : α → D) (xs : List (κ × α)) : Sim (R.of (bltD .len [eM k e xs])) (.ok (xs.length : Int)) D.int := by
  show R.ok (D.int ((xs.map _).length : Nat)) = _
  rw [List.length_map]
@[irreducible] def lenS (z : Str) : R Int := if z.length ≤ lineN then .ok (z.length : Int) else .stuck
theorem ot_lenS (z : Str) : Sim (R.of (bltD .len [.str z])) (lenS z) D.int := by
  unfold lenS
  refine Sim.ite fun h => ?_
  show R.of (if z.length ≤ lineN then _ else none) = _
  rw [if_pos h]; rfl
def absI (i : Int) : Int := if i < 0 then -i else i
theorem ot_abs (i : Int) : Sim (R.of (bltD .abs [.int i])) (.ok (absI i)) D.int := rfl
theorem ot_max2 (i j : Int) : Sim (R.of (bltD .max2 [.int i, .int j])) (.ok (max i j)) D.int := rfl
theorem ot_min2 (i j : Int) : Sim (R.of (bltD .min2 [.int i, .int j])) (.ok (min i j)) D.int := rfl
theorem ot_max3 (i j k : Int) : Sim (R.of (bltD .max3 [.int i, .int j, .int k])) (.ok (max (max i j) k)) D.int := rfl
@[irreducible] def max1R (xs : List Int) : R Int := if xs = [] then .stuck else .ok (maxI xs)
@[irreducible] def min1R (xs : List Int) : R Int := if xs = [] then .stuck else .ok (minI xs)
theorem ot_max1 (xs : List Int) : Sim (R.of (bltD .max1 [eL D.int xs])) (max1R xs) D.int := by
  unfold max1R
  by_cases h : xs = []
  · rw [if_pos h]; exact trivial
  · rw [if_neg h]
    show R.of (bltD .max1 [dI xs]) = _
    rw [max1_ints h]; rfl
theorem ot_min1 (xs : List Int) : Sim (R.of (bltD .min1 [eL D.int xs])) (min1R xs) D.int := by
  unfold min1R
  by_cases h : xs = []
  · rw [if_pos h]; exact trivial
  · rw [if_neg h]
    show R.of (bltD .min1 [dI xs]) = _
    rw [min1_ints h]; rfl
theorem ot_sum (xs : List Int) : Sim (R.of (bltD .sum [eL D.int xs])) (.ok xs.sum) D.int := by
  show R.of ((intsOf (xs.map D.int)).map fun is => D.int is.sum) = _
  rw [ints_map]; rfl
theorem bls_map : ∀ ns : List Bool, blsOf (ns.map D.bl) = some ns
  | [] => rfl
  | n :: ns => by
    rw [List.map_cons]
    show (blsOf (ns.map D.bl)).map (n :: ·) = _
    rw [bls_map ns]; rfl
theorem strs_map : ∀ ns : List Str, strsOf (ns.map D.str) = some ns
  | [] => rfl
  | n :: ns => by
    rw [List.map_cons]
    show (strsOf (ns.map D.str)).map (n :: ·) = _
    rw [strs_map ns]; rfl
theorem ot_any (xs : List Bool) : Sim (R.of (bltD .any [eL D.bl xs])) (.ok (xs.any id)) D.bl := by
  show R.of ((blsOf (xs.map D.bl)).map fun is => D.bl (is.any id)) = _
  rw [bls_map]; rfl
theorem ot_all (xs : List Bool) : Sim (R.of (bltD .all [eL D.bl xs])) (.ok (xs.all id)) D.bl := by
  show R.of ((blsOf (xs.map D.bl)).map fun is => D.bl (is.all id)) = _
  rw [bls_map]; rfl
theorem ot_listL (e : α → D) (xs : List α) : Sim (R.of (bltD .list [eL e xs])) (.ok xs) (eL e) := rfl
theorem ot_listV (e : α → D) (xs : List α) : Sim (R.of (bltD .listV [eL e xs])) (.ok xs.reverse) (eL e) := by
  show R.ok (D.lst (xs.map e).reverse) = _
  rw [← List.map_reverse]; rfl
@[irreducible] def listRR (i : Int) : R (List Int) := if -16777216 ≤ i ∧ i ≤ 16777216 then .ok ((List.range i.toNat).map fun (k : Nat) => (k : Int)) else .stuck
theorem ot_listR (i : Int) : Sim (R.of (bltD .listR [.int i])) (listRR i) (eL D.int) := by
  unfold listRR
  refine Sim.ite fun h => ?_
  show R.of (if -16777216 ≤ i ∧ i ≤ 16777216 then some (D.lst ((List.range i.toNat).map fun (k : Nat) => .int k)) else none) = _
  rw [if_pos h]
  show R.ok _ = R.ok _
  congr 1
  unfold eL
  rw [List.map_map]; rfl
theorem ot_listT (e : α → D) (xs : List α) : Sim (R.of (bltD .list [eT e xs])) (.ok xs) (eL e) := rfl
theorem ot_tupleL (e : α → D) (xs : List α) : Sim (R.of (bltD .tuple [eL e xs])) (.ok xs) (eT e) := rfl
theorem ot_tupleT (e : α → D) (xs : List α) : Sim (R.of (bltD .tuple [eT e xs])) (.ok xs) (eT e) := rfl
/-- sorted by Python's order of what is laid out -/
def sortBy (e : α → D) (xs : List α) : List α := xs.mergeSort fun a b => PySem.W.dataLe false pyOf (e a) (e b)
@[irreducible] def sortR (e : α → D) (xs : List α) : R (List α) := if (sortOk (xs.map e) && decide (xs.length ≤ lineN)) = true then .ok (sortBy e xs) else .stuck
theorem sortD_map (e : α → D) (xs : List α) : sortD (xs.map e) = (sortBy e xs).map e := by
  unfold sortD sortBy
  rw [List.map_mergeSort (r := fun a b => PySem.W.dataLe false pyOf (e a) (e b)) (s := PySem.W.dataLe false pyOf)]
  intro a _ b _
  rfl
theorem ot_sorted (e : α → D) (xs : List α) : Sim (R.of (bltD .sorted [eL e xs])) (sortR e xs) (eL e) := by
  unfold sortR
  refine Sim.ite fun h => ?_
  show R.of (if (sortOk (xs.map e) && decide ((xs.map e).length ≤ lineN)) = true then some (D.lst (sortD (xs.map e))) else none) = _
  rw [List.length_map, if_pos h, sortD_map]; rfl
def firstsT [DecidableEq α] (acc : List α) : List α → List α
  | [] => acc
  | x :: xs => if x ∈ acc then firstsT acc xs else firstsT (acc ++ [x]) xs
theorem firsts_map [DecidableEq α] {e : α → D} (h : EqI e) : ∀ (xs acc : List α), firstsL (acc.map e) (xs.map e) = some ((firstsT acc xs).map e)
  | [], acc => rfl
  | x :: xs, acc => by
    show ((inL (e x) (acc.map e)).bind fun b => if b then firstsL (acc.map e) (xs.map e) else firstsL (acc.map e ++ [e x]) (xs.map e)) = _
    rw [inL_dec h.e x acc h]
    show (if decide (x ∈ acc) = true then _ else _) = _
    unfold firstsT
    by_cases c : x ∈ acc
    · simp only [c, decide_true, if_true]; exact firsts_map h xs acc
    · simp only [c, decide_false, if_false]
      have := firsts_map h xs (acc ++ [x])
      rw [List.map_append] at this
      exact this
theorem ot_setlenL [DecidableEq α] {e : α → D} (h : EqI e) (xs : List α) : Sim (R.of (bltD .setlen [eL e xs])) (.ok ((firstsT [] xs).length : Int)) D.int := by
  show R.of ((seqOf (eL e xs)).bind fun xs => (firstsL [] xs).map fun ys => D.int ys.length) = _
  have := firsts_map h xs []
  rw [List.map_nil] at this
  show R.of ((firstsL [] (xs.map e)).map fun ys => D.int ys.length) = _
  rw [this]
  show R.ok (D.int ((List.map e (firstsT [] xs)).length : Nat)) = _
  rw [List.length_map]
@[irreducible] def setSortR (xs : List Int) : R (List Int) := if xs.length < 64 then .ok (upSet xs) else .stuck
theorem intsOf_map : ∀ xs : List Int, intsOf (xs.map D.int) = some xs
  | [] => rfl
  | x :: xs => by
    show (intsOf (xs.map D.int)).map (x :: ·) = _
    rw [intsOf_map xs]; rfl
theorem ot_setsortedT (xs : List Int) : Sim (R.of (bltD .setsorted [eT D.int xs])) (setSortR xs) (eL D.int) := by
  unfold setSortR
  refine Sim.ite fun h => ?_
  show R.of ((intsOf (xs.map D.int)).bind fun is => if is.length < 64 then some (D.lst ((upSet is).map D.int)) else none) = _
  rw [intsOf_map]
  show R.of (if xs.length < 64 then some (D.lst ((upSet xs).map D.int)) else none) = _
  rw [if_pos h]; rfl
@[irreducible] def strR (i : Int) : R Str := if i.natAbs.log2 < 1920 then .ok (toString i) else .stuck
theorem ot_str (i : Int) : Sim (R.of (bltD .str [.int i])) (strR i) D.str := by
  unfold strR
  refine Sim.ite fun h => ?_
  show R.of (if _ then _ else none) = _
  rw [if_pos h]; rfl
theorem ot_intI (i : Int) : Sim (R.of (bltD .int [.int i])) (.ok i) D.int := rfl
theorem ot_intB (b : Bool) : Sim (R.of (bltD .int [.bl b])) (.ok (if b then 1 else 0 : Int)) D.int := rfl
@[irreducible] def intS (x : Str) : R Int := if x.length ≤ 640 then R.of (PySem.intText? x) else .stuck
theorem ot_intS (x : Str) : Sim (R.of (bltD .int [.str x])) (intS x) D.int := by
  unfold intS
  refine Sim.ite fun h => ?_
  show Sim (R.of (if x.length ≤ 640 then _ else none)) _ _
  rw [if_pos h]
  exact Sim.of fun a q => by rw [q]; rfl
@[irreducible] def indexR {α : Type} [DecidableEq α] (xs : List α) (x : α) : R Int := R.of ((xs.findIdx? fun y => decide (y = x)).map fun (j : Nat) => (j : Int))
@[irreducible] def rng1R (j : Int) : R (List Int) := if big62 j = true then .ok ((List.range j.toNat).map fun (k : Nat) => (k : Int)) else .stuck
@[irreducible] def rng2R (i j : Int) : R (List Int) := if (big62 i && big62 j) = true then .ok ((List.range (j - i).toNat).map fun (k : Nat) => i + (k : Int)) else .stuck
@[irreducible] def rng3R (i j c : Int) : R (List Int) := if (big62 i && big62 j && decide (0 < c) && decide (c < 1073741824)) = true then .ok ((List.range ((j - i + c - 1) / c).toNat).map fun (k : Nat) => i + (k : Int) * c) else .stuck
theorem ot_rng1 (j : Int) : Sim (R.of (rngD [.int j])) (rng1R j) (eL D.int) := by
  unfold rng1R
  refine Sim.ite fun h => ?_
  show R.of (if big62 j = true then _ else none) = _
  rw [if_pos h]
  simp [rngL, eL]
theorem ot_rng2 (i j : Int) : Sim (R.of (rngD [.int i, .int j])) (rng2R i j) (eL D.int) := by
  unfold rng2R
  refine Sim.ite fun h => ?_
  show R.of (if (big62 i && big62 j) = true then _ else none) = _
  rw [if_pos h]
  simp [rngL, eL]
theorem ot_rng3 (i j c : Int) : Sim (R.of (rngD [.int i, .int j, .int c])) (rng3R i j c) (eL D.int) := by
  unfold rng3R
  refine Sim.ite fun h => ?_
  show R.of (if _ then _ else none) = _
  rw [if_pos h]
  simp [rngC, eL]
@[irreducible] def joinR (x : Str) (ys : List Str) : R Str := if (Txt.join x ys).length ≤ lineN then .ok (Txt.join x ys) else .stuck
theorem ot_join (x : Str) (ys : List Str) : Sim (R.of (mthD .join (.str x) [eL D.str ys])) (joinR x ys) D.str := by
  unfold joinR
  refine Sim.ite fun h => ?_
  show R.of ((strsOf (ys.map D.str)).bind fun zs => if (Txt.join x zs).length ≤ lineN then some (D.str (Txt.join x zs)) else none) = _
  rw [strs_map]
  show R.of (if (Txt.join x ys).length ≤ lineN then some (D.str (Txt.join x ys)) else none) = _
  rw [if_pos h]; rfl
@[irreducible] def splitR (x y : Str) : R (List Str) := if (decide (0 < y.length) && decide (x.length + 2 ≤ lineN)) = true then .ok (Txt.split x y) else .stuck
theorem ot_split (x y : Str) : Sim (R.of (mthD .split (.str x) [.str y])) (splitR x y) (eL D.str) := by
  unfold splitR
  refine Sim.ite fun h => ?_
  show R.of (if _ then _ else none) = _
  rw [if_pos h]; rfl
@[irreducible] def partR (x y : Str) : R (Str × Str × Str) := if (decide (0 < y.length) && decide (x.length ≤ lineN)) = true then .ok ((Txt.partition x y).1, (Txt.partition x y).2.1, (Txt.partition x y).2.2) else .stuck
theorem ot_part (x y : Str) : Sim (R.of (mthD .partition (.str x) [.str y])) (partR x y) (eP3 D.str D.str D.str) := by
  unfold partR
  refine Sim.ite fun h => ?_
  show R.of (if _ then _ else none) = _
  rw [if_pos h]; rfl
/-! more -/
theorem Sim.same {x : R D} : Sim x x (id : D → D) := by cases x <;> first | exact rfl | exact trivial
def eE (p : Nat × Int) : D := .exc p.1 p.2
def chs (z : Str) : List Str := z.cps.toList.map fun c => ⟨#[c]⟩
theorem its_str : ∀ z : Str, itemsOf (.str z) = some ((chs z).map D.str) := fun z => by
  show some _ = _
  unfold chs
  rw [List.map_map]; rfl
theorem exb_ty {x : D} (h : tyOf x ≠ "") : excBig x = false := by cases x <;> first | rfl | exact absurd rfl h
theorem ot_isi {cs : List Nat} {x : D} {b : Bool} (h : tyOf x ≠ "") (hb : cs.any (isCl x) = b) : Sim (R.of (isiD cs x)) (.ok b) D.bl := by
  unfold isiD
  rw [if_neg (by simp [h, exb_ty h]), hb]; rfl
theorem ot_isiP {cs : List Nat} {x : D} {b : Bool} (hc : (cs.all fun k => decide (200 ≤ k) && decide (k < 210)) = false) (h8 : excBig x = false) (hb : cs.any (isCl x) = b) : Sim (R.of (isiD cs x)) (.ok b) D.bl := by
  unfold isiD
  rw [if_neg (by rw [hc, h8]; simp), hb]; rfl
/-- the classes of an error that bears no number -/
def isE (cs : List Nat) (x : Nat × Int) : R Bool := if 8 ≤ x.1 then .stuck else .ok (cs.any (isCl (eE x)))
theorem ot_isiO {α : Type} {cs : List Nat} {e : α → D} {b : Bool} {x : Option α} (h : ∀ a, tyOf (e a) ≠ "") (hb : ∀ a, cs.any (isCl (e a)) = b) : Sim (R.of (isiD cs (eO e x))) (.ok (x.isSome && b)) D.bl := by
  cases x with
  | some a => exact ot_isi (h a) (hb a)
  | none =>
    refine ot_isi (by simp [eO, tyOf]) ?_
    show (cs.any fun k => isCl .non k) = false
    rw [List.any_eq_false]
    intro k _
    simp [isCl]
theorem ot_isiE {cs : List Nat} {x : Nat × Int} (hc : (cs.all fun k => decide (200 ≤ k) && decide (k < 210)) = false) : Sim (R.of (isiD cs (eE x))) (isE cs x) D.bl := by
  unfold isE
  by_cases h : 8 ≤ x.1
  · have e : excBig (eE x) = true := decide_eq_true h
    unfold isiD
    rw [if_pos (by rw [e]; simp), if_pos h]; trivial
  · rw [if_neg h]
    exact ot_isiP hc (decide_eq_false h) rfl
theorem ot_isiOE {cs : List Nat} {x : Option (Nat × Int)} (hc : (cs.all fun k => decide (200 ≤ k) && decide (k < 210)) = false) : Sim (R.of (isiD cs (eO eE x))) (match x with | some z => isE cs z | none => .ok false) D.bl := by
  cases x with
  | some a => exact ot_isiE hc
  | none =>
    refine ot_isiP hc rfl ?_
    show (cs.any fun k => isCl .non k) = false
    rw [List.any_eq_false]
    intro k _
    simp [isCl]
theorem ot_isiX {cs : List Nat} {x : D} : Sim (R.of (isiD cs x)) (R.of ((isiD cs x).bind boolD)) D.bl := by
  refine Sim.of fun a h => ?_
  rw [Option.bind_eq_some_iff] at h
  obtain ⟨d, h1, h2⟩ := h
  cases d <;> simp [boolD] at h2
  rw [h1, h2]
section
variable {Φ : Phi} {es : Env}
theorem SE.isNX {a : ME} {t : R D} (h : SE Φ es a t (id : D → D)) : SE Φ es (.isN a) (t.bind fun x => .ok (isNon x)) D.bl := by
  intro ρ hρ
  rw [x_isN]
  exact (h ρ hρ).bind fun x => rfl
theorem SE.nisNX {a : ME} {t : R D} (h : SE Φ es a t (id : D → D)) : SE Φ es (.nisN a) (t.bind fun x => .ok (!isNon x)) D.bl := by
  intro ρ hρ
  rw [x_nisN]
  exact (h ρ hρ).bind fun x => rfl
end

mutual
/-- all lists within are of at most a million items -/
def smD : D → Bool
  | .lst xs => decide (xs.length ≤ 1000000) && smDs xs
  | .tup xs => decide (xs.length ≤ 1000000) && smDs xs
  | _ => true
def smDs : List D → Bool
  | [] => true
  | x :: xs => smD x && smDs xs
end
theorem smDs_all : ∀ xs : List D, smDs xs = xs.all smD
  | [] => rfl
  | x :: xs => by rw [smDs, smDs_all xs]; rfl
@[simp] theorem sm_int (i : Int) : smD (.int i) = true := by simp [smD]
@[simp] theorem sm_str (i : Str) : smD (.str i) = true := by simp [smD]
@[simp] theorem sm_bl (i : Bool) : smD (.bl i) = true := by simp [smD]
theorem sm_eL {α : Type} (e : α → D) (xs : List α) : smD (eL e xs) = (decide (xs.length ≤ 1000000) && xs.all fun x => smD (e x)) := by
  unfold eL
  rw [smD, smDs_all, List.length_map, List.all_map]; rfl
theorem sm_eT {α : Type} (e : α → D) (xs : List α) : smD (eT e xs) = (decide (xs.length ≤ 1000000) && xs.all fun x => smD (e x)) := by
  unfold eT
  rw [smD, smDs_all, List.length_map, List.all_map]; rfl
theorem sm_eP {α β : Type} (e : α → D) (f : β → D) (p : α × β) : smD (eP e f p) = (smD (e p.1) && smD (f p.2)) := by
  unfold eP
  rw [smD, smDs_all]; simp
theorem sm_eH2 {α β : Type} (e : α → D) (f : β → D) (p : α × β) : smD (eH2 e f p) = (smD (e p.1) && smD (f p.2)) := by
  unfold eH2
  rw [smD, smDs_all]; simp
theorem sm_eP3 {α β γ : Type} (e : α → D) (f : β → D) (g : γ → D) (p : α × β × γ) : smD (eP3 e f g p) = (smD (e p.1) && (smD (f p.2.1) && smD (g p.2.2))) := by
  unfold eP3
  rw [smD, smDs_all]; simp
/-- how deep and how long what is compared may be -/
@[irreducible] def sameR {α : Type} [DecidableEq α] (e : α → D) (x y : α) : R Bool := if smD (e y) = true then .ok (decide (x = y)) else .stuck

/-! equalities -/
theorem EqI.int : EqI D.int := ⟨0, by decide, EqOk.int⟩
theorem EqI.bl : EqI D.bl := ⟨0, by decide, EqOk.bl⟩
/-- where texts lie within: as the evaluator says -/
theorem ot_eqX {α β : Type} (e : α → D) (f : β → D) (x : α) (y : β) : Sim (R.of (cmpD .eq (e x) (f y))) (R.of (eqD (e x) (f y))) D.bl := by
  show Sim (R.of ((eqE (e x) (f y)).map fun c => D.bl c)) _ _
  exact Sim.of fun a h => by rw [eqE_of h]; rfl
/-- a list of anything beside the empty one -/
theorem ot_eqNil {α β : Type} (e : α → D) (f : β → D) (xs : List α) : Sim (R.of (cmpD .eq (eL e xs) (eL f []))) (.ok (decide (xs.length = 0))) D.bl := by
  show R.of ((eqE (eL e xs) (eL f [])).map fun c => D.bl c) = _
  cases xs with
  | nil => rfl
  | cons x xs =>
    have : eqE (eL e (x :: xs)) (eL f []) = some false := by
      unfold eqE
      have h2 : (eL f ([] : List β)) = .lst [] := rfl
      have h1 : eL e (x :: xs) = .lst (e x :: xs.map e) := rfl
      rw [h1, h2]
      unfold eqD
      cases q : (D.lst (e x :: xs.map e)).py with
      | none => rfl
      | some p =>
        simp only [D.py, D.pys] at q
        cases q1 : (e x).py with
        | none => rw [q1] at q; simp at q
        | some p1 =>
          cases q2 : D.pys (xs.map e) with
          | none => rw [q1, q2] at q; simp at q
          | some ps =>
            rw [q1, q2] at q
            have q : p = .list (p1 :: ps) := by simpa using q.symm
            subst q
            simp only [D.py, D.pys, Option.map_some]
            by_cases c : (SeqAt.shaped (.list (p1 :: ps)) && SeqAt.shaped (.list [])) = true
            · rw [if_pos c]
              have : PyData.eqv (.list (p1 :: ps)) (.list []) = false := by simp [PyData.eqv, PyData.eqvAll]
              rw [this]
            · rw [if_neg c]
    rw [this]; rfl
theorem SE.eqNil {Φ : Phi} {es : Env} {α : Type} {a : ME} {t : R (List α)} {e : α → D} (h : SE Φ es a t (eL e)) : SE Φ es (.cmp .eq a (.lst [])) (t.bind fun x => .ok (decide (x.length = 0))) D.bl := by
  intro ρ hρ
  rw [x_cmp]
  refine (h ρ hρ).bind fun xs => ?_
  have := ot_eqNil e e xs
  exact this
theorem ot_neX {α β : Type} (e : α → D) (f : β → D) (x : α) (y : β) : Sim (R.of (cmpD .ne (e x) (f y))) ((R.of (eqD (e x) (f y))).bind fun b => .ok (!b)) D.bl := by
  show Sim (R.of ((eqD (e x) (f y)).map fun c => D.bl (!c))) _ _
  cases eqD (e x) (f y) <;> first | exact trivial | exact rfl
theorem ot_inX {α β : Type} (e : α → D) (f : β → D) (x : α) (y : β) : Sim (R.of (cmpD .isin (e x) (f y))) (R.of (inD (e x) (f y))) D.bl := by
  show Sim (R.of ((inD (e x) (f y)).map fun c => D.bl c)) _ _
  exact Sim.of fun a h => by rw [h]; rfl
theorem ot_ninX {α β : Type} (e : α → D) (f : β → D) (x : α) (y : β) : Sim (R.of (cmpD .nin (e x) (f y))) ((R.of (inD (e x) (f y))).bind fun b => .ok (!b)) D.bl := by
  show Sim (R.of ((inD (e x) (f y)).map fun c => D.bl (!c))) _ _
  cases inD (e x) (f y) <;> first | exact trivial | exact rfl
/-- equality with the depth told -/
structure EqK [DecidableEq α] (e : α → D) (k : Nat) : Prop where
  ok : EqOk e k
theorem EqOk.mono [DecidableEq α] {e : α → D} {k l : Nat} (h : EqOk e k) (hl : k ≤ l) : EqOk e l := ⟨fun a => by
  obtain ⟨p, h1, h2, h3⟩ := h.py a
  exact ⟨p, h1, h2, by omega⟩, h.eq⟩
end
section
variable {α β γ δ : Type} [DecidableEq α] [DecidableEq β] [DecidableEq γ] [DecidableEq δ] {e : α → D} {f : β → D} {g : γ → D} {i : δ → D} {k : Nat}
theorem EqOk.eL (h : EqOk e k) : EqOk (eL e) (k + 1) := h.lst
theorem EqOk.eT (h : EqOk e k) : EqOk (eT e) (k + 1) := h.tup
theorem EqOk.eP {k' : Nat} (h : EqOk e k) (g : EqOk f k') : EqOk (eP e f) (max k k' + 1) := (h.mono (Nat.le_max_left _ _)).pair (g.mono (Nat.le_max_right _ _))
theorem EqOk.h2 {k' : Nat} (h0 : EqOk e k) (g0 : EqOk f k') : EqOk (eH2 e f) (max k k' + 1) := by
  have h := h0.mono (Nat.le_max_left k k')
  have g := g0.mono (Nat.le_max_right k k')
  refine ⟨fun x => ?_, fun x y p q h1 h2 => ?_⟩
  · obtain ⟨p, a1, a2, a3⟩ := h.py x.1
    obtain ⟨q, b1, b2, b3⟩ := g.py x.2
    refine ⟨.list [p, q], by simp [eH2, D.py, D.pys, a1, b1], by simp [PyData.canLay0, PyData.canLayAll0, a2, b2], ?_⟩
    simp only [PyData.depth]
    have := depthAll_le (k := max k k') (ps := [p, q]) (by simp only [List.mem_cons, List.not_mem_nil, or_false, forall_eq_or_imp, forall_eq]; exact ⟨a3, b3⟩)
    omega
  · obtain ⟨p1, a1, _⟩ := h.py x.1
    obtain ⟨p2, b1, _⟩ := g.py x.2
    obtain ⟨q1, c1, _⟩ := h.py y.1
    obtain ⟨q2, d1, _⟩ := g.py y.2
    simp only [eH2, D.py, D.pys, a1, b1, c1, d1, Option.map_some, Option.some.injEq] at h1 h2
    subst h1; subst h2
    simp only [PyData.eqv, PyData.eqvAll, Bool.and_true]
    rw [h.eq _ _ _ _ a1 c1, g.eq _ _ _ _ b1 d1]
    by_cases u : x.1 = y.1 <;> by_cases v : x.2 = y.2 <;> simp [u, v, Prod.ext_iff]
theorem EqOk.p3 {k' k'' : Nat} (h0 : EqOk e k) (g0 : EqOk f k') (i0 : EqOk g k'') : EqOk (eP3 e f g) (max k (max k' k'') + 1) := by
  have h := h0.mono (show k ≤ max k (max k' k'') by omega)
  have g := g0.mono (show k' ≤ max k (max k' k'') by omega)
  have i := i0.mono (show k'' ≤ max k (max k' k'') by omega)
  refine ⟨fun x => ?_, fun x y p q h1 h2 => ?_⟩
  · obtain ⟨p, a1, a2, a3⟩ := h.py x.1
    obtain ⟨q, b1, b2, b3⟩ := g.py x.2.1
    obtain ⟨r, c1, c2, c3⟩ := i.py x.2.2
    refine ⟨.tuple [p, q, r], by simp [eP3, D.py, D.pys, a1, b1, c1], by simp [PyData.canLay0, PyData.canLayAll0, a2, b2, c2], ?_⟩
    simp only [PyData.depth]
    have := depthAll_le (k := max k (max k' k'')) (ps := [p, q, r]) (by simp only [List.mem_cons, List.not_mem_nil, or_false, forall_eq_or_imp, forall_eq]; exact ⟨a3, b3, c3⟩)
    omega
  · obtain ⟨p1, a1, _⟩ := h.py x.1
    obtain ⟨p2, b1, _⟩ := g.py x.2.1
    obtain ⟨p3, e1, _⟩ := i.py x.2.2
    obtain ⟨q1, c1, _⟩ := h.py y.1
    obtain ⟨q2, d1, _⟩ := g.py y.2.1
    obtain ⟨q3, f1, _⟩ := i.py y.2.2
    simp only [eP3, D.py, D.pys, a1, b1, c1, d1, e1, f1, Option.map_some, Option.some.injEq] at h1 h2
    subst h1; subst h2
    simp only [PyData.eqv, PyData.eqvAll, Bool.and_true]
    rw [h.eq _ _ _ _ a1 c1, g.eq _ _ _ _ b1 d1, i.eq _ _ _ _ e1 f1]
    by_cases u : x.1 = y.1 <;> by_cases v : x.2.1 = y.2.1 <;> by_cases w : x.2.2 = y.2.2 <;> simp [u, v, w, Prod.ext_iff]
theorem EqOk.opt (h : EqOk e k) (hn : NN e) : EqOk (eO e) k := by
  have hnn : ∀ (x : α) (q : PyData), (e x).py = some q → q.eqv .none = false ∧ PyData.eqv .none q = false := by
    intro x q hq
    have := hn x
    cases hx : e x <;> rw [hx] at hq this <;> simp only [D.py, Option.map_eq_some_iff, Option.some.injEq] at hq <;> first
      | (cases this; done)
      | (subst hq; exact ⟨rfl, rfl⟩)
      | (obtain ⟨z, _, rfl⟩ := hq; exact ⟨rfl, rfl⟩)
      | (cases hq; done)
  refine ⟨fun x => ?_, fun x y p q h1 h2 => ?_⟩
  · cases x with
    | none => exact ⟨.none, by simp [eO, D.py], by simp [PyData.canLay0], by simp [PyData.depth]⟩
    | some x => exact h.py x
  · cases x with
    | none =>
      simp only [eO, D.py] at h1
      cases h1
      cases y with
      | none => simp only [eO, D.py] at h2; cases h2; rfl
      | some y => rw [(hnn y q h2).2]; simp
    | some x =>
      cases y with
      | none =>
        simp only [eO, D.py] at h2
        cases h2
        rw [(hnn x p h1).1]; simp
      | some y => rw [h.eq x y p q h1 h2]; simp
end
/-! ### statements -/
inductive FT (σ κ τ : Type) where
  | nx (s : σ) | ct (s : κ) | rt (r : τ) | exc (c : Nat) (row : Int) | stuck
section
variable {σ σ' κ τ α : Type}
def FT.bindR (t : R α) (f : α → FT σ κ τ) : FT σ κ τ := match t with
  | .ok a => f a
  | .exc c r => .exc c r
  | .stuck => .stuck
def FT.seq (t : FT σ' κ τ) (f : σ' → FT σ κ τ) : FT σ κ τ := match t with
  | .nx s => f s
  | .ct s => .ct s
  | .rt r => .rt r
  | .exc c r => .exc c r
  | .stuck => .stuck
def forT (body : α → σ → FT σ σ τ) : List α → σ → FT σ κ τ
  | [], s => .nx s
  | x :: xs, s => match body x s with
    | .nx s' => forT body xs s'
    | .ct s' => forT body xs s'
    | .rt r => .rt r
    | .exc c r => .exc c r
    | .stuck => .stuck
def whlT (test : σ → R Bool) (body : σ → FT σ σ τ) : Nat → σ → FT σ κ τ
  | 0, _ => .stuck
  | n + 1, s => FT.bindR (test s) fun b => if b then
      (match body s with
      | .nx s' => whlT test body n s'
      | .ct s' => whlT test body n s'
      | .rt r => .rt r
      | .exc c r => .exc c r
      | .stuck => .stuck) else .nx s
def FT.fin (d : R τ) : FT Unit Unit τ → R τ
  | .nx _ => d
  | .ct _ => .stuck
  | .rt r => .ok r
  | .exc c r => .exc c r
  | .stuck => .stuck
def FT.try (t : FT σ κ τ) (cs : List Nat) (h : Nat → Int → FT σ κ τ) : FT σ κ τ := match t with
  | .exc c r => if cs.any (isCl (.exc c r)) then h c r else .exc c r
  | t => t
@[simp] theorem FT.bindR_ok (a : α) (f : α → FT σ κ τ) : FT.bindR (.ok a) f = f a := Eq.trans rfl rfl
@[simp] theorem FT.bindR_exc (c : Nat) (r : Int) (f : α → FT σ κ τ) : FT.bindR (.exc c r) f = .exc c r := Eq.trans rfl rfl
@[simp] theorem FT.bindR_stuck (f : α → FT σ κ τ) : FT.bindR .stuck f = .stuck := Eq.trans rfl rfl
@[simp] theorem FT.seq_nx (s : σ') (f : σ' → FT σ κ τ) : FT.seq (.nx s) f = f s := Eq.trans rfl rfl
@[simp] theorem FT.seq_ct (s : κ) (f : σ' → FT σ κ τ) : FT.seq (.ct s) f = .ct s := Eq.trans rfl rfl
@[simp] theorem FT.seq_rt (s : τ) (f : σ' → FT σ κ τ) : FT.seq (.rt s) f = .rt s := Eq.trans rfl rfl
@[simp] theorem FT.seq_exc (c : Nat) (r : Int) (f : σ' → FT σ κ τ) : FT.seq (.exc c r) f = .exc c r := Eq.trans rfl rfl
@[simp] theorem FT.fin_nx (d : R τ) (u : Unit) : FT.fin d (.nx u) = d := Eq.trans rfl rfl
@[simp] theorem FT.fin_rt (d : R τ) (r : τ) : FT.fin d (.rt r) = .ok r := Eq.trans rfl rfl
@[simp] theorem FT.fin_exc (d : R τ) (c : Nat) (r : Int) : FT.fin d (.exc c r) = .exc c r := Eq.trans rfl rfl
@[simp] theorem forT_nil (body : α → σ → FT σ σ τ) (s : σ) : (forT body [] s : FT σ κ τ) = .nx s := Eq.trans rfl rfl
theorem forT_cons (body : α → σ → FT σ σ τ) (x : α) (xs : List α) (s : σ) : (forT body (x :: xs) s : FT σ κ τ) = match body x s with
    | .nx s' => forT body xs s'
    | .ct s' => forT body xs s'
    | .rt r => .rt r
    | .exc c r => .exc c r
    | .stuck => .stuck := rfl
@[simp] theorem FT.try_nx (s : σ) (cs : List Nat) (h : Nat → Int → FT σ κ τ) : FT.try (.nx s) cs h = .nx s := Eq.trans rfl rfl
@[simp] theorem FT.try_rt (s : τ) (cs : List Nat) (h : Nat → Int → FT σ κ τ) : FT.try (.rt s) cs h = .rt s := Eq.trans rfl rfl
@[simp] theorem FT.try_exc (c : Nat) (r : Int) (cs : List Nat) (h : Nat → Int → FT σ κ τ) : FT.try (.exc c r) cs h = if cs.any (isCl (.exc c r)) then h c r else .exc c r := Eq.trans rfl rfl

def SimF (f : FL) (t : FT σ κ τ) (out : σ → Env) (outc : κ → Env) (enc : τ → D) : Prop := match t with
  | .nx s => ∃ ρ', f = .nx ρ' ∧ AgL ρ' (out s)
  | .ct s => ∃ ρ', f = .ct ρ' ∧ AgL ρ' (outc s)
  | .rt r => f = .rt (enc r)
  | .exc c r => f = .exc c r
  | .stuck => True
def SS (Φ : Phi) (es : Env) (ss : List MS) (t : FT σ κ τ) (out : σ → Env) (outc : κ → Env) (enc : τ → D) : Prop := ∀ ρ, AgL ρ es → SimF (evSs Φ ss ρ) t out outc enc
variable {Φ : Phi} {es : Env} {out : σ → Env} {outc : κ → Env} {enc : τ → D} {rest : List MS}
theorem SimF.of {δ : Type} {x : R δ} {t : R α} {e : α → δ} {f : δ → FL} {g : α → FT σ κ τ} (h : Sim x t e) (k : ∀ a, SimF (f (e a)) (g a) out outc enc) : SimF (FL.of x f) (FT.bindR t g) out outc enc := by
  cases t with
  | ok a => have h : x = .ok (e a) := h; subst h; exact k a
  | exc c r => have h : x = .exc c r := h; subst h; exact rfl
  | stuck => exact trivial
theorem SimF.seq {out1 : σ' → Env} {f : FL} {t : FT σ' κ τ} {g : Env → FL} {k : σ' → FT σ κ τ} (h : SimF f t out1 outc enc) (hk : ∀ s ρ, AgL ρ (out1 s) → SimF (g ρ) (k s) out outc enc) : SimF (f.seq g) (t.seq k) out outc enc := by
  cases t with
  | nx s => obtain ⟨ρ', rfl, h2⟩ := h; exact hk s ρ' h2
  | ct s => obtain ⟨ρ', rfl, h2⟩ := h; exact ⟨ρ', rfl, h2⟩
  | rt r => have h : f = .rt (enc r) := h; subst h; exact rfl
  | exc c r => have h : f = .exc c r := h; subst h; exact rfl
  | stuck => exact trivial
theorem SS.nil {s : σ} (h : AgL es (out s)) : SS Φ es [] (.nx s : FT σ κ τ) out outc enc := fun ρ hρ => ⟨ρ, rfl, hρ.trans h⟩
theorem SS.cont {s : κ} (h : AgL es (outc s)) : SS Φ es (.cont :: rest) (.ct s : FT σ κ τ) out outc enc := fun ρ hρ => ⟨ρ, rfl, hρ.trans h⟩
theorem SS.ret {e : ME} {t : R τ} (h : SE Φ es e t enc) : SS Φ es (.ret e :: rest) (FT.bindR t fun r => .rt r : FT σ κ τ) out outc enc := by
  intro ρ hρ
  have := h ρ hρ
  rw [y_cons, y_ret]
  cases t with
  | ok a => have h : evE Φ e ρ = .ok (enc a) := this; rw [h]; exact rfl
  | exc c r => have h : evE Φ e ρ = .exc c r := this; rw [h]; exact rfl
  | stuck => exact trivial
theorem SS.raise {c : Nat} : SS Φ es (.raise c none :: rest) (.exc c 0 : FT σ κ τ) out outc enc := fun ρ hρ => rfl
theorem SS.raiseE {c : Nat} {e : ME} {t : R Int} (h : SE Φ es e t D.int) : SS Φ es (.raise c (some e) :: rest) (FT.bindR t fun r => .exc c r : FT σ κ τ) out outc enc := by
  intro ρ hρ
  have := h ρ hρ
  rw [y_cons, y_raiseE]
  cases t with
  | ok a => have h : evE Φ e ρ = .ok (.int a) := this; rw [h]; exact rfl
  | exc c r => have h : evE Φ e ρ = .exc c r := this; rw [h]; exact rfl
  | stuck => exact trivial
theorem SS.of_seq {s : MS} {f : FL} {t : FT σ κ τ} (h : ∀ ρ, AgL ρ es → SimF ((evS Φ s ρ).seq fun ρ' => evSs Φ rest ρ') t out outc enc) : SS Φ es (s :: rest) t out outc enc := fun ρ hρ => h ρ hρ
theorem SS.set {i : Nat} {e : ME} {t : R α} {e1 : α → D} {k : α → FT σ κ τ} (h : SE Φ es e t e1) (hk : ∀ x, SS Φ (setE es i (e1 x)) rest (k x) out outc enc) : SS Φ es (.set i e :: rest) (FT.bindR t k) out outc enc := by
  intro ρ hρ
  have := h ρ hρ
  rw [y_cons, y_set]
  cases t with
  | ok a => have h : evE Φ e ρ = .ok (e1 a) := this; rw [h]; exact hk a _ (hρ.set _ _)
  | exc c r => have h : evE Φ e ρ = .exc c r := this; rw [h]; exact rfl
  | stuck => exact trivial
theorem SS.seto {i : Nat} {e : ME} {t : R α} {e1 : α → D} {k : α → FT σ κ τ} (h : SE Φ es e t e1) (ho : ∀ x, isOwn (e1 x) = true) (hk : ∀ x, SS Φ (setE es i (e1 x)) rest (k x) out outc enc) : SS Φ es (.seto i e :: rest) (FT.bindR t k) out outc enc := by
  intro ρ hρ
  have := h ρ hρ
  rw [y_cons, y_seto]
  cases t with
  | ok a =>
    have h : evE Φ e ρ = .ok (e1 a) := this
    rw [h, FL.of_ok, if_pos (ho a)]
    exact hk a _ (hρ.set _ _)
  | exc c r => have h : evE Φ e ρ = .exc c r := this; rw [h]; exact rfl
  | stuck => exact trivial
theorem SS.setT {is : List Nat} {e : ME} {t : R α} {e1 : α → D} {k : α → FT σ κ τ} {esb : α → Env} (h : SE Φ es e t e1) (hb : ∀ x, Mi.bindT (.many is) (e1 x) es = .ok (esb x)) (hk : ∀ x, SS Φ (esb x) rest (k x) out outc enc) : SS Φ es (.setT is e :: rest) (FT.bindR t k) out outc enc := by
  intro ρ hρ
  have := h ρ hρ
  rw [y_cons, y_setT]
  cases t with
  | ok a =>
    have h : evE Φ e ρ = .ok (e1 a) := this
    rw [h, FL.of_ok]
    obtain ⟨ρ', h1, h2⟩ := hρ.bindT (hb a)
    have : FL.of (R.of (tupOf (e1 a))) (fun ds => FL.of (bindMany is ds ρ) fun ρ' => .nx ρ') = .nx ρ' := by
      cases q : e1 a <;> rw [q] at h1 <;> first
        | (cases h1; done)
        | (have h1 : bindMany is _ ρ = .ok ρ' := h1
           show FL.of (bindMany is _ ρ) _ = _
           rw [h1]; rfl)
    rw [this]
    exact hk a ρ' h2
  | exc c r => have h : evE Φ e ρ = .exc c r := this; rw [h]; exact rfl
  | stuck => exact trivial
theorem eff_eq {t i f : Nat} {mes : List ME} (ρ : Env) : effR Φ t i f mes ρ = noX ((evE Φ (.call f (.v i :: mes)) ρ).bind fun d => (R.of (tupOf d)).bind fun ds => bindMany [t, i] ds ρ) := by
  show noX ((getE ρ i).bind fun y => (evEs Φ mes ρ).bind fun xs => (Φ f (y :: xs)).bind fun d => (R.of (tupOf d)).bind fun ds => bindMany [t, i] ds ρ) = noX ((((getE ρ i).bind fun y => (evEs Φ mes ρ).bind fun xs => R.ok (y :: xs)).bind fun xs => Φ f xs).bind fun d => (R.of (tupOf d)).bind fun ds => bindMany [t, i] ds ρ)
  simp only [R.bind_assoc, R.ok_bind]
theorem SS.eff {t i f : Nat} {mes : List ME} {s : MS} {tt : R α} {e1 : α → D} {k : α → FT σ κ τ} {esb : α → Env} (h : SE Φ es (.call f (.v i :: mes)) tt e1) (hb : ∀ x, Mi.bindT (.many [t, i]) (e1 x) es = .ok (esb x)) (hk : ∀ x, SS Φ (esb x) (s :: rest) (k x) out outc enc) : SS Φ es (.eff t i f mes s :: rest) (FT.bindR (noX tt) k) out outc enc := by
  intro ρ hρ
  have := h ρ hρ
  rw [y_cons]
  show SimF ((FL.of (effR Φ t i f mes ρ) fun ρ' => evS Φ s ρ').seq fun ρ' => evSs Φ rest ρ') _ out outc enc
  rw [eff_eq]
  cases tt with
  | ok a =>
    have h : evE Φ (.call f (.v i :: mes)) ρ = .ok (e1 a) := this
    rw [h, R.ok_bind]
    obtain ⟨ρ', h1, h2⟩ := hρ.bindT (hb a)
    have : (R.of (tupOf (e1 a))).bind (fun ds => bindMany [t, i] ds ρ) = .ok ρ' := by
      cases q : e1 a <;> rw [q] at h1 <;> first
        | (cases h1; done)
        | (have h1 : bindMany [t, i] _ ρ = .ok ρ' := h1
           show bindMany [t, i] _ ρ = _
           exact h1)
    rw [this]
    exact hk a ρ' h2
  | exc c r => exact trivial
  | stuck => exact trivial
theorem SS.expr {e : ME} {t : R α} {e1 : α → D} {k : FT σ κ τ} (h : SE Φ es e t e1) (hk : SS Φ es rest k out outc enc) : SS Φ es (.expr e :: rest) (FT.bindR t fun _ => k) out outc enc := by
  intro ρ hρ
  have := h ρ hρ
  rw [y_cons, y_expr]
  cases t with
  | ok a => have h : evE Φ e ρ = .ok (e1 a) := this; rw [h]; exact hk _ hρ
  | exc c r => have h : evE Φ e ρ = .exc c r := this; rw [h]; exact rfl
  | stuck => exact trivial
theorem SS.frz {i : Nat} {t : FT σ κ τ} (hk : SS Φ es rest t out outc enc) : SS Φ es (.frz i :: rest) t out outc enc := fun ρ hρ => hk ρ hρ
theorem SS.aug {i : Nat} {e : ME} {x : Int} {t : R Int} {k : Int → FT σ κ τ} (hx : getE es i = .ok (.int x)) (h : SE Φ es e t D.int) (hk : ∀ y, SS Φ (setE es i (.int (x + y))) rest (k y) out outc enc) : SS Φ es (.aug i e :: rest) (FT.bindR t k) out outc enc := by
  intro ρ hρ
  have := h ρ hρ
  rw [y_cons, y_aug, hρ.get hx, FL.of_ok]
  cases t with
  | ok a => have h : evE Φ e ρ = .ok (.int a) := this; rw [h]; exact hk a _ (hρ.set _ _)
  | exc c r => have h : evE Φ e ρ = .exc c r := this; rw [h]; exact rfl
  | stuck => exact trivial
theorem SS.ife {c : ME} {a b : List MS} {out1 : σ' → Env} {t : R Bool} {ta tb : FT σ' κ τ} {k : σ' → FT σ κ τ} (hc : SE Φ es c t D.bl) (ha : SS Φ es a ta out1 outc enc) (hb : SS Φ es b tb out1 outc enc) (hk : ∀ s, SS Φ (out1 s) rest (k s) out outc enc) :
    SS Φ es (.ife c a b :: rest) ((FT.bindR t fun x => if x then ta else tb).seq k) out outc enc := by
  intro ρ hρ
  have := hc ρ hρ
  rw [y_cons, y_ife]
  refine SimF.seq (out1 := out1) ?_ fun s ρ' h => hk s ρ' h
  refine SimF.of this fun x => ?_
  rw [bo_bl, R.of_some, FL.of_ok]
  cases x
  · exact hb ρ hρ
  · exact ha ρ hρ
/-- the last one -/
theorem SS.ifz {c : ME} {a b : List MS} {t : R Bool} {ta tb : FT σ κ τ} (hc : SE Φ es c t D.bl) (ha : SS Φ es a ta out outc enc) (hb : SS Φ es b tb out outc enc) :
    SS Φ es [.ife c a b] (FT.bindR t fun x => if x then ta else tb) out outc enc := by
  intro ρ hρ
  have := hc ρ hρ
  rw [y_cons, y_ife]
  have e : ∀ f : FL, (f.seq fun ρ' => evSs Φ [] ρ') = f := fun f => by cases f <;> rfl
  rw [e]
  refine SimF.of this fun x => ?_
  rw [bo_bl, R.of_some, FL.of_ok]
  cases x
  · exact hb ρ hρ
  · exact ha ρ hρ
theorem SimF.for {e : α → D} {tg : Tg} {body : List MS} {dead : List Nat} {tb : α → σ' → FT σ' σ' τ} {out1 : σ' → Env} {esb : α → σ' → Env} (hd : ∀ s, AgL (killAll (out1 s) dead) (out1 s)) (hbt : ∀ x s, bindT tg (e x) (out1 s) = .ok (esb x s))
    (hb : ∀ x s, SS Φ (esb x s) body (tb x s) out1 out1 enc) : ∀ (xs : List α) (ρ : Env) (s : σ'), AgL (killAll ρ dead) (out1 s) → SimF (loopF Φ dead tg body (xs.map e) ρ) (forT tb xs s) out1 outc enc
  | [], ρ, s, h => ⟨_, rfl, h⟩
  | x :: xs, ρ, s, h => by
    obtain ⟨ρ1, h1, h2⟩ := h.bindT (hbt x s)
    have h3 := hb x s ρ1 h2
    unfold loopF
    rw [List.map_cons, fl_cons, h1, FL.of_ok, forT_cons]
    cases q : tb x s with
    | nx s' =>
      rw [q] at h3
      obtain ⟨ρ2, e1, e2⟩ := h3
      rw [e1]
      exact SimF.for hd hbt hb xs ρ2 s' ((e2.killAll dead).trans (hd s'))
    | ct s' =>
      rw [q] at h3
      obtain ⟨ρ2, e1, e2⟩ := h3
      rw [e1]
      exact SimF.for hd hbt hb xs ρ2 s' ((e2.killAll dead).trans (hd s'))
    | rt r =>
      rw [q] at h3
      have h3 : evSs Φ body ρ1 = .rt (enc r) := h3
      rw [h3]; exact rfl
    | exc c r =>
      rw [q] at h3
      have h3 : evSs Φ body ρ1 = .exc c r := h3
      rw [h3]; exact rfl
    | stuck => exact trivial
theorem SS.for {γ : Type} {tg : Tg} {it : ME} {body : List MS} {dead : List Nat} {t : R γ} {e0 : γ → D} {its : γ → List α} {e : α → D} {tb : α → σ' → FT σ' σ' τ} {out1 : σ' → Env} {esb : α → σ' → Env} {s0 : σ'} {k : σ' → FT σ κ τ}
    (hit : SE Φ es it t e0) (hi : ∀ a, itemsOf (e0 a) = some ((its a).map e)) (h0 : AgL (killAll es dead) (out1 s0)) (hd : ∀ s, AgL (killAll (out1 s) dead) (out1 s)) (hbt : ∀ x s, bindT tg (e x) (out1 s) = .ok (esb x s))
    (hb : ∀ x s, SS Φ (esb x s) body (tb x s) out1 out1 enc) (hk : ∀ s, SS Φ (out1 s) rest (k s) out outc enc) : SS Φ es (.for tg it body dead :: rest) ((FT.bindR t fun a => forT tb (its a) s0).seq k) out outc enc := by
  intro ρ hρ
  have := hit ρ hρ
  rw [y_cons, y_for]
  refine SimF.seq (out1 := out1) ?_ fun s ρ' h => hk s ρ' h
  refine SimF.of this fun a => ?_
  rw [hi a, R.of_some, FL.of_ok]
  exact SimF.for hd hbt hb (its a) ρ s0 ((hρ.killAll dead).trans h0)
theorem SS.whl {c : ME} {body : List MS} {n : Nat} {dead : List Nat} {tc : σ' → R Bool} {tb : σ' → FT σ' σ' τ} {out1 : σ' → Env} {s0 : σ'} {k : σ' → FT σ κ τ} (h0 : AgL (killAll es dead) (out1 s0)) (hd : ∀ s, AgL (killAll (out1 s) dead) (out1 s))
    (hc : ∀ s, SE Φ (out1 s) c (tc s) D.bl) (hb : ∀ s, SS Φ (out1 s) body (tb s) out1 out1 enc) (hk : ∀ s, SS Φ (out1 s) rest (k s) out outc enc) : SS Φ es (.whl n c body dead :: rest) ((whlT tc tb n s0).seq k) out outc enc := by
  intro ρ hρ
  rw [y_cons]
  refine SimF.seq (out1 := out1) ?_ fun s ρ' h => hk s ρ' h
  have key : ∀ (n : Nat) (ρ : Env) (s : σ'), AgL (killAll ρ dead) (out1 s) → SimF (whlL dead (fun ρ => (evE Φ c ρ).bind fun x => R.of (boolD x)) (fun ρ => evSs Φ body ρ) n ρ) (whlT tc tb n s) out1 outc enc := by
    intro n
    induction n with
    | zero => intro ρ s _; exact trivial
    | succ n ih =>
      intro ρ s h
      have hc' := hc s _ h
      have hb' := hb s _ h
      show SimF (FL.of ((evE Φ c (killAll ρ dead)).bind fun x => R.of (boolD x)) _) (FT.bindR (tc s) _) _ _ _
      refine SimF.of (e := fun b : Bool => b) (?_ : Sim _ (tc s) _) fun b => ?_
      · cases q : tc s with
        | ok b =>
          rw [q] at hc'
          have hc' : evE Φ c (killAll ρ dead) = .ok (.bl b) := hc'
          rw [hc']; exact rfl
        | exc c r =>
          rw [q] at hc'
          have hc' : evE Φ _ (killAll ρ dead) = .exc c r := hc'
          rw [hc']; exact rfl
        | stuck => exact trivial
      · cases b
        · exact ⟨_, rfl, h⟩
        · simp only [if_true]
          cases q : tb s with
          | nx s' =>
            rw [q] at hb'
            obtain ⟨ρ2, e1, e2⟩ := hb'
            rw [e1]
            exact ih ρ2 s' ((e2.killAll dead).trans (hd s'))
          | ct s' =>
            rw [q] at hb'
            obtain ⟨ρ2, e1, e2⟩ := hb'
            rw [e1]
            exact ih ρ2 s' ((e2.killAll dead).trans (hd s'))
          | rt r =>
            rw [q] at hb'
            have hb' : evSs Φ body (killAll ρ dead) = .rt (enc r) := hb'
            rw [hb']; exact rfl
          | exc c r =>
            rw [q] at hb'
            have hb' : evSs Φ body (killAll ρ dead) = .exc c r := hb'
            rw [hb']; exact rfl
          | stuck => exact trivial
  exact key n ρ s0 ((hρ.killAll dead).trans h0)
def setX (es : Env) (x : Option Nat) (d : D) : Env := match x with | some i => setE es i d | none => es
theorem SS.try {body h : List MS} {cs : List Nat} {x : Option Nat} {out1 : σ' → Env} {tb : FT σ' κ τ} {th : Nat → Int → FT σ' κ τ} {k : σ' → FT σ κ τ} (hb : SS Φ es body tb out1 outc enc)
    (hh : ∀ c r, SS Φ (setX es x (.exc c r)) h (th c r) out1 outc enc) (hk : ∀ s, SS Φ (out1 s) rest (k s) out outc enc) : SS Φ es (.try body cs x h :: rest) ((FT.try tb cs th).seq k) out outc enc := by
  intro ρ hρ
  rw [y_cons]
  refine SimF.seq (out1 := out1) ?_ fun s ρ' h => hk s ρ' h
  have hb' := hb ρ hρ
  show SimF (match evSs Φ body ρ with
      | .exc c r => if cs.any (isCl (.exc c r)) then evSs Φ h (setX ρ x (.exc c r)) else .exc c r
      | f => f) _ _ _ _
  cases q : tb with
  | nx s' =>
    rw [q] at hb'
    obtain ⟨ρ2, e1, e2⟩ := hb'
    rw [e1]; exact ⟨ρ2, rfl, e2⟩
  | ct s' =>
    rw [q] at hb'
    obtain ⟨ρ2, e1, e2⟩ := hb'
    rw [e1]; exact ⟨ρ2, rfl, e2⟩
  | rt r =>
    rw [q] at hb'
    have hb' : evSs Φ body ρ = .rt (enc r) := hb'
    rw [hb']; exact rfl
  | exc c r =>
    rw [q] at hb'
    have hb' : evSs Φ body ρ = .exc c r := hb'
    rw [hb']
    show SimF (if cs.any (isCl (.exc c r)) = true then _ else _) (if cs.any (isCl (.exc c r)) = true then _ else _) _ _ _
    by_cases z : cs.any (isCl (.exc c r)) = true
    · rw [if_pos z, if_pos z]
      refine hh c r _ ?_
      cases x with
      | none => exact hρ
      | some i => exact hρ.set _ _
    · rw [if_neg z, if_neg z]; exact rfl
  | stuck => exact trivial
/-! own lists and dicts -/
@[irreducible] def setR {β : Type} (xs : List β) (i : Int) (v : β) : R (List β) := R.of ((idxL (List.range xs.length) i).map fun j => xs.set j v)
@[irreducible] def putR {κ' β : Type} [DecidableEq κ'] (kvs : List (κ' × β)) (q : κ') (v : β) : R (List (κ' × β)) := if kvs.length < lineN then .ok (putT q v kvs) else .stuck
@[irreducible] def appR {β : Type} (xs : List β) (v : β) : R (List β) := if xs.length < lineN then .ok (xs ++ [v]) else .stuck
@[irreducible] def sdefR {κ' β : Type} [DecidableEq κ'] (kvs : List (κ' × β)) (q : κ') (v : β) : R (List (κ' × β)) := if kvs.length < lineN then .ok (match lookT q kvs with | some _ => kvs | none => putT q v kvs) else .stuck
theorem ot_setIdx {β : Type} (e : β → D) (xs : List β) (i : Int) (v : β) : Sim (R.of (setIdxD (eL e xs) (.int i) (e v))) (setR xs i v) (eL e) := by
  show Sim (R.of ((idxL (List.range (xs.map e).length) i).map fun j => D.lst ((xs.map e).set j (e v)))) _ _
  rw [List.length_map]
  unfold setR
  refine Sim.of fun a h => ?_
  rw [Option.map_eq_some_iff] at h ⊢
  obtain ⟨j, h1, rfl⟩ := h
  exact ⟨j, h1, by simp [eL, List.map_set]⟩
theorem ot_putIdx {κ' β : Type} [DecidableEq κ'] {kf : κ' → Key} {ke : κ' → D} (hk : KeyOk kf ke) (e : β → D) (kvs : List (κ' × β)) (q : κ') (v : β) : Sim (R.of (setIdxD (eM kf e kvs) (ke q) (e v))) (putR kvs q v) (eM kf e) := by
  unfold putR
  refine Sim.ite fun h => ?_
  have : setIdxD (eM kf e kvs) (ke q) (e v) = if (kvs.map fun p => (kf p.1, e p.2)).length < lineN then (keyOf (ke q)).map fun k => .dct (putK k (e v) (kvs.map fun p => (kf p.1, e p.2))) else none := by
    unfold eM setIdxD
    rfl
  rw [this, List.length_map, if_pos h, hk.1]
  show R.ok (D.dct _) = R.ok (D.dct _)
  rw [putK_map hk.2]
theorem SS.setIdx {β γ : Type} {i : Nat} {ke e : ME} {d : D} {tq : R γ} {tv : R β} {eq : γ → D} {ev : β → D} {ex : α → D} {m : γ → β → R α} {k : α → FT σ κ τ} (hx : getE es i = .ok d) (hv : SE Φ es e tv ev) (hq : SE Φ es ke tq eq)
    (hm : ∀ q v, Sim (R.of (setIdxD d (eq q) (ev v))) (m q v) ex) (hk : ∀ y, SS Φ (setE es i (ex y)) rest (k y) out outc enc) : SS Φ es (.setIdx i ke e :: rest) (FT.bindR tv fun v => FT.bindR tq fun q => FT.bindR (m q v) k) out outc enc := by
  intro ρ hρ
  rw [y_cons, y_setIdx, hρ.get hx]
  have e0 : ∀ (x : R D) (f : D → FL) (g : Env → FL), (FL.of x f).seq g = FL.of x fun d => (f d).seq g := fun x f g => by cases x <;> rfl
  have e1 : ∀ (x : R D) (f : D → FL), FL.of x f = FL.of x f := fun _ _ => rfl
  rw [e0]
  refine SimF.of (hv ρ hρ) fun v => ?_
  rw [e0]
  refine SimF.of (hq ρ hρ) fun q => ?_
  rw [FL.of_ok, e0]
  exact SimF.of (hm q v) fun y => hk y _ (hρ.set _ _)
theorem SS.app {β : Type} {i : Nat} {e : ME} {xs : List β} {tv : R β} {ev : β → D} {k : List β → FT σ κ τ} (hx : getE es i = .ok (eL ev xs)) (hv : SE Φ es e tv ev) (hk : ∀ y, SS Φ (setE es i (eL ev y)) rest (k y) out outc enc) : SS Φ es (.app i e :: rest) (FT.bindR tv fun v => FT.bindR (appR xs v) k) out outc enc := by
  intro ρ hρ
  rw [y_cons, y_app, hρ.get hx, FL.of_ok]
  have e0 : ∀ {δ : Type} (x : R δ) (f : δ → FL) (g : Env → FL), (FL.of x f).seq g = FL.of x fun d => (f d).seq g := fun x f g => by cases x <;> rfl
  show SimF (FL.seq (FL.of (evE Φ e ρ) _) _) _ _ _ _
  rw [e0]
  refine SimF.of (hv ρ hρ) fun v => ?_
  rw [e0]
  refine SimF.of (e := eL ev) ?_ fun y => hk y _ (hρ.set _ _)
  unfold appR
  refine Sim.ite fun h => ?_
  show R.of (appD (xs.map ev) (ev v)) = _
  unfold appD
  rw [List.length_map, if_pos h]
  simp [eL]
theorem SS.ext {β : Type} {i : Nat} {e : ME} {xs : List β} {tv : R (List β)} {ev : β → D} {k : List β → FT σ κ τ} (hx : getE es i = .ok (eL ev xs)) (hv : SE Φ es e tv (eL ev)) (hk : ∀ y, SS Φ (setE es i (eL ev y)) rest (k y) out outc enc) : SS Φ es (.ext i e :: rest) (FT.bindR tv fun v => FT.bindR (catL xs v) k) out outc enc := by
  intro ρ hρ
  rw [y_cons, y_ext, hρ.get hx, FL.of_ok]
  have e0 : ∀ {δ : Type} (x : R δ) (f : δ → FL) (g : Env → FL), (FL.of x f).seq g = FL.of x fun d => (f d).seq g := fun x f g => by cases x <;> rfl
  show SimF (FL.seq (FL.of (evE Φ e ρ) _) _) _ _ _ _
  rw [e0]
  refine SimF.of (hv ρ hρ) fun v => ?_
  rw [e0]
  refine SimF.of (e := eL ev) ?_ fun y => hk y _ (hρ.set _ _)
  unfold catL
  refine Sim.ite fun h => ?_
  show R.of (if (xs.map ev).length + (v.map ev).length ≤ lineN then _ else none) = _
  rw [List.length_map, List.length_map, if_pos h]
  simp [eL]
theorem SS.rev {β : Type} {i : Nat} {xs : List β} {ev : β → D} {k : FT σ κ τ} (hx : getE es i = .ok (eL ev xs)) (hk : SS Φ (setE es i (eL ev xs.reverse)) rest k out outc enc) : SS Φ es (.rev i :: rest) k out outc enc := by
  intro ρ hρ
  rw [y_cons, y_rev, hρ.get hx, FL.of_ok]
  show SimF (FL.seq (FL.of (R.of (some (D.lst (xs.map ev).reverse))) _) _) _ _ _ _
  rw [← List.map_reverse]
  exact hk _ (hρ.set _ _)
theorem SS.sdef {κ' β : Type} [DecidableEq κ'] {i : Nat} {ke e : ME} {kvs : List (κ' × β)} {tq : R κ'} {tv : R β} {kf : κ' → Key} {eq : κ' → D} {ev : β → D} {k : List (κ' × β) → FT σ κ τ} (hx : getE es i = .ok (eM kf ev kvs)) (hq : SE Φ es ke tq eq) (hv : SE Φ es e tv ev) (hK : KeyOk kf eq)
    (hk : ∀ y, SS Φ (setE es i (eM kf ev y)) rest (k y) out outc enc) : SS Φ es (.sdef i ke e :: rest) (FT.bindR tq fun q => FT.bindR tv fun v => FT.bindR (sdefR kvs q v) k) out outc enc := by
  intro ρ hρ
  rw [y_cons, y_sdef]
  have e0 : ∀ {δ : Type} (x : R δ) (f : δ → FL) (g : Env → FL), (FL.of x f).seq g = FL.of x fun d => (f d).seq g := fun x f g => by cases x <;> rfl
  rw [e0]
  refine SimF.of (hq ρ hρ) fun q => ?_
  rw [e0]
  refine SimF.of (hv ρ hρ) fun v => ?_
  rw [hρ.get hx, FL.of_ok, e0]
  refine SimF.of (e := eM kf ev) ?_ fun y => hk y _ (hρ.set _ _)
  unfold sdefR
  refine Sim.ite fun h => ?_
  have : sdefD (eM kf ev kvs) (eq q) (ev v) = if (kvs.map fun p => (kf p.1, ev p.2)).length < lineN then (keyOf (eq q)).map fun k => .dct (match look k (kvs.map fun p => (kf p.1, ev p.2)) with | some _ => (kvs.map fun p => (kf p.1, ev p.2)) | none => putK k (ev v) (kvs.map fun p => (kf p.1, ev p.2))) else none := by
    unfold eM sdefD
    rfl
  rw [this, List.length_map, if_pos h, hK.1]
  show R.ok (D.dct _) = R.ok (D.dct _)
  rw [look_map hK.2]
  cases lookT q kvs with
  | none =>
    show R.ok (D.dct (putK (kf q) (ev v) _)) = _
    rw [putK_map hK.2]
  | some _ => rfl
/-! a def -/
theorem Sim.fun {prog : Prog} {m f : Nat} {d : FD} {ds : List D} {t : FT Unit Unit τ} {enc : τ → D} {dft : R τ} {o : Unit → Env} {oc : Unit → Env} (h : prog f = some d) (hl : ds.length = d.np) (hd : Sim (R.ok D.non) dft enc) (hb : SS (phi prog m) (envOf d.ns ds) d.body t o oc enc) (ho : ownOk d.pm ds = true) : Sim (phi prog (m + 1) f ds) (FT.fin dft t) enc := by
  rw [phi_at h hl ho]
  have := hb _ (AgL.refl _)
  cases t with
  | nx s =>
    obtain ⟨ρ', e1, _⟩ := this
    rw [e1]; exact hd
  | ct s => exact trivial
  | rt r =>
    have this : evSs _ _ _ = .rt (enc r) := this
    rw [this]; exact rfl
  | exc c r =>
    have this : evSs _ _ _ = .exc c r := this
    rw [this]; exact rfl
  | stuck => exact trivial
theorem Sim.fun' {prog : Prog} {m h f : Nat} {d : FD} {ds : List D} {t : FT Unit Unit τ} {enc : τ → D} {dft : R τ} {o : Unit → Env} {oc : Unit → Env} (hm : h ≤ m) (h1 : 1 ≤ h) (hp : prog f = some d) (hl : ds.length = d.np) (hd : Sim (R.ok D.non) dft enc) (hb : ∀ k, h ≤ k + 1 → SS (phi prog k) (envOf d.ns ds) d.body t o oc enc) (ho : ownOk d.pm ds = true := by rfl) : SimW (phi prog m f ds) (FT.fin dft t) enc := by
  obtain ⟨k, rfl⟩ : ∃ k, m = k + 1 := ⟨m - 1, by omega⟩
  exact ⟨Sim.fun hp hl hd (hb k hm) ho⟩
end
end Mi

/-! Mi, part U: rules for typed mirrors; rows and hours. -/
namespace Mi
open PySem
theorem fdivR_ok {x y : Int} (h : 0 < y) (k : y < 1073741824) : fdivR x y = .ok (x / y) := by
  unfold fdivR; rw [if_pos]; simp [h, k]
theorem fdivR_w {x y : Int} (h : 0 < y) (k : wide y = true) : fdivR x y = .ok (x / y) := by
  unfold fdivR; rw [if_pos]; rw [k, decide_eq_true h, Bool.or_true, Bool.true_and]
theorem modR_ok {x y : Int} (h : 0 < y) : modR x y = .ok (x % y) := by
  unfold modR; rw [if_pos h]
theorem mulR_l {x y : Int} (h1 : -18446744073709551616 < x) (h2 : x < 18446744073709551616) : mulR x y = .ok (x * y) := by
  unfold mulR; rw [if_pos]; simp [sm_of h1 h2]
theorem mulR_r {x y : Int} (h1 : -18446744073709551616 < y) (h2 : y < 18446744073709551616) : mulR x y = .ok (x * y) := by
  unfold mulR; rw [if_pos]; simp [sm_of h1 h2]
theorem mulR_w {x y : Int} (h : wide x = true) (k : wide y = true) : mulR x y = .ok (x * y) := by
  unfold mulR; rw [if_pos]; simp [h, k]
theorem powR_ok {x y : Int} (h : 0 ≤ y) (k : y ≤ 1000000) (h1 : -18446744073709551616 < x) (h2 : x < 18446744073709551616) : powR x y = .ok (x ^ y.toNat) := by
  unfold powR; rw [if_pos]; simp [h, k, sm_of h1 h2]
theorem rng1R_ok {n : Nat} (h : n ≤ 1000000000) : rng1R (n : Int) = .ok ((List.range n).map fun (k : Nat) => (k : Int)) := by
  unfold rng1R
  have hb : big62 (n : Int) = true := by unfold big62; simp; omega
  rw [if_pos hb, Int.toNat_natCast]
theorem rng1R_int {n : Int} (h0 : 0 ≤ n) (h : n ≤ 1000000000) : rng1R n = .ok ((List.range n.toNat).map fun (k : Nat) => (k : Int)) := by
  obtain ⟨k, rfl⟩ := Int.eq_ofNat_of_zero_le h0
  rw [Int.toNat_natCast]
  exact rng1R_ok (by omega)
theorem rng2R_ok {i j : Int} (h : -1000000000 ≤ i) (h2 : i ≤ 1000000000) (h3 : -1000000000 ≤ j) (h4 : j ≤ 1000000000) : rng2R i j = .ok ((List.range (j - i).toNat).map fun (k : Nat) => i + (k : Int)) := by
  unfold rng2R
  have hb : big62 i = true := by unfold big62; simp; omega
  have hc : big62 j = true := by unfold big62; simp; omega
  rw [hb, hc]; rfl
section
variable {α β σ κ τ : Type}
theorem appR_ok {xs : List α} {v : α} (h : xs.length < 16777216) : appR xs v = .ok (xs ++ [v]) := by
  unfold appR lineN; rw [if_pos h]
theorem catL_ok {xs ys : List α} (h : xs.length + ys.length ≤ 16777216) : catL xs ys = .ok (xs ++ ys) := by
  unfold catL lineN; rw [if_pos h]
theorem idxR_nat {xs : List α} {i : Nat} {x : α} (h : xs[i]? = some x) : idxR xs (i : Int) = .ok x := by
  unfold idxR idxL
  rw [if_pos (Int.natCast_nonneg i), Int.toNat_natCast, h]; rfl
theorem idxR_at {xs : List α} {i : Int} {x : α} (h0 : 0 ≤ i) (h : xs[i.toNat]? = some x) : idxR xs i = .ok x := by
  unfold idxR idxL
  rw [if_pos h0, h]; rfl
theorem idxR_ex {xs : List α} {i : Int} (h0 : 0 ≤ i) (h1 : i < xs.length) : ∃ x, x ∈ xs ∧ xs[i.toNat]? = some x ∧ idxR xs i = .ok x := by
  have hl : i.toNat < xs.length := by omega
  have := List.getElem?_eq_getElem hl
  exact ⟨_, List.getElem_mem hl, this, idxR_at h0 this⟩
theorem idxR_D {xs : List Int} {i : Int} (h0 : 0 ≤ i) (h1 : i < xs.length) : idxR xs i = .ok (xs.getD i.toNat 0) := by
  obtain ⟨x, _, h2, h3⟩ := idxR_ex h0 h1
  rw [h3, List.getD_eq_getElem?_getD, h2]; rfl
theorem setR_ok {xs : List α} {i : Nat} {v : α} (h : i < xs.length) : setR xs (i : Int) v = .ok (xs.set i v) := by
  unfold setR idxL
  rw [if_pos (Int.natCast_nonneg i), Int.toNat_natCast, List.getElem?_range h]; rfl
theorem max1R_ok {xs : List Int} (h : xs ≠ []) : max1R xs = .ok (maxI xs) := by unfold max1R; rw [if_neg h]
theorem min1R_ok {xs : List Int} (h : xs ≠ []) : min1R xs = .ok (minI xs) := by unfold min1R; rw [if_neg h]
theorem mapM'_ok {f : α → R β} {g : α → β} : ∀ {xs : List α}, (∀ x ∈ xs, f x = .ok (g x)) → mapM' f xs = .ok (xs.map g)
  | [], _ => rfl
  | x :: xs, h => by
    rw [mapM', h x List.mem_cons_self, R.ok_bind, mapM'_ok fun y hy => h y (List.mem_cons_of_mem _ hy)]; rfl
theorem filM'_ok {p : α → R Bool} {q : α → Bool} {f : α → R β} {g : α → β} : ∀ {xs : List α}, (∀ x ∈ xs, p x = .ok (q x)) → (∀ x ∈ xs, q x = true → f x = .ok (g x)) → filM' p f xs = .ok ((xs.filter q).map g)
  | [], _, _ => rfl
  | x :: xs, h, k => by
    rw [filM', h x List.mem_cons_self, R.ok_bind, filM'_ok (fun y hy => h y (List.mem_cons_of_mem _ hy)) fun y hy => k y (List.mem_cons_of_mem _ hy)]
    cases e : q x with
    | false => simp [e]
    | true => simp [e, k x List.mem_cons_self e]
theorem capR_ok {xs : List α} (h : xs.length ≤ 16777216) : capR (.ok xs) = .ok xs := by
  unfold capR lineN
  rw [noX_ok, R.ok_bind, if_pos h]
theorem mapC_ok {f : α → R β} {g : α → β} {xs : List α} (h : ∀ x ∈ xs, f x = .ok (g x)) (hl : xs.length ≤ 16777216) : mapC f xs = .ok (xs.map g) := by
  unfold mapC
  rw [mapM'_ok h, capR_ok (by simpa using hl)]
theorem filC_ok {p : α → R Bool} {q : α → Bool} {f : α → R β} {g : α → β} {xs : List α} (h : ∀ x ∈ xs, p x = .ok (q x)) (k : ∀ x ∈ xs, q x = true → f x = .ok (g x)) (hl : xs.length ≤ 16777216) : filC p f xs = .ok ((xs.filter q).map g) := by
  unfold filC
  rw [filM'_ok h k, capR_ok (Nat.le_trans (by rw [List.length_map]; exact List.length_filter_le _ _) hl)]
/-- a comprehension of which only a fact of each item is told -/
theorem mapC_ex {f : α → R β} {P : α → β → Prop} {xs : List α} (h : ∀ x ∈ xs, ∃ y, f x = .ok y ∧ P x y) (hl : xs.length ≤ 16777216) : ∃ ys, mapC f xs = .ok ys ∧ ys.length = xs.length ∧ ∀ (i : Nat) x y, xs[i]? = some x → ys[i]? = some y → P x y := by
  have : ∃ ys, mapM' f xs = .ok ys ∧ ys.length = xs.length ∧ ∀ (i : Nat) x y, xs[i]? = some x → ys[i]? = some y → P x y := by
    clear hl
    induction xs with
    | nil => exact ⟨[], rfl, rfl, by simp⟩
    | cons x xs ih =>
      obtain ⟨y, h1, h2⟩ := h x List.mem_cons_self
      obtain ⟨ys, h3, h4, h5⟩ := ih fun z hz => h z (List.mem_cons_of_mem _ hz)
      refine ⟨y :: ys, by rw [mapM', h1, R.ok_bind, h3]; rfl, by simp [h4], fun i a b ha hb => ?_⟩
      cases i with
      | zero => simp at ha hb; subst ha; subst hb; exact h2
      | succ i => exact h5 i a b (by simpa using ha) (by simpa using hb)
  obtain ⟨ys, h1, h2, h3⟩ := this
  refine ⟨ys, ?_, h2, h3⟩
  unfold mapC
  rw [h1, capR_ok (by omega)]
/-! loops -/
theorem forT_st {body : α → σ → FT σ σ τ} (st : Nat → σ) : ∀ (xs : List α) (k : Nat), (∀ i x, xs[i]? = some x → body x (st (k + i)) = .nx (st (k + i + 1)) ∨ body x (st (k + i)) = .ct (st (k + i + 1))) → (forT body xs (st k) : FT σ κ τ) = .nx (st (k + xs.length))
  | [], k, _ => rfl
  | x :: xs, k, h => by
    have ih := forT_st st xs (k + 1) fun i y hi => by
      have := h (i + 1) y (by simpa using hi)
      rw [show k + (i + 1) = k + 1 + i by omega] at this
      exact this
    rw [forT_cons]
    rw [show k + (x :: xs).length = k + 1 + xs.length by simp; omega]
    rcases h 0 x rfl with h | h <;> rw [Nat.add_zero] at h <;> rw [h] <;> exact ih
/-- over a range, the state told by its index -/
theorem forT_rng {body : Int → σ → FT σ σ τ} {n : Nat} (st : Nat → σ) (h : ∀ i, i < n → body (i : Int) (st i) = .nx (st (i + 1)) ∨ body (i : Int) (st i) = .ct (st (i + 1))) : (forT body ((List.range n).map fun (k : Nat) => (k : Int)) (st 0) : FT σ κ τ) = .nx (st n) := by
  have := forT_st (κ := κ) (body := body) st ((List.range n).map fun (k : Nat) => (k : Int)) 0 fun i x hx => by
    rw [List.getElem?_map, Option.map_eq_some_iff] at hx
    obtain ⟨j, h1, rfl⟩ := hx
    have hi : i < n := by
      have := (List.getElem?_eq_some_iff.mp h1).1
      simpa using this
    rw [List.getElem?_range hi] at h1
    cases h1
    rw [Nat.zero_add]
    exact h i hi
  rw [this]; simp
theorem forT_inv {body : α → σ → FT σ σ τ} (I : Nat → σ → Prop) : ∀ (xs : List α) (k : Nat) (s : σ), I k s → (∀ i x s, xs[i]? = some x → I (k + i) s → ∃ s', (body x s = .nx s' ∨ body x s = .ct s') ∧ I (k + i + 1) s') → ∃ s', (forT body xs s : FT σ κ τ) = .nx s' ∧ I (k + xs.length) s'
  | [], k, s, h0, _ => ⟨s, rfl, h0⟩
  | x :: xs, k, s, h0, hs => by
    obtain ⟨s1, h1, h2⟩ := hs 0 x s rfl h0
    obtain ⟨s2, g1, g2⟩ := forT_inv I xs (k + 1) s1 h2 fun i y s hi hI => by
      have := hs (i + 1) y s (by simpa using hi) (by rw [show k + (i + 1) = k + 1 + i by omega]; exact hI)
      rw [show k + (i + 1) + 1 = k + 1 + i + 1 by omega] at this
      exact this
    refine ⟨s2, ?_, by rw [show k + (x :: xs).length = k + 1 + xs.length by simp; omega]; exact g2⟩
    rw [forT_cons]
    rcases h1 with h1 | h1 <;> rw [h1] <;> exact g1
/-- an invariant that each turn keeps -/
theorem forT_keep {body : α → σ → FT σ σ τ} {xs : List α} {s : σ} (I : σ → Prop) (h0 : I s) (hs : ∀ x ∈ xs, ∀ s, I s → ∃ s', (body x s = .nx s' ∨ body x s = .ct s') ∧ I s') : ∃ s', (forT body xs s : FT σ κ τ) = .nx s' ∧ I s' := by
  obtain ⟨s', h1, h2⟩ := forT_inv (κ := κ) (body := body) (fun _ => I) xs 0 s h0 fun i x s hx hI => hs x (List.mem_of_getElem? hx) s hI
  exact ⟨s', h1, h2⟩
theorem forT_fold {body : α → σ → FT σ σ τ} {g : σ → α → σ} : ∀ {xs : List α} {s : σ}, (∀ x ∈ xs, ∀ s, body x s = .nx (g s x)) → (forT body xs s : FT σ κ τ) = .nx (xs.foldl g s)
  | [], _, _ => rfl
  | x :: xs, s, h => by
    rw [forT_cons, h x List.mem_cons_self s, List.foldl_cons]
    exact forT_fold fun y hy => h y (List.mem_cons_of_mem _ hy)
theorem forT_foldI {body : α → σ → FT σ σ τ} {g : σ → α → σ} (I : σ → Prop) : ∀ {xs : List α} {s : σ}, I s → (∀ x ∈ xs, ∀ s, I s → body x s = .nx (g s x) ∧ I (g s x)) → (forT body xs s : FT σ κ τ) = .nx (xs.foldl g s) ∧ I (xs.foldl g s)
  | [], s, h0, _ => ⟨rfl, h0⟩
  | x :: xs, s, h0, h => by
    obtain ⟨h1, h2⟩ := h x List.mem_cons_self s h0
    rw [forT_cons, h1, List.foldl_cons]
    exact forT_foldI I h2 fun y hy => h y (List.mem_cons_of_mem _ hy)
/-- every turn comes behind with the state as it was -/
theorem forT_all {body : α → σ → FT σ σ τ} {s : σ} : ∀ {xs : List α}, (∀ x ∈ xs, body x s = .nx s) → (forT body xs s : FT σ κ τ) = .nx s
  | [], _ => rfl
  | x :: xs, h => by
    rw [forT_cons, h x List.mem_cons_self]
    exact forT_all fun y hy => h y (List.mem_cons_of_mem _ hy)
/-- a loop that ends at the first item that fails -/
theorem forT_chk {body : α → σ → FT σ σ τ} {s : σ} {p : α → Bool} {d : τ} : ∀ {xs : List α}, (∀ x ∈ xs, body x s = if p x then .nx s else .rt d) → (forT body xs s : FT σ κ τ) = if xs.all p then .nx s else .rt d
  | [], _ => rfl
  | x :: xs, h => by
    rw [forT_cons, h x List.mem_cons_self, List.all_cons]
    cases e : p x with
    | false => simp
    | true =>
      simp only [if_true, Bool.true_and]
      exact forT_chk fun y hy => h y (List.mem_cons_of_mem _ hy)
end
/-! ### what a mirror tells, by what is wanted -/
/-- x tells a value with P, or raises with E -/
def WR {α : Type} (x : R α) (P : α → Prop) (E : Nat → Int → Prop) : Prop := match x with
  | .ok a => P a
  | .exc c r => E c r
  | .stuck => False
def WF {σ κ τ : Type} (t : FT σ κ τ) (N : σ → Prop) (C : κ → Prop) (Q : τ → Prop) (E : Nat → Int → Prop) : Prop := match t with
  | .nx s => N s
  | .ct s => C s
  | .rt r => Q r
  | .exc c r => E c r
  | .stuck => False
/-- nothing raised -/
abbrev noE : Nat → Int → Prop := fun _ _ => False
section
variable {α β γ σ σ' κ τ : Type} {P : α → Prop} {N : σ → Prop} {C : κ → Prop} {Q : τ → Prop} {E : Nat → Int → Prop}
@[simp] theorem WR.ok_iff {a : α} : WR (.ok a) P E ↔ P a := Iff.rfl
@[simp] theorem WR.exc_iff {c : Nat} {r : Int} : WR (.exc c r) P E ↔ E c r := Iff.rfl
@[simp] theorem WF.nx_iff {s : σ} : WF (.nx s) N C Q E ↔ N s := Iff.rfl
@[simp] theorem WF.ct_iff {s : κ} : WF (.ct s) N C Q E ↔ C s := Iff.rfl
@[simp] theorem WF.rt_iff {s : τ} : WF (.rt s) N C Q E ↔ Q s := Iff.rfl
@[simp] theorem WF.exc_iff {c : Nat} {r : Int} : WF (.exc c r) N C Q E ↔ E c r := Iff.rfl
theorem WR.mk {x : R α} {a : α} (h : x = .ok a) (k : P a) : WR x P E := by subst h; exact k
theorem WR.ex {x : R α} (h : WR x P noE) : ∃ a, x = .ok a ∧ P a := by
  cases x with
  | ok a => exact ⟨a, rfl, h⟩
  | exc c r => exact h.elim
  | stuck => exact h.elim
theorem WR.eq {x : R α} {a : α} (h : WR x (· = a) noE) : x = .ok a := by
  obtain ⟨b, h1, h2⟩ := h.ex
  subst h2; exact h1
theorem WR.imp {x : R α} {P' : α → Prop} {E' : Nat → Int → Prop} (h : WR x P E) (k : ∀ a, P a → P' a) (l : ∀ c r, E c r → E' c r) : WR x P' E' := by
  cases x with
  | ok a => exact k a h
  | exc c r => exact l c r h
  | stuck => exact h.elim
theorem WR.to {x : R α} {P' : α → Prop} (h : WR x P noE) (k : ∀ a, P a → P' a) : WR x P' E := h.imp k fun _ _ q => q.elim
theorem WR.bind {x : R β} {B : β → Prop} {f : β → R α} (h : WR x B E) (k : ∀ b, B b → WR (f b) P E) : WR (x.bind f) P E := by
  cases x with
  | ok a => exact k a h
  | exc c r => exact h
  | stuck => exact h.elim
theorem WF.bindR {x : R β} {B : β → Prop} {f : β → FT σ κ τ} (h : WR x B E) (k : ∀ b, B b → WF (f b) N C Q E) : WF (FT.bindR x f) N C Q E := by
  cases x with
  | ok a => exact k a h
  | exc c r => exact h
  | stuck => exact h.elim
theorem WF.seq {t : FT σ' κ τ} {N' : σ' → Prop} {f : σ' → FT σ κ τ} (h : WF t N' C Q E) (k : ∀ s, N' s → WF (f s) N C Q E) : WF (t.seq f) N C Q E := by
  cases t with
  | nx s => exact k s h
  | ct s => exact h
  | rt s => exact h
  | exc c r => exact h
  | stuck => exact h.elim
theorem WF.imp {t : FT σ κ τ} {N' : σ → Prop} {C' : κ → Prop} {Q' : τ → Prop} {E' : Nat → Int → Prop} (h : WF t N C Q E) (k1 : ∀ s, N s → N' s) (k2 : ∀ s, C s → C' s) (k3 : ∀ s, Q s → Q' s) (k4 : ∀ c r, E c r → E' c r) : WF t N' C' Q' E' := by
  cases t with
  | nx s => exact k1 s h
  | ct s => exact k2 s h
  | rt s => exact k3 s h
  | exc c r => exact k4 c r h
  | stuck => exact h.elim
theorem WR.fin {d : R τ} {t : FT Unit Unit τ} (h : WF t (fun _ => WR d Q E) (fun _ => False) Q E) : WR (FT.fin d t) Q E := by
  cases t with
  | nx s => exact h
  | ct s => exact h.elim
  | rt s => exact h
  | exc c r => exact h
  | stuck => exact h.elim
theorem WF.ite {c : Prop} [Decidable c] {a b : FT σ κ τ} (h : c → WF a N C Q E) (k : ¬ c → WF b N C Q E) : WF (if c then a else b) N C Q E := by
  by_cases hc : c
  · rw [if_pos hc]; exact h hc
  · rw [if_neg hc]; exact k hc
theorem WR.ite {c : Prop} [Decidable c] {a b : R α} (h : c → WR a P E) (k : ¬ c → WR b P E) : WR (if c then a else b) P E := by
  by_cases hc : c
  · rw [if_pos hc]; exact h hc
  · rw [if_neg hc]; exact k hc
theorem WF.for {body : α → σ' → FT σ' σ' τ} (I : Nat → σ' → Prop) {xs : List α} {s : σ'} (h0 : I 0 s) (hs : ∀ i x s, xs[i]? = some x → I i s → WF (body x s) (I (i + 1)) (I (i + 1)) Q E) : WF (forT body xs s : FT σ' κ τ) (I xs.length) C Q E := by
  have key : ∀ (xs : List α) (k : Nat) (s : σ'), I k s → (∀ i x s, xs[i]? = some x → I (k + i) s → WF (body x s) (I (k + i + 1)) (I (k + i + 1)) Q E) → WF (forT body xs s : FT σ' κ τ) (I (k + xs.length)) C Q E := by
    intro xs
    induction xs with
    | nil => intro k s h _; exact h
    | cons x xs ih =>
      intro k s h hs
      have h1 := hs 0 x s rfl h
      have step : ∀ s', I (k + 1) s' → WF (forT body xs s' : FT σ' κ τ) (I (k + (x :: xs).length)) C Q E := fun s' h' => by
        rw [show k + (x :: xs).length = k + 1 + xs.length by simp; omega]
        refine ih (k + 1) s' h' fun i y t hi ht => ?_
        have := hs (i + 1) y t (by simpa using hi) (by rw [show k + (i + 1) = k + 1 + i by omega]; exact ht)
        rw [show k + (i + 1) + 1 = k + 1 + i + 1 by omega] at this
        exact this
      rw [forT_cons]
      cases q : body x s with
      | nx s' => rw [q] at h1; exact step s' h1
      | ct s' => rw [q] at h1; exact step s' h1
      | rt r => rw [q] at h1; exact h1
      | exc c r => rw [q] at h1; exact h1
      | stuck => rw [q] at h1; exact h1.elim
  have := key xs 0 s h0 fun i x s hx hI => by
    rw [Nat.zero_add] at hI ⊢
    exact hs i x s hx hI
  rw [Nat.zero_add] at this
  exact this
theorem WF.forI {body : α → σ' → FT σ' σ' τ} (I : σ' → Prop) {xs : List α} {s : σ'} (h0 : I s) (hs : ∀ x ∈ xs, ∀ s, I s → WF (body x s) I I Q E) : WF (forT body xs s : FT σ' κ τ) I C Q E :=
  WF.for (fun _ => I) h0 fun _ x s hx hI => hs x (List.mem_of_getElem? hx) s hI
/-- a loop that ends at the first item that fails -/
theorem WF.chk {body : α → σ' → FT σ' σ' τ} {xs : List α} {s : σ'} {N' : σ' → Prop} (p : α → Bool) {d : τ} (h1 : ∀ x ∈ xs, p x = true → body x s = .nx s) (h2 : ∀ x ∈ xs, p x = false → body x s = .rt d) (hN : xs.all p = true → N' s) (hQ : xs.all p = false → Q d) : WF (forT body xs s : FT σ' κ τ) N' C Q E := by
  have : (forT body xs s : FT σ' κ τ) = if xs.all p then .nx s else .rt d := forT_chk fun x hx => by
    cases q : p x with
    | true => rw [h1 x hx q]; simp
    | false => rw [h2 x hx q]; simp
  rw [this]
  cases q : xs.all p with
  | true => exact hN q
  | false => exact hQ q
theorem rng_get {n i : Nat} {x : Int} (h : ((List.range n).map fun (k : Nat) => (k : Int))[i]? = some x) : i < n ∧ x = i := by
  rw [List.getElem?_map, Option.map_eq_some_iff] at h
  obtain ⟨j, h1, rfl⟩ := h
  have hi : i < n := by
    have := (List.getElem?_eq_some_iff.mp h1).1
    simpa using this
  rw [List.getElem?_range hi] at h1
  cases h1
  exact ⟨hi, rfl⟩
theorem WF.rng {body : Int → σ' → FT σ' σ' τ} (I : Nat → σ' → Prop) {n : Nat} {s : σ'} (h0 : I 0 s) (hs : ∀ i s, i < n → I i s → WF (body (i : Int) s) (I (i + 1)) (I (i + 1)) Q E) : WF (forT body ((List.range n).map fun (k : Nat) => (k : Int)) s : FT σ' κ τ) (I n) C Q E := by
  have := WF.for (κ := κ) (C := C) (Q := Q) (E := E) (body := body) I (xs := (List.range n).map fun (k : Nat) => (k : Int)) h0 fun i x s hx hI => by
    obtain ⟨h1, rfl⟩ := rng_get hx
    exact hs i s h1 hI
  rw [List.length_map, List.length_range] at this
  exact this
/-- what each item tells -/
def Each (P : α → β → Prop) (xs : List α) (ys : List β) : Prop := ys.length = xs.length ∧ ∀ (i : Nat) x y, xs[i]? = some x → ys[i]? = some y → P x y
theorem Each.mem {P : α → β → Prop} {xs : List α} {ys : List β} (h : Each P xs ys) {y : β} (hy : y ∈ ys) : ∃ x ∈ xs, P x y := by
  obtain ⟨i, hi, e⟩ := List.mem_iff_getElem.mp hy
  have hx : i < xs.length := by rw [← h.1]; exact hi
  exact ⟨xs[i], List.getElem_mem hx, h.2 i _ y (List.getElem?_eq_getElem hx) (by rw [List.getElem?_eq_getElem hi, e])⟩
theorem Each.of {P : α → β → Prop} {xs : List α} {ys : List β} (h : Each P xs ys) {x : α} (hx : x ∈ xs) : ∃ y ∈ ys, P x y := by
  obtain ⟨i, hi, e⟩ := List.mem_iff_getElem.mp hx
  have hy : i < ys.length := by rw [h.1]; exact hi
  exact ⟨ys[i], List.getElem_mem hy, h.2 i x _ (by rw [List.getElem?_eq_getElem hi, e]) (List.getElem?_eq_getElem hy)⟩
theorem WR.mapC {f : α → R β} {P : α → β → Prop} {xs : List α} (h : ∀ x ∈ xs, WR (f x) (P x) noE) (hl : xs.length ≤ 16777216) : WR (mapC f xs) (Each P xs) E := by
  obtain ⟨ys, h1, h2, h3⟩ := mapC_ex (f := f) (P := P) (fun x hx => (h x hx).ex) hl
  exact WR.mk h1 ⟨h2, h3⟩
end
/-! dicts of rows -/
theorem lookT_row (r : Row) (t : Int) : lookT t r = wOf r t := by
  unfold wOf
  induction r with
  | nil => rfl
  | cons p r ih =>
    obtain ⟨a, b⟩ := p
    simp only [lookT, List.find?_cons]
    by_cases e : a = t
    · simp [e]
    · simp [e, ih]
theorem putT_new {κ α : Type} [DecidableEq κ] {k : κ} {d : α} {kvs : List (κ × α)} (h : ∀ p ∈ kvs, p.1 ≠ k) : putT k d kvs = kvs ++ [(k, d)] := by
  unfold putT
  rw [if_neg]
  intro q
  rw [List.any_eq_true] at q
  obtain ⟨p, hp, e⟩ := q
  exact h p hp (of_decide_eq_true e)
theorem putAllT_row {κ α : Type} [DecidableEq κ] : ∀ (r acc : List (κ × α)), ((acc ++ r).map (·.1)).Nodup → putAllT acc r = acc ++ r
  | [], acc, _ => by simp [putAllT]
  | p :: r, acc, h => by
    show putAllT (putT p.1 p.2 acc) r = _
    rw [putT_new, putAllT_row r (acc ++ [(p.1, p.2)]) (by simpa using h)]
    · simp
    · intro q hq e
      rw [List.map_append, List.nodup_append] at h
      exact h.2.2 q.1 (List.mem_map_of_mem hq) p.1 (by simp) e
theorem dictT_row {r : Row} (h0 : r ≠ []) (h : keysUp r) (hl : r.length ≤ 1000000) : dictT r = .ok r := by
  unfold dictT lineN
  rw [if_pos ⟨by omega, h0⟩, putAllT_row r [] (by simpa using nodup_up h)]; rfl
/-! greatest and least -/
theorem maxI_eq {xs : List Int} {m : Int} (h1 : m ∈ xs) (h2 : ∀ x ∈ xs, x ≤ m) : maxI xs = m := by
  have hs := maxI_spec (xs := xs) (by intro e; rw [e] at h1; simp at h1)
  have := h2 _ hs.1
  have := hs.2 m h1
  omega
theorem minI_eq {xs : List Int} {m : Int} (h1 : m ∈ xs) (h2 : ∀ x ∈ xs, m ≤ x) : minI xs = m := by
  have hs := minI_spec (xs := xs) (by intro e; rw [e] at h1; simp at h1)
  have := h2 _ hs.1
  have := hs.2 m h1
  omega
theorem maxI_le {xs : List Int} {m : Int} (h : xs ≠ []) : maxI xs ≤ m ↔ ∀ x ∈ xs, x ≤ m := by
  obtain ⟨h1, h2⟩ := maxI_spec h
  exact ⟨fun q x hx => Int.le_trans (h2 x hx) q, fun q => q _ h1⟩
theorem le_minI {xs : List Int} {m : Int} (h : xs ≠ []) : m ≤ minI xs ↔ ∀ x ∈ xs, m ≤ x := by
  obtain ⟨h1, h2⟩ := minI_spec h
  exact ⟨fun q x hx => Int.le_trans q (h2 x hx), fun q => q _ h1⟩
/-! rows at hours -/
def val (hours : List Int) (p : Int × Int) : Int := hours.getD p.1.toNat 0 + p.2
def hourOf (row : Row) (hours : List Int) : Int := maxI (row.map (val hours))
def comes (form : List Row) (hours : List Int) : Int := minI (form.map fun r => hourOf r hours)
/-- a row over the things below T -/
structure RowIn (T : Nat) (r : Row) : Prop where
  ne : r ≠ []
  up : keysUp r
  at_ : ∀ p ∈ r, 0 ≤ p.1 ∧ p.1 < T
theorem RowIn.nd {T : Nat} {r : Row} (h : RowIn T r) : (r.map (·.1)).Nodup := nodup_up h.up
theorem up_len : ∀ (r : Row) (a T : Int), keysUp r → (∀ p ∈ r, a ≤ p.1 ∧ p.1 < T) → (r.length : Int) ≤ max 0 (T - a)
  | [], _, _, _, _ => by simp; omega
  | p :: r, a, T, h, k => by
    unfold keysUp at h
    rw [List.map_cons, List.pairwise_cons] at h
    have hp := k p List.mem_cons_self
    have := up_len r (p.1 + 1) T h.2 fun q hq => by
      have h1 := h.1 q.1 (List.mem_map_of_mem hq)
      have h2 := k q (List.mem_cons_of_mem _ hq)
      omega
    rw [List.length_cons]
    omega
theorem RowIn.len {T : Nat} {r : Row} (h : RowIn T r) : r.length ≤ T := by
  have := up_len r 0 T h.up h.at_
  omega
theorem RowIn.dict {T : Nat} {r : Row} (h : RowIn T r) (hT : T ≤ 1000000) : dictT r = .ok r := dictT_row h.ne h.up (by have := h.len; omega)
theorem RowIn.mono {T T' : Nat} {r : Row} (h : RowIn T r) (k : T ≤ T') : RowIn T' r := ⟨h.ne, h.up, fun p hp => by have := h.at_ p hp; omega⟩
theorem val_at {T : Nat} {r : Row} {hours : List Int} (h : RowIn T r) (hl : T ≤ hours.length) {p : Int × Int} (hp : p ∈ r) : idxR hours p.1 = .ok (hours.getD p.1.toNat 0) := idxR_D (h.at_ p hp).1 (by have := h.at_ p hp; omega)
theorem hourOf_spec {r : Row} (h : r ≠ []) (hours : List Int) : (∃ p ∈ r, hourOf r hours = val hours p) ∧ ∀ p ∈ r, val hours p ≤ hourOf r hours := by
  have hs := maxI_spec (xs := r.map (val hours)) (by simpa using h)
  obtain ⟨p, hp, e⟩ := List.mem_map.mp hs.1
  exact ⟨⟨p, hp, e.symm⟩, fun q hq => hs.2 _ (List.mem_map_of_mem hq)⟩
theorem hourOf_le {r : Row} (h : r ≠ []) {hours : List Int} {m : Int} : hourOf r hours ≤ m ↔ ∀ p ∈ r, val hours p ≤ m := by
  obtain ⟨⟨p, hp, e⟩, h2⟩ := hourOf_spec h hours
  exact ⟨fun q x hx => Int.le_trans (h2 x hx) q, fun q => by rw [e]; exact q p hp⟩
theorem comes_spec {f : List Row} (h : f ≠ []) (hours : List Int) : (∃ r ∈ f, comes f hours = hourOf r hours) ∧ ∀ r ∈ f, comes f hours ≤ hourOf r hours := by
  have hs := minI_spec (xs := f.map fun r => hourOf r hours) (by simpa using h)
  obtain ⟨p, hp, e⟩ := List.mem_map.mp hs.1
  exact ⟨⟨p, hp, e.symm⟩, fun q hq => hs.2 _ (List.mem_map_of_mem (f := fun r => hourOf r hours) hq)⟩
theorem le_comes {f : List Row} (h : f ≠ []) {hours : List Int} {m : Int} : m ≤ comes f hours ↔ ∀ r ∈ f, m ≤ hourOf r hours := by
  obtain ⟨⟨p, hp, e⟩, h2⟩ := comes_spec h hours
  exact ⟨fun q x hx => Int.le_trans q (h2 x hx), fun q => by rw [e]; exact q p hp⟩
/-- rows that only differ in the hours of others -/
theorem hourOf_congr {r : Row} {h1 h2 : List Int} (h : ∀ p ∈ r, h1.getD p.1.toNat 0 = h2.getD p.1.toNat 0) : hourOf r h1 = hourOf r h2 := by
  unfold hourOf
  congr 1
  apply List.map_congr_left
  intro p hp
  unfold val
  rw [h p hp]
/-- the maximum as the loops build it -/
def optMax (o : Option Int) (v : Int) : Option Int := match o with
  | none => some v
  | some a => some (max a v)
theorem optMax_fold : ∀ (xs : List Int) (a : Int), xs.foldl optMax (some a) = some (xs.foldl max a)
  | [], a => rfl
  | x :: xs, a => by rw [List.foldl_cons, List.foldl_cons]; exact optMax_fold xs (max a x)
theorem optMax_none {xs : List Int} (h : xs ≠ []) : xs.foldl optMax none = some (maxI xs) := by
  obtain ⟨x, r, rfl⟩ := List.exists_cons_of_ne_nil h
  rw [List.foldl_cons]
  exact optMax_fold r x
/-- forms: lists of rows over the things below T, risen and none beneath another -/
structure FormIn (T : Nat) (f : List Row) : Prop where
  ne : f ≠ []
  rows : ∀ r ∈ f, RowIn T r
  len : f.length ≤ 100000
end Mi

/-! Mi, part V: sorting; rows under rows; thinned lists. -/
namespace Mi
open PySem
/-- rows as Python orders tuples -/
def rlt : Row → Row → Bool
  | [], [] => false
  | [], _ :: _ => true
  | _ :: _, [] => false
  | p :: a, q :: b => decide (p.1 < q.1) || (decide (p.1 = q.1) && (decide (p.2 < q.2) || (decide (p.2 = q.2) && rlt a b)))
theorem rlt_irrefl : ∀ a : Row, rlt a a = false
  | [] => rfl
  | p :: a => by simp [rlt, rlt_irrefl a]
theorem rlt_trans : ∀ {a b c : Row}, rlt a b = true → rlt b c = true → rlt a c = true
  | [], [], c, h, _ => by simp [rlt] at h
  | [], _ :: _, [], _, h => by simp [rlt] at h
  | [], _ :: _, _ :: _, _, _ => rfl
  | _ :: _, [], _, h, _ => by simp [rlt] at h
  | _ :: _, _ :: _, [], _, h => by simp [rlt] at h
  | p :: a, q :: b, r :: c, h, k => by
    have ih := @rlt_trans a b c
    simp only [rlt, Bool.or_eq_true, Bool.and_eq_true, decide_eq_true_eq] at h k ⊢
    rcases h with h | ⟨h1, h | ⟨h2, h⟩⟩ <;> rcases k with k | ⟨k1, k | ⟨k2, k⟩⟩
    · exact .inl (by omega)
    · exact .inl (by omega)
    · exact .inl (by omega)
    · exact .inl (by omega)
    · exact .inr ⟨by omega, .inl (by omega)⟩
    · exact .inr ⟨by omega, .inl (by omega)⟩
    · exact .inl (by omega)
    · exact .inr ⟨by omega, .inl (by omega)⟩
    · exact .inr ⟨by omega, .inr ⟨by omega, ih h k⟩⟩
theorem rlt_tri : ∀ a b : Row, rlt a b = true ∨ a = b ∨ rlt b a = true
  | [], [] => .inr (.inl rfl)
  | [], _ :: _ => .inl rfl
  | _ :: _, [] => .inr (.inr rfl)
  | p :: a, q :: b => by
    have ih := rlt_tri a b
    obtain ⟨p1, p2⟩ := p
    obtain ⟨q1, q2⟩ := q
    simp only [rlt, Bool.or_eq_true, Bool.and_eq_true, decide_eq_true_eq, List.cons.injEq, Prod.mk.injEq]
    rcases Int.lt_trichotomy p1 q1 with h | h | h
    · exact .inl (.inl h)
    · rcases Int.lt_trichotomy p2 q2 with k | k | k
      · exact .inl (.inr ⟨h, .inl k⟩)
      · rcases ih with ih | ih | ih
        · exact .inl (.inr ⟨h, .inr ⟨k, ih⟩⟩)
        · exact .inr (.inl ⟨⟨h, k⟩, ih⟩)
        · exact .inr (.inr (.inr ⟨h.symm, .inr ⟨k.symm, ih⟩⟩))
      · exact .inr (.inr (.inr ⟨h.symm, .inl k⟩))
    · exact .inr (.inr (.inl h))
def pyRow (r : Row) : List PyData := r.map fun p => .tuple [.int p.1, .int p.2]
theorem pys_row : ∀ r : Row, D.pys (r.map (eP D.int D.int)) = some (pyRow r)
  | [] => by simp [D.pys, pyRow]
  | p :: r => by
    rw [List.map_cons]
    simp only [D.pys, pys_row r, eP, D.py]
    simp [D.pys, D.py, pyRow]
theorem pyOf_row (r : Row) : pyOf (eT (eP D.int D.int) r) = .tuple (pyRow r) := by
  unfold pyOf eT
  simp [D.py, pys_row]
theorem py_row (r : Row) : (eT (eP D.int D.int) r).py = some (.tuple (pyRow r)) := by
  unfold eT
  simp [D.py, pys_row]
theorem alike_pair (p q : Int × Int) : PySem.W.alike (.tuple [.int p.1, .int p.2]) (.tuple [.int q.1, .int q.2]) = true := by simp [PySem.W.alike, PySem.W.alikeAll]
theorem alike_row : ∀ a b : Row, PySem.W.alikeAll (pyRow a) (pyRow b) = true
  | [], _ => by simp [pyRow, PySem.W.alikeAll]
  | _ :: _, [] => by simp [pyRow, PySem.W.alikeAll]
  | p :: a, q :: b => by
    have := alike_row a b
    unfold pyRow at this ⊢
    rw [List.map_cons, List.map_cons, PySem.W.alikeAll, alike_pair, this]; rfl
theorem lt_row : ∀ a b : Row, PySem.W.rowLt (pyRow a) (pyRow b) = rlt a b
  | [], [] => PySem.W.dataLt_ints [] []
  | [], q :: b => by
    show PyProof.Rows.lexLt PyProof.Rows.itemOrd (PySem.W.keyToksAll []) (PySem.W.keyToksAll (_ :: _)) = true
    simp only [PySem.W.keyToksAll]
    rfl
  | p :: a, [] => by
    show PyProof.Rows.lexLt PyProof.Rows.itemOrd (PySem.W.keyToksAll (_ :: _)) (PySem.W.keyToksAll []) = false
    simp only [PySem.W.keyToksAll]
    rfl
  | p :: a, q :: b => by
    have ih := lt_row a b
    show PyProof.Rows.lexLt PyProof.Rows.itemOrd (PySem.W.keyToksAll (_ :: pyRow a)) (PySem.W.keyToksAll (_ :: pyRow b)) = _
    rw [PySem.W.dataLt_cons (alike_pair p q), PySem.W.dataLt_ii]
    have e : PyProof.Rows.lexLt PyProof.Rows.itemOrd (PySem.W.keyToksAll (pyRow a)) (PySem.W.keyToksAll (pyRow b)) = rlt a b := ih
    rw [e]
    have e2 : PyData.eqv (.tuple [.int p.1, .int p.2]) (.tuple [.int q.1, .int q.2]) = decide (p.1 = q.1 ∧ p.2 = q.2) := by
      simp only [PyData.eqv, PyData.eqvAll, Bool.and_true]
      by_cases h1 : p.1 = q.1 <;> by_cases h2 : p.2 = q.2 <;> simp [h1, h2]
    rw [e2]
    simp only [rlt]
    by_cases h1 : p.1 = q.1 <;> by_cases h2 : p.2 = q.2 <;> simp [h1, h2]
theorem le_row (a b : Row) : PySem.W.dataLe false pyOf (eT (eP D.int D.int) a) (eT (eP D.int D.int) b) = !rlt b a := by
  show (!PySem.W.dataLt (pyOf _) (pyOf _)) = _
  rw [pyOf_row, pyOf_row, PySem.W.dataLt_tuple]
  exact congrArg _ (lt_row b a)
theorem depth_row (r : Row) : (PyData.tuple (pyRow r)).depth ≤ 2 := by
  obtain ⟨p, h1, _, h3⟩ := okR.py r
  have : (dR r).py = some (.tuple (pyRow r)) := py_row r
  rw [this] at h1
  cases h1
  exact h3
theorem sortOk_rows {xs : List Row} (h : ∀ r ∈ xs, r ≠ []) : sortOk (xs.map (eT (eP D.int D.int))) = true := by
  unfold sortOk
  rw [Bool.and_eq_true, Bool.and_eq_true, Bool.or_eq_true]
  refine ⟨⟨?_, ?_⟩, .inl ?_⟩
  · rw [List.all_map, List.all_eq_true]
    intro r _
    have h1 := py_row r
    have h2 := depth_row r
    have h3 : (PyData.tuple (pyRow r)).depth ≤ 64 := by omega
    show ((eT (eP D.int D.int) r).py.isSome && decide ((pyOf (eT (eP D.int D.int) r)).depth ≤ 64)) = true
    rw [pyOf_row, h1]
    simpa using h3
  · unfold alikeB
    rw [List.all_map, List.all_eq_true]
    intro a _
    show ((xs.map (eT (eP D.int D.int))).all fun y => PySem.W.alike (pyOf (eT (eP D.int D.int) a)) (pyOf y)) = true
    rw [List.all_map, List.all_eq_true]
    intro b _
    show PySem.W.alike (pyOf (eT (eP D.int D.int) a)) (pyOf (eT (eP D.int D.int) b)) = true
    rw [pyOf_row, pyOf_row, PySem.W.alike]
    exact alike_row a b
  · rw [List.all_map, List.all_eq_true]
    intro r hr
    show headTup (pyOf (eT (eP D.int D.int) r)) = true
    rw [pyOf_row]
    obtain ⟨p, q, rfl⟩ := List.exists_cons_of_ne_nil (h r hr)
    rfl
/-- the rows, rising -/
def srows (xs : List Row) : List Row := sortBy (eT (eP D.int D.int)) xs
theorem sortR_rows {xs : List Row} (h : ∀ r ∈ xs, r ≠ []) (hl : xs.length ≤ 16777216) : sortR (eT (eP D.int D.int)) xs = .ok (srows xs) := by
  unfold sortR lineN
  rw [if_pos]; · rfl
  rw [sortOk_rows h, decide_eq_true hl]; rfl
theorem srows_perm (xs : List Row) : (srows xs).Perm xs := List.mergeSort_perm _ _
theorem srows_mem {xs : List Row} {r : Row} : r ∈ srows xs ↔ r ∈ xs := (srows_perm xs).mem_iff
theorem srows_len (xs : List Row) : (srows xs).length = xs.length := (srows_perm xs).length_eq
theorem srows_le (xs : List Row) : (srows xs).Pairwise fun a b => rlt b a = false := by
  have h := List.pairwise_mergeSort (le := fun a b => PySem.W.dataLe false pyOf (eT (eP D.int D.int) a) (eT (eP D.int D.int) b)) (fun a b c h1 h2 => by
    simp only [le_row, Bool.not_eq_true'] at h1 h2 ⊢
    cases q : rlt c a with
    | false => rfl
    | true =>
      rcases rlt_tri b a with z | z | z
      · rw [z] at h1; cases h1
      · subst z; rw [q] at h2; cases h2
      · rw [rlt_trans q z] at h2; cases h2) (fun a b => by
    simp only [le_row]
    rcases rlt_tri a b with z | z | z
    · have : rlt b a = false := by
        cases q : rlt b a with
        | false => rfl
        | true => have := rlt_trans z q; rw [rlt_irrefl] at this; cases this
      simp [this]
    · subst z; simp [rlt_irrefl]
    · have : rlt a b = false := by
        cases q : rlt a b with
        | false => rfl
        | true => have := rlt_trans z q; rw [rlt_irrefl] at this; cases this
      simp [this]) xs
  exact h.imp fun h => by simpa [le_row] using h
/-- rising, each once -/
abbrev Rising (xs : List Row) : Prop := xs.Pairwise fun a b => rlt a b = true
theorem srows_rising {xs : List Row} (h : xs.Nodup) : Rising (srows xs) := by
  have h1 := srows_le xs
  have h2 : (srows xs).Nodup := (srows_perm xs).nodup_iff.mpr h
  refine (h1.and h2).imp fun {a b} ⟨x, y⟩ => ?_
  rcases rlt_tri a b with z | z | z
  · exact z
  · exact absurd z y
  · rw [z] at x; cases x
theorem Rising.nodup {xs : List Row} (h : Rising xs) : xs.Nodup := h.imp fun {a b} h e => by
  subst e; rw [rlt_irrefl] at h; cases h
theorem Rising.ext : ∀ {xs ys : List Row}, Rising xs → Rising ys → (∀ r, r ∈ xs ↔ r ∈ ys) → xs = ys
  | [], [], _, _, _ => rfl
  | [], y :: ys, _, _, h => by have := (h y).mpr List.mem_cons_self; simp at this
  | x :: xs, [], _, _, h => by have := (h x).mp List.mem_cons_self; simp at this
  | x :: xs, y :: ys, hx, hy, h => by
    have hx := List.pairwise_cons.mp hx
    have hy := List.pairwise_cons.mp hy
    have e : x = y := by
      have h1 := (h x).mp List.mem_cons_self
      have h2 := (h y).mpr List.mem_cons_self
      rcases List.mem_cons.mp h1 with h1 | h1
      · exact h1
      · rcases List.mem_cons.mp h2 with h2 | h2
        · exact h2.symm
        · have z := rlt_trans (hy.1 x h1) (hx.1 y h2)
          rw [rlt_irrefl] at z; cases z
    subst e
    congr 1
    refine Rising.ext hx.2 hy.2 fun r => ⟨fun hr => ?_, fun hr => ?_⟩
    · rcases List.mem_cons.mp ((h r).mp (List.mem_cons_of_mem _ hr)) with z | z
      · subst z; have := hx.1 r hr; rw [rlt_irrefl] at this; cases this
      · exact z
    · rcases List.mem_cons.mp ((h r).mpr (List.mem_cons_of_mem _ hr)) with z | z
      · subst z; have := hy.1 r hr; rw [rlt_irrefl] at this; cases this
      · exact z
theorem srows_of {xs : List Row} (h : Rising xs) : srows xs = xs := by
  have h1 := srows_rising (Rising.nodup h)
  exact Rising.ext h1 h fun r => srows_mem
/-! ### rows under rows -/
def under (row other : Row) : Bool := row.all fun p => match wOf other p.1 with | none => false | some v => decide (p.2 ≤ v)
theorem under_iff {a b : Row} : under a b = true ↔ ∀ p ∈ a, ∃ v, wOf b p.1 = some v ∧ p.2 ≤ v := by
  unfold under
  rw [List.all_eq_true]
  refine ⟨fun h p hp => ?_, fun h p hp => ?_⟩
  · have := h p hp
    cases q : wOf b p.1 with
    | none => rw [q] at this; cases this
    | some v => rw [q] at this; exact ⟨v, rfl, of_decide_eq_true this⟩
  · obtain ⟨v, h1, h2⟩ := h p hp
    rw [h1]; exact decide_eq_true h2
theorem under_refl {a : Row} (h : keysUp a) : under a a = true := under_iff.mpr fun p hp => ⟨p.2, wOf_of h hp, Int.le_refl _⟩
theorem under_trans {a b c : Row} (h1 : under a b = true) (h2 : under b c = true) : under a c = true := by
  rw [under_iff] at h1 h2 ⊢
  intro p hp
  obtain ⟨v, k1, k2⟩ := h1 p hp
  obtain ⟨w, l1, l2⟩ := h2 (p.1, v) (wOf_mem k1)
  exact ⟨w, l1, by simp only at l2; omega⟩
/-- rows by their waits -/
theorem row_ext : ∀ {a b : Row}, keysUp a → keysUp b → (∀ t, wOf a t = wOf b t) → a = b
  | [], [], _, _, _ => rfl
  | [], q :: b, _, hb, h => by
    have := h q.1
    rw [wOf_of hb List.mem_cons_self] at this
    simp [wOf] at this
  | p :: a, [], ha, _, h => by
    have := h p.1
    rw [wOf_of ha List.mem_cons_self] at this
    simp [wOf] at this
  | p :: a, q :: b, ha, hb, h => by
    have ha' := ha
    have hb' := hb
    unfold keysUp at ha' hb'
    rw [List.map_cons, List.pairwise_cons] at ha' hb'
    have e : p = q := by
      have h1 := h p.1
      have h2 := h q.1
      rw [wOf_of ha List.mem_cons_self] at h1
      rw [wOf_of hb List.mem_cons_self] at h2
      have m1 := wOf_mem h1.symm
      have m2 := wOf_mem h2
      rcases List.mem_cons.mp m1 with m1 | m1
      · exact m1
      · rcases List.mem_cons.mp m2 with m2 | m2
        · exact m2.symm
        · have := hb'.1 p.1 (List.mem_map_of_mem (f := (·.1)) m1)
          have := ha'.1 q.1 (List.mem_map_of_mem (f := (·.1)) m2)
          omega
    subst e
    congr 1
    refine row_ext ha'.2 hb'.2 fun t => ?_
    have := h t
    by_cases c : p.1 = t
    · subst c
      have n1 : wOf a p.1 = none := by
        cases q : wOf a p.1 with
        | none => rfl
        | some v => have := ha'.1 p.1 (List.mem_map_of_mem (f := (·.1)) (wOf_mem q)); omega
      have n2 : wOf b p.1 = none := by
        cases q : wOf b p.1 with
        | none => rfl
        | some v => have := hb'.1 p.1 (List.mem_map_of_mem (f := (·.1)) (wOf_mem q)); omega
      rw [n1, n2]
    · simpa [wOf, List.find?_cons, c] using this
theorem under_anti {a b : Row} (ha : keysUp a) (hb : keysUp b) (h1 : under a b = true) (h2 : under b a = true) : a = b := by
  refine row_ext ha hb fun t => ?_
  rw [under_iff] at h1 h2
  cases q : wOf a t with
  | none =>
    cases r : wOf b t with
    | none => rfl
    | some v =>
      obtain ⟨w, k1, _⟩ := h2 (t, v) (wOf_mem r)
      rw [q] at k1; cases k1
  | some u =>
    obtain ⟨v, k1, k2⟩ := h1 (t, u) (wOf_mem q)
    obtain ⟨w, l1, l2⟩ := h2 (t, v) (wOf_mem k1)
    simp only at k1 k2 l1 l2
    rw [q] at l1
    cases l1
    rw [k1]
    congr 1; omega
theorem hour_le {one other : Row} (h0 : one ≠ []) (hub : under one other = true) (hours : List Int) : hourOf one hours ≤ hourOf other hours := by
  obtain ⟨⟨p, hp, e⟩, _⟩ := hourOf_spec h0 hours
  obtain ⟨v, h1, h2⟩ := under_iff.mp hub p hp
  have hm := wOf_mem h1
  have := (hourOf_spec (r := other) (by intro z; rw [z] at hm; simp at hm) hours).2 _ hm
  rw [e]
  unfold val at this ⊢
  simp only at this
  omega
/-! ### thinned lists -/
/-- f is the thinned list of rows -/
structure Thin (rows f : List Row) : Prop where
  rise : Rising f
  mem : ∀ r, r ∈ f ↔ r ∈ rows ∧ ∀ o ∈ rows, o ≠ r → under o r = false
theorem Thin.uniq {rows f g : List Row} (h : Thin rows f) (k : Thin rows g) : f = g := Rising.ext h.rise k.rise fun r => by rw [h.mem, k.mem]
theorem Thin.congr {rows rows' f : List Row} (h : Thin rows f) (k : ∀ r, r ∈ rows ↔ r ∈ rows') : Thin rows' f := ⟨h.rise, fun r => by
  rw [h.mem, k]
  exact ⟨fun ⟨a, b⟩ => ⟨a, fun o ho => b o ((k o).mpr ho)⟩, fun ⟨a, b⟩ => ⟨a, fun o ho => b o ((k o).mp ho)⟩⟩⟩
/-- below each row of a list lies a least one -/
theorem least_below {rows : List Row} (hup : ∀ r ∈ rows, keysUp r) : ∀ (n : Nat) (r : Row), r ∈ rows → (rows.filter fun o => under o r && !decide (o = r)).length ≤ n → ∃ m ∈ rows, under m r = true ∧ ∀ o ∈ rows, o ≠ m → under o m = false
  | n, r, hr, hn => by
    by_cases c : ∀ o ∈ rows, o ≠ r → under o r = false
    · exact ⟨r, hr, under_refl (hup r hr), c⟩
    · have : ∃ o, o ∈ rows ∧ o ≠ r ∧ under o r = true := by
        apply Classical.byContradiction
        intro h
        apply c
        intro o ho hne
        cases q : under o r with
        | false => rfl
        | true => exact absurd ⟨o, ho, hne, q⟩ h
      obtain ⟨o, ho, hne, hu⟩ := this
      cases n with
      | zero =>
        have : o ∈ rows.filter fun o => under o r && !decide (o = r) := List.mem_filter.mpr ⟨ho, by simp [hu, hne]⟩
        rw [List.length_eq_zero_iff.mp (Nat.le_zero.mp hn)] at this
        simp at this
      | succ n =>
        have hlt : (rows.filter fun q => under q o && !decide (q = o)).length < (rows.filter fun o => under o r && !decide (o = r)).length := by
          have e : (rows.filter fun q => under q o && !decide (q = o)) = ((rows.filter fun o => under o r && !decide (o = r)).filter fun q => under q o && !decide (q = o)) := by
            rw [List.filter_filter]
            apply List.filter_congr
            intro q hq
            by_cases h1 : under q o = true ∧ q ≠ o
            · have h2 := under_trans h1.1 hu
              have h3 : q ≠ r := fun e => by
                subst e
                exact h1.2 (under_anti (hup q hq) (hup o ho) h1.1 hu)
              simp [h1.1, h1.2, h2, h3]
            · by_cases h2 : under q o = true
              · have : q = o := Classical.byContradiction fun h => h1 ⟨h2, h⟩
                simp [this]
              · have h2 : under q o = false := by simpa using h2
                simp [h2]
          rw [e]
          have hmem : o ∈ rows.filter fun o => under o r && !decide (o = r) := List.mem_filter.mpr ⟨ho, by simp [hu, hne]⟩
          refine Nat.lt_of_le_of_ne (List.length_filter_le _ _) fun h => ?_
          have := List.length_filter_eq_length_iff.mp h o hmem
          simp at this
        obtain ⟨m, h1, h2, h3⟩ := least_below hup n o ho (by omega)
        exact ⟨m, h1, under_trans h2 hu, h3⟩
theorem Thin.below {rows f : List Row} (h : Thin rows f) (hup : ∀ r ∈ rows, keysUp r) {r : Row} (hr : r ∈ rows) : ∃ m ∈ f, under m r = true := by
  obtain ⟨m, h1, h2, h3⟩ := least_below hup _ r hr (Nat.le_refl _)
  exact ⟨m, (h.mem m).mpr ⟨h1, h3⟩, h2⟩
theorem Thin.ne {rows f : List Row} (h : Thin rows f) (hup : ∀ r ∈ rows, keysUp r) (h0 : rows ≠ []) : f ≠ [] := by
  obtain ⟨r, s, rfl⟩ := List.exists_cons_of_ne_nil h0
  obtain ⟨m, h1, _⟩ := h.below hup (r := r) List.mem_cons_self
  intro e; rw [e] at h1; simp at h1
theorem Thin.sub {rows f : List Row} (h : Thin rows f) {r : Row} (hr : r ∈ f) : r ∈ rows := ((h.mem r).mp hr).1
theorem Thin.len {rows f : List Row} (h : Thin rows f) : f.length ≤ rows.length := List.Nodup.length_le_of_subset (Rising.nodup h.rise) fun r hr => h.sub hr
/-- the thinned list comes as the list does -/
theorem Thin.comes {rows f : List Row} (h : Thin rows f) (hup : ∀ r ∈ rows, keysUp r) (hne : ∀ r ∈ rows, r ≠ []) (h0 : rows ≠ []) (hours : List Int) : Mi.comes f hours = Mi.comes rows hours := by
  have h1 := h.ne hup h0
  apply Int.le_antisymm
  · rw [le_comes h0]
    intro r hr
    obtain ⟨m, hm, hu⟩ := h.below hup hr
    exact Int.le_trans ((comes_spec h1 hours).2 m hm) (hour_le (hne m (h.sub hm)) hu hours)
  · rw [le_comes h1]
    intro r hr
    exact (comes_spec h0 hours).2 r (h.sub hr)
/-- as two of the texts thin: the least ones each once, sorted -/
theorem Thin.of_first {rows least : List Row} (h1 : ∀ r, r ∈ least ↔ r ∈ rows ∧ ∀ o ∈ rows, o ≠ r → under o r = false) (h2 : least.Nodup) : Thin rows (srows least) := ⟨srows_rising h2, fun r => by rw [srows_mem, h1]⟩
/-! ### forms -/
structure Form (T : Nat) (f : List Row) : Prop where
  ne : f ≠ []
  rows : ∀ r ∈ f, RowIn T r
  thin : Thin f f
  len : f.length ≤ 100000
theorem Thin.self {rows f : List Row} (h : Thin rows f) : Thin f f := ⟨h.rise, fun r => ⟨fun hr => ⟨hr, fun o ho hne => ((h.mem r).mp hr).2 o (h.sub ho) hne⟩, fun hr => hr.1⟩⟩
theorem Thin.one (r : Row) : Thin [r] [r] := ⟨by simp, fun o => ⟨fun h => ⟨h, fun q hq hne => by
  have h1 : o = r := by simpa using h
  have h2 : q = r := by simpa using hq
  rw [h1] at hne; exact absurd h2 hne⟩, fun h => h.1⟩⟩
theorem Form.one {T : Nat} {r : Row} (h : RowIn T r) : Form T [r] := by
  refine ⟨by simp, fun o ho => ?_, Thin.one r, by simp⟩
  have : o = r := by simpa using ho
  rw [this]; exact h
theorem Form.of_thin {T : Nat} {rows f : List Row} (h : Thin rows f) (hr : ∀ r ∈ rows, RowIn T r) (hl : rows.length ≤ 100000) (h0 : f ≠ []) : Form T f := ⟨h0, fun r hr' => hr r (h.sub hr'), h.self, Nat.le_trans h.len hl⟩
/-! every c-th item -/
theorem every_mem {α : Type} {c : Nat} {xs : List α} {x : α} (h : x ∈ everyL c xs) : x ∈ xs := by
  unfold everyL at h
  rw [List.mem_filterMap] at h
  obtain ⟨m, _, h⟩ := h
  exact List.mem_of_getElem? h
theorem every_len {α : Type} {c : Nat} {xs : List α} (hc : 0 < c) : (everyL c xs).length ≤ xs.length := by
  unfold everyL
  refine Nat.le_trans (List.length_filterMap_le _ _) ?_
  rw [List.length_range]
  cases xs with
  | nil =>
    rw [Nat.div_eq_of_lt (by simp; omega)]; simp
  | cons x xs =>
    have : ((x :: xs).length + (c - 1)) / c ≤ ((x :: xs).length * c) / c := by
      apply Nat.div_le_div_right
      have h1 : 1 ≤ (x :: xs).length := by simp
      obtain ⟨k, hk⟩ := Nat.exists_eq_add_of_le h1
      obtain ⟨d, hd⟩ := Nat.exists_eq_add_of_le (show 1 ≤ c from hc)
      rw [hk, hd, Nat.add_mul, Nat.one_mul, Nat.mul_add]
      have := Nat.zero_le (k * d)
      omega
    rwa [Nat.mul_div_cancel _ hc] at this
theorem stepR_ok {α : Type} {xs : List α} {l c : Int} (h1 : 0 < c) (h2 : 0 ≤ l) (h3 : c < 1073741824) (h4 : l < 1073741824) : stepR xs l c = .ok (everyL c.toNat (xs.drop l.toNat)) := by
  unfold stepR
  rw [if_pos]
  simp [h1, h2, h3, h4]
theorem step_mem {α : Type} {xs : List α} {l c : Nat} {x : α} (h : x ∈ everyL c (xs.drop l)) : x ∈ xs := List.mem_of_mem_drop (every_mem h)
theorem step_len {α : Type} {xs : List α} {l c : Nat} (hc : 0 < c) : (everyL c (xs.drop l)).length ≤ xs.length := Nat.le_trans (every_len hc) (by rw [List.length_drop]; omega)
end Mi

/-! Mi, part W: sets of things as rising tuples; sorting in general. -/
namespace Mi
open PySem
section
variable {α : Type}
def leE (e : α → D) (a b : α) : Bool := PySem.W.dataLe false pyOf (e a) (e b)
theorem leE_total (e : α → D) : PySem.W.TotalLe (leE e) :=
  ⟨fun a b c h1 h2 => (PySem.W.sortLe_total (PyProof.Rows.listOrd PyProof.Rows.itemOrd) false fun d => PySem.W.keyToks (pyOf d)).trans (e a) (e b) (e c) h1 h2,
   fun a b => (PySem.W.sortLe_total (PyProof.Rows.listOrd PyProof.Rows.itemOrd) false fun d => PySem.W.keyToks (pyOf d)).total (e a) (e b)⟩
theorem sortBy_perm (e : α → D) (xs : List α) : (sortBy e xs).Perm xs := List.mergeSort_perm _ _
theorem sortBy_mem {e : α → D} {xs : List α} {a : α} : a ∈ sortBy e xs ↔ a ∈ xs := (sortBy_perm e xs).mem_iff
theorem sortBy_le (e : α → D) (xs : List α) : (sortBy e xs).Pairwise fun a b => leE e a b = true :=
  List.pairwise_mergeSort (le := leE e) (fun a b c h1 h2 => (leE_total e).trans a b c h1 h2) (fun a b => by
    have := (leE_total e).total a b
    simpa using this) xs
theorem le_ext {le : α → α → Bool} (ht : ∀ a b c, le a b = true → le b c = true → le a c = true) (anti : ∀ a b, le a b = true → le b a = true → a = b) : ∀ {xs ys : List α}, xs.Pairwise (fun a b => le a b = true) → ys.Pairwise (fun a b => le a b = true) → xs.Nodup → ys.Nodup → (∀ a, a ∈ xs ↔ a ∈ ys) → xs = ys
  | [], [], _, _, _, _, _ => rfl
  | [], y :: ys, _, _, _, _, h => by have := (h y).mpr List.mem_cons_self; simp at this
  | x :: xs, [], _, _, _, _, h => by have := (h x).mp List.mem_cons_self; simp at this
  | x :: xs, y :: ys, hx, hy, nx, ny, h => by
    have hx := List.pairwise_cons.mp hx
    have hy := List.pairwise_cons.mp hy
    have nx := List.nodup_cons.mp nx
    have ny := List.nodup_cons.mp ny
    have e : x = y := by
      rcases List.mem_cons.mp ((h x).mp List.mem_cons_self) with h1 | h1
      · exact h1
      · rcases List.mem_cons.mp ((h y).mpr List.mem_cons_self) with h2 | h2
        · exact h2.symm
        · exact anti x y (hx.1 y h2) (hy.1 x h1)
    subst e
    congr 1
    refine le_ext ht anti hx.2 hy.2 nx.2 ny.2 fun a => ⟨fun ha => ?_, fun ha => ?_⟩
    · rcases List.mem_cons.mp ((h a).mp (List.mem_cons_of_mem _ ha)) with z | z
      · subst z; exact absurd ha nx.1
      · exact z
    · rcases List.mem_cons.mp ((h a).mpr (List.mem_cons_of_mem _ ha)) with z | z
      · subst z; exact absurd ha ny.1
      · exact z
theorem sortBy_ext {e : α → D} (anti : ∀ a b, leE e a b = true → leE e b a = true → a = b) {xs ys : List α} (nx : xs.Nodup) (ny : ys.Nodup) (h : ∀ a, a ∈ xs ↔ a ∈ ys) : sortBy e xs = sortBy e ys :=
  le_ext (leE_total e).trans anti (sortBy_le e xs) (sortBy_le e ys) ((sortBy_perm e xs).nodup_iff.mpr nx) ((sortBy_perm e ys).nodup_iff.mpr ny) fun a => by rw [sortBy_mem, sortBy_mem, h]
end
/-! whole numbers -/
theorem leE_int (a b : Int) : leE D.int a b = decide (a ≤ b) := by
  have := congrFun (congrFun (PySem.W.dataLe_int (β := Int) id) a) b
  have e : ∀ x : Int, pyOf (D.int x) = .int x := fun x => by simp [pyOf, D.py]
  unfold leE PySem.W.dataLe at *
  simpa [e, PySem.W.sortLe] using this
theorem anti_int (a b : Int) (h1 : leE D.int a b = true) (h2 : leE D.int b a = true) : a = b := by
  rw [leE_int, decide_eq_true_eq] at h1 h2
  omega
theorem sortOk_ints (xs : List Int) : sortOk (xs.map D.int) = true := by
  have e : ∀ x : Int, pyOf (D.int x) = .int x := fun x => by simp [pyOf, D.py]
  unfold sortOk alikeB
  rw [Bool.and_eq_true, Bool.and_eq_true, Bool.or_eq_true]
  refine ⟨⟨?_, ?_⟩, .inr ?_⟩
  · rw [List.all_map, List.all_eq_true]; intro x _; simp [D.py, e, PyData.depth]
  · rw [List.all_map, List.all_eq_true]
    intro x _
    show ((xs.map D.int).all fun y => PySem.W.alike (pyOf (D.int x)) (pyOf y)) = true
    rw [List.all_map, List.all_eq_true]
    intro y _
    show PySem.W.alike (pyOf (D.int x)) (pyOf (D.int y)) = true
    rw [e, e]; simp [PySem.W.alike]
  · rw [List.all_map, List.all_eq_true]; intro x _
    show noTup (pyOf (D.int x)) = true
    rw [e]; rfl
theorem sortR_ints {xs : List Int} (hl : xs.length ≤ 16777216) : sortR D.int xs = .ok (sortBy D.int xs) := by
  unfold sortR lineN
  rw [if_pos]; rw [sortOk_ints, decide_eq_true hl]; rfl
/-! tuples of whole numbers -/
theorem pys_ints : ∀ r : List Int, D.pys (r.map D.int) = some (r.map PyData.int)
  | [] => by simp [D.pys]
  | p :: r => by
    rw [List.map_cons]
    simp only [D.pys, pys_ints r, D.py]
    simp
theorem pyOf_ints (r : List Int) : pyOf (eT D.int r) = .tuple (r.map PyData.int) := by
  unfold pyOf eT
  simp [D.py, pys_ints]
theorem leE_ints (a b : List Int) : leE (eT D.int) a b = !decide (b < a) := by
  show (!PySem.W.dataLt (pyOf _) (pyOf _)) = _
  rw [pyOf_ints, pyOf_ints, PySem.W.dataLt_tuple]
  exact congrArg _ (PySem.W.dataLt_ints b a)
theorem anti_ints (a b : List Int) (h1 : leE (eT D.int) a b = true) (h2 : leE (eT D.int) b a = true) : a = b := by
  rw [leE_ints, Bool.not_eq_true', decide_eq_false_iff_not] at h1 h2
  exact List.le_antisymm (List.not_lt.mp h1) (List.not_lt.mp h2)
theorem sortOk_tups {xs : List (List Int)} (h : ∀ r ∈ xs, r ≠ []) : sortOk (xs.map (eT D.int)) = true := by
  unfold sortOk alikeB
  rw [Bool.and_eq_true, Bool.and_eq_true, Bool.or_eq_true]
  refine ⟨⟨?_, ?_⟩, .inl ?_⟩
  · rw [List.all_map, List.all_eq_true]
    intro r _
    have h1 : (eT D.int r).py = some (.tuple (r.map PyData.int)) := by unfold eT; simp [D.py, pys_ints]
    have h2 : (PyData.tuple (r.map PyData.int)).depth ≤ 64 := by
      simp only [PyData.depth]
      rw [PySem.W.depth_ints]; decide
    show ((eT D.int r).py.isSome && decide ((pyOf (eT D.int r)).depth ≤ 64)) = true
    rw [pyOf_ints, h1]
    simpa using h2
  · rw [List.all_map, List.all_eq_true]
    intro a _
    show ((xs.map (eT D.int)).all fun y => PySem.W.alike (pyOf (eT D.int a)) (pyOf y)) = true
    rw [List.all_map, List.all_eq_true]
    intro b _
    show PySem.W.alike (pyOf (eT D.int a)) (pyOf (eT D.int b)) = true
    rw [pyOf_ints, pyOf_ints, PySem.W.alike]
    exact PySem.W.alike_ints a b
  · rw [List.all_map, List.all_eq_true]
    intro r hr
    show headTup (pyOf (eT D.int r)) = true
    rw [pyOf_ints]
    obtain ⟨p, q, rfl⟩ := List.exists_cons_of_ne_nil (h r hr)
    rfl
theorem sortR_tups {xs : List (List Int)} (h : ∀ r ∈ xs, r ≠ []) (hl : xs.length ≤ 16777216) : sortR (eT D.int) xs = .ok (sortBy (eT D.int) xs) := by
  unfold sortR lineN
  rw [if_pos]; rw [sortOk_tups h, decide_eq_true hl]; rfl
/-! rising tuples -/
abbrev Up (s : List Int) : Prop := s.Pairwise (· < ·)
theorem Up.nodup {s : List Int} (h : Up s) : s.Nodup := h.imp fun h => Int.ne_of_lt h
theorem Up.ext : ∀ {a b : List Int}, Up a → Up b → (∀ t, t ∈ a ↔ t ∈ b) → a = b := fun {a b} ha hb h =>
  le_ext (le := fun a b => decide (a ≤ b)) (fun a b c h1 h2 => by simp at *; omega) (fun a b h1 h2 => by simp at *; omega) (ha.imp fun h => by simp; omega) (hb.imp fun h => by simp; omega) ha.nodup hb.nodup h
/-- the least of some sets: each once -/
def IsLeast (sets l : List (List Int)) : Prop := l.Nodup ∧ ∀ s, s ∈ l ↔ s ∈ sets ∧ ∀ o ∈ sets, o ≠ s → ¬ ∀ x ∈ o, x ∈ s
theorem IsLeast.sort {sets l l' : List (List Int)} (h : IsLeast sets l) (h' : IsLeast sets l') : sortBy (eT D.int) l = sortBy (eT D.int) l' := sortBy_ext anti_ints h.1 h'.1 fun s => by rw [h.2, h'.2]

/-! ### thinning row by row -/
def Least (rows left : List Row) : Prop := left.Nodup ∧ ∀ r, r ∈ left ↔ r ∈ rows ∧ ∀ o ∈ rows, o ≠ r → under o r = false
theorem Least.nil : Least [] [] := ⟨by simp, by simp⟩
theorem Least.thin {rows left : List Row} (h : Least rows left) : Thin rows (srows left) := Thin.of_first h.2 h.1
theorem Least.len {rows left : List Row} (h : Least rows left) : left.length ≤ rows.length := List.Nodup.length_le_of_subset h.1 fun r hr => ((h.2 r).mp hr).1
theorem Least.below {rows left : List Row} (h : Least rows left) (hup : ∀ r ∈ rows, keysUp r) {r : Row} (hr : r ∈ rows) : ∃ m ∈ left, under m r = true := by
  obtain ⟨m, h1, h2, h3⟩ := least_below hup _ r hr (Nat.le_refl _)
  exact ⟨m, (h.2 m).mpr ⟨h1, h3⟩, h2⟩
theorem Least.skip {rows left : List Row} {x : Row} (h : Least rows left) (hup : ∀ r ∈ rows, keysUp r) (hx : keysUp x) (c : ∃ l ∈ left, under l x = true) : Least (rows ++ [x]) left := by
  obtain ⟨l, hl, hu⟩ := c
  obtain ⟨hl1, hl2⟩ := (h.2 l).mp hl
  refine ⟨h.1, fun r => ?_⟩
  rw [h.2]
  constructor
  · rintro ⟨h1, h2⟩
    refine ⟨List.mem_append_left _ h1, fun o ho hne => ?_⟩
    rcases List.mem_append.mp ho with ho | ho
    · exact h2 o ho hne
    · have : o = x := by simpa using ho
      subst this
      cases q : under o r with
      | false => rfl
      | true =>
        have h3 := under_trans hu q
        by_cases e : l = r
        · subst e
          exact absurd (under_anti hx (hup l hl1) q hu) hne
        · rw [h2 l hl1 e] at h3; cases h3
  · rintro ⟨h1, h2⟩
    rcases List.mem_append.mp h1 with h1 | h1
    · exact ⟨h1, fun o ho hne => h2 o (List.mem_append_left _ ho) hne⟩
    · have : r = x := by simpa using h1
      subst this
      by_cases e : l = r
      · subst e
        exact ⟨hl1, fun o ho hne => h2 o (List.mem_append_left _ ho) hne⟩
      · have := h2 l (List.mem_append_left _ hl1) e
        rw [hu] at this; cases this
theorem Least.take {rows left : List Row} {x : Row} (h : Least rows left) (hup : ∀ r ∈ rows, keysUp r) (hx : keysUp x) (c : ∀ l ∈ left, under l x = false) : Least (rows ++ [x]) (left.filter (fun o => !under x o) ++ [x]) := by
  have hnx : ∀ o ∈ rows, under o x = false := fun o ho => by
    cases q : under o x with
    | false => rfl
    | true =>
      obtain ⟨m, hm, hu⟩ := h.below hup ho
      have := c m hm
      rw [under_trans hu q] at this; cases this
  refine ⟨?_, fun r => ?_⟩
  · rw [List.nodup_append]
    refine ⟨h.1.sublist List.filter_sublist, by simp, fun a ha b hb e => ?_⟩
    have : b = x := by simpa using hb
    subst this; subst e
    have := c a (List.mem_filter.mp ha).1
    rw [under_refl hx] at this; cases this
  · rw [List.mem_append, List.mem_filter, h.2]
    constructor
    · rintro (⟨⟨h1, h2⟩, h3⟩ | h1)
      · refine ⟨List.mem_append_left _ h1, fun o ho hne => ?_⟩
        rcases List.mem_append.mp ho with ho | ho
        · exact h2 o ho hne
        · have : o = x := by simpa using ho
          rw [this]
          simpa using h3
      · have : r = x := by simpa using h1
        subst this
        refine ⟨List.mem_append_right _ (by simp), fun o ho hne => ?_⟩
        rcases List.mem_append.mp ho with ho | ho
        · exact hnx o ho
        · exact absurd (by simpa using ho) hne
    · rintro ⟨h1, h2⟩
      rcases List.mem_append.mp h1 with h1 | h1
      · by_cases e : r = x
        · exact .inr (by simp [e])
        · refine .inl ⟨⟨h1, fun o ho hne => h2 o (List.mem_append_left _ ho) hne⟩, ?_⟩
          have := h2 x (List.mem_append_right _ (by simp)) fun z => e z.symm
          simp [this]
      · exact .inr h1
/-! cutting and joining -/
theorem catT_ok {α : Type} (e : α → D) {xs ys : List α} (h : xs.length + ys.length ≤ 16777216) : catT e xs ys = .ok (xs ++ ys) := by
  unfold catT lineN
  rw [if_pos h]
theorem cutT_ok {α : Type} (e : α → D) (xs : List α) (lo hi : Option Int) : cutT e xs lo hi = .ok (cutL xs lo hi) := by
  unfold cutT; rfl
theorem cut_to {α : Type} (xs : List α) {i : Int} (h : 0 ≤ i) : cutL xs none (some i) = xs.take i.toNat := by
  have e : sIx xs.length xs.length (some i) = min i.toNat xs.length := by unfold sIx; simp only; rw [if_neg (by omega)]
  show (xs.drop 0).take (sIx xs.length xs.length (some i) - 0) = _
  rw [e, List.drop_zero, Nat.sub_zero]
  by_cases c : i.toNat ≤ xs.length
  · rw [Nat.min_eq_left c]
  · rw [Nat.min_eq_right (by omega), List.take_of_length_le (Nat.le_refl _), List.take_of_length_le (by omega)]
theorem cut_from {α : Type} (xs : List α) {i : Int} (h : 0 ≤ i) : cutL xs (some i) none = xs.drop i.toNat := by
  have e : sIx xs.length 0 (some i) = min i.toNat xs.length := by unfold sIx; simp only; rw [if_neg (by omega)]
  show (xs.drop (sIx xs.length 0 (some i))).take (xs.length - sIx xs.length 0 (some i)) = _
  rw [e]
  by_cases c : i.toNat ≤ xs.length
  · rw [Nat.min_eq_left c, List.take_of_length_le (by rw [List.length_drop]; exact Nat.le_refl _)]
  · rw [Nat.min_eq_right (by omega), List.drop_of_length_le (Nat.le_refl _), List.drop_of_length_le (show xs.length ≤ i.toNat by omega)]; simp
end Mi

/-! Mi, part X: forms are told apart by their hours; rows and forms joined. -/
namespace Mi
open PySem
def cornerV (r : Row) (late : Int) (T : Nat) : List Int := (List.range T).map fun (k : Nat) => match wOf r (k : Int) with | some v => 0 - v | none => late
theorem corner_len (r : Row) (late : Int) (T : Nat) : (cornerV r late T).length = T := by simp [cornerV]
theorem corner_at {T : Nat} {r q : Row} {late : Int} (hq : RowIn T q) {p : Int × Int} (hp : p ∈ q) : val (cornerV r late T) p = (match wOf r p.1 with | some v => 0 - v | none => late) + p.2 := by
  have := hq.at_ p hp
  unfold val cornerV
  congr 1
  rw [List.getD_eq_getElem?_getD, List.getElem?_map, List.getElem?_range (by omega)]
  simp only [Option.map_some, Option.getD_some, Int.toNat_of_nonneg this.1]
theorem corner_hour {T : Nat} {r q : Row} {late : Int} (hq : RowIn T q) (hl : ∀ p ∈ q, 1 - p.2 ≤ late) : hourOf q (cornerV r late T) ≤ 0 ↔ under q r = true := by
  rw [hourOf_le hq.ne, under_iff]
  refine forall_congr' fun p => forall_congr' fun hp => ?_
  rw [corner_at hq hp]
  have := hl p hp
  cases h : wOf r p.1 with
  | none => simp; omega
  | some v => simp; omega
theorem corner_self {T : Nat} {r : Row} {late : Int} (hr : RowIn T r) : hourOf r (cornerV r late T) = 0 := by
  obtain ⟨⟨p, hp, e⟩, _⟩ := hourOf_spec hr.ne (cornerV r late T)
  rw [e, corner_at hr hp, wOf_of hr.up hp]
  simp; omega
theorem corner_comes {T : Nat} {f : List Row} {r : Row} {late : Int} (hf : Form T f) (hr : r ∈ f) (hl : ∀ q ∈ f, ∀ p ∈ q, 1 - p.2 ≤ late) : comes f (cornerV r late T) = 0 := by
  apply Int.le_antisymm
  · rw [← corner_self (late := late) (hf.rows r hr)]
    exact (comes_spec hf.ne _).2 r hr
  · rw [le_comes hf.ne]
    intro q hq
    by_cases c : q = r
    · rw [c, corner_self (hf.rows r hr)]; exact Int.le_refl _
    · have h1 := ((hf.thin.mem r).mp hr).2 q hq c
      have h2 := (corner_hour (r := r) (hf.rows q hq) (hl q hq)).mp
      rw [h1] at h2
      apply Classical.byContradiction
      intro h
      exact absurd (h2 (by omega)) (by decide)
theorem corner_below {T : Nat} {f g : List Row} {r : Row} {late : Int} (hf : Form T f) (hg : Form T g) (hr : r ∈ f) (hl : ∀ q ∈ f, ∀ p ∈ q, 1 - p.2 ≤ late) (hl' : ∀ q ∈ g, ∀ p ∈ q, 1 - p.2 ≤ late) (h : comes f (cornerV r late T) = comes g (cornerV r late T)) : ∃ q ∈ g, under q r = true := by
  rw [corner_comes hf hr hl] at h
  obtain ⟨⟨q, hq, e⟩, _⟩ := comes_spec hg.ne (cornerV r late T)
  exact ⟨q, hq, (corner_hour (hg.rows q hq) (hl' q hq)).mp (by omega)⟩
theorem forms_same {T : Nat} {f g : List Row} (hf : Form T f) (hg : Form T g) (h1 : ∀ r ∈ f, ∃ q ∈ g, under q r = true) (h2 : ∀ r ∈ g, ∃ q ∈ f, under q r = true) : f = g := by
  have key : ∀ {f g : List Row}, Form T f → Form T g → (∀ r ∈ f, ∃ q ∈ g, under q r = true) → (∀ r ∈ g, ∃ q ∈ f, under q r = true) → ∀ r ∈ f, r ∈ g := fun {f g} hf hg h1 h2 r hr => by
    obtain ⟨q, hq, e⟩ := h1 r hr
    obtain ⟨s, hs, e'⟩ := h2 q hq
    by_cases c : s = r
    · subst c
      rw [under_anti (hf.rows s hr).up (hg.rows q hq).up e' e]; exact hq
    · have := ((hf.thin.mem r).mp hr).2 s hs c
      rw [under_trans e' e] at this; cases this
  exact Rising.ext hf.thin.rise hg.thin.rise fun r => ⟨key hf hg h1 h2 r, key hg hf h2 h1 r⟩

theorem bound_ex : ∀ xs : List Int, ∃ L : Int, ∀ x ∈ xs, 1 - x ≤ L
  | [] => ⟨0, by simp⟩
  | x :: xs => by
    obtain ⟨L, h⟩ := bound_ex xs
    refine ⟨max L (1 - x), fun y hy => ?_⟩
    rcases List.mem_cons.mp hy with e | hy
    · subst e; omega
    · have := h y hy; omega
/-- forms that come alike at all hours are the same -/
theorem Form.ext {T : Nat} {f g : List Row} (hf : Form T f) (hg : Form T g) (h : ∀ hours : List Int, hours.length = T → comes f hours = comes g hours) : f = g := by
  obtain ⟨L, hL⟩ := bound_ex ((f ++ g).flatten.map (·.2))
  have hb : ∀ q ∈ f ++ g, ∀ p ∈ q, 1 - p.2 ≤ L := fun q hq p hp => hL p.2 (List.mem_map_of_mem (List.mem_flatten.mpr ⟨q, hq, hp⟩))
  have h1 : ∀ q ∈ f, ∀ p ∈ q, 1 - p.2 ≤ L := fun q hq => hb q (List.mem_append_left _ hq)
  have h2 : ∀ q ∈ g, ∀ p ∈ q, 1 - p.2 ≤ L := fun q hq => hb q (List.mem_append_right _ hq)
  exact forms_same hf hg (fun r hr => corner_below hf hg hr h1 h2 (h _ (corner_len _ _ _))) fun r hr => corner_below hg hf hr h2 h1 (h _ (corner_len _ _ _)).symm
/-! rows as they grow -/
theorem keysUp_snoc {r : Row} {t v : Int} (h : keysUp r) (hm : ∀ p ∈ r, p.1 < t) : keysUp (r ++ [(t, v)]) := by
  unfold keysUp at h ⊢
  rw [List.map_append, List.pairwise_append]
  refine ⟨h, by simp, fun x hx y hy => ?_⟩
  obtain ⟨p, hp, rfl⟩ := List.mem_map.mp hx
  have : y = t := by simpa using hy
  rw [this]; exact hm p hp
/-- a row as it grows over a range -/
structure Grow (i : Nat) (r : Row) : Prop where
  up : keysUp r
  at_ : ∀ p ∈ r, 0 ≤ p.1 ∧ p.1 < i
theorem Grow.nil : Grow 0 [] := ⟨by simp [keysUp], by simp⟩
theorem Grow.keep {i : Nat} {r : Row} (h : Grow i r) : Grow (i + 1) r := ⟨h.up, fun p hp => by have := h.at_ p hp; omega⟩
theorem Grow.snoc {i : Nat} {r : Row} (h : Grow i r) (v : Int) : Grow (i + 1) (r ++ [((i : Int), v)]) := ⟨keysUp_snoc h.up fun p hp => (h.at_ p hp).2, fun p hp => by
  rcases List.mem_append.mp hp with hp | hp
  · have := h.at_ p hp; omega
  · have : p = ((i : Int), v) := by simpa using hp
    rw [this]; simp; omega⟩
theorem Grow.len {i : Nat} {r : Row} (h : Grow i r) : r.length ≤ i := by
  have := up_len r 0 i h.up h.at_
  omega
theorem Grow.row {T : Nat} {r : Row} (h : Grow T r) (h0 : r ≠ []) : RowIn T r := ⟨h0, h.up, h.at_⟩
theorem RowIn.one {T : Nat} {t v : Int} (h0 : 0 ≤ t) (h1 : t < T) : RowIn T [(t, v)] := ⟨by simp, by simp [keysUp], by simp; omega⟩
/-! rows moved -/
def shift (w : Int) (r : Row) : Row := r.map fun p => (p.1, p.2 + w)
theorem shift_in {T : Nat} {r : Row} (w : Int) (h : RowIn T r) : RowIn T (shift w r) := ⟨by simpa [shift] using h.ne, by
  have := h.up
  unfold keysUp shift at *
  rw [List.map_map]
  exact this, fun p hp => by
  obtain ⟨q, hq, rfl⟩ := List.mem_map.mp hp
  exact h.at_ q hq⟩
theorem shift_hour {r : Row} (w : Int) (h : r ≠ []) (hours : List Int) : hourOf (shift w r) hours = hourOf r hours + w := by
  obtain ⟨⟨p, hp, e⟩, h2⟩ := hourOf_spec h hours
  have h0 : shift w r ≠ [] := by simpa [shift] using h
  apply Int.le_antisymm
  · rw [hourOf_le h0]
    intro q hq
    obtain ⟨z, hz, rfl⟩ := List.mem_map.mp hq
    have := h2 z hz
    unfold val at *
    simp only
    omega
  · have := (hourOf_spec h0 hours).2 (p.1, p.2 + w) (List.mem_map_of_mem (f := fun p : Int × Int => (p.1, p.2 + w)) hp)
    unfold val at *
    simp only at this
    omega
theorem shift_comes {f : List Row} (w : Int) (h : f ≠ []) (hn : ∀ r ∈ f, r ≠ []) (hours : List Int) : comes (f.map (shift w)) hours = comes f hours + w := by
  obtain ⟨⟨r, hr, e⟩, h2⟩ := comes_spec h hours
  have h0 : f.map (shift w) ≠ [] := by simpa using h
  apply Int.le_antisymm
  · have := (comes_spec h0 hours).2 _ (List.mem_map_of_mem hr)
    rw [shift_hour w (hn r hr)] at this
    omega
  · rw [le_comes h0]
    intro q hq
    obtain ⟨z, hz, rfl⟩ := List.mem_map.mp hq
    rw [shift_hour w (hn z hz)]
    have := h2 z hz
    omega
/-! what is told the same -/
theorem sm_row {T : Nat} {r : Row} (h : RowIn T r) (hT : T ≤ 1000) : smD (eT (eP D.int D.int) r) = true := by
  have := h.len
  rw [sm_eT, Bool.and_eq_true, decide_eq_true_eq, List.all_eq_true]
  exact ⟨by omega, fun p _ => by rw [sm_eP]; rfl⟩
theorem sm_rows {T : Nat} {f : List Row} (h : ∀ r ∈ f, RowIn T r) (hT : T ≤ 1000) (hl : f.length ≤ 1000000) : smD (eL (eT (eP D.int D.int)) f) = true := by
  rw [sm_eL, Bool.and_eq_true, decide_eq_true_eq, List.all_eq_true]
  exact ⟨hl, fun r hr => sm_row (h r hr) hT⟩
theorem sm_ints {xs : List Int} (h : xs.length ≤ 1000000) : smD (eL D.int xs) = true := by
  rw [sm_eL]
  simpa using h
theorem sameR_ok {α : Type} [DecidableEq α] {e : α → D} {x y : α} (h : smD (e y) = true) : sameR e x y = .ok (decide (x = y)) := by
  unfold sameR
  rw [if_pos h]
/-! rows joined -/
theorem wOf_iff {r : Row} (h : keysUp r) {t v : Int} : wOf r t = some v ↔ (t, v) ∈ r := ⟨wOf_mem, fun h' => wOf_of h h'⟩
def jW (a b : Row) (t : Int) : Option Int := match wOf a t, wOf b t with
  | some x, some y => some (max x y)
  | some x, none => some x
  | none, o => o
structure IsJoin (T : Nat) (a b r : Row) : Prop where
  row : RowIn T r
  at_ : ∀ t, wOf r t = jW a b t
theorem IsJoin.uniq {T : Nat} {a b r r' : Row} (h : IsJoin T a b r) (k : IsJoin T a b r') : r = r' := row_ext h.row.up k.row.up fun t => by rw [h.at_, k.at_]
theorem jW_comm (a b : Row) (t : Int) : jW a b t = jW b a t := by
  unfold jW
  cases wOf a t <;> cases wOf b t <;> simp [Int.max_comm]
theorem IsJoin.symm {T : Nat} {a b r : Row} (h : IsJoin T a b r) : IsJoin T b a r := ⟨h.row, fun t => by rw [h.at_, jW_comm]⟩
theorem IsJoin.hour {T : Nat} {a b r : Row} (h : IsJoin T a b r) (ha : RowIn T a) (hb : RowIn T b) (hours : List Int) : hourOf r hours = max (hourOf a hours) (hourOf b hours) := by
  have key : ∀ m, hourOf r hours ≤ m ↔ hourOf a hours ≤ m ∧ hourOf b hours ≤ m := fun m => by
    rw [hourOf_le h.row.ne, hourOf_le ha.ne, hourOf_le hb.ne]
    constructor
    · intro q
      refine ⟨fun p hp => ?_, fun p hp => ?_⟩
      · have h1 := h.at_ p.1
        unfold jW at h1
        rw [wOf_of ha.up hp] at h1
        cases w : wOf b p.1 with
        | none =>
          rw [w] at h1
          exact q p (wOf_mem h1)
        | some y =>
          rw [w] at h1
          have := q _ (wOf_mem h1)
          unfold val at this ⊢
          simp only at this
          omega
      · have h1 := h.at_ p.1
        unfold jW at h1
        rw [wOf_of hb.up hp] at h1
        cases w : wOf a p.1 with
        | none =>
          rw [w] at h1
          exact q p (wOf_mem h1)
        | some y =>
          rw [w] at h1
          have := q _ (wOf_mem h1)
          unfold val at this ⊢
          simp only at this
          omega
    · rintro ⟨qa, qb⟩ p hp
      have h1 := h.at_ p.1
      rw [wOf_of h.row.up hp] at h1
      unfold jW at h1
      cases wa : wOf a p.1 with
      | none =>
        rw [wa] at h1
        exact qb p (wOf_mem h1.symm)
      | some x =>
        have k1 := qa _ (wOf_mem wa)
        rw [wa] at h1
        cases wb : wOf b p.1 with
        | none =>
          rw [wb] at h1
          have : p.2 = x := Option.some.inj h1
          unfold val at k1 ⊢
          simp only at k1
          omega
        | some y =>
          rw [wb] at h1
          have k2 := qb _ (wOf_mem wb)
          have : p.2 = max x y := Option.some.inj h1
          unfold val at k1 k2 ⊢
          simp only at k1 k2
          omega
  have h1 := (key _).mp (Int.le_refl _)
  have h2 := (key (max (hourOf a hours) (hourOf b hours))).mpr ⟨Int.le_max_left _ _, Int.le_max_right _ _⟩
  omega
/-! pairs sorted -/
theorem leE_pair (p q : Int × Int) : leE (eP D.int D.int) p q = decide (p.1 < q.1 ∨ p.1 = q.1 ∧ p.2 ≤ q.2) := by
  have e : leE (eP D.int D.int) p q = leE (eT D.int) [p.1, p.2] [q.1, q.2] := rfl
  rw [e, leE_ints]
  have : ([q.1, q.2] < [p.1, p.2]) ↔ ¬ (p.1 < q.1 ∨ p.1 = q.1 ∧ p.2 ≤ q.2) := by
    rw [List.cons_lt_cons_iff, List.cons_lt_cons_iff]
    simp
    omega
  by_cases c : p.1 < q.1 ∨ p.1 = q.1 ∧ p.2 ≤ q.2
  · have h : ¬ ([q.1, q.2] < [p.1, p.2]) := fun z => this.mp z c
    rw [decide_eq_true c, decide_eq_false h]; rfl
  · rw [decide_eq_false c, decide_eq_true (this.mpr c)]; rfl
theorem sortR_pairs {xs : List (Int × Int)} (hl : xs.length ≤ 16777216) : sortR (eP D.int D.int) xs = .ok (sortBy (eP D.int D.int) xs) := by
  have h : sortOk (xs.map (eP D.int D.int)) = true := by
    have := sortOk_tups (xs := xs.map fun p => [p.1, p.2]) (fun r hr => by
      obtain ⟨p, _, rfl⟩ := List.mem_map.mp hr
      simp)
    rw [List.map_map] at this
    exact this
  unfold sortR lineN
  rw [if_pos]; rw [h, decide_eq_true hl]; rfl
theorem sortBy_up {xs : List (Int × Int)} (h : (xs.map (·.1)).Nodup) : keysUp (sortBy (eP D.int D.int) xs) := by
  have hp := sortBy_perm (eP D.int D.int) xs
  have hn : ((sortBy (eP D.int D.int) xs).map (·.1)).Nodup := (hp.map _).nodup_iff.mpr h
  have hl := sortBy_le (eP D.int D.int) xs
  unfold keysUp
  rw [List.pairwise_map]
  have hn := List.pairwise_map.mp hn
  refine (hl.and hn).imp fun {a b} ⟨h1, h2⟩ => ?_
  rw [leE_pair, decide_eq_true_iff] at h1
  rcases h1 with h1 | h1
  · exact h1
  · exact absurd h1.1 h2
theorem lookT_mem {r : List (Int × Int)} (h : (r.map (·.1)).Nodup) {t v : Int} : lookT t r = some v ↔ (t, v) ∈ r := by
  induction r with
  | nil => simp [lookT]
  | cons p r ih =>
    obtain ⟨a, b⟩ := p
    rw [List.map_cons, List.nodup_cons] at h
    simp only [lookT]
    by_cases c : a = t
    · subst c
      rw [if_pos rfl, List.mem_cons]
      constructor
      · intro e; cases e; exact .inl rfl
      · rintro (e | e)
        · cases e; rfl
        · exact absurd (List.mem_map_of_mem (f := (·.1)) e) h.1
    · rw [if_neg c, ih h.2, List.mem_cons]
      constructor
      · exact .inr
      · rintro (e | e)
        · cases e; exact absurd rfl c
        · exact e
theorem lookT_put {κ α : Type} [DecidableEq κ] (k : κ) (d : α) (kvs : List (κ × α)) (q : κ) : lookT q (putT k d kvs) = if q = k then some d else lookT q kvs := by
  have hmap : ∀ kvs : List (κ × α), lookT q (kvs.map fun kv => if kv.1 = k then (kv.1, d) else kv) = if q = k ∧ (kvs.any fun kv => decide (kv.1 = k)) = true then some d else lookT q kvs := by
    intro kvs
    induction kvs with
    | nil => simp [lookT]
    | cons p r ih =>
      obtain ⟨a, b⟩ := p
      simp only [List.map_cons, List.any_cons, lookT]
      by_cases c : a = k
      · subst c
        simp only [if_true, lookT]
        by_cases e : a = q
        · subst e; simp
        · have e' : ¬ q = a := fun h => e h.symm
          simp [e, e', ih]
      · have hd : decide (a = k) = false := decide_eq_false c
        simp only [if_neg c, lookT, hd, Bool.false_or]
        by_cases e : a = q
        · subst e; simp [c]
        · rw [if_neg e, if_neg e, ih]
  unfold putT
  by_cases c : (kvs.any fun kv => decide (kv.1 = k)) = true
  · rw [if_pos c, hmap]
    by_cases e : q = k <;> simp [e, c]
  · rw [if_neg c]
    have happ : ∀ kvs : List (κ × α), (kvs.any fun kv => decide (kv.1 = k)) = false → lookT q (kvs ++ [(k, d)]) = if q = k then some d else lookT q kvs := by
      intro kvs
      induction kvs with
      | nil =>
        intro _
        simp only [List.nil_append, lookT]
        by_cases e : q = k
        · simp [e]
        · have : ¬ k = q := fun h => e h.symm
          simp [e, this]
      | cons p r ih =>
        obtain ⟨a, b⟩ := p
        intro h
        simp only [List.any_cons, Bool.or_eq_false_iff, decide_eq_false_iff_not] at h
        simp only [List.cons_append, lookT]
        by_cases e : a = q
        · subst e; simp [h.1]
        · simp [e, ih h.2]
    exact happ kvs (by cases z : (kvs.any fun kv => decide (kv.1 = k)) with
      | true => exact absurd z c
      | false => rfl)
/-- a dict as it is filled row by row -/
theorem putT_keys {κ α : Type} [DecidableEq κ] (k : κ) (d : α) (kvs : List (κ × α)) (h : (kvs.map (·.1)).Nodup) : ((putT k d kvs).map (·.1)).Nodup ∧ (putT k d kvs).length ≤ kvs.length + 1 ∧ ∀ q ∈ putT k d kvs, q ∈ kvs ∨ q.1 = k := by
  unfold putT
  by_cases c : (kvs.any fun kv => decide (kv.1 = k)) = true
  · rw [if_pos c]
    refine ⟨?_, by simp, fun q hq => ?_⟩
    · rw [List.map_map]
      have : ((fun x : κ × α => x.1) ∘ fun kv : κ × α => if kv.1 = k then (kv.1, d) else kv) = fun x => x.1 := by
        funext x
        show (if x.1 = k then (x.1, d) else x).1 = x.1
        split <;> rfl
      rw [this]; exact h
    · obtain ⟨x, hx, rfl⟩ := List.mem_map.mp hq
      by_cases e : x.1 = k
      · rw [if_pos e]; exact .inr e
      · rw [if_neg e]; exact .inl hx
  · rw [if_neg c]
    refine ⟨?_, by simp, fun q hq => ?_⟩
    · rw [List.map_append, List.nodup_append]
      refine ⟨h, by simp, fun a ha b hb => ?_⟩
      have : b = k := by simpa using hb
      subst this
      intro e
      subst e
      obtain ⟨x, hx, e⟩ := List.mem_map.mp ha
      exact c (List.any_eq_true.mpr ⟨x, hx, decide_eq_true e⟩)
    · rcases List.mem_append.mp hq with hq | hq
      · exact .inl hq
      · have : q = (k, d) := by simpa using hq
        rw [this]; exact .inr rfl
theorem putR_ok {κ α : Type} [DecidableEq κ] {kvs : List (κ × α)} {q : κ} {v : α} (h : kvs.length < 16777216) : putR kvs q v = .ok (putT q v kvs) := by
  unfold putR lineN
  rw [if_pos h]
theorem wOf_take {b : Row} (h : keysUp b) {i : Nat} {p : Int × Int} (hp : b[i]? = some p) (t : Int) : wOf (b.take (i + 1)) t = if t = p.1 then some p.2 else wOf (b.take i) t := by
  have hk : keysUp (b.take (i + 1)) := by
    unfold keysUp at h ⊢
    rw [List.map_take]
    exact h.sublist (List.take_sublist _ _)
  have hk0 : keysUp (b.take i) := by
    unfold keysUp at h ⊢
    rw [List.map_take]
    exact h.sublist (List.take_sublist _ _)
  apply Option.ext
  intro v
  have e : b.take (i + 1) = b.take i ++ [p] := by rw [List.take_add_one, hp]; rfl
  rw [wOf_iff hk]
  by_cases c : t = p.1
  · subst c
    rw [if_pos rfl]
    constructor
    · intro hm
      have h1 := wOf_of hk hm
      have h2 := wOf_of hk (p := p) (by rw [e]; simp)
      have h1 : wOf (b.take (i + 1)) p.1 = some v := h1
      rw [h2] at h1; exact h1
    · intro hv
      have : p.2 = v := Option.some.inj hv
      rw [e, ← this]; simp
  · rw [if_neg c, wOf_iff hk0, e, List.mem_append]
    constructor
    · rintro (hm | hm)
      · exact hm
      · have : (t, v) = p := by simpa using hm
        subst this; exact absurd rfl c
    · exact .inl
theorem wOf_before {b : Row} (h : keysUp b) {i : Nat} {p : Int × Int} (hp : b[i]? = some p) : wOf (b.take i) p.1 = none := by
  cases q : wOf (b.take i) p.1 with
  | none => rfl
  | some v =>
    have hm := wOf_mem q
    obtain ⟨j, hj⟩ := List.mem_iff_getElem?.mp hm
    have hji : j < i := by
      have := (List.getElem?_eq_some_iff.mp hj).1
      rw [List.length_take] at this
      omega
    rw [List.getElem?_take_of_lt hji] at hj
    have h1 := (List.getElem?_eq_some_iff.mp hj).1
    have h2 := (List.getElem?_eq_some_iff.mp hp).1
    have := List.pairwise_iff_getElem.mp h j i (by simpa using h1) (by simpa using h2) hji
    rw [List.getElem_map, List.getElem_map, (List.getElem?_eq_some_iff.mp hj).2, (List.getElem?_eq_some_iff.mp hp).2] at this
    exact absurd this (Int.lt_irrefl _)
/-! forms joined, and the first of forms -/
theorem comes_append {f g : List Row} (hf : f ≠ []) (hg : g ≠ []) (hours : List Int) : comes (f ++ g) hours = min (comes f hours) (comes g hours) := by
  have key : ∀ m, m ≤ comes (f ++ g) hours ↔ m ≤ comes f hours ∧ m ≤ comes g hours := fun m => by
    rw [le_comes (by simp [hf]), le_comes hf, le_comes hg]
    constructor
    · exact fun h => ⟨fun r hr => h r (List.mem_append_left _ hr), fun r hr => h r (List.mem_append_right _ hr)⟩
    · rintro ⟨h1, h2⟩ r hr
      rcases List.mem_append.mp hr with h | h
      · exact h1 r h
      · exact h2 r h
  have h1 := (key _).mp (Int.le_refl _)
  have h2 := (key (min (comes f hours) (comes g hours))).mpr ⟨Int.min_le_left _ _, Int.min_le_right _ _⟩
  omega
/-- s has the rows of a and b joined, each with each -/
structure Joins (T : Nat) (a b s : List Row) : Prop where
  of : ∀ r ∈ s, ∃ x ∈ a, ∃ y ∈ b, IsJoin T x y r
  has : ∀ x ∈ a, ∀ y ∈ b, ∃ r ∈ s, IsJoin T x y r
theorem Joins.comes {T : Nat} {a b s : List Row} (h : Joins T a b s) (ha : ∀ r ∈ a, RowIn T r) (hb : ∀ r ∈ b, RowIn T r) (a0 : a ≠ []) (b0 : b ≠ []) (hours : List Int) : s ≠ [] ∧ Mi.comes s hours = max (Mi.comes a hours) (Mi.comes b hours) := by
  obtain ⟨⟨x, hx, ex⟩, hx2⟩ := comes_spec a0 hours
  obtain ⟨⟨y, hy, ey⟩, hy2⟩ := comes_spec b0 hours
  obtain ⟨r, hr, hj⟩ := h.has x hx y hy
  have s0 : s ≠ [] := fun z => by rw [z] at hr; simp at hr
  refine ⟨s0, ?_⟩
  apply Int.le_antisymm
  · have h1 := (comes_spec s0 hours).2 r hr
    rw [hj.hour (ha x hx) (hb y hy), ← ex, ← ey] at h1
    exact h1
  · rw [le_comes s0]
    intro q hq
    obtain ⟨x', hx', y', hy', hj'⟩ := h.of q hq
    rw [hj'.hour (ha x' hx') (hb y' hy')]
    have := hx2 x' hx'
    have := hy2 y' hy'
    omega
theorem Joins.rows {T : Nat} {a b s : List Row} (h : Joins T a b s) : ∀ r ∈ s, RowIn T r := fun r hr => by
  obtain ⟨_, _, _, _, hj⟩ := h.of r hr
  exact hj.row
/-- how many rows: the product, the sum -/
def prodN (n : Nat) (fs : List (List Row)) : Nat := fs.foldl (fun n f => n * f.length) n
def sumN (n : Nat) (fs : List (List Row)) : Nat := fs.foldl (fun n f => n + f.length) n
def allC (hours : List Int) (c : Int) (fs : List (List Row)) : Int := fs.foldl (fun m f => max m (comes f hours)) c
def firstC (hours : List Int) (c : Int) (fs : List (List Row)) : Int := fs.foldl (fun m f => min m (comes f hours)) c
theorem foldl_take_snoc {α β : Type} {g : β → α → β} {xs : List α} {i : Nat} {x : α} (h : xs[i]? = some x) (b : β) : (xs.take (i + 1)).foldl g b = g ((xs.take i).foldl g b) x := by
  rw [List.take_add_one, h, List.foldl_append]; rfl
theorem prodN_le : ∀ (fs : List (List Row)) (n i : Nat), (∀ f ∈ fs, f ≠ []) → prodN n (fs.take i) ≤ prodN n fs
  | [], n, i, _ => by simp
  | f :: fs, n, 0, h => by
    show n ≤ prodN (n * f.length) fs
    have h1 : 1 ≤ f.length := by
      have := List.length_pos_iff.mpr (h f (by simp)); omega
    have h2 : n ≤ n * f.length := Nat.le_mul_of_pos_right n h1
    have h3 := prodN_le fs (n * f.length) 0 fun g hg => h g (List.mem_cons_of_mem _ hg)
    exact Nat.le_trans h2 h3
  | f :: fs, n, i + 1, h => prodN_le fs (n * f.length) i fun g hg => h g (List.mem_cons_of_mem _ hg)
theorem sumN_le : ∀ (fs : List (List Row)) (n i : Nat), sumN n (fs.take i) ≤ sumN n fs
  | [], n, i => by simp
  | f :: fs, n, 0 => by
    show n ≤ sumN (n + f.length) fs
    exact Nat.le_trans (Nat.le_add_right _ _) (sumN_le fs (n + f.length) 0)
  | f :: fs, n, i + 1 => sumN_le fs (n + f.length) i
theorem allC_eq (hours : List Int) (f : List Row) (fs : List (List Row)) : allC hours (comes f hours) fs = maxI ((f :: fs).map fun g => comes g hours) := by
  show fs.foldl (fun m g => max m (comes g hours)) (comes f hours) = (fs.map fun g => comes g hours).foldl max (comes f hours)
  rw [List.foldl_map]
theorem firstC_eq (hours : List Int) (f : List Row) (fs : List (List Row)) : firstC hours (comes f hours) fs = minI ((f :: fs).map fun g => comes g hours) := by
  show fs.foldl (fun m g => min m (comes g hours)) (comes f hours) = (fs.map fun g => comes g hours).foldl min (comes f hours)
  rw [List.foldl_map]
theorem prodN_eq (n : Nat) (fs : List (List Row)) : prodN n fs = (fs.map List.length).foldl (· * ·) n := by
  rw [List.foldl_map]; rfl
theorem sumN_bound {B : Nat} : ∀ (fs : List (List Row)) (n : Nat), (∀ f ∈ fs, f.length ≤ B) → sumN n fs ≤ n + fs.length * B
  | [], n, _ => by simp [sumN]
  | f :: fs, n, h => by
    have h1 := h f (by simp)
    have := sumN_bound fs (n + f.length) fun g hg => h g (List.mem_cons_of_mem _ hg)
    show sumN (n + f.length) fs ≤ _
    rw [List.length_cons, Nat.add_mul, Nat.one_mul]
    omega
theorem Each.snoc {α β : Type} {P : α → β → Prop} {xs : List α} {ys : List β} (h : Each P xs ys) {x : α} {y : β} (k : P x y) : Each P (xs ++ [x]) (ys ++ [y]) := by
  refine ⟨by simp [h.1], fun i a b ha hb => ?_⟩
  by_cases c : i < xs.length
  · rw [List.getElem?_append_left c] at ha
    rw [List.getElem?_append_left (by rw [h.1]; exact c)] at hb
    exact h.2 i a b ha hb
  · rw [List.getElem?_append_right (by omega)] at ha
    rw [List.getElem?_append_right (by rw [h.1]; omega), h.1] at hb
    have hi : i - xs.length = 0 := by
      have := (List.getElem?_eq_some_iff.mp ha).1
      simp at this; omega
    rw [hi] at ha hb
    cases ha; cases hb; exact k
theorem Each.map_eq {α β γ : Type} {P : α → β → Prop} {xs : List α} {ys : List β} (h : Each P xs ys) {f : α → γ} {g : β → γ} (k : ∀ x y, P x y → g y = f x) : ys.map g = xs.map f := by
  apply List.ext_getElem?
  intro i
  rw [List.getElem?_map, List.getElem?_map]
  cases hy : ys[i]? with
  | none =>
    rw [List.getElem?_eq_none_iff] at hy
    have := h.1
    rw [List.getElem?_eq_none (by omega)]; rfl
  | some y =>
    have hi := (List.getElem?_eq_some_iff.mp hy).1
    have hxi : i < xs.length := by have := h.1; omega
    rw [List.getElem?_eq_getElem hxi]
    exact congrArg some (k _ _ (h.2 i _ y (List.getElem?_eq_getElem hxi) hy))
theorem Form.sub {T : Nat} {f g : List Row} (h : Form T f) (hs : g.Sublist f) (h0 : g ≠ []) : Form T g :=
  ⟨h0, fun r hr => h.rows r (hs.subset hr), ⟨h.thin.rise.sublist hs, fun r => ⟨fun hr => ⟨hr, fun o ho hne => ((h.thin.mem r).mp (hs.subset hr)).2 o (hs.subset ho) hne⟩, fun h => h.1⟩⟩, Nat.le_trans hs.length_le h.len⟩
theorem shift_under (w : Int) (a b : Row) : under (shift w a) (shift w b) = under a b := by
  have hw : ∀ t, wOf (shift w b) t = (wOf b t).map (· + w) := fun t => by
    unfold wOf shift
    rw [List.find?_map]
    cases h : b.find? ((fun p : Int × Int => decide (p.1 = t)) ∘ fun p => (p.1, p.2 + w)) with
    | none =>
      have : b.find? (fun p => decide (p.1 = t)) = none := h
      rw [this]; rfl
    | some p =>
      have : b.find? (fun p => decide (p.1 = t)) = some p := h
      rw [this]; rfl
  unfold under
  unfold shift
  rw [List.all_map]
  congr 1
  funext p
  show (match wOf (shift w b) p.1 with | none => false | some v => decide (p.2 + w ≤ v)) = _
  rw [hw]
  cases wOf b p.1 with
  | none => rfl
  | some v =>
    show decide (p.2 + w ≤ v + w) = decide (p.2 ≤ v)
    by_cases c : p.2 ≤ v
    · rw [decide_eq_true c, decide_eq_true (by omega)]
    · rw [decide_eq_false c, decide_eq_false (by omega)]
theorem shift_rlt (w : Int) : ∀ a b : Row, rlt (shift w a) (shift w b) = rlt a b
  | [], [] => rfl
  | [], _ :: _ => rfl
  | _ :: _, [] => rfl
  | (t, v) :: a, (u, x) :: b => by
    have := shift_rlt w a b
    unfold shift at this ⊢
    simp only [List.map_cons, rlt, this]
    by_cases c1 : t = u <;> by_cases c2 : v = x <;> by_cases c3 : v < x <;> simp [c1, c2, c3] <;> omega
theorem shift_inj (w : Int) {a b : Row} (h : shift w a = shift w b) : a = b := by
  have e : ∀ r : Row, shift (-w) (shift w r) = r := fun r => by
    unfold shift
    rw [List.map_map]
    conv => rhs; rw [← List.map_id r]
    congr 1
    funext p
    show (p.1, p.2 + w + -w) = p
    rw [Int.add_neg_cancel_right]
  rw [← e a, h, e]
theorem Form.shift {T : Nat} {f : List Row} (w : Int) (h : Form T f) : Form T (f.map (Mi.shift w)) := by
  refine ⟨by simpa using h.ne, fun r hr => ?_, ⟨?_, fun r => ⟨fun hr => ⟨hr, fun o ho hne => ?_⟩, fun h => h.1⟩⟩, by simpa using h.len⟩
  · obtain ⟨q, hq, rfl⟩ := List.mem_map.mp hr
    exact shift_in w (h.rows q hq)
  · have := h.thin.rise
    unfold Rising at this ⊢
    rw [List.pairwise_map]
    exact this.imp fun {a b} k => by rw [shift_rlt]; exact k
  · obtain ⟨q, hq, rfl⟩ := List.mem_map.mp hr
    obtain ⟨z, hz, rfl⟩ := List.mem_map.mp ho
    rw [shift_under]
    exact ((h.thin.mem q).mp hq).2 z hz fun e => hne (by rw [e])
/-! negated rows, columns -/
def negR (r : Row) : Row := r.map fun p => (p.1, -p.2)
theorem negR_in {T : Nat} {r : Row} (h : RowIn T r) : RowIn T (negR r) := ⟨by simpa [negR] using h.ne, by
  have := h.up
  unfold keysUp negR at *
  rw [List.map_map]
  exact this, fun p hp => by
  obtain ⟨q, hq, rfl⟩ := List.mem_map.mp hp
  exact h.at_ q hq⟩
def colHour (c : Row) (hours : List Int) : Int := minI (c.map (val hours))
def colsHour (cs : List Row) (hours : List Int) : Int := maxI (cs.map fun c => colHour c hours)

theorem IsJoin.pairs {T : Nat} {a b r : Row} (h : IsJoin T a b r) {p : Int × Int} (hp : p ∈ r) : p ∈ a ∨ p ∈ b := by
  have h1 := h.at_ p.1
  rw [wOf_of h.row.up hp] at h1
  unfold jW at h1
  cases qa : wOf a p.1 with
  | none =>
    rw [qa] at h1
    exact .inr (wOf_mem h1.symm)
  | some x =>
    have ka := wOf_mem qa
    rw [qa] at h1
    cases qb : wOf b p.1 with
    | none =>
      rw [qb] at h1
      have : p.2 = x := Option.some.inj h1
      rw [← this] at ka
      exact .inl ka
    | some y =>
      have kb := wOf_mem qb
      rw [qb] at h1
      have e : p.2 = max x y := Option.some.inj h1
      by_cases c : x ≤ y
      · have : p.2 = y := by omega
        rw [← this] at kb
        exact .inr kb
      · have : p.2 = x := by omega
        rw [← this] at ka
        exact .inl ka
theorem negR_wOf (r : Row) (t : Int) : wOf (negR r) t = (wOf r t).map (- ·) := by
  unfold wOf negR
  rw [List.find?_map]
  cases h : r.find? ((fun p : Int × Int => decide (p.1 = t)) ∘ fun p => (p.1, -p.2)) with
  | none =>
    have : r.find? (fun p => decide (p.1 = t)) = none := h
    rw [this]; rfl
  | some p =>
    have : r.find? (fun p => decide (p.1 = t)) = some p := h
    rw [this]; rfl
theorem negR_negR (r : Row) : negR (negR r) = r := by
  unfold negR
  rw [List.map_map]
  conv => rhs; rw [← List.map_id r]
  congr 1
  funext p
  show (p.1, - -p.2) = p
  rw [Int.neg_neg]
theorem negR_inj {a b : Row} (h : negR a = negR b) : a = b := by rw [← negR_negR a, h, negR_negR]
theorem nodup_map {α β : Type} {f : α → β} (hf : ∀ a b, f a = f b → a = b) {xs : List α} (h : xs.Nodup) : (xs.map f).Nodup := by
  unfold List.Nodup at h ⊢
  rw [List.pairwise_map]
  exact h.imp fun {a b} n e => n (hf a b e)
/-- at the corner of a row, a thing one later: the form comes later -/
theorem corner_step {T : Nat} {f : List Row} {r : Row} {late : Int} (hf : Form T f) (hr : r ∈ f) (hl : ∀ q ∈ f, ∀ p ∈ q, 1 - p.2 ≤ late) {p : Int × Int} (hp : p ∈ r) : 0 < comes f ((cornerV r late T).set p.1.toNat (1 - p.2)) := by
  have hR := hf.rows r hr
  have hpt := hR.at_ p hp
  have hat : ∀ s : Int × Int, 0 ≤ s.1 → s.1 < T → ((cornerV r late T).set p.1.toNat (1 - p.2)).getD s.1.toNat 0 = if s.1 = p.1 then 1 - p.2 else (cornerV r late T).getD s.1.toNat 0 := fun s h0 h1 => by
    rw [List.getD_eq_getElem?_getD, List.getElem?_set, corner_len]
    by_cases c : s.1 = p.1
    · rw [if_pos (by rw [c]), if_pos c, if_pos (by omega)]; rfl
    · rw [if_neg (by omega), if_neg c, List.getD_eq_getElem?_getD]
  apply Classical.byContradiction
  intro hn
  obtain ⟨⟨q, hq, e⟩, _⟩ := comes_spec hf.ne ((cornerV r late T).set p.1.toNat (1 - p.2))
  have hQ := hf.rows q hq
  have hle : hourOf q ((cornerV r late T).set p.1.toNat (1 - p.2)) ≤ 0 := by omega
  rw [hourOf_le hQ.ne] at hle
  have hu : under q r = true := by
    rw [under_iff]
    intro s hs
    have hst := hQ.at_ s hs
    have h1 := hle s hs
    unfold val at h1
    rw [hat s hst.1 hst.2] at h1
    by_cases c : s.1 = p.1
    · rw [if_pos c] at h1
      exact ⟨p.2, by rw [c]; exact wOf_of hR.up hp, by omega⟩
    · rw [if_neg c] at h1
      have h2 := corner_at (r := r) (late := late) hQ hs
      unfold val at h2
      rw [h2] at h1
      have := hl q hq s hs
      cases w : wOf r s.1 with
      | none => rw [w] at h1; simp only at h1; omega
      | some v => rw [w] at h1; simp only at h1; exact ⟨v, rfl, by omega⟩
  by_cases c : q = r
  · subst c
    have h1 := hle p hp
    unfold val at h1
    rw [hat p hpt.1 hpt.2, if_pos rfl] at h1
    omega
  · have := ((hf.thin.mem r).mp hr).2 q hq c
    rw [hu] at this; cases this
/-- what a box's hours are: far but for the box's own -/
def fillV (box : Row) (far : Int) (T : Nat) : List Int := (List.range T).map fun (k : Nat) => (wOf box (k : Int)).getD far
theorem fill_size (box : Row) (far : Int) (T : Nat) : (fillV box far T).length = T := by simp [fillV]
theorem fill_neg (r : Row) (far : Int) (T : Nat) : fillV (negR r) far T = cornerV r far T := by
  unfold fillV cornerV
  apply List.map_congr_left
  intro k _
  rw [negR_wOf]
  cases wOf r (k : Int) with
  | none => rfl
  | some v =>
    show -v = 0 - v
    omega
theorem fill_neg' (r : Row) (far : Int) (T : Nat) : fillV r (-far) T = (cornerV r far T).map (- ·) := by
  unfold fillV cornerV
  rw [List.map_map]
  apply List.map_congr_left
  intro k _
  show _ = -(match wOf r k with | some v => 0 - v | none => far)
  cases wOf r (k : Int) with
  | none => rfl
  | some v =>
    show v = -(0 - v)
    omega
theorem fill_step {box : Row} {far : Int} {T i : Nat} (hb : RowIn T box) {p : Int × Int} (hp : box[i]? = some p) : setR (fillV (box.take i) far T) p.1 p.2 = .ok (fillV (box.take (i + 1)) far T) := by
  have h := hb.at_ p (List.mem_of_getElem? hp)
  obtain ⟨n, hn⟩ := Int.eq_ofNat_of_zero_le h.1
  rw [hn, setR_ok (by rw [fill_size]; omega)]
  congr 1
  unfold fillV
  apply List.ext_getElem?
  intro j
  rw [List.getElem?_set, List.length_map, List.length_range, List.getElem?_map, List.getElem?_map]
  by_cases c : j < T
  · rw [List.getElem?_range c, Option.map_some, Option.map_some, wOf_take hb.up hp]
    by_cases e : n = j
    · subst e
      rw [if_pos rfl, if_pos (by omega), if_pos hn.symm]; rfl
    · rw [if_neg e, if_neg (by omega)]
  · rw [if_neg (by omega), List.getElem?_eq_none (by simp; omega)]; rfl
theorem WF.try {σ κ τ : Type} {t : FT σ κ τ} {cs : List Nat} {h : Nat → Int → FT σ κ τ} {N : σ → Prop} {C : κ → Prop} {Q : τ → Prop} {E E' : Nat → Int → Prop} (k : WF t N C Q E') (hh : ∀ c r, E' c r → cs.any (isCl (.exc c r)) = true → WF (h c r) N C Q E) (hx : ∀ c r, E' c r → cs.any (isCl (.exc c r)) = false → E c r) : WF (FT.try t cs h) N C Q E := by
  unfold FT.try
  cases t with
  | nx s => exact k
  | ct s => exact k
  | rt s => exact k
  | stuck => exact k
  | exc c r =>
    show WF (if cs.any (isCl (.exc c r)) = true then h c r else .exc c r) N C Q E
    cases q : cs.any (isCl (.exc c r)) with
    | true => exact hh c r k q
    | false => exact hx c r k q
theorem sum_ge : ∀ {xs : List Int}, (∀ x ∈ xs, 0 ≤ x) → 0 ≤ xs.sum ∧ ∀ x ∈ xs, x ≤ xs.sum
  | [], _ => ⟨Int.le_refl _, by simp⟩
  | y :: ys, h => by
    obtain ⟨h1, h2⟩ := sum_ge (xs := ys) fun x hx => h x (List.mem_cons_of_mem _ hx)
    have hy := h y (by simp)
    rw [List.sum_cons]
    refine ⟨by omega, fun x hx => ?_⟩
    rcases List.mem_cons.mp hx with e | hx
    · subst e; omega
    · have := h2 x hx; omega
theorem abs_le (x : Int) : x ≤ absI x ∧ -x ≤ absI x ∧ 0 ≤ absI x := by unfold absI; split <;> omega
/-- columns and forms, negated -/
theorem colHour_neg {T : Nat} {r : Row} {hours : List Int} (hr : RowIn T r) (hl : T ≤ hours.length) : colHour r hours = -hourOf (negR r) (hours.map (- ·)) := by
  have hv : ∀ p ∈ r, val (hours.map (- ·)) (p.1, -p.2) = -val hours p := fun p hp => by
    have := hr.at_ p hp
    unfold val
    rw [List.getD_eq_getElem?_getD, List.getElem?_map, List.getD_eq_getElem?_getD, List.getElem?_eq_getElem (by omega)]
    simp only [Option.map_some, Option.getD_some]
    omega
  have h0 : negR r ≠ [] := (negR_in hr).ne
  obtain ⟨⟨q, hq, e⟩, h2⟩ := hourOf_spec h0 (hours.map (- ·))
  obtain ⟨p, hp, rfl⟩ := List.mem_map.mp hq
  rw [e, hv p hp, Int.neg_neg]
  unfold colHour
  refine minI_eq (List.mem_map_of_mem hp) fun x hx => ?_
  obtain ⟨s, hs, rfl⟩ := List.mem_map.mp hx
  have := h2 (s.1, -s.2) (List.mem_map_of_mem (f := fun p : Int × Int => (p.1, -p.2)) hs)
  rw [e, hv p hp, hv s hs] at this
  omega
theorem colsHour_neg {T : Nat} {f : List Row} {hours : List Int} (h0 : f ≠ []) (hr : ∀ r ∈ f, RowIn T r) (hl : T ≤ hours.length) : colsHour f hours = -comes (f.map negR) (hours.map (- ·)) := by
  obtain ⟨⟨q, hq, e⟩, h2⟩ := comes_spec (f := f.map negR) (by simpa using h0) (hours.map (- ·))
  obtain ⟨r, hrm, rfl⟩ := List.mem_map.mp hq
  rw [e]
  unfold colsHour
  refine maxI_eq (List.mem_map.mpr ⟨r, hrm, colHour_neg (hr r hrm) hl⟩) fun x hx => ?_
  obtain ⟨s, hs, rfl⟩ := List.mem_map.mp hx
  have := h2 (negR s) (List.mem_map_of_mem hs)
  rw [e] at this
  rw [colHour_neg (hr s hs) hl]
  omega
theorem neg_neg_hours (hours : List Int) : (hours.map (- ·)).map (- ·) = hours := by
  rw [List.map_map]
  conv => rhs; rw [← List.map_id hours]
  congr 1
  funext x
  show - -x = x
  rw [Int.neg_neg]
/-- a form's negated rows, sorted -/
theorem neg_sorted {T : Nat} {f : List Row} (h : Form T f) : srows (srows (f.map negR)) = srows (f.map negR) := srows_of (srows_rising (nodup_map (fun _ _ => negR_inj) (Rising.nodup h.thin.rise)))
/-! where a row meets a column -/
def meetB (column : Row) (p : Int × Int) : Bool := match wOf column p.1 with | none => false | some v => decide (v ≤ p.2)
theorem pick_one {r : Row} (h : keysUp r) (t : Int) : (r.filter fun p => decide (p.1 = t)).map (·.2) = (wOf r t).toList := by
  induction r with
  | nil => simp [wOf]
  | cons p r ih =>
    unfold keysUp at h
    rw [List.map_cons, List.pairwise_cons] at h
    have ih := ih h.2
    by_cases c : p.1 = t
    · have hno : r.filter (fun p => decide (p.1 = t)) = [] := by
        rw [List.filter_eq_nil_iff]
        intro q hq z
        have := h.1 q.1 (List.mem_map_of_mem hq)
        rw [decide_eq_true_iff] at z
        omega
      simp [List.filter_cons, c, hno, wOf]
    · rw [List.filter_cons, if_neg (by simpa using c), ih]
      simp [wOf, c]
theorem comes_le {f : List Row} (h : f ≠ []) {hours : List Int} {m : Int} : comes f hours ≤ m ↔ ∃ r ∈ f, hourOf r hours ≤ m := by
  obtain ⟨⟨r, hr, e⟩, h2⟩ := comes_spec h hours
  constructor
  · intro q
    exact ⟨r, hr, by omega⟩
  · rintro ⟨q, hq, k⟩
    have := h2 q hq
    omega
/-- a row's pairs, each as a row, negated -/
def singles (r : Row) : List Row := (negR r).map fun p => [p]
theorem singles_form {T : Nat} {r : Row} (hr : RowIn T r) (hT : T ≤ 1000) : Form T (singles r) := by
  have hn := negR_in hr
  have hl := hn.len
  have e : ∀ q ∈ singles r, ∃ p ∈ negR r, q = [p] := fun q hq => by
    obtain ⟨p, hp, rfl⟩ := List.mem_map.mp hq
    exact ⟨p, hp, rfl⟩
  refine ⟨by unfold singles; simpa using hn.ne, fun q hq => ?_, ⟨?_, fun q => ⟨fun hq => ⟨hq, fun o ho hne => ?_⟩, fun h => h.1⟩⟩, by unfold singles; rw [List.length_map]; omega⟩
  · obtain ⟨p, hp, rfl⟩ := e q hq
    have := hn.at_ p hp
    exact RowIn.one this.1 this.2
  · have hu := hn.up
    unfold keysUp at hu
    unfold singles Rising
    rw [List.pairwise_map] at hu ⊢
    refine hu.imp fun {a b} h => ?_
    simp only [rlt]
    simp [h]
  · obtain ⟨p, hp, rfl⟩ := e q hq
    obtain ⟨s, hs, rfl⟩ := e o ho
    have hk : s.1 ≠ p.1 := fun z => by
      have h1 := wOf_of hn.up hs
      have h2 := wOf_of hn.up hp
      rw [z, h2] at h1
      have h3 := Option.some.inj h1
      exact hne (by rw [show s = p from Prod.ext z h3.symm])
    unfold under wOf
    have : ¬ p.1 = s.1 := fun z => hk z.symm
    simp [this]
theorem singles_le {T : Nat} {r : Row} (hr : RowIn T r) (hours : List Int) : comes (singles r) hours ≤ 0 ↔ ∃ p ∈ r, hours.getD p.1.toNat 0 ≤ p.2 := by
  rw [comes_le (by unfold singles; simpa using (negR_in hr).ne)]
  constructor
  · rintro ⟨q, hq, h⟩
    obtain ⟨s, hs, rfl⟩ := List.mem_map.mp hq
    obtain ⟨p, hp, rfl⟩ := List.mem_map.mp hs
    have h : hours.getD p.1.toNat 0 + -p.2 ≤ 0 := h
    exact ⟨p, hp, by omega⟩
  · rintro ⟨p, hp, h⟩
    refine ⟨[(p.1, -p.2)], List.mem_map_of_mem (f := fun p : Int × Int => [p]) (List.mem_map_of_mem (f := fun p : Int × Int => (p.1, -p.2)) hp), ?_⟩
    show hours.getD p.1.toNat 0 + -p.2 ≤ 0
    omega
theorem corner_get {T : Nat} {r : Row} {late : Int} {t : Int} (h0 : 0 ≤ t) (h1 : t < T) : (cornerV r late T).getD t.toNat 0 = match wOf r t with | some v => 0 - v | none => late := by
  unfold cornerV
  rw [List.getD_eq_getElem?_getD, List.getElem?_map, List.getElem?_range (by omega)]
  simp only [Option.map_some, Option.getD_some, Int.toNat_of_nonneg h0]
theorem corner_set {T : Nat} {r : Row} {late : Int} {t x s : Int} (ht : 0 ≤ t) (ht' : t < T) (h0 : 0 ≤ s) (h1 : s < T) : ((cornerV r late T).set t.toNat x).getD s.toNat 0 = if s = t then x else (cornerV r late T).getD s.toNat 0 := by
  rw [List.getD_eq_getElem?_getD, List.getElem?_set, corner_len]
  by_cases c : s = t
  · rw [if_pos (by rw [c]), if_pos c, if_pos (by omega)]; rfl
  · rw [if_neg (by omega), if_neg c, List.getD_eq_getElem?_getD]
/-! rounds -/
theorem hour_mono {T : Nat} {r : Row} {h1 h2 : List Int} {m : Int} (hr : RowIn T r) (h : ∀ k, k < T → h1.getD k 0 ≤ h2.getD k 0 + m) : hourOf r h1 ≤ hourOf r h2 + m := by
  rw [hourOf_le hr.ne]
  intro p hp
  have hpt := hr.at_ p hp
  have h3 := (hourOf_spec hr.ne h2).2 p hp
  have h4 := h p.1.toNat (by omega)
  unfold val at h3 ⊢
  omega
theorem comes_mono {T : Nat} {f : List Row} {h1 h2 : List Int} {m : Int} (hf : Form T f) (h : ∀ k, k < T → h1.getD k 0 ≤ h2.getD k 0 + m) : comes f h1 ≤ comes f h2 + m := by
  obtain ⟨⟨r, hr, e⟩, _⟩ := comes_spec hf.ne h2
  have h3 := (comes_spec hf.ne h1).2 r hr
  have h4 := hour_mono (hf.rows r hr) h
  omega
def stepV (fs : List (List Row)) (hs : List Int) : List Int := fs.map fun f => comes f hs
def iterV (fs : List (List Row)) (hs : List Int) : Nat → List Int
  | 0 => hs
  | n + 1 => stepV fs (iterV fs hs n)
theorem iter_len {fs : List (List Row)} {hs : List Int} (h : hs.length = fs.length) : ∀ n, (iterV fs hs n).length = fs.length
  | 0 => h
  | n + 1 => by show (fs.map _).length = _; rw [List.length_map]
theorem step_get {fs : List (List Row)} {hs : List Int} {k : Nat} (hk : k < fs.length) : ∃ f ∈ fs, (stepV fs hs).getD k 0 = comes f hs ∧ fs[k]? = some f := by
  refine ⟨fs[k], List.getElem_mem hk, ?_, List.getElem?_eq_getElem hk⟩
  unfold stepV
  rw [List.getD_eq_getElem?_getD, List.getElem?_map, List.getElem?_eq_getElem hk]; rfl
theorem step_mono {fs : List (List Row)} {h1 h2 : List Int} {m : Int} (hf : ∀ f ∈ fs, Form fs.length f) (h : ∀ k, k < fs.length → h1.getD k 0 ≤ h2.getD k 0 + m) : ∀ k, k < fs.length → (stepV fs h1).getD k 0 ≤ (stepV fs h2).getD k 0 + m := fun k hk => by
  obtain ⟨f, hfm, e1, g1⟩ := step_get (hs := h1) hk
  obtain ⟨f', _, e2, g2⟩ := step_get (hs := h2) hk
  rw [g1] at g2
  cases g2
  rw [e1, e2]
  exact comes_mono (hf f hfm) h
theorem iter_mono {fs : List (List Row)} {h1 h2 : List Int} {m : Int} (hf : ∀ f ∈ fs, Form fs.length f) (h : ∀ k, k < fs.length → h1.getD k 0 ≤ h2.getD k 0 + m) : ∀ (n k : Nat), k < fs.length → (iterV fs h1 n).getD k 0 ≤ (iterV fs h2 n).getD k 0 + m
  | 0, k, hk => h k hk
  | n + 1, k, hk => step_mono hf (fun j hj => iter_mono hf h n j hj) k hk
/-! the form of two, joined; step by step -/
structure IsJoinF (T : Nat) (a b g : List Row) : Prop where
  form : Form T g
  comes : ∀ hours, Mi.comes g hours = max (Mi.comes a hours) (Mi.comes b hours)
theorem IsJoinF.uniq {T : Nat} {a b g g' : List Row} (h : IsJoinF T a b g) (k : IsJoinF T a b g') : g = g' := h.form.ext k.form fun hours _ => by rw [h.comes, k.comes]
noncomputable def joinF (T : Nat) (a b : List Row) : List Row := by
  classical exact if h : ∃ g, IsJoinF T a b g then Classical.choose h else []
theorem joinF_eq {T : Nat} {a b g : List Row} (h : IsJoinF T a b g) : joinF T a b = g := by
  have hx : ∃ g, IsJoinF T a b g := ⟨g, h⟩
  unfold joinF
  rw [dif_pos hx]
  exact (Classical.choose_spec hx).uniq h
noncomputable def msV (T : Nat) : List Row → List (List Row) → List (List Row)
  | _, [] => []
  | f, g :: gs => joinF T f g :: msV T (joinF T f g) gs
noncomputable def lastF (T : Nat) (f : List Row) (fs : List (List Row)) : List Row := fs.foldl (joinF T) f
theorem msV_snoc (T : Nat) : ∀ (fs : List (List Row)) (f g : List Row), msV T f (fs ++ [g]) = msV T f fs ++ [joinF T (lastF T f fs) g]
  | [], f, g => rfl
  | h :: fs, f, g => by
    show joinF T f h :: msV T (joinF T f h) (fs ++ [g]) = joinF T f h :: msV T (joinF T f h) fs ++ [joinF T (lastF T (joinF T f h) fs) g]
    rw [msV_snoc T fs]; rfl
theorem msV_last (T : Nat) : ∀ (fs : List (List Row)) (f : List Row), ∃ pre, f :: msV T f fs = pre ++ [lastF T f fs]
  | [], f => ⟨[], rfl⟩
  | h :: fs, f => by
    obtain ⟨pre, e⟩ := msV_last T fs (joinF T f h)
    refine ⟨f :: pre, ?_⟩
    show f :: (joinF T f h :: msV T (joinF T f h) fs) = _
    rw [e]; rfl
theorem prodN_mono : ∀ (fs : List (List Row)) {n m : Nat}, n ≤ m → prodN n fs ≤ prodN m fs
  | [], _, _, h => h
  | f :: fs, n, m, h => prodN_mono fs (Nat.mul_le_mul_right f.length h)
theorem idxR_last {α : Type} (xs : List α) (x : α) : idxR (xs ++ [x]) (-1) = .ok x := by
  unfold idxR idxL
  rw [if_neg (by decide), if_pos (by simp; omega)]
  have : ((-1 : Int) + ((xs ++ [x]).length : Int)).toNat = xs.length := by simp; omega
  rw [this, List.getElem?_append_right (Nat.le_refl _)]
  simp [R.of]
theorem IsJoin.lower {S T : Nat} {a b r : Row} (h : IsJoin S a b r) (ha : RowIn T a) (hb : RowIn T b) : IsJoin T a b r := ⟨⟨h.row.ne, h.row.up, fun p hp => by
  rcases h.pairs hp with k | k
  · exact ha.at_ p k
  · exact hb.at_ p k⟩, h.at_⟩
theorem Joins.thin {T : Nat} {a b s g : List Row} (h : Joins T a b s) (hg : Thin s g) (ha : Form T a) (hb : Form T b) (hl : s.length ≤ 100000) : IsJoinF T a b g := by
  have hr := h.rows
  have hc := h.comes ha.rows hb.rows ha.ne hb.ne
  have s0 := (hc []).1
  refine ⟨Form.of_thin hg hr hl (hg.ne (fun r h => (hr r h).up) s0), fun hours => ?_⟩
  rw [hg.comes (fun r h => (hr r h).up) (fun r h => (hr r h).ne) s0, (hc hours).2]
theorem Joins.step {T : Nat} {a b s ys : List Row} {i : Nat} {x : Row} (h : Joins T (a.take i) b s) (hx : a[i]? = some x) (hy : Each (IsJoin T x) b ys) : Joins T (a.take (i + 1)) b (s ++ ys) := by
  have ht : a.take (i + 1) = a.take i ++ [x] := by rw [List.take_add_one, hx]; rfl
  rw [ht]
  refine ⟨fun r hr => ?_, fun x' hx' y hy' => ?_⟩
  · rcases List.mem_append.mp hr with hr | hr
    · obtain ⟨x', h1, y, h2, h3⟩ := h.of r hr
      exact ⟨x', List.mem_append_left _ h1, y, h2, h3⟩
    · obtain ⟨y, h1, h2⟩ := hy.mem hr
      exact ⟨x, by simp, y, h1, h2⟩
  · rcases List.mem_append.mp hx' with hx' | hx'
    · obtain ⟨r, h1, h2⟩ := h.has x' hx' y hy'
      exact ⟨r, List.mem_append_left _ h1, h2⟩
    · have : x' = x := by simpa using hx'
      subst this
      obtain ⟨r, h1, h2⟩ := hy.of hy'
      exact ⟨r, List.mem_append_right _ h1, h2⟩
/-! the form of two, whichever comes first; step by step -/
structure IsUnionF (T : Nat) (a b g : List Row) : Prop where
  form : Form T g
  comes : ∀ hours, Mi.comes g hours = min (Mi.comes a hours) (Mi.comes b hours)
theorem IsUnionF.uniq {T : Nat} {a b g g' : List Row} (h : IsUnionF T a b g) (k : IsUnionF T a b g') : g = g' := h.form.ext k.form fun hours _ => by rw [h.comes, k.comes]
noncomputable def unionF (T : Nat) (a b : List Row) : List Row := by
  classical exact if h : ∃ g, IsUnionF T a b g then Classical.choose h else []
theorem unionF_eq {T : Nat} {a b g : List Row} (h : IsUnionF T a b g) : unionF T a b = g := by
  have hx : ∃ g, IsUnionF T a b g := ⟨g, h⟩
  unfold unionF
  rw [dif_pos hx]
  exact (Classical.choose_spec hx).uniq h
noncomputable def usV (T : Nat) : List Row → List (List Row) → List (List Row)
  | _, [] => []
  | f, g :: gs => unionF T f g :: usV T (unionF T f g) gs
noncomputable def lastU (T : Nat) (f : List Row) (fs : List (List Row)) : List Row := fs.foldl (unionF T) f
theorem Thin.union {T : Nat} {a b g : List Row} (hg : Thin (a ++ b) g) (ha : Form T a) (hb : Form T b) (hl : (a ++ b).length ≤ 100000) : IsUnionF T a b g ∧ g.length ≤ a.length + b.length := by
  have hr : ∀ r ∈ a ++ b, RowIn T r := fun r hr => by
    rcases List.mem_append.mp hr with h | h
    · exact ha.rows r h
    · exact hb.rows r h
  have n0 : a ++ b ≠ [] := by simp [ha.ne]
  refine ⟨⟨Form.of_thin hg hr hl (hg.ne (fun r h => (hr r h).up) n0), fun hours => ?_⟩, by have := hg.len; rwa [List.length_append] at this⟩
  rw [hg.comes (fun r h => (hr r h).up) (fun r h => (hr r h).ne) n0, comes_append ha.ne hb.ne]
theorem all_append' {α : Type} (xs ys : List α) (p : α → Bool) : (xs ++ ys).all p = (xs.all p && ys.all p) := List.all_append
end Mi

/-! Mi, part Y: texts. -/
namespace Mi
open PySem
/-- the signs -/
def sl (x : Str) : List Nat := x.cps.toList
theorem sl_ext {x y : Str} (h : sl x = sl y) : x = y := by
  obtain ⟨⟨a⟩⟩ := x
  obtain ⟨⟨b⟩⟩ := y
  have h : a = b := h
  subst h; rfl
theorem sl_app (x y : Str) : sl (x ++ y) = sl x ++ sl y := by
  show (x.cps ++ y.cps).toList = _
  rw [Array.toList_append]; rfl
theorem sl_len (x : Str) : x.length = (sl x).length := by
  show x.cps.size = _
  simp [sl]
def ofL (l : List Nat) : Str := ⟨l.toArray⟩
@[simp] theorem sl_ofL (l : List Nat) : sl (ofL l) = l := rfl
theorem len_app (x y : Str) : (x ++ y).length = x.length + y.length := by rw [sl_len, sl_len, sl_len, sl_app, List.length_append]
/-- a text that may be laid, of at most n signs -/
structure SOk (n : Nat) (x : Str) : Prop where
  len : x.length ≤ n
  ok : ∀ c ∈ sl x, c < 1114112
theorem SOk.mono {n m : Nat} {x : Str} (h : SOk n x) (k : n ≤ m) : SOk m x := ⟨Nat.le_trans h.len k, h.ok⟩
theorem SOk.app {n m : Nat} {x y : Str} (h : SOk n x) (k : SOk m y) : SOk (n + m) (x ++ y) := ⟨by rw [len_app]; have := h.len; have := k.len; omega, fun c hc => by
  rw [sl_app] at hc
  rcases List.mem_append.mp hc with hc | hc
  · exact h.ok c hc
  · exact k.ok c hc⟩
theorem SOk.sub {n : Nat} {x : Str} (h : SOk n x) {l : List Nat} (k : l.length ≤ (sl x).length) (k2 : ∀ c ∈ l, c ∈ sl x) : SOk n (ofL l) := ⟨by rw [sl_len, sl_ofL]; have := h.len; rw [sl_len] at this; omega, fun c hc => h.ok c (k2 c hc)⟩
theorem strOk_of {n : Nat} {x : Str} (h : SOk n x) : PyData.strOk x = true := by
  unfold PyData.strOk
  rw [Array.all_eq_true]
  intro i hi
  exact decide_eq_true (h.ok _ (by unfold sl; simp))
theorem catS_ok {x y : Str} (h : x.length + y.length ≤ 16777216) : catS x y = .ok (x ++ y) := by
  unfold catS lineN; rw [if_pos h]
theorem lenS_ok {x : Str} (h : x.length ≤ 16777216) : lenS x = .ok (x.length : Int) := by
  unfold lenS lineN; rw [if_pos h]
theorem cutS_ok {x : Str} (h : x.length ≤ 16777216) (lo hi : Option Int) : cutS x lo hi = .ok (ofL (cutL (sl x) lo hi)) := by
  unfold cutS lineN; rw [if_pos h]; rfl
theorem idxS_nat {x : Str} (h : x.length ≤ 16777216) {i : Nat} {c : Nat} (hc : (sl x)[i]? = some c) : idxS x (i : Int) = .ok (ofL [c]) := by
  unfold idxS lineN; rw [if_pos h]
  unfold idxL
  rw [if_pos (by omega), Int.toNat_natCast]
  show R.of (((sl x)[i]?).map _) = _
  rw [hc]; rfl
theorem idxS_ex {x : Str} (h : x.length ≤ 16777216) {i : Int} (h0 : 0 ≤ i) (h1 : i < x.length) : ∃ c ∈ sl x, (sl x)[i.toNat]? = some c ∧ idxS x i = .ok (ofL [c]) := by
  obtain ⟨k, rfl⟩ := Int.eq_ofNat_of_zero_le h0
  rw [sl_len] at h1
  have hk : k < (sl x).length := by omega
  exact ⟨(sl x)[k], List.getElem_mem hk, by simp [List.getElem?_eq_getElem hk], idxS_nat h (List.getElem?_eq_getElem hk)⟩
theorem inS_one (c : Nat) (z : Str) : inS (ofL [c]) z = .ok (decide (c ∈ sl z)) := by
  unfold inS
  have : (ofL [c]).cps.size = 1 := by simp [ofL]
  rw [if_pos this]
  simp [ofL, sl]
theorem eqD_str {n m : Nat} {x y : Str} (hx : SOk n x) (hy : SOk m y) : eqD (.str x) (.str y) = some (decide (x = y)) := by
  have e1 : (D.str x).py = some (.str x) := by simp [D.py]
  have e2 : (D.str y).py = some (.str y) := by simp [D.py]
  unfold eqD
  rw [e1, e2]
  have s : ∀ {n : Nat} {z : Str}, SOk n z → SeqAt.shaped (.str z) = true := fun {n z} hz => by
    unfold SeqAt.shaped PyData.canLay0
    rw [strOk_of hz]; rfl
  simp only [s hx, s hy, Bool.and_self, if_true]
  unfold PyData.eqv
  congr 1
theorem inD_strs {n m : Nat} {x : Str} {ys : List Str} (hx : SOk n x) (hy : ∀ y ∈ ys, SOk m y) : inD (.str x) (.tup (ys.map .str)) = some (decide (x ∈ ys)) := by
  show inL (.str x) (ys.map .str) = _
  unfold inL
  have e1 : (D.str x).py = some (.str x) := by simp [D.py]
  have e2 : ∀ ys : List Str, D.pys (ys.map .str) = some (ys.map .str) := fun ys => by
    induction ys with
    | nil => simp [D.pys]
    | cons y ys ih => rw [List.map_cons]; simp only [D.pys, D.py]; rw [ih]; rfl
  rw [e1, e2]
  have s : ∀ {n : Nat} {z : Str}, SOk n z → PyData.canLay0 (.str z) = true := fun {n z} hz => by
    unfold PyData.canLay0
    exact strOk_of hz
  have s1 : SeqAt.shaped (.str x) = true := by
    unfold SeqAt.shaped
    rw [s hx]; rfl
  have s2 : ∀ ys : List Str, (∀ y ∈ ys, SOk m y) → PyData.canLayAll0 (ys.map .str) = true ∧ PyData.depthAll (ys.map .str) = 0 := fun ys => by
    induction ys with
    | nil => intro _; exact ⟨by simp [PyData.canLayAll0], by simp [PyData.depthAll]⟩
    | cons y ys ih =>
      intro h
      obtain ⟨i1, i2⟩ := ih fun z hz => h z (List.mem_cons_of_mem _ hz)
      rw [List.map_cons]
      refine ⟨?_, ?_⟩
      · simp only [PyData.canLayAll0]
        rw [s (h y List.mem_cons_self), i1]; rfl
      · simp only [PyData.depthAll]
        rw [i2]
        simp [PyData.depth]
  obtain ⟨t1, t2⟩ := s2 ys hy
  have s3 : SeqAt.shaped (.list (ys.map .str)) = true := by
    have d1 : (PyData.list (ys.map .str)).depth = 1 := by simp only [PyData.depth]; rw [t2]
    unfold SeqAt.shaped
    simp only [PyData.canLay0]
    rw [t1, Bool.true_and]
    exact decide_eq_true (by rw [d1]; decide)
  simp only [s1, s3, Bool.and_self, if_true]
  congr 1
  rw [Bool.eq_iff_iff, List.any_eq_true, decide_eq_true_eq]
  constructor
  · rintro ⟨p, hp, he⟩
    obtain ⟨y, hy, rfl⟩ := List.mem_map.mp hp
    unfold PyData.eqv at he
    have : y = x := by simpa using he
    rw [← this]; exact hy
  · intro h
    refine ⟨_, List.mem_map_of_mem h, ?_⟩
    unfold PyData.eqv
    simp

theorem letters_eq : sl ("abcdefghijklmnopqrstuvwxyz" : Str) = (List.range 26).map (· + 97) := by decide +kernel
theorem figures_eq : sl ("0123456789" : Str) = (List.range 10).map (· + 48) := by decide +kernel
theorem signs_eq : sl ("abcdefghijklmnopqrstuvwxyz0123456789" : Str) = (List.range 26).map (· + 97) ++ (List.range 10).map (· + 48) := by decide +kernel
def isLet (c : Nat) : Bool := decide (97 ≤ c ∧ c ≤ 122)
def isFig (c : Nat) : Bool := decide (48 ≤ c ∧ c ≤ 57)
theorem in_letters {c : Nat} : decide (c ∈ sl ("abcdefghijklmnopqrstuvwxyz" : Str)) = isLet c := by
  rw [letters_eq]
  unfold isLet
  congr 1
  rw [List.mem_map, eq_iff_iff]
  exact ⟨fun ⟨a, h, e⟩ => by rw [List.mem_range] at h; omega, fun h => ⟨c - 97, by rw [List.mem_range]; omega, by omega⟩⟩
theorem in_figures {c : Nat} : decide (c ∈ sl ("0123456789" : Str)) = isFig c := by
  rw [figures_eq]
  unfold isFig
  congr 1
  rw [List.mem_map, eq_iff_iff]
  exact ⟨fun ⟨a, h, e⟩ => by rw [List.mem_range] at h; omega, fun h => ⟨c - 48, by rw [List.mem_range]; omega, by omega⟩⟩
theorem in_both {c : Nat} : decide (c ∈ sl ("abcdefghijklmnopqrstuvwxyz0123456789" : Str)) = (isLet c || isFig c) := by
  rw [← in_letters, ← in_figures, signs_eq, letters_eq, figures_eq, Bool.eq_iff_iff]
  simp [List.mem_append]
def wordsL : List Str := ["plan", "given", "all", "first", "part"]
theorem words_ok : ∀ w ∈ wordsL, SOk 5 w := by
  have : wordsL.all (fun w => decide (w.length ≤ 5) && (sl w).all fun c => decide (c < 1114112)) = true := by decide +kernel
  intro w hw
  have := List.all_eq_true.mp this w hw
  rw [Bool.and_eq_true, decide_eq_true_eq, List.all_eq_true] at this
  exact ⟨this.1, fun c hc => of_decide_eq_true (this.2 c hc)⟩
/-- what is a name -/
def nameB (x : Str) : Bool := match sl x with
  | [] => false
  | c :: r => decide (x.length ≤ 12) && !decide (x ∈ wordsL) && isLet c && r.all fun c => isLet c || isFig c
theorem chs_eq (x : Str) : chs x = (sl x).map fun c => ofL [c] := rfl
/-- texts of numbers -/
theorem strR_nat {k : Nat} (h : k < 1000000) : strR (k : Int) = .ok (toString (k : Int) : Str) := by
  unfold strR
  rw [if_pos]
  rw [Int.natAbs_natCast]
  by_cases c : k = 0
  · subst c; decide
  · have h2 : k.log2 < 20 := (Nat.log2_lt c).mpr (by omega)
    omega
def numS (k : Nat) : Str := toString (k : Int)
def numB (n : Nat) : Bool := (List.range n).all fun k => decide ((numS k).length ≤ 3) && (sl (numS k)).all isFig && decide (sl (numS k) ≠ [])
theorem num_ok {k : Nat} (h : k < 100) : (numS k).length ≤ 3 ∧ (∀ c ∈ sl (numS k), isFig c = true) ∧ sl (numS k) ≠ [] := by
  have : numB 100 = true := by decide +kernel
  unfold numB at this
  have := List.all_eq_true.mp this k (List.mem_range.mpr h)
  rw [Bool.and_eq_true, Bool.and_eq_true, decide_eq_true_eq, decide_eq_true_eq, List.all_eq_true] at this
  exact ⟨this.1.1, this.1.2, this.2⟩
theorem num_inj {j k : Nat} (hj : j < 100) (hk : k < 100) (e : numS j = numS k) : j = k := by
  have : ((List.range 100).all fun j => (List.range 100).all fun k => !decide (numS j = numS k) || decide (j = k)) = true := by decide +kernel
  have := List.all_eq_true.mp (List.all_eq_true.mp this j (List.mem_range.mpr hj)) k (List.mem_range.mpr hk)
  rw [Bool.or_eq_true, decide_eq_true_eq] at this
  rcases this with h | h
  · simp [e] at h
  · exact h
/-- the names that are drawn -/
def spotL (k : Nat) : List Nat := [97 + k % 26, 97 + k / 26 % 26]
def nameV (base : List Nat) (v k : Nat) : Str := match v with
  | 0 => ofL ([120] ++ base ++ sl (numS k))
  | 1 => ofL ([121] ++ sl (numS k) ++ base)
  | 2 => ofL ([113] ++ base ++ spotL k)
  | _ => ofL (spotL k ++ [113] ++ base)
structure BaseOk (base : List Nat) : Prop where
  len : base.length ≤ 9
  ok : ∀ c ∈ base, isLet c = true

theorem spot_let (k : Nat) : ∀ c ∈ spotL k, isLet c = true := by
  intro c hc
  simp only [spotL, List.mem_cons, List.not_mem_nil, or_false] at hc
  unfold isLet
  rw [decide_eq_true_eq]
  rcases hc with rfl | rfl <;> omega
theorem spot_inj {j k : Nat} (hj : j < 676) (hk : k < 676) (e : spotL j = spotL k) : j = k := by
  simp only [spotL, List.cons.injEq, and_true] at e
  omega
theorem name_inj {base : List Nat} {v j k : Nat} (hj : j < 100) (hk : k < 100) (e : nameV base v j = nameV base v k) : j = k := by
  have e := congrArg sl e
  match v with
  | 0 =>
    simp only [nameV, sl_ofL] at e
    exact num_inj hj hk (sl_ext (List.append_cancel_left e))
  | 1 =>
    simp only [nameV, sl_ofL] at e
    have := List.append_cancel_right e
    exact num_inj hj hk (sl_ext (List.append_cancel_left this))
  | 2 =>
    simp only [nameV, sl_ofL] at e
    exact spot_inj (by omega) (by omega) (List.append_cancel_left e)
  | v + 3 =>
    simp only [nameV, sl_ofL] at e
    exact spot_inj (by omega) (by omega) (List.append_cancel_right (List.append_cancel_right e))
theorem lf_lt {c : Nat} (h : isLet c = true ∨ isFig c = true) : c < 1114112 := by
  unfold isLet isFig at h
  rw [decide_eq_true_eq, decide_eq_true_eq] at h
  omega
theorem name_signs {base : List Nat} (hb : BaseOk base) (v : Nat) {k : Nat} (hk : k < 100) : ∃ c r, sl (nameV base v k) = c :: r ∧ isLet c = true ∧ (∀ d ∈ r, isLet d = true ∨ isFig d = true) ∧ r.length ≤ 11 ∧ (c = 120 ∨ c = 121 ∨ c = 113 ∨ ∃ x r', r = x :: 113 :: r') := by
  obtain ⟨n1, n2, _⟩ := num_ok hk
  have hn : (sl (numS k)).length ≤ 2 := by
    have : ((List.range 100).all fun k => decide ((sl (numS k)).length ≤ 2)) = true := by decide +kernel
    exact of_decide_eq_true (List.all_eq_true.mp this k (List.mem_range.mpr hk))
  have hl := hb.len
  match v with
  | 0 =>
    refine ⟨120, base ++ sl (numS k), rfl, by decide, fun d hd => ?_, by rw [List.length_append]; omega, .inl rfl⟩
    rcases List.mem_append.mp hd with h | h
    · exact .inl (hb.ok d h)
    · exact .inr (n2 d h)
  | 1 =>
    refine ⟨121, sl (numS k) ++ base, rfl, by decide, fun d hd => ?_, by rw [List.length_append]; omega, .inr (.inl rfl)⟩
    rcases List.mem_append.mp hd with h | h
    · exact .inr (n2 d h)
    · exact .inl (hb.ok d h)
  | 2 =>
    refine ⟨113, base ++ spotL k, rfl, by decide, fun d hd => .inl ?_, by rw [List.length_append]; simp [spotL]; omega, .inr (.inr (.inl rfl))⟩
    rcases List.mem_append.mp hd with h | h
    · exact hb.ok d h
    · exact spot_let k d h
  | v + 3 =>
    refine ⟨97 + k % 26, (97 + k / 26 % 26) :: 113 :: base, rfl, spot_let k _ (by simp [spotL]), fun d hd => .inl ?_, by simp; omega, .inr (.inr (.inr ⟨_, _, rfl⟩))⟩
    simp only [List.mem_cons] at hd
    rcases hd with rfl | rfl | h
    · exact spot_let k _ (by simp [spotL])
    · decide
    · exact hb.ok d h
theorem name_sok {base : List Nat} (hb : BaseOk base) (v : Nat) {k : Nat} (hk : k < 100) : SOk 12 (nameV base v k) := by
  obtain ⟨c, r, e, h1, h2, h3, _⟩ := name_signs hb v hk
  refine ⟨by rw [sl_len, e, List.length_cons]; omega, fun d hd => ?_⟩
  rw [e] at hd
  rcases List.mem_cons.mp hd with rfl | hd
  · exact lf_lt (.inl h1)
  · exact lf_lt (h2 d hd)
theorem words_sl : wordsL.map sl = [[112, 108, 97, 110], [103, 105, 118, 101, 110], [97, 108, 108], [102, 105, 114, 115, 116], [112, 97, 114, 116]] := by decide +kernel
theorem name_is {base : List Nat} (hb : BaseOk base) (v : Nat) {k : Nat} (hk : k < 100) : nameB (nameV base v k) = true := by
  obtain ⟨c, r, e, h1, h2, h3, h4⟩ := name_signs hb v hk
  unfold nameB
  rw [e]
  simp only [Bool.and_eq_true, Bool.not_eq_true', decide_eq_true_eq, decide_eq_false_iff_not, List.all_eq_true, Bool.or_eq_true]
  refine ⟨⟨⟨by rw [sl_len, e, List.length_cons]; omega, fun hw => ?_⟩, h1⟩, h2⟩
  have := List.mem_map_of_mem (f := sl) hw
  rw [words_sl, e] at this
  simp only [List.mem_cons, List.not_mem_nil, or_false, List.cons.injEq] at this
  rcases h4 with rfl | rfl | rfl | ⟨x, r', rfl⟩
  · omega
  · omega
  · omega
  · rcases this with ⟨_, h⟩ | ⟨_, h⟩ | ⟨_, h⟩ | ⟨_, h⟩ | ⟨_, h⟩ <;> simp at h

/-! books -/
abbrev RowT := Str × Str × List (Int × Int)
structure RowFit (ahead : List PlanT) (g i : Nat) (r : RowT) : Prop where
  len : 1 ≤ r.2.2.length ∧ r.2.2.length ≤ 40
  items : ∀ p ∈ r.2.2, (0 ≤ p.1 ∧ p.1 < (g : Int) + i) ∧ -(10 ^ 30 : Int) < p.2 ∧ p.2 < 10 ^ 30
  how : r.2.1 = "all" ∨ r.2.1 = "first" ∨ ∃ q ∈ ahead, r.2.1 = q.1 ∧ r.2.2.length = q.2.1.length
structure PlanFit (ahead : List PlanT) (p : PlanT) : Prop where
  name : nameB p.1 = true
  sok : SOk 12 p.1
  gl : 1 ≤ p.2.1.length ∧ p.2.1.length ≤ 12
  rl : 1 ≤ p.2.2.length ∧ p.2.2.length ≤ 40
  nd : (p.2.1 ++ p.2.2.map (·.1)).Nodup
  names : ∀ n ∈ p.2.1 ++ p.2.2.map (·.1), nameB n = true ∧ SOk 12 n
  rows : ∀ i r, p.2.2[i]? = some r → RowFit ahead p.2.1.length i r
structure BookFit (ps : List PlanT) : Prop where
  nd : (ps.map (·.1)).Nodup
  len : 1 ≤ ps.length ∧ ps.length ≤ 20
  fit : ∀ i p, ps[i]? = some p → PlanFit (ps.take i) p
theorem all_word : nameB ("all" : Str) = false := by decide +kernel
theorem first_word : nameB ("first" : Str) = false := by decide +kernel
theorem all_sok : SOk 5 ("all" : Str) := words_ok _ (by decide +kernel)
theorem first_sok : SOk 5 ("first" : Str) := words_ok _ (by decide +kernel)
theorem RowFit.sok {ahead : List PlanT} {g i : Nat} {r : RowT} (h : RowFit ahead g i r) (ha : ∀ q ∈ ahead, SOk 12 q.1) : SOk 12 r.2.1 := by
  rcases h.how with e | e | ⟨q, hq, e, _⟩
  · rw [e]; exact all_sok.mono (by decide)
  · rw [e]; exact first_sok.mono (by decide)
  · rw [e]; exact ha q hq
theorem PlanFit.mono {a b : List PlanT} {p : PlanT} (h : PlanFit a p) (k : ∀ q ∈ a, q ∈ b) : PlanFit b p := ⟨h.name, h.sok, h.gl, h.rl, h.nd, h.names, fun i r hr => ⟨(h.rows i r hr).len, (h.rows i r hr).items, by
  rcases (h.rows i r hr).how with e | e | ⟨q, hq, e, e2⟩
  · exact .inl e
  · exact .inr (.inl e)
  · exact .inr (.inr ⟨q, k q hq, e, e2⟩)⟩⟩
theorem BookFit.mem {ps : List PlanT} (h : BookFit ps) {p : PlanT} (hp : p ∈ ps) : ∃ i, ps[i]? = some p ∧ PlanFit (ps.take i) p := by
  obtain ⟨i, hi, e⟩ := List.getElem_of_mem hp
  have e2 : ps[i]? = some p := by rw [List.getElem?_eq_getElem hi, e]
  exact ⟨i, e2, h.fit i p e2⟩
theorem BookFit.soks {ps : List PlanT} (h : BookFit ps) : ∀ p ∈ ps, SOk 12 p.1 := fun p hp => by
  obtain ⟨_, _, k⟩ := h.mem hp
  exact k.sok
/-- the weights, plan by plan -/
def stepW (m : List (Str × Int)) (p : PlanT) : List (Str × Int) := putT p.1 ((p.2.2.length : Int) + (p.2.2.filterMap fun r => lookT r.2.1 m).sum) m
def wts (ps : List PlanT) : List (Str × Int) := ps.foldl stepW []
theorem wts_snoc (ps : List PlanT) (p : PlanT) : wts (ps ++ [p]) = stepW (wts ps) p := by simp [wts]
theorem wts_take {ps : List PlanT} {i : Nat} {p : PlanT} (h : ps[i]? = some p) : wts (ps.take (i + 1)) = stepW (wts (ps.take i)) p := by
  rw [List.take_add_one, h]; exact wts_snoc _ _
theorem look_step (m : List (Str × Int)) (p : PlanT) (q : Str) : lookT q (stepW m p) = if q = p.1 then some ((p.2.2.length : Int) + (p.2.2.filterMap fun r => lookT r.2.1 m).sum) else lookT q m := lookT_put _ _ _ _
theorem wts_some (ps : List PlanT) : ∀ i, i ≤ ps.length → ∀ q, (lookT q (wts (ps.take i))).isSome = true ↔ ∃ p ∈ ps.take i, q = p.1
  | 0, _, q => by simp [wts, lookT]
  | i + 1, hi, q => by
    have hp := List.getElem?_eq_getElem (show i < ps.length by omega)
    rw [wts_take hp, look_step, List.take_add_one, hp]
    have ih := wts_some ps i (by omega) q
    split
    · rename_i e
      exact ⟨fun _ => ⟨ps[i], List.mem_append_right _ (List.mem_singleton.mpr rfl), e⟩, fun _ => rfl⟩
    · rename_i e
      rw [ih]
      constructor
      · rintro ⟨p, h, e⟩; exact ⟨p, List.mem_append_left _ h, e⟩
      · rintro ⟨p, h, e2⟩
        rcases List.mem_append.mp h with h | h
        · exact ⟨p, h, e2⟩
        · have : p = ps[i] := by simpa using h
          subst this; exact absurd e2 e
theorem wts_len (ps : List PlanT) : ∀ i, i ≤ ps.length → (wts (ps.take i)).length ≤ i ∧ ((wts (ps.take i)).map (·.1)).Nodup
  | 0, _ => by simp [wts]
  | i + 1, hi => by
    have hp := List.getElem?_eq_getElem (show i < ps.length by omega)
    obtain ⟨h1, h2⟩ := wts_len ps i (by omega)
    rw [wts_take hp]
    obtain ⟨k1, k2, _⟩ := putT_keys (ps[i]).1 ((ps[i].2.2.length : Int) + (ps[i].2.2.filterMap fun r => lookT r.2.1 (wts (ps.take i))).sum) _ h2
    refine ⟨?_, k1⟩
    unfold stepW
    omega
theorem wts_stay {ps : List PlanT} (hn : (ps.map (·.1)).Nodup) {i : Nat} {p : PlanT} (hp : ps[i]? = some p) : ∀ j, i < j → j ≤ ps.length → lookT p.1 (wts (ps.take j)) = lookT p.1 (wts (ps.take (i + 1)))
  | 0, h, _ => by omega
  | j + 1, h, hj => by
    by_cases e : j = i
    · rw [e]
    · have hq := List.getElem?_eq_getElem (show j < ps.length by omega)
      rw [wts_take hq, look_step, if_neg, wts_stay hn hp j (by omega) (by omega)]
      intro e2
      have hi := (List.getElem?_eq_some_iff.mp hp)
      obtain ⟨hi, e3⟩ := hi
      have := List.pairwise_iff_getElem.mp hn i j (by simpa using hi) (by simp; omega) (by omega)
      simp only [List.getElem_map] at this
      rw [e3] at this
      exact this e2
theorem PlanFit.look {ps : List PlanT} (h : BookFit ps) {i : Nat} {p : PlanT} (hp : ps[i]? = some p) {r : RowT} (hr : r ∈ p.2.2) : ((r.2.1 = "all" ∨ r.2.1 = "first") ∧ lookT r.2.1 (wts (ps.take i)) = none) ∨ ((r.2.1 ≠ "all" ∧ r.2.1 ≠ "first") ∧ ∃ w, lookT r.2.1 (wts (ps.take i)) = some w) := by
  have hi := (List.getElem?_eq_some_iff.mp hp).1
  obtain ⟨k, hk, e⟩ := List.getElem_of_mem hr
  have f := (h.fit i p hp).rows k r (by rw [List.getElem?_eq_getElem hk, e])
  have iff := wts_some ps i (by omega) r.2.1
  have nm : ∀ q ∈ ps.take i, nameB q.1 = true := fun q hq => by
    obtain ⟨_, _, k⟩ := h.mem (List.mem_of_mem_take hq)
    exact k.name
  have no : (∀ q ∈ ps.take i, r.2.1 ≠ q.1) → lookT r.2.1 (wts (ps.take i)) = none := fun hne => by
    cases q : lookT r.2.1 (wts (ps.take i)) with
    | none => rfl
    | some w =>
      rw [q] at iff
      obtain ⟨p, hp, e⟩ := iff.mp rfl
      exact absurd e (hne p hp)
  rcases f.how with e | e | ⟨q, hq, e, _⟩
  · refine .inl ⟨.inl e, no fun q hq e2 => ?_⟩
    have := nm q hq
    rw [← e2, e, all_word] at this; cases this
  · refine .inl ⟨.inr e, no fun q hq e2 => ?_⟩
    have := nm q hq
    rw [← e2, e, first_word] at this; cases this
  · have := nm q hq
    refine .inr ⟨⟨fun z => ?_, fun z => ?_⟩, Option.isSome_iff_exists.mp (iff.mpr ⟨q, hq, e⟩)⟩
    · rw [← e, z, all_word] at this; cases this
    · rw [← e, z, first_word] at this; cases this

/-! plans run -/
def hourV (T : Str → List Int → Int) (how : Str) (times : List Int) : Int := if how = "all" then maxI times else if how = "first" then minI times else T how times
def runRows (T : Str → List Int → Int) (rows : List RowT) (hs : List Int) : List Int := rows.foldl (fun found r => found ++ [hourV T r.2.1 (r.2.2.map (val found))]) hs
theorem runRows_snoc (T : Str → List Int → Int) (rows : List RowT) (r : RowT) (hs : List Int) : runRows T (rows ++ [r]) hs = runRows T rows hs ++ [hourV T r.2.1 (r.2.2.map (val (runRows T rows hs)))] := by simp [runRows]
theorem runRows_take (T : Str → List Int → Int) {rows : List RowT} {k : Nat} {r : RowT} (h : rows[k]? = some r) (hs : List Int) : runRows T (rows.take (k + 1)) hs = runRows T (rows.take k) hs ++ [hourV T r.2.1 (r.2.2.map (val (runRows T (rows.take k) hs)))] := by
  rw [List.take_add_one, h]; exact runRows_snoc _ _ _ _
theorem runRows_len (T : Str → List Int → Int) : ∀ (rows : List RowT) (hs : List Int), (runRows T rows hs).length = hs.length + rows.length
  | [], hs => by simp [runRows]
  | r :: rows, hs => by
    show (runRows T rows (hs ++ [hourV T r.2.1 (r.2.2.map (val hs))])).length = _
    rw [runRows_len T rows]; simp; omega
def tellR : List PlanT → Str → List Int → Int
  | [], _, _ => 0
  | p :: rest, name, hs => if name = p.1 then (runRows (tellR rest) p.2.2 hs).getLastD 0 else tellR rest name hs
/-- what a plan tells of the earlier ones -/
def tellV (ps : List PlanT) (i : Nat) : Str → List Int → Int := tellR (ps.take i).reverse
def runV (ps : List PlanT) (i : Nat) (p : PlanT) (hs : List Int) : List Int := runRows (tellV ps i) p.2.2 hs
theorem tell_at {ps : List PlanT} (hn : (ps.map (·.1)).Nodup) {j : Nat} {q : PlanT} (hq : ps[j]? = some q) (hs : List Int) : ∀ i, j < i → i ≤ ps.length → tellV ps i q.1 hs = (runV ps j q hs).getLastD 0
  | 0, h, _ => by omega
  | i + 1, h, hi => by
    have hp := List.getElem?_eq_getElem (show i < ps.length by omega)
    unfold tellV
    rw [List.take_add_one, hp]
    simp only [Option.toList_some, List.reverse_append, List.reverse_cons, List.reverse_nil, List.nil_append, List.singleton_append, tellR]
    by_cases e : j = i
    · subst e
      rw [hp] at hq
      cases hq
      rw [if_pos rfl]; rfl
    · rw [if_neg]
      · exact tell_at hn hq hs i (by omega) (by omega)
      · intro e2
        obtain ⟨hj, e3⟩ := List.getElem?_eq_some_iff.mp hq
        have := List.pairwise_iff_getElem.mp hn j i (by simpa using hj) (by simp; omega) (by omega)
        simp only [List.getElem_map] at this
        rw [e3] at this
        exact this e2
theorem getLast_idx {xs : List Int} (h : xs ≠ []) : idxR xs (-1) = .ok (xs.getLastD 0) := by
  have := List.dropLast_concat_getLast h
  rw [← this, idxR_last]
  simp
end Mi

namespace Mi
open PySem L2 PySem.Spec PyProof.Rows
def f_plan_by_b1 : List MS := [.ife (.cmp .eq (.fld (.v 2) 0) (.v 1)) [.ret (.v 2)] []]
/-- plan_by: 0=book 1=name 2=plan -/
def f_plan_by : FD := ⟨2, 3, [.for (.one 2) (.fld (.v 0) 4) f_plan_by_b1 [2], .raise 6 none], [.bor, .bor], [], false⟩
/-- hour_of: 0=book 1=how 2=times -/
def f_hour_of : FD := ⟨3, 3, [.ife (.cmp .eq (.v 1) (.str ("all" : PySem.Str))) [.ret (.blt .max1 [.v 2])] [], .ife (.cmp .eq (.v 1) (.str ("first" : PySem.Str))) [.ret (.blt .min1 [.v 2])] [], .ret (.call 275 [.v 0, .v 1, .v 2])], [.bor, .bor, .bor], [], false⟩
def f_hours_of_e1 : ME := .bin .add (.idx (.v 3) (.v 6)) (.v 7)
def f_hours_of_b2 : List MS := [.set 5 (.lc f_hours_of_e1 (.many [6, 7]) (.idx (.v 4) (.int 2)) none), .app 3 (.call 273 [.v 0, .idx (.v 4) (.int 1), .v 5])]
/-- hours_of: 0=book 1=name 2=hours 3=found 4=row 5=times 6=thing 7=wait -/
def f_hours_of : FD := ⟨3, 8, [.seto 3 (.blt .list [.v 2]), .for (.one 4) (.fld (.call 236 [.v 0, .v 1]) 2) f_hours_of_b2 [4, 5], .ret (.v 3)], [.bor, .bor, .bor], [], true⟩
/-- told_hour: 0=book 1=name 2=hours -/
def f_told_hour : FD := ⟨3, 3, [.ret (.idx (.call 274 [.v 0, .v 1, .v 2]) (.neg (.int 1)))], [.bor, .bor, .bor], [], false⟩
/-- _law_whole: 0=found -/
def f_law_whole_1 : FD := ⟨1, 1, [.ret (.and (.isi (.v 0) [200]) (.not (.isi (.v 0) [201])))], [.bor], [], false⟩
/-- _law_cell_at: 0=script 1=k -/
def f_law_cell_at_1 : FD := ⟨2, 2, [.ife (.cmp .lt (.v 1) (.blt .len [.v 0])) [.ret (.idx (.v 0) (.v 1))] [], .ret (.int 0)], [.bor, .bor], [], false⟩
/-- _law_take: 0=pot 1=many 2=digit -/
def f_law_take_1 : FD := ⟨2, 3, [.set 2 (.bin .mod (.idx (.v 0) (.int 0)) (.v 1)), .setIdx 0 (.int 0) (.bin .fdiv (.idx (.v 0) (.int 0)) (.v 1)), .ret (.tup [.v 2, .v 0])], [.io, .imm], [], false⟩
/-- _law_wait: 0=pot 1='1 2='2 3='3 -/
def f_law_wait_3 : FD := ⟨1, 4, [.eff 1 0 276 [.int 4] (.ife (.cmp .gt (.v 1) (.int 0)) [.eff 2 0 276 [.int 9] (.ret (.tup [.bin .sub (.v 2) (.int 4), .v 0]))] []), .eff 3 0 276 [.bin .sub (.bin .mul (.int 2) (.bin .pow (.int 10) (.int 30))) (.int 1)] (.ret (.tup [.bin .sub (.v 3) (.bin .sub (.bin .pow (.int 10) (.int 30)) (.int 1)), .v 0]))], [.io], [], false⟩
def f_law_items_2_b1 : List MS := [.eff 6 0 276 [.v 1] (.set 5 (.v 6)), .eff 7 0 277 [] (.app 3 (.tup [.v 5, .v 7]))]
/-- _law_items: 0=pot 1=many 2=count 3=items 4=k 5=thing 6='1 7='2 -/
def f_law_items_2 : FD := ⟨3, 8, [.seto 3 (.lst []), .for (.one 4) (.rng [.v 2]) f_law_items_2_b1 [4, 5], .ret (.tup [.blt .tuple [.v 3], .v 0])], [.io, .imm, .imm], [], false⟩
def f_law_plan_2_b1 : List MS := [.seto 10 (.lst [.bin .add (.bin .mul (.bin .mod (.call 3 [.v 0, .bin .add (.bin .add (.v 1) (.int 1)) (.v 9)]) (.bin .pow (.int 10) (.int 64))) (.bin .pow (.int 10) (.int 20))) (.bin .mod (.call 3 [.v 0, .v 1]) (.bin .pow (.int 10) (.int 20)))]), .eff 16 10 276 [.int 5] (.set 11 (.idx (.lst [.str ("all" : PySem.Str), .str ("first" : PySem.Str), .str ("all" : PySem.Str), .str ("first" : PySem.Str), .str ("part" : PySem.Str)]) (.v 16))), .eff 17 10 276 [.int 4] (.set 12 (.bin .add (.int 1) (.v 17))), .ife (.and (.cmp .eq (.v 11) (.str ("part" : PySem.Str))) (.v 8)) [.set 11 (.str ("all" : PySem.Str))] [], .ife (.cmp .eq (.v 11) (.str ("part" : PySem.Str))) [.set 8 (.bl true), .eff 18 10 276 [.blt .len [.v 3]] (.set 13 (.idx (.v 3) (.v 18))), .set 11 (.fld (.v 13) 0), .set 12 (.blt .len [.fld (.v 13) 1])] [], .eff 19 10 278 [.bin .add (.v 6) (.v 9), .v 12] (.app 7 (.tup [.bin .add (.str ("m" : PySem.Str)) (.blt .str [.v 9]), .v 11, .v 19]))]
def f_law_plan_2_e2 : ME := .bin .add (.str ("g" : PySem.Str)) (.blt .str [.v 9])
/-- _law_plan: 0=script 1=start 2=name 3=ahead 4=most_rows 5=pot 6=givens 7=rows 8=used 9=k 10=cell 11=how 12=count 13=part 14='1 15='2 16='3 17='4 18='5 19='6 -/
def f_law_plan_2 : FD := ⟨5, 20, [.seto 5 (.lst [.bin .mod (.call 3 [.v 0, .v 1]) (.bin .pow (.int 10) (.int 9))]), .eff 14 5 276 [.int 4] (.set 6 (.bin .add (.int 1) (.v 14))), .seto 7 (.lst []), .set 8 (.cmp .eq (.v 3) (.lst [])), .eff 15 5 276 [.v 4] (.for (.one 9) (.rng [.bin .add (.int 1) (.v 15)]) f_law_plan_2_b1 [9, 10, 11, 12, 13]), .ret (.mk 0 [.v 2, .lc f_law_plan_2_e2 (.one 9) (.rng [.v 6]) none, .v 7])], [.bor, .bor, .imm, .bor, .imm], [], false⟩
def f_law_book_2_b1 : List MS := [.app 3 (.call 279 [.v 0, .bin .add (.int 1) (.bin .mul (.v 4) (.bin .add (.v 2) (.int 1))), .bin .add (.str ("p" : PySem.Str)) (.blt .str [.v 4]), .v 3, .v 2])]
/-- _law_book: 0=script 1=plans 2=most_rows 3=found 4=k -/
def f_law_book_2 : FD := ⟨3, 5, [.seto 3 (.lst []), .for (.one 4) (.rng [.v 1]) f_law_book_2_b1 [4], .ret (.mk 1 [.v 3])], [.bor, .bor, .imm], [], false⟩
def f_law_hours_5_b1 : List MS := [.set 4 (.bin .mod (.bin .mul (.bin .add (.bin .add (.bin .mod (.bin .fdiv (.v 0) (.bin .add (.v 3) (.int 1))) (.int 2147483647)) (.bin .mul (.int 17) (.v 3))) (.int 5)) (.int 48271)) (.int 2147483647)), .app 2 (.bin .sub (.bin .mod (.v 4) (.int 19)) (.int 9)), .ife (.cmp .eq (.bin .mod (.bin .fdiv (.v 4) (.int 19)) (.int 3)) (.int 0)) [.setIdx 2 (.v 3) (.bin .sub (.bin .mod (.bin .fdiv (.v 0) (.bin .add (.v 3) (.int 2))) (.bin .add (.bin .mul (.int 2) (.bin .pow (.int 10) (.int 60))) (.int 1))) (.bin .pow (.int 10) (.int 60)))] []]
/-- _law_hours: 0=cell 1=many 2=hours 3=k 4=mixed -/
def f_law_hours_5 : FD := ⟨2, 5, [.seto 2 (.lst []), .for (.one 3) (.rng [.v 1]) f_law_hours_5_b1 [3, 4], .ret (.v 2)], [.bor, .bor], [], false⟩
def f_law_run_1_e1 : ME := .bin .add (.idx (.v 3) (.v 7)) (.v 8)
def f_law_run_1_c2 : ME := .cmp .eq (.fld (.v 9) 0) (.idx (.v 4) (.int 1))
def f_law_run_1_e3 : ME := .v 9
def f_law_run_1_b4 : List MS := [.set 5 (.lc f_law_run_1_e1 (.many [7, 8]) (.idx (.v 4) (.int 2)) none), .ife (.cmp .eq (.idx (.v 4) (.int 1)) (.str ("all" : PySem.Str))) [.app 3 (.idx (.blt .sorted [.v 5]) (.neg (.int 1)))] [.ife (.cmp .eq (.idx (.v 4) (.int 1)) (.str ("first" : PySem.Str))) [.app 3 (.idx (.blt .sorted [.v 5]) (.int 0))] [.set 6 (.idx (.lc f_law_run_1_e3 (.one 9) (.v 0) (some f_law_run_1_c2)) (.int 0)), .app 3 (.idx (.call 282 [.v 0, .v 6, .v 5]) (.neg (.int 1)))]]]
/-- _law_run: 0=plans 1=plan 2=hours 3=found 4=row 5=times 6=part 7=thing 8=wait 9=one -/
def f_law_run_1 : FD := ⟨3, 10, [.seto 3 (.blt .list [.v 2]), .for (.one 4) (.fld (.v 1) 2) f_law_run_1_b4 [4, 5, 6], .ret (.v 3)], [.bor, .bor, .bor], [], false⟩
/-- _law_refused: 0=book 1=name 2=hours 3=which 4=refused -/
def f_law_refused_6 : FD := ⟨4, 5, [.set 4 (.bl false), .try [.ife (.cmp .eq (.v 3) (.int 0)) [.expr (.call 274 [.v 0, .v 1, .v 2])] [.expr (.call 275 [.v 0, .v 1, .v 2])]] [6] none [.set 4 (.bl true)], .ret (.v 4)], [.bor, .bor, .bor, .bor], [], false⟩
/-- _law_alone: 0=book 1=name 2=hours 3=marks 4=e -/
def f_law_alone_2 : FD := ⟨3, 5, [.set 3 (.lst []), .try [.expr (.call 274 [.v 0, .v 1, .v 2])] [0] (some 4) [.set 3 (.lst [.isi (.v 4) [100], .isi (.v 4) [2, 4, 3, 5, 1], .isi (.v 4) [8, 9, 7]])], .ret (.cmp .eq (.v 3) (.lst [.bl true, .bl false, .bl false]))], [.bor, .bor, .bor], [], false⟩
def f_law_turns_1_e1 : ME := .blt .sum [.sls (.v 0) (.bin .add (.v 1) (.v 4)) (.v 2)]
/-- _law_turns: 0=script 1=start 2=most 3=many 4=k -/
def f_law_turns_1 : FD := ⟨3, 5, [.set 3 (.blt .min2 [.v 2, .blt .max2 [.int 0, .bin .sub (.blt .len [.v 0]) (.v 1)]]), .ret (.lc f_law_turns_1_e1 (.one 4) (.rng [.v 3]) none)], [.bor, .bor, .bor], [], false⟩
def f_law_47_e1 : ME := .call 2 [.v 11]
def f_law_47_b2 : List MS := [.set 6 (.call 281 [.v 4, .blt .len [.fld (.v 2) 1]]), .set 7 (.call 282 [.lst [.v 2], .v 2, .v 6]), .set 8 (.blt .list [.v 6]), .seto 9 (.call 274 [.v 1, .str ("p0" : PySem.Str), .v 8]), .ife (.or (.not (.isi (.v 9) [203])) (.or (.not (.blt .all [.lc f_law_47_e1 (.one 11) (.v 9) none])) (.cmp .ne (.v 9) (.v 7)))) [.ret (.bl false)] [], .app 9 (.int 5), .set 10 (.call 275 [.v 1, .str ("p0" : PySem.Str), .v 8]), .ife (.or (.not (.call 2 [.v 10])) (.or (.cmp .ne (.v 10) (.idx (.v 7) (.neg (.int 1)))) (.or (.cmp .ne (.v 8) (.v 6)) (.cmp .ne (.fld (.v 2) 2) (.v 3))))) [.ret (.bl false)] []]
/-- law: 0=script 1=book 2=plan 3=rows 4=cell 5=name 6=hours 7=due 8=handed 9=found 10=told 11=hour -/
def f_law_47 : FD := ⟨1, 12, [.set 1 (.call 280 [.v 0, .int 1, .int 8]), .set 2 (.idx (.fld (.v 1) 4) (.int 0)), .set 3 (.blt .list [.fld (.v 2) 2]), .for (.one 4) (.bin .add (.lst [.int 3]) (.call 20 [.v 0, .int 10, .int 30])) f_law_47_b2 [4, 6, 7, 8, 9, 10], .set 5 (.idx (.lst [.str ("p" : PySem.Str), .str ("p00" : PySem.Str), .str ("p1" : PySem.Str), .str ("P0" : PySem.Str), .str ("" : PySem.Str), .str ("p0 " : PySem.Str)]) (.bin .mod (.call 3 [.v 0, .int 0]) (.int 6))), .set 6 (.call 281 [.int 4, .blt .len [.fld (.v 2) 1]]), .ret (.and (.call 283 [.v 1, .v 5, .v 6, .bin .mod (.call 3 [.v 0, .int 1]) (.int 2)]) (.call 284 [.v 1, .v 5, .v 6]))], [.imm], [], false⟩
def prog : Prog := fun n => match n with
  | 236 => some f_plan_by
  | 273 => some f_hour_of
  | 274 => some f_hours_of
  | 275 => some f_told_hour
  | 2 => some f_law_whole_1
  | 3 => some f_law_cell_at_1
  | 276 => some f_law_take_1
  | 277 => some f_law_wait_3
  | 278 => some f_law_items_2
  | 279 => some f_law_plan_2
  | 280 => some f_law_book_2
  | 281 => some f_law_hours_5
  | 282 => some f_law_run_1
  | 283 => some f_law_refused_6
  | 284 => some f_law_alone_2
  | 20 => some f_law_turns_1
  | 285 => some f_law_47
  | _ => none
def topS (i : Nat) : Stmt := PySem.Challenge.pw_allfirst_k48_a_plan_run.main.body.getD i (.Pass ⟨0, 0, 0, 0⟩)
def td236 : TD := ⟨236, ("plan_by" : PySem.Str), [("book" : PySem.Str), ("name" : PySem.Str), ("plan" : PySem.Str)], 2, topS 14⟩
def td273 : TD := ⟨273, ("hour_of" : PySem.Str), [("book" : PySem.Str), ("how" : PySem.Str), ("times" : PySem.Str)], 3, topS 16⟩
def td274 : TD := ⟨274, ("hours_of" : PySem.Str), [("book" : PySem.Str), ("name" : PySem.Str), ("hours" : PySem.Str), ("found" : PySem.Str), ("row" : PySem.Str), ("times" : PySem.Str), ("thing" : PySem.Str), ("wait" : PySem.Str)], 3, topS 17⟩
def td275 : TD := ⟨275, ("told_hour" : PySem.Str), [("book" : PySem.Str), ("name" : PySem.Str), ("hours" : PySem.Str)], 3, topS 18⟩
def td2 : TD := ⟨2, ("_law_whole" : PySem.Str), [("found" : PySem.Str)], 1, topS 20⟩
def td3 : TD := ⟨3, ("_law_cell_at" : PySem.Str), [("script" : PySem.Str), ("k" : PySem.Str)], 2, topS 21⟩
def td276 : TD := ⟨276, ("_law_take" : PySem.Str), [("pot" : PySem.Str), ("many" : PySem.Str), ("digit" : PySem.Str)], 2, topS 22⟩
def td277 : TD := ⟨277, ("_law_wait" : PySem.Str), [("pot" : PySem.Str), ("'1" : PySem.Str), ("'2" : PySem.Str), ("'3" : PySem.Str)], 1, topS 23⟩
def td278 : TD := ⟨278, ("_law_items" : PySem.Str), [("pot" : PySem.Str), ("many" : PySem.Str), ("count" : PySem.Str), ("items" : PySem.Str), ("k" : PySem.Str), ("thing" : PySem.Str), ("'1" : PySem.Str), ("'2" : PySem.Str)], 3, topS 24⟩
def td279 : TD := ⟨279, ("_law_plan" : PySem.Str), [("script" : PySem.Str), ("start" : PySem.Str), ("name" : PySem.Str), ("ahead" : PySem.Str), ("most_rows" : PySem.Str), ("pot" : PySem.Str), ("givens" : PySem.Str), ("rows" : PySem.Str), ("used" : PySem.Str), ("k" : PySem.Str), ("cell" : PySem.Str), ("how" : PySem.Str), ("count" : PySem.Str), ("part" : PySem.Str), ("'1" : PySem.Str), ("'2" : PySem.Str), ("'3" : PySem.Str), ("'4" : PySem.Str), ("'5" : PySem.Str), ("'6" : PySem.Str)], 5, topS 25⟩
def td280 : TD := ⟨280, ("_law_book" : PySem.Str), [("script" : PySem.Str), ("plans" : PySem.Str), ("most_rows" : PySem.Str), ("found" : PySem.Str), ("k" : PySem.Str)], 3, topS 26⟩
def td281 : TD := ⟨281, ("_law_hours" : PySem.Str), [("cell" : PySem.Str), ("many" : PySem.Str), ("hours" : PySem.Str), ("k" : PySem.Str), ("mixed" : PySem.Str)], 2, topS 27⟩
def td282 : TD := ⟨282, ("_law_run" : PySem.Str), [("plans" : PySem.Str), ("plan" : PySem.Str), ("hours" : PySem.Str), ("found" : PySem.Str), ("row" : PySem.Str), ("times" : PySem.Str), ("part" : PySem.Str), ("thing" : PySem.Str), ("wait" : PySem.Str), ("one" : PySem.Str)], 3, topS 28⟩
def td283 : TD := ⟨283, ("_law_refused" : PySem.Str), [("book" : PySem.Str), ("name" : PySem.Str), ("hours" : PySem.Str), ("which" : PySem.Str), ("refused" : PySem.Str)], 4, topS 29⟩
def td284 : TD := ⟨284, ("_law_alone" : PySem.Str), [("book" : PySem.Str), ("name" : PySem.Str), ("hours" : PySem.Str), ("marks" : PySem.Str), ("e" : PySem.Str)], 3, topS 30⟩
def td20 : TD := ⟨20, ("_law_turns" : PySem.Str), [("script" : PySem.Str), ("start" : PySem.Str), ("most" : PySem.Str), ("many" : PySem.Str), ("k" : PySem.Str)], 3, topS 31⟩
def td285 : TD := ⟨285, ("law" : PySem.Str), [("script" : PySem.Str), ("book" : PySem.Str), ("plan" : PySem.Str), ("rows" : PySem.Str), ("cell" : PySem.Str), ("name" : PySem.Str), ("hours" : PySem.Str), ("due" : PySem.Str), ("handed" : PySem.Str), ("found" : PySem.Str), ("told" : PySem.Str), ("hour" : PySem.Str)], 1, topS 32⟩
def text : List TD := [td236, td273, td274, td275, td2, td3, td276, td277, td278, td279, td280, td281, td282, td283, td284, td20, td285]
def errs : List Nat := [0, 6, 301, 302, 303, 304, 305, 307, 308, 309, 400, 499]
def objs : List Nat := [0, 1]
def gcs : List (PySem.Str × GC) := []
set_option maxRecDepth 2000000 in
theorem text_chk : (text.all fun t => chk prog text errs objs gcs t) = true := by decide +kernel
end Mi

set_option maxHeartbeats 4000000
namespace Mi
open PySem
def m_plan_by (a_book : BookT) (a_name : PySem.Str) : R (PlanT) := FT.fin .stuck (((FT.bindR ((R.ok a_book).bind fun x2 => .ok x2) fun x8 => forT (fun (x3 : PlanT) (s1 : Unit) => ((FT.bindR (((R.ok x3).bind fun x4 => .ok x4.1).bind fun x5 => (R.ok a_name).bind fun x6 => R.of (eqD (D.str x5) (D.str x6))) fun x7 => if x7 then (FT.bindR (R.ok x3) fun r => .rt r)
  else (.nx ())) : FT (Unit) (Unit) (PlanT))) (x8) () : FT (Unit) (Unit) (PlanT)).seq fun s1 =>
  (.exc 6 0)) : FT Unit Unit (PlanT))
theorem s_plan_by : ∀ m, 1 ≤ m → ∀ (a_book : BookT) (a_name : PySem.Str), SimW (phi prog m 236 [eBook a_book, D.str a_name]) (m_plan_by a_book a_name) ePlan := by
  intro m hm a_book a_name
  unfold m_plan_by
  exact Sim.fun' (d := f_plan_by) (o := fun _ => [none, none, none]) (oc := fun _ => [none, none, none]) hm (by decide) rfl rfl trivial (fun k hk =>
    (SS.for (out1 := fun (s1 : Unit) => [some (eBook a_book), some (D.str a_name), none]) (its := fun x8 => x8) (e := ePlan) (SE.fld (e := (eL ePlan)) (SE.v (enc := eBook) (a := a_book) rfl) (fun _ => rfl)) (fun _ => rfl) (AgL.so (AgL.so (AgL.no AgL.nil))) (fun _ => (AgL.so (AgL.so (AgL.no AgL.nil)))) (fun _ _ => rfl) (fun x3 s1 =>
  (SS.ifz (SE.cmp (SE.fld (e := D.str) (SE.v (enc := ePlan) (a := x3) rfl) (fun _ => rfl)) (SE.v (enc := D.str) (a := a_name) rfl) (ot_eqX _ _))
  (SS.ret (SE.v (enc := ePlan) (a := x3) rfl))
  (SS.nil (AgL.so (AgL.so (AgL.no AgL.nil)))))) fun s1 =>
  SS.raise))
def g_hour_of (c_hour_of : BookT → PySem.Str → (List Int) → R (Int)) (c_hours_of : BookT → PySem.Str → (List Int) → R (List Int)) (c_told_hour : BookT → PySem.Str → (List Int) → R (Int)) (a_book : BookT) (a_how : PySem.Str) (a_times : List Int) : R (Int) := FT.fin .stuck (((FT.bindR ((R.ok a_how).bind fun x1 => (R.ok ("all" : PySem.Str)).bind fun x2 => R.of (eqD (D.str x1) (D.str x2))) fun x3 => if x3 then (FT.bindR ((R.ok a_times).bind fun x4 => max1R x4) fun r => .rt r)
  else (.nx ()) : FT (Unit) (Unit) (Int)).seq fun s5 =>
  ((FT.bindR ((R.ok a_how).bind fun x6 => (R.ok ("first" : PySem.Str)).bind fun x7 => R.of (eqD (D.str x6) (D.str x7))) fun x8 => if x8 then (FT.bindR ((R.ok a_times).bind fun x9 => min1R x9) fun r => .rt r)
  else (.nx ()) : FT (Unit) (Unit) (Int)).seq fun s10 =>
  (FT.bindR ((R.ok a_book).bind fun x11 => (R.ok a_how).bind fun x12 => (R.ok a_times).bind fun x13 => c_told_hour x11 x12 x13) fun r => .rt r))) : FT Unit Unit (Int))
theorem gs_hour_of (n : Nat) (hn : 2 ≤ n) (c_hour_of : BookT → PySem.Str → (List Int) → R (Int)) (c_hours_of : BookT → PySem.Str → (List Int) → R (List Int)) (c_told_hour : BookT → PySem.Str → (List Int) → R (Int)) (ih_hour_of : ∀ m, n ≤ m → ∀ (a_book : BookT) (a_how : PySem.Str) (a_times : List Int), SimW (phi prog m 273 [eBook a_book, D.str a_how, (eL D.int) a_times]) (c_hour_of a_book a_how a_times) D.int) (ih_hours_of : ∀ m, n ≤ m → ∀ (a_book : BookT) (a_name : PySem.Str) (a_hours : List Int), SimW (phi prog m 274 [eBook a_book, D.str a_name, (eL D.int) a_hours]) (c_hours_of a_book a_name a_hours) (eL D.int)) (ih_told_hour : ∀ m, n ≤ m → ∀ (a_book : BookT) (a_name : PySem.Str) (a_hours : List Int), SimW (phi prog m 275 [eBook a_book, D.str a_name, (eL D.int) a_hours]) (c_told_hour a_book a_name a_hours) D.int) : ∀ m, n + 1 ≤ m → ∀ (a_book : BookT) (a_how : PySem.Str) (a_times : List Int), SimW (phi prog m 273 [eBook a_book, D.str a_how, (eL D.int) a_times]) (g_hour_of c_hour_of c_hours_of c_told_hour a_book a_how a_times) D.int := by
  intro m hm a_book a_how a_times
  unfold g_hour_of
  exact Sim.fun' (d := f_hour_of) (o := fun _ => [none, none, none]) (oc := fun _ => [none, none, none]) hm (by omega) rfl rfl trivial (fun k hk =>
    (SS.ife (out1 := fun (s5 : Unit) => [some (eBook a_book), some (D.str a_how), some ((eL D.int) a_times)]) (SE.cmp (SE.v (enc := D.str) (a := a_how) rfl) SE.str (ot_eqX _ _))
  (SS.ret (SE.blt1 (SE.v (enc := (eL D.int)) (a := a_times) rfl) ot_max1))
  (SS.nil (AgL.so (AgL.so (AgL.so AgL.nil)))) fun s5 =>
  (SS.ife (out1 := fun (s10 : Unit) => [some (eBook a_book), some (D.str a_how), some ((eL D.int) a_times)]) (SE.cmp (SE.v (enc := D.str) (a := a_how) rfl) SE.str (ot_eqX _ _))
  (SS.ret (SE.blt1 (SE.v (enc := (eL D.int)) (a := a_times) rfl) ot_min1))
  (SS.nil (AgL.so (AgL.so (AgL.so AgL.nil)))) fun s10 =>
  (SS.ret (SE.call3 (SE.v (enc := eBook) (a := a_book) rfl) (SE.v (enc := D.str) (a := a_how) rfl) (SE.v (enc := (eL D.int)) (a := a_times) rfl) (ih_told_hour _ (by omega)))))))
def g_hours_of (c_hour_of : BookT → PySem.Str → (List Int) → R (Int)) (c_hours_of : BookT → PySem.Str → (List Int) → R (List Int)) (c_told_hour : BookT → PySem.Str → (List Int) → R (Int)) (a_book : BookT) (a_name : PySem.Str) (a_hours : List Int) : R (List Int) := FT.fin .stuck ((FT.bindR ((R.ok a_hours).bind fun x1 => .ok x1) fun found_2 =>
  ((FT.bindR (((R.ok a_book).bind fun x4 => (R.ok a_name).bind fun x5 => m_plan_by x4 x5).bind fun x6 => .ok x6.2.2) fun x22 => forT (fun (x7 : PySem.Str × PySem.Str × (List (Int × Int))) (s3 : (List Int)) => ((FT.bindR (((R.ok x7).bind fun x8 => .ok x8.2.2).bind fun x14 => mapC (fun (x9 : Int × Int) => (((R.ok s3).bind fun x10 => (R.ok x9.1).bind fun x11 => idxR x10 x11).bind fun x12 => (R.ok x9.2).bind fun x13 => .ok (x12 + x13))) x14) fun times_15 =>
  (FT.bindR ((R.ok a_book).bind fun x17 => ((R.ok x7).bind fun x16 => .ok x16.2.1).bind fun x18 => (R.ok times_15).bind fun x19 => c_hour_of x17 x18 x19) fun v20 => FT.bindR (appR s3 v20) fun y21 =>
  (.nx y21))) : FT ((List Int)) ((List Int)) (List Int))) (x22) found_2 : FT ((List Int)) (Unit) (List Int)).seq fun s3 =>
  (FT.bindR (R.ok s3) fun r => .rt r))) : FT Unit Unit (List Int))
theorem gs_hours_of (n : Nat) (hn : 2 ≤ n) (c_hour_of : BookT → PySem.Str → (List Int) → R (Int)) (c_hours_of : BookT → PySem.Str → (List Int) → R (List Int)) (c_told_hour : BookT → PySem.Str → (List Int) → R (Int)) (ih_hour_of : ∀ m, n ≤ m → ∀ (a_book : BookT) (a_how : PySem.Str) (a_times : List Int), SimW (phi prog m 273 [eBook a_book, D.str a_how, (eL D.int) a_times]) (c_hour_of a_book a_how a_times) D.int) (ih_hours_of : ∀ m, n ≤ m → ∀ (a_book : BookT) (a_name : PySem.Str) (a_hours : List Int), SimW (phi prog m 274 [eBook a_book, D.str a_name, (eL D.int) a_hours]) (c_hours_of a_book a_name a_hours) (eL D.int)) (ih_told_hour : ∀ m, n ≤ m → ∀ (a_book : BookT) (a_name : PySem.Str) (a_hours : List Int), SimW (phi prog m 275 [eBook a_book, D.str a_name, (eL D.int) a_hours]) (c_told_hour a_book a_name a_hours) D.int) : ∀ m, n + 1 ≤ m → ∀ (a_book : BookT) (a_name : PySem.Str) (a_hours : List Int), SimW (phi prog m 274 [eBook a_book, D.str a_name, (eL D.int) a_hours]) (g_hours_of c_hour_of c_hours_of c_told_hour a_book a_name a_hours) (eL D.int) := by
  intro m hm a_book a_name a_hours
  unfold g_hours_of
  exact Sim.fun' (d := f_hours_of) (o := fun _ => [none, none, none, none, none, none, none, none]) (oc := fun _ => [none, none, none, none, none, none, none, none]) hm (by omega) rfl rfl trivial (fun k hk =>
    (SS.seto (SE.blt1 (SE.v (enc := (eL D.int)) (a := a_hours) rfl) (ot_listL _)) (fun _ => rfl) fun found_2 =>
  (SS.for (out1 := fun (s3 : (List Int)) => [some (eBook a_book), some (D.str a_name), some ((eL D.int) a_hours), some ((eL D.int) s3), none, none, none, none]) (its := fun x22 => x22) (e := (eP3 D.str D.str (eT (eP D.int D.int)))) (SE.fld (e := (eL (eP3 D.str D.str (eT (eP D.int D.int))))) (SE.call2 (SE.v (enc := eBook) (a := a_book) rfl) (SE.v (enc := D.str) (a := a_name) rfl) (s_plan_by _ (by omega))) (fun _ => rfl)) (fun _ => rfl) (AgL.so (AgL.so (AgL.so (AgL.so (AgL.no (AgL.no (AgL.no (AgL.no AgL.nil)))))))) (fun _ => (AgL.so (AgL.so (AgL.so (AgL.so (AgL.no (AgL.no (AgL.no (AgL.no AgL.nil))))))))) (fun _ _ => rfl) (fun x7 s3 =>
  (SS.set (SE.map (its := fun x14 => x14) (e := (eP D.int D.int)) (SE.prt (e := (eT (eP D.int D.int))) (SE.v (enc := (eP3 D.str D.str (eT (eP D.int D.int)))) (a := x7) rfl) (fun _ => rfl)) (fun _ => rfl) (fun _ => rfl) (fun x9 => (SE.bin (SE.idx (SE.v (enc := (eL D.int)) (a := s3) rfl) (SE.v (enc := D.int) (a := x9.1) rfl) (ot_idxL _)) (SE.v (enc := D.int) (a := x9.2) rfl) ot_add))) fun times_15 =>
  (SS.app (ev := D.int) (xs := s3) rfl (SE.call3 (SE.v (enc := eBook) (a := a_book) rfl) (SE.prt (e := D.str) (SE.v (enc := (eP3 D.str D.str (eT (eP D.int D.int)))) (a := x7) rfl) (fun _ => rfl)) (SE.v (enc := (eL D.int)) (a := times_15) rfl) (ih_hour_of _ (by omega))) fun y21 =>
  (SS.nil (AgL.so (AgL.so (AgL.so (AgL.so (AgL.no (AgL.no (AgL.no (AgL.no AgL.nil)))))))))))) fun s3 =>
  (SS.ret (SE.v (enc := (eL D.int)) (a := s3) rfl)))))
def g_told_hour (c_hour_of : BookT → PySem.Str → (List Int) → R (Int)) (c_hours_of : BookT → PySem.Str → (List Int) → R (List Int)) (c_told_hour : BookT → PySem.Str → (List Int) → R (Int)) (a_book : BookT) (a_name : PySem.Str) (a_hours : List Int) : R (Int) := FT.fin .stuck ((FT.bindR (((R.ok a_book).bind fun x1 => (R.ok a_name).bind fun x2 => (R.ok a_hours).bind fun x3 => c_hours_of x1 x2 x3).bind fun x5 => ((R.ok (1 : Int)).bind fun x4 => .ok (-x4)).bind fun x6 => idxR x5 x6) fun r => .rt r) : FT Unit Unit (Int))
theorem gs_told_hour (n : Nat) (hn : 2 ≤ n) (c_hour_of : BookT → PySem.Str → (List Int) → R (Int)) (c_hours_of : BookT → PySem.Str → (List Int) → R (List Int)) (c_told_hour : BookT → PySem.Str → (List Int) → R (Int)) (ih_hour_of : ∀ m, n ≤ m → ∀ (a_book : BookT) (a_how : PySem.Str) (a_times : List Int), SimW (phi prog m 273 [eBook a_book, D.str a_how, (eL D.int) a_times]) (c_hour_of a_book a_how a_times) D.int) (ih_hours_of : ∀ m, n ≤ m → ∀ (a_book : BookT) (a_name : PySem.Str) (a_hours : List Int), SimW (phi prog m 274 [eBook a_book, D.str a_name, (eL D.int) a_hours]) (c_hours_of a_book a_name a_hours) (eL D.int)) (ih_told_hour : ∀ m, n ≤ m → ∀ (a_book : BookT) (a_name : PySem.Str) (a_hours : List Int), SimW (phi prog m 275 [eBook a_book, D.str a_name, (eL D.int) a_hours]) (c_told_hour a_book a_name a_hours) D.int) : ∀ m, n + 1 ≤ m → ∀ (a_book : BookT) (a_name : PySem.Str) (a_hours : List Int), SimW (phi prog m 275 [eBook a_book, D.str a_name, (eL D.int) a_hours]) (g_told_hour c_hour_of c_hours_of c_told_hour a_book a_name a_hours) D.int := by
  intro m hm a_book a_name a_hours
  unfold g_told_hour
  exact Sim.fun' (d := f_told_hour) (o := fun _ => [none, none, none]) (oc := fun _ => [none, none, none]) hm (by omega) rfl rfl trivial (fun k hk =>
    (SS.ret (SE.idx (SE.call3 (SE.v (enc := eBook) (a := a_book) rfl) (SE.v (enc := D.str) (a := a_name) rfl) (SE.v (enc := (eL D.int)) (a := a_hours) rfl) (ih_hours_of _ (by omega))) (SE.neg SE.int) (ot_idxL _))))
def grp_hour_of : Nat → (BookT → PySem.Str → (List Int) → R (Int)) × (BookT → PySem.Str → (List Int) → R (List Int)) × (BookT → PySem.Str → (List Int) → R (Int))
  | 0 => ((fun _ _ _ => .stuck), (fun _ _ _ => .stuck), (fun _ _ _ => .stuck))
  | n + 1 => (g_hour_of (grp_hour_of n).1 (grp_hour_of n).2.1 (grp_hour_of n).2.2, g_hours_of (grp_hour_of n).1 (grp_hour_of n).2.1 (grp_hour_of n).2.2, g_told_hour (grp_hour_of n).1 (grp_hour_of n).2.1 (grp_hour_of n).2.2)
def m_hour_of (n : Nat) : BookT → PySem.Str → (List Int) → R (Int) := (grp_hour_of n).1
def m_hours_of (n : Nat) : BookT → PySem.Str → (List Int) → R (List Int) := (grp_hour_of n).2.1
def m_told_hour (n : Nat) : BookT → PySem.Str → (List Int) → R (Int) := (grp_hour_of n).2.2
theorem m_hour_of_eq (n : Nat) (a_book : BookT) (a_how : PySem.Str) (a_times : List Int) : m_hour_of (n + 1) a_book a_how a_times = g_hour_of (m_hour_of n) (m_hours_of n) (m_told_hour n) a_book a_how a_times := rfl
theorem m_hours_of_eq (n : Nat) (a_book : BookT) (a_name : PySem.Str) (a_hours : List Int) : m_hours_of (n + 1) a_book a_name a_hours = g_hours_of (m_hour_of n) (m_hours_of n) (m_told_hour n) a_book a_name a_hours := rfl
theorem m_told_hour_eq (n : Nat) (a_book : BookT) (a_name : PySem.Str) (a_hours : List Int) : m_told_hour (n + 1) a_book a_name a_hours = g_told_hour (m_hour_of n) (m_hours_of n) (m_told_hour n) a_book a_name a_hours := rfl
theorem gsa_hour_of : ∀ n m, 2 + n ≤ m → (∀ (a_book : BookT) (a_how : PySem.Str) (a_times : List Int), SimW (phi prog m 273 [eBook a_book, D.str a_how, (eL D.int) a_times]) (m_hour_of n a_book a_how a_times) D.int) ∧ (∀ (a_book : BookT) (a_name : PySem.Str) (a_hours : List Int), SimW (phi prog m 274 [eBook a_book, D.str a_name, (eL D.int) a_hours]) (m_hours_of n a_book a_name a_hours) (eL D.int)) ∧ (∀ (a_book : BookT) (a_name : PySem.Str) (a_hours : List Int), SimW (phi prog m 275 [eBook a_book, D.str a_name, (eL D.int) a_hours]) (m_told_hour n a_book a_name a_hours) D.int)
  | 0, m, _ => ⟨fun _ _ _ => ⟨trivial⟩, fun _ _ _ => ⟨trivial⟩, fun _ _ _ => ⟨trivial⟩⟩
  | n + 1, m, hm => ⟨gs_hour_of (2 + n) (by omega) (m_hour_of n) (m_hours_of n) (m_told_hour n) (fun k hk => (gsa_hour_of n k hk).1) (fun k hk => (gsa_hour_of n k hk).2.1) (fun k hk => (gsa_hour_of n k hk).2.2) m (by omega), gs_hours_of (2 + n) (by omega) (m_hour_of n) (m_hours_of n) (m_told_hour n) (fun k hk => (gsa_hour_of n k hk).1) (fun k hk => (gsa_hour_of n k hk).2.1) (fun k hk => (gsa_hour_of n k hk).2.2) m (by omega), gs_told_hour (2 + n) (by omega) (m_hour_of n) (m_hours_of n) (m_told_hour n) (fun k hk => (gsa_hour_of n k hk).1) (fun k hk => (gsa_hour_of n k hk).2.1) (fun k hk => (gsa_hour_of n k hk).2.2) m (by omega)⟩
theorem s_hour_of (n : Nat) : ∀ m, 2 + n ≤ m → ∀ (a_book : BookT) (a_how : PySem.Str) (a_times : List Int), SimW (phi prog m 273 [eBook a_book, D.str a_how, (eL D.int) a_times]) (m_hour_of n a_book a_how a_times) D.int := fun m hm => (gsa_hour_of n m hm).1
theorem s_hours_of (n : Nat) : ∀ m, 2 + n ≤ m → ∀ (a_book : BookT) (a_name : PySem.Str) (a_hours : List Int), SimW (phi prog m 274 [eBook a_book, D.str a_name, (eL D.int) a_hours]) (m_hours_of n a_book a_name a_hours) (eL D.int) := fun m hm => (gsa_hour_of n m hm).2.1
theorem s_told_hour (n : Nat) : ∀ m, 2 + n ≤ m → ∀ (a_book : BookT) (a_name : PySem.Str) (a_hours : List Int), SimW (phi prog m 275 [eBook a_book, D.str a_name, (eL D.int) a_hours]) (m_told_hour n a_book a_name a_hours) D.int := fun m hm => (gsa_hour_of n m hm).2.2
def m_law_whole_1 (a_found : Int) : R (Bool) := FT.fin .stuck ((FT.bindR (((R.ok a_found).bind fun _ => .ok true).bind fun x4 => if x4 then (((R.ok a_found).bind fun _ => .ok false).bind fun x3 => .ok (!x3)) else .ok false) fun r => .rt r) : FT Unit Unit (Bool))
theorem s_law_whole_1 : ∀ m, 1 ≤ m → ∀ (a_found : Int), SimW (phi prog m 2 [D.int a_found]) (m_law_whole_1 a_found) D.bl := by
  intro m hm a_found
  unfold m_law_whole_1
  exact Sim.fun' (d := f_law_whole_1) (o := fun _ => [none]) (oc := fun _ => [none]) hm (by decide) rfl rfl trivial (fun k hk =>
    (SS.ret (SE.and (SE.isi (SE.v (enc := D.int) (a := a_found) rfl) (fun _ => ot_isi (by simp [eL, eT, eP, eP3, eP4, eH2, eH3, eM, tyOf]) rfl)) (SE.not (SE.isi (SE.v (enc := D.int) (a := a_found) rfl) (fun _ => ot_isi (by simp [eL, eT, eP, eP3, eP4, eH2, eH3, eM, tyOf]) rfl))))))
def m_law_cell_at_1 (a_script : List Int) (a_k : Int) : R (Int) := FT.fin .stuck (((FT.bindR ((R.ok a_k).bind fun x2 => ((R.ok a_script).bind fun x1 => .ok (x1.length : Int)).bind fun x3 => .ok (decide (x2 < x3))) fun x4 => if x4 then (FT.bindR ((R.ok a_script).bind fun x5 => (R.ok a_k).bind fun x6 => idxR x5 x6) fun r => .rt r)
  else (.nx ()) : FT (Unit) (Unit) (Int)).seq fun s7 =>
  (FT.bindR (R.ok (0 : Int)) fun r => .rt r)) : FT Unit Unit (Int))
theorem s_law_cell_at_1 : ∀ m, 1 ≤ m → ∀ (a_script : List Int) (a_k : Int), SimW (phi prog m 3 [(eL D.int) a_script, D.int a_k]) (m_law_cell_at_1 a_script a_k) D.int := by
  intro m hm a_script a_k
  unfold m_law_cell_at_1
  exact Sim.fun' (d := f_law_cell_at_1) (o := fun _ => [none, none]) (oc := fun _ => [none, none]) hm (by decide) rfl rfl trivial (fun k hk =>
    (SS.ife (out1 := fun (s7 : Unit) => [some ((eL D.int) a_script), some (D.int a_k)]) (SE.cmp (SE.v (enc := D.int) (a := a_k) rfl) (SE.blt1 (SE.v (enc := (eL D.int)) (a := a_script) rfl) (ot_lenL _)) ot_lt)
  (SS.ret (SE.idx (SE.v (enc := (eL D.int)) (a := a_script) rfl) (SE.v (enc := D.int) (a := a_k) rfl) (ot_idxL _)))
  (SS.nil (AgL.so (AgL.so AgL.nil))) fun s7 =>
  (SS.ret SE.int)))
def m_law_take_1 (a_pot : List Int) (a_many : Int) : R (Int × (List Int)) := FT.fin .stuck ((FT.bindR (((R.ok a_pot).bind fun x1 => (R.ok (0 : Int)).bind fun x2 => idxR x1 x2).bind fun x3 => (R.ok a_many).bind fun x4 => modR x3 x4) fun digit_5 =>
  (FT.bindR (((R.ok a_pot).bind fun x9 => (R.ok (0 : Int)).bind fun x10 => idxR x9 x10).bind fun x11 => (R.ok a_many).bind fun x12 => fdivR x11 x12) fun v7 => FT.bindR (R.ok (0 : Int)) fun q6 => FT.bindR (setR a_pot q6 v7) fun y8 =>
  (FT.bindR ((R.ok digit_5).bind fun x13 => (R.ok y8).bind fun x14 => .ok (x13, x14)) fun r => .rt r))) : FT Unit Unit (Int × (List Int)))
theorem s_law_take_1 : ∀ m, 1 ≤ m → ∀ (a_pot : List Int) (a_many : Int), SimW (phi prog m 276 [(eL D.int) a_pot, D.int a_many]) (m_law_take_1 a_pot a_many) (eP D.int (eL D.int)) := by
  intro m hm a_pot a_many
  unfold m_law_take_1
  exact Sim.fun' (d := f_law_take_1) (o := fun _ => [none, none, none]) (oc := fun _ => [none, none, none]) hm (by decide) rfl rfl trivial (fun k hk =>
    (SS.set (SE.bin (SE.idx (SE.v (enc := (eL D.int)) (a := a_pot) rfl) SE.int (ot_idxL _)) (SE.v (enc := D.int) (a := a_many) rfl) ot_mod) fun digit_5 =>
  (SS.setIdx (d := (eL D.int) a_pot) (ex := (eL D.int)) rfl (SE.bin (SE.idx (SE.v (enc := (eL D.int)) (a := a_pot) rfl) SE.int (ot_idxL _)) (SE.v (enc := D.int) (a := a_many) rfl) ot_fdiv) SE.int (ot_setIdx D.int a_pot) fun y8 =>
  (SS.ret (SE.tupX2 (e := (eP D.int (eL D.int))) (SE.v (enc := D.int) (a := digit_5) rfl) (SE.v (enc := (eL D.int)) (a := y8) rfl) (fun _ _ => rfl))))))
def m_law_wait_3 (a_pot : List Int) : R (Int × (List Int)) := FT.fin .stuck ((FT.bindR (noX ((R.ok a_pot).bind fun x1 => (R.ok (4 : Int)).bind fun x2 => m_law_take_1 x1 x2)) fun p3 =>
  ((FT.bindR ((R.ok p3.1).bind fun x4 => (R.ok (0 : Int)).bind fun x5 => .ok (decide (x5 < x4))) fun x6 => if x6 then (FT.bindR (noX ((R.ok p3.2).bind fun x7 => (R.ok (9 : Int)).bind fun x8 => m_law_take_1 x7 x8)) fun p9 =>
  (FT.bindR (((R.ok p9.1).bind fun x10 => (R.ok (4 : Int)).bind fun x11 => .ok (x10 - x11)).bind fun x12 => (R.ok p9.2).bind fun x13 => .ok (x12, x13)) fun r => .rt r))
  else (.nx p3.2) : FT ((List Int)) (Unit) (Int × (List Int))).seq fun s14 =>
  (FT.bindR (noX ((R.ok s14).bind fun x21 => (((R.ok (2 : Int)).bind fun x17 => ((R.ok (10 : Int)).bind fun x15 => (R.ok (30 : Int)).bind fun x16 => powR x15 x16).bind fun x18 => mulR x17 x18).bind fun x19 => (R.ok (1 : Int)).bind fun x20 => .ok (x19 - x20)).bind fun x22 => m_law_take_1 x21 x22)) fun p23 =>
  (FT.bindR (((R.ok p23.1).bind fun x28 => (((R.ok (10 : Int)).bind fun x24 => (R.ok (30 : Int)).bind fun x25 => powR x24 x25).bind fun x26 => (R.ok (1 : Int)).bind fun x27 => .ok (x26 - x27)).bind fun x29 => .ok (x28 - x29)).bind fun x30 => (R.ok p23.2).bind fun x31 => .ok (x30, x31)) fun r => .rt r)))) : FT Unit Unit (Int × (List Int)))
theorem s_law_wait_3 : ∀ m, 2 ≤ m → ∀ (a_pot : List Int), SimW (phi prog m 277 [(eL D.int) a_pot]) (m_law_wait_3 a_pot) (eP D.int (eL D.int)) := by
  intro m hm a_pot
  unfold m_law_wait_3
  exact Sim.fun' (d := f_law_wait_3) (o := fun _ => [none, none, none, none]) (oc := fun _ => [none, none, none, none]) hm (by decide) rfl rfl trivial (fun k hk =>
    (SS.eff (SE.call2 (SE.v (enc := (eL D.int)) (a := a_pot) rfl) SE.int (s_law_take_1 _ (by omega))) (fun _ => rfl) fun p3 =>
  (SS.ife (out1 := fun (s14 : (List Int)) => [some ((eL D.int) s14), some (D.int p3.1), none, none]) (SE.cmp (SE.v (enc := D.int) (a := p3.1) rfl) SE.int ot_gt)
  (SS.eff (SE.call2 (SE.v (enc := (eL D.int)) (a := p3.2) rfl) SE.int (s_law_take_1 _ (by omega))) (fun _ => rfl) fun p9 =>
  (SS.ret (SE.tupX2 (e := (eP D.int (eL D.int))) (SE.bin (SE.v (enc := D.int) (a := p9.1) rfl) SE.int ot_sub) (SE.v (enc := (eL D.int)) (a := p9.2) rfl) (fun _ _ => rfl))))
  (SS.nil (AgL.so (AgL.so (AgL.no (AgL.no AgL.nil))))) fun s14 =>
  (SS.eff (SE.call2 (SE.v (enc := (eL D.int)) (a := s14) rfl) (SE.bin (SE.bin SE.int (SE.bin SE.int SE.int ot_pow) ot_mul) SE.int ot_sub) (s_law_take_1 _ (by omega))) (fun _ => rfl) fun p23 =>
  (SS.ret (SE.tupX2 (e := (eP D.int (eL D.int))) (SE.bin (SE.v (enc := D.int) (a := p23.1) rfl) (SE.bin (SE.bin SE.int SE.int ot_pow) SE.int ot_sub) ot_sub) (SE.v (enc := (eL D.int)) (a := p23.2) rfl) (fun _ _ => rfl)))))))
def m_law_items_2 (a_pot : List Int) (a_many : Int) (a_count : Int) : R ((List (Int × Int)) × (List Int)) := FT.fin .stuck ((FT.bindR (R.ok ([] : List (Int × Int))) fun items_1 =>
  ((FT.bindR ((R.ok a_count).bind fun x3 => rng1R x3) fun x18 => forT (fun (x4 : Int) (s2 : (List Int) × (List (Int × Int))) => ((FT.bindR (noX ((R.ok s2.1).bind fun x5 => (R.ok a_many).bind fun x6 => m_law_take_1 x5 x6)) fun p7 =>
  (FT.bindR (R.ok p7.1) fun thing_8 =>
  (FT.bindR (noX ((R.ok p7.2).bind fun x9 => m_law_wait_3 x9)) fun p10 =>
  (FT.bindR ((R.ok thing_8).bind fun x11 => (R.ok p10.1).bind fun x12 => .ok (x11, x12)) fun v13 => FT.bindR (appR s2.2 v13) fun y14 =>
  (.nx (p10.2, y14)))))) : FT ((List Int) × (List (Int × Int))) ((List Int) × (List (Int × Int))) ((List (Int × Int)) × (List Int)))) (x18) (a_pot, items_1) : FT ((List Int) × (List (Int × Int))) (Unit) ((List (Int × Int)) × (List Int))).seq fun s2 =>
  (FT.bindR (((R.ok s2.2).bind fun x15 => .ok x15).bind fun x16 => (R.ok s2.1).bind fun x17 => .ok (x16, x17)) fun r => .rt r))) : FT Unit Unit ((List (Int × Int)) × (List Int)))
theorem s_law_items_2 : ∀ m, 3 ≤ m → ∀ (a_pot : List Int) (a_many : Int) (a_count : Int), SimW (phi prog m 278 [(eL D.int) a_pot, D.int a_many, D.int a_count]) (m_law_items_2 a_pot a_many a_count) (eP (eT (eP D.int D.int)) (eL D.int)) := by
  intro m hm a_pot a_many a_count
  unfold m_law_items_2
  exact Sim.fun' (d := f_law_items_2) (o := fun _ => [none, none, none, none, none, none, none, none]) (oc := fun _ => [none, none, none, none, none, none, none, none]) hm (by decide) rfl rfl trivial (fun k hk =>
    (SS.seto (SE.lnil (e := (eP D.int D.int))) (fun _ => rfl) fun items_1 =>
  (SS.for (out1 := fun (s2 : (List Int) × (List (Int × Int))) => [some ((eL D.int) s2.1), some (D.int a_many), some (D.int a_count), some ((eL (eP D.int D.int)) s2.2), none, none, none, none]) (its := fun x18 => x18) (e := D.int) (SE.rng1 (SE.v (enc := D.int) (a := a_count) rfl) ot_rng1) (fun _ => rfl) (AgL.so (AgL.so (AgL.so (AgL.so (AgL.no (AgL.no (AgL.no (AgL.no AgL.nil)))))))) (fun _ => (AgL.so (AgL.so (AgL.so (AgL.so (AgL.no (AgL.no (AgL.no (AgL.no AgL.nil))))))))) (fun _ _ => rfl) (fun x4 s2 =>
  (SS.eff (SE.call2 (SE.v (enc := (eL D.int)) (a := s2.1) rfl) (SE.v (enc := D.int) (a := a_many) rfl) (s_law_take_1 _ (by omega))) (fun _ => rfl) fun p7 =>
  (SS.set (SE.v (enc := D.int) (a := p7.1) rfl) fun thing_8 =>
  (SS.eff (SE.call1 (SE.v (enc := (eL D.int)) (a := p7.2) rfl) (s_law_wait_3 _ (by omega))) (fun _ => rfl) fun p10 =>
  (SS.app (ev := (eP D.int D.int)) (xs := s2.2) rfl (SE.tupX2 (e := (eP D.int D.int)) (SE.v (enc := D.int) (a := thing_8) rfl) (SE.v (enc := D.int) (a := p10.1) rfl) (fun _ _ => rfl)) fun y14 =>
  (SS.nil (AgL.so (AgL.so (AgL.so (AgL.so (AgL.no (AgL.no (AgL.no (AgL.no AgL.nil)))))))))))))) fun s2 =>
  (SS.ret (SE.tupX2 (e := (eP (eT (eP D.int D.int)) (eL D.int))) (SE.blt1 (SE.v (enc := (eL (eP D.int D.int))) (a := s2.2) rfl) (ot_tupleL _)) (SE.v (enc := (eL D.int)) (a := s2.1) rfl) (fun _ _ => rfl))))))
def m_law_plan_2 (a_script : List Int) (a_start : Int) (a_name : PySem.Str) (a_ahead : List PlanT) (a_most_rows : Int) : R (PlanT) := FT.fin .stuck ((FT.bindR ((((R.ok a_script).bind fun x1 => (R.ok a_start).bind fun x2 => m_law_cell_at_1 x1 x2).bind fun x5 => ((R.ok (10 : Int)).bind fun x3 => (R.ok (9 : Int)).bind fun x4 => powR x3 x4).bind fun x6 => modR x5 x6).bind fun x7 => (R.ok ([] : List Int)).bind fun x8 => .ok (x7 :: x8)) fun pot_9 =>
  (FT.bindR (noX ((R.ok pot_9).bind fun x10 => (R.ok (4 : Int)).bind fun x11 => m_law_take_1 x10 x11)) fun p12 =>
  (FT.bindR ((R.ok (1 : Int)).bind fun x13 => (R.ok p12.1).bind fun x14 => .ok (x13 + x14)) fun givens_15 =>
  (FT.bindR (R.ok ([] : List (PySem.Str × PySem.Str × (List (Int × Int))))) fun rows_16 =>
  (FT.bindR ((R.ok a_ahead).bind fun x17 => .ok (decide (x17.length = 0))) fun used_18 =>
  (FT.bindR (noX ((R.ok p12.2).bind fun x19 => (R.ok a_most_rows).bind fun x20 => m_law_take_1 x19 x20)) fun p21 =>
  ((FT.bindR (((R.ok (1 : Int)).bind fun x23 => (R.ok p21.1).bind fun x24 => .ok (x23 + x24)).bind fun x25 => rng1R x25) fun x120 => forT (fun (x26 : Int) (s22 : (List (PySem.Str × PySem.Str × (List (Int × Int)))) × (Bool)) => ((FT.bindR ((((((R.ok a_script).bind fun x31 => (((R.ok a_start).bind fun x27 => (R.ok (1 : Int)).bind fun x28 => .ok (x27 + x28)).bind fun x29 => (R.ok x26).bind fun x30 => .ok (x29 + x30)).bind fun x32 => m_law_cell_at_1 x31 x32).bind fun x35 => ((R.ok (10 : Int)).bind fun x33 => (R.ok (64 : Int)).bind fun x34 => powR x33 x34).bind fun x36 => modR x35 x36).bind fun x39 => ((R.ok (10 : Int)).bind fun x37 => (R.ok (20 : Int)).bind fun x38 => powR x37 x38).bind fun x40 => mulR x39 x40).bind fun x47 => (((R.ok a_script).bind fun x41 => (R.ok a_start).bind fun x42 => m_law_cell_at_1 x41 x42).bind fun x45 => ((R.ok (10 : Int)).bind fun x43 => (R.ok (20 : Int)).bind fun x44 => powR x43 x44).bind fun x46 => modR x45 x46).bind fun x48 => .ok (x47 + x48)).bind fun x49 => (R.ok ([] : List Int)).bind fun x50 => .ok (x49 :: x50)) fun cell_51 =>
  (FT.bindR (noX ((R.ok cell_51).bind fun x52 => (R.ok (5 : Int)).bind fun x53 => m_law_take_1 x52 x53)) fun p54 =>
  (FT.bindR (((R.ok ("all" : PySem.Str)).bind fun x63 => ((R.ok ("first" : PySem.Str)).bind fun x61 => ((R.ok ("all" : PySem.Str)).bind fun x59 => ((R.ok ("first" : PySem.Str)).bind fun x57 => ((R.ok ("part" : PySem.Str)).bind fun x55 => (R.ok ([] : List PySem.Str)).bind fun x56 => .ok (x55 :: x56)).bind fun x58 => .ok (x57 :: x58)).bind fun x60 => .ok (x59 :: x60)).bind fun x62 => .ok (x61 :: x62)).bind fun x64 => .ok (x63 :: x64)).bind fun x65 => (R.ok p54.1).bind fun x66 => idxR x65 x66) fun how_67 =>
  (FT.bindR (noX ((R.ok p54.2).bind fun x68 => (R.ok (4 : Int)).bind fun x69 => m_law_take_1 x68 x69)) fun p70 =>
  (FT.bindR ((R.ok (1 : Int)).bind fun x71 => (R.ok p70.1).bind fun x72 => .ok (x71 + x72)) fun count_73 =>
  ((FT.bindR (((R.ok how_67).bind fun x74 => (R.ok ("part" : PySem.Str)).bind fun x75 => R.of (eqD (D.str x74) (D.str x75))).bind fun x76 => if x76 then (R.ok s22.2) else .ok false) fun x77 => if x77 then (FT.bindR (R.ok ("all" : PySem.Str)) fun how_78 =>
  (.nx how_78))
  else (.nx how_67) : FT ((PySem.Str)) ((List (PySem.Str × PySem.Str × (List (Int × Int)))) × (Bool)) (PlanT)).seq fun s79 =>
  ((FT.bindR ((R.ok s79).bind fun x80 => (R.ok ("part" : PySem.Str)).bind fun x81 => R.of (eqD (D.str x80) (D.str x81))) fun x82 => if x82 then (FT.bindR (R.ok true) fun used_83 =>
  (FT.bindR (noX ((R.ok p70.2).bind fun x85 => ((R.ok a_ahead).bind fun x84 => .ok (x84.length : Int)).bind fun x86 => m_law_take_1 x85 x86)) fun p87 =>
  (FT.bindR ((R.ok a_ahead).bind fun x88 => (R.ok p87.1).bind fun x89 => idxR x88 x89) fun part_90 =>
  (FT.bindR ((R.ok part_90).bind fun x91 => .ok x91.1) fun how_92 =>
  (FT.bindR (((R.ok part_90).bind fun x93 => .ok x93.2.1).bind fun x94 => .ok (x94.length : Int)) fun count_95 =>
  (.nx (used_83, p87.2, how_92, count_95)))))))
  else (.nx (s22.2, p70.2, s79, count_73)) : FT ((Bool) × (List Int) × (PySem.Str) × (Int)) ((List (PySem.Str × PySem.Str × (List (Int × Int)))) × (Bool)) (PlanT)).seq fun s96 =>
  (FT.bindR (noX ((R.ok s96.2.1).bind fun x99 => ((R.ok givens_15).bind fun x97 => (R.ok x26).bind fun x98 => .ok (x97 + x98)).bind fun x100 => (R.ok s96.2.2.2).bind fun x101 => m_law_items_2 x99 x100 x101)) fun p102 =>
  (FT.bindR (((R.ok ("m" : PySem.Str)).bind fun x104 => ((R.ok x26).bind fun x103 => strR x103).bind fun x105 => catS x104 x105).bind fun x106 => (R.ok s96.2.2.1).bind fun x107 => (R.ok p102.1).bind fun x108 => .ok (x106, x107, x108)) fun v109 => FT.bindR (appR s22.1 v109) fun y110 =>
  (.nx (y110, s96.1))))))))))) : FT ((List (PySem.Str × PySem.Str × (List (Int × Int)))) × (Bool)) ((List (PySem.Str × PySem.Str × (List (Int × Int)))) × (Bool)) (PlanT))) (x120) (rows_16, used_18) : FT ((List (PySem.Str × PySem.Str × (List (Int × Int)))) × (Bool)) (Unit) (PlanT)).seq fun s22 =>
  (FT.bindR ((R.ok a_name).bind fun x117 => (((R.ok givens_15).bind fun x111 => rng1R x111).bind fun x116 => mapC (fun (x112 : Int) => ((R.ok ("g" : PySem.Str)).bind fun x114 => ((R.ok x112).bind fun x113 => strR x113).bind fun x115 => catS x114 x115)) x116).bind fun x118 => (R.ok s22.1).bind fun x119 => .ok (x117, x118, x119)) fun r => .rt r)))))))) : FT Unit Unit (PlanT))
theorem s_law_plan_2 : ∀ m, 4 ≤ m → ∀ (a_script : List Int) (a_start : Int) (a_name : PySem.Str) (a_ahead : List PlanT) (a_most_rows : Int), SimW (phi prog m 279 [(eL D.int) a_script, D.int a_start, D.str a_name, (eL ePlan) a_ahead, D.int a_most_rows]) (m_law_plan_2 a_script a_start a_name a_ahead a_most_rows) ePlan := by
  intro m hm a_script a_start a_name a_ahead a_most_rows
  unfold m_law_plan_2
  exact Sim.fun' (d := f_law_plan_2) (o := fun _ => [none, none, none, none, none, none, none, none, none, none, none, none, none, none, none, none, none, none, none, none]) (oc := fun _ => [none, none, none, none, none, none, none, none, none, none, none, none, none, none, none, none, none, none, none, none]) hm (by decide) rfl rfl trivial (fun k hk =>
    (SS.seto (SE.lcons (SE.bin (SE.call2 (SE.v (enc := (eL D.int)) (a := a_script) rfl) (SE.v (enc := D.int) (a := a_start) rfl) (s_law_cell_at_1 _ (by omega))) (SE.bin SE.int SE.int ot_pow) ot_mod) (SE.lnil (e := D.int))) (fun _ => rfl) fun pot_9 =>
  (SS.eff (SE.call2 (SE.v (enc := (eL D.int)) (a := pot_9) rfl) SE.int (s_law_take_1 _ (by omega))) (fun _ => rfl) fun p12 =>
  (SS.set (SE.bin SE.int (SE.v (enc := D.int) (a := p12.1) rfl) ot_add) fun givens_15 =>
  (SS.seto (SE.lnil (e := (eP3 D.str D.str (eT (eP D.int D.int))))) (fun _ => rfl) fun rows_16 =>
  (SS.set (SE.eqNil (SE.v (enc := (eL ePlan)) (a := a_ahead) rfl)) fun used_18 =>
  (SS.eff (SE.call2 (SE.v (enc := (eL D.int)) (a := p12.2) rfl) (SE.v (enc := D.int) (a := a_most_rows) rfl) (s_law_take_1 _ (by omega))) (fun _ => rfl) fun p21 =>
  (SS.for (out1 := fun (s22 : (List (PySem.Str × PySem.Str × (List (Int × Int)))) × (Bool)) => [some ((eL D.int) a_script), some (D.int a_start), some (D.str a_name), some ((eL ePlan) a_ahead), some (D.int a_most_rows), some ((eL D.int) p21.2), some (D.int givens_15), some ((eL (eP3 D.str D.str (eT (eP D.int D.int)))) s22.1), some (D.bl s22.2), none, none, none, none, none, some (D.int p12.1), some (D.int p21.1), none, none, none, none]) (its := fun x120 => x120) (e := D.int) (SE.rng1 (SE.bin SE.int (SE.v (enc := D.int) (a := p21.1) rfl) ot_add) ot_rng1) (fun _ => rfl) (AgL.so (AgL.so (AgL.so (AgL.so (AgL.so (AgL.so (AgL.so (AgL.so (AgL.so (AgL.no (AgL.no (AgL.no (AgL.no (AgL.no (AgL.so (AgL.so (AgL.no (AgL.no (AgL.no (AgL.no AgL.nil)))))))))))))))))))) (fun _ => (AgL.so (AgL.so (AgL.so (AgL.so (AgL.so (AgL.so (AgL.so (AgL.so (AgL.so (AgL.no (AgL.no (AgL.no (AgL.no (AgL.no (AgL.so (AgL.so (AgL.no (AgL.no (AgL.no (AgL.no AgL.nil))))))))))))))))))))) (fun _ _ => rfl) (fun x26 s22 =>
  (SS.seto (SE.lcons (SE.bin (SE.bin (SE.bin (SE.call2 (SE.v (enc := (eL D.int)) (a := a_script) rfl) (SE.bin (SE.bin (SE.v (enc := D.int) (a := a_start) rfl) SE.int ot_add) (SE.v (enc := D.int) (a := x26) rfl) ot_add) (s_law_cell_at_1 _ (by omega))) (SE.bin SE.int SE.int ot_pow) ot_mod) (SE.bin SE.int SE.int ot_pow) ot_mul) (SE.bin (SE.call2 (SE.v (enc := (eL D.int)) (a := a_script) rfl) (SE.v (enc := D.int) (a := a_start) rfl) (s_law_cell_at_1 _ (by omega))) (SE.bin SE.int SE.int ot_pow) ot_mod) ot_add) (SE.lnil (e := D.int))) (fun _ => rfl) fun cell_51 =>
  (SS.eff (SE.call2 (SE.v (enc := (eL D.int)) (a := cell_51) rfl) SE.int (s_law_take_1 _ (by omega))) (fun _ => rfl) fun p54 =>
  (SS.set (SE.idx (SE.lcons SE.str (SE.lcons SE.str (SE.lcons SE.str (SE.lcons SE.str (SE.lcons SE.str (SE.lnil (e := D.str))))))) (SE.v (enc := D.int) (a := p54.1) rfl) (ot_idxL _)) fun how_67 =>
  (SS.eff (SE.call2 (SE.v (enc := (eL D.int)) (a := p54.2) rfl) SE.int (s_law_take_1 _ (by omega))) (fun _ => rfl) fun p70 =>
  (SS.set (SE.bin SE.int (SE.v (enc := D.int) (a := p70.1) rfl) ot_add) fun count_73 =>
  (SS.ife (out1 := fun (s79 : (PySem.Str)) => [some ((eL D.int) a_script), some (D.int a_start), some (D.str a_name), some ((eL ePlan) a_ahead), some (D.int a_most_rows), some ((eL D.int) p21.2), some (D.int givens_15), some ((eL (eP3 D.str D.str (eT (eP D.int D.int)))) s22.1), some (D.bl s22.2), some (D.int x26), some ((eL D.int) p70.2), some (D.str s79), some (D.int count_73), none, some (D.int p12.1), some (D.int p21.1), some (D.int p54.1), some (D.int p70.1), none, none]) (SE.and (SE.cmp (SE.v (enc := D.str) (a := how_67) rfl) SE.str (ot_eqX _ _)) (SE.v (enc := D.bl) (a := s22.2) rfl))
  (SS.set SE.str fun how_78 =>
  (SS.nil (AgL.so (AgL.so (AgL.so (AgL.so (AgL.so (AgL.so (AgL.so (AgL.so (AgL.so (AgL.so (AgL.so (AgL.so (AgL.so (AgL.no (AgL.so (AgL.so (AgL.so (AgL.so (AgL.no (AgL.no AgL.nil))))))))))))))))))))))
  (SS.nil (AgL.so (AgL.so (AgL.so (AgL.so (AgL.so (AgL.so (AgL.so (AgL.so (AgL.so (AgL.so (AgL.so (AgL.so (AgL.so (AgL.no (AgL.so (AgL.so (AgL.so (AgL.so (AgL.no (AgL.no AgL.nil))))))))))))))))))))) fun s79 =>
  (SS.ife (out1 := fun (s96 : (Bool) × (List Int) × (PySem.Str) × (Int)) => [some ((eL D.int) a_script), some (D.int a_start), some (D.str a_name), some ((eL ePlan) a_ahead), some (D.int a_most_rows), some ((eL D.int) p21.2), some (D.int givens_15), some ((eL (eP3 D.str D.str (eT (eP D.int D.int)))) s22.1), some (D.bl s96.1), some (D.int x26), some ((eL D.int) s96.2.1), some (D.str s96.2.2.1), some (D.int s96.2.2.2), none, some (D.int p12.1), some (D.int p21.1), some (D.int p54.1), some (D.int p70.1), none, none]) (SE.cmp (SE.v (enc := D.str) (a := s79) rfl) SE.str (ot_eqX _ _))
  (SS.set SE.bl fun used_83 =>
  (SS.eff (SE.call2 (SE.v (enc := (eL D.int)) (a := p70.2) rfl) (SE.blt1 (SE.v (enc := (eL ePlan)) (a := a_ahead) rfl) (ot_lenL _)) (s_law_take_1 _ (by omega))) (fun _ => rfl) fun p87 =>
  (SS.set (SE.idx (SE.v (enc := (eL ePlan)) (a := a_ahead) rfl) (SE.v (enc := D.int) (a := p87.1) rfl) (ot_idxL _)) fun part_90 =>
  (SS.set (SE.fld (e := D.str) (SE.v (enc := ePlan) (a := part_90) rfl) (fun _ => rfl)) fun how_92 =>
  (SS.set (SE.blt1 (SE.fld (e := (eL D.str)) (SE.v (enc := ePlan) (a := part_90) rfl) (fun _ => rfl)) (ot_lenL _)) fun count_95 =>
  (SS.nil (AgL.so (AgL.so (AgL.so (AgL.so (AgL.so (AgL.so (AgL.so (AgL.so (AgL.so (AgL.so (AgL.so (AgL.so (AgL.so (AgL.no (AgL.so (AgL.so (AgL.so (AgL.so (AgL.no (AgL.no AgL.nil))))))))))))))))))))))))))
  (SS.nil (AgL.so (AgL.so (AgL.so (AgL.so (AgL.so (AgL.so (AgL.so (AgL.so (AgL.so (AgL.so (AgL.so (AgL.so (AgL.so (AgL.no (AgL.so (AgL.so (AgL.so (AgL.so (AgL.no (AgL.no AgL.nil))))))))))))))))))))) fun s96 =>
  (SS.eff (SE.call3 (SE.v (enc := (eL D.int)) (a := s96.2.1) rfl) (SE.bin (SE.v (enc := D.int) (a := givens_15) rfl) (SE.v (enc := D.int) (a := x26) rfl) ot_add) (SE.v (enc := D.int) (a := s96.2.2.2) rfl) (s_law_items_2 _ (by omega))) (fun _ => rfl) fun p102 =>
  (SS.app (ev := (eP3 D.str D.str (eT (eP D.int D.int)))) (xs := s22.1) rfl (SE.tupX3 (e := (eP3 D.str D.str (eT (eP D.int D.int)))) (SE.bin SE.str (SE.blt1 (SE.v (enc := D.int) (a := x26) rfl) ot_str) ot_addS) (SE.v (enc := D.str) (a := s96.2.2.1) rfl) (SE.v (enc := (eT (eP D.int D.int))) (a := p102.1) rfl) (fun _ _ _ => rfl)) fun y110 =>
  (SS.nil (AgL.so (AgL.so (AgL.so (AgL.so (AgL.so (AgL.so (AgL.so (AgL.so (AgL.so (AgL.no (AgL.no (AgL.no (AgL.no (AgL.no (AgL.so (AgL.so (AgL.no (AgL.no (AgL.no (AgL.no AgL.nil))))))))))))))))))))))))))))))) fun s22 =>
  (SS.ret (SE.mk3 (e := ePlan) (SE.v (enc := D.str) (a := a_name) rfl) (SE.map (its := fun x116 => x116) (e := D.int) (SE.rng1 (SE.v (enc := D.int) (a := givens_15) rfl) ot_rng1) (fun _ => rfl) (fun _ => rfl) (fun x112 => (SE.bin SE.str (SE.blt1 (SE.v (enc := D.int) (a := x112) rfl) ot_str) ot_addS))) (SE.v (enc := (eL (eP3 D.str D.str (eT (eP D.int D.int))))) (a := s22.1) rfl) (fun _ _ _ => rfl)))))))))))
def m_law_book_2 (a_script : List Int) (a_plans : Int) (a_most_rows : Int) : R (BookT) := FT.fin .stuck ((FT.bindR (R.ok ([] : List PlanT)) fun found_1 =>
  ((FT.bindR ((R.ok a_plans).bind fun x3 => rng1R x3) fun x22 => forT (fun (x4 : Int) (s2 : (List PlanT)) => ((FT.bindR ((R.ok a_script).bind fun x14 => ((R.ok (1 : Int)).bind fun x9 => ((R.ok x4).bind fun x7 => ((R.ok a_most_rows).bind fun x5 => (R.ok (1 : Int)).bind fun x6 => .ok (x5 + x6)).bind fun x8 => mulR x7 x8).bind fun x10 => .ok (x9 + x10)).bind fun x15 => ((R.ok ("p" : PySem.Str)).bind fun x12 => ((R.ok x4).bind fun x11 => strR x11).bind fun x13 => catS x12 x13).bind fun x16 => (R.ok s2).bind fun x17 => (R.ok a_most_rows).bind fun x18 => m_law_plan_2 x14 x15 x16 x17 x18) fun v19 => FT.bindR (appR s2 v19) fun y20 =>
  (.nx y20)) : FT ((List PlanT)) ((List PlanT)) (BookT))) (x22) found_1 : FT ((List PlanT)) (Unit) (BookT)).seq fun s2 =>
  (FT.bindR ((R.ok s2).bind fun x21 => .ok x21) fun r => .rt r))) : FT Unit Unit (BookT))
theorem s_law_book_2 : ∀ m, 5 ≤ m → ∀ (a_script : List Int) (a_plans : Int) (a_most_rows : Int), SimW (phi prog m 280 [(eL D.int) a_script, D.int a_plans, D.int a_most_rows]) (m_law_book_2 a_script a_plans a_most_rows) eBook := by
  intro m hm a_script a_plans a_most_rows
  unfold m_law_book_2
  exact Sim.fun' (d := f_law_book_2) (o := fun _ => [none, none, none, none, none]) (oc := fun _ => [none, none, none, none, none]) hm (by decide) rfl rfl trivial (fun k hk =>
    (SS.seto (SE.lnil (e := ePlan)) (fun _ => rfl) fun found_1 =>
  (SS.for (out1 := fun (s2 : (List PlanT)) => [some ((eL D.int) a_script), some (D.int a_plans), some (D.int a_most_rows), some ((eL ePlan) s2), none]) (its := fun x22 => x22) (e := D.int) (SE.rng1 (SE.v (enc := D.int) (a := a_plans) rfl) ot_rng1) (fun _ => rfl) (AgL.so (AgL.so (AgL.so (AgL.so (AgL.no AgL.nil))))) (fun _ => (AgL.so (AgL.so (AgL.so (AgL.so (AgL.no AgL.nil)))))) (fun _ _ => rfl) (fun x4 s2 =>
  (SS.app (ev := ePlan) (xs := s2) rfl (SE.call5 (SE.v (enc := (eL D.int)) (a := a_script) rfl) (SE.bin SE.int (SE.bin (SE.v (enc := D.int) (a := x4) rfl) (SE.bin (SE.v (enc := D.int) (a := a_most_rows) rfl) SE.int ot_add) ot_mul) ot_add) (SE.bin SE.str (SE.blt1 (SE.v (enc := D.int) (a := x4) rfl) ot_str) ot_addS) (SE.v (enc := (eL ePlan)) (a := s2) rfl) (SE.v (enc := D.int) (a := a_most_rows) rfl) (s_law_plan_2 _ (by omega))) fun y20 =>
  (SS.nil (AgL.so (AgL.so (AgL.so (AgL.so (AgL.no AgL.nil)))))))) fun s2 =>
  (SS.ret (SE.mk1 (e := eBook) (SE.v (enc := (eL ePlan)) (a := s2) rfl) (fun _ => rfl))))))
def m_law_hours_5 (a_cell : Int) (a_many : Int) : R (List Int) := FT.fin .stuck ((FT.bindR (R.ok ([] : List Int)) fun hours_1 =>
  ((FT.bindR ((R.ok a_many).bind fun x3 => rng1R x3) fun x54 => forT (fun (x4 : Int) (s2 : (List Int)) => ((FT.bindR (((((((R.ok a_cell).bind fun x7 => ((R.ok x4).bind fun x5 => (R.ok (1 : Int)).bind fun x6 => .ok (x5 + x6)).bind fun x8 => fdivR x7 x8).bind fun x9 => (R.ok (2147483647 : Int)).bind fun x10 => modR x9 x10).bind fun x13 => ((R.ok (17 : Int)).bind fun x11 => (R.ok x4).bind fun x12 => mulR x11 x12).bind fun x14 => .ok (x13 + x14)).bind fun x15 => (R.ok (5 : Int)).bind fun x16 => .ok (x15 + x16)).bind fun x17 => (R.ok (48271 : Int)).bind fun x18 => mulR x17 x18).bind fun x19 => (R.ok (2147483647 : Int)).bind fun x20 => modR x19 x20) fun mixed_21 =>
  (FT.bindR (((R.ok mixed_21).bind fun x22 => (R.ok (19 : Int)).bind fun x23 => modR x22 x23).bind fun x24 => (R.ok (9 : Int)).bind fun x25 => .ok (x24 - x25)) fun v26 => FT.bindR (appR s2 v26) fun y27 =>
  (FT.bindR ((((R.ok mixed_21).bind fun x28 => (R.ok (19 : Int)).bind fun x29 => fdivR x28 x29).bind fun x30 => (R.ok (3 : Int)).bind fun x31 => modR x30 x31).bind fun x32 => (R.ok (0 : Int)).bind fun x33 => .ok (decide (x32 = x33))) fun x34 => if x34 then (FT.bindR ((((R.ok a_cell).bind fun x40 => ((R.ok x4).bind fun x38 => (R.ok (2 : Int)).bind fun x39 => .ok (x38 + x39)).bind fun x41 => fdivR x40 x41).bind fun x48 => (((R.ok (2 : Int)).bind fun x44 => ((R.ok (10 : Int)).bind fun x42 => (R.ok (60 : Int)).bind fun x43 => powR x42 x43).bind fun x45 => mulR x44 x45).bind fun x46 => (R.ok (1 : Int)).bind fun x47 => .ok (x46 + x47)).bind fun x49 => modR x48 x49).bind fun x52 => ((R.ok (10 : Int)).bind fun x50 => (R.ok (60 : Int)).bind fun x51 => powR x50 x51).bind fun x53 => .ok (x52 - x53)) fun v36 => FT.bindR (R.ok x4) fun q35 => FT.bindR (setR y27 q35 v36) fun y37 =>
  (.nx y37))
  else (.nx y27)))) : FT ((List Int)) ((List Int)) (List Int))) (x54) hours_1 : FT ((List Int)) (Unit) (List Int)).seq fun s2 =>
  (FT.bindR (R.ok s2) fun r => .rt r))) : FT Unit Unit (List Int))
theorem s_law_hours_5 : ∀ m, 1 ≤ m → ∀ (a_cell : Int) (a_many : Int), SimW (phi prog m 281 [D.int a_cell, D.int a_many]) (m_law_hours_5 a_cell a_many) (eL D.int) := by
  intro m hm a_cell a_many
  unfold m_law_hours_5
  exact Sim.fun' (d := f_law_hours_5) (o := fun _ => [none, none, none, none, none]) (oc := fun _ => [none, none, none, none, none]) hm (by decide) rfl rfl trivial (fun k hk =>
    (SS.seto (SE.lnil (e := D.int)) (fun _ => rfl) fun hours_1 =>
  (SS.for (out1 := fun (s2 : (List Int)) => [some (D.int a_cell), some (D.int a_many), some ((eL D.int) s2), none, none]) (its := fun x54 => x54) (e := D.int) (SE.rng1 (SE.v (enc := D.int) (a := a_many) rfl) ot_rng1) (fun _ => rfl) (AgL.so (AgL.so (AgL.so (AgL.no (AgL.no AgL.nil))))) (fun _ => (AgL.so (AgL.so (AgL.so (AgL.no (AgL.no AgL.nil)))))) (fun _ _ => rfl) (fun x4 s2 =>
  (SS.set (SE.bin (SE.bin (SE.bin (SE.bin (SE.bin (SE.bin (SE.v (enc := D.int) (a := a_cell) rfl) (SE.bin (SE.v (enc := D.int) (a := x4) rfl) SE.int ot_add) ot_fdiv) SE.int ot_mod) (SE.bin SE.int (SE.v (enc := D.int) (a := x4) rfl) ot_mul) ot_add) SE.int ot_add) SE.int ot_mul) SE.int ot_mod) fun mixed_21 =>
  (SS.app (ev := D.int) (xs := s2) rfl (SE.bin (SE.bin (SE.v (enc := D.int) (a := mixed_21) rfl) SE.int ot_mod) SE.int ot_sub) fun y27 =>
  (SS.ifz (SE.cmp (SE.bin (SE.bin (SE.v (enc := D.int) (a := mixed_21) rfl) SE.int ot_fdiv) SE.int ot_mod) SE.int (ot_eq ⟨_, by decide, EqOk.int⟩))
  (SS.setIdx (d := (eL D.int) y27) (ex := (eL D.int)) rfl (SE.bin (SE.bin (SE.bin (SE.v (enc := D.int) (a := a_cell) rfl) (SE.bin (SE.v (enc := D.int) (a := x4) rfl) SE.int ot_add) ot_fdiv) (SE.bin (SE.bin SE.int (SE.bin SE.int SE.int ot_pow) ot_mul) SE.int ot_add) ot_mod) (SE.bin SE.int SE.int ot_pow) ot_sub) (SE.v (enc := D.int) (a := x4) rfl) (ot_setIdx D.int y27) fun y37 =>
  (SS.nil (AgL.so (AgL.so (AgL.so (AgL.no (AgL.no AgL.nil)))))))
  (SS.nil (AgL.so (AgL.so (AgL.so (AgL.no (AgL.no AgL.nil)))))))))) fun s2 =>
  (SS.ret (SE.v (enc := (eL D.int)) (a := s2) rfl)))))
def g_law_run_1 (c_law_run_1 : (List PlanT) → PlanT → (List Int) → R (List Int)) (a_plans : List PlanT) (a_plan : PlanT) (a_hours : List Int) : R (List Int) := FT.fin .stuck ((FT.bindR ((R.ok a_hours).bind fun x1 => .ok x1) fun found_2 =>
  ((FT.bindR ((R.ok a_plan).bind fun x4 => .ok x4.2.2) fun x50 => forT (fun (x5 : PySem.Str × PySem.Str × (List (Int × Int))) (s3 : (List Int)) => ((FT.bindR (((R.ok x5).bind fun x6 => .ok x6.2.2).bind fun x12 => mapC (fun (x7 : Int × Int) => (((R.ok s3).bind fun x8 => (R.ok x7.1).bind fun x9 => idxR x8 x9).bind fun x10 => (R.ok x7.2).bind fun x11 => .ok (x10 + x11))) x12) fun times_13 =>
  (FT.bindR (((R.ok x5).bind fun x14 => .ok x14.2.1).bind fun x15 => (R.ok ("all" : PySem.Str)).bind fun x16 => R.of (eqD (D.str x15) (D.str x16))) fun x17 => if x17 then (FT.bindR (((R.ok times_13).bind fun x18 => sortR D.int x18).bind fun x20 => ((R.ok (1 : Int)).bind fun x19 => .ok (-x19)).bind fun x21 => idxR x20 x21) fun v22 => FT.bindR (appR s3 v22) fun y23 =>
  (.nx y23))
  else (FT.bindR (((R.ok x5).bind fun x24 => .ok x24.2.1).bind fun x25 => (R.ok ("first" : PySem.Str)).bind fun x26 => R.of (eqD (D.str x25) (D.str x26))) fun x27 => if x27 then (FT.bindR (((R.ok times_13).bind fun x28 => sortR D.int x28).bind fun x29 => (R.ok (0 : Int)).bind fun x30 => idxR x29 x30) fun v31 => FT.bindR (appR s3 v31) fun y32 =>
  (.nx y32))
  else (FT.bindR (((R.ok a_plans).bind fun x34 => filC (fun (x33 : PlanT) => (((R.ok x33).bind fun x35 => .ok x35.1).bind fun x37 => ((R.ok x5).bind fun x36 => .ok x36.2.1).bind fun x38 => R.of (eqD (D.str x37) (D.str x38)))) (fun (x33 : PlanT) => (R.ok x33)) x34).bind fun x39 => (R.ok (0 : Int)).bind fun x40 => idxR x39 x40) fun part_41 =>
  (FT.bindR (((R.ok a_plans).bind fun x42 => (R.ok part_41).bind fun x43 => (R.ok times_13).bind fun x44 => c_law_run_1 x42 x43 x44).bind fun x46 => ((R.ok (1 : Int)).bind fun x45 => .ok (-x45)).bind fun x47 => idxR x46 x47) fun v48 => FT.bindR (appR s3 v48) fun y49 =>
  (.nx y49)))))) : FT ((List Int)) ((List Int)) (List Int))) (x50) found_2 : FT ((List Int)) (Unit) (List Int)).seq fun s3 =>
  (FT.bindR (R.ok s3) fun r => .rt r))) : FT Unit Unit (List Int))
theorem gs_law_run_1 (n : Nat) (hn : 1 ≤ n) (c_law_run_1 : (List PlanT) → PlanT → (List Int) → R (List Int)) (ih_law_run_1 : ∀ m, n ≤ m → ∀ (a_plans : List PlanT) (a_plan : PlanT) (a_hours : List Int), SimW (phi prog m 282 [(eL ePlan) a_plans, ePlan a_plan, (eL D.int) a_hours]) (c_law_run_1 a_plans a_plan a_hours) (eL D.int)) : ∀ m, n + 1 ≤ m → ∀ (a_plans : List PlanT) (a_plan : PlanT) (a_hours : List Int), SimW (phi prog m 282 [(eL ePlan) a_plans, ePlan a_plan, (eL D.int) a_hours]) (g_law_run_1 c_law_run_1 a_plans a_plan a_hours) (eL D.int) := by
  intro m hm a_plans a_plan a_hours
  unfold g_law_run_1
  exact Sim.fun' (d := f_law_run_1) (o := fun _ => [none, none, none, none, none, none, none, none, none, none]) (oc := fun _ => [none, none, none, none, none, none, none, none, none, none]) hm (by omega) rfl rfl trivial (fun k hk =>
    (SS.seto (SE.blt1 (SE.v (enc := (eL D.int)) (a := a_hours) rfl) (ot_listL _)) (fun _ => rfl) fun found_2 =>
  (SS.for (out1 := fun (s3 : (List Int)) => [some ((eL ePlan) a_plans), some (ePlan a_plan), some ((eL D.int) a_hours), some ((eL D.int) s3), none, none, none, none, none, none]) (its := fun x50 => x50) (e := (eP3 D.str D.str (eT (eP D.int D.int)))) (SE.fld (e := (eL (eP3 D.str D.str (eT (eP D.int D.int))))) (SE.v (enc := ePlan) (a := a_plan) rfl) (fun _ => rfl)) (fun _ => rfl) (AgL.so (AgL.so (AgL.so (AgL.so (AgL.no (AgL.no (AgL.no (AgL.no (AgL.no (AgL.no AgL.nil)))))))))) (fun _ => (AgL.so (AgL.so (AgL.so (AgL.so (AgL.no (AgL.no (AgL.no (AgL.no (AgL.no (AgL.no AgL.nil))))))))))) (fun _ _ => rfl) (fun x5 s3 =>
  (SS.set (SE.map (its := fun x12 => x12) (e := (eP D.int D.int)) (SE.prt (e := (eT (eP D.int D.int))) (SE.v (enc := (eP3 D.str D.str (eT (eP D.int D.int)))) (a := x5) rfl) (fun _ => rfl)) (fun _ => rfl) (fun _ => rfl) (fun x7 => (SE.bin (SE.idx (SE.v (enc := (eL D.int)) (a := s3) rfl) (SE.v (enc := D.int) (a := x7.1) rfl) (ot_idxL _)) (SE.v (enc := D.int) (a := x7.2) rfl) ot_add))) fun times_13 =>
  (SS.ifz (SE.cmp (SE.prt (e := D.str) (SE.v (enc := (eP3 D.str D.str (eT (eP D.int D.int)))) (a := x5) rfl) (fun _ => rfl)) SE.str (ot_eqX _ _))
  (SS.app (ev := D.int) (xs := s3) rfl (SE.idx (SE.blt1 (SE.v (enc := (eL D.int)) (a := times_13) rfl) (ot_sorted _)) (SE.neg SE.int) (ot_idxL _)) fun y23 =>
  (SS.nil (AgL.so (AgL.so (AgL.so (AgL.so (AgL.no (AgL.no (AgL.no (AgL.no (AgL.no (AgL.no AgL.nil))))))))))))
  (SS.ifz (SE.cmp (SE.prt (e := D.str) (SE.v (enc := (eP3 D.str D.str (eT (eP D.int D.int)))) (a := x5) rfl) (fun _ => rfl)) SE.str (ot_eqX _ _))
  (SS.app (ev := D.int) (xs := s3) rfl (SE.idx (SE.blt1 (SE.v (enc := (eL D.int)) (a := times_13) rfl) (ot_sorted _)) SE.int (ot_idxL _)) fun y32 =>
  (SS.nil (AgL.so (AgL.so (AgL.so (AgL.so (AgL.no (AgL.no (AgL.no (AgL.no (AgL.no (AgL.no AgL.nil))))))))))))
  (SS.set (SE.idx (SE.fil (its := fun x34 => x34) (e := ePlan) (SE.v (enc := (eL ePlan)) (a := a_plans) rfl) (fun _ => rfl) (fun _ => rfl) (fun x33 => (SE.cmp (SE.fld (e := D.str) (SE.v (enc := ePlan) (a := x33) rfl) (fun _ => rfl)) (SE.prt (e := D.str) (SE.v (enc := (eP3 D.str D.str (eT (eP D.int D.int)))) (a := x5) rfl) (fun _ => rfl)) (ot_eqX _ _))) (fun x33 => (SE.v (enc := ePlan) (a := x33) rfl))) SE.int (ot_idxL _)) fun part_41 =>
  (SS.app (ev := D.int) (xs := s3) rfl (SE.idx (SE.call3 (SE.v (enc := (eL ePlan)) (a := a_plans) rfl) (SE.v (enc := ePlan) (a := part_41) rfl) (SE.v (enc := (eL D.int)) (a := times_13) rfl) (ih_law_run_1 _ (by omega))) (SE.neg SE.int) (ot_idxL _)) fun y49 =>
  (SS.nil (AgL.so (AgL.so (AgL.so (AgL.so (AgL.no (AgL.no (AgL.no (AgL.no (AgL.no (AgL.no AgL.nil))))))))))))))))) fun s3 =>
  (SS.ret (SE.v (enc := (eL D.int)) (a := s3) rfl)))))
def grp_law_run_1 : Nat → ((List PlanT) → PlanT → (List Int) → R (List Int))
  | 0 => (fun _ _ _ => .stuck)
  | n + 1 => g_law_run_1 (grp_law_run_1 n)
def m_law_run_1 (n : Nat) : (List PlanT) → PlanT → (List Int) → R (List Int) := (grp_law_run_1 n)
theorem m_law_run_1_eq (n : Nat) (a_plans : List PlanT) (a_plan : PlanT) (a_hours : List Int) : m_law_run_1 (n + 1) a_plans a_plan a_hours = g_law_run_1 (m_law_run_1 n) a_plans a_plan a_hours := rfl
theorem gsa_law_run_1 : ∀ n m, 1 + n ≤ m → (∀ (a_plans : List PlanT) (a_plan : PlanT) (a_hours : List Int), SimW (phi prog m 282 [(eL ePlan) a_plans, ePlan a_plan, (eL D.int) a_hours]) (m_law_run_1 n a_plans a_plan a_hours) (eL D.int))
  | 0, m, _ => fun _ _ _ => ⟨trivial⟩
  | n + 1, m, hm => gs_law_run_1 (1 + n) (by omega) (m_law_run_1 n) (fun k hk => (gsa_law_run_1 n k hk)) m (by omega)
theorem s_law_run_1 (n : Nat) : ∀ m, 1 + n ≤ m → ∀ (a_plans : List PlanT) (a_plan : PlanT) (a_hours : List Int), SimW (phi prog m 282 [(eL ePlan) a_plans, ePlan a_plan, (eL D.int) a_hours]) (m_law_run_1 n a_plans a_plan a_hours) (eL D.int) := fun m hm => (gsa_law_run_1 n m hm)
def m_law_refused_6 (a_book : BookT) (a_name : PySem.Str) (a_hours : List Int) (a_which : Int) : R (Bool) := FT.fin .stuck ((FT.bindR (R.ok false) fun refused_1 =>
  ((FT.try ((FT.bindR ((R.ok a_which).bind fun x4 => (R.ok (0 : Int)).bind fun x5 => .ok (decide (x4 = x5))) fun x6 => if x6 then (FT.bindR ((R.ok a_book).bind fun x7 => (R.ok a_name).bind fun x8 => (R.ok a_hours).bind fun x9 => m_hours_of 24 x7 x8 x9) fun _ =>
  (.nx refused_1))
  else (FT.bindR ((R.ok a_book).bind fun x10 => (R.ok a_name).bind fun x11 => (R.ok a_hours).bind fun x12 => m_told_hour 24 x10 x11 x12) fun _ =>
  (.nx refused_1))) : FT ((Bool)) (Unit) (Bool)) [6] (fun c2 r3 => (FT.bindR (R.ok true) fun refused_13 =>
  (.nx refused_13)))).seq fun s14 =>
  (FT.bindR (R.ok s14) fun r => .rt r))) : FT Unit Unit (Bool))
theorem s_law_refused_6 : ∀ m, 27 ≤ m → ∀ (a_book : BookT) (a_name : PySem.Str) (a_hours : List Int) (a_which : Int), SimW (phi prog m 283 [eBook a_book, D.str a_name, (eL D.int) a_hours, D.int a_which]) (m_law_refused_6 a_book a_name a_hours a_which) D.bl := by
  intro m hm a_book a_name a_hours a_which
  unfold m_law_refused_6
  exact Sim.fun' (d := f_law_refused_6) (o := fun _ => [none, none, none, none, none]) (oc := fun _ => [none, none, none, none, none]) hm (by decide) rfl rfl trivial (fun k hk =>
    (SS.set SE.bl fun refused_1 =>
  (SS.try (out1 := fun (s14 : (Bool)) => [some (eBook a_book), some (D.str a_name), some ((eL D.int) a_hours), some (D.int a_which), some (D.bl s14)]) (SS.ifz (SE.cmp (SE.v (enc := D.int) (a := a_which) rfl) SE.int (ot_eq ⟨_, by decide, EqOk.int⟩))
  (SS.expr (SE.call3 (SE.v (enc := eBook) (a := a_book) rfl) (SE.v (enc := D.str) (a := a_name) rfl) (SE.v (enc := (eL D.int)) (a := a_hours) rfl) (s_hours_of 24 _ (by omega)))
  (SS.nil (AgL.so (AgL.so (AgL.so (AgL.so (AgL.so AgL.nil)))))))
  (SS.expr (SE.call3 (SE.v (enc := eBook) (a := a_book) rfl) (SE.v (enc := D.str) (a := a_name) rfl) (SE.v (enc := (eL D.int)) (a := a_hours) rfl) (s_told_hour 24 _ (by omega)))
  (SS.nil (AgL.so (AgL.so (AgL.so (AgL.so (AgL.so AgL.nil))))))))
  (fun c2 r3 => (SS.set SE.bl fun refused_13 =>
  (SS.nil (AgL.so (AgL.so (AgL.so (AgL.so (AgL.so AgL.nil)))))))) fun s14 =>
  (SS.ret (SE.v (enc := D.bl) (a := s14) rfl)))))
def m_law_alone_2 (a_book : BookT) (a_name : PySem.Str) (a_hours : List Int) : R (Bool) := FT.fin .stuck ((FT.bindR (R.ok ([] : List Bool)) fun marks_1 =>
  ((FT.try ((FT.bindR ((R.ok a_book).bind fun x4 => (R.ok a_name).bind fun x5 => (R.ok a_hours).bind fun x6 => m_hours_of 24 x4 x5 x6) fun _ =>
  (.nx marks_1)) : FT ((List Bool)) (Unit) (Bool)) [0] (fun c2 r3 => (FT.bindR (((R.ok (c2, r3)).bind fun x13 => isE [100] x13).bind fun x14 => (((R.ok (c2, r3)).bind fun x10 => isE [2, 4, 3, 5, 1] x10).bind fun x11 => (((R.ok (c2, r3)).bind fun x7 => isE [8, 9, 7] x7).bind fun x8 => (R.ok ([] : List Bool)).bind fun x9 => .ok (x8 :: x9)).bind fun x12 => .ok (x11 :: x12)).bind fun x15 => .ok (x14 :: x15)) fun marks_16 =>
  (.nx marks_16)))).seq fun s17 =>
  (FT.bindR ((R.ok s17).bind fun x24 => ((R.ok true).bind fun x22 => ((R.ok false).bind fun x20 => ((R.ok false).bind fun x18 => (R.ok ([] : List Bool)).bind fun x19 => .ok (x18 :: x19)).bind fun x21 => .ok (x20 :: x21)).bind fun x23 => .ok (x22 :: x23)).bind fun x25 => .ok (decide (x24 = x25))) fun r => .rt r))) : FT Unit Unit (Bool))
theorem s_law_alone_2 : ∀ m, 27 ≤ m → ∀ (a_book : BookT) (a_name : PySem.Str) (a_hours : List Int), SimW (phi prog m 284 [eBook a_book, D.str a_name, (eL D.int) a_hours]) (m_law_alone_2 a_book a_name a_hours) D.bl := by
  intro m hm a_book a_name a_hours
  unfold m_law_alone_2
  exact Sim.fun' (d := f_law_alone_2) (o := fun _ => [none, none, none, none, none]) (oc := fun _ => [none, none, none, none, none]) hm (by decide) rfl rfl trivial (fun k hk =>
    (SS.set (SE.lnil (e := D.bl)) fun marks_1 =>
  (SS.try (out1 := fun (s17 : (List Bool)) => [some (eBook a_book), some (D.str a_name), some ((eL D.int) a_hours), some ((eL D.bl) s17), none]) (SS.expr (SE.call3 (SE.v (enc := eBook) (a := a_book) rfl) (SE.v (enc := D.str) (a := a_name) rfl) (SE.v (enc := (eL D.int)) (a := a_hours) rfl) (s_hours_of 24 _ (by omega)))
  (SS.nil (AgL.so (AgL.so (AgL.so (AgL.so (AgL.no AgL.nil)))))))
  (fun c2 r3 => (SS.set (SE.lcons (SE.isi (SE.v (enc := eE) (a := (c2, r3)) rfl) (fun _ => ot_isiE rfl)) (SE.lcons (SE.isi (SE.v (enc := eE) (a := (c2, r3)) rfl) (fun _ => ot_isiE rfl)) (SE.lcons (SE.isi (SE.v (enc := eE) (a := (c2, r3)) rfl) (fun _ => ot_isiE rfl)) (SE.lnil (e := D.bl))))) fun marks_16 =>
  (SS.nil (AgL.so (AgL.so (AgL.so (AgL.so (AgL.no AgL.nil)))))))) fun s17 =>
  (SS.ret (SE.cmp (SE.v (enc := (eL D.bl)) (a := s17) rfl) (SE.lcons SE.bl (SE.lcons SE.bl (SE.lcons SE.bl (SE.lnil (e := D.bl))))) (ot_eq ⟨_, by decide, (EqOk.eL EqOk.bl)⟩))))))
def m_law_turns_1 (a_script : List Int) (a_start : Int) (a_most : Int) : R (List Int) := FT.fin .stuck ((FT.bindR ((R.ok a_most).bind fun x6 => ((R.ok (0 : Int)).bind fun x4 => (((R.ok a_script).bind fun x1 => .ok (x1.length : Int)).bind fun x2 => (R.ok a_start).bind fun x3 => .ok (x2 - x3)).bind fun x5 => .ok (max x4 x5)).bind fun x7 => .ok (min x6 x7)) fun many_8 =>
  (FT.bindR (((R.ok many_8).bind fun x9 => rng1R x9).bind fun x17 => mapC (fun (x10 : Int) => (((R.ok a_script).bind fun x13 => ((R.ok a_start).bind fun x11 => (R.ok x10).bind fun x12 => .ok (x11 + x12)).bind fun x14 => (R.ok a_most).bind fun x15 => stepR x13 x14 x15).bind fun x16 => .ok x16.sum)) x17) fun r => .rt r)) : FT Unit Unit (List Int))
theorem s_law_turns_1 : ∀ m, 1 ≤ m → ∀ (a_script : List Int) (a_start : Int) (a_most : Int), SimW (phi prog m 20 [(eL D.int) a_script, D.int a_start, D.int a_most]) (m_law_turns_1 a_script a_start a_most) (eL D.int) := by
  intro m hm a_script a_start a_most
  unfold m_law_turns_1
  exact Sim.fun' (d := f_law_turns_1) (o := fun _ => [none, none, none, none, none]) (oc := fun _ => [none, none, none, none, none]) hm (by decide) rfl rfl trivial (fun k hk =>
    (SS.set (SE.blt2 (SE.v (enc := D.int) (a := a_most) rfl) (SE.blt2 SE.int (SE.bin (SE.blt1 (SE.v (enc := (eL D.int)) (a := a_script) rfl) (ot_lenL _)) (SE.v (enc := D.int) (a := a_start) rfl) ot_sub) ot_max2) ot_min2) fun many_8 =>
  (SS.ret (SE.map (its := fun x17 => x17) (e := D.int) (SE.rng1 (SE.v (enc := D.int) (a := many_8) rfl) ot_rng1) (fun _ => rfl) (fun _ => rfl) (fun x10 => (SE.blt1 (SE.sls (SE.v (enc := (eL D.int)) (a := a_script) rfl) (SE.bin (SE.v (enc := D.int) (a := a_start) rfl) (SE.v (enc := D.int) (a := x10) rfl) ot_add) (SE.v (enc := D.int) (a := a_most) rfl) (ot_sls _)) ot_sum))))))
def m_law_47 (a_script : List Int) : R (Bool) := FT.fin .stuck ((FT.bindR ((R.ok a_script).bind fun x1 => (R.ok (1 : Int)).bind fun x2 => (R.ok (8 : Int)).bind fun x3 => m_law_book_2 x1 x2 x3) fun book_4 =>
  (FT.bindR (((R.ok book_4).bind fun x5 => .ok x5).bind fun x6 => (R.ok (0 : Int)).bind fun x7 => idxR x6 x7) fun plan_8 =>
  (FT.bindR (((R.ok plan_8).bind fun x9 => .ok x9.2.2).bind fun x10 => .ok x10) fun rows_11 =>
  ((FT.bindR (((R.ok (3 : Int)).bind fun x13 => (R.ok ([] : List Int)).bind fun x14 => .ok (x13 :: x14)).bind fun x18 => ((R.ok a_script).bind fun x15 => (R.ok (10 : Int)).bind fun x16 => (R.ok (30 : Int)).bind fun x17 => m_law_turns_1 x15 x16 x17).bind fun x19 => catL x18 x19) fun x109 => forT (fun (x20 : Int) (s12 : Unit) => ((FT.bindR ((R.ok x20).bind fun x23 => (((R.ok plan_8).bind fun x21 => .ok x21.2.1).bind fun x22 => .ok (x22.length : Int)).bind fun x24 => m_law_hours_5 x23 x24) fun hours_25 =>
  (FT.bindR (((R.ok plan_8).bind fun x26 => (R.ok ([] : List PlanT)).bind fun x27 => .ok (x26 :: x27)).bind fun x28 => (R.ok plan_8).bind fun x29 => (R.ok hours_25).bind fun x30 => m_law_run_1 24 x28 x29 x30) fun due_31 =>
  (FT.bindR ((R.ok hours_25).bind fun x32 => .ok x32) fun handed_33 =>
  (FT.bindR ((R.ok book_4).bind fun x34 => (R.ok ("p0" : PySem.Str)).bind fun x35 => (R.ok handed_33).bind fun x36 => m_hours_of 24 x34 x35 x36) fun found_37 =>
  ((FT.bindR ((((R.ok found_37).bind fun _ => .ok true).bind fun x39 => .ok (!x39)).bind fun x48 => if x48 then .ok true else (((((R.ok found_37).bind fun x42 => mapC (fun (x40 : Int) => ((R.ok x40).bind fun x41 => m_law_whole_1 x41)) x42).bind fun x43 => .ok (x43.all id)).bind fun x44 => .ok (!x44)).bind fun x47 => if x47 then .ok true else ((R.ok found_37).bind fun x45 => (R.ok due_31).bind fun x46 => .ok (!decide (x45 = x46))))) fun x49 => if x49 then (FT.bindR (R.ok false) fun r => .rt r)
  else (.nx ()) : FT (Unit) (Unit) (Bool)).seq fun s50 =>
  (FT.bindR (R.ok (5 : Int)) fun v51 => FT.bindR (appR found_37 v51) fun y52 =>
  (FT.bindR ((R.ok book_4).bind fun x53 => (R.ok ("p0" : PySem.Str)).bind fun x54 => (R.ok handed_33).bind fun x55 => m_told_hour 24 x53 x54 x55) fun told_56 =>
  (FT.bindR ((((R.ok told_56).bind fun x57 => m_law_whole_1 x57).bind fun x58 => .ok (!x58)).bind fun x71 => if x71 then .ok true else (((R.ok told_56).bind fun x62 => ((R.ok due_31).bind fun x60 => ((R.ok (1 : Int)).bind fun x59 => .ok (-x59)).bind fun x61 => idxR x60 x61).bind fun x63 => .ok (!decide (x62 = x63))).bind fun x70 => if x70 then .ok true else (((R.ok handed_33).bind fun x64 => (R.ok hours_25).bind fun x65 => .ok (!decide (x64 = x65))).bind fun x69 => if x69 then .ok true else (((R.ok plan_8).bind fun x66 => .ok x66.2.2).bind fun x67 => (R.ok rows_11).bind fun x68 => (R.of (eqD ((eL (eP3 D.str D.str (eT (eP D.int D.int)))) x67) ((eL (eP3 D.str D.str (eT (eP D.int D.int)))) x68))).bind fun b => .ok (!b))))) fun x72 => if x72 then (FT.bindR (R.ok false) fun r => .rt r)
  else (.nx ()))))))))) : FT (Unit) (Unit) (Bool))) (x109) () : FT (Unit) (Unit) (Bool)).seq fun s12 =>
  (FT.bindR (((R.ok ("p" : PySem.Str)).bind fun x83 => ((R.ok ("p00" : PySem.Str)).bind fun x81 => ((R.ok ("p1" : PySem.Str)).bind fun x79 => ((R.ok ("P0" : PySem.Str)).bind fun x77 => ((R.ok ("" : PySem.Str)).bind fun x75 => ((R.ok ("p0 " : PySem.Str)).bind fun x73 => (R.ok ([] : List PySem.Str)).bind fun x74 => .ok (x73 :: x74)).bind fun x76 => .ok (x75 :: x76)).bind fun x78 => .ok (x77 :: x78)).bind fun x80 => .ok (x79 :: x80)).bind fun x82 => .ok (x81 :: x82)).bind fun x84 => .ok (x83 :: x84)).bind fun x89 => (((R.ok a_script).bind fun x85 => (R.ok (0 : Int)).bind fun x86 => m_law_cell_at_1 x85 x86).bind fun x87 => (R.ok (6 : Int)).bind fun x88 => modR x87 x88).bind fun x90 => idxR x89 x90) fun name_91 =>
  (FT.bindR ((R.ok (4 : Int)).bind fun x94 => (((R.ok plan_8).bind fun x92 => .ok x92.2.1).bind fun x93 => .ok (x93.length : Int)).bind fun x95 => m_law_hours_5 x94 x95) fun hours_96 =>
  (FT.bindR (((R.ok book_4).bind fun x101 => (R.ok name_91).bind fun x102 => (R.ok hours_96).bind fun x103 => (((R.ok a_script).bind fun x97 => (R.ok (1 : Int)).bind fun x98 => m_law_cell_at_1 x97 x98).bind fun x99 => (R.ok (2 : Int)).bind fun x100 => modR x99 x100).bind fun x104 => m_law_refused_6 x101 x102 x103 x104).bind fun x108 => if x108 then ((R.ok book_4).bind fun x105 => (R.ok name_91).bind fun x106 => (R.ok hours_96).bind fun x107 => m_law_alone_2 x105 x106 x107) else .ok false) fun r => .rt r))))))) : FT Unit Unit (Bool))
theorem s_law_47 : ∀ m, 28 ≤ m → ∀ (a_script : List Int), SimW (phi prog m 285 [(eL D.int) a_script]) (m_law_47 a_script) D.bl := by
  intro m hm a_script
  unfold m_law_47
  exact Sim.fun' (d := f_law_47) (o := fun _ => [none, none, none, none, none, none, none, none, none, none, none, none]) (oc := fun _ => [none, none, none, none, none, none, none, none, none, none, none, none]) hm (by decide) rfl rfl trivial (fun k hk =>
    (SS.set (SE.call3 (SE.v (enc := (eL D.int)) (a := a_script) rfl) SE.int SE.int (s_law_book_2 _ (by omega))) fun book_4 =>
  (SS.set (SE.idx (SE.fld (e := (eL ePlan)) (SE.v (enc := eBook) (a := book_4) rfl) (fun _ => rfl)) SE.int (ot_idxL _)) fun plan_8 =>
  (SS.set (SE.blt1 (SE.fld (e := (eL (eP3 D.str D.str (eT (eP D.int D.int))))) (SE.v (enc := ePlan) (a := plan_8) rfl) (fun _ => rfl)) (ot_listL _)) fun rows_11 =>
  (SS.for (out1 := fun (s12 : Unit) => [some ((eL D.int) a_script), some (eBook book_4), some (ePlan plan_8), some ((eL (eP3 D.str D.str (eT (eP D.int D.int)))) rows_11), none, none, none, none, none, none, none, none]) (its := fun x109 => x109) (e := D.int) (SE.bin (SE.lcons SE.int (SE.lnil (e := D.int))) (SE.call3 (SE.v (enc := (eL D.int)) (a := a_script) rfl) SE.int SE.int (s_law_turns_1 _ (by omega))) (ot_addL _)) (fun _ => rfl) (AgL.so (AgL.so (AgL.so (AgL.so (AgL.no (AgL.no (AgL.no (AgL.no (AgL.no (AgL.no (AgL.no (AgL.no AgL.nil)))))))))))) (fun _ => (AgL.so (AgL.so (AgL.so (AgL.so (AgL.no (AgL.no (AgL.no (AgL.no (AgL.no (AgL.no (AgL.no (AgL.no AgL.nil))))))))))))) (fun _ _ => rfl) (fun x20 s12 =>
  (SS.set (SE.call2 (SE.v (enc := D.int) (a := x20) rfl) (SE.blt1 (SE.fld (e := (eL D.str)) (SE.v (enc := ePlan) (a := plan_8) rfl) (fun _ => rfl)) (ot_lenL _)) (s_law_hours_5 _ (by omega))) fun hours_25 =>
  (SS.set (SE.call3 (SE.lcons (SE.v (enc := ePlan) (a := plan_8) rfl) (SE.lnil (e := ePlan))) (SE.v (enc := ePlan) (a := plan_8) rfl) (SE.v (enc := (eL D.int)) (a := hours_25) rfl) (s_law_run_1 24 _ (by omega))) fun due_31 =>
  (SS.set (SE.blt1 (SE.v (enc := (eL D.int)) (a := hours_25) rfl) (ot_listL _)) fun handed_33 =>
  (SS.seto (SE.call3 (SE.v (enc := eBook) (a := book_4) rfl) SE.str (SE.v (enc := (eL D.int)) (a := handed_33) rfl) (s_hours_of 24 _ (by omega))) (fun _ => rfl) fun found_37 =>
  (SS.ife (out1 := fun (s50 : Unit) => [some ((eL D.int) a_script), some (eBook book_4), some (ePlan plan_8), some ((eL (eP3 D.str D.str (eT (eP D.int D.int)))) rows_11), some (D.int x20), none, some ((eL D.int) hours_25), some ((eL D.int) due_31), some ((eL D.int) handed_33), some ((eL D.int) found_37), none, none]) (SE.or (SE.not (SE.isi (SE.v (enc := (eL D.int)) (a := found_37) rfl) (fun _ => ot_isi (by simp [eL, eT, eP, eP3, eP4, eH2, eH3, eM, tyOf]) rfl))) (SE.or (SE.not (SE.blt1 (SE.map (its := fun x42 => x42) (e := D.int) (SE.v (enc := (eL D.int)) (a := found_37) rfl) (fun _ => rfl) (fun _ => rfl) (fun x40 => (SE.call1 (SE.v (enc := D.int) (a := x40) rfl) (s_law_whole_1 _ (by omega))))) ot_all)) (SE.cmp (SE.v (enc := (eL D.int)) (a := found_37) rfl) (SE.v (enc := (eL D.int)) (a := due_31) rfl) (ot_ne ⟨_, by decide, (EqOk.eL EqOk.int)⟩))))
  (SS.ret SE.bl)
  (SS.nil (AgL.so (AgL.so (AgL.so (AgL.so (AgL.so (AgL.no (AgL.so (AgL.so (AgL.so (AgL.so (AgL.no (AgL.no AgL.nil))))))))))))) fun s50 =>
  (SS.app (ev := D.int) (xs := found_37) rfl SE.int fun y52 =>
  (SS.set (SE.call3 (SE.v (enc := eBook) (a := book_4) rfl) SE.str (SE.v (enc := (eL D.int)) (a := handed_33) rfl) (s_told_hour 24 _ (by omega))) fun told_56 =>
  (SS.ifz (SE.or (SE.not (SE.call1 (SE.v (enc := D.int) (a := told_56) rfl) (s_law_whole_1 _ (by omega)))) (SE.or (SE.cmp (SE.v (enc := D.int) (a := told_56) rfl) (SE.idx (SE.v (enc := (eL D.int)) (a := due_31) rfl) (SE.neg SE.int) (ot_idxL _)) (ot_ne ⟨_, by decide, EqOk.int⟩)) (SE.or (SE.cmp (SE.v (enc := (eL D.int)) (a := handed_33) rfl) (SE.v (enc := (eL D.int)) (a := hours_25) rfl) (ot_ne ⟨_, by decide, (EqOk.eL EqOk.int)⟩)) (SE.cmp (SE.fld (e := (eL (eP3 D.str D.str (eT (eP D.int D.int))))) (SE.v (enc := ePlan) (a := plan_8) rfl) (fun _ => rfl)) (SE.v (enc := (eL (eP3 D.str D.str (eT (eP D.int D.int))))) (a := rows_11) rfl) (ot_neX _ _)))))
  (SS.ret SE.bl)
  (SS.nil (AgL.so (AgL.so (AgL.so (AgL.so (AgL.no (AgL.no (AgL.no (AgL.no (AgL.no (AgL.no (AgL.no (AgL.no AgL.nil)))))))))))))))))))))) fun s12 =>
  (SS.set (SE.idx (SE.lcons SE.str (SE.lcons SE.str (SE.lcons SE.str (SE.lcons SE.str (SE.lcons SE.str (SE.lcons SE.str (SE.lnil (e := D.str)))))))) (SE.bin (SE.call2 (SE.v (enc := (eL D.int)) (a := a_script) rfl) SE.int (s_law_cell_at_1 _ (by omega))) SE.int ot_mod) (ot_idxL _)) fun name_91 =>
  (SS.set (SE.call2 SE.int (SE.blt1 (SE.fld (e := (eL D.str)) (SE.v (enc := ePlan) (a := plan_8) rfl) (fun _ => rfl)) (ot_lenL _)) (s_law_hours_5 _ (by omega))) fun hours_96 =>
  (SS.ret (SE.and (SE.call4 (SE.v (enc := eBook) (a := book_4) rfl) (SE.v (enc := D.str) (a := name_91) rfl) (SE.v (enc := (eL D.int)) (a := hours_96) rfl) (SE.bin (SE.call2 (SE.v (enc := (eL D.int)) (a := a_script) rfl) SE.int (s_law_cell_at_1 _ (by omega))) SE.int ot_mod) (s_law_refused_6 _ (by omega))) (SE.call3 (SE.v (enc := eBook) (a := book_4) rfl) (SE.v (enc := D.str) (a := name_91) rfl) (SE.v (enc := (eL D.int)) (a := hours_96) rfl) (s_law_alone_2 _ (by omega))))))))))))

/-! _law_cell_at -/
theorem cellat_ok (ns : List Int) {k : Int} (h : 0 ≤ k) : m_law_cell_at_1 ns k = .ok (ns.getD k.toNat 0) := by
  by_cases c : k < ns.length
  · have := idxR_D h c
    simp [m_law_cell_at_1, c, this]
  · have hn : ns[k.toNat]? = none := List.getElem?_eq_none (by omega)
    simp [m_law_cell_at_1, c, hn]

/-! far beyond a form and hours -/
structure FarIs (f : List Row) (hours : List Int) (v : Int) : Prop where
  pos : 4 ≤ v
  far : ∀ r ∈ f, ∀ p ∈ r, ∀ x ∈ hours, 4 * absI p.2 + 4 * absI x + 4 ≤ v
theorem abs_ge (x : Int) : x ≤ absI x ∧ -x ≤ absI x ∧ 0 ≤ absI x := by unfold absI; split <;> omega
theorem FarIs.lt {f : List Row} {hours : List Int} {v : Int} (h : FarIs f hours v) {T : Nat} (hT : T ≤ hours.length) {r q : Row} (hr : r ∈ f) (hq : q ∈ f) (kr : RowIn T r) (kq : RowIn T q) {p p' : Int × Int} (hp : p ∈ r) (hp' : p' ∈ q) : val hours p < val hours p' + v := by
  have hx : ∀ {s : Row}, RowIn T s → ∀ o ∈ s, hours.getD o.1.toNat 0 ∈ hours := fun ks o ho => by
    have := ks.at_ o ho
    rw [List.getD_eq_getElem?_getD, List.getElem?_eq_getElem (by omega)]
    exact List.getElem_mem _
  have h1 := h.far r hr p hp _ (hx kr p hp)
  have h2 := h.far q hq p' hp' _ (hx kq p' hp')
  unfold val
  have := abs_ge p.2
  have := abs_ge p'.2
  have := abs_ge (hours.getD p.1.toNat 0)
  have := abs_ge (hours.getD p'.1.toNat 0)
  omega

/-! hours in which some things come later -/
def movedV (hours ts : List Int) (m : Int) : List Int := (List.range hours.length).map fun (k : Nat) => hours.getD k 0 + m * (if memB (k : Int) ts then 1 else 0)
theorem movedV_len (hours ts : List Int) (m : Int) : (movedV hours ts m).length = hours.length := by simp [movedV]
theorem movedV_at {hours ts : List Int} {m t : Int} (h0 : 0 ≤ t) (h1 : t < hours.length) : (movedV hours ts m).getD t.toNat 0 = hours.getD t.toNat 0 + (if t ∈ ts then m else 0) := by
  obtain ⟨k, rfl⟩ := Int.eq_ofNat_of_zero_le h0
  have hk : k < hours.length := by omega
  unfold movedV
  rw [List.getD_eq_getElem?_getD, List.getElem?_map, Int.toNat_natCast, List.getElem?_range hk]
  by_cases c : (k : Int) ∈ ts <;> simp [c]
theorem moved_val {T : Nat} {r : Row} {hours ts : List Int} {m : Int} (hr : RowIn T r) (hl : T ≤ hours.length) {p : Int × Int} (hp : p ∈ r) : val (movedV hours ts m) p = val hours p + (if p.1 ∈ ts then m else 0) := by
  have := hr.at_ p hp
  unfold val
  rw [movedV_at (by omega) (by omega)]
  omega
theorem moved_none {T : Nat} {r : Row} {hours ts : List Int} {m : Int} (hr : RowIn T r) (hl : T ≤ hours.length) (h : ∀ p ∈ r, p.1 ∉ ts) : hourOf r (movedV hours ts m) = hourOf r hours := by
  unfold hourOf
  congr 1
  apply List.map_congr_left
  intro p hp
  rw [moved_val hr hl hp, if_neg (h p hp)]
  omega
theorem moved_ge {T : Nat} {r : Row} {hours ts : List Int} {m : Int} (hr : RowIn T r) (hl : T ≤ hours.length) (hm : 0 ≤ m) : hourOf r hours ≤ hourOf r (movedV hours ts m) := by
  rw [hourOf_le hr.ne]
  intro p hp
  have h1 := (hourOf_spec hr.ne (movedV hours ts m)).2 p hp
  rw [moved_val hr hl hp] at h1
  split at h1 <;> omega

/-! the two words -/
theorem two_words : ∀ w ∈ ([("all" : Str), ("first" : Str)] : List Str), SOk 5 w := fun w hw => words_ok w (by
  simp only [List.mem_cons, List.not_mem_nil, or_false] at hw
  rcases hw with rfl | rfl <;> decide +kernel)
theorem in_two {n : Nat} {x : Str} (h : SOk n x) : inD (.str x) (eT D.str [("all" : Str), ("first" : Str)]) = some (decide (x = "all" ∨ x = "first")) := by
  have := inD_strs h two_words
  have e : (x ∈ ([("all" : Str), ("first" : Str)] : List Str)) ↔ (x = "all" ∨ x = "first") := by simp
  rw [show eT D.str [("all" : Str), ("first" : Str)] = D.tup (([("all" : Str), ("first" : Str)] : List Str).map .str) from rfl, this]
  congr 1
  rw [Bool.eq_iff_iff, decide_eq_true_eq, decide_eq_true_eq]
  exact e

/-! _law_hours -/
theorem hours5_ok (cell : Int) (T : Nat) (h : T ≤ 1000) : WR (m_law_hours_5 cell (T : Int)) (fun hs => hs.length = T ∧ ∀ x ∈ hs, -(10 ^ 60 : Int) ≤ x ∧ x ≤ 10 ^ 60) noE := by
  have p60 := powR_ok (x := 10) (y := 60) (by decide) (by decide) (by decide) (by decide)
  have e60 : (10 ^ (60 : Int).toNat : Int) = 10 ^ 60 := by decide
  have b9 : (9 : Int) ≤ 10 ^ 60 := by decide
  have hm2 : mulR 2 (10 ^ 60) = .ok (2 * 10 ^ 60) := mulR_l (by decide) (by decide)
  unfold m_law_hours_5
  simp only [R.ok_bind, FT.bindR_ok, rng1R_ok (show T ≤ 1000000000 by omega), p60, e60, hm2]
  refine .fin (.seq (.rng (fun i s => s.length = i ∧ ∀ x ∈ s, -(10 ^ 60 : Int) ≤ x ∧ x ≤ 10 ^ 60) ⟨rfl, by simp⟩ fun i s hi hI => ?_) fun s hI => WF.rt_iff.mpr hI)
  obtain ⟨hI, hB⟩ := hI
  rw [fdivR_ok (show (0 : Int) < (i : Int) + 1 by omega) (by omega), fdivR_ok (show (0 : Int) < (i : Int) + 2 by omega) (by omega), mulR_l (x := 17) (by decide) (by decide)]
  simp only [R.ok_bind]
  rw [modR_ok (show (0 : Int) < 2147483647 by decide), modR_ok (show (0 : Int) < 2 * 10 ^ 60 + 1 by decide)]
  simp only [R.ok_bind]
  rw [mulR_r (y := 48271) (by decide) (by decide)]
  simp only [R.ok_bind]
  rw [modR_ok (show (0 : Int) < 2147483647 by decide)]
  simp only [R.ok_bind, FT.bindR_ok]
  rw [modR_ok (show (0 : Int) < 19 by decide), fdivR_ok (show (0 : Int) < 19 by decide) (by decide)]
  simp only [R.ok_bind, FT.bindR_ok]
  rw [modR_ok (show (0 : Int) < 3 by decide), appR_ok (by omega)]
  simp only [R.ok_bind, FT.bindR_ok]
  generalize (cell / ((i : Int) + 1) % 2147483647 + 17 * (i : Int) + 5) * 48271 % 2147483647 = mix
  have z0 := Int.emod_nonneg mix (b := 19) (by decide)
  have z1 := Int.emod_lt_of_pos mix (b := 19) (by decide)
  have y0 := Int.emod_nonneg (cell / ((i : Int) + 2)) (b := 2 * 10 ^ 60 + 1) (by decide)
  have y1 := Int.emod_lt_of_pos (cell / ((i : Int) + 2)) (b := 2 * 10 ^ 60 + 1) (by decide)
  generalize cell / ((i : Int) + 2) % (2 * 10 ^ 60 + 1) = far at y0 y1
  have key : ∀ v : Int, -(10 ^ 60 : Int) ≤ v ∧ v ≤ 10 ^ 60 → ∀ x ∈ s ++ [v], -(10 ^ 60 : Int) ≤ x ∧ x ≤ 10 ^ 60 := fun v hv x hx => by
    rcases List.mem_append.mp hx with h | h
    · exact hB x h
    · rw [List.mem_singleton.mp h]; exact hv
  refine .ite (fun _ => ?_) fun _ => ?_
  · rw [setR_ok (by simp; omega)]
    simp only [FT.bindR_ok, WF.nx_iff]
    have e : (s ++ [mix % 19 - 9]).set i (far - 10 ^ 60) = s ++ [far - 10 ^ 60] := by
      rw [List.set_append_right _ _ (by omega), hI]; simp
    rw [e]
    exact ⟨by simp [hI], key _ ⟨by omega, by omega⟩⟩
  · exact ⟨by simp [hI], key _ ⟨by omega, by omega⟩⟩

/-! _law_take -/
theorem take_idx (x : Int) : idxR [x] (0 : Int) = .ok x := idxR_at (by decide) rfl
theorem take1_ok (x : Int) {many : Int} (h : 0 < many) (k : many < 1073741824 ∨ wide many = true) : m_law_take_1 [x] many = .ok (x % many, [x / many]) := by
  have hf : fdivR x many = .ok (x / many) := by
    rcases k with k | k
    · exact fdivR_ok h k
    · exact fdivR_w h k
  have hs : ∀ v : Int, setR [x] (0 : Int) v = .ok [v] := fun v => setR_ok (xs := [x]) (i := 0) (v := v) (by simp)
  apply WR.eq
  unfold m_law_take_1
  simp only [R.ok_bind, FT.bindR_ok, take_idx, modR_ok h, hf, hs]
  exact .fin (WF.rt_iff.mpr rfl)
def partB (r : RowT) : Bool := !(decide (r.2.1 = "all") || decide (r.2.1 = "first"))
def pN (k : Nat) : Str := "p" ++ numS k
def mN (k : Nat) : Str := "m" ++ numS k
def gN (k : Nat) : Str := "g" ++ numS k
def OnceP (B : Int) (p : PlanT) : Prop := p.2.2.countP partB ≤ 1 ∧ (∀ r ∈ p.2.2, ∀ q ∈ r.2.2, -B ≤ q.2 ∧ q.2 ≤ B) ∧ ∃ g, g ≤ 4 ∧ p.2.1 = (List.range g).map gN
theorem pmg_ok : ∀ k < 10, (nameB (pN k) = true ∧ (pN k).length ≤ 12 ∧ (∀ c ∈ sl (pN k), c < 1114112)) ∧ (nameB (mN k) = true ∧ (mN k).length ≤ 12 ∧ (∀ c ∈ sl (mN k), c < 1114112)) ∧ (nameB (gN k) = true ∧ (gN k).length ≤ 12 ∧ (∀ c ∈ sl (gN k), c < 1114112)) := by decide +kernel
theorem gm_nd : ∀ a < 5, ∀ b < 9, ((List.range a).map gN ++ (List.range b).map mN).Nodup := by decide +kernel
theorem p_nd : ∀ a < 6, ((List.range a).map pN).Nodup := by decide +kernel
theorem letter_num {a : Str} (ha : a.length = 1) {k : Nat} (hk : k < 100) : ((strR (k : Int)).bind fun y => catS a y) = .ok (a ++ numS k) := by
  rw [strR_nat (show k < 1000000 by omega), R.ok_bind]
  exact catS_ok (by
    have := (num_ok hk).1
    unfold numS at this
    omega)
theorem RowFit.app1 {ahead : List PlanT} {g : Nat} {t : List RowT} (h : ∀ i r, t[i]? = some r → RowFit ahead g i r) {q : RowT} (hq : RowFit ahead g t.length q) : ∀ i r, (t ++ [q])[i]? = some r → RowFit ahead g i r := fun i r hr => by
  by_cases e : i < t.length
  · rw [List.getElem?_append_left e] at hr
    exact h i r hr
  · rw [List.getElem?_append_right (by omega)] at hr
    have hj : i - t.length = 0 := by
      have := (List.getElem?_eq_some_iff.mp hr).1
      simp at this; omega
    rw [hj] at hr
    have e2 : q = r := by simpa using hr
    have hj : i = t.length := by omega
    rw [← e2, hj]; exact hq

/-! _law_turns -/
theorem turns1_ok (ns : List Int) (start most : Nat) (h1 : start ≤ 1000) (h2 : 1 ≤ most) (h3 : most ≤ 1000) (hl : ns.length ≤ 100000) : WR (m_law_turns_1 ns (start : Int) (most : Int)) (fun cs => cs.length ≤ most) noE := by
  unfold m_law_turns_1
  simp only [R.ok_bind, FT.bindR_ok]
  rw [rng1R_int (by omega) (by omega)]
  simp only [R.ok_bind]
  refine .fin (.bindR (.mapC (P := fun _ _ => True) (fun x hx => ?_) ?_) fun cs h => ?_)
  · obtain ⟨k, hk, rfl⟩ := List.mem_map.mp hx
    have hk : k < most := by rw [List.mem_range] at hk; omega
    rw [stepR_ok (by omega) (by omega) (by omega) (by omega)]
    simp
  · simp; omega
  · have := h.1
    simp at this ⊢
    omega

/-! plan_by -/
theorem nodup_at {α : Type} {xs : List α} (h : xs.Nodup) {i j : Nat} (hi : i < xs.length) (hj : j < xs.length) (e : xs[i] = xs[j]) : i = j := by
  rcases Nat.lt_trichotomy i j with h1 | h1 | h1
  · exact absurd e (List.pairwise_iff_getElem.mp h i j hi hj h1)
  · exact h1
  · exact absurd e.symm (List.pairwise_iff_getElem.mp h j i hj hi h1)
theorem planby_ok {ps : List PlanT} (hs : ∀ p ∈ ps, SOk 12 p.1) (hn : (ps.map (·.1)).Nodup) {p : PlanT} (hp : p ∈ ps) : m_plan_by ps p.1 = .ok p := by
  apply WR.eq
  unfold m_plan_by
  simp only [R.ok_bind, FT.bindR_ok]
  have hpn := hs p hp
  refine .fin (.seq (N' := fun _ => p ∉ ps) ((WF.for (fun i (_ : Unit) => p ∉ ps.take i) (by simp) fun i q s hq hI => ?_).imp (fun _ h => by rw [List.take_length] at h; exact h) (fun _ h => h) (fun _ h => h) fun _ _ h => h) fun _ h => absurd hp h)
  have hqm := List.mem_of_getElem? hq
  rw [eqD_str (hs q hqm) hpn]
  simp only [R.of_some, FT.bindR_ok]
  by_cases c : q.1 = p.1
  · have : q = p := by
      obtain ⟨i, hi, rfl⟩ := List.getElem_of_mem hqm
      obtain ⟨j, hj, rfl⟩ := List.getElem_of_mem hp
      have : i = j := by
        have h1 : (ps.map (·.1))[i]'(by simpa using hi) = (ps.map (·.1))[j]'(by simpa using hj) := by simpa using c
        exact nodup_at hn _ _ h1
      subst this; rfl
    simp [c, this]
  · simp only [c, decide_false, Bool.false_eq_true, if_false, WF.nx_iff]
    rw [List.take_add_one, hq]
    simp only [Option.toList_some, List.mem_append, List.mem_singleton, not_or]
    exact ⟨hI, fun e => c (by rw [e])⟩
theorem planby_no {ps : List PlanT} (hs : ∀ p ∈ ps, SOk 12 p.1) {n : Nat} {name : Str} (hn : SOk n name) (h : ∀ p ∈ ps, p.1 ≠ name) : m_plan_by ps name = .exc 6 0 := by
  unfold m_plan_by
  simp only [R.ok_bind, FT.bindR_ok]
  rw [forT_all (fun q hq => by
    rw [eqD_str (hs q hq) hn]
    simp [h q hq])]
  rfl
theorem pair_word : ([("all" : Str), ("first" : Str)] : List Str).map sl = [[97, 108, 108], [102, 105, 114, 115, 116]] := by decide +kernel

/-! _law_wait -/
theorem wait3_ok (x : Int) : ∃ v y, m_law_wait_3 [x] = .ok (v, [y]) ∧ -((10 ^ 30 - 1) : Int) ≤ v ∧ v ≤ (10 ^ 30 - 1) := by
  have p30 := powR_ok (x := 10) (y := 30) (by decide) (by decide) (by decide) (by decide)
  have e30 : (10 ^ (30 : Int).toNat : Int) = 10 ^ 30 := by decide
  have hm : mulR 2 (10 ^ 30) = .ok (2 * 10 ^ 30) := mulR_l (by decide) (by decide)
  have t1 := take1_ok x (many := 4) (by decide) (.inl (by decide))
  have t2 := take1_ok (x / 4) (many := 9) (by decide) (.inl (by decide))
  have t3 := take1_ok (x / 4) (many := 2 * 10 ^ 30 - 1) (by decide) (.inr (by decide +kernel))
  have b9 : (9 : Int) ≤ (10 ^ 30 - 1) := by decide
  have key : WR (m_law_wait_3 [x]) (fun r => ∃ v y, r = (v, [y]) ∧ -((10 ^ 30 - 1) : Int) ≤ v ∧ v ≤ (10 ^ 30 - 1)) noE := by
    unfold m_law_wait_3
    simp only [R.ok_bind, FT.bindR_ok, t1, noX_ok, p30, e30, hm]
    refine .fin (.seq (N' := fun s => s = [x / 4]) (.ite (fun _ => ?_) fun _ => rfl) fun s hs => ?_)
    · simp only [t2, noX_ok, R.ok_bind, FT.bindR_ok, WF.rt_iff]
      have z0 := Int.emod_nonneg (x / 4) (b := 9) (by decide)
      have z1 := Int.emod_lt_of_pos (x / 4) (b := 9) (by decide)
      exact ⟨_, _, rfl, by omega, by omega⟩
    · subst hs
      simp only [t3, noX_ok, R.ok_bind, FT.bindR_ok, WF.rt_iff]
      have z0 := Int.emod_nonneg (x / 4) (b := 2 * 10 ^ 30 - 1) (by decide)
      have z1 := Int.emod_lt_of_pos (x / 4) (b := 2 * 10 ^ 30 - 1) (by decide)
      exact ⟨_, _, rfl, by omega, by omega⟩
  obtain ⟨r, h1, v, y, rfl, h2⟩ := key.ex
  exact ⟨v, y, h1, h2⟩

/-! _law_items -/
theorem items2_ok (x : Int) (many count : Nat) (h1 : 1 ≤ many) (h2 : many ≤ 1000) (h3 : count ≤ 1000) : WR (m_law_items_2 [x] (many : Int) (count : Int)) (fun r => ∃ y, r.2 = [y] ∧ r.1.length = count ∧ ∀ p ∈ r.1, (0 ≤ p.1 ∧ p.1 < (many : Int)) ∧ -((10 ^ 30 - 1) : Int) ≤ p.2 ∧ p.2 ≤ (10 ^ 30 - 1)) noE := by
  unfold m_law_items_2
  simp only [R.ok_bind, FT.bindR_ok, rng1R_ok (show count ≤ 1000000000 by omega)]
  refine .fin (.seq (.rng (fun i (s : List Int × List (Int × Int)) => (∃ y, s.1 = [y]) ∧ s.2.length = i ∧ ∀ p ∈ s.2, (0 ≤ p.1 ∧ p.1 < (many : Int)) ∧ -((10 ^ 30 - 1) : Int) ≤ p.2 ∧ p.2 ≤ (10 ^ 30 - 1)) ⟨⟨x, rfl⟩, rfl, by simp⟩ fun i s hi hI => ?_) fun s hI => ?_)
  · obtain ⟨s1, s2⟩ := s
    obtain ⟨⟨y, hy⟩, h4, h5⟩ := hI
    have hy : s1 = [y] := hy
    subst hy
    have h4 : s2.length = i := h4
    obtain ⟨v, y', hw, hv⟩ := wait3_ok (y / (many : Int))
    rw [take1_ok y (show (0 : Int) < many by omega) (.inl (by omega))]
    simp only [noX_ok, R.ok_bind, FT.bindR_ok, hw]
    rw [appR_ok (by omega)]
    simp only [FT.bindR_ok, WF.nx_iff]
    refine ⟨⟨_, rfl⟩, by simp [h4], fun p hp => ?_⟩
    rcases List.mem_append.mp hp with h | h
    · exact h5 p h
    · rw [List.mem_singleton.mp h]
      exact ⟨⟨Int.emod_nonneg _ (by omega), Int.emod_lt_of_pos _ (by omega)⟩, hv⟩
  · obtain ⟨⟨y, hy⟩, h4, h5⟩ := hI
    simp only [FT.bindR_ok, WF.rt_iff]
    exact ⟨y, hy, h4, h5⟩

/-! a list of plans is equal to itself -/
def PD (k : Nat) (d : D) : Prop := ∃ p, d.py = some p ∧ p.canLay0 = true ∧ p.depth ≤ k
theorem PD.int (i : Int) (k : Nat) : PD k (.int i) := ⟨.int i, rfl, by simp [PyData.canLay0], by simp [PyData.depth]⟩
theorem PD.str {n : Nat} {x : Str} (h : SOk n x) (k : Nat) : PD k (.str x) := ⟨.str x, rfl, by simp only [PyData.canLay0]; exact strOk_of h, by simp [PyData.depth]⟩
theorem PD.all {k : Nat} : ∀ {ds : List D}, (∀ d ∈ ds, PD k d) → ∃ ps, D.pys ds = some ps ∧ PyData.canLayAll0 ps = true ∧ PyData.depthAll ps ≤ k
  | [], _ => ⟨[], by simp [D.pys], by simp [PyData.canLayAll0], by simp [PyData.depthAll]⟩
  | d :: ds, h => by
    obtain ⟨p, h1, h2, h3⟩ := h d List.mem_cons_self
    obtain ⟨ps, k1, k2, k3⟩ := PD.all fun e he => h e (List.mem_cons_of_mem _ he)
    refine ⟨p :: ps, ?_, ?_, ?_⟩
    · simp only [D.pys]; rw [h1, k1]
    · simp only [PyData.canLayAll0]; rw [h2, k2]; rfl
    · simp only [PyData.depthAll]; omega
theorem PD.lst {k : Nat} {ds : List D} (h : ∀ d ∈ ds, PD k d) : PD (k + 1) (.lst ds) := by
  obtain ⟨ps, h1, h2, h3⟩ := PD.all h
  refine ⟨.list ps, ?_, ?_, ?_⟩
  · simp only [D.py]; rw [h1]; rfl
  · simp only [PyData.canLay0]; exact h2
  · simp only [PyData.depth]; omega
theorem PD.tup {k : Nat} {ds : List D} (h : ∀ d ∈ ds, PD k d) : PD (k + 1) (.tup ds) := by
  obtain ⟨ps, h1, h2, h3⟩ := PD.all h
  refine ⟨.tuple ps, ?_, ?_, ?_⟩
  · simp only [D.py]; rw [h1]; rfl
  · simp only [PyData.canLay0]; exact h2
  · simp only [PyData.depth]; omega
theorem PD.self {d : D} {k : Nat} (h : PD k d) (hk : k ≤ 64) : eqD d d = some true := by
  obtain ⟨p, h1, h2, h3⟩ := h
  have hs : SeqAt.shaped p = true := by
    unfold SeqAt.shaped
    rw [h2, Bool.true_and]
    exact decide_eq_true (by omega)
  unfold eqD
  rw [h1]
  simp only [hs, Bool.and_self, if_true]
  rw [SeqAt.eqv_refl p h2]
theorem eqD_book {ps : List PlanT} (h : BookFit ps) : eqD ((eL (eP3 D.str (eL D.str) (eL (eP3 D.str D.str (eT (eP D.int D.int)))))) ps) ((eL (eP3 D.str (eL D.str) (eL (eP3 D.str D.str (eT (eP D.int D.int)))))) ps) = some true := by
  refine PD.self (k := 6) (PD.lst fun d hd => ?_) (by decide)
  obtain ⟨p, hp, rfl⟩ := List.mem_map.mp hd
  obtain ⟨i, hi, hf⟩ := h.mem hp
  refine PD.tup (k := 4) fun d hd => ?_
  simp only [List.mem_cons, List.not_mem_nil, or_false] at hd
  rcases hd with rfl | rfl | rfl
  · exact .str hf.sok _
  · refine PD.lst (k := 3) fun d hd => ?_
    obtain ⟨n, hn, rfl⟩ := List.mem_map.mp hd
    exact .str (hf.names n (List.mem_append_left _ hn)).2 _
  · refine PD.lst (k := 3) fun d hd => ?_
    obtain ⟨r, hr, rfl⟩ := List.mem_map.mp hd
    obtain ⟨j, hj, ej⟩ := List.getElem_of_mem hr
    have hrf := hf.rows j r (by rw [List.getElem?_eq_getElem hj, ej])
    refine PD.tup (k := 2) fun d hd => ?_
    simp only [List.mem_cons, List.not_mem_nil, or_false] at hd
    rcases hd with rfl | rfl | rfl
    · exact .str (hf.names r.1 (List.mem_append_right _ (List.mem_map_of_mem hr))).2 _
    · exact .str (hrf.sok fun q hq => h.soks q (List.mem_of_mem_take hq)) _
    · refine PD.tup (k := 1) fun d hd => ?_
      obtain ⟨q, hq, rfl⟩ := List.mem_map.mp hd
      refine PD.tup (k := 0) fun d hd => ?_
      simp only [List.mem_cons, List.not_mem_nil, or_false] at hd
      rcases hd with rfl | rfl <;> exact .int _ _
theorem eqD_givens {ns : List Str} (h : ∀ n ∈ ns, SOk 12 n) : eqD ((eL D.str) ns) ((eL D.str) ns) = some true :=
  PD.self (k := 1) (PD.lst fun d hd => by
    obtain ⟨n, hn, rfl⟩ := List.mem_map.mp hd
    exact .str (h n hn) _) (by decide)
theorem eqD_rows {rs : List RowT} (h : ∀ r ∈ rs, SOk 12 r.1 ∧ SOk 12 r.2.1) : eqD ((eL (eP3 D.str D.str (eT (eP D.int D.int)))) rs) ((eL (eP3 D.str D.str (eT (eP D.int D.int)))) rs) = some true := by
  refine PD.self (k := 4) (PD.lst fun d hd => ?_) (by decide)
  obtain ⟨r, hr, rfl⟩ := List.mem_map.mp hd
  refine PD.tup (k := 2) fun d hd => ?_
  simp only [List.mem_cons, List.not_mem_nil, or_false] at hd
  rcases hd with rfl | rfl | rfl
  · exact .str (h r hr).1 _
  · exact .str (h r hr).2 _
  · refine PD.tup (k := 1) fun d hd => ?_
    obtain ⟨q, hq, rfl⟩ := List.mem_map.mp hd
    refine PD.tup (k := 0) fun d hd => ?_
    simp only [List.mem_cons, List.not_mem_nil, or_false] at hd
    rcases hd with rfl | rfl <;> exact .int _ _

/-! _law_plan -/
theorem plan2_ok (ns : List Int) (start mr : Nat) (hm1 : 1 ≤ mr) (hm8 : mr ≤ 8) {name : Str} (hn : nameB name = true) (hs : SOk 12 name) (ahead : List PlanT) (ha : ∀ q ∈ ahead, SOk 12 q.1 ∧ 1 ≤ q.2.1.length ∧ q.2.1.length ≤ 4) (hal : ahead.length ≤ 100) :
    WR (m_law_plan_2 ns (start : Int) name ahead (mr : Int)) (fun p => p.1 = name ∧ PlanFit ahead p ∧ p.2.1.length ≤ 4 ∧ p.2.2.length ≤ mr ∧ OnceP (10 ^ 30 - 1) p) noE := by
  have p9 := powR_ok (x := 10) (y := 9) (by decide) (by decide) (by decide) (by decide)
  have e9 : (10 ^ (9 : Int).toNat : Int) = 10 ^ 9 := by decide
  have p64 := powR_ok (x := 10) (y := 64) (by decide) (by decide) (by decide) (by decide)
  have e64 : (10 ^ (64 : Int).toNat : Int) = 10 ^ 64 := by decide
  have p20 := powR_ok (x := 10) (y := 20) (by decide) (by decide) (by decide) (by decide)
  have e20 : (10 ^ (20 : Int).toNat : Int) = 10 ^ 20 := by decide
  have b30 : ((10 ^ 30 - 1) : Int) < 10 ^ 30 := by decide
  have lm : ("m" : Str).length = 1 := by decide +kernel
  have lg : ("g" : Str).length = 1 := by decide +kernel
  have psk : SOk 4 ("part" : Str) := by constructor <;> decide +kernel
  have ask : SOk 5 ("all" : Str) := all_sok
  have fsk : SOk 5 ("first" : Str) := first_sok
  unfold m_law_plan_2
  simp only [R.ok_bind, FT.bindR_ok, p9, e9, p64, e64, p20, e20, cellat_ok ns (show (0 : Int) ≤ start by omega)]
  rw [modR_ok (show (0 : Int) < 10 ^ 9 by decide)]
  simp only [R.ok_bind, FT.bindR_ok]
  generalize ns.getD (start : Int).toNat 0 = c0
  generalize c0 % 10 ^ 9 = P
  rw [take1_ok P (many := 4) (by decide) (.inl (by decide))]
  simp only [noX_ok, FT.bindR_ok, R.ok_bind]
  have g0 := Int.emod_nonneg P (b := 4) (by decide)
  have g1 := Int.emod_lt_of_pos P (b := 4) (by decide)
  obtain ⟨g, hg⟩ := Int.eq_ofNat_of_zero_le (show 0 ≤ 1 + P % 4 by omega)
  rw [hg]
  have hg1 : 1 ≤ g := by omega
  have hg4 : g ≤ 4 := by omega
  rw [take1_ok (P / 4) (show (0 : Int) < mr by omega) (.inl (by omega))]
  simp only [noX_ok, FT.bindR_ok, R.ok_bind]
  have r0 := Int.emod_nonneg (P / 4) (show (mr : Int) ≠ 0 by omega)
  have r1 := Int.emod_lt_of_pos (P / 4) (show (0 : Int) < mr by omega)
  obtain ⟨n, hn'⟩ := Int.eq_ofNat_of_zero_le (show 0 ≤ 1 + P / 4 % (mr : Int) by omega)
  rw [hn', rng1R_ok (show n ≤ 1000000000 by omega), rng1R_ok (show g ≤ 1000000000 by omega)]
  simp only [FT.bindR_ok, R.ok_bind]
  have hn1 : 1 ≤ n := by omega
  have hnm : n ≤ mr := by omega
  have hm20 : ∀ z : Int, mulR (z % 10 ^ 64) (10 ^ 20) = .ok (z % 10 ^ 64 * 10 ^ 20) := fun z => mulR_w (by
    have h0 := Int.emod_nonneg z (show (10 ^ 64 : Int) ≠ 0 by decide)
    have h1 := Int.emod_lt_of_pos z (show (0 : Int) < 10 ^ 64 by decide)
    have h2 : (10 ^ 64 : Nat) < 2 ^ 4096 := by decide +kernel
    have h3 : ((10 ^ 64 : Nat) : Int) = 10 ^ 64 := by decide
    refine decide_eq_true (Nat.lt_trans ?_ h2)
    omega) (by decide +kernel)
  refine .fin (.seq (.rng (fun i (t : List RowT × Bool) => t.1.length = i ∧ t.1.map (·.1) = (List.range i).map mN ∧ (∀ j r, t.1[j]? = some r → RowFit ahead g j r) ∧ (ahead = [] → t.2 = true) ∧ (t.1.countP partB ≤ 1 ∧ (t.2 = false → t.1.countP partB = 0)) ∧ ∀ r ∈ t.1, ∀ q ∈ r.2.2, -((10 ^ 30 - 1) : Int) ≤ q.2 ∧ q.2 ≤ (10 ^ 30 - 1)) ⟨rfl, rfl, (fun j r hr => by simp at hr), (fun e => by simp [e]), ⟨Nat.zero_le _, fun _ => rfl⟩, by simp⟩ fun i t hi hI => ?_) fun t hI => ?_)
  · obtain ⟨rows, used⟩ := t
    obtain ⟨h1, h2, h3, h4, ⟨c1, c2⟩, h6⟩ := hI
    have c1 : rows.countP partB ≤ 1 := c1
    have c2 : used = false → rows.countP partB = 0 := c2
    have h6 : ∀ r ∈ rows, ∀ q ∈ r.2.2, -((10 ^ 30 - 1) : Int) ≤ q.2 ∧ q.2 ≤ (10 ^ 30 - 1) := h6
    have h1 : rows.length = i := h1
    have h4 : ahead = [] → used = true := h4
    rw [cellat_ok ns (show (0 : Int) ≤ (start : Int) + 1 + (i : Int) by omega)]
    simp only [R.ok_bind]
    rw [modR_ok (show (0 : Int) < 10 ^ 64 by decide), modR_ok (show (0 : Int) < 10 ^ 20 by decide)]
    simp only [R.ok_bind, hm20, FT.bindR_ok]
    generalize ns.getD ((start : Int) + 1 + (i : Int)).toNat 0 % 10 ^ 64 * 10 ^ 20 + c0 % 10 ^ 20 = C
    rw [take1_ok C (many := 5) (by decide) (.inl (by decide))]
    simp only [noX_ok, FT.bindR_ok, R.ok_bind]
    obtain ⟨w, hw, _, hwi⟩ := idxR_ex (xs := [("all" : Str), "first", "all", "first", "part"]) (i := C % 5) (Int.emod_nonneg _ (by decide)) (by simpa using Int.emod_lt_of_pos C (show (0 : Int) < 5 by decide))
    have hw : w = "all" ∨ w = "first" ∨ w = "part" := by
      have : w = "all" ∨ w = "first" ∨ w = "all" ∨ w = "first" ∨ w = "part" := by simpa using hw
      rcases this with h | h | h | h | h
      · exact .inl h
      · exact .inr (.inl h)
      · exact .inl h
      · exact .inr (.inl h)
      · exact .inr (.inr h)
    have wsk : SOk 12 w := by
      rcases hw with h | h | h <;> subst h
      · exact ask.mono (by decide)
      · exact fsk.mono (by decide)
      · exact psk.mono (by decide)
    rw [hwi, take1_ok (C / 5) (many := 4) (by decide) (.inl (by decide))]
    simp only [noX_ok, FT.bindR_ok, R.ok_bind]
    have y0 := Int.emod_nonneg (C / 5) (b := 4) (by decide)
    have y1 := Int.emod_lt_of_pos (C / 5) (b := 4) (by decide)
    obtain ⟨n0, hn0⟩ := Int.eq_ofNat_of_zero_le (show 0 ≤ 1 + C / 5 % 4 by omega)
    rw [hn0]
    generalize C / 5 / 4 = D0
    rw [eqD_str wsk psk]
    simp only [R.of_some, R.ok_bind]
    refine .seq (N' := fun how : Str => SOk 12 how ∧ (how = "all" ∨ how = "first" ∨ how = "part" ∧ used = false)) ?_ fun how hhow => ?_
    · by_cases c : w = "part"
      · simp only [c, decide_true, if_true, FT.bindR_ok]
        cases used with
        | true =>
          simp only [if_true, FT.bindR_ok, WF.nx_iff]
          exact ⟨ask.mono (by decide), by simp⟩
        | false =>
          simp only [Bool.false_eq_true, if_false, WF.nx_iff]
          exact ⟨psk.mono (by decide), by simp⟩
      · simp only [c, decide_false, Bool.false_eq_true, if_false, FT.bindR_ok, WF.nx_iff]
        exact ⟨wsk, hw.elim .inl fun h => h.elim (fun h => .inr (.inl h)) fun h => absurd h c⟩
    · obtain ⟨hsk, hhow⟩ := hhow
      rw [eqD_str hsk psk]
      simp only [R.of_some, R.ok_bind, FT.bindR_ok]
      refine .seq (N' := fun s : Bool × List Int × Str × Int => (∃ y, s.2.1 = [y]) ∧ (∃ k : Nat, s.2.2.2 = (k : Int) ∧ 1 ≤ k ∧ k ≤ 4 ∧ (s.2.2.1 = "all" ∨ s.2.2.1 = "first" ∨ ∃ q ∈ ahead, s.2.2.1 = q.1 ∧ k = q.2.1.length)) ∧ (ahead = [] → s.1 = true) ∧ ((s.2.2.1 = "all" ∨ s.2.2.1 = "first") ∧ s.1 = used ∨ used = false ∧ s.1 = true)) ?_ fun s hs' => ?_
      · by_cases c : how = "part"
        · simp only [c, decide_true, if_true, FT.bindR_ok]
          have hus : used = false := by
            rcases hhow with h | h | h
            · rw [c] at h; exact absurd h (by decide +kernel)
            · rw [c] at h; exact absurd h (by decide +kernel)
            · exact h.2
          have hne : ahead ≠ [] := fun e => by rw [h4 e] at hus; cases hus
          have hpos := List.length_pos_iff.mpr hne
          rw [take1_ok D0 (show (0 : Int) < (ahead.length : Int) by omega) (.inl (by omega))]
          simp only [noX_ok, FT.bindR_ok]
          obtain ⟨q, hq, _, hqi⟩ := idxR_ex (xs := ahead) (i := D0 % (ahead.length : Int)) (Int.emod_nonneg _ (by omega)) (Int.emod_lt_of_pos _ (by omega))
          rw [hqi]
          simp only [FT.bindR_ok, WF.nx_iff]
          obtain ⟨a1, a2, a3⟩ := ha q hq
          exact ⟨⟨_, rfl⟩, ⟨q.2.1.length, rfl, a2, a3, .inr (.inr ⟨q, hq, rfl, rfl⟩)⟩, by simp, .inr ⟨hus, trivial⟩⟩
        · simp only [c, decide_false, Bool.false_eq_true, if_false, WF.nx_iff]
          exact ⟨⟨_, rfl⟩, ⟨n0, rfl, by omega, by omega, hhow.elim .inl fun h => h.elim (fun h => .inr (.inl h)) fun h => absurd h.1 c⟩, h4, .inl ⟨hhow.elim .inl fun h => h.elim .inr fun h => absurd h.1 c, trivial⟩⟩
      · obtain ⟨s1, s2, s3, s4⟩ := s
        obtain ⟨⟨y, hy⟩, ⟨k, hk, k1, k2, k3⟩, hu, hcu⟩ := hs'
        have hy : s2 = [y] := hy
        have hk : s4 = (k : Int) := hk
        subst hy; subst hk
        simp only
        rw [show ((g : Int) + (i : Int)) = ((g + i : Nat) : Int) by omega]
        obtain ⟨r, hr, y', hy', hl, hit⟩ := (items2_ok y (g + i) k (by omega) (by omega) (by omega)).ex
        rw [hr]
        simp only [noX_ok, FT.bindR_ok, letter_num lm (show i < 100 by omega), R.ok_bind]
        rw [appR_ok (by omega)]
        simp only [FT.bindR_ok, WF.nx_iff]
        refine ⟨by simp [h1], ?_, RowFit.app1 h3 ?_, hu, ?_, fun r' hr' => ?_⟩
        · have h2 : rows.map (·.1) = (List.range i).map mN := h2
          show List.map (fun q : RowT => q.1) (rows ++ [_]) = _
          rw [List.map_append, h2, List.range_succ, List.map_append]; rfl
        · have e : (rows, used).1.length = i := h1
          rw [e]
          have hits : ∀ q ∈ r.1, (0 ≤ q.1 ∧ q.1 < (g : Int) + i) ∧ -(10 ^ 30 : Int) < q.2 ∧ q.2 < 10 ^ 30 := fun q hq => by
            have := hit q hq
            exact ⟨⟨this.1.1, by have := this.1.2; omega⟩, by have := this.2; omega, by have := this.2; omega⟩
          exact ⟨⟨show 1 ≤ r.1.length by omega, show r.1.length ≤ 40 by omega⟩, hits, k3.elim .inl fun h => h.elim (fun h => .inr (.inl h)) fun h => by
            obtain ⟨q, hq, e1, e2⟩ := h
            exact .inr (.inr ⟨q, hq, e1, by rw [← e2]; exact hl⟩)⟩
        · show (rows ++ [(mN i, s3, r.1)]).countP partB ≤ 1 ∧ (s1 = false → (rows ++ [(mN i, s3, r.1)]).countP partB = 0)
          rw [List.countP_append, List.countP_singleton]
          rcases hcu with ⟨e1, e2⟩ | ⟨e1, e2⟩
          · have e1 : s3 = "all" ∨ s3 = "first" := e1
            have e2 : s1 = used := e2
            have : partB (mN i, s3, r.1) = false := by
              unfold partB
              rcases e1 with e | e <;> simp [e]
            rw [this, e2]
            simp only [Bool.false_eq_true, if_false, Nat.add_zero]
            exact ⟨c1, c2⟩
          · have e2 : s1 = true := e2
            have := c2 e1
            rw [this, e2]
            split <;> simp
        · rcases List.mem_append.mp hr' with h | h
          · exact h6 r' h
          · rw [List.mem_singleton.mp h]
            exact fun q hq => (hit q hq).2
  · obtain ⟨h1, h2, h3, _, hc, h6⟩ := hI
    have hmc := mapC_ok (xs := (List.range g).map fun (k : Nat) => (k : Int)) (f := fun x : Int => (strR x).bind fun y => catS ("g" : Str) y) (g := fun x => gN x.toNat) (fun x hx => by
      obtain ⟨k, hk, rfl⟩ := List.mem_map.mp hx
      rw [List.mem_range] at hk
      rw [letter_num lg (by omega), Int.toNat_natCast]; rfl) (by simp; omega)
    have enm : ((List.range g).map fun (k : Nat) => (k : Int)).map (fun x => gN x.toNat) = (List.range g).map gN := by
      rw [List.map_map]; rfl
    rw [enm] at hmc
    rw [hmc]
    simp only [R.ok_bind, FT.bindR_ok, WF.rt_iff]
    have eall : (List.range g).map gN ++ t.1.map (·.1) = (List.range g).map gN ++ (List.range n).map mN := by rw [h2]
    refine ⟨trivial, ⟨hn, hs, by simp; omega, by simp only [h1]; omega, ?_, fun x hx => ?_, fun i r hr => ?_⟩, by simp; omega, by simp only [h1]; omega, hc.1, h6, g, by omega, rfl⟩
    · show ((List.range g).map gN ++ t.1.map (·.1)).Nodup
      rw [eall]
      exact gm_nd g (by omega) n (by omega)
    · have hx : x ∈ (List.range g).map gN ++ t.1.map (·.1) := hx
      rw [eall] at hx
      rcases List.mem_append.mp hx with h | h
      · obtain ⟨k, hk, rfl⟩ := List.mem_map.mp h
        rw [List.mem_range] at hk
        have := (pmg_ok k (by omega)).2.2
        exact ⟨this.1, this.2.1, this.2.2⟩
      · obtain ⟨k, hk, rfl⟩ := List.mem_map.mp h
        rw [List.mem_range] at hk
        have := (pmg_ok k (by omega)).2.1
        exact ⟨this.1, this.2.1, this.2.2⟩
    · have := h3 i r hr
      simpa using this

/-! _law_book -/
theorem book2_ok (ns : List Int) (n mr : Nat) (h1 : 1 ≤ n) (h5 : n ≤ 5) (hm1 : 1 ≤ mr) (hm8 : mr ≤ 8) : WR (m_law_book_2 ns (n : Int) (mr : Int)) (fun ps => BookFit ps ∧ ps.length = n ∧ ps.map (·.1) = (List.range n).map pN ∧ (∀ p ∈ ps, p.2.1.length ≤ 4 ∧ p.2.2.length ≤ mr) ∧ ∀ p ∈ ps, OnceP (10 ^ 30 - 1) p) noE := by
  have lp : ("p" : Str).length = 1 := by decide +kernel
  unfold m_law_book_2
  simp only [R.ok_bind, FT.bindR_ok, rng1R_ok (show n ≤ 1000000000 by omega)]
  refine .fin (.seq (.rng (fun i (ps : List PlanT) => ps.length = i ∧ ps.map (·.1) = (List.range i).map pN ∧ (∀ j p, ps[j]? = some p → PlanFit (ps.take j) p) ∧ (∀ p ∈ ps, p.2.1.length ≤ 4 ∧ p.2.2.length ≤ mr) ∧ ∀ p ∈ ps, OnceP (10 ^ 30 - 1) p) ⟨rfl, rfl, by simp, by simp, by simp⟩ fun i ps hi hI => ?_) fun ps hI => ?_)
  · obtain ⟨l1, l2, l3, l4, l5⟩ := hI
    rw [mulR_r (show (-18446744073709551616 : Int) < (mr : Int) + 1 by omega) (by omega)]
    simp only [R.ok_bind, letter_num lp (show i < 100 by omega)]
    rw [show ((1 : Int) + (i : Int) * ((mr : Int) + 1)) = ((1 + i * (mr + 1) : Nat) : Int) by push_cast; rfl]
    have hp := pmg_ok i (by omega)
    refine .bindR (plan2_ok ns (1 + i * (mr + 1)) mr hm1 hm8 (name := "p" ++ numS i) hp.1.1 ⟨hp.1.2.1, hp.1.2.2⟩ ps (fun q hq => ?_) (by omega)) fun p hpp => ?_
    · obtain ⟨j, hj, ej⟩ := List.getElem_of_mem hq
      have := l3 j q (by rw [List.getElem?_eq_getElem hj, ej])
      exact ⟨this.sok, this.gl.1, (l4 q hq).1⟩
    · obtain ⟨e1, e2, e3, e4, e5⟩ := hpp
      rw [appR_ok (by omega)]
      simp only [FT.bindR_ok, WF.nx_iff]
      refine ⟨by simp [l1], ?_, fun j q hq => ?_, fun q hq => ?_, fun q hq => ?_⟩
      · rw [List.map_append, l2, List.range_succ, List.map_append, List.map_singleton, e1]; rfl
      · by_cases c : j < ps.length
        · rw [List.getElem?_append_left c] at hq
          rw [List.take_append_of_le_length (by omega)]
          exact l3 j q hq
        · rw [List.getElem?_append_right (by omega)] at hq
          have hj : j - ps.length = 0 := by
            have := (List.getElem?_eq_some_iff.mp hq).1
            simp at this; omega
          rw [hj] at hq
          have e : p = q := by simpa using hq
          have hj : j = ps.length := by omega
          rw [hj, List.take_append_of_le_length (Nat.le_refl _), List.take_length, ← e]
          exact e2
      · rcases List.mem_append.mp hq with h | h
        · exact l4 q h
        · rw [List.mem_singleton.mp h]; exact ⟨e3, e4⟩
      · rcases List.mem_append.mp hq with h | h
        · exact l5 q h
        · rw [List.mem_singleton.mp h]; exact e5
  · obtain ⟨l1, l2, l3, l4, l5⟩ := hI
    simp only [FT.bindR_ok, WF.rt_iff]
    exact ⟨⟨by rw [l2]; exact p_nd n (by omega), by omega, l3⟩, l1, l2, l4, l5⟩

/-! columns -/
/-- a list of columns: the negated rows of a form -/
structure Cols (T : Nat) (l : List Row) : Prop where
  form : Form T (srows (l.map negR))
  rows : ∀ r ∈ l, RowIn T r
theorem Cols.ne {T : Nat} {l : List Row} (h : Cols T l) : l ≠ [] := fun e => by
  have := h.form.ne
  rw [e] at this
  have k := srows_len (([] : List Row).map negR)
  exact this (List.length_eq_zero_iff.mp k)
theorem Cols.of {T : Nat} {f : List Row} (h : Form T f) : Cols T (srows (f.map negR)) := by
  have e : srows ((srows (f.map negR)).map negR) = f := by
    refine Rising.ext (srows_rising (nodup_map (fun _ _ => negR_inj) (Rising.nodup (srows_rising (nodup_map (fun _ _ => negR_inj) (Rising.nodup h.thin.rise)))))) h.thin.rise fun r => ?_
    rw [srows_mem]
    constructor
    · intro hr
      obtain ⟨s, hs, rfl⟩ := List.mem_map.mp hr
      obtain ⟨u, hu, rfl⟩ := List.mem_map.mp (srows_mem.mp hs)
      rw [negR_negR]; exact hu
    · intro hr
      refine List.mem_map.mpr ⟨negR r, srows_mem.mpr (List.mem_map_of_mem hr), negR_negR r⟩
  exact ⟨by rw [e]; exact h, fun r hr => by
    obtain ⟨u, hu, rfl⟩ := List.mem_map.mp (srows_mem.mp hr)
    exact negR_in (h.rows u hu)⟩
theorem comes_srows {f : List Row} (h0 : f ≠ []) (hours : List Int) : comes (srows f) hours = comes f hours := by
  have h1 : srows f ≠ [] := fun e => by
    have := srows_len f
    rw [e] at this
    exact h0 (List.length_eq_zero_iff.mp this.symm)
  apply Int.le_antisymm
  · rw [le_comes h0]
    exact fun r hr => (comes_spec h1 hours).2 r (srows_mem.mpr hr)
  · rw [le_comes h1]
    exact fun r hr => (comes_spec h0 hours).2 r (srows_mem.mp hr)
theorem Cols.hour {T : Nat} {l : List Row} {hours : List Int} (h : Cols T l) (hl : T ≤ hours.length) : colsHour l hours = -comes (srows (l.map negR)) (hours.map (- ·)) := by
  rw [comes_srows (by simpa using h.ne), colsHour_neg h.ne h.rows hl]

/-! hours_of -/
theorem run_ok {ps : List PlanT} (h : BookFit ps) : ∀ (i : Nat) (p : PlanT), ps[i]? = some p → ∀ n, 3 * i + 2 ≤ n → ∀ hs : List Int, hs.length = p.2.1.length → m_hours_of n ps p.1 hs = .ok (runV ps i p hs) := by
  intro i
  induction i using Nat.strongRecOn with
  | _ i IH =>
  intro p hp n hn hs hl
  have hi := (List.getElem?_eq_some_iff.mp hp).1
  have hpm := List.mem_of_getElem? hp
  have hf := h.fit i p hp
  have hgl := hf.gl
  have hrl := hf.rl
  obtain ⟨n, rfl⟩ : ∃ k, n = k + 2 := ⟨n - 2, by omega⟩
  apply WR.eq
  rw [m_hours_of_eq (n + 1)]
  unfold g_hours_of
  simp only [R.ok_bind, FT.bindR_ok, planby_ok h.soks h.nd hpm]
  refine .fin (.seq (.for (fun k s => s = runRows (tellV ps i) (p.2.2.take k) hs) (by simp [runRows]) fun k r s hr hI => ?_) fun s hI => by rw [List.take_length] at hI; simp [hI, runV])
  have hk := (List.getElem?_eq_some_iff.mp hr).1
  have hfit := hf.rows k r hr
  have hsr := hfit.sok fun q hq => h.soks q (List.mem_of_mem_take hq)
  have hsl : s.length = p.2.1.length + k := by rw [hI, runRows_len, List.length_take]; omega
  have hlen := hfit.len
  have hm := mapC_ok (xs := r.2.2) (f := fun x8 : Int × Int => (idxR s x8.1).bind fun x12 => R.ok (x12 + x8.2)) (g := val s) (fun q hq => by
    have := (hfit.items q hq).1
    rw [idxR_D this.1 (by rw [hsl]; omega)]; rfl) (by omega)
  simp only [hm, R.ok_bind, FT.bindR_ok]
  have htn : r.2.2.map (val s) ≠ [] := by
    intro e
    have := congrArg List.length e
    rw [List.length_map, List.length_nil] at this
    omega
  have key : m_hour_of (n + 1) ps r.2.1 (r.2.2.map (val s)) = .ok (hourV (tellV ps i) r.2.1 (r.2.2.map (val s))) := by
    rw [m_hour_of_eq n]
    unfold g_hour_of hourV
    simp only [R.ok_bind, eqD_str hsr all_sok, eqD_str hsr first_sok, R.of_some, FT.bindR_ok, max1R_ok htn, min1R_ok htn]
    by_cases c1 : r.2.1 = "all"
    · simp [c1]
    · by_cases c2 : r.2.1 = "first"
      · have : ¬ (("first" : Str) = "all") := by decide +kernel
        simp [c2, this]
      · rcases hfit.how with e | e | ⟨q, hq, e, hql⟩
        · exact absurd e c1
        · exact absurd e c2
        · obtain ⟨j, hj, ej⟩ := List.getElem_of_mem hq
          rw [List.length_take] at hj
          rw [List.getElem_take] at ej
          have hjq : ps[j]? = some q := by rw [List.getElem?_eq_getElem (by omega), ej]
          obtain ⟨n, rfl⟩ : ∃ k, n = k + 1 := ⟨n - 1, by omega⟩
          have hrun := IH j (by omega) q hjq n (by omega) (r.2.2.map (val s)) (by rw [List.length_map]; exact hql)
          have htell := tell_at h.nd hjq (r.2.2.map (val s)) i (by omega) (by omega)
          have hne : runV ps j q (r.2.2.map (val s)) ≠ [] := by
            intro z
            have := congrArg List.length z
            unfold runV at this
            rw [runRows_len, List.length_map, List.length_nil] at this
            omega
          simp only [c1, c2, decide_false, Bool.false_eq_true, if_false, FT.seq_nx]
          rw [m_told_hour_eq n, e]
          unfold g_told_hour
          simp only [R.ok_bind, hrun, FT.bindR_ok, getLast_idx hne, htell]
          rfl
  rw [key]
  simp only [FT.bindR_ok]
  rw [appR_ok (by omega)]
  simp only [FT.bindR_ok, WF.nx_iff]
  rw [runRows_take _ hr, hI]
theorem told_ok {ps : List PlanT} (h : BookFit ps) {i : Nat} {p : PlanT} (hp : ps[i]? = some p) {n : Nat} (hn : 3 * i + 3 ≤ n) {hs : List Int} (hl : hs.length = p.2.1.length) : m_told_hour n ps p.1 hs = .ok ((runV ps i p hs).getLastD 0) := by
  obtain ⟨n, rfl⟩ : ∃ k, n = k + 1 := ⟨n - 1, by omega⟩
  have hg := (h.fit i p hp).gl
  have hne : runV ps i p hs ≠ [] := by
    intro z
    have := congrArg List.length z
    unfold runV at this
    rw [runRows_len, List.length_nil] at this
    omega
  rw [m_told_hour_eq n]
  unfold g_told_hour
  simp only [R.ok_bind, run_ok h i p hp n (by omega) hs hl, FT.bindR_ok, getLast_idx hne]
  rfl

/-! small pieces of the laws' heads -/
theorem things6 (z : Int) (h0 : 0 ≤ z) (h1 : z < 6) : ∃ T : Nat, idxR [2, 3, 4, 5, 6, (12 : Int)] z = .ok (T : Int) ∧ 1 ≤ T ∧ T ≤ 12 := by
  have : z = 0 ∨ z = 1 ∨ z = 2 ∨ z = 3 ∨ z = 4 ∨ z = 5 := by omega
  rcases this with rfl | rfl | rfl | rfl | rfl | rfl
  · exact ⟨2, idxR_at (by decide) rfl, by decide, by decide⟩
  · exact ⟨3, idxR_at (by decide) rfl, by decide, by decide⟩
  · exact ⟨4, idxR_at (by decide) rfl, by decide, by decide⟩
  · exact ⟨5, idxR_at (by decide) rfl, by decide, by decide⟩
  · exact ⟨6, idxR_at (by decide) rfl, by decide, by decide⟩
  · exact ⟨12, idxR_at (by decide) rfl, by decide, by decide⟩
theorem cut12 (ns : List Int) (hn : ns.length ≤ 63) : catL [7] (cutL ns none (some 12)) = .ok ([7] ++ cutL ns none (some 12)) := catL_ok (by
  have : (cutL ns none (some 12)).length ≤ ns.length := by unfold cutL; simp; omega
  simp; omega)
theorem idx1 {α : Type} (x : α) : idxR [x] (0 : Int) = .ok x := idxR_at (by decide) rfl

/-! k48 -/
theorem sort_last {xs : List Int} (h : xs ≠ []) (hl : xs.length ≤ 16777216) : ((sortR D.int xs).bind fun s => idxR s (-1)) = .ok (maxI xs) := by
  rw [sortR_ints hl, R.ok_bind]
  have hm : ∀ a, a ∈ sortBy D.int xs ↔ a ∈ xs := fun a => sortBy_mem
  have hn : sortBy D.int xs ≠ [] := fun e => by
    obtain ⟨x, hx⟩ := List.exists_mem_of_ne_nil _ h
    have := (hm x).mpr hx
    rw [e] at this; cases this
  have hp := sortBy_le D.int xs
  have hc := List.dropLast_concat_getLast hn
  rw [← hc, idxR_last]
  congr 1
  refine (maxI_eq ((hm _).mp (List.getLast_mem hn)) fun x hx => ?_).symm
  have hx := (hm x).mpr hx
  rw [← hc] at hx hp
  rcases List.mem_append.mp hx with h1 | h1
  · have := (List.pairwise_append.mp hp).2.2 x h1 _ (List.mem_singleton.mpr rfl)
    rw [leE_int] at this
    exact of_decide_eq_true this
  · rw [List.mem_singleton.mp h1]; exact Int.le_refl _
theorem sort_first {xs : List Int} (h : xs ≠ []) (hl : xs.length ≤ 16777216) : ((sortR D.int xs).bind fun s => idxR s 0) = .ok (minI xs) := by
  rw [sortR_ints hl, R.ok_bind]
  have hm : ∀ a, a ∈ sortBy D.int xs ↔ a ∈ xs := fun a => sortBy_mem
  have hp := sortBy_le D.int xs
  cases q : sortBy D.int xs with
  | nil =>
    obtain ⟨x, hx⟩ := List.exists_mem_of_ne_nil _ h
    have := (hm x).mpr hx
    rw [q] at this; cases this
  | cons s ss =>
    rw [idxR_at (xs := s :: ss) (i := 0) (x := s) (by decide) rfl]
    congr 1
    rw [q] at hp hm
    refine (minI_eq ((hm s).mp List.mem_cons_self) fun x hx => ?_).symm
    rcases List.mem_cons.mp ((hm x).mpr hx) with h1 | h1
    · rw [h1]; exact Int.le_refl _
    · have := (List.pairwise_cons.mp hp).1 x h1
      rw [leE_int] at this
      exact of_decide_eq_true this
theorem lrun_ok {ps : List PlanT} {p : PlanT} (hf : PlanFit [] p) (hs : List Int) (hl : hs.length = p.2.1.length) : m_law_run_1 24 ps p hs = .ok (runV [p] 0 p hs) := by
  have hgl := hf.gl
  have hrl := hf.rl
  apply WR.eq
  rw [m_law_run_1_eq 23]
  unfold g_law_run_1
  simp only [R.ok_bind, FT.bindR_ok]
  refine .fin (.seq (.for (fun k s => s = runRows (tellV [p] 0) (p.2.2.take k) hs) (by simp [runRows]) fun k r s hr hI => ?_) fun s hI => by rw [List.take_length] at hI; simp [hI, runV])
  have hk := (List.getElem?_eq_some_iff.mp hr).1
  have hfit := hf.rows k r hr
  have hsr := hfit.sok (fun q hq => by cases hq)
  have hsl : s.length = p.2.1.length + k := by rw [hI, runRows_len, List.length_take]; omega
  have hlen := hfit.len
  have hm := mapC_ok (xs := r.2.2) (f := fun x8 : Int × Int => (idxR s x8.1).bind fun x12 => R.ok (x12 + x8.2)) (g := val s) (fun q hq => by
    have := (hfit.items q hq).1
    rw [idxR_D this.1 (by rw [hsl]; omega)]; rfl) (by omega)
  simp only [hm, R.ok_bind, FT.bindR_ok]
  have htn : r.2.2.map (val s) ≠ [] := by
    intro e
    have := congrArg List.length e
    rw [List.length_map, List.length_nil] at this
    omega
  have htl : (r.2.2.map (val s)).length ≤ 16777216 := by rw [List.length_map]; omega
  rw [eqD_str hsr all_sok, eqD_str hsr first_sok]
  simp only [R.of_some, FT.bindR_ok, sort_last htn htl, sort_first htn htl]
  by_cases c1 : r.2.1 = "all"
  · simp only [c1, decide_true, if_true, FT.bindR_ok]
    rw [appR_ok (by omega)]
    simp only [FT.bindR_ok, WF.nx_iff]
    rw [runRows_take _ hr, hI]
    unfold hourV
    rw [if_pos c1]
  · have hw : r.2.1 = "first" := by
      rcases hfit.how with e | e | ⟨q, hq, _⟩
      · exact absurd e c1
      · exact e
      · cases hq
    have c3 : ¬ (("first" : Str) = "all") := by decide +kernel
    simp only [hw, c3, decide_false, decide_true, Bool.false_eq_true, if_false, if_true, FT.bindR_ok]
    rw [appR_ok (by omega)]
    simp only [FT.bindR_ok, WF.nx_iff]
    rw [runRows_take _ hr, hI]
    unfold hourV
    rw [if_neg c1, if_pos hw]
theorem none_hours {ps : List PlanT} {nm : Str} (h : m_plan_by ps nm = .exc 6 0) (hs : List Int) (n : Nat) : m_hours_of (n + 1) ps nm hs = .exc 6 0 := by
  rw [m_hours_of_eq n]
  unfold g_hours_of
  simp only [R.ok_bind, FT.bindR_ok, h]
  rfl
theorem none_told {ps : List PlanT} {nm : Str} (h : m_plan_by ps nm = .exc 6 0) (hs : List Int) (n : Nat) : m_told_hour (n + 2) ps nm hs = .exc 6 0 := by
  rw [m_told_hour_eq (n + 1)]
  unfold g_told_hour
  simp only [R.ok_bind, none_hours h]
  rfl
theorem names48 : ∀ n ∈ (["p", "p00", "p1", "P0", "", "p0 "] : List Str), pN 0 ≠ n ∧ n.length ≤ 12 ∧ ∀ c ∈ sl n, c < 1114112 := by decide +kernel
theorem p0_is : pN 0 = "p0" := by decide +kernel
theorem law_m (ns : List Int) (hn : ns.length ≤ 63) : m_law_47 ns = .ok true := by
  apply WR.eq
  unfold m_law_47
  simp only [R.ok_bind, FT.bindR_ok, cellat_ok ns (show (0 : Int) ≤ 0 by decide), cellat_ok ns (show (0 : Int) ≤ 1 by decide)]
  have hbk : WR (m_law_book_2 ns 1 8) _ noE := book2_ok ns 1 8 (by decide) (by decide) (by decide) (by decide)
  refine .fin (.bindR hbk fun ps hps => ?_)
  obtain ⟨hb, hl, hnm, h4, _⟩ := hps
  obtain ⟨p, rfl⟩ : ∃ p, ps = [p] := by
    match ps, hl with
    | [p], _ => exact ⟨p, rfl⟩
  have hp0 : p.1 = "p0" := by
    have : [p.1] = [pN 0] := hnm
    rw [← p0_is]
    simpa using this
  have hf : PlanFit [] p := hb.fit 0 p rfl
  have hgl := hf.gl
  have hrl := hf.rl
  have hix : idxR [p] (0 : Int) = .ok p := idxR_at (by decide) rfl
  obtain ⟨cs, hcs, hcl⟩ := (turns1_ok ns 10 30 (by decide) (by decide) (by decide) (by omega)).ex
  have hcs : m_law_turns_1 ns 10 30 = .ok cs := hcs
  have hwh : ∀ x : Int, m_law_whole_1 x = .ok true := fun x => by unfold m_law_whole_1; simp
  simp only [hix, hcs, R.ok_bind, FT.bindR_ok]
  rw [catL_ok (by simp; omega)]
  simp only [FT.bindR_ok]
  refine .seq (N' := fun _ => True) (.forI (fun _ => True) trivial fun cell _ s _ => ?_) fun _ _ => ?_
  · refine .bindR (hours5_ok cell p.2.1.length (by omega)) fun hours hh => ?_
    have hr := run_ok hb 0 p rfl 24 (by decide) hours hh.1
    have ht := told_ok hb (i := 0) (p := p) rfl (n := 24) (by decide) hh.1
    have hlr := lrun_ok (ps := [p]) hf hours hh.1
    rw [hp0] at hr ht
    generalize hR : runV [p] 0 p hours = V at hr ht hlr
    have hVl : V.length = p.2.1.length + p.2.2.length := by rw [← hR]; unfold runV; rw [runRows_len, hh.1]
    have hVn : V ≠ [] := fun e => by rw [e, List.length_nil] at hVl; omega
    have hmw := mapC_ok (xs := V) (f := fun _ : Int => R.ok true) (g := fun _ => true) (fun x _ => rfl) (by omega)
    have hall : (V.map fun _ => true).all id = true := by rw [List.all_eq_true]; intro b hb; obtain ⟨_, _, rfl⟩ := List.mem_map.mp hb; rfl
    simp only [hr, ht, hlr, hmw, hwh, hall, R.ok_bind, FT.bindR_ok, Bool.not_true, Bool.false_eq_true, if_false, decide_true, FT.seq_nx]
    rw [appR_ok (by omega)]
    have q3 := eqD_rows (rs := p.2.2) fun r hr => ⟨(hf.names r.1 (List.mem_append_right _ (List.mem_map_of_mem hr))).2, by
      obtain ⟨j, hj, ej⟩ := List.getElem_of_mem hr
      exact (hf.rows j r (by rw [List.getElem?_eq_getElem hj, ej])).sok fun q hq => by cases hq⟩
    simp only [FT.bindR_ok, getLast_idx hVn, R.ok_bind, decide_true, Bool.not_true, Bool.false_eq_true, if_false, q3, R.of_some, WF.nx_iff]
  · rw [modR_ok (show (0 : Int) < 6 by decide), modR_ok (show (0 : Int) < 2 by decide)]
    simp only [R.ok_bind]
    obtain ⟨name, hnm2, _, hni⟩ := idxR_ex (xs := (["p", "p00", "p1", "P0", "", "p0 "] : List Str)) (i := ns.getD (0 : Int).toNat 0 % 6) (Int.emod_nonneg _ (by decide)) (by simpa using Int.emod_lt_of_pos (ns.getD (0 : Int).toNat 0) (show (0 : Int) < 6 by decide))
    rw [hni]
    simp only [FT.bindR_ok]
    obtain ⟨n1, n2, n3⟩ := names48 name hnm2
    have hno := planby_no hb.soks (n := 12) (name := name) ⟨n2, n3⟩ fun q hq => by
      rw [List.mem_singleton.mp hq, hp0, ← p0_is]; exact n1
    refine .bindR (hours5_ok 4 p.2.1.length (by omega)) fun hours hh => ?_
    have e1 := none_hours hno hours 23
    have e2 := none_told hno hours 22
    have hal : m_law_alone_2 [p] name hours = .ok true := by
      unfold m_law_alone_2
      simp only [R.ok_bind, e1]
      rfl
    have hre : ∀ w, m_law_refused_6 [p] name hours w = .ok true := fun w => by
      unfold m_law_refused_6
      simp only [R.ok_bind, e1, e2, FT.bindR_ok]
      by_cases c : w = 0
      · simp only [c, decide_true, if_true]; rfl
      · simp only [c, decide_false, Bool.false_eq_true, if_false]; rfl
    simp [hal, hre]

theorem law_true : ∀ ns : List Int, ns.length ≤ 63 → phi prog 198 285 [.lst (ns.map .int)] = .ok (.bl true) := fun ns h => (s_law_47 198 (by decide) ns).get (law_m ns h)
end Mi
open PySem PySem.W PyProof.Rows in
set_option maxHeartbeats 0 in
theorem PySem.Challenge.cw_allfirst_k48_a_plan_run_holds : PySem.Challenge.rw_allfirst_k48_a_plan_run.Holds := by
  w_on; o_law; k_head; (case hw => w_witness2)
  k_fill
  refine L2.walk_of (l := PySem.Challenge.rw_allfirst_k48_a_plan_run) (n := 63) (k := 200) (x := "script") (CX := fun w => L2.CX PySem.Challenge.rw_allfirst_k48_a_plan_run.prog w) (sp := fun w => Mi.spLaw _) rfl (by decide) rfl ⟨rfl, by decide, by decide⟩ (fun w h Y => PySem.W.kIn_of Y) ?F (fun _ _ a ns hl _ hS => ⟨a, ns, rfl, hS, hl, fun _ => rfl⟩) (fun _ => Mi.cx_none)
  case F =>
    intro w mg fa h KX G hmg
    refine Mi.law_mk (n := 198) (text := Mi.text) (xs := Mi.errs) (cs := Mi.objs) (gs := Mi.gcs) (t := Mi.td285) KX G hmg ?hi ?hx ?hk ?hg Mi.text_chk (by unfold Mi.text; simp) rfl rfl rfl rfl rfl Mi.law_true ?hb
    case hi =>
      refine Mi.in_cons ?i236 (Mi.in_cons ?i273 (Mi.in_cons ?i274 (Mi.in_cons ?i275 (Mi.in_cons ?i2 (Mi.in_cons ?i3 (Mi.in_cons ?i276 (Mi.in_cons ?i277 (Mi.in_cons ?i278 (Mi.in_cons ?i279 (Mi.in_cons ?i280 (Mi.in_cons ?i281 (Mi.in_cons ?i282 (Mi.in_cons ?i283 (Mi.in_cons ?i284 (Mi.in_cons ?i20 (Mi.in_cons ?i285 (Mi.in_nil)))))))))))))))))
      case i236 => refine' Mi.in_mk KX G ?a ?l ?c ?k ?b; (case a => k_is); (case l => k_is); (case c => k_is); (case k => k_is); (case b => intro us hl; match us, hl with | [_, _], _ => rfl)
      case i273 => refine' Mi.in_mk KX G ?a ?l ?c ?k ?b; (case a => k_is); (case l => k_is); (case c => k_is); (case k => k_is); (case b => intro us hl; match us, hl with | [_, _, _], _ => rfl)
      case i274 => refine' Mi.in_mk KX G ?a ?l ?c ?k ?b; (case a => k_is); (case l => k_is); (case c => k_is); (case k => k_is); (case b => intro us hl; match us, hl with | [_, _, _], _ => rfl)
      case i275 => refine' Mi.in_mk KX G ?a ?l ?c ?k ?b; (case a => k_is); (case l => k_is); (case c => k_is); (case k => k_is); (case b => intro us hl; match us, hl with | [_, _, _], _ => rfl)
      case i2 => refine' Mi.in_mk KX G ?a ?l ?c ?k ?b; (case a => k_is); (case l => k_is); (case c => k_is); (case k => k_is); (case b => intro us hl; match us, hl with | [_], _ => rfl)
      case i3 => refine' Mi.in_mk KX G ?a ?l ?c ?k ?b; (case a => k_is); (case l => k_is); (case c => k_is); (case k => k_is); (case b => intro us hl; match us, hl with | [_, _], _ => rfl)
      case i276 => refine' Mi.in_mk KX G ?a ?l ?c ?k ?b; (case a => k_is); (case l => k_is); (case c => k_is); (case k => k_is); (case b => intro us hl; match us, hl with | [_, _], _ => rfl)
      case i277 => refine' Mi.in_mk KX G ?a ?l ?c ?k ?b; (case a => k_is); (case l => k_is); (case c => k_is); (case k => k_is); (case b => intro us hl; match us, hl with | [_], _ => rfl)
      case i278 => refine' Mi.in_mk KX G ?a ?l ?c ?k ?b; (case a => k_is); (case l => k_is); (case c => k_is); (case k => k_is); (case b => intro us hl; match us, hl with | [_, _, _], _ => rfl)
      case i279 => refine' Mi.in_mk KX G ?a ?l ?c ?k ?b; (case a => k_is); (case l => k_is); (case c => k_is); (case k => k_is); (case b => intro us hl; match us, hl with | [_, _, _, _, _], _ => rfl)
      case i280 => refine' Mi.in_mk KX G ?a ?l ?c ?k ?b; (case a => k_is); (case l => k_is); (case c => k_is); (case k => k_is); (case b => intro us hl; match us, hl with | [_, _, _], _ => rfl)
      case i281 => refine' Mi.in_mk KX G ?a ?l ?c ?k ?b; (case a => k_is); (case l => k_is); (case c => k_is); (case k => k_is); (case b => intro us hl; match us, hl with | [_, _], _ => rfl)
      case i282 => refine' Mi.in_mk KX G ?a ?l ?c ?k ?b; (case a => k_is); (case l => k_is); (case c => k_is); (case k => k_is); (case b => intro us hl; match us, hl with | [_, _, _], _ => rfl)
      case i283 => refine' Mi.in_mk KX G ?a ?l ?c ?k ?b; (case a => k_is); (case l => k_is); (case c => k_is); (case k => k_is); (case b => intro us hl; match us, hl with | [_, _, _, _], _ => rfl)
      case i284 => refine' Mi.in_mk KX G ?a ?l ?c ?k ?b; (case a => k_is); (case l => k_is); (case c => k_is); (case k => k_is); (case b => intro us hl; match us, hl with | [_, _, _], _ => rfl)
      case i20 => refine' Mi.in_mk KX G ?a ?l ?c ?k ?b; (case a => k_is); (case l => k_is); (case c => k_is); (case k => k_is); (case b => intro us hl; match us, hl with | [_, _, _], _ => rfl)
      case i285 => refine' Mi.in_mk KX G ?a ?l ?c ?k ?b; (case a => k_is); (case l => k_is); (case c => k_is); (case k => k_is); (case b => intro us hl; match us, hl with | [_], _ => rfl)
    case hx =>
      refine Mi.xf_cons ?x0 (Mi.xf_cons ?x6 (Mi.xf_cons ?x301 (Mi.xf_cons ?x302 (Mi.xf_cons ?x303 (Mi.xf_cons ?x304 (Mi.xf_cons ?x305 (Mi.xf_cons ?x307 (Mi.xf_cons ?x308 (Mi.xf_cons ?x309 (Mi.xf_cons ?x400 (Mi.xf_cons ?x499 (Mi.xf_nil))))))))))))
      case x0 => refine' Mi.xf_mk KX G (by decide) ?za ?ze ?zp ?zs ?zt ?xm0_0 ?xm0_1 ?xm0_2 ?xm0_3 ?xm0_4 ?xm0_5 ?xm0_6 ?xm0_7 ?xm0_8 ?xm0_9; (case za => k_is); (case ze => k_exc); (case zp => k_is); (case zs => k_is); (case zt => k_is); all_goals first | (refine' Mi.xf_no KX G ?zn; (case zn => k_is)) | (refine' Mi.xf_at KX G ?zn ?ze; (case zn => k_is); (case ze => kts_exm))
      case x6 => refine' Mi.xf_mk KX G (by decide) ?za ?ze ?zp ?zs ?zt ?xm6_0 ?xm6_1 ?xm6_2 ?xm6_3 ?xm6_4 ?xm6_5 ?xm6_6 ?xm6_7 ?xm6_8 ?xm6_9; (case za => k_is); (case ze => k_exc); (case zp => k_is); (case zs => k_is); (case zt => k_is); all_goals first | (refine' Mi.xf_no KX G ?zn; (case zn => k_is)) | (refine' Mi.xf_at KX G ?zn ?ze; (case zn => k_is); (case ze => kts_exm))
      case x301 => refine' Mi.if_own (k := 1) KX G (by decide) ?za (Mi.if_all ?xm301_0 ?xm301_1 ?xm301_2 ?xm301_3 ?xm301_4 ?xm301_5 ?xm301_6 ?xm301_7); (case za => k_is); all_goals first | (refine' Mi.if_no KX G ?zn; (case zn => k_is)) | (refine' Mi.if_at KX G ?zn ?ze; (case zn => k_is); (case ze => kit_is))
      case x302 => refine' Mi.if_own (k := 2) KX G (by decide) ?za (Mi.if_all ?xm302_0 ?xm302_1 ?xm302_2 ?xm302_3 ?xm302_4 ?xm302_5 ?xm302_6 ?xm302_7); (case za => k_is); all_goals first | (refine' Mi.if_no KX G ?zn; (case zn => k_is)) | (refine' Mi.if_at KX G ?zn ?ze; (case zn => k_is); (case ze => kit_is))
      case x303 => refine' Mi.if_own (k := 3) KX G (by decide) ?za (Mi.if_all ?xm303_0 ?xm303_1 ?xm303_2 ?xm303_3 ?xm303_4 ?xm303_5 ?xm303_6 ?xm303_7); (case za => k_is); all_goals first | (refine' Mi.if_no KX G ?zn; (case zn => k_is)) | (refine' Mi.if_at KX G ?zn ?ze; (case zn => k_is); (case ze => kit_is))
      case x304 => refine' Mi.if_own (k := 4) KX G (by decide) ?za (Mi.if_all ?xm304_0 ?xm304_1 ?xm304_2 ?xm304_3 ?xm304_4 ?xm304_5 ?xm304_6 ?xm304_7); (case za => k_is); all_goals first | (refine' Mi.if_no KX G ?zn; (case zn => k_is)) | (refine' Mi.if_at KX G ?zn ?ze; (case zn => k_is); (case ze => kit_is))
      case x305 => refine' Mi.if_own (k := 5) KX G (by decide) ?za (Mi.if_all ?xm305_0 ?xm305_1 ?xm305_2 ?xm305_3 ?xm305_4 ?xm305_5 ?xm305_6 ?xm305_7); (case za => k_is); all_goals first | (refine' Mi.if_no KX G ?zn; (case zn => k_is)) | (refine' Mi.if_at KX G ?zn ?ze; (case zn => k_is); (case ze => kit_is))
      case x307 => refine' Mi.if_own (k := 7) KX G (by decide) ?za (Mi.if_all ?xm307_0 ?xm307_1 ?xm307_2 ?xm307_3 ?xm307_4 ?xm307_5 ?xm307_6 ?xm307_7); (case za => k_is); all_goals first | (refine' Mi.if_no KX G ?zn; (case zn => k_is)) | (refine' Mi.if_at KX G ?zn ?ze; (case zn => k_is); (case ze => kit_is))
      case x308 => refine' Mi.if_own (k := 8) KX G (by decide) ?za (Mi.if_all ?xm308_0 ?xm308_1 ?xm308_2 ?xm308_3 ?xm308_4 ?xm308_5 ?xm308_6 ?xm308_7); (case za => k_is); all_goals first | (refine' Mi.if_no KX G ?zn; (case zn => k_is)) | (refine' Mi.if_at KX G ?zn ?ze; (case zn => k_is); (case ze => kit_is))
      case x309 => refine' Mi.if_own (k := 9) KX G (by decide) ?za (Mi.if_all ?xm309_0 ?xm309_1 ?xm309_2 ?xm309_3 ?xm309_4 ?xm309_5 ?xm309_6 ?xm309_7); (case za => k_is); all_goals first | (refine' Mi.if_no KX G ?zn; (case zn => k_is)) | (refine' Mi.if_at KX G ?zn ?ze; (case zn => k_is); (case ze => kit_is))
      case x400 => refine' Mi.if_val KX G ?za (Mi.if_all ?xm400_0 ?xm400_1 ?xm400_2 ?xm400_3 ?xm400_4 ?xm400_5 ?xm400_6 ?xm400_7); (case za => k_is); all_goals first | (refine' Mi.if_no KX G ?zn; (case zn => k_is)) | (refine' Mi.if_at KX G ?zn ?ze; (case zn => k_is); (case ze => kit_is))
      case x499 => refine' Mi.ef_all ?xm499_0 ?xm499_1 ?xm499_2 ?xm499_3 ?xm499_4 ?xm499_5 ?xm499_6 ?xm499_7; all_goals first | (refine' Mi.ef_no KX G ?zn; (case zn => k_is)) | (refine' Mi.ef_at KX G ?zn ⟨?e1, ?e2, ?e3, ?e4, ?e5, ?e6, ?e7, ?e8⟩; (case zn => k_is); (case e1 => k_is); (case e2 => k_is); (case e3 => k_is); (case e4 => k_is); (case e5 => k_is); (case e6 => k_is); (case e7 => k_is); (case e8 => k_is))
    case hk =>
      refine Mi.cls_cons ?cl0 (Mi.cls_cons ?cl1 (Mi.cls_nil))
      case cl0 =>
        refine' Mi.cls_mk (st := Mi.methS (Mi.topS 12)) (qual := "Plan.__init__") KX G (by decide) ?q0a ?q0c1 ?q0c2 ?q0c3 ?q0c4 (fun _ => ?q0n0) (fun _ => ?q0n1) (fun _ => ?q0n2) (fun h => absurd h (by decide)) ?q0m1 ?q0m2 ?q0m3 ?q0m4 ?q0l ?q0cc ?q0kp ?q0b ?q0s1 ?q0s2 ?q0s3 ?q0s4
        case q0a => k_is
        case q0c1 => k_is
        case q0c2 => k_is
        case q0c3 => k_is
        case q0c4 => k_is
        case q0n0 => k_is
        case q0n1 => k_is
        case q0n2 => k_is
        case q0m1 => k_is
        case q0m2 => k_is
        case q0m3 => k_is
        case q0m4 => k_is
        case q0l => k_is
        case q0cc => k_is
        case q0kp => k_is
        case q0b => intro us hl; match us, hl with | [_, _, _, _], _ => rfl
        case q0s1 => decide +kernel
        case q0s2 => decide +kernel
        case q0s3 => decide +kernel
        case q0s4 => decide +kernel
      case cl1 =>
        refine' Mi.cls_mk (st := Mi.methS (Mi.topS 13)) (qual := "Book.__init__") KX G (by decide) ?q1a ?q1c1 ?q1c2 ?q1c3 ?q1c4 (fun h => absurd h (by decide)) (fun h => absurd h (by decide)) (fun h => absurd h (by decide)) (fun _ => ?q1n3) ?q1m1 ?q1m2 ?q1m3 ?q1m4 ?q1l ?q1cc ?q1kp ?q1b ?q1s1 ?q1s2 ?q1s3 ?q1s4
        case q1a => k_is
        case q1c1 => k_is
        case q1c2 => k_is
        case q1c3 => k_is
        case q1c4 => k_is
        case q1n3 => k_is
        case q1m1 => k_is
        case q1m2 => k_is
        case q1m3 => k_is
        case q1m4 => k_is
        case q1l => k_is
        case q1cc => k_is
        case q1kp => k_is
        case q1b => intro us hl; match us, hl with | [_, _], _ => rfl
        case q1s1 => decide +kernel
        case q1s2 => decide +kernel
        case q1s3 => decide +kernel
        case q1s4 => decide +kernel
    case hg =>
      refine Mi.gf_nil
    case hb =>
      refine Mi.blt_cons ?z0 (Mi.blt_cons ?z1 (Mi.blt_cons ?z2 (Mi.blt_cons ?z3 (Mi.blt_cons ?z4 (Mi.blt_cons ?z5 (Mi.blt_cons ?z6 (Mi.blt_cons ?z7 (Mi.blt_cons ?z8 (Mi.blt_cons ?z9 (Mi.blt_cons ?z10 (Mi.blt_cons ?z11 (Mi.blt_cons ?z12 (Mi.blt_cons ?z13 (Mi.blt_cons ?z14 (Mi.blt_cons ?z15 (Mi.blt_cons ?z16 (Mi.blt_cons ?z17 (Mi.blt_cons ?z18 (Mi.blt_cons ?z19 (Mi.blt_nil))))))))))))))))))))
      all_goals k_is

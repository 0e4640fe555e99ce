import PyProof.Rows.All
import PySem.Challenge.RW_layerprint_k13_whole_written_and_read
import Wide.All
import OpenK.AllK
import Wide.FinOn
import HandS.ForMost
import KE.SortData
import KE.LtData
import KE.DataMinMax
import KE.KDictKeyed
import HandS.Lambda
import HandS.TupAny
import HandS.Deep
import HandS.Style
import KE.KDictPairs
import HandS.Dict
import HandS.Text
import KE.SortCalls
import KE.KDictSum
import HandS.IsInst
import HandS.SortKw
import HandS.Iter
import HandS.Comp
import HandS.ExcOwn
import KE.KDictDisplayH
import HandS.TupSets
import HandS.SetFor
import HandS.Strs
import HandS.Conv
import HandS.Codes
import HandS.ExcIs
import HandS.EndTab
import HandS.HeadWalk
set_option Elab.async false
set_option linter.all false
set_option maxRecDepth 100000
-- DSem
/-! DSem: a small language of our own and its meaning over plain data: expressions E, statements S, values RV, a store of cells.
Nothing of Python's machine here: a def's text is told as S, and runs as a plain function. -/
namespace DL
open PySem

abbrev D := PyData

/-- whose lists a datum holds: none; of this run alone; of the entry alone; any; the script's too, which is locked -/
inductive Gn where
  | pur | new | old | mix | scr
  deriving DecidableEq, Repr

namespace Gn
def join : Gn → Gn → Gn
  | .pur, g => g
  | g, .pur => g
  | .new, .new => .new
  | .old, .old => .old
  | .scr, _ => .scr
  | _, .scr => .scr
  | _, _ => .mix
/-- the flag of a new list that holds such things -/
def newL : Gn → Gn
  | .pur => .new
  | .new => .new
  | .scr => .scr
  | _ => .mix
/-- as a callee sees it -/
def down : Gn → Gn
  | .pur => .pur
  | .scr => .scr
  | _ => .old
/-- as the caller sees what came back -/
def up : Gn → Gn
  | .pur => .pur
  | .new => .new
  | .scr => .scr
  | _ => .mix
end Gn

mutual
/-- no list within -/
def noL : PyData → Bool
  | .list _ => false
  | .tuple xs => noLs xs
  | .dict _ => false
  | _ => true
def noLs : List PyData → Bool
  | [] => true
  | x :: xs => noL x && noLs xs
end

/-- a value: a datum, or the cell of that number -/
inductive RV where
  | d (g : Gn) (x : PyData)
  | c (n : Nat)

abbrev Env := List (Option RV)
inductive Cell where
  | lst (xs : List RV)
  | dic (lk : Bool) (kvs : List (PyData × RV))
  | sd (kvs : List (Str × RV))
  | obj (k : Nat) (fs : List (Str × RV))
  | gone
abbrev Store := List Cell
inductive Res (α : Type) where
  | ok (a : α) (st : Store)
  | exc (k : Nat) (st : Store)
  | bad

namespace Res
def bind {α β : Type} (r : Res α) (f : α → Store → Res β) : Res β :=
  match r with
  | .ok a st => f a st
  | .exc k st => .exc k st
  | .bad => .bad
@[simp] theorem bind_ok {α β : Type} (a : α) (st : Store) (f : α → Store → Res β) : (Res.ok a st).bind f = f a st := rfl
@[simp] theorem bind_exc {α β : Type} (k : Nat) (st : Store) (f : α → Store → Res β) : (Res.exc k st).bind f = .exc k st := rfl
@[simp] theorem bind_bad {α β : Type} (f : α → Store → Res β) : (Res.bad).bind f = .bad := rfl
def ofOpt {α : Type} (o : Option α) (st : Store) : Res α :=
  match o with
  | some a => .ok a st
  | none => .bad
@[simp] theorem ofOpt_some {α : Type} (a : α) (st : Store) : ofOpt (some a) st = .ok a st := rfl
@[simp] theorem ofOpt_none {α : Type} (st : Store) : ofOpt (none : Option α) st = .bad := rfl
end Res

def lim : Nat := 16777216

/-! ### values -/
def rvI (i : Int) : RV := .d .pur (.int i)
def rvB (b : Bool) : RV := .d .pur (.bool b)
def rvS (s : Str) : RV := .d .pur (.str s)
def rvN : RV := .d .pur .none
/-- an item of a thing flagged g -/
def el (g : Gn) (x : PyData) : RV := .d (if noL x = true then .pur else g) x
def RV.data? : RV → Option PyData
  | .d _ x => some x
  | .c _ => none
def datas? : List RV → Option (List PyData)
  | [] => some []
  | .d _ x :: r => (datas? r).map (x :: ·)
  | .c _ :: _ => none
def gnOf : List RV → Gn
  | [] => .pur
  | .d g _ :: r => g.join (gnOf r)
  | .c _ :: _ => .mix
/-- the items of a list or a tuple -/
def items? (st : Store) : RV → Option (List RV)
  | .d g (.list xs) => some (xs.map (el g))
  | .d g (.tuple xs) => some (xs.map (el g))
  | .c n => match st[n]? with
    | some (.lst xs) => some xs
    | _ => none
  | _ => none
def isLst (st : Store) : RV → Bool
  | .d g (.list _) => decide (g ≠ .scr)
  | .c n => match st[n]? with
    | some (.lst _) => true
    | _ => false
  | _ => false
/-- what it is as a datum now -/
def snap? (st : Store) : RV → Option PyData
  | .d _ x => some x
  | .c n => match st[n]? with
    | some (.lst xs) => (datas? xs).map .list
    | _ => none
/-- the flag of a new list that holds xs, out of a thing flagged g -/
def lstG (g : Gn) (xs : List PyData) : Gn := if noLs xs = true then .new else g.newL
def mkTup (xs : List RV) : Option RV := (datas? xs).map fun ds => el (gnOf xs) (.tuple ds)
def mkLst (xs : List RV) : Option RV := (datas? xs).map fun ds => .d (lstG (gnOf xs) ds) (.list ds)

/-! ### operators -/
inductive BOp where
  | add | sub | mul | fdiv | mod | pow
  deriving DecidableEq, Repr
inductive COp where
  | eq | ne | lt | le | gt | ge | isin | nin | is | isnt
  deriving DecidableEq, Repr

def intBinop : BOp → Int → Int → Option Int
  | .add, i, j => some (i + j)
  | .sub, i, j => some (i - j)
  | .mul, i, j => if (-(2 ^ 64) < j ∧ j < 2 ^ 64) ∨ (-(2 ^ 64) < i ∧ i < 2 ^ 64) then some (i * j) else none
  | .fdiv, i, j => if 0 < j ∧ j < 1073741824 then some (i / j) else none
  | .mod, i, j => if 0 < j then some (i % j) else none
  | .pow, i, j => if 0 ≤ j ∧ j ≤ 1000 ∧ -(2 ^ 62) < i ∧ i < 2 ^ 62 then some (i ^ j.toNat) else none

/-- a + b of lists: a new list -/
def catL (st : Store) (a b : RV) : Option RV :=
  match isLst st a && isLst st b, items? st a, items? st b with
  | true, some xs, some ys => if xs.length + ys.length ≤ lim then mkLst (xs ++ ys) else none
  | _, _, _ => none
def repL (xs : List PyData) (k : Nat) : List PyData := (List.replicate k xs).flatten
def binRest (st : Store) (o : BOp) (a b : RV) : Option RV :=
  match o with
  | .add => catL st a b
  | _ => none
def binop (st : Store) (o : BOp) : RV → RV → Option RV
  | .d _ (.int i), .d _ (.int j) => (intBinop o i j).map rvI
  | .d g (.tuple xs), .d g' (.tuple ys) => match o with
    | .add => if xs.length + ys.length ≤ lim then some (.d (g.join g') (.tuple (xs ++ ys))) else none
    | _ => none
  | .d _ (.str x), .d _ (.str y) => match o with
    | .add => if x.length + y.length ≤ lim then some (rvS (x ++ y)) else none
    | _ => none
  | .d g (.list xs), .d _ (.int k) => match o with
    | .mul => if g ≠ .scr ∧ 0 ≤ k ∧ k < 1000000 ∧ xs.length * k.toNat ≤ lim then some (.d (lstG g (repL xs k.toNat)) (.list (repL xs k.toNat))) else none
    | _ => none
  | a, b => binRest st o a b

/-! keys of dicts: tuples of numbers, texts, None and such tuples -/
mutual
def toKey : PyData → Option NestedKey
  | .none => some .none
  | .int i => some (.num i)
  | .str x => some (.text x)
  | .tuple xs => (toKeys xs).map .tup
  | _ => none
def toKeys : List PyData → Option (List NestedKey)
  | [] => some []
  | x :: xs => match toKey x, toKeys xs with
    | some k, some ks => some (k :: ks)
    | _, _ => none
end
/-- may be a key: a tuple not too deep -/
def keyOk (x : PyData) : Bool :=
  match x, toKey x with
  | .tuple _, some k => decide (k.depth ≤ 8)
  | _, _ => false
def same (x y : PyData) : Bool := PyData.eqv x y
def dget (kvs : List (PyData × RV)) (k : PyData) : Option RV := (kvs.find? fun p => same p.1 k).map (·.2)
def dput (kvs : List (PyData × RV)) (k : PyData) (v : RV) : List (PyData × RV) :=
  if (kvs.any fun p => same p.1 k) = true then kvs.map fun p => if same p.1 k = true then (p.1, v) else p else kvs ++ [(k, v)]

def memD (x : PyData) (ds : List PyData) : Option Bool :=
  if min (PyData.depthAll ds) x.depth ≤ 60 then some (ds.any fun y => PyData.eqv y x) else none
/-- a in b: the keys of a dict, the items of a list or a tuple -/
def isIn (st : Store) (a : RV) (b : RV) : Option Bool :=
  match a, b with
  | .d _ x, .c n => match st[n]? with
    | some (.dic _ kvs) => if keyOk x = true then some (dget kvs x).isSome else none
    | some (.lst xs) => (datas? xs).bind (memD x)
    | _ => none
  | .d _ x, .d _ (.list ds) => memD x ds
  | .d _ x, .d _ (.tuple ds) => memD x ds
  | _, _ => none
def isEq (st : Store) (a b : RV) : Option Bool :=
  match snap? st a, snap? st b with
  | some x, some y => if min x.depth y.depth ≤ 60 then some (PyData.eqv x y) else none
  | _, _ => none
/-- a < b -/
def isLt : PyData → PyData → Option Bool
  | .int i, .int j => some (decide (i < j))
  | .tuple xs, .tuple ys => if PySem.W.alike (.tuple xs) (.tuple ys) = true ∧ (PyData.tuple xs).depth ≤ 60 then some (PySem.W.dataLt (.tuple xs) (.tuple ys)) else none
  | _, _ => none
def isLtI : PyData → PyData → Option Bool
  | .int i, .int j => some (decide (i < j))
  | _, _ => none
def isLe : PyData → PyData → Option Bool
  | .int i, .int j => some (decide (i ≤ j))
  | _, _ => none
def isNone : PyData → Bool
  | .none => true
  | _ => false
def isSame : PyData → PyData → Option Bool
  | x, .none => some (isNone x)
  | .bool b, .bool c => some (decide (b = c))
  | _, _ => none
def cmpop (st : Store) (o : COp) (a b : RV) : Option Bool :=
  match o with
  | .eq => isEq st a b
  | .ne => (isEq st a b).map (!·)
  | .isin => isIn st a b
  | .nin => (isIn st a b).map (!·)
  | .lt => match a, b with | .d _ x, .d _ y => isLt x y | _, _ => none
  | .gt => match a, b with | .d _ x, .d _ y => isLtI y x | _, _ => none
  | .le => match a, b with | .d _ x, .d _ y => isLe x y | _, _ => none
  | .ge => match a, b with | .d _ x, .d _ y => isLe y x | _, _ => none
  | .is => match a, b with
    | .d _ x, .d _ y => isSame x y
    | .c _, .d _ .none => some false
    | _, _ => none
  | .isnt => match a, b with
    | .d _ x, .d _ y => (isSame x y).map (!·)
    | .c _, .d _ .none => some true
    | _, _ => none

def subscr (st : Store) (a i : RV) : Option RV :=
  match a, i with
  | .d g (.list xs), .d _ (.int k) => (L2.atI xs k).map (el g)
  | .d g (.tuple xs), .d _ (.int k) => (L2.atI xs k).map (el g)
  | .d _ (.str s), .d _ (.int k) => if lim < s.length then none else (L2.atI s.cps.toList k).map fun c => rvS ⟨#[c]⟩
  | .c n, .d _ x => match st[n]?, x with
    | some (.lst xs), .int k => L2.atI xs k
    | some (.dic _ kvs), x => if keyOk x = true then dget kvs x else none
    | some (.sd kvs), .str s => kvs.lookup s
    | _, _ => none
  | _, _ => none
def cut {α : Type} (xs : List α) (lo hi : Option Int) : List α := (xs.drop (HT.sIx xs.length 0 lo)).take (HT.sIx xs.length xs.length hi - HT.sIx xs.length 0 lo)
def slice (st : Store) (a : RV) (lo hi : Option Int) : Option RV :=
  match a with
  | .d g (.list xs) => some (.d (lstG g (cut xs lo hi)) (.list (cut xs lo hi)))
  | .d g (.tuple xs) => some (.d g (.tuple (cut xs lo hi)))
  | .d _ (.str s) => if s.length ≤ lim then some (rvS (L2.cutS s lo hi)) else none
  | .c n => match st[n]? with
    | some (.lst xs) => mkLst (cut xs lo hi)
    | _ => none
  | _ => none

/-! ### built-ins -/
inductive Ty where
  | tuple | list | int | bool | str
  deriving DecidableEq, Repr
def isTyD (t : Ty) (x : PyData) : Bool :=
  match t, x with
  | .tuple, .tuple _ => true
  | .list, .list _ => true
  | .int, .int _ => true
  | .int, .bool _ => true
  | .bool, .bool _ => true
  | .str, .str _ => true
  | _, _ => false
def isTy (st : Store) (v : RV) (t : Ty) : Option Bool :=
  match v with
  | .d _ x => some (isTyD t x)
  | .c n => match st[n]? with
    | some (.lst _) => some (decide (t = .list))
    | _ => none

inductive Blt where
  | len | abs | list | tuple | sorted | sortset | sum | min1 | max1 | minD | maxD | max2 | min2 | int | dict | set0 | sortsi | trng | rev | dvm
  deriving DecidableEq, Repr

def pairsOf : List PyData → Option (List (PyData × PyData))
  | [] => some []
  | .tuple [k, v] :: r => (pairsOf r).map ((k, v) :: ·)
  | _ => none
def allAlike (ds : List PyData) : Bool := ds.all fun x => ds.all fun y => PySem.W.alike x y
def tupNe : PyData → Bool
  | .tuple (_ :: _) => true
  | _ => false
def notTup : PyData → Bool
  | .none => false
  | .tuple _ => false
  | _ => true
/-- may be sorted -/
def sortable (ds : List PyData) : Bool := allAlike ds && (ds.all tupNe || ds.all notTup) && ds.all (fun x => decide (x.depth ≤ 60))
def sortD (ds : List PyData) : List PyData := ds.mergeSort (PySem.W.dataLe false id)
def keysOf (kvs : List (PyData × RV)) : List PyData := kvs.map (·.1)
/-- the items of a list or a tuple, as data -/
def flat (st : Store) : RV → Option (Gn × List PyData)
  | .d g (.list xs) => some (g, xs)
  | .d g (.tuple xs) => some (g, xs)
  | .c n => match st[n]? with
    | some (.lst xs) => (datas? xs).map fun ds => (gnOf xs, ds)
    | _ => none
  | _ => none
/-- the keys of a dict -/
def keys? (st : Store) : RV → Option (List PyData)
  | .c n => match st[n]? with
    | some (.dic _ kvs) => some (keysOf kvs)
    | _ => none
  | _ => none
/-- what list(), sorted() get of it, as data -/
def seqOf (st : Store) (v : RV) : Option (Gn × List PyData) :=
  match keys? st v with
  | some ks => some (.pur, ks)
  | none => flat st v
/-- may be asked for the least, the greatest -/
def minOk (ds : List PyData) : Bool := allAlike ds && ds.all (fun x => !isNone x) && decide (PyData.depthAll ds ≤ 60)
def intOf : PyData → Option Int
  | .int i => some i
  | _ => none
def intTup : PyData → Option (List Int)
  | .tuple xs => xs.mapM intOf
  | _ => none
def tupI (ns : List Int) : PyData := .tuple (ns.map .int)
def dedupI : List (List Int) → List (List Int)
  | [] => []
  | x :: xs => if x ∈ xs then dedupI xs else x :: dedupI xs
/-- a tuple's place among tuples of as many small numbers -/
def codeI : List Int → Int
  | [] => 0
  | d :: r => d * 64 ^ r.length + codeI r
def sortC (ks : List (List Int)) : List (List Int) := (dedupI ks).mergeSort fun x y => decide (codeI x ≤ codeI y)
def dimOf (ks : List (List Int)) : Nat := match ks with
  | k :: _ => k.length
  | [] => 1
/-- tuples of as many small numbers, not many -/
def cellsOk (ks : List (List Int)) : Bool := decide (ks.length ≤ 64) && decide (1 ≤ dimOf ks) && ks.all fun ns => decide (ns.length = dimOf ks) && ns.all fun m => decide (0 ≤ m ∧ m < 64)

/-- whole numbers, each once, rising -/
def dedupZ : List Int → List Int
  | [] => []
  | x :: xs => if x ∈ xs then dedupZ xs else x :: dedupZ xs
def sortZ (ns : List Int) : List Int := (dedupZ ns).mergeSort fun a b => decide (a ≤ b)
def bSortsi : List RV → Option RV
  | [.d _ (.tuple xs)] => (xs.mapM intOf).bind fun ns => if ns.length < 64 then some (.d .new (.list ((sortZ ns).map .int))) else none
  | _ => none
def bTrng : List RV → Option RV
  | [.d _ (.int j)] => if j < 1000000 ∧ -1000000 < j then some (.d .pur (.tuple ((List.range j.toNat).map fun (i : Nat) => .int i))) else none
  | _ => none
def bRev : List RV → Option RV
  | [.d g (.tuple xs)] => some (.d g (.tuple xs.reverse))
  | [.d g (.list xs)] => some (.d (lstG g xs.reverse) (.list xs.reverse))
  | _ => none
/-- divmod(i, j) -/
def bDvm : List RV → Option RV
  | [.d _ (.int i), .d _ (.int j)] => if 0 < j ∧ j < 1073741824 then some (.d .pur (.tuple [.int (i / j), .int (i % j)])) else none
  | _ => none
def bLen (st : Store) : List RV → Option RV
  | [.d _ (.list xs)] => some (rvI xs.length)
  | [.d _ (.tuple xs)] => some (rvI xs.length)
  | [.d _ (.str s)] => if s.length ≤ lim then some (rvI s.length) else none
  | [.c n] => match st[n]? with
    | some (.lst xs) => some (rvI xs.length)
    | some (.dic _ kvs) => some (rvI kvs.length)
    | _ => none
  | _ => none
def bAbs : List RV → Option RV
  | [.d _ (.int i)] => some (rvI (if i < 0 then -i else i))
  | _ => none
def bList (st : Store) : List RV → Option RV
  | [a] => (seqOf st a).map fun p => .d (lstG p.1 p.2) (.list p.2)
  | _ => none
def bTup (st : Store) : List RV → Option RV
  | [.d g (.tuple xs)] => some (.d g (.tuple xs))
  | [.d g (.list xs)] => some (el g (.tuple xs))
  | [.c n] => match st[n]? with
    | some (.lst xs) => (datas? xs).map fun ds => el (gnOf xs) (.tuple ds)
    | _ => none
  | _ => none
def bSorted (st : Store) : List RV → Option RV
  | [a] => (seqOf st a).bind fun p => if sortable p.2 = true then some (.d (lstG p.1 (sortD p.2)) (.list (sortD p.2))) else none
  | _ => none
def bSortset (st : Store) : List RV → Option RV
  | [a] => (flat st a).bind fun p => (p.2.mapM intTup).bind fun ks => if cellsOk ks = true then some (.d .new (.list ((sortC ks).map tupI))) else none
  | _ => none
def bSum : List RV → Option RV
  | [.d _ (.list xs)] => (xs.mapM intOf).map fun is => rvI is.sum
  | _ => none
def pick (f : PyData → List PyData → PyData) (g : Gn) (ds : List PyData) (dv : Option RV) : Option RV :=
  if minOk ds = true then match ds with
    | x :: r => some (el g (f x r))
    | [] => dv
  else none
def bPick (f : PyData → List PyData → PyData) (st : Store) : List RV → Option RV
  | [a] => (flat st a).bind fun p => pick f p.1 p.2 none
  | _ => none
def bPickD (f : PyData → List PyData → PyData) (st : Store) : List RV → Option RV
  | [a, dv] => (flat st a).bind fun p => pick f p.1 p.2 (some dv)
  | _ => none
def bMax2 : List RV → Option RV
  | [.d _ (.int i), .d _ (.int j)] => some (rvI (if j > i then j else i))
  | _ => none
def bMin2 : List RV → Option RV
  | [.d _ (.int i), .d _ (.int j)] => some (rvI (if j < i then j else i))
  | [a, b] => (datas? [a, b]).bind fun ds => pick PySem.W.minD (gnOf [a, b]) ds none
  | _ => none
def bInt : List RV → Option RV
  | [.d _ (.bool b)] => some (rvI (if b = true then 1 else 0))
  | [.d _ (.int i)] => some (rvI i)
  | _ => none
def blt (st : Store) (b : Blt) (xs : List RV) : Option RV :=
  match b with
  | .len => bLen st xs
  | .abs => bAbs xs
  | .list => bList st xs
  | .tuple => bTup st xs
  | .sorted => bSorted st xs
  | .sortset => bSortset st xs
  | .sum => bSum xs
  | .min1 => bPick PySem.W.minD st xs
  | .max1 => bPick PySem.W.maxD st xs
  | .minD => bPickD PySem.W.minD st xs
  | .maxD => bPickD PySem.W.maxD st xs
  | .max2 => bMax2 xs
  | .min2 => bMin2 xs
  | .int => bInt xs
  | .dict => none
  | .set0 => none
  | .sortsi => bSortsi xs
  | .trng => bTrng xs
  | .rev => bRev xs
  | .dvm => bDvm xs

/-! ### the language -/
inductive Mth where
  | append | extend | pop | popAt | reverse | get1 | get2 | update | join | split
  deriving DecidableEq, Repr
/-- what a loop goes over: a value, range(..), enumerate(..), zip(..) -/
inductive Ik where
  | val | rng | enum | zip
  deriving DecidableEq, Repr
inductive Tg where
  | nm (i : Nat)
  | tp (is : List Nat)
  | pr (i : Nat) (is : List Nat)
  deriving DecidableEq, Repr

mutual
inductive E where
  | var (i : Nat)
  | cst (x : PyData)
  | glb (n : Nat)
  | bin (o : BOp) (a b : E)
  | neg (a : E)
  | cmp (o : COp) (a b : E)
  | chn (o p : COp) (a b c : E)
  | boo (k : Bool) (xs : EL)
  | nt (a : E)
  | ife (c a b : E)
  | tup (xs : EL)
  | lst (xs : EL)
  | mlst (xs : EL)
  | mdic
  | dic1 (k v : E)
  | sdi (ks : List Str) (xs : EL)
  | sub (a i : E)
  | slc (a : E) (lo hi : EL)
  | call (f : Nat) (xs : EL)
  | isi (a : E) (ts : List Ty)
  | bl (b : Blt) (xs : EL)
  | mbl (b : Blt) (xs : EL)
  | mth (m : Mth) (o : E) (xs : EL)
  | lc (own : List Nat) (tg : Tg) (ik : Ik) (it : EL) (ts : EL) (elt : E)
  | mlc (own : List Nat) (tg : Tg) (ik : Ik) (it : EL) (ts : EL) (elt : E)
  | kind (body : E)
  | fld (o : E) (f : Str)
  | mk (f : Nat) (xs : EL)
  | meth (f : Nat) (m : Str) (o : E) (xs : EL)
inductive EL where
  | nil
  | cons (e : E) (r : EL)
end
mutual
inductive S where
  | asg (tg : Tg) (e : E)
  | ast (o i e : E)
  | sfld (o : E) (f : Str) (e : E)
  | exp (e : E)
  | ret (e : E)
  | retn
  | rtt (xs : EL)
  | ifs (c : E) (a b : SL)
  | whl (n : Nat) (c : E) (a : SL)
  | for_ (tg : Tg) (ik : Ik) (it : EL) (a : SL)
  | rais (k : Nat)
  | pass
  | nope
  | prm (s : S)
  | spo (o : E) (e : EL)
  | spl (v i : Nat)
  | knd (w : Nat) (a b : E) (nm : Str)
inductive SL where
  | nil
  | cons (s : S) (r : SL)
end

def oneE (e : E) : EL := .cons e .nil
inductive Out where
  | nx (env : Env) (st : Store)
  | rt (v : RV) (st : Store)
  | rtt (vs : List RV) (st : Store)
  | exc (k : Nat) (st : Store)
  | bad
def Out.ofRes {α : Type} (r : Res α) (f : α → Store → Out) : Out :=
  match r with
  | .ok a st => f a st
  | .exc k st => .exc k st
  | .bad => .bad
@[simp] theorem Out.ofRes_ok {α : Type} (a : α) (st : Store) (f : α → Store → Out) : Out.ofRes (.ok a st) f = f a st := rfl
@[simp] theorem Out.ofRes_exc {α : Type} (k : Nat) (st : Store) (f : α → Store → Out) : Out.ofRes (Res.exc k st) f = .exc k st := rfl
@[simp] theorem Out.ofRes_bad {α : Type} (f : α → Store → Out) : Out.ofRes (Res.bad) f = .bad := rfl
def Out.seq (o : Out) (f : Env → Store → Out) : Out :=
  match o with
  | .nx env st => f env st
  | o => o
@[simp] theorem Out.seq_nx (env : Env) (st : Store) (f : Env → Store → Out) : (Out.nx env st).seq f = f env st := rfl
@[simp] theorem Out.seq_rt (v : RV) (st : Store) (f : Env → Store → Out) : (Out.rt v st).seq f = .rt v st := rfl
@[simp] theorem Out.seq_rtt (vs : List RV) (st : Store) (f : Env → Store → Out) : (Out.rtt vs st).seq f = .rtt vs st := rfl
@[simp] theorem Out.seq_exc (k : Nat) (st : Store) (f : Env → Store → Out) : (Out.exc k st).seq f = .exc k st := rfl
@[simp] theorem Out.seq_bad (f : Env → Store → Out) : (Out.bad).seq f = .bad := rfl

/-! ### calls: a callee sees only the cells that it can come to -/
def refsOf : List RV → List Nat
  | [] => []
  | .d _ _ :: r => refsOf r
  | .c n :: r => n :: refsOf r
def Cell.refs : Cell → List Nat
  | .lst xs => refsOf xs
  | .dic _ kvs => refsOf (kvs.map (·.2))
  | .sd kvs => refsOf (kvs.map (·.2))
  | .obj _ fs => refsOf (fs.map (·.2))
  | .gone => []
def reach (st : Store) : Nat → List Nat → List Nat → List Nat
  | 0, _, acc => acc
  | _ + 1, [], acc => acc
  | f + 1, n :: r, acc => if n ∈ acc then reach st f r acc else reach st f (((st[n]?).map Cell.refs).getD [] ++ r) (acc ++ [n])
def mapRV (fd : Gn → Gn) (fc : Nat → Option Nat) : RV → Option RV
  | .d g x => some (.d (fd g) x)
  | .c n => (fc n).map .c
def mapCell (fd : Gn → Gn) (fc : Nat → Option Nat) : Cell → Option Cell
  | .lst xs => (xs.mapM (mapRV fd fc)).map .lst
  | .dic lk kvs => (kvs.mapM fun p => (mapRV fd fc p.2).map fun v => (p.1, v)).map (.dic lk)
  | .sd kvs => (kvs.mapM fun p => (mapRV fd fc p.2).map fun v => (p.1, v)).map .sd
  | .obj k fs => (fs.mapM fun p => (mapRV fd fc p.2).map fun v => (p.1, v)).map (.obj k)
  | .gone => some .gone
def idx? (L : List Nat) (n : Nat) : Option Nat := L.findIdx? (· == n)
/-- the callee's store -/
def subStore (st : Store) (L : List Nat) : Option Store := L.mapM fun n => (st[n]?).bind (mapCell .down (idx? L))
def back (L : List Nat) (n : Nat) (j : Nat) : Nat := if j < L.length then L.getD j 0 else n + (j - L.length)
/-- the cells of L as the callee left them -/
def putBack (st : Store) (L : List Nat) (st' : Store) : Option Store :=
  (L.zip (st'.take L.length)).foldlM (fun acc p => (mapCell .up (fun j => if j < L.length then some (L.getD j 0) else none) p.2).map fun c => acc.set p.1 c) st
/-- the same where new cells are to be seen from them -/
def putBackX (st : Store) (L : List Nat) (st' : Store) : Option Store :=
  (L.zip (st'.take L.length)).foldlM (fun acc p => (mapCell .up (fun j => some (back L st.length j)) p.2).map fun c => acc.set p.1 c) st
def callF (φ : List RV → Store → Res RV) (args : List RV) (st : Store) : Res RV :=
  let L := reach st 64 (refsOf args) []
  match args.mapM (mapRV .down (idx? L)), subStore st L with
  | some as, some s0 => match φ as s0 with
    | .ok v s1 => match putBack st L s1 with
      | some st1 => match v with
        | .d g x => .ok (.d (if noL x = true then .pur else g.up) x) st1
        | .c j => if j < L.length then .ok (.c (L.getD j 0)) st1 else
          match s1[j]? with
          | some cl => if cl.refs = [] then match cl with
              | .lst xs => match datas? xs with
                | some ds => .ok (.d (lstG (gnOf xs).up ds) (.list ds)) st1
                | none => .bad
              | cl => match mapCell .up (fun _ => none) cl with
                | some cl => .ok (.c st.length) (st1 ++ [cl])
                | none => .bad
            else match (s1.drop L.length).mapM (mapCell .up fun j => some (back L st.length j)) with
              | some more => .ok (.c (back L st.length j)) (st1 ++ more)
              | none => .bad
          | none => .bad
      | none => match putBackX st L s1, (s1.drop L.length).mapM (mapCell .up fun j => some (back L st.length j)), mapRV .up (fun j => some (back L st.length j)) v with
        | some st1, some more, some v' => .ok v' (st1 ++ more)
        | _, _, _ => .bad
    | .exc k s1 => match putBack st L s1 with
      | some st1 => .exc k st1
      | none => .bad
    | .bad => .bad
  | _, _ => .bad

/-! ### targets, sources of loops -/
def setAll : List Nat → List PyData → Gn → Env → Option Env
  | [], [], _, env => some env
  | i :: is, x :: xs, g, env => setAll is xs g (env.set i (some (el g x)))
  | _, _, _, _ => none
def assign (tg : Tg) (v : RV) (env : Env) : Option Env :=
  match tg, v with
  | .nm i, v => some (env.set i (some v))
  | .tp is, .d g (.tuple xs) => setAll is xs g env
  | .pr i is, .d g (.tuple [x, .tuple ys]) => setAll is ys g (env.set i (some (el g x)))
  | _, _ => none
/-- what is gone over: items told ahead, a cell with so many -/
inductive Src where
  | items (xs : List RV)
  | cell (n m : Nat)
def Src.size : Src → Nat
  | .items xs => xs.length
  | .cell _ m => m
/-- the i-th thing -/
def Src.at? (src : Src) (st : Store) (i : Nat) : Option RV :=
  match src with
  | .items xs => xs[i]?
  | .cell n _ => match st[n]? with
    | some (.lst xs) => xs[i]?
    | _ => none
/-- the cell still has so many -/
def Src.ends (src : Src) (st : Store) : Bool :=
  match src with
  | .items _ => true
  | .cell n m => match st[n]? with
    | some (.lst xs) => decide (xs.length = m)
    | _ => false
/-- a dict is locked while a loop goes over it -/
def lockOf (ik : Ik) (vs : List RV) (st : Store) : Option (Nat × Bool) :=
  match ik, vs with
  | .val, [.c n] => match st[n]? with
    | some (.dic lk _) => some (n, lk)
    | _ => none
  | _, _ => none
def setLk (st : Store) (l : Option (Nat × Bool)) (f : Bool → Bool) : Store :=
  match l with
  | some (n, lk) => match st[n]? with
    | some (.dic _ kvs) => st.set n (.dic (f lk) kvs)
    | _ => st
  | none => st
def rngRV (lo : Int) (n : Nat) : List RV := (List.range n).map fun (i : Nat) => rvI (lo + (i : Int))
def pairRV (a b : RV) : Option RV := mkTup [a, b]
def sVal (st : Store) : List RV → Option Src
  | [.d g (.list xs)] => some (.items (xs.map (el g)))
  | [.d g (.tuple xs)] => some (.items (xs.map (el g)))
  | [.d _ (.str s)] => if s.cps.size ≤ lim then some (.items (s.cps.toList.map fun c => rvS ⟨#[c]⟩)) else none
  | [.c n] => match st[n]? with
    | some (.lst xs) => some (.cell n xs.length)
    | some (.dic _ kvs) => some (.items (kvs.map fun p => .d .pur p.1))
    | _ => none
  | _ => none
def sRng : List RV → Option Src
  | [.d _ (.int j)] => if j < 1000000 ∧ -1000000 < j then some (.items (rngRV 0 j.toNat)) else none
  | [.d _ (.int i), .d _ (.int j)] => if j < 1000000 ∧ -1000000 < j ∧ i < 1000000 ∧ -1000000 < i then some (.items (rngRV i (j - i).toNat)) else none
  | _ => none
def sEnum : List RV → Option Src
  | [.d g (.list xs)] => (((List.range xs.length).zip xs).mapM fun p => pairRV (rvI p.1) (el g p.2)).map .items
  | _ => none
def sZip : List RV → Option Src
  | [.d g (.list xs), .d g' (.list ys)] => if xs.length = ys.length then ((xs.zip ys).mapM fun p => pairRV (el g p.1) (el g' p.2)).map .items else none
  | _ => none
def srcOf (st : Store) (ik : Ik) (vs : List RV) : Option Src :=
  match ik with
  | .val => sVal st vs
  | .rng => sRng vs
  | .enum => sEnum vs
  | .zip => sZip vs
/-- the turns of a comprehension; k of them are left, i is next -/
def lcLoop (src : Src) (turn : RV → Store → Res (Option RV)) : Nat → Nat → List RV → Store → Res (List RV)
  | 0, _, acc, st => if src.ends st = true then .ok acc st else .bad
  | k + 1, i, acc, st => match src.at? st i with
    | some v => match turn v st with
      | .ok (some y) st' => lcLoop src turn k (i + 1) (acc ++ [y]) st'
      | .ok none st' => lcLoop src turn k (i + 1) acc st'
      | _ => .bad
    | none => .bad
def forLoop (src : Src) (turn : RV → Env → Store → Out) : Nat → Nat → Env → Store → Out
  | 0, _, env, st => if src.ends st = true then .nx env st else .bad
  | k + 1, i, env, st => match src.at? st i with
    | some v => (turn v env st).seq fun env' st' => forLoop src turn k (i + 1) env' st'
    | none => .bad
def whileLoop (test : Env → Store → Res Bool) (turn : Env → Store → Out) : Nat → Env → Store → Out
  | 0, _, _ => .bad
  | k + 1, env, st => Out.ofRes (test env st) fun b st1 => if b = true then (turn env st1).seq fun env' st' => whileLoop test turn k env' st' else .nx env st1
def wipeE (env : Env) : List Nat → Env
  | [] => env
  | v :: vs => (wipeE env vs).set v none

/-! ### methods -/
def toStrs : List PyData → Option (List Str)
  | [] => some []
  | .str s :: r => (toStrs r).map (s :: ·)
  | _ => none
def joinS (sep : Str) : List Str → Str
  | [] => ⟨#[]⟩
  | [x] => x
  | x :: y :: r => x ++ sep ++ joinS sep (y :: r)
/-- a list's methods -/
def mLst (st : Store) (n : Nat) (ys : List RV) (m : Mth) (xs : List RV) : Option (RV × Store) :=
  match m, xs with
  | .append, [v] => if ys.length < lim then some (rvN, st.set n (.lst (ys ++ [v]))) else none
  | .extend, [.d g (.list zs)] => if g ≠ .scr ∧ ys.length + zs.length ≤ lim then some (rvN, st.set n (.lst (ys ++ zs.map (el g)))) else none
  | .pop, [] => (ys[ys.length - 1]?).map fun y => (y, st.set n (.lst ys.dropLast))
  | .popAt, [.d _ (.int i)] => match ys with
    | y :: ys => if i = 0 ∧ ys.length < lim then some (y, st.set n (.lst ys)) else none
    | [] => none
  | .reverse, [] => some (rvN, st.set n (.lst ys.reverse))
  | _, _ => none
def mDic (st : Store) (kvs : List (PyData × RV)) (m : Mth) (xs : List RV) : Option (RV × Store) :=
  match m, xs with
  | .get1, [.d _ k] => if keyOk k = true then some ((dget kvs k).getD rvN, st) else none
  | .get2, [.d _ k, v] => if keyOk k = true then some ((dget kvs k).getD v, st) else none
  | _, _ => none
def strOf : PyData → Option Str
  | .str s => some s
  | _ => none
def mStr (st : Store) (s : Str) (m : Mth) (xs : List RV) : Option (RV × Store) :=
  match m, xs with
  | .join, [a] => (flat st a).bind fun p => (p.2.mapM strOf).bind fun ys => if (ys.map (·.length)).sum + ys.length * s.length ≤ lim then some (rvS (Txt.join s ys), st) else none
  | .split, [.d _ (.str b)] => if (b.length == 0) = false ∧ s.length + 2 ≤ lim ∧ (Txt.split s b).all PyData.strOk = true then some (.d .new (.list ((Txt.split s b).map .str)), st) else none
  | _, _ => none
def mthd (st : Store) (m : Mth) (o : RV) (xs : List RV) : Option (RV × Store) :=
  match o with
  | .d _ (.str s) => mStr st s m xs
  | .c n => match st[n]? with
    | some (.lst ys) => mLst st n ys m xs
    | some (.dic _ kvs) => mDic st kvs m xs
    | _ => none
  | _ => none
def isDic (st : Store) (n : Nat) : Bool :=
  match st[n]? with
  | some (.dic _ _) => true
  | _ => false
/-- the thing may be asked for that method -/
def mOk (st : Store) (m : Mth) (o : RV) : Bool :=
  match o with
  | .d _ (.str _) => match m with
    | .join => true
    | .split => true
    | _ => false
  | .d _ _ => false
  | .c n => match m with
    | .get1 => isDic st n
    | .get2 => isDic st n
    | .append => isLst st (.c n)
    | .extend => isLst st (.c n)
    | .pop => isLst st (.c n)
    | .popAt => isLst st (.c n)
    | .reverse => isLst st (.c n)
    | _ => false
def setItem (st : Store) (o i v : RV) : Option Store :=
  match o, i with
  | .c n, .d _ k => match st[n]?, k with
    | some (.lst ys), .int j => if 0 ≤ j ∧ j < ys.length then some (st.set n (.lst (ys.set j.toNat v))) else none
    | some (.dic false kvs), k => if keyOk k = true ∧ kvs.length < lim then some (st.set n (.dic false (dput kvs k v))) else none
    | _, _ => none
  | _, _ => none

/-! ### objects of the one class -/
def fldOf (st : Store) (o : RV) (f : Str) : Option RV :=
  match o with
  | .c n => match st[n]? with
    | some (.obj 0 fs) => fs.lookup f
    | _ => none
  | _ => none
/-- an object without that attribute of its own: may be asked for the method -/
def isObj (st : Store) (o : RV) (m : Str) : Bool :=
  match o with
  | .c n => match st[n]? with
    | some (.obj 0 fs) => (fs.lookup m).isNone
    | _ => false
  | _ => false
def putA (f : Str) (v : RV) : List (Str × RV) → List (Str × RV)
  | [] => [(f, v)]
  | (g, x) :: r => if g = f then (g, v) :: r else (g, x) :: putA f v r
def setFld (st : Store) (o : RV) (f : Str) (v : RV) : Option Store :=
  match o with
  | .c n => match st[n]? with
    | some (.obj 0 fs) => if fs.length < 1000 then some (st.set n (.obj 0 (putA f v fs))) else none
    | _ => none
  | _ => none
def isNonRV : RV → Bool
  | .d _ .none => true
  | _ => false
/-! ### the meaning -/
structure Cfg where
  glb : List PyData
  exn : List Str
def mkDic : RV → Option Cell
  | .d g (.list ds) => (pairsOf ds).bind fun kvs =>
    if (kvs.all fun q => keyOk q.1) = true then some (.dic false (kvs.foldl (fun acc q => dput acc q.1 (el g q.2)) [])) else none
  | _ => none
mutual
def den (C : Cfg) (φ φ2 : Nat → List RV → Store → Res RV) : E → Env → Store → Res RV
  | .var i, env, st => match env[i]? with
    | some (some v) => .ok v st
    | _ => .bad
  | .cst x, _, st => .ok (.d .pur x) st
  | .glb n, _, st => match C.glb[n]? with
    | some x => .ok (.d .pur x) st
    | none => .bad
  | .bin o a b, env, st => (den C φ φ2 a env st).bind fun x st1 => (den C φ φ2 b env st1).bind fun y st2 => Res.ofOpt (binop st2 o x y) st2
  | .neg a, env, st => (den C φ φ2 a env st).bind fun x st1 => match x with
    | .d _ (.int i) => .ok (rvI (-i)) st1
    | _ => .bad
  | .cmp o a b, env, st => (den C φ φ2 a env st).bind fun x st1 => (den C φ φ2 b env st1).bind fun y st2 => Res.ofOpt ((cmpop st2 o x y).map rvB) st2
  | .chn o p a b c, env, st => (den C φ φ2 a env st).bind fun x st1 => (den C φ φ2 b env st1).bind fun y st2 => (Res.ofOpt (cmpop st2 o x y) st2).bind fun r st3 =>
    if r = true then (den C φ φ2 c env st3).bind fun z st4 => Res.ofOpt ((cmpop st4 p y z).map rvB) st4 else .ok (rvB false) st3
  | .boo k xs, env, st => (denBoo C φ φ2 k xs env st).bind fun b st1 => .ok (rvB b) st1
  | .nt a, env, st => (den C φ φ2 a env st).bind fun x st1 => match x with
    | .d _ (.bool b) => .ok (rvB (!b)) st1
    | _ => .bad
  | .ife c a b, env, st => (den C φ φ2 c env st).bind fun x st1 => match x with
    | .d _ (.bool true) => den C φ φ2 a env st1
    | .d _ (.bool false) => den C φ φ2 b env st1
    | _ => .bad
  | .tup xs, env, st => (denL C φ φ2 xs env st).bind fun vs st1 => Res.ofOpt (mkTup vs) st1
  | .lst xs, env, st => (denL C φ φ2 xs env st).bind fun vs st1 => Res.ofOpt (mkLst vs) st1
  | .mlst xs, env, st => (denL C φ φ2 xs env st).bind fun vs st1 => .ok (.c st1.length) (st1 ++ [.lst vs])
  | .mdic, _, st => .ok (.c st.length) (st ++ [.dic false []])
  | .dic1 a b, env, st => (den C φ φ2 a env st).bind fun k st1 => (den C φ φ2 b env st1).bind fun v st2 => match k with
    | .d _ x => if keyOk x = true then .ok (.c st2.length) (st2 ++ [.dic false [(x, v)]]) else .bad
    | _ => .bad
  | .sdi ks xs, env, st => (denL C φ φ2 xs env st).bind fun vs st1 => if vs.length = ks.length then .ok (.c st1.length) (st1 ++ [.sd (ks.zip vs)]) else .bad
  | .sub a i, env, st => (den C φ φ2 a env st).bind fun x st1 => (den C φ φ2 i env st1).bind fun y st2 => Res.ofOpt (subscr st2 x y) st2
  | .slc a lo hi, env, st => (den C φ φ2 a env st).bind fun x st1 => (denO C φ φ2 lo env st1).bind fun l st2 => (denO C φ φ2 hi env st2).bind fun h st3 => Res.ofOpt (slice st3 x l h) st3
  | .call f xs, env, st => (denL C φ φ2 xs env st).bind fun vs st1 => callF (φ f) vs st1
  | .isi a ts, env, st => (den C φ φ2 a env st).bind fun x st1 => Res.ofOpt (((ts.mapM (isTy st1 x)).map fun bs => rvB (bs.any id))) st1
  | .bl b xs, env, st => (denL C φ φ2 xs env st).bind fun vs st1 => match b with
    | .dict => match vs with
      | [v] => match mkDic v with
        | some cl => .ok (.c st1.length) (st1 ++ [cl])
        | none => .bad
      | _ => .bad
    | b => Res.ofOpt (blt st1 b vs) st1
  | .mbl b xs, env, st => (denL C φ φ2 xs env st).bind fun vs st1 => match b, vs with
    | .list, [v] => match items? st1 v with
      | some ys => .ok (.c st1.length) (st1 ++ [.lst ys])
      | none => .bad
    | _, _ => .bad
  | .mth m o xs, env, st => (den C φ φ2 o env st).bind fun x st1 => if mOk st1 m x = true then (denL C φ φ2 xs env st1).bind fun vs st2 => match mthd st2 m x vs with
    | some (v, st3) => .ok v st3
    | none => .bad
    else .bad
  | .lc own tg ik it ts elt, env, st => (denL C φ φ2 it env st).bind fun vs st1 => match srcOf st1 ik vs with
    | some src => (lcLoop src (fun v st => match assign tg v (wipeE env own) with
        | some env' => (denT C φ φ2 ts env' st).bind fun b st2 => if b = true then (den C φ φ2 elt env' st2).bind fun y st3 => .ok (some y) st3 else .ok none st2
        | none => .bad) src.size 0 [] (setLk st1 (lockOf ik vs st1) fun _ => true)).bind fun ys st2 => Res.ofOpt (mkLst ys) (setLk st2 (lockOf ik vs st1) id)
    | none => .bad
  | .mlc own tg ik it ts elt, env, st => (denL C φ φ2 it env st).bind fun vs st1 => match srcOf st1 ik vs with
    | some src => (lcLoop src (fun v st => match assign tg v (wipeE env own) with
        | some env' => (denT C φ φ2 ts env' st).bind fun b st2 => if b = true then (den C φ φ2 elt env' st2).bind fun y st3 => .ok (some y) st3 else .ok none st2
        | none => .bad) src.size 0 [] (setLk st1 (lockOf ik vs st1) fun _ => true)).bind fun ys st2 => .ok (.c (setLk st2 (lockOf ik vs st1) id).length) (setLk st2 (lockOf ik vs st1) id ++ [.lst ys])
    | none => .bad
  | .kind body, env, st => match den C φ2 φ2 body env st with
    | .ok _ st1 => .ok (rvS ⟨#[]⟩) st1
    | .exc k st1 => match C.exn[k]? with
      | some s => .ok (rvS s) st1
      | none => .bad
    | .bad => .bad
  | .fld o f, env, st => (den C φ φ2 o env st).bind fun x st1 => Res.ofOpt (fldOf st1 x f) st1
  | .mk f xs, env, st => (denL C φ φ2 xs env st).bind fun vs st1 => (callF (φ f) (.c st1.length :: vs) (st1 ++ [.obj 0 []])).bind fun v st2 => if isNonRV v = true then .ok (.c st1.length) st2 else .bad
  | .meth f m o xs, env, st => (den C φ φ2 o env st).bind fun x st1 => if isObj st1 x m = true then (denL C φ φ2 xs env st1).bind fun vs st2 => callF (φ f) (x :: vs) st2 else .bad
def denL (C : Cfg) (φ φ2 : Nat → List RV → Store → Res RV) : EL → Env → Store → Res (List RV)
  | .nil, _, st => .ok [] st
  | .cons e r, env, st => (den C φ φ2 e env st).bind fun v st1 => (denL C φ φ2 r env st1).bind fun vs st2 => .ok (v :: vs) st2
/-- a bound that may be left out -/
def denO (C : Cfg) (φ φ2 : Nat → List RV → Store → Res RV) : EL → Env → Store → Res (Option Int)
  | .nil, _, st => .ok none st
  | .cons e _, env, st => (den C φ φ2 e env st).bind fun v st1 => match v with
    | .d _ (.int i) => .ok (some i) st1
    | _ => .bad
def denBoo (C : Cfg) (φ φ2 : Nat → List RV → Store → Res RV) (k : Bool) : EL → Env → Store → Res Bool
  | .nil, _, _ => .bad
  | .cons e r, env, st => (den C φ φ2 e env st).bind fun v st1 => match v with
    | .d _ (.bool b) => match r with
      | .nil => .ok b st1
      | .cons e' r' => if b = k then denBoo C φ φ2 k (.cons e' r') env st1 else .ok b st1
    | _ => .bad
/-- a comprehension's tests: none, or one -/
def denT (C : Cfg) (φ φ2 : Nat → List RV → Store → Res RV) : EL → Env → Store → Res Bool
  | .nil, _, st => .ok true st
  | .cons e _, env, st => (den C φ φ2 e env st).bind fun v st1 => match v with
    | .d _ (.bool b) => .ok b st1
    | _ => .bad
end
def test (C : Cfg) (φ φ2 : Nat → List RV → Store → Res RV) (e : E) (env : Env) (st : Store) : Res Bool :=
  (den C φ φ2 e env st).bind fun v st1 => match v with
    | .d _ (.bool b) => .ok b st1
    | _ => .bad

/-! ### what a change of told lists leaves -/
def oldOnly : RV → Bool
  | .d .pur _ => true
  | .d .old _ => true
  | .c _ => true
  | _ => false
def Gn.aged : Gn → Gn
  | .pur => .pur
  | .scr => .scr
  | _ => .old
def rvOld : RV → RV
  | .d g x => .d g.aged x
  | .c n => .c n
def cellOld : Cell → Cell
  | .lst xs => .lst (xs.map rvOld)
  | .dic lk kvs => .dic lk (kvs.map fun p => (p.1, rvOld p.2))
  | .sd kvs => .sd (kvs.map fun p => (p.1, rvOld p.2))
  | .obj k fs => .obj k (fs.map fun p => (p.1, rvOld p.2))
  | .gone => .gone
def cellKeeps : Cell → Bool
  | .lst xs => xs.all oldOnly
  | .dic _ kvs => kvs.all fun p => oldOnly p.2
  | .sd kvs => kvs.all fun p => oldOnly p.2
  | .obj _ fs => fs.all fun p => oldOnly p.2
  | .gone => true
/-- a list of this run alone, not too long -/
def spoOk : RV → Bool
  | .d .new (.list xs) => decide (xs.length < lim)
  | _ => false
/-- a list of lists of tuples, all of them short -/
def splItem : PyData → Bool
  | .list ys => decide (ys.length < 1000) && ys.all fun z => match z with
    | .tuple _ => true
    | _ => false
  | _ => false
def splOk (v i : Nat) (xs : List PyData) : Bool := decide (v ≠ i) && decide (xs.length < 1000) && xs.all splItem
def isStr (s : Str) : RV → Bool
  | .d _ (.str x) => decide (x = s)
  | _ => false
def spoilEnv (env : Env) : Env := env.map fun o => o.bind fun v => if oldOnly v = true then some v else none
def spoilSt (st : Store) : Store := st.map fun c => if cellKeeps c = true then c else .gone
mutual
def exe (C : Cfg) (φ φ2 : Nat → List RV → Store → Res RV) : S → Env → Store → Out
  | .asg tg e, env, st => Out.ofRes (den C φ φ2 e env st) fun v st1 => match assign tg v env with
    | some env' => .nx env' st1
    | none => .bad
  | .ast o i e, env, st => Out.ofRes (den C φ φ2 e env st) fun v st1 => Out.ofRes (den C φ φ2 o env st1) fun x st2 => Out.ofRes (den C φ φ2 i env st2) fun y st3 => match setItem st3 x y v with
    | some st4 => .nx env st4
    | none => .bad
  | .sfld o f e, env, st => Out.ofRes (den C φ φ2 e env st) fun v st1 => Out.ofRes (den C φ φ2 o env st1) fun x st2 => match setFld st2 x f v with
    | some st3 => .nx env st3
    | none => .bad
  | .exp e, env, st => Out.ofRes (den C φ φ2 e env st) fun _ st1 => .nx env st1
  | .ret e, env, st => Out.ofRes (den C φ φ2 e env st) fun v st1 => .rt v st1
  | .retn, _, st => .rt rvN st
  | .rtt xs, env, st => Out.ofRes (denL C φ φ2 xs env st) fun vs st1 => .rtt vs st1
  | .ifs c a b, env, st => Out.ofRes (test C φ φ2 c env st) fun k st1 => if k = true then exes C φ φ2 a env st1 else exes C φ φ2 b env st1
  | .whl n c a, env, st => whileLoop (test C φ φ2 c) (exes C φ φ2 a) n env st
  | .for_ tg ik it a, env, st => Out.ofRes (denL C φ φ2 it env st) fun vs st1 => match srcOf st1 ik vs with
    | some src => (forLoop src (fun v env st => match assign tg v env with
        | some env' => exes C φ φ2 a env' st
        | none => .bad) src.size 0 env (setLk st1 (lockOf ik vs st1) fun _ => true)).seq fun env2 st2 => .nx env2 (setLk st2 (lockOf ik vs st1) id)
    | none => .bad
  | .rais k, _, st => .exc k st
  | .pass, env, st => .nx env st
  | .nope, _, _ => .bad
  | .prm s, env, st => exe C φ φ2 s (env.map fun o => o.map rvOld) (st.map cellOld)
  | .spo o e, env, st => Out.ofRes (den C φ φ2 o env st) fun v st1 => if spoOk v = true then Out.ofRes (denL C φ φ2 e env st1) fun _ st2 => .nx (spoilEnv env) (spoilSt st2) else .bad
  | .knd w a b nm, env, st => Out.ofRes (den C φ φ2 (.kind a) env st) fun x st1 => if isStr nm x = true then Out.ofRes (den C φ φ2 (.kind b) env st1) fun y st2 => if isStr nm y = true then .nx (env.set w none) st2 else .rt (rvB false) st2 else .rt (rvB false) st1
  | .spl v i, env, st => match env[v]? with
    | some (some (.d .new (.tuple [_, .list xs]))) => if splOk v i xs = true then .nx ((spoilEnv env).set i none) (spoilSt st) else .bad
    | _ => .bad
def exes (C : Cfg) (φ φ2 : Nat → List RV → Store → Res RV) : SL → Env → Store → Out
  | .nil, env, st => .nx env st
  | .cons s r, env, st => (exe C φ φ2 s env st).seq fun env' st' => exes C φ φ2 r env' st'
end

structure Fn where
  np : Nat
  ns : Nat
  body : SL
/-- a value as it is told by a def that ends: its own lists are data from here on -/
def frz1 (n : Nat) (st : Store) : RV → Option RV
  | .d g x => some (.d g x)
  | .c j => if n ≤ j then match st[j]? with
      | some (.lst xs) => (datas? xs).map fun ds => .d (lstG (gnOf xs) ds) (.list ds)
      | _ => none
    else none
/-- a tuple that is told: n cells are the caller's -/
def thaw (n : Nat) (vs : List RV) (st : Store) : Res RV :=
  match vs.mapM (frz1 n st), (st.take n).mapM (mapCell id fun j => if j < n then some j else none) with
  | some ws, some st2 => match mkTup ws with
    | some v => .ok v st2
    | none => .bad
  | _, _ => .bad
def runFn (C : Cfg) (φ φ2 : Nat → List RV → Store → Res RV) (F : Fn) (args : List RV) (st : Store) : Res RV :=
  if args.length = F.np then
    match exes C φ φ2 F.body (args.map some ++ List.replicate (F.ns - F.np) none) st with
    | .rt v st' => .ok v st'
    | .rtt vs st' => thaw st.length vs st'
    | .nx _ st' => .ok rvN st'
    | .exc k st' => .exc k st'
    | .bad => .bad
  else .bad
abbrev Phi := Nat → List RV → Store → Res RV
def badPhi : Phi := fun _ _ _ => .bad
/-- the defs at a level, one lower, two lower -/
def lev (C : Cfg) (prog : List Fn) : Nat → Phi × Phi × Phi
  | 0 => (badPhi, badPhi, badPhi)
  | k + 1 => let p := lev C prog k
    (fun f args st => match prog[f]? with
      | some F => runFn C p.1 p.2.2 F args st
      | none => .bad, p.1, p.2.1)
def Ph (C : Cfg) (prog : List Fn) (k : Nat) : Phi := (lev C prog k).1
end DL

-- DBase
/-! DBase: how values of the small language lie in the hand layer's heap: RepD, RepV, CellOk, J; what a run may change: Stp. -/
namespace DL
open PySem L2

/-- sb: what stood when this generation began; ad: the cells' places; no: places of a caller's cells -/
structure Wd where
  sb : Hp
  ad : List Addr
  no : List Addr
def Wd.free (w : Wd) (a : Addr) : Prop := a ∉ w.ad ∧ a ∉ w.no
def okG (w : Wd) : Gn → Addr → Prop
  | .pur, _ => False
  | .new, a => w.sb a = none
  | .old, a => w.sb a ≠ none
  | .mix, _ => True
  | .scr, _ => True
/-- where a list of a datum flagged g may stand -/
def Wd.ok (w : Wd) (H : Hp) (g : Gn) (a : Addr) : Prop := okG w g a ∧ w.free a ∧ (g = .scr ∨ ∃ u, H a = some (.lst u))

mutual
inductive RepD (K : PySem.W.Frag) (H : Hp) (F P : Addr → Prop) : PyData → V → Prop
  | non : RepD K H F P .none .non
  | bl (b : Bool) : RepD K H F P (.bool b) (.bl b)
  | int (i : Int) : RepD K H F P (.int i) (.int i)
  | str (x : Str) (h : PyData.strOk x = true) : RepD K H F P (.str x) (.str x)
  | lst {a : Addr} {vs : List V} {xs : List PyData} (h : Rd H a (.lst vs)) (f : F a) (p : P a) (hl : vs.length ≤ sizeLine) (r : RepL K H F P xs vs) : RepD K H F P (.list xs) (.ref a)
  | tup {a : Addr} {vs : List V} {xs : List PyData} (h : Rd H a (.tup vs)) (f : F a) (hl : vs.length ≤ sizeLine) (r : RepL K H F P xs vs) : RepD K H F P (.tuple xs) (.ref a)
  | tupK {a : Addr} {vs : List V} {xs : List PyData} {o : Obj} {its : Array Value} {n : Nat} (h : K.lookup a = some o) (hc : o.cls = .type "tuple") (hd : o.data = .seq its n) (hl : its.size ≤ sizeLine) (hv : Vals vs its.toList) (r : RepL K H F P xs vs) :
      RepD K H F P (.tuple xs) (.ref a)
inductive RepL (K : PySem.W.Frag) (H : Hp) (F P : Addr → Prop) : List PyData → List V → Prop
  | nil : RepL K H F P [] []
  | cons {x : PyData} {v : V} {xs : List PyData} {vs : List V} : RepD K H F P x v → RepL K H F P xs vs → RepL K H F P (x :: xs) (v :: vs)
end

section
variable {K : PySem.W.Frag} {H H' : Hp} {F F' P P' : Addr → Prop}
mutual
theorem RepD.mono (hF : ∀ a, F a → F' a) (hP : ∀ a, F a → P a → P' a) (hL : ∀ a u, F a → Rd H a (.lst u) → Rd H' a (.lst u)) (hT : ∀ a u, F a → Rd H a (.tup u) → Rd H' a (.tup u)) :
    ∀ {x : PyData} {v : V}, RepD K H F P x v → RepD K H' F' P' x v
  | _, _, .non => .non
  | _, _, .bl b => .bl b
  | _, _, .int i => .int i
  | _, _, .str x h => .str x h
  | _, _, .lst h f p hl r => .lst (hL _ _ f h) (hF _ f) (hP _ f p) hl (RepL.mono hF hP hL hT r)
  | _, _, .tup h f hl r => .tup (hT _ _ f h) (hF _ f) hl (RepL.mono hF hP hL hT r)
  | _, _, .tupK h hc hd hl hv r => .tupK h hc hd hl hv (RepL.mono hF hP hL hT r)
theorem RepL.mono (hF : ∀ a, F a → F' a) (hP : ∀ a, F a → P a → P' a) (hL : ∀ a u, F a → Rd H a (.lst u) → Rd H' a (.lst u)) (hT : ∀ a u, F a → Rd H a (.tup u) → Rd H' a (.tup u)) :
    ∀ {xs : List PyData} {vs : List V}, RepL K H F P xs vs → RepL K H' F' P' xs vs
  | _, _, .nil => .nil
  | _, _, .cons h t => .cons (RepD.mono hF hP hL hT h) (RepL.mono hF hP hL hT t)
end
mutual
/-- where there is no list, nothing is asked of lists -/
theorem RepD.anyP {Pq : Addr → Prop} : ∀ {x : PyData} {v : V}, noL x = true → RepD K H F P x v → RepD K H F Pq x v
  | _, _, _, .non => .non
  | _, _, _, .bl b => .bl b
  | _, _, _, .int i => .int i
  | _, _, _, .str x h => .str x h
  | _, _, e, .lst _ _ _ _ _ => by simp [noL] at e
  | _, _, e, .tup h f hl r => .tup h f hl (RepL.anyP (by simpa [noL] using e) r)
  | _, _, e, .tupK h hc hd hl hv r => .tupK h hc hd hl hv (RepL.anyP (by simpa [noL] using e) r)
theorem RepL.anyP {Pq : Addr → Prop} : ∀ {xs : List PyData} {vs : List V}, noLs xs = true → RepL K H F P xs vs → RepL K H F Pq xs vs
  | _, _, _, .nil => .nil
  | _, _, e, .cons h t => by
    simp only [noLs, Bool.and_eq_true] at e
    exact .cons (RepD.anyP e.1 h) (RepL.anyP e.2 t)
end
theorem RepL.length : ∀ {xs : List PyData} {vs : List V}, RepL K H F P xs vs → xs.length = vs.length
  | _, _, .nil => rfl
  | _, _, .cons _ t => by rw [List.length_cons, List.length_cons, RepL.length t]
theorem RepL.get : ∀ {xs : List PyData} {vs : List V} {i : Nat} {x : PyData}, RepL K H F P xs vs → xs[i]? = some x → ∃ v, vs[i]? = some v ∧ RepD K H F P x v
  | _, _, _, _, .nil, e => by simp at e
  | _, _, 0, _, .cons h _, e => by
    simp only [List.getElem?_cons_zero, Option.some.injEq] at e
    subst e
    exact ⟨_, rfl, h⟩
  | _, _, i + 1, _, .cons _ t, e => by
    simp only [List.getElem?_cons_succ] at e
    obtain ⟨v, h1, h2⟩ := RepL.get t e
    exact ⟨v, by simpa using h1, h2⟩
theorem RepL.append : ∀ {xs ys : List PyData} {vs ws : List V}, RepL K H F P xs vs → RepL K H F P ys ws → RepL K H F P (xs ++ ys) (vs ++ ws)
  | _, _, _, _, .nil, h => h
  | _, _, _, _, .cons a t, h => .cons a (RepL.append t h)
theorem RepL.take : ∀ {xs : List PyData} {vs : List V} (n : Nat), RepL K H F P xs vs → RepL K H F P (xs.take n) (vs.take n)
  | _, _, 0, _ => .nil
  | _, _, _ + 1, .nil => .nil
  | _, _, n + 1, .cons a t => .cons a (RepL.take n t)
theorem RepL.drop : ∀ {xs : List PyData} {vs : List V} (n : Nat), RepL K H F P xs vs → RepL K H F P (xs.drop n) (vs.drop n)
  | _, _, 0, h => h
  | _, _, _ + 1, .nil => .nil
  | _, _, n + 1, .cons _ t => RepL.drop n t
theorem RepL.repl {xs : List PyData} {vs : List V} (h : RepL K H F P xs vs) : ∀ k : Nat, RepL K H F P (List.replicate k xs).flatten (List.replicate k vs).flatten
  | 0 => .nil
  | k + 1 => by
    simp only [List.replicate_succ, List.flatten_cons]
    exact RepL.append h (RepL.repl h k)
mutual
theorem RepD.dp : ∀ {x : PyData} {v : V}, RepD K H F P x v → Dp K H v x
  | _, _, .non => .non
  | _, _, .bl b => .bl b
  | _, _, .int i => .int i
  | _, _, .str x _ => .str x
  | _, _, .lst h _ _ _ r => .lst (.inl h) (RepL.dp r)
  | _, _, .tup h _ _ r => .tup (.inl h) (RepL.dp r)
  | _, _, .tupK h hc hd hl hv r => .tup (.inr ⟨_, _, _, h, hc, hd, hl, hv⟩) (RepL.dp r)
theorem RepL.dp : ∀ {xs : List PyData} {vs : List V}, RepL K H F P xs vs → DpAll K H vs xs
  | _, _, .nil => .nil
  | _, _, .cons h t => .cons (RepD.dp h) (RepL.dp t)
end
mutual
theorem RepD.lay : ∀ {x : PyData} {v : V}, RepD K H F P x v → PyData.canLay0 x = true
  | _, _, .non => by simp [PyData.canLay0]
  | _, _, .bl b => by simp [PyData.canLay0]
  | _, _, .int i => by simp [PyData.canLay0]
  | _, _, .str x h => by simp [PyData.canLay0, h]
  | _, _, .lst _ _ _ _ r => by simpa [PyData.canLay0] using RepL.lay r
  | _, _, .tup _ _ _ r => by simpa [PyData.canLay0] using RepL.lay r
  | _, _, .tupK _ _ _ _ _ r => by simpa [PyData.canLay0] using RepL.lay r
theorem RepL.lay : ∀ {xs : List PyData} {vs : List V}, RepL K H F P xs vs → PyData.canLayAll0 xs = true
  | _, _, .nil => by simp [PyData.canLayAll0]
  | _, _, .cons h t => by
    simp only [PyData.canLayAll0, Bool.and_eq_true]
    exact ⟨RepD.lay h, RepL.lay t⟩
end
/-- the list at a -/
theorem RepD.list {xs : List PyData} {v : V} (h : RepD K H F P (.list xs) v) : ∃ a vs, v = .ref a ∧ Rd H a (.lst vs) ∧ F a ∧ P a ∧ vs.length ≤ sizeLine ∧ RepL K H F P xs vs := by
  cases h with
  | lst h f p hl r => exact ⟨_, _, rfl, h, f, p, hl, r⟩
theorem RepD.tuple {xs : List PyData} {v : V} (h : RepD K H F P (.tuple xs) v) : ∃ a vs, v = .ref a ∧ SqT K H a vs ∧ vs.length ≤ sizeLine ∧ RepL K H F P xs vs := by
  cases h with
  | tup h f hl r => exact ⟨_, _, rfl, .inl h, hl, r⟩
  | @tupK a vs xs o its n h hc hd hl hv r =>
    refine ⟨_, _, rfl, .inr ⟨_, _, _, h, hc, hd, hl, hv⟩, ?_, r⟩
    have e := hv.length
    have e2 : its.toList.length = its.size := by simp
    omega
theorem RepD.intV {i : Int} {v : V} (h : RepD K H F P (.int i) v) : v = .int i := by cases h; rfl
theorem RepD.blV {b : Bool} {v : V} (h : RepD K H F P (.bool b) v) : v = .bl b := by cases h; rfl
theorem RepD.nonV {v : V} (h : RepD K H F P .none v) : v = .non := by cases h; rfl
theorem RepD.strV {s : Str} {v : V} (h : RepD K H F P (.str s) v) : v = .str s ∧ PyData.strOk s = true := by cases h with | str _ h => exact ⟨rfl, h⟩
end

/-! ### what a run leaves -/
/-- a thing stands there that is no table of code objects -/
def NT (H : Hp) (a : Addr) : Prop := ∃ o, H a = some o ∧ ∀ ps, o ≠ .tbl ps
theorem NT.of_none {H : Hp} {a : Addr} (h : H a = none) : ¬ NT H a := fun ⟨o, e, _⟩ => by rw [h] at e; cases e
/-- all but the cells (and the tables of code objects) stays; new cells are new -/
structure Stp (w w' : Wd) (H H' : Hp) : Prop where
  sb : w'.sb = w.sb
  no : ∃ more, w'.no = more ++ w.no ∧ ∀ a ∈ more, ¬ NT H a
  ad : ∃ more, w'.ad = w.ad ++ more ∧ ∀ a ∈ more, ¬ NT H a
  fr : ∀ b o, H b = some o → b ∉ w.ad → (∀ ps, o ≠ .tbl ps) → H' b = some o
  dom : ∀ b, NT H b → NT H' b
  frz : ∀ b o u, H b = some (.frz o u) → H' b = some (.frz o u)
theorem Stp.refl (w : Wd) (H : Hp) : Stp w w H H := ⟨rfl, ⟨[], by simp, by simp⟩, ⟨[], by simp, by simp⟩, fun _ _ e _ _ => e, fun _ e => e, fun _ _ _ e => e⟩
theorem Stp.trans {w w1 w2 : Wd} {H H1 H2 : Hp} (a : Stp w w1 H H1) (b : Stp w1 w2 H1 H2) : Stp w w2 H H2 where
  sb := b.sb.trans a.sb
  no := by
    obtain ⟨m1, e1, h1⟩ := a.no
    obtain ⟨m2, e2, h2⟩ := b.no
    refine ⟨m2 ++ m1, by rw [e2, e1, List.append_assoc], fun x hx => ?_⟩
    rcases List.mem_append.mp hx with hx | hx
    · exact fun z => h2 x hx (a.dom x z)
    · exact h1 x hx
  ad := by
    obtain ⟨m1, e1, h1⟩ := a.ad
    obtain ⟨m2, e2, h2⟩ := b.ad
    refine ⟨m1 ++ m2, by rw [e2, e1, List.append_assoc], fun x hx => ?_⟩
    rcases List.mem_append.mp hx with hx | hx
    · exact h1 x hx
    · exact fun z => h2 x hx (a.dom x z)
  fr := fun x o e n t => by
    refine b.fr x o (a.fr x o e n t) ?_ t
    obtain ⟨m1, e1, h1⟩ := a.ad
    rw [e1, List.mem_append]
    rintro (z | z)
    · exact n z
    · exact h1 x z ⟨o, e, t⟩
  dom := fun x e => b.dom x (a.dom x e)
  frz := fun x o u e => b.frz x o u (a.frz x o u e)

section
variable {K : PySem.W.Frag} {w w' : Wd} {H H' : Hp}
theorem Stp.free (s : Stp w w' H H') {a : Addr} (f : w.free a) (h : NT H a) : w'.free a := by
  obtain ⟨m, e, hm⟩ := s.ad
  refine ⟨?_, fun z => ?_⟩
  rotate_left
  · obtain ⟨m2, e2, h2⟩ := s.no
    rw [e2] at z
    rcases List.mem_append.mp z with z | z
    · exact h2 a z h
    · exact f.2 z
  rw [e, List.mem_append]
  rintro (z | z)
  · exact f.1 z
  · exact hm a z h
theorem Stp.rd (s : Stp w w' H H') {a : Addr} {u : HO} (f : w.free a) (ht : ∀ ps, u ≠ .tbl ps) (h : Rd H a u) : Rd H' a u := by
  rcases h with h | ⟨o, h⟩
  · exact .inl (s.fr _ _ h f.1 ht)
  · exact .inr ⟨o, s.fr _ _ h f.1 fun ps z => by cases z⟩
theorem Rd.some {a : Addr} {u : HO} (h : Rd H a u) (ht : ∀ ps, u ≠ .tbl ps) : NT H a := by
  rcases h with h | ⟨o, h⟩
  · exact ⟨_, h, ht⟩
  · exact ⟨_, h, fun ps z => by cases z⟩
end

def Rep (K : PySem.W.Frag) (w : Wd) (H : Hp) (g : Gn) (x : PyData) (v : V) : Prop := RepD K H w.free (w.ok H g) x v
def RepV (K : PySem.W.Frag) (w : Wd) (H : Hp) : RV → V → Prop
  | .d g x, v => Rep K w H g x v
  | .c n, v => ∃ a, w.ad[n]? = some a ∧ v = .ref a
abbrev RepVs (K : PySem.W.Frag) (w : Wd) (H : Hp) : List RV → List V → Prop := Paired (RepV K w H)

section
variable {K : PySem.W.Frag} {w w' : Wd} {H H' : Hp}
mutual
theorem RepD.stp (s : Stp w w' H H') {g : Gn} : ∀ {x : PyData} {v : V}, RepD K H w.free (w.ok H g) x v → RepD K H' w'.free (w'.ok H' g) x v
  | _, _, .non => .non
  | _, _, .bl b => .bl b
  | _, _, .int i => .int i
  | _, _, .str x h => .str x h
  | _, _, .lst h f p hl r => by
    have q := Rd.some h (fun ps z => by cases z)
    have f' := s.free f q
    refine .lst (s.rd f (fun ps z => by cases z) h) f' ⟨?_, f', p.2.2.imp id fun ⟨u, e⟩ => ⟨u, s.fr _ _ e f.1 fun ps z => by cases z⟩⟩ hl (RepL.stp s r)
    have p1 := p.1
    cases g with
    | pur => exact p1
    | mix => trivial
    | scr => trivial
    | new => show w'.sb _ = none; rw [s.sb]; exact p1
    | old => show w'.sb _ ≠ none; rw [s.sb]; exact p1
  | _, _, .tup h f hl r => .tup (s.rd f (fun ps z => by cases z) h) (s.free f (Rd.some h (fun ps z => by cases z))) hl (RepL.stp s r)
  | _, _, .tupK h hc hd hl hv r => .tupK h hc hd hl hv (RepL.stp s r)
theorem RepL.stp (s : Stp w w' H H') {g : Gn} : ∀ {xs : List PyData} {vs : List V}, RepL K H w.free (w.ok H g) xs vs → RepL K H' w'.free (w'.ok H' g) xs vs
  | _, _, .nil => .nil
  | _, _, .cons h t => .cons (RepD.stp s h) (RepL.stp s t)
end
theorem Rep.stp (s : Stp w w' H H') {g : Gn} {x : PyData} {v : V} (h : Rep K w H g x v) : Rep K w' H' g x v := RepD.stp s h
theorem RepV.stp (s : Stp w w' H H') : ∀ {rv : RV} {v : V}, RepV K w H rv v → RepV K w' H' rv v
  | .d g x, v, h => Rep.stp s h
  | .c n, v, ⟨a, e, h⟩ => by
    obtain ⟨m, e1, _⟩ := s.ad
    refine ⟨a, ?_, h⟩
    rw [e1, List.getElem?_append_left (List.getElem?_eq_some_iff.mp e).1]
    exact e
theorem RepVs.stp (s : Stp w w' H H') {rvs : List RV} {vs : List V} (h : RepVs K w H rvs vs) : RepVs K w' H' rvs vs := h.mono fun _ _ r => r.stp s

/-- a weaker flag -/
def Gn.leq : Gn → Gn → Bool
  | .pur, _ => true
  | _, .scr => true
  | .scr, _ => false
  | _, .mix => true
  | a, b => decide (a = b)
theorem okG.leq {g g' : Gn} (h : g.leq g' = true) {a : Addr} (q : okG w g a) : okG w g' a := by
  cases g <;> cases g' <;> simp_all [Gn.leq, okG]
theorem okLeq {g g' : Gn} (h : g.leq g' = true) {a : Addr} (q : w.ok H g a) : w.ok H g' a := by
  refine ⟨q.1.leq h, q.2.1, ?_⟩
  rcases q.2.2 with e | e
  · subst e
    left
    cases g' <;> simp_all [Gn.leq]
  · exact .inr e
theorem Rep.weak {g g' : Gn} (h : g.leq g' = true) {x : PyData} {v : V} (r : Rep K w H g x v) : Rep K w H g' x v :=
  RepD.mono (fun _ f => f) (fun _ _ p => okLeq h p) (fun _ _ _ h => h) (fun _ _ _ h => h) r
theorem RepL.weak {g g' : Gn} (h : g.leq g' = true) {xs : List PyData} {vs : List V} (r : RepL K H w.free (w.ok H g) xs vs) : RepL K H w.free (w.ok H g') xs vs :=
  RepL.mono (fun _ f => f) (fun _ _ p => okLeq h p) (fun _ _ _ h => h) (fun _ _ _ h => h) r
theorem Rep.noLst {g g' : Gn} {x : PyData} {v : V} (e : noL x = true) (r : Rep K w H g x v) : Rep K w H g' x v := RepD.anyP e r
theorem Rep.el {g : Gn} {x : PyData} {v : V} (r : Rep K w H g x v) : RepV K w H (el g x) v := by
  unfold DL.el
  show Rep K w H (if noL x = true then .pur else g) x v
  split
  · exact Rep.noLst (by assumption) r
  · exact r
theorem Gn.leq_join_l (g g' : Gn) : g.leq (g.join g') = true := by cases g <;> cases g' <;> rfl
theorem Gn.leq_join_r (g g' : Gn) : g'.leq (g.join g') = true := by cases g <;> cases g' <;> rfl
theorem Gn.leq_newL (g : Gn) : g.leq g.newL = true := by cases g <;> rfl

theorem datas_rep : ∀ {rvs : List RV} {ds : List PyData} {vs : List V}, datas? rvs = some ds → RepVs K w H rvs vs → RepL K H w.free (w.ok H (gnOf rvs)) ds vs
  | [], ds, vs, e, r => by
    cases r
    simp only [datas?, Option.some.injEq] at e
    subst e
    exact .nil
  | .d g x :: r, ds, _, e, .cons h t => by
    simp only [datas?] at e
    obtain ⟨ds', e1, rfl⟩ := Option.map_eq_some_iff.mp e
    have ih := datas_rep e1 t
    exact .cons (Rep.weak (Gn.leq_join_l g (gnOf r)) h) (RepL.weak (Gn.leq_join_r g (gnOf r)) ih)
  | .c n :: r, ds, _, e, _ => by simp [datas?] at e
theorem items_rep {g : Gn} : ∀ {xs : List PyData} {vs : List V}, RepL K H w.free (w.ok H g) xs vs → RepVs K w H (xs.map (DL.el g)) vs
  | _, _, .nil => .nil
  | _, _, .cons h t => .cons (Rep.el h) (items_rep t)
theorem okG_new {g : Gn} {a : Addr} (h : w.sb a = none) : okG w g.newL a := by
  cases g <;> first | exact h | trivial
/-- a new list -/
theorem rep_newList {g : Gn} {xs : List PyData} {vs : List V} {a : Addr} (h : H a = some (.lst vs)) (f : w.free a) (n : w.sb a = none) (hl : vs.length ≤ sizeLine) (r : RepL K H w.free (w.ok H g) xs vs) : Rep K w H (lstG g xs) (.list xs) (.ref a) := by
  unfold lstG
  split
  · rename_i e
    exact .lst (.inl h) f ⟨n, f, .inr ⟨_, h⟩⟩ hl (RepL.anyP e r)
  · exact .lst (.inl h) f ⟨okG_new n, f, .inr ⟨_, h⟩⟩ hl (RepL.weak (Gn.leq_newL g) r)
end
end DL

-- DCell
/-! DCell: the cells (CellOk), the whole state (J), the slots (EnvR); new things, changed cells. -/
namespace DL
open PySem L2

/-- entries of a dict as they lie: key, where it stands, value -/
abbrev Ent := NestedKey × Addr × V
def dicAt (P : Program) (w : World) (a : Addr) (es : List Ent) (h : Heap) : Prop :=
  ∃ us : List (NestedKey × Addr × Value), Paired (fun (e : Ent) (u : NestedKey × Addr × Value) => e.1 = u.1 ∧ e.2.1 = u.2.1 ∧ RelV e.2.2 u.2.2) es us ∧
    ∃ o est ep, h.get? a = some o ∧ o.ExactDict ∧ o.data = .dict est ep ∧ est.toList = us.map (entryOfKey (nestedKind P w)) ∧ (us.map (·.1)).Nodup
def dicO (P : Program) (w : World) (a : Addr) (es : List Ent) : HO := .ext (dicAt P w a es)

section
variable (P : Program) (W : World) (K : PySem.W.Frag)
/-- an entry is the pair -/
def EntR (w : Wd) (H : Hp) (p : PyData × RV) (e : Ent) : Prop :=
  toKey p.1 = some e.1 ∧ keyOk p.1 = true ∧ Rep K w H .pur p.1 (.ref e.2.1) ∧ RepV K w H p.2 e.2.2
/-- what stands at a cell's place -/
def CellHO (a : Addr) (u : HO) : Prop := (∃ vs, u = .lst vs) ∨ (∃ es, u = dicO P W a es) ∨ (∃ vs, u = .dK vs) ∨ (∃ o u', u = .frz o u') ∨ ∃ C dx fs, u = .ins C dx fs
/-- the one class of the text that has objects -/
def clsNm : Str := "Plan"
/-- a dict's label, locked or not -/
def DicHO (H : Hp) (a : Addr) (lk : Bool) (es : List Ent) : Prop := match lk with
  | false => H a = some (dicO P W a es)
  | true => ∃ o, H a = some (.frz o (dicO P W a es))
def CellOk (w : Wd) (H : Hp) (a : Addr) : Cell → Prop
  | .lst xs => ∃ vs, H a = some (.lst vs) ∧ RepVs K w H xs vs ∧ vs.length ≤ sizeLine
  | .dic lk kvs => ∃ es, DicHO P W H a lk es ∧ (a == sysModules) = false ∧ Paired (EntR K w H) kvs es ∧ es.length ≤ sizeLine
  | .sd kvs => ∃ vs : List (Key × V), H a = some (.dK vs) ∧ Paired (fun (p : Str × RV) (q : Key × V) => q.1 = Sum.inr p.1 ∧ RepV K w H p.2 q.2) kvs vs
  | .obj k fs => k = 0 ∧ ∃ C dx vs, PySem.W.nsIn K mainGlobals clsNm = some (some (.ref C)) ∧ H a = some (.ins C dx vs) ∧ Paired (fun (p : Str × RV) (q : Str × V) => p.1 = q.1 ∧ RepV K w H p.2 q.2) fs vs
  | .gone => ∃ u, H a = some u ∧ CellHO P W a u

structure J (T : List (Addr × Str)) (w : Wd) (st : Store) (H : Hp) : Prop where
  len : w.ad.length = st.length
  nd : w.ad.Nodup
  apart : ∀ a ∈ w.ad, a ∉ w.no
  sb : ∀ b o, w.sb b = some o → H b = some o
  sbf : ∀ a ∈ w.ad, w.sb a = none
  sbt : ∀ b ps, H b = some (.tbl ps) → w.sb b = none
  nos : ∀ a ∈ w.no, NT H a
  cell : ∀ (n : Nat) (a : Addr) (c : Cell), w.ad[n]? = some a → st[n]? = some c → CellOk P W K w H a c
  tabs : LamX.Tabs T H

structure EnvR (w : Wd) (H : Hp) (env : Env) (σ : St) : Prop where
  len : env.length = σ.length
  at_ : ∀ (i : Nat) (rv : RV), env[i]? = some (some rv) → ∃ v, σ[i]? = some (some v) ∧ RepV K w H rv v
end

section
variable {P : Program} {W : World} {K : PySem.W.Frag} {T : List (Addr × Str)} {w w' : Wd} {st : Store} {H H' : Hp}

theorem EntR.stp (s : Stp w w' H H') {p : PyData × RV} {e : Ent} (h : EntR K w H p e) : EntR K w' H' p e := ⟨h.1, h.2.1, h.2.2.1.stp s, h.2.2.2.stp s⟩
theorem DicHO.at_ {a : Addr} {lk : Bool} {es : List Ent} (e : H' a = H a) (h : DicHO P W H a lk es) : DicHO P W H' a lk es := by
  cases lk with
  | false => exact e.trans h
  | true => obtain ⟨o, h⟩ := h; exact ⟨o, e.trans h⟩
/-- a cell that is left alone -/
theorem CellOk.stp (s : Stp w w' H H') {a : Addr} {c : Cell} (e : H' a = H a) (h : CellOk P W K w H a c) : CellOk P W K w' H' a c := by
  cases c with
  | lst xs => obtain ⟨vs, h1, h2, h3⟩ := h; exact ⟨vs, e.trans h1, h2.stp s, h3⟩
  | dic lk kvs => obtain ⟨es, h1, h0, h2, h3⟩ := h; exact ⟨es, h1.at_ e, h0, h2.mono fun _ _ r => r.stp s, h3⟩
  | sd kvs => obtain ⟨vs, h1, h2⟩ := h; exact ⟨vs, e.trans h1, h2.mono fun _ _ r => ⟨r.1, r.2.stp s⟩⟩
  | obj k fs => obtain ⟨h0, C, dx, vs, h1, h2, h3⟩ := h; exact ⟨h0, C, dx, vs, h1, e.trans h2, h3.mono fun _ _ r => ⟨r.1, r.2.stp s⟩⟩
  | gone => obtain ⟨u, h1, h2⟩ := h; exact ⟨u, e.trans h1, h2⟩
theorem CellOk.ho {a : Addr} {c : Cell} (h : CellOk P W K w H a c) : ∃ u, H a = some u ∧ CellHO P W a u := by
  cases c with
  | lst xs => obtain ⟨vs, h1, _⟩ := h; exact ⟨_, h1, .inl ⟨_, rfl⟩⟩
  | dic lk kvs =>
    obtain ⟨es, h1, _⟩ := h
    cases lk with
    | false => exact ⟨_, h1, .inr (.inl ⟨_, rfl⟩)⟩
    | true => obtain ⟨o, h1⟩ := h1; exact ⟨_, h1, .inr (.inr (.inr (.inl ⟨_, _, rfl⟩)))⟩
  | sd kvs => obtain ⟨vs, h1, _⟩ := h; exact ⟨_, h1, .inr (.inr (.inl ⟨_, rfl⟩))⟩
  | obj k fs => obtain ⟨_, C, dx, vs, _, h2, _⟩ := h; exact ⟨_, h2, .inr (.inr (.inr (.inr ⟨_, _, _, rfl⟩)))⟩
  | gone => exact h
theorem CellHO.ntbl {a : Addr} {u : HO} (h : CellHO P W a u) (ps : Array Value) : u ≠ .tbl ps := by
  rcases h with ⟨_, e⟩ | ⟨_, e⟩ | ⟨_, e⟩ | ⟨_, _, e⟩ | ⟨_, _, _, e⟩ <;> rw [e]
  · simp
  · unfold dicO; simp
  · simp
  · simp
  · simp
theorem codeO_ne_dic {a c : Addr} {q : Str} {es : List Ent} (hc : c = a) : LamX.CodeO c q ≠ dicO P W a es := by
  subst hc
  intro z
  unfold LamX.CodeO dicO at z
  have e := HO.ext.inj z
  let o : Obj := { cls := .none, data := .fields #[.none, .str q 0] }
  let h : Heap := { (default : Heap) with objs := Array.replicate (c + 1) o }
  have hg : h.get? c = some o := by
    unfold Heap.get?
    have e1 : h.objs[c]? = some o := by simp [h]
    rw [e1]
  have q1 : dicAt P W c es h := by
    rw [← congrFun e h]
    exact ⟨o, _, _, hg, rfl, rfl⟩
  obtain ⟨us, _, o', est, ep, h1, _, h3, _⟩ := q1
  rw [hg] at h1
  cases h1
  cases h3
theorem CellHO.ncode {a c : Addr} {q : Str} {u : HO} (h : CellHO P W a u) (hc : c = a) : u ≠ LamX.CodeO c q := by
  rcases h with ⟨_, e⟩ | ⟨_, e⟩ | ⟨_, e⟩ | ⟨_, _, e⟩ | ⟨_, _, _, e⟩ <;> rw [e]
  · unfold LamX.CodeO; simp
  · exact fun z => codeO_ne_dic hc z.symm
  · unfold LamX.CodeO; simp
  · unfold LamX.CodeO; simp
  · unfold LamX.CodeO; simp
theorem CellOk.some {a : Addr} {c : Cell} (h : CellOk P W K w H a c) : H a ≠ none := by
  obtain ⟨u, e, _⟩ := h.ho
  rw [e]; simp
theorem J.adHO (j : J P W K T w st H) {a : Addr} (ha : a ∈ w.ad) : ∃ u, H a = some u ∧ CellHO P W a u := by
  obtain ⟨n, hn, e⟩ := List.mem_iff_getElem.mp ha
  have hl : n < st.length := by rw [← j.len]; exact hn
  exact (j.cell n a st[n] (by rw [List.getElem?_eq_getElem hn, e]) (by rw [List.getElem?_eq_getElem hl])).ho
theorem J.adNT (j : J P W K T w st H) {a : Addr} (ha : a ∈ w.ad) : NT H a := by
  obtain ⟨u, e, h⟩ := j.adHO ha
  exact ⟨u, e, h.ntbl⟩
theorem J.adSome (j : J P W K T w st H) {a : Addr} (ha : a ∈ w.ad) : H a ≠ none ∧ ∀ ps, H a ≠ some (.tbl ps) := by
  obtain ⟨u, e, h⟩ := j.adHO ha
  exact ⟨by rw [e]; simp, fun ps z => h.ntbl ps (by rw [e] at z; exact Option.some.inj z)⟩
theorem J.at_ (j : J P W K T w st H) {n : Nat} {c : Cell} (h : st[n]? = some c) : ∃ a, w.ad[n]? = some a ∧ CellOk P W K w H a c := by
  obtain ⟨hn, _⟩ := List.getElem?_eq_some_iff.mp h
  have hl : n < w.ad.length := by rw [j.len]; exact hn
  exact ⟨w.ad[n], by rw [List.getElem?_eq_getElem hl], j.cell n _ c (by rw [List.getElem?_eq_getElem hl]) h⟩

/-- a new object that is no cell -/
theorem Stp.fresh {p : Addr} {o : HO} (hp : H p = none) : Stp w w H (upd H p o) where
  sb := rfl
  no := ⟨[], rfl, by simp⟩
  ad := ⟨[], by simp, by simp⟩
  fr := fun b u e _ _ => by rw [upd_ne (ne_of_none e hp)]; exact e
  dom := fun b ⟨u, e, t⟩ => ⟨u, by rw [upd_ne (ne_of_none e hp)]; exact e, t⟩
  frz := fun b o u e => by rw [upd_ne (ne_of_none e hp)]; exact e
theorem Tabs.fresh {p : Addr} {o : HO} (hp : H p = none) (t : LamX.Tabs T H) : LamX.Tabs T (upd H p o) := t.ext fun b u e => by rw [upd_ne (ne_of_none e hp)]; exact e
theorem J.fresh (j : J P W K T w st H) {p : Addr} {o : HO} (hp : H p = none) (ho : ∀ ps, o ≠ .tbl ps) : J P W K T w st (upd H p o) where
  len := j.len
  nd := j.nd
  apart := j.apart
  sb := fun b u e => by rw [upd_ne (ne_of_none (j.sb b u e) hp)]; exact j.sb b u e
  sbf := j.sbf
  sbt := fun b ps e => by
    by_cases z : b = p
    · rw [z, upd_same] at e
      exact absurd (Option.some.inj e) (ho ps)
    · rw [upd_ne z] at e
      exact j.sbt b ps e
  nos := fun a ha => (Stp.fresh (w := w) (o := o) hp).dom a (j.nos a ha)
  cell := fun n a c h1 h2 => by
    have q := j.cell n a c h1 h2
    have ne : a ≠ p := fun z => by subst z; exact q.some hp
    exact q.stp (Stp.fresh hp) (upd_ne ne)
  tabs := Tabs.fresh hp j.tabs
theorem J.freshP (j : J P W K T w st H) {p : Addr} (hp : H p = none) : w.free p ∧ w.sb p = none := by
  refine ⟨⟨fun z => (j.adSome z).1 hp, fun z => NT.of_none hp (j.nos p z)⟩, ?_⟩
  cases e : w.sb p with
  | none => rfl
  | some o => rw [j.sb p o e] at hp; cases hp

/-- a new cell at p -/
def Wd.add (w : Wd) (p : Addr) : Wd := { w with ad := w.ad ++ [p] }
theorem Stp.add {p : Addr} {o : HO} (hp : H p = none) : Stp w (w.add p) H (upd H p o) where
  sb := rfl
  no := ⟨[], rfl, by simp⟩
  ad := ⟨[p], rfl, fun a ha => by simp only [List.mem_singleton] at ha; rw [ha]; exact NT.of_none hp⟩
  fr := fun b u e _ _ => by rw [upd_ne (ne_of_none e hp)]; exact e
  dom := fun b ⟨u, e, t⟩ => ⟨u, by rw [upd_ne (ne_of_none e hp)]; exact e, t⟩
  frz := fun b o u e => by rw [upd_ne (ne_of_none e hp)]; exact e
theorem J.add (j : J P W K T w st H) {p : Addr} {o : HO} {c : Cell} (hp : H p = none) (ho : ∀ ps, o ≠ .tbl ps) (hc : CellOk P W K (w.add p) (upd H p o) p c) : J P W K T (w.add p) (st ++ [c]) (upd H p o) where
  len := by simp [Wd.add, j.len]
  nd := by
    refine List.nodup_append.mpr ⟨j.nd, by simp, fun a ha b hb => ?_⟩
    simp only [List.mem_singleton] at hb
    subst hb
    rintro rfl
    exact (j.adSome ha).1 hp
  apart := fun a ha => by
    rcases List.mem_append.mp ha with h | h
    · exact j.apart a h
    · simp only [List.mem_singleton] at h
      subst h
      exact (j.freshP hp).1.2
  sb := fun b u e => by rw [upd_ne (ne_of_none (j.sb b u e) hp)]; exact j.sb b u e
  sbf := fun a ha => by
    rcases List.mem_append.mp ha with h | h
    · exact j.sbf a h
    · simp only [List.mem_singleton] at h
      subst h
      exact (j.freshP hp).2
  sbt := fun b ps e => by
    by_cases z : b = p
    · rw [z, upd_same] at e
      exact absurd (Option.some.inj e) (ho ps)
    · rw [upd_ne z] at e
      exact j.sbt b ps e
  nos := fun a ha => (Stp.add (w := w) (o := o) hp).dom a (j.nos a ha)
  cell := fun n a d h1 h2 => by
    by_cases hn : n < w.ad.length
    · have h1' : w.ad[n]? = some a := by
        have : (w.ad ++ [p])[n]? = some a := h1
        rwa [List.getElem?_append_left hn] at this
      have h2' : st[n]? = some d := by rwa [List.getElem?_append_left (by rw [← j.len]; exact hn)] at h2
      have q := j.cell n a d h1' h2'
      have ne : a ≠ p := fun z => by subst z; exact q.some hp
      exact q.stp (Stp.add hp) (upd_ne ne)
    · have h1' : (w.ad ++ [p])[n]? = some a := h1
      rw [List.getElem?_append_right (by omega)] at h1'
      rw [List.getElem?_append_right (by rw [← j.len]; omega), ← j.len] at h2
      have e0 : n - w.ad.length = 0 := by
        cases e : n - w.ad.length with
        | zero => rfl
        | succ k => rw [e] at h1'; simp at h1'
      rw [e0] at h1' h2
      simp only [List.getElem?_cons_zero, Option.some.injEq] at h1' h2
      subst h1' h2
      exact hc
  tabs := Tabs.fresh hp j.tabs
theorem addAt (j : J P W K T w st H) (p : Addr) : (w.add p).ad[st.length]? = some p := by
  show (w.ad ++ [p])[st.length]? = some p
  rw [← j.len]
  simp

/-- the n-th cell is changed -/
theorem Stp.put {p : Addr} {o : HO} (hp : p ∈ w.ad) (hs : Mut (H p)) (ho : ∀ ps, o ≠ .tbl ps := by intro ps z; first | (cases z; done) | (unfold dicO at z; cases z)) : Stp w w H (upd H p o) where
  sb := rfl
  no := ⟨[], rfl, by simp⟩
  ad := ⟨[], by simp, by simp⟩
  fr := fun b u e nb _ => by rw [upd_ne (fun z => nb (by rw [z]; exact hp))]; exact e
  dom := fun b ⟨u, e, t⟩ => by
    by_cases z : b = p
    · exact ⟨o, by rw [z, upd_same], ho⟩
    · exact ⟨u, by rw [upd_ne z]; exact e, t⟩
  frz := fun b o u e => by
    have : b ≠ p := fun z => by rw [← z, e] at hs; exact hs
    rw [upd_ne this]; exact e
theorem J.put (j : J P W K T w st H) {n : Nat} {p : Addr} {o : HO} {c : Cell} (hn : w.ad[n]? = some p) (hs : Mut (H p)) (ho : ∀ ps, o ≠ .tbl ps) (hc : CellOk P W K w (upd H p o) p c) : J P W K T w (st.set n c) (upd H p o) := by
  have hp : p ∈ w.ad := List.mem_of_getElem? hn
  obtain ⟨_, ht⟩ := j.adSome hp
  refine ⟨by simp [j.len], j.nd, j.apart, fun b u e => ?_, j.sbf, fun b ps e => ?_, fun a ha => (Stp.put (w := w) (o := o) hp hs ho).dom a (j.nos a ha), fun m a d h1 h2 => ?_, fun q hq => ?_⟩
  · have : b ≠ p := fun z => by rw [z, j.sbf p hp] at e; cases e
    rw [upd_ne this]; exact j.sb b u e
  · by_cases z : b = p
    · rw [z, upd_same] at e
      exact absurd (Option.some.inj e) (ho ps)
    · rw [upd_ne z] at e
      exact j.sbt b ps e
  · by_cases hm : m = n
    · subst hm
      rw [hn] at h1; cases h1
      rw [List.getElem?_set_self (by rw [← j.len]; exact (List.getElem?_eq_some_iff.mp hn).1)] at h2
      cases h2
      exact hc
    · rw [List.getElem?_set_ne (Ne.symm hm)] at h2
      have q := j.cell m a d h1 h2
      have ne : a ≠ p := fun z => by
        subst z
        obtain ⟨i1, e1⟩ := List.getElem?_eq_some_iff.mp h1
        obtain ⟨i2, e2⟩ := List.getElem?_eq_some_iff.mp hn
        exact hm ((List.getElem_inj j.nd).mp (e1.trans e2.symm))
      exact q.stp (Stp.put hp hs ho) (upd_ne ne)
  · obtain ⟨ps, a1, a2, a3⟩ := j.tabs q hq
    have ne1 : q.1 ≠ p := fun z => ht ps (by rw [← z]; exact a1)
    refine ⟨ps, by rw [upd_ne ne1]; exact a1, a2, fun pos cv hcv => ?_⟩
    obtain ⟨c0, e1, e2⟩ := a3 pos cv hcv
    refine ⟨c0, e1, ?_⟩
    have ne2 : c0 ≠ p := fun z => by
      obtain ⟨u, hu, hh⟩ := j.adHO hp
      rw [z, hu] at e2
      exact hh.ncode rfl (Option.some.inj e2)
    rw [upd_ne ne2]; exact e2
end
end DL

-- DExp
/-! DExp: the readings that the small language gives (TE'), and the operators by values. -/
namespace DL
open PySem L2

/-- the dict that an exception of that number has: none but for the last -/
def Dx (k : Nat) := { d : Option Addr // k < 6 → d = none }
section
variable (X : Cx) (T : List (Addr × Str)) (cls : Nat → Value) (Ex : XK)
abbrev JX (w : Wd) (st : Store) (H : Hp) : Prop := J X.prog X.w X.K T w st H
def OkG {α β : Type} (R : Wd → Hp → α → β → Prop) (w : Wd) (H : Hp) (r : Res α) (Q : β → Hp → Prop) : Prop :=
  match r with
  | .ok a st' => ∀ w' H' b, Stp w w' H H' → JX X T w' st' H' → R w' H' a b → Q b H'
  | .exc k st' => ∀ w' H' (d : Dx k), Stp w w' H H' → JX X T w' st' H' → Ex (cls k) d.1 H'
  | .bad => False
abbrev OkV (w : Wd) (H : Hp) (r : Res RV) (Q : VK) : Prop := OkG X T cls Ex (RepV X.K) w H r Q
abbrev OkL (w : Wd) (H : Hp) (r : Res (List RV)) (Q : List V → Hp → Prop) : Prop := OkG X T cls Ex (RepVs X.K) w H r Q
abbrev OkB (w : Wd) (H : Hp) (r : Res Bool) (Q : Bool → Hp → Prop) : Prop := OkG X T cls Ex (fun _ _ (a b : Bool) => a = b) w H r Q
abbrev OkO (w : Wd) (H : Hp) (r : Res (Option Int)) (Q : Option Int → Hp → Prop) : Prop := OkG X T cls Ex (fun _ _ (a b : Option Int) => a = b) w H r Q
end

section
variable {X : Cx} {T : List (Addr × Str)} {cls : Nat → Value} {Ex : XK} {w w' : Wd} {H H' : Hp} {K : PySem.W.Frag}
theorem EnvR.stp (s : Stp w w' H H') {env : Env} {σ : St} (h : EnvR K w H env σ) : EnvR K w' H' env σ := ⟨h.len, fun i rv e => let ⟨v, e1, r⟩ := h.at_ i rv e; ⟨v, e1, r.stp s⟩⟩
theorem OkG.imp {α β : Type} {R : Wd → Hp → α → β → Prop} {r : Res α} {Q Q' : β → Hp → Prop} (h : OkG X T cls Ex R w H r Q) (q : ∀ b H', Q b H' → Q' b H') : OkG X T cls Ex R w H r Q' := by
  cases r with
  | ok a st => exact fun w' H' b s j r => q _ _ (h w' H' b s j r)
  | exc k st => exact h
  | bad => exact h
theorem OkG.after {α β : Type} {R : Wd → Hp → α → β → Prop} {r : Res α} {Q : β → Hp → Prop} (s : Stp w w' H H') (h : OkG X T cls Ex R w H r Q) : OkG X T cls Ex R w' H' r Q := by
  cases r with
  | ok a st => exact fun w2 H2 b s2 j r => h w2 H2 b (s.trans s2) j r
  | exc k st => exact fun w2 H2 d s2 j => h w2 H2 d (s.trans s2) j
  | bad => exact h
theorem OkG.bind {α β γ δ : Type} {R : Wd → Hp → α → β → Prop} {R' : Wd → Hp → γ → δ → Prop} {r : Res α} {f : α → Store → Res γ} {Q : δ → Hp → Prop} (h : OkG X T cls Ex R' w H (r.bind f) Q) :
    OkG X T cls Ex R w H r fun b H1 => ∃ w1 st1 a, Stp w w1 H H1 ∧ JX X T w1 st1 H1 ∧ R w1 H1 a b ∧ OkG X T cls Ex R' w1 H1 (f a st1) Q := by
  cases r with
  | ok a st => exact fun w' H' b s j r => ⟨w', st, a, s, j, r, OkG.after s h⟩
  | exc k st => exact h
  | bad => exact h
/-- nothing happens: the value is there -/
theorem OkG.ret {α β : Type} {R : Wd → Hp → α → β → Prop} {a : α} {st : Store} {Q : β → Hp → Prop} {b : β} (h : OkG X T cls Ex R w H (.ok a st) Q) (j : JX X T w st H) (r : R w H a b) : Q b H := h w H b (Stp.refl w H) j r
theorem OkG.new {Q : VK} {g : Gn} {xs : List PyData} {vs : List V} {st : Store} (h : OkV X T cls Ex w H (.ok (.d (lstG g xs) (.list xs)) st) Q) (j : JX X T w st H) (hl : vs.length ≤ sizeLine) (r : RepL X.K H w.free (w.ok H g) xs vs) :
    ∀ p, H p = none → Q (.ref p) (upd H p (.lst vs)) := fun p hp => by
  have s : Stp w w H (upd H p (.lst vs)) := Stp.fresh hp
  obtain ⟨hf, hn⟩ := j.freshP hp
  exact h w _ _ s (j.fresh hp (fun ps z => by cases z)) (rep_newList (K := X.K) upd_same hf hn hl (RepL.stp s r))
theorem OkG.newTup {Q : VK} {g : Gn} {xs : List PyData} {vs : List V} {st : Store} (h : OkV X T cls Ex w H (.ok (el g (.tuple xs)) st) Q) (j : JX X T w st H) (hl : vs.length ≤ sizeLine) (r : RepL X.K H w.free (w.ok H g) xs vs) :
    ∀ p, H p = none → Q (.ref p) (upd H p (.tup vs)) := fun p hp => by
  have s : Stp w w H (upd H p (.tup vs)) := Stp.fresh hp
  obtain ⟨hf, _⟩ := j.freshP hp
  refine h w _ _ s (j.fresh hp (fun ps z => by cases z)) (Rep.el ?_)
  exact RepD.tup (.inl upd_same) hf hl (RepL.stp s r)
theorem repI (w : Wd) (H : Hp) (i : Int) : RepV K w H (rvI i) (.int i) := RepD.int i
theorem repB (w : Wd) (H : Hp) (b : Bool) : RepV K w H (rvB b) (.bl b) := RepD.bl b
theorem repN (w : Wd) (H : Hp) : RepV K w H rvN .non := RepD.non
end

section
variable (X : Cx) (T : List (Addr × Str)) (cls : Nat → Value) (Ex : XK) (C : Cfg) (φ φ2 : Phi)
def TEx (e : E) : TE := fun σ H Q => ∃ w env st, JX X T w st H ∧ EnvR X.K w H env σ ∧ OkV X T cls Ex w H (den C φ φ2 e env st) Q
def TAx (es : EL) : TA := fun σ H Q => ∃ w env st, JX X T w st H ∧ EnvR X.K w H env σ ∧ OkL X T cls Ex w H (denL C φ φ2 es env st) Q
def TTx (e : E) : TT := fun σ H Q => ∃ w env st, JX X T w st H ∧ EnvR X.K w H env σ ∧ OkB X T cls Ex w H (test C φ φ2 e env st) Q
/-- an operation by values -/
def rOp (f : Store → RV → RV → Option RV) : R2 := fun x y H Q => ∃ w st a b, JX X T w st H ∧ RepV X.K w H a x ∧ RepV X.K w H b y ∧ OkV X T cls Ex w H (Res.ofOpt (f st a b) st) Q
def rFn (f : Store → List RV → Option RV) : List V → Hp → VK → Prop := fun xs H Q => ∃ w st vs, JX X T w st H ∧ RepVs X.K w H vs xs ∧ OkV X T cls Ex w H (Res.ofOpt (f st vs) st) Q
end

section
variable {X : Cx} {T : List (Addr × Str)} {cls : Nat → Value} {Ex : XK} {C : Cfg} {φ φ2 : Phi}
theorem PE.imp {e : Expr} {t t' : TE} (h : PE X e t) (i : ∀ σ H Q, t' σ H Q → t σ H Q) : PE X e t' := ⟨fun pins s σ H Q I q => h.run pins s σ H Q I (i σ H Q q)⟩
theorem PT.imp {e : Expr} {t t' : TT} (h : PT X e t) (i : ∀ σ H Q, t' σ H Q → t σ H Q) : PT X e t' := ⟨fun pins s σ H Q I q => h.run pins s σ H Q I (i σ H Q q)⟩
theorem PW.imp {e : Expr} {t t' : TT} (h : PW X e t) (i : ∀ σ H Q, t' σ H Q → t σ H Q) : PW X e t' := ⟨fun wh pins s σ H Q I q => h.run wh pins s σ H Q I (i σ H Q q)⟩
theorem PA.imp {es : List Expr} {t t' : TA} (h : PA X es t) (i : ∀ σ H Q, t' σ H Q → t σ H Q) : PA X es t' := ⟨fun pos pins s σ H Q I q => h.run pos pins s σ H Q I (i σ H Q q)⟩
theorem PS.imp {st : Stmt} {t t' : TS} (h : PS X st t) (i : ∀ D σ H, t' D σ H → t D σ H) : PS X st t' := ⟨fun pins s σ H D I q => h.run pins s σ H D I (i D σ H q)⟩
theorem PSs.imp {st : List Stmt} {t t' : TS} (h : PSs X st t) (i : ∀ D σ H, t' D σ H → t D σ H) : PSs X st t' := ⟨fun pins s σ H D I q => h.run pins s σ H D I (i D σ H q)⟩
theorem OpR.imp {f : Value → Value → Sem Value} {r r' : R2} (h : OpR X f r) (i : ∀ x y H Q, r' x y H Q → r x y H Q) : OpR X f r' := fun pins s σ H x y v u Q I a b q => h pins s σ H x y v u Q I a b (i x y H Q q)
theorem CallR.imp {f : Value} {r r' : List V → Hp → VK → Prop} (h : CallR X f r) (i : ∀ xs H Q, r' xs H Q → r xs H Q) : CallR X f r' := fun pins s σ H xs us Q I a q => h pins s σ H xs us Q I a (i xs H Q q)

/-- two expressions and an operation by values -/
theorem tex_op {a b : E} {f : Store → RV → RV → Option RV} {σ : St} {H : Hp} {Q : VK}
    (h : ∃ w env st, JX X T w st H ∧ EnvR X.K w H env σ ∧ OkV X T cls Ex w H ((den C φ φ2 a env st).bind fun x st1 => (den C φ φ2 b env st1).bind fun y st2 => Res.ofOpt (f st2 x y) st2) Q) :
    tOp (rOp X T cls Ex f) (TEx X T cls Ex C φ φ2 a) (TEx X T cls Ex C φ φ2 b) σ H Q := by
  obtain ⟨w, env, st, j, en, h⟩ := h
  refine ⟨w, env, st, j, en, (OkG.bind (R := RepV X.K) h).imp fun x H1 ⟨w1, st1, rx, s1, j1, r1, h1⟩ => ?_⟩
  refine ⟨w1, env, st1, j1, en.stp s1, (OkG.bind (R := RepV X.K) h1).imp fun y H2 ⟨w2, st2, ry, s2, j2, r2, h2⟩ => ?_⟩
  exact ⟨w2, st2, rx, ry, j2, r1.stp s2, r2, h2⟩

/-! ### names and constants -/
theorem tex_var {i : Nat} {σ : St} {H : Hp} {Q : VK} (h : TEx X T cls Ex C φ φ2 (.var i) σ H Q) : tVar i σ H Q := by
  obtain ⟨w, env, st, j, en, h⟩ := h
  simp only [den] at h
  split at h
  · rename_i v hv
    obtain ⟨x, hx, r⟩ := en.at_ i v hv
    exact ⟨x, hx, h.ret j r⟩
  · exact h.elim
theorem tex_cst {d : PyData} {v : V} {σ : St} {H : Hp} {Q : VK} (h : TEx X T cls Ex C φ φ2 (.cst d) σ H Q) (hv : ∀ (w : Wd), Rep X.K w H .pur d v) : tC v σ H Q := by
  obtain ⟨w, env, st, j, en, h⟩ := h
  exact OkG.ret (show OkV X T cls Ex w H (.ok (.d .pur d) st) Q from h) j (hv w)

/-! ### operators -/
theorem lim_eq : lim = sizeLine := by rw [sizeLine_eq]; rfl
theorem ofInt {i j : Int} {v : V} {g : Gn} {w : Wd} {H : Hp} {K : PySem.W.Frag} (h : RepV K w H (.d g (.int i)) v) : v = .int i := RepD.intV h
theorem ok_some {w : Wd} {H : Hp} {st : Store} {rv : RV} {Q : VK} {o : Option RV} (h : OkV X T cls Ex w H (Res.ofOpt o st) Q) (e : o = some rv) : OkV X T cls Ex w H (.ok rv st) Q := by rw [e] at h; exact h
theorem ok_none {w : Wd} {H : Hp} {st : Store} {Q : VK} {o : Option RV} (h : OkV X T cls Ex w H (Res.ofOpt o st) Q) (e : o = none) : False := by rw [e] at h; exact h

theorem opI_of {f : Value → Value → Sem Value} {o : BOp} {Cn : Int → Int → Prop} {g : Int → Int → Int} (hop : OpR X f (rI Cn fun i j => .int (g i j)))
    (hc : ∀ i j k, intBinop o i j = some k → Cn i j ∧ g i j = k) {pins : List (Addr × Obj)} {s : Shared} {σ : St} {H : Hp} {v u : Value} {Q : VK} {x y : V} {i j : Int} {w : Wd} {st : Store}
    (I : Inv X pins σ H s) (jj : JX X T w st H) (rx : RelV x v) (ry : RelV y u) (ex : x = .int i) (ey : y = .int j) (h : OkV X T cls Ex w H (Res.ofOpt ((intBinop o i j).map rvI) st) Q) :
    wpAny (model X.prog X.w) X.A (f v u) (EP X pins σ Q) X.xe s := by
  cases e : intBinop o i j with
  | none => rw [e] at h; exact h.elim
  | some k =>
    rw [e] at h
    obtain ⟨h1, h2⟩ := hc i j k e
    refine hop pins s σ H x y v u Q I rx ry ⟨i, j, ex, ey, h1, ?_⟩
    show Q (.int (g i j)) H
    rw [h2]
    exact OkG.ret (show OkV X T cls Ex w H (.ok (rvI k) st) Q from h) jj (repI w H k)
end
end DL

-- DOps
/-! DOps: the operators of the small language are the machine's. -/
namespace DL
open PySem L2

section
variable {X : Cx} {T : List (Addr × Str)} {cls : Nat → Value} {Ex : XK} {w : Wd} {H : Hp} {st : Store} {v : V} {rv : RV}

theorem atCell (j : JX X T w st H) {n : Nat} (r : RepV X.K w H (.c n) v) {c : Cell} (h : st[n]? = some c) : ∃ a, w.ad[n]? = some a ∧ v = .ref a ∧ CellOk X.prog X.w X.K w H a c := by
  obtain ⟨a, e, ev⟩ := r
  exact ⟨a, e, ev, j.cell n a c e h⟩
/-- a list that may be written to a new one -/
theorem lst_view (j : JX X T w st H) {xs : List RV} (r : RepV X.K w H rv v) (h1 : isLst st rv = true) (h2 : items? st rv = some xs) :
    ∃ a vs, v = .ref a ∧ H a = some (.lst vs) ∧ RepVs X.K w H xs vs ∧ vs.length ≤ sizeLine := by
  cases rv with
  | d g x =>
    cases x with
    | list ds =>
      simp only [isLst, decide_eq_true_eq] at h1
      simp only [items?, Option.some.injEq] at h2
      subst h2
      obtain ⟨a, vs, e, hr, f, p, hl, rl⟩ := RepD.list r
      rcases p.2.2 with q | ⟨u, q⟩
      · exact absurd q h1
      · rcases hr with hr | ⟨o, hr⟩
        · exact ⟨a, vs, e, hr, items_rep rl, hl⟩
        · rw [q] at hr; cases hr
    | _ => simp [isLst] at h1
  | c n =>
    simp only [items?] at h2
    split at h2
    · rename_i ys hn
      simp only [Option.some.injEq] at h2
      subst h2
      obtain ⟨a, ea, ev, vs, h3, h4, h5⟩ := atCell j r hn
      exact ⟨a, vs, ev, h3, h4, h5⟩
    · cases h2
theorem seq_view (j : JX X T w st H) {xs : List RV} (r : RepV X.K w H rv v) (h2 : items? st rv = some xs) :
    ∃ a vs, v = .ref a ∧ (SqL X.K H a vs ∨ SqT X.K H a vs) ∧ RepVs X.K w H xs vs ∧ vs.length ≤ sizeLine := by
  cases rv with
  | d g x =>
    cases x with
    | list ds =>
      simp only [items?, Option.some.injEq] at h2
      subst h2
      obtain ⟨a, vs, e, hr, f, p, hl, rl⟩ := RepD.list r
      exact ⟨a, vs, e, .inl (.inl hr), items_rep rl, hl⟩
    | tuple ds =>
      simp only [items?, Option.some.injEq] at h2
      subst h2
      obtain ⟨a, vs, e, hr, hl, rl⟩ := RepD.tuple r
      exact ⟨a, vs, e, .inr hr, items_rep rl, hl⟩
    | _ => simp [items?] at h2
  | c n =>
    simp only [items?] at h2
    split at h2
    · rename_i ys hn
      simp only [Option.some.injEq] at h2
      subst h2
      obtain ⟨a, ea, ev, vs, h3, h4, h5⟩ := atCell j r hn
      exact ⟨a, vs, ev, .inl (SqL.of h3), h4, h5⟩
    · cases h2
theorem new_of_mkLst {Q : VK} {xs : List RV} {vs : List V} (j : JX X T w st H) (h : OkV X T cls Ex w H (Res.ofOpt (mkLst xs) st) Q) (r : RepVs X.K w H xs vs) (hl : vs.length ≤ sizeLine) :
    ∀ p, H p = none → Q (.ref p) (upd H p (.lst vs)) := by
  unfold mkLst at h
  cases e : datas? xs with
  | none => rw [e] at h; exact h.elim
  | some ds =>
    rw [e] at h
    exact OkG.new (show OkV X T cls Ex w H (.ok (.d (lstG (gnOf xs) ds) (.list ds)) st) Q from h) j hl (datas_rep e r)
theorem new_of_mkTup {Q : VK} {xs : List RV} {vs : List V} (j : JX X T w st H) (h : OkV X T cls Ex w H (Res.ofOpt (mkTup xs) st) Q) (r : RepVs X.K w H xs vs) (hl : vs.length ≤ sizeLine) :
    ∀ p, H p = none → Q (.ref p) (upd H p (.tup vs)) := by
  unfold mkTup at h
  cases e : datas? xs with
  | none => rw [e] at h; exact h.elim
  | some ds =>
    rw [e] at h
    exact OkG.newTup (show OkV X T cls Ex w H (.ok (el (gnOf xs) (.tuple ds)) st) Q from h) j hl (datas_rep e r)
theorem RepVs.append {xs ys : List RV} {vs ws : List V} (a : RepVs X.K w H xs vs) (b : RepVs X.K w H ys ws) : RepVs X.K w H (xs ++ ys) (vs ++ ws) := by
  induction a with
  | nil => exact b
  | cons h _ ih => exact .cons h ih

theorem cat_ok {pins : List (Addr × Obj)} {s : Shared} {σ : St} {x y : V} {vx vy : Value} {Q : VK} {a b : RV} (I : Inv X pins σ H s) (rx : RelV x vx) (ry : RelV y vy) (j : JX X T w st H) (ra : RepV X.K w H a x) (rb : RepV X.K w H b y)
    (h : OkV X T cls Ex w H (Res.ofOpt (catL st a b) st) Q) : wpAny (model X.prog X.w) X.A (binaryOp .Add vx vy) (EP X pins σ Q) X.xe s := by
  unfold catL at h
  split at h
  · rename_i xs ys e1 e2 e3
    rw [Bool.and_eq_true] at e1
    split at h
    · rename_i hz
      rw [lim_eq] at hz
      obtain ⟨l, vs, rfl, hl, rvs, _⟩ := lst_view j ra e1.1 e2
      obtain ⟨m, us, rfl, hm, rus, _⟩ := lst_view j rb e1.2 e3
      have l1 := rvs.length
      have l2 := rus.length
      exact op_cat pins s σ H _ _ vx vy Q I rx ry ⟨l, m, vs, us, rfl, rfl, hl, hm, by omega, new_of_mkLst j h (RepVs.append rvs rus) (by rw [List.length_append]; omega)⟩
    · exact h.elim
  · exact h.elim

theorem c_mul : ∀ i j k, intBinop .mul i j = some k → CMul i j ∧ i * j = k := by
  intro i j k h
  simp only [intBinop] at h
  split at h
  · rename_i q
    simp only [Option.some.injEq] at h
    exact ⟨q.elim .inr .inl, h⟩
  · cases h
theorem c_fdiv : ∀ i j k, intBinop .fdiv i j = some k → CDiv i j ∧ i / j = k := by
  intro i j k h
  simp only [intBinop] at h
  split at h
  · rename_i q
    simp only [Option.some.injEq] at h
    exact ⟨q, h⟩
  · cases h
theorem c_mod : ∀ i j k, intBinop .mod i j = some k → 0 < j ∧ i % j = k := by
  intro i j k h
  simp only [intBinop] at h
  split at h
  · rename_i q
    simp only [Option.some.injEq] at h
    exact ⟨q, h⟩
  · cases h
theorem c_pow : ∀ i j k, intBinop .pow i j = some k → CPow i j ∧ i ^ j.toNat = k := by
  intro i j k h
  simp only [intBinop] at h
  split at h
  · rename_i q
    simp only [Option.some.injEq] at h
    refine ⟨⟨q.1, by omega, ?_⟩, h⟩
    have := q.2.2
    omega
  · cases h

def opOf : BOp → Operator
  | .add => .Add | .sub => .Sub | .mul => .Mult | .fdiv => .FloorDiv | .mod => .Mod | .pow => .Pow

theorem int_op (o : BOp) {pins : List (Addr × Obj)} {s : Shared} {σ : St} {x y : V} {vx vy : Value} {Q : VK} {i j : Int} (I : Inv X pins σ H s) (rx : RelV x vx) (ry : RelV y vy) (jj : JX X T w st H) (ex : x = .int i) (ey : y = .int j)
    (h : OkV X T cls Ex w H (Res.ofOpt ((intBinop o i j).map rvI) st) Q) : wpAny (model X.prog X.w) X.A (binaryOp (opOf o) vx vy) (EP X pins σ Q) X.xe s := by
  cases o with
  | add =>
    subst ex ey
    exact op_add pins s σ H _ _ vx vy Q I rx ry ⟨i, j, rfl, rfl, OkG.ret (show OkV X T cls Ex w H (.ok (rvI (i + j)) st) Q from h) jj (repI w H _)⟩
  | sub =>
    subst ex ey
    exact op_sub pins s σ H _ _ vx vy Q I rx ry ⟨i, j, rfl, rfl, OkG.ret (show OkV X T cls Ex w H (.ok (rvI (i - j)) st) Q from h) jj (repI w H _)⟩
  | mul => exact opI_of op_mul c_mul I jj rx ry ex ey h
  | fdiv => exact opI_of op_fdiv c_fdiv I jj rx ry ex ey h
  | mod => exact opI_of op_mod c_mod I jj rx ry ex ey h
  | pow => exact opI_of op_pow c_pow I jj rx ry ex ey h

theorem strOk_append {a b : Str} (ha : PyData.strOk a = true) (hb : PyData.strOk b = true) : PyData.strOk (a ++ b) = true := by
  obtain ⟨x⟩ := a
  obtain ⟨y⟩ := b
  show (x ++ y).all (· < 0x110000) = true
  have ha' : x.all (· < 0x110000) = true := ha
  have hb' : y.all (· < 0x110000) = true := hb
  simp only [Array.all_append, ha', hb', Bool.and_self]

theorem rest_ok (o : BOp) {pins : List (Addr × Obj)} {s : Shared} {σ : St} {x y : V} {vx vy : Value} {Q : VK} {a b : RV} (I : Inv X pins σ H s) (rx : RelV x vx) (ry : RelV y vy) (j : JX X T w st H) (ra : RepV X.K w H a x) (rb : RepV X.K w H b y)
    (h : OkV X T cls Ex w H (Res.ofOpt (binRest st o a b) st) Q) : wpAny (model X.prog X.w) X.A (binaryOp (opOf o) vx vy) (EP X pins σ Q) X.xe s := by
  cases o with
  | add => exact cat_ok I rx ry j ra rb h
  | _ => exact False.elim h
theorem op_bin (o : BOp) : OpR X (binaryOp (opOf o)) (rOp X T cls Ex fun st => binop st o) := by
  intro pins s σ H x y vx vy Q I rx ry h
  obtain ⟨w, st, a, b, j, ra, rb, h⟩ := h
  revert h
  simp only [binop]
  split
  · intro h
    exact int_op o I rx ry j (RepD.intV ra) (RepD.intV rb) h
  · rename_i g xs g' ys
    intro h
    cases o with
    | add =>
      simp only [opOf] at h ⊢
      split at h
      · rename_i hz
        rw [lim_eq] at hz
        obtain ⟨l, vs, rfl, hl, hvl, rl⟩ := RepD.tuple ra
        obtain ⟨m, us, rfl, hm, hul, rm⟩ := RepD.tuple rb
        have l1 := rl.length
        have l2 := rm.length
        have h' : OkV X T cls Ex w H (.ok (.d (g.join g') (.tuple (xs ++ ys))) st) Q := h
        refine op_catA pins s σ H _ _ vx vy Q I rx ry ⟨l, m, vs, us, rfl, rfl, hl, hm, by omega, fun e => ?_, fun e1 e => ?_, fun _ _ p hp => ?_⟩
        · subst e
          have : xs = [] := List.length_eq_zero_iff.mp (by rw [l1]; rfl)
          subst this
          exact OkG.ret h' j (Rep.weak (Gn.leq_join_r g g') rb)
        · subst e
          have : ys = [] := List.length_eq_zero_iff.mp (by rw [l2]; rfl)
          subst this
          rw [List.append_nil] at h'
          exact OkG.ret h' j (Rep.weak (Gn.leq_join_l g g') ra)
        · have s' : Stp w w H (upd H p (.tup (vs ++ us))) := Stp.fresh hp
          obtain ⟨hf, _⟩ := j.freshP hp
          refine h' w _ _ s' (j.fresh hp (fun ps z => by cases z)) ?_
          have r1 := RepL.append (RepL.weak (Gn.leq_join_l g g') rl) (RepL.weak (Gn.leq_join_r g g') rm)
          exact RepD.tup (.inl upd_same) hf (by rw [List.length_append]; omega) (RepL.stp s' r1)
      · exact h.elim
    | _ => exact h.elim
  · rename_i g sx g' sy
    intro h
    cases o with
    | add =>
      simp only [opOf] at h ⊢
      split at h
      · rename_i hz
        rw [lim_eq] at hz
        obtain ⟨rfl, k1⟩ := RepD.strV ra
        obtain ⟨rfl, k2⟩ := RepD.strV rb
        exact op_add_str pins s σ H _ _ vx vy Q I rx ry ⟨sx, sy, rfl, rfl, hz, OkG.ret (show OkV X T cls Ex w H (.ok (rvS (sx ++ sy)) st) Q from h) j (RepD.str _ (strOk_append k1 k2))⟩
      · exact h.elim
    | _ => exact h.elim
  · rename_i g xs g' k
    intro h
    cases o with
    | mul =>
      simp only [opOf] at h ⊢
      split at h
      · rename_i hz
        obtain ⟨hg, h0, h1, hz⟩ := hz
        rw [lim_eq] at hz
        obtain ⟨l, vs, e, hl, hf, p, hvl, rl⟩ := RepD.list ra
        subst e
        have ey := RepD.intV rb
        subst ey
        have hl' : H l = some (.lst vs) := by
          rcases p.2.2 with q | ⟨u, q⟩
          · exact absurd q hg
          · rcases hl with hl | ⟨o, hl⟩
            · exact hl
            · rw [q] at hl; cases hl
        have l1 := rl.length
        refine op_rep pins s σ H _ _ vx vy Q I rx ry ⟨l, k, vs, rfl, rfl, hl', by omega, by omega, by rw [← l1]; exact hz, ?_⟩
        refine OkG.new (show OkV X T cls Ex w H (.ok (.d (lstG g (repL xs k.toNat)) (.list (repL xs k.toNat))) st) Q from ?_) j ?_ (RepL.repl rl k.toNat)
        · exact h
        · rw [PyProof.Rows.lm_len_rep_flat, Nat.mul_comm, ← l1]; exact hz
      · exact h.elim
    | _ => exact h.elim
  · intro h
    exact rest_ok o I rx ry j ra rb h

theorem un_neg_ok {pins : List (Addr × Obj)} {s : Shared} {σ : St} {x : V} {vx : Value} {Q : VK} {g : Gn} {i : Int} (I : Inv X pins σ H s) (rx : RelV x vx) (j : JX X T w st H) (ra : RepV X.K w H (.d g (.int i)) x)
    (h : OkV X T cls Ex w H (.ok (rvI (-i)) st) Q) : wpAny (model X.prog X.w) X.A (unaryOp .USub vx) (EP X pins σ Q) X.xe s :=
  un_neg pins s σ H x vx Q I rx ⟨i, RepD.intV ra, OkG.ret h j (repI w H _)⟩
end
end DL

-- DCmp
/-! DCmp: comparisons, in, is; items and slices; dicts read and written. -/
namespace DL
open PySem L2

section
variable {X : Cx} {T : List (Addr × Str)} {cls : Nat → Value} {Ex : XK} {w : Wd} {H : Hp} {st : Store} {v : V} {rv : RV} {pins : List (Addr × Obj)} {s : Shared} {σ : St}

theorem repDp {K : PySem.W.Frag} {g : Gn} {x : PyData} {v : V} (r : Rep K w H g x v) : Dp K H v x ∧ PyData.canLay0 x = true := ⟨RepD.dp r, RepD.lay r⟩
/-- what it is as a datum, read -/
theorem snap_view (j : JX X T w st H) (r : RepV X.K w H rv v) {x : PyData} (h : snap? st rv = some x) : Dp X.K H v x ∧ PyData.canLay0 x = true := by
  cases rv with
  | d g y =>
    simp only [snap?, Option.some.injEq] at h
    subst h
    exact repDp r
  | c n =>
    simp only [snap?] at h
    split at h
    · rename_i xs hn
      obtain ⟨ds, e, rfl⟩ := Option.map_eq_some_iff.mp h
      obtain ⟨a, ea, rfl, vs, h3, h4, h5⟩ := atCell j r hn
      have q := datas_rep e h4
      exact ⟨.lst (SqL.of h3) (RepL.dp q), by simpa [PyData.canLay0] using RepL.lay q⟩
    · cases h

theorem units_ok {X : Cx} (hu : X.A.units + 80 < cLine) {n : Nat} (h : n ≤ 60) : X.A.units + n < cLine := by omega

theorem op_eqX (hu : X.A.units + 80 < cLine) : OpR X (compareOp .Eq) (rOp X T cls Ex fun st a b => (isEq st a b).map rvB) := by
  intro pins s σ H x y vx vy Q I rx ry h
  obtain ⟨w, st, a, b, j, ra, rb, h⟩ := h
  unfold isEq at h
  dsimp only at h
  split at h
  · rename_i dx dy e1 e2
    split at h
    · rename_i hd
      obtain ⟨d1, l1⟩ := snap_view j ra e1
      obtain ⟨d2, l2⟩ := snap_view j rb e2
      obtain ⟨as, r1⟩ := Dp.reads I dx x vx d1 rx
      obtain ⟨bs, r2⟩ := Dp.reads I dy y vy d2 ry
      exact SeqAt.compareEq_reads r1 r2 l1 l2 (units_ok hu hd) ⟨.bl _, H, I, rfl, OkG.ret (show OkV X T cls Ex w H (.ok (rvB (PyData.eqv dx dy)) st) Q from h) j (repB w H _)⟩
    · exact h.elim
  · exact h.elim
theorem op_neX (hu : X.A.units + 80 < cLine) : OpR X (compareOp .NotEq) (rOp X T cls Ex fun st a b => ((isEq st a b).map (!·)).map rvB) := by
  intro pins s σ H x y vx vy Q I rx ry h
  obtain ⟨w, st, a, b, j, ra, rb, h⟩ := h
  unfold isEq at h
  dsimp only at h
  split at h
  · rename_i dx dy e1 e2
    split at h
    · rename_i hd
      obtain ⟨d1, l1⟩ := snap_view j ra e1
      obtain ⟨d2, l2⟩ := snap_view j rb e2
      obtain ⟨as, r1⟩ := Dp.reads I dx x vx d1 rx
      obtain ⟨bs, r2⟩ := Dp.reads I dy y vy d2 ry
      exact SeqAt.compareNe_reads r1 r2 l1 l2 (units_ok hu hd) ⟨.bl _, H, I, rfl, OkG.ret (show OkV X T cls Ex w H (.ok (rvB (!PyData.eqv dx dy)) st) Q from h) j (repB w H _)⟩
    · exact h.elim
  · exact h.elim

theorem lt_ok (hu : X.A.units + 80 < cLine) {pins : List (Addr × Obj)} {s : Shared} {σ : St} {x y : V} {vx vy : Value} {Q : VK} {g g' : Gn} {dx dy : PyData} (I : Inv X pins σ H s) (rx : RelV x vx) (ry : RelV y vy) (j : JX X T w st H)
    (ra : Rep X.K w H g dx x) (rb : Rep X.K w H g' dy y) (h : OkV X T cls Ex w H (Res.ofOpt ((isLt dx dy).map rvB) st) Q) : wpAny (model X.prog X.w) X.A (compareOp .Lt vx vy) (EP X pins σ Q) X.xe s := by
  unfold isLt at h
  split at h
  · exact op_lt pins s σ H x y vx vy Q I rx ry ⟨_, _, RepD.intV ra, RepD.intV rb, OkG.ret (show OkV X T cls Ex w H (.ok (rvB (decide (_ < _))) st) Q from h) j (repB w H _)⟩
  · rename_i xs ys
    split at h
    · rename_i hd
      obtain ⟨as, r1⟩ := Dp.reads I _ x vx (RepD.dp ra) rx
      obtain ⟨bs, r2⟩ := Dp.reads I _ y vy (RepD.dp rb) ry
      have hm : min (PyData.tuple xs).depth (PyData.tuple ys).depth ≤ 60 := Nat.le_trans (Nat.min_le_left _ _) hd.2
      exact PySem.W.rcLt_alike _ _ _ _ _ _ _ _ r1 r2 hd.1 (by simp) (units_ok hu hm) X.prog X.w X.xe _ ⟨.bl _, H, I, rfl, OkG.ret (show OkV X T cls Ex w H (.ok (rvB (PySem.W.dataLt (.tuple xs) (.tuple ys))) st) Q from h) j (repB w H _)⟩
    · exact h.elim
  · exact h.elim
theorem op_ltX (hu : X.A.units + 80 < cLine) : OpR X (compareOp .Lt) (rOp X T cls Ex fun st a b => (cmpop st .lt a b).map rvB) := by
  intro pins s σ H x y vx vy Q I rx ry h
  obtain ⟨w, st, a, b, j, ra, rb, h⟩ := h
  simp only [cmpop] at h
  split at h
  · exact lt_ok hu I rx ry j ra rb h
  · exact h.elim
theorem op_gtX : OpR X (compareOp .Gt) (rOp X T cls Ex fun st a b => (cmpop st .gt a b).map rvB) := by
  intro pins s σ H x y vx vy Q I rx ry h
  obtain ⟨w, st, a, b, j, ra, rb, h⟩ := h
  simp only [cmpop] at h
  split at h
  · rename_i dx g' dy
    unfold isLtI at h
    split at h
    · exact op_gt pins s σ H x y vx vy Q I rx ry ⟨_, _, RepD.intV ra, RepD.intV rb, OkG.ret (show OkV X T cls Ex w H (.ok (rvB (decide (_ < _))) st) Q from h) j (repB w H _)⟩
    · exact h.elim
  · exact h.elim
theorem op_leX : OpR X (compareOp .LtE) (rOp X T cls Ex fun st a b => (cmpop st .le a b).map rvB) := by
  intro pins s σ H x y vx vy Q I rx ry h
  obtain ⟨w, st, a, b, j, ra, rb, h⟩ := h
  simp only [cmpop] at h
  split at h
  · unfold isLe at h
    split at h
    · exact op_le pins s σ H x y vx vy Q I rx ry ⟨_, _, RepD.intV ra, RepD.intV rb, OkG.ret (show OkV X T cls Ex w H (.ok (rvB (decide (_ ≤ _))) st) Q from h) j (repB w H _)⟩
    · exact h.elim
  · exact h.elim
theorem op_geX : OpR X (compareOp .GtE) (rOp X T cls Ex fun st a b => (cmpop st .ge a b).map rvB) := by
  intro pins s σ H x y vx vy Q I rx ry h
  obtain ⟨w, st, a, b, j, ra, rb, h⟩ := h
  simp only [cmpop] at h
  split at h
  · unfold isLe at h
    split at h
    · exact op_ge pins s σ H x y vx vy Q I rx ry ⟨_, _, RepD.intV ra, RepD.intV rb, OkG.ret (show OkV X T cls Ex w H (.ok (rvB (decide (_ ≤ _))) st) Q from h) j (repB w H _)⟩
    · exact h.elim
  · exact h.elim
theorem isNone_v {K : PySem.W.Frag} {g : Gn} {x : PyData} {v : V} (r : Rep K w H g x v) : decide (v = .non) = isNone x := by
  have r' : RepD K H w.free (w.ok H g) x v := r
  cases r' <;> simp [isNone]
theorem op_isX : OpR X (compareOp .Is) (rOp X T cls Ex fun st a b => (cmpop st .is a b).map rvB) := by
  intro pins s σ H x y vx vy Q I rx ry h
  obtain ⟨w, st, a, b, j, ra, rb, h⟩ := h
  simp only [cmpop] at h
  split at h
  · rename_i g dx g' dy
    unfold isSame at h
    split at h
    · refine op_isN pins s σ H x y vx vy Q I rx ry ⟨RepD.nonV rb, ?_⟩
      rw [isNone_v (show Rep X.K w H g dx x from ra)]
      exact OkG.ret (show OkV X T cls Ex w H (.ok (rvB (isNone dx)) st) Q from h) j (repB w H _)
    · exact op_isBl pins s σ H x y vx vy Q I rx ry ⟨_, _, RepD.blV ra, RepD.blV rb, OkG.ret (show OkV X T cls Ex w H (.ok (rvB (decide (_ = _))) st) Q from h) j (repB w H _)⟩
    · exact h.elim
  · obtain ⟨p, _, rfl⟩ := ra
    refine op_isN pins s σ H _ y vx vy Q I rx ry ⟨RepD.nonV rb, ?_⟩
    exact OkG.ret (show OkV X T cls Ex w H (.ok (rvB false) st) Q from h) j (by simpa using repB w H false)
  · exact h.elim
theorem op_isntX : OpR X (compareOp .IsNot) (rOp X T cls Ex fun st a b => (cmpop st .isnt a b).map rvB) := by
  intro pins s σ H x y vx vy Q I rx ry h
  obtain ⟨w, st, a, b, j, ra, rb, h⟩ := h
  simp only [cmpop] at h
  split at h
  · rename_i g dx g' dy
    unfold isSame at h
    split at h
    · refine op_notN pins s σ H x y vx vy Q I rx ry ⟨RepD.nonV rb, ?_⟩
      rw [isNone_v (show Rep X.K w H g dx x from ra)]
      exact OkG.ret (show OkV X T cls Ex w H (.ok (rvB (!isNone dx)) st) Q from h) j (repB w H _)
    · exact op_notBl pins s σ H x y vx vy Q I rx ry ⟨_, _, RepD.blV ra, RepD.blV rb, OkG.ret (show OkV X T cls Ex w H (.ok (rvB (!decide (_ = _))) st) Q from h) j (repB w H _)⟩
    · exact h.elim
  · obtain ⟨p, _, rfl⟩ := ra
    refine op_notN pins s σ H _ y vx vy Q I rx ry ⟨RepD.nonV rb, ?_⟩
    exact OkG.ret (show OkV X T cls Ex w H (.ok (rvB true) st) Q from h) j (by simpa using repB w H true)
  · exact h.elim

/-! ### dicts: keys -/
mutual
theorem nested_of (I : Inv X pins σ H s) : ∀ (x : PyData) (k : NestedKey) (v : V) (u : Value), toKey x = some k → Dp X.K H v x → RelV v u → NestedIs s.heap k u
  | .none, k, _, _, e, .non, r => by
    simp only [toKey, Option.some.injEq] at e
    subst e
    cases r
    exact .none
  | .int i, k, _, _, e, .int _, r => by
    simp only [toKey, Option.some.injEq] at e
    subst e
    obtain ⟨t, rfl⟩ := r
    exact .int i t
  | .str y, k, _, _, e, .str _, r => by
    simp only [toKey, Option.some.injEq] at e
    subst e
    obtain ⟨t, rfl⟩ := r
    exact .text y t
  | .tuple xs, k, _, _, e, .tup hq hd, r => by
    simp only [toKey] at e
    obtain ⟨ks, e1, rfl⟩ := Option.map_eq_some_iff.mp e
    cases r
    obtain ⟨its, rv, ⟨o, ho, hc, n, hdt⟩, _⟩ := I.tuple hq
    exact .tup ho hc hdt (by simpa using nested_ofs I xs ks _ its e1 hd rv)
  | .bool b, k, _, _, e, _, _ => by simp [toKey] at e
  | .list xs, k, _, _, e, _, _ => by simp [toKey] at e
  | .dict xs, k, _, _, e, _, _ => by simp [toKey] at e
theorem nested_ofs (I : Inv X pins σ H s) : ∀ (xs : List PyData) (ks : List NestedKey) (vs : List V) (us : List Value), toKeys xs = some ks → DpAll X.K H vs xs → Vals vs us → NestedAll s.heap ks us
  | [], ks, _, _, e, .nil, r => by
    simp only [toKeys, Option.some.injEq] at e
    subst e
    cases r
    exact .nil
  | x :: xs, ks, _, _, e, .cons h t, r => by
    simp only [toKeys] at e
    split at e
    · rename_i k ks' e1 e2
      simp only [Option.some.injEq] at e
      subst e
      cases r with
      | cons ra rb => exact .cons (nested_of I x k _ _ e1 h ra) (nested_ofs I xs ks' _ _ e2 t rb)
    · cases e
end
end
end DL

-- DDict
/-! DDict: dicts whose keys are tuples: looked up, stored to, made of pairs. -/
namespace DL
open PySem L2

def inOp : Bool → CmpOp
  | true => .NotIn
  | false => .In
def ngB : Bool → Bool → RV
  | true, b => rvB (!b)
  | false, b => rvB b
/-! ### equal data are equal keys -/
mutual
theorem eqv_key : ∀ (x y : PyData) (k l : NestedKey), toKey x = some k → toKey y = some l → PyData.eqv x y = NestedKey.beq k l
  | .none, y, k, l, e, e' => by
    simp only [toKey, Option.some.injEq] at e
    subst e
    cases y <;> simp only [toKey, Option.some.injEq, Option.map_eq_some_iff, reduceCtorEq] at e'
    · subst e'; simp [PyData.eqv, NestedKey.beq]
    · subst e'; simp [PyData.eqv, NestedKey.beq]
    · subst e'; simp [PyData.eqv, NestedKey.beq]
    · obtain ⟨_, _, rfl⟩ := e'; simp [PyData.eqv, NestedKey.beq]
  | .int i, y, k, l, e, e' => by
    simp only [toKey, Option.some.injEq] at e
    subst e
    cases y <;> simp only [toKey, Option.some.injEq, Option.map_eq_some_iff, reduceCtorEq] at e'
    · subst e'; simp [PyData.eqv, NestedKey.beq]
    · subst e'; simp only [PyData.eqv, NestedKey.beq]; exact (Bool.beq_eq_decide_eq _ _)
    · subst e'; simp [PyData.eqv, NestedKey.beq]
    · obtain ⟨_, _, rfl⟩ := e'; simp [PyData.eqv, NestedKey.beq]
  | .str i, y, k, l, e, e' => by
    simp only [toKey, Option.some.injEq] at e
    subst e
    cases y <;> simp only [toKey, Option.some.injEq, Option.map_eq_some_iff, reduceCtorEq] at e'
    · subst e'; simp [PyData.eqv, NestedKey.beq]
    · subst e'; simp [PyData.eqv, NestedKey.beq]
    · subst e'; simp only [PyData.eqv, NestedKey.beq]; exact (Bool.beq_eq_decide_eq _ _)
    · obtain ⟨_, _, rfl⟩ := e'; simp [PyData.eqv, NestedKey.beq]
  | .tuple xs, y, k, l, e, e' => by
    simp only [toKey, Option.map_eq_some_iff] at e
    obtain ⟨ks, e1, rfl⟩ := e
    cases y <;> simp only [toKey, Option.some.injEq, Option.map_eq_some_iff, reduceCtorEq] at e'
    · subst e'; simp [PyData.eqv, NestedKey.beq]
    · subst e'; simp [PyData.eqv, NestedKey.beq]
    · subst e'; simp [PyData.eqv, NestedKey.beq]
    · rename_i ys
      obtain ⟨ls, e2, rfl⟩ := e'
      simp only [PyData.eqv, NestedKey.beq]
      exact eqv_keys xs ys ks ls e1 e2
  | .bool b, y, k, l, e, _ => by simp [toKey] at e
  | .list b, y, k, l, e, _ => by simp [toKey] at e
  | .dict b, y, k, l, e, _ => by simp [toKey] at e
theorem eqv_keys : ∀ (xs ys : List PyData) (ks ls : List NestedKey), toKeys xs = some ks → toKeys ys = some ls → PyData.eqvAll xs ys = NestedKey.beqAll ks ls
  | [], [], ks, ls, e, e' => by
    simp only [toKeys, Option.some.injEq] at e e'
    subst e e'
    simp [PyData.eqvAll, NestedKey.beqAll]
  | [], y :: ys, ks, ls, e, e' => by
    simp only [toKeys, Option.some.injEq] at e e'
    subst e
    split at e'
    · simp only [Option.some.injEq] at e'
      subst e'
      simp [PyData.eqvAll, NestedKey.beqAll]
    · cases e'
  | x :: xs, [], ks, ls, e, e' => by
    simp only [toKeys, Option.some.injEq] at e e'
    subst e'
    split at e
    · simp only [Option.some.injEq] at e
      subst e
      simp [PyData.eqvAll, NestedKey.beqAll]
    · cases e
  | x :: xs, y :: ys, ks, ls, e, e' => by
    simp only [toKeys] at e e'
    split at e
    · rename_i k ks' a1 a2
      simp only [Option.some.injEq] at e
      subst e
      split at e'
      · rename_i l ls' b1 b2
        simp only [Option.some.injEq] at e'
        subst e'
        simp only [PyData.eqvAll, NestedKey.beqAll]
        rw [eqv_key x y k l a1 b1, eqv_keys xs ys ks' ls' a2 b2]
      · cases e'
    · cases e
end
theorem same_key {x y : PyData} {k l : NestedKey} (e : toKey x = some k) (e' : toKey y = some l) : same x y = decide (k = l) := by
  rw [NestedKey.decide_eq]
  exact eqv_key x y k l e e'

section
variable {X : Cx} {T : List (Addr × Str)} {cls : Nat → Value} {Ex : XK} {w : Wd} {H : Hp} {st : Store} {v : V} {rv : RV} {pins : List (Addr × Obj)} {s : Shared} {σ : St} {K : PySem.W.Frag} {kvs : List (PyData × RV)} {es : List Ent}
  {us : List (NestedKey × Addr × Value)}

abbrev EntU (e : Ent) (u : NestedKey × Addr × Value) : Prop := e.1 = u.1 ∧ e.2.1 = u.2.1 ∧ RelV e.2.2 u.2.2
theorem key_is (I : Inv X pins σ H s) {x : PyData} {k : NestedKey} {a : Addr} (e : toKey x = some k) (ok : keyOk x = true) (r : Dp X.K H (.ref a) x) : (nestedKind X.prog X.w).is s.heap k a := by
  refine ⟨nested_of I x k (.ref a) (.ref a) e r rfl, ?_⟩
  unfold keyOk at ok
  split at ok
  · rename_i ys k' e'
    rw [e] at e'
    cases e'
    exact of_decide_eq_true ok
  · cases ok
theorem keyOk_tup {x : PyData} (ok : keyOk x = true) : ∃ ys k, x = .tuple ys ∧ toKey x = some k := by
  unfold keyOk at ok
  split at ok
  · rename_i ys k e
    exact ⟨ys, k, rfl, e⟩
  · cases ok
theorem ents_is (I : Inv X pins σ H s) (r : Paired (EntR X.K w H) kvs es) : ∀ {us : List (NestedKey × Addr × Value)}, Paired EntU es us → ∀ x ∈ us, (nestedKind X.prog X.w).is s.heap x.1 x.2.1 := by
  induction r with
  | nil => intro us ru x hx; cases ru; cases hx
  | cons hp _ ih =>
    intro us ru x hx
    cases ru with
    | cons hu hus =>
      rcases List.mem_cons.mp hx with rfl | hx
      · obtain ⟨e1, e2, e3, _⟩ := hp
        obtain ⟨q1, q2, _⟩ := hu
        rw [← q1, ← q2]
        exact key_is I e1 e2 (RepD.dp e3)
      · exact ih hus x hx
/-- the dict in the machine's heap -/
theorem dic_view (I : Inv X pins σ H s) {a : Addr} {lk : Bool} (h : DicHO X.prog X.w H a lk es) (r : Paired (EntR X.K w H) kvs es) : ∃ us, Paired EntU es us ∧ s.heap.DictOfH (nestedKind X.prog X.w) a us := by
  have q : Rd H a (dicO X.prog X.w a es) := by
    cases lk with
    | false => exact .inl h
    | true => obtain ⟨o, h⟩ := h; exact .inr ⟨o, h⟩
  obtain ⟨⟨us, ru, o, est, ep, h1, h2, h3, h4, h5⟩, _, _⟩ := q.ok I.hok
  exact ⟨us, ru, o, est, ep, h1, h2, h3, h4, ents_is I r ru, h5⟩
theorem look_at {x : PyData} {k : NestedKey} (e : toKey x = some k) (r : Paired (EntR K w H) kvs es) : ∀ {us : List (NestedKey × Addr × Value)}, Paired EntU es us →
    match dget kvs x, atKey us k with
    | some rv, some p => ∃ v, RepV K w H rv v ∧ RelV v p.2
    | none, none => True
    | _, _ => False := by
  induction r with
  | nil => intro us ru; cases ru; simp [dget, atKey]
  | @cons q en kvs es hp _ ih =>
    intro us ru
    cases ru with
    | @cons _ u _ us' hu hus =>
      obtain ⟨e1, e2, e3, e4⟩ := hp
      obtain ⟨q1, q2, q3⟩ := hu
      have hs : same q.1 x = decide (u.1 = k) := by rw [same_key e1 e, q1]
      have ih' := ih hus
      by_cases hk : u.1 = k
      · have h1 : same q.1 x = true := by rw [hs]; simpa using hk
        simp only [dget, atKey, List.find?_cons, h1, hk, decide_true, Option.map_some]
        exact ⟨en.2.2, e4, q3⟩
      · have h1 : same q.1 x = false := by rw [hs]; simpa using hk
        simp only [dget, atKey, List.find?_cons, h1, hk, decide_false]
        simpa only [dget, atKey] using ih'
theorem look_some {x : PyData} {k : NestedKey} (e : toKey x = some k) (r : Paired (EntR K w H) kvs es) (ru : Paired EntU es us) : (dget kvs x).isSome = (atKey us k).isSome := by
  have := look_at e r ru
  revert this
  cases dget kvs x <;> cases atKey us k <;> simp

theorem room8 {X : Cx} (hu : X.A.units + 80 < cLine) : (nestedKind X.prog X.w).room X.A.in1 := by
  show X.A.units + 1 + 8 < cLine
  omega
theorem room9 {X : Cx} (hu : X.A.units + 80 < cLine) : (nestedKind X.prog X.w).room X.A.in1.in1 := by
  show X.A.units + 1 + 1 + 8 < cLine
  omega
theorem rep_ref {g : Gn} {ys : List PyData} {v : V} (r : Rep K w H g (.tuple ys) v) : ∃ a, v = .ref a := by
  obtain ⟨a, vs, e, _⟩ := RepD.tuple r
  exact ⟨a, e⟩

theorem memD_ok (hu : X.A.units + 80 < cLine) (neg : Bool) {x y : V} {vx vy : Value} {Q : VK} {g : Gn} {d : PyData} {ds : List PyData} (I : Inv X pins σ H s) (rx : RelV x vx) (ry : RelV y vy) (j : JX X T w st H)
    (ra : Rep X.K w H g d x) {c : PyData} (hc : c = .list ds ∨ c = .tuple ds) (rb : Dp X.K H y c) (lb : PyData.canLayAll0 ds = true)
    (h : OkV X T cls Ex w H (Res.ofOpt ((memD d ds).map (ngB neg)) st) Q) : wpAny (model X.prog X.w) X.A (compareOp (inOp neg) vx vy) (EP X pins σ Q) X.xe s := by
  unfold memD at h
  split at h
  · rename_i hd
    obtain ⟨as, r1⟩ := Dp.reads I _ x vx (RepD.dp ra) rx
    obtain ⟨bs, r2⟩ := Dp.reads I _ y vy rb ry
    have hm : X.A.units + 1 + min (PyData.depthAll ds) d.depth < cLine := by
      generalize min (PyData.depthAll ds) d.depth = m at hd ⊢
      omega
    cases neg with
    | false =>
      have q : EP X pins σ Q (.bool (ds.any fun y => PyData.eqv y d)) s := ⟨.bl _, H, I, rfl, OkG.ret (show OkV X T cls Ex w H (.ok (rvB (ds.any fun y => PyData.eqv y d)) st) Q from h) j (repB w H _)⟩
      rcases hc with rfl | rfl
      · exact SeqAt.in_list_reads r2 r1 lb (RepD.lay ra) hm q
      · exact SeqAt.in_tuple_reads r2 r1 lb (RepD.lay ra) hm q
    | true =>
      have q : EP X pins σ Q (.bool (!ds.any fun y => PyData.eqv y d)) s := ⟨.bl _, H, I, rfl, OkG.ret (show OkV X T cls Ex w H (.ok (rvB (!ds.any fun y => PyData.eqv y d)) st) Q from h) j (repB w H _)⟩
      rcases hc with rfl | rfl
      · exact SeqAt.notIn_list_reads r2 r1 lb (RepD.lay ra) hm q
      · exact SeqAt.notIn_tuple_reads r2 r1 lb (RepD.lay ra) hm q
  · exact h.elim
theorem in_ok (hu : X.A.units + 80 < cLine) (neg : Bool) {x y : V} {vx vy : Value} {Q : VK} {a b : RV} (I : Inv X pins σ H s) (rx : RelV x vx) (ry : RelV y vy) (j : JX X T w st H) (ra : RepV X.K w H a x) (rb : RepV X.K w H b y)
    (h : OkV X T cls Ex w H (Res.ofOpt ((isIn st a b).map (ngB neg)) st) Q) : wpAny (model X.prog X.w) X.A (compareOp (inOp neg) vx vy) (EP X pins σ Q) X.xe s := by
  unfold isIn at h
  split at h
  · rename_i g d n
    split at h
    · rename_i lk kvs hn
      split at h
      · rename_i hk
        obtain ⟨p, ep, rfl, es, h1, h0, h2, h3⟩ := atCell j rb hn
        obtain ⟨us, ru, hm⟩ := dic_view I h1 h2
        obtain ⟨ys, k, rfl, ek⟩ := keyOk_tup hk
        obtain ⟨q, rfl⟩ := rep_ref (K := X.K) ra
        obtain rfl : vx = .ref q := rx
        obtain rfl : vy = .ref p := ry
        have his := key_is I ek hk (RepD.dp ra)
        have e0 := look_some ek h2 ru
        cases neg with
        | false =>
          refine wpAny_in_heap (room8 hu) his h0 hm ?_
          rw [← e0]
          exact ⟨.bl _, H, I.tok _, rfl, OkG.ret (show OkV X T cls Ex w H (.ok (rvB (dget kvs (.tuple ys)).isSome) st) Q from h) j (repB w H _)⟩
        | true =>
          show wpAny _ _ (do return (Value.bool (!(← contains (Value.ref p) (Value.ref q)))) : Sem Value) _ _ s
          refine wpAny_bind (wpAny_contains_heap (room8 hu) his h0 hm (wpAny_pure ?_))
          rw [← e0]
          exact ⟨.bl _, H, I.tok _, rfl, OkG.ret (show OkV X T cls Ex w H (.ok (rvB (!(dget kvs (.tuple ys)).isSome)) st) Q from h) j (repB w H _)⟩
      · exact h.elim
    · rename_i xs hn
      obtain ⟨p, ep, rfl, vs, h1, h2, h3⟩ := atCell j rb hn
      cases e : datas? xs with
      | none => rw [e] at h; exact h.elim
      | some ds =>
        rw [e] at h
        have q := datas_rep e h2
        exact memD_ok hu neg I rx ry j ra (.inl rfl) (.lst (SqL.of h1) (RepL.dp q)) (RepL.lay q) h
    · exact h.elim
  · rename_i g d g' ds
    have l := RepD.lay rb
    exact memD_ok hu neg I rx ry j ra (.inl rfl) (RepD.dp rb) (by simpa [PyData.canLay0] using l) h
  · rename_i g d g' ds
    have l := RepD.lay rb
    exact memD_ok hu neg I rx ry j ra (.inr rfl) (RepD.dp rb) (by simpa [PyData.canLay0] using l) h
  · exact h.elim
theorem op_inX (hu : X.A.units + 80 < cLine) : OpR X (compareOp .In) (rOp X T cls Ex fun st a b => (cmpop st .isin a b).map rvB) := by
  intro pins s σ H x y vx vy Q I rx ry h
  obtain ⟨w, st, a, b, j, ra, rb, h⟩ := h
  exact in_ok hu false I rx ry j ra rb h
theorem op_ninX (hu : X.A.units + 80 < cLine) : OpR X (compareOp .NotIn) (rOp X T cls Ex fun st a b => (cmpop st .nin a b).map rvB) := by
  intro pins s σ H x y vx vy Q I rx ry h
  obtain ⟨w, st, a, b, j, ra, rb, h⟩ := h
  refine in_ok (cls := cls) (Ex := Ex) hu true I rx ry j ra rb ?_
  have e : (isIn st a b).map (ngB true) = (cmpop st .nin a b).map rvB := by
    simp only [cmpop, Option.map_map]
    rfl
  rw [e]
  exact h

def copOf : COp → CmpOp
  | .eq => .Eq | .ne => .NotEq | .lt => .Lt | .le => .LtE | .gt => .Gt | .ge => .GtE | .isin => .In | .nin => .NotIn | .is => .Is | .isnt => .IsNot
theorem op_cmp (hu : X.A.units + 80 < cLine) (o : COp) : OpR X (compareOp (copOf o)) (rOp X T cls Ex fun st a b => (cmpop st o a b).map rvB) := by
  cases o with
  | eq => exact op_eqX hu
  | ne => exact op_neX hu
  | lt => exact op_ltX hu
  | le => exact op_leX
  | gt => exact op_gtX
  | ge => exact op_geX
  | isin => exact op_inX hu
  | nin => exact op_ninX hu
  | is => exact op_isX
  | isnt => exact op_isntX
end
end DL

-- DIx
/-! DIx: items and slices; a store by place or key. -/
namespace DL
open PySem L2
section
variable {X : Cx} {T : List (Addr × Str)} {cls : Nat → Value} {Ex : XK} {w : Wd} {H : Hp} {st : Store} {v : V} {rv : RV} {pins : List (Addr × Obj)} {s : Shared} {σ : St} {K : PySem.W.Frag}

theorem atI_rep {F P : Addr → Prop} {xs : List PyData} {vs : List V} {i : Int} {x : PyData} (h : atI xs i = some x) (r : RepL K H F P xs vs) : ∃ v, atI vs i = some v ∧ RepD K H F P x v := by
  unfold atI at h ⊢
  rw [← RepL.length r]
  cases e : ixN xs.length i with
  | none => rw [e] at h; cases h
  | some j =>
    rw [e] at h
    exact RepL.get r h
theorem RepVs.get : ∀ {xs : List RV} {vs : List V} {i : Nat} {x : RV}, RepVs K w H xs vs → xs[i]? = some x → ∃ v, vs[i]? = some v ∧ RepV K w H x v
  | _, _, _, _, .nil, e => by simp at e
  | _, _, 0, _, .cons h _, e => by
    simp only [List.getElem?_cons_zero, Option.some.injEq] at e
    subst e
    exact ⟨_, rfl, h⟩
  | _, _, i + 1, _, .cons _ t, e => by
    simp only [List.getElem?_cons_succ] at e
    obtain ⟨v, h1, h2⟩ := RepVs.get t e
    exact ⟨v, by simpa using h1, h2⟩
theorem atI_reps {xs : List RV} {vs : List V} {i : Int} {x : RV} (h : atI xs i = some x) (r : RepVs K w H xs vs) : ∃ v, atI vs i = some v ∧ RepV K w H x v := by
  unfold atI at h ⊢
  rw [← r.length]
  cases e : ixN xs.length i with
  | none => rw [e] at h; cases h
  | some j =>
    rw [e] at h
    exact RepVs.get r h
theorem sd_look {sk : Str} : ∀ {kvs : List (Str × RV)} {vs : List (Key × V)} {rv : RV}, Paired (fun (p : Str × RV) (q : Key × V) => q.1 = Sum.inr p.1 ∧ RepV K w H p.2 q.2) kvs vs → kvs.lookup sk = some rv → ∃ u, valV vs (.inr sk) = some u ∧ RepV K w H rv u
  | _, _, _, .nil, e => by simp at e
  | (k, r) :: kvs, (k', u) :: vs, rv, .cons h t, e => by
    obtain ⟨h1, h2⟩ := h
    have h1 : k' = Sum.inr k := h1
    subst h1
    by_cases q : sk = k
    · subst q
      simp only [List.lookup_cons, beq_self_eq_true, Option.some.injEq] at e
      subst e
      exact ⟨u, by simp [valV], h2⟩
    · have q' : (sk == k) = false := by simpa using q
      rw [List.lookup_cons, q'] at e
      obtain ⟨u', a, b⟩ := sd_look t e
      refine ⟨u', ?_, b⟩
      have : ¬ (Sum.inr k : Key) = Sum.inr sk := fun z => q (Sum.inr.inj z).symm
      simpa [valV, this] using a
theorem ixX (hu : X.A.units + 80 < cLine) : IxR X (rOp X T cls Ex subscr) := by
  intro value slice pins s σ H x y vx vy Q I rx ry h hs
  obtain ⟨w, st, a, b, j, ra, rb, h⟩ := h
  unfold subscr at h
  split at h
  · rename_i g xs g' k
    cases e : atI xs k with
    | none => rw [e] at h; exact h.elim
    | some d =>
      rw [e] at h
      obtain ⟨p, vs, rfl, hp, _, _, _, rl⟩ := RepD.list ra
      obtain ⟨u, e1, ru⟩ := atI_rep e rl
      exact ix_list value slice pins s σ H _ y vx vy Q I rx ry ⟨p, vs, k, u, rfl, RepD.intV rb, .inl hp, e1, OkG.ret (show OkV X T cls Ex w H (.ok (el g d) st) Q from h) j (Rep.el ru)⟩ hs
  · rename_i g xs g' k
    cases e : atI xs k with
    | none => rw [e] at h; exact h.elim
    | some d =>
      rw [e] at h
      obtain ⟨p, vs, rfl, hp, _, rl⟩ := RepD.tuple ra
      obtain ⟨u, e1, ru⟩ := atI_rep e rl
      exact ix_tup value slice pins s σ H _ y vx vy Q I rx ry ⟨p, vs, k, u, rfl, RepD.intV rb, hp, e1, OkG.ret (show OkV X T cls Ex w H (.ok (el g d) st) Q from h) j (Rep.el ru)⟩ hs
  · rename_i g z g' k
    split at h
    · exact h.elim
    · rename_i hz
      cases e : atI z.cps.toList k with
      | none => rw [e] at h; exact h.elim
      | some c =>
        rw [e] at h
        obtain ⟨rfl, hk⟩ := RepD.strV ra
        refine ix_str value slice pins s σ H _ y vx vy Q I rx ry ⟨z, k, c, rfl, RepD.intV rb, by rw [← lim_eq]; omega, e, ?_⟩ hs
        refine OkG.ret (show OkV X T cls Ex w H (.ok (rvS ⟨#[c]⟩) st) Q from h) j (RepD.str _ ?_)
        have hm : c ∈ z.cps.toList := by
          unfold atI at e
          cases e1 : ixN z.cps.toList.length k with
          | none => rw [e1] at e; cases e
          | some i => rw [e1] at e; exact List.mem_of_getElem? e
        have hk' : z.cps.all (· < 0x110000) = true := hk
        rw [Array.all_eq_true_iff_forall_mem] at hk'
        show (#[c] : Array Nat).all (· < 0x110000) = true
        simpa using hk' c (by simpa using hm)
  · rename_i n g' d
    split at h
    · rename_i xs k hn
      cases e : atI xs k with
      | none => rw [e] at h; exact h.elim
      | some d =>
        rw [e] at h
        obtain ⟨p, ep, rfl, vs, h1, h2, h3⟩ := atCell j ra hn
        obtain ⟨u, e1, ru⟩ := atI_reps e h2
        exact ix_list value slice pins s σ H _ y vx vy Q I rx ry ⟨p, vs, k, u, rfl, RepD.intV rb, SqL.of h1, e1, OkG.ret (show OkV X T cls Ex w H (.ok d st) Q from h) j ru⟩ hs
    · rename_i lk kvs hn
      split at h
      · rename_i hk
        obtain ⟨p, ep, rfl, es, h1, h0, h2, h3⟩ := atCell j ra hn
        obtain ⟨us, ru, hm⟩ := dic_view I h1 h2
        obtain ⟨ys, k, rfl, ek⟩ := keyOk_tup hk
        obtain ⟨q, rfl⟩ := rep_ref (K := X.K) rb
        obtain rfl : vy = .ref q := ry
        obtain rfl : vx = .ref p := rx
        have his := key_is I ek hk (RepD.dp rb)
        have hl := look_at ek h2 ru
        cases e1 : dget kvs (.tuple ys) with
        | none => rw [e1] at h; exact h.elim
        | some rv =>
          rw [e1] at h hl
          cases e2 : atKey us k with
          | none => rw [e2] at hl; exact hl.elim
          | some pv =>
            rw [e2] at hl
            obtain ⟨u, ru', rl⟩ := hl
            refine PyProof.Rows.subscriptTail_builtinR (x := pv.2) hm.typeIs PySem.F.slot_dict_getitem.lookup ?_ hs
            exact wpAny_getItem_heap (Q := fun r s' => r = pv.2 ∧ EP X pins σ Q r s') (room8 hu) his hm e2 ⟨rfl, u, H, I.tok _, rl, OkG.ret (show OkV X T cls Ex w H (.ok rv st) Q from h) j ru'⟩
      · exact h.elim
    · rename_i kvs sk hn
      obtain ⟨p, ep, rfl, vs, h1, h2⟩ := atCell j ra hn
      obtain ⟨rfl, hk⟩ := RepD.strV rb
      cases e : kvs.lookup sk with
      | none => rw [e] at h; exact h.elim
      | some rv =>
        rw [e] at h
        obtain ⟨u, hu1, ru⟩ := sd_look h2 e
        obtain rfl : vx = .ref p := rx
        obtain ⟨z, hd, ws, rel, dd⟩ := dk_rd I.hok (.inl h1)
        obtain ⟨w', hw, rw'⟩ := RelO.some_of (v := u) (o := valueAt ws (.inr sk)) (by rw [← hu1]; exact rel.val (.inr sk))
        refine PyProof.Rows.subscriptTail_builtinR (x := w') dd.typeIs PySem.F.slot_dict_getitem.lookup ?_ hs
        exact wpAny_getItem_of (Q := fun r s' => r = w' ∧ EP X pins σ Q r s') (kV_is (k := .inr sk) ry) dd.mapOf hw ⟨rfl, u, H, I.tok _, rw', OkG.ret (show OkV X T cls Ex w H (.ok rv st) Q from h) j ru⟩
    · exact h.elim
  · exact h.elim
theorem Paired.take {α β : Type} {R : α → β → Prop} : ∀ {l : List α} {m : List β} (n : Nat), Paired R l m → Paired R (l.take n) (m.take n)
  | _, _, 0, _ => .nil
  | _, _, _ + 1, .nil => .nil
  | _, _, n + 1, .cons a t => .cons a (Paired.take n t)
theorem Paired.drop {α β : Type} {R : α → β → Prop} : ∀ {l : List α} {m : List β} (n : Nat), Paired R l m → Paired R (l.drop n) (m.drop n)
  | _, _, 0, h => h
  | _, _, _ + 1, .nil => .nil
  | _, _, n + 1, .cons _ t => Paired.drop n t
theorem cut_rep {F P : Addr → Prop} {xs : List PyData} {vs : List V} {lo hi : Option Int} (r : RepL K H F P xs vs) : RepL K H F P (cut xs lo hi) (cutV vs lo hi) := by
  unfold cut cutV
  rw [← RepL.length r]
  exact RepL.take _ (RepL.drop _ r)
theorem cut_reps {xs : List RV} {vs : List V} {lo hi : Option Int} (r : RepVs K w H xs vs) : RepVs K w H (cut xs lo hi) (cutV vs lo hi) := by
  unfold cut cutV
  rw [← r.length]
  exact Paired.take _ (Paired.drop _ r)
def rSlX (X : Cx) (T : List (Addr × Str)) (cls : Nat → Value) (Ex : XK) : V → Option Int → Option Int → Hp → VK → Prop := fun x lo hi H Q => ∃ w st a, JX X T w st H ∧ RepV X.K w H a x ∧ OkV X T cls Ex w H (Res.ofOpt (slice st a lo hi) st) Q
theorem slX : SlR X (rSlX X T cls Ex) := by
  intro pins s σ H x v vl vu lo hi sl Q I rx hs pl pu h
  obtain ⟨w, st, a, j, ra, h⟩ := h
  unfold slice at h
  split at h
  · rename_i g xs
    obtain ⟨p, vs, rfl, hp, _, _, hlen, rl⟩ := RepD.list ra
    exact sl_list pins s σ H _ v vl vu lo hi sl Q I rx hs pl pu ⟨p, vs, rfl, .inl hp, OkG.new (show OkV X T cls Ex w H (.ok (.d (lstG g (cut xs lo hi)) (.list (cut xs lo hi))) st) Q from h) j (Nat.le_trans (cutV_length vs lo hi) hlen) (cut_rep rl)⟩
  · rename_i g xs
    have ra' := ra
    obtain ⟨p, vs, rfl, hp, hlen, rl⟩ := RepD.tuple ra
    refine sl_tupA pins s σ H _ v vl vu lo hi sl Q I rx hs pl pu ⟨p, vs, rfl, hp, fun e => ?_, fun _ q hq => ?_⟩
    · refine OkG.ret (show OkV X T cls Ex w H (.ok (.d g (.tuple (cut xs lo hi))) st) Q from h) j ?_
      have e' : cut xs lo hi = xs := by
        unfold cut
        rw [RepL.length rl, e.1, e.2, List.drop_zero, Nat.sub_zero, ← RepL.length rl, List.take_length]
      rw [e']
      exact ra'
    · have s' : Stp w w H (upd H q (.tup (cutV vs lo hi))) := Stp.fresh hq
      obtain ⟨hf, _⟩ := j.freshP hq
      have h' : OkV X T cls Ex w H (.ok (.d g (.tuple (cut xs lo hi))) st) Q := h
      refine h' w _ _ s' (j.fresh hq (fun ps z => by cases z)) ?_
      exact RepD.tup (.inl upd_same) hf (Nat.le_trans (cutV_length vs lo hi) hlen) (RepL.stp s' (cut_rep rl))
  · rename_i g z
    split at h
    · rename_i hz
      obtain ⟨rfl, hk⟩ := RepD.strV ra
      refine sl_str pins s σ H _ v vl vu lo hi sl Q I rx hs pl pu ⟨z, rfl, by rw [← lim_eq]; exact hz, ?_⟩
      refine OkG.ret (show OkV X T cls Ex w H (.ok (rvS (cutS z lo hi)) st) Q from h) j (RepD.str _ ?_)
      have hk' : z.cps.all (· < 0x110000) = true := hk
      rw [Array.all_eq_true_iff_forall_mem] at hk'
      show (cutS z lo hi).cps.all (· < 0x110000) = true
      rw [Array.all_eq_true_iff_forall_mem]
      intro c hc
      refine hk' c ?_
      unfold cutS at hc
      simp only [List.mem_toArray] at hc
      simpa using List.mem_of_mem_drop (List.mem_of_mem_take hc)
    · exact h.elim
  · rename_i n
    split at h
    · rename_i xs hn
      obtain ⟨p, ep, rfl, vs, h1, h2, h3⟩ := atCell j ra hn
      exact sl_list pins s σ H _ v vl vu lo hi sl Q I rx hs pl pu ⟨p, vs, rfl, SqL.of h1, new_of_mkLst j h (cut_reps h2) (Nat.le_trans (cutV_length vs lo hi) h3)⟩
    · exact h.elim
  · exact h.elim
end
end DL

-- DPut
/-! DPut: o[i] = v; {} and dict(pairs). -/
namespace DL
open PySem L2
section
variable {X : Cx} {T : List (Addr × Str)} {cls : Nat → Value} {Ex : XK} {w : Wd} {H : Hp} {st : Store} {v : V} {rv : RV} {pins : List (Addr × Obj)} {s : Shared} {σ : St} {K : PySem.W.Frag} {kvs : List (PyData × RV)} {es : List Ent}
  {us : List (NestedKey × Addr × Value)}

mutual
theorem toKey_noL : ∀ (x : PyData) (k : NestedKey), toKey x = some k → noL x = true
  | .none, _, _ => by simp [noL]
  | .int _, _, _ => by simp [noL]
  | .str _, _, _ => by simp [noL]
  | .tuple xs, k, e => by
    simp only [toKey, Option.map_eq_some_iff] at e
    obtain ⟨ks, e, _⟩ := e
    simpa [noL] using toKeys_noL xs ks e
  | .bool _, _, e => by simp [toKey] at e
  | .list _, _, e => by simp [toKey] at e
  | .dict _, _, e => by simp [toKey] at e
theorem toKeys_noL : ∀ (xs : List PyData) (ks : List NestedKey), toKeys xs = some ks → noLs xs = true
  | [], _, _ => by simp [noLs]
  | x :: xs, ks, e => by
    simp only [toKeys] at e
    split at e
    · rename_i k ks' e1 e2
      simp only [noLs, Bool.and_eq_true]
      exact ⟨toKey_noL x k e1, toKeys_noL xs ks' e2⟩
    · cases e
end
theorem dicAt_stay {P : Program} {W : World} {a : Addr} {h1 h2 : Heap} (x : dicAt P W a es h1) (k : ∀ o, h1.get? a = some o → h2.get? a = some o) : dicAt P W a es h2 := by
  obtain ⟨us, ru, o, est, ep, e1, r⟩ := x
  exact ⟨us, ru, o, est, ep, k _ e1, r⟩
theorem dic_ok {P : Program} {W : World} {H : Hp} {h : Heap} {a : Addr} (ru : Paired EntU es us) (m : h.DictOfH (nestedKind P W) a us) : ObjOk P W H h a (dicO P W a es) := by
  obtain ⟨o, est, ep, e1, e2, e3, e4, _, e5⟩ := m
  exact ⟨⟨us, ru, o, est, ep, e1, e2, e3, e4, e5⟩, ⟨o, e1⟩, fun _ _ => dicAt_stay⟩

/-- the entries after a store -/
def storeE (es : List Ent) (k : NestedKey) (q : Addr) (v : V) : List Ent :=
  if (es.any fun e => decide (e.1 = k)) = true then es.map fun e => if e.1 = k then (e.1, e.2.1, v) else e else es ++ [(k, q, v)]
theorem any_ent (ru : Paired EntU es us) (k : NestedKey) : (es.any fun e => decide (e.1 = k)) = (atKey us k).isSome := by
  induction ru with
  | nil => rfl
  | @cons e u es us h _ ih =>
    rw [List.any_cons, ih, h.1]
    by_cases q : u.1 = k
    · simp [atKey, q]
    · simp [atKey, q]
theorem any_kv (r : Paired (EntR K w H) kvs es) {x : PyData} {k : NestedKey} (e : toKey x = some k) : (kvs.any fun p => same p.1 x) = (es.any fun e => decide (e.1 = k)) := by
  induction r with
  | nil => rfl
  | cons h _ ih => rw [List.any_cons, List.any_cons, ih, same_key h.1 e]
theorem Paired.snoc' {α β : Type} {R : α → β → Prop} {l : List α} {m : List β} {a : α} {b : β} (h : Paired R l m) (r : R a b) : Paired R (l ++ [a]) (m ++ [b]) := Paired.snoc h r
theorem store_u (ru : Paired EntU es us) {k : NestedKey} {q : Addr} {v : V} {u : Value} (r : RelV v u) : Paired EntU (storeE es k q v) (storedH us k q u) := by
  unfold storeE storedH
  rw [any_ent ru k]
  split
  · rename_i hh
    clear hh
    induction ru with
    | nil => exact .nil
    | @cons e y es us h _ ih =>
      refine .cons ?_ ih
      unfold putAt
      dsimp only
      rw [h.1]
      by_cases z : y.1 = k
      · rw [if_pos z, if_pos z]; exact ⟨rfl, h.2.1, r⟩
      · rw [if_neg z, if_neg z]; exact h
  · exact Paired.snoc ru ⟨rfl, rfl, r⟩
theorem store_kv (r : Paired (EntR K w H) kvs es) {x : PyData} {k : NestedKey} (e : toKey x = some k) (ok : keyOk x = true) {q : Addr} {v : V} {rv : RV} (rx : Rep K w H .pur x (.ref q)) (rr : RepV K w H rv v) :
    Paired (EntR K w H) (dput kvs x rv) (storeE es k q v) := by
  unfold dput storeE
  rw [any_kv r e]
  split
  · rename_i hh
    clear hh
    induction r with
    | nil => exact .nil
    | @cons p en kvs es h _ ih =>
      refine .cons ?_ ih
      dsimp only
      rw [same_key h.1 e]
      by_cases z : en.1 = k
      · simp only [z, decide_true, if_true]
        exact ⟨by rw [← z]; exact h.1, h.2.1, h.2.2.1, rr⟩
      · simp only [z, decide_false, if_false, Bool.false_eq_true]; exact h
  · exact Paired.snoc r ⟨e, ok, rx, rr⟩
theorem storeE_len {k : NestedKey} {q : Addr} {v : V} : (storeE es k q v).length ≤ es.length + 1 := by
  unfold storeE
  split <;> simp

def tSetX (X : Cx) (T : List (Addr × Str)) : TSet := fun o i v H Q => ∃ w st ro ri rv, JX X T w st H ∧ RepV X.K w H ro o ∧ RepV X.K w H ri i ∧ RepV X.K w H rv v ∧
  match setItem st ro ri rv with
  | some st' => ∀ H', Stp w w H H' → JX X T w st' H' → Q H'
  | none => False
theorem set_rep (x : List RV) {vs : List V} (r : RepVs K w H x vs) (i : Nat) {rv : RV} {v : V} (h : RepV K w H rv v) : RepVs K w H (x.set i rv) (vs.set i v) := by
  induction r generalizing i with
  | nil => exact .nil
  | cons a t ih =>
    cases i with
    | zero => exact .cons h t
    | succ i => exact .cons a (ih i)
theorem setX (hu : X.A.units + 80 < cLine) : PSet X (tSetX X T) := by
  intro pins s σ H o i v ov iv u Q I ro ri rv h
  obtain ⟨w, st, no, ni, nv, j, r1, r2, r3, h⟩ := h
  revert h
  cases hs : setItem st no ni nv with
  | none => exact fun h => h.elim
  | some st' =>
    intro h
    unfold setItem at hs
    split at hs
    · rename_i n g d
      split at hs
      · rename_i ys jx hn
        split at hs
        · rename_i hb
          simp only [Option.some.injEq] at hs
          subst hs
          obtain ⟨p, ep, rfl, vs, h1, h2, h3⟩ := atCell j r1 hn
          have ei := RepD.intV r2
          subst ei
          have hl := h2.length
          refine set_list pins s σ H _ _ v ov iv u Q I ro ri rv ⟨p, vs, jx, jx.toNat, rfl, rfl, h1, ?_, ?_⟩
          · unfold ixN
            rw [if_pos hb.1, if_pos (by rw [← hl]; exact hb.2)]
          · have hp : p ∈ w.ad := List.mem_of_getElem? ep
            have s' : Stp w w H (upd H p (.lst (vs.set jx.toNat v))) := Stp.put hp (by rw [h1]; trivial)
            refine h _ s' (j.put ep (by rw [h1]; trivial) (fun ps z => by cases z) ⟨_, upd_same, (set_rep ys h2 _ r3).stp s', by rw [List.length_set]; exact h3⟩)
        · cases hs
      · rename_i kvs x hn
        split at hs
        · rename_i hb
          simp only [Option.some.injEq] at hs
          subst hs
          obtain ⟨p, ep, rfl, es, h1, h0, h2, h3⟩ := atCell j r1 hn
          obtain ⟨us, ru, hm⟩ := dic_view I h1 h2
          obtain ⟨ys, k, rfl, ek⟩ := keyOk_tup hb.1
          obtain ⟨q, rfl⟩ := rep_ref (K := X.K) r2
          obtain rfl : ov = .ref p := ro
          obtain rfl : iv = .ref q := ri
          have his := key_is I ek hb.1 (RepD.dp r2)
          have hp : p ∈ w.ad := List.mem_of_getElem? ep
          have l1 := h2.length
          have l2 := ru.length
          refine wpAny_setItem_heap (hsz := by omega) (room8 hu) his hm fun h' hm' hsb => ?_
          have e1 := store_u (k := k) (q := q) ru rv
          have h1' : H p = some (dicO X.prog X.w p es) := h1
          have hmut : Mut (H p) := by rw [h1']; unfold dicO; trivial
          have s' : Stp w w H (upd H p (dicO X.prog X.w p (storeE es k q v))) := Stp.put hp hmut
          refine ⟨upd H p (dicO X.prog X.w p (storeE es k q v)), I.write (t' := s.toks + (nestedKind X.prog X.w).draws k) (e := p) hmut (.inl rfl) (fun b ob hb q => (hsb.2 b hb).trans q) ?_ (dic_ok e1 hm'), h _ s' ?_⟩
          · obtain ⟨o', _, _, e', _⟩ := hm'
            exact ⟨o', e'⟩
          · refine j.put ep hmut (fun ps z => by unfold dicO at z; cases z) ⟨_, upd_same, h0, ?_, ?_⟩
            · exact (store_kv h2 ek hb.1 (Rep.noLst (toKey_noL _ _ ek) r2) r3).mono fun _ _ r => r.stp s'
            · have := @storeE_len es k q v
              have hlim := lim_eq
              have := hb.2
              omega
        · cases hs
      · cases hs
    · cases hs
/-- an empty dict -/
theorem newDic (I : Inv X pins σ H s) : Inv X pins σ (upd H s.heap.objs.size (dicO X.prog X.w s.heap.objs.size [])) { s with heap := s.heap.push { cls := .type "dict", data := .dict #[] } } ∧ (s.heap.objs.size == sysModules) = false :=
  ⟨I.laid (t' := s.toks) (fun _ _ q => Heap.get?_push_of_some _ q) (Nat.le_refl _) (dic_ok .nil (Heap.DictOfH.new s.heap)), beq_eq_false_iff_ne.mpr (Nat.ne_of_gt I.big)⟩
end
end DL

-- DBlt
/-! DBlt: the built-ins. -/
namespace DL
open PySem L2
section
variable {X : Cx} {T : List (Addr × Str)} {cls : Nat → Value} {Ex : XK} {w : Wd} {H : Hp} {st : Store} {v : V} {rv : RV} {pins : List (Addr × Obj)} {s : Shared} {σ : St} {K : PySem.W.Frag} {kvs : List (PyData × RV)} {es : List Ent}
  {us : List (NestedKey × Addr × Value)}

theorem pget {α β : Type} {R : α → β → Prop} : ∀ {l : List α} {m : List β}, Paired R l m → ∀ (i : Nat) {x : α}, l[i]? = some x → ∃ y, m[i]? = some y ∧ R x y
  | _, _, .nil, _, _, e => by simp at e
  | _, _, .cons h _, 0, _, e => by
    simp only [List.getElem?_cons_zero, Option.some.injEq] at e
    subst e
    exact ⟨_, rfl, h⟩
  | _, _, .cons _ t, i + 1, _, e => by
    simp only [List.getElem?_cons_succ] at e
    obtain ⟨y, h1, h2⟩ := pget t i e
    exact ⟨y, by simpa using h1, h2⟩
theorem flat_view (j : JX X T w st H) {p : Gn × List PyData} (r : RepV X.K w H rv v) (h : flat st rv = some p) :
    ∃ a vs, v = .ref a ∧ (SqL X.K H a vs ∨ SqT X.K H a vs) ∧ RepL X.K H w.free (w.ok H p.1) p.2 vs ∧ vs.length ≤ sizeLine := by
  unfold flat at h
  split at h
  · simp only [Option.some.injEq] at h
    subst h
    obtain ⟨a, vs, e, hr, f, _, hl, rl⟩ := RepD.list r
    exact ⟨a, vs, e, .inl (.inl hr), rl, hl⟩
  · simp only [Option.some.injEq] at h
    subst h
    obtain ⟨a, vs, e, hr, hl, rl⟩ := RepD.tuple r
    exact ⟨a, vs, e, .inr hr, rl, hl⟩
  · split at h
    · rename_i xs hn
      obtain ⟨ds, e, rfl⟩ := Option.map_eq_some_iff.mp h
      obtain ⟨a, ea, ev, vs, h3, h4, h5⟩ := atCell j r hn
      exact ⟨a, vs, ev, .inl (SqL.of h3), datas_rep e h4, h5⟩
    · cases h
  · cases h
theorem keys_view (j : JX X T w st H) {ks : List PyData} (r : RepV X.K w H rv v) (h : keys? st rv = some ks) :
    ∃ a lk kvs es, v = .ref a ∧ ks = keysOf kvs ∧ DicHO X.prog X.w H a lk es ∧ (a == sysModules) = false ∧ Paired (EntR X.K w H) kvs es ∧ es.length ≤ sizeLine := by
  unfold keys? at h
  split at h
  · split at h
    · rename_i lk kvs hn
      simp only [Option.some.injEq] at h
      obtain ⟨a, ea, ev, es, h1, h0, h2, h3⟩ := atCell j r hn
      exact ⟨a, lk, kvs, es, ev, h.symm, h1, h0, h2, h3⟩
    · cases h
  · cases h
/-- the keys as they stand -/
theorem keys_rep (r : Paired (EntR K w H) kvs es) : RepL K H w.free (w.ok H .pur) (keysOf kvs) (es.map fun e => .ref e.2.1) := by
  induction r with
  | nil => exact .nil
  | cons h _ ih => exact .cons h.2.2.1 ih
theorem key_noLs (r : Paired (EntR K w H) kvs es) : noLs (keysOf kvs) = true := by
  induction r with
  | nil => rfl
  | cons h _ ih =>
    have := toKey_noL _ _ h.1
    simp only [keysOf, List.map_cons, noLs, this, Bool.true_and]
    exact ih
/-- the entries in the machine, read raw -/
theorem dic_raw (I : Inv X pins σ H s) {a : Addr} {lk : Bool} (h : DicHO X.prog X.w H a lk es) (r : Paired (EntR X.K w H) kvs es) :
    ∃ (ds : Array DictEntry) (ep : Nat), s.heap.DictRaw a ds ep ∧ ds.size = es.length ∧ ∀ (i : Nat) (hi : i < ds.size), ∃ e, es[i]? = some e ∧ ds[i].key = .ref e.2.1 ∧ RelV e.2.2 ds[i].val := by
  obtain ⟨us, ru, hm⟩ := dic_view I h r
  obtain ⟨ds, ep, hr, hs, he⟩ := hm.raw
  refine ⟨ds, ep, hr, by rw [hs, ru.length], fun i hi => ?_⟩
  obtain ⟨y, hy, h1, h2, _⟩ := he i hi
  have : i < es.length := by rw [ru.length, ← hs]; exact hi
  refine ⟨es[i], List.getElem?_eq_getElem this, ?_⟩
  have q : EntU es[i] y := by
    obtain ⟨y', e1, e2⟩ := pget ru i (List.getElem?_eq_getElem this)
    rw [hy] at e1
    cases e1
    exact e2
  rw [h1, h2, q.2.1]
  exact ⟨rfl, q.2.2⟩

/-! ### len, abs, list, tuple, int, max2, min2, sum -/
theorem ret1 {rv : RV} {v : V} {Q : VK} (j : JX X T w st H) (h : OkV X T cls Ex w H (.ok rv st) Q) (r : RepV X.K w H rv v) : Q v H := OkG.ret h j r
theorem RepVs.one {a : RV} {xs : List V} (r : RepVs K w H [a] xs) : ∃ x, xs = [x] ∧ RepV K w H a x := by
  cases r with
  | cons h t => cases t; exact ⟨_, rfl, h⟩
theorem RepVs.two {a b : RV} {xs : List V} (r : RepVs K w H [a, b] xs) : ∃ x y, xs = [x, y] ∧ RepV K w H a x ∧ RepV K w H b y := by
  cases r with
  | cons h t =>
    obtain ⟨y, rfl, r2⟩ := RepVs.one t
    exact ⟨_, y, rfl, h, r2⟩
theorem len_dic (I : Inv X pins σ H s) {a : Addr} {lk : Bool} {Q : VK} (h : DicHO X.prog X.w H a lk es) (h0 : (a == sysModules) = false) (r : Paired (EntR X.K w H) kvs es) (hl : es.length ≤ sizeLine) (q : Q (.int kvs.length) H) :
    wpAny (model X.prog X.w) X.A (call (.builtin "len") [.ref a]) (EP X pins σ Q) X.xe s := by
  obtain ⟨ds, ep, hr, hs, _⟩ := dic_raw I h r
  have e : (ds.size : Int) = kvs.length := by rw [hs, r.length]
  have hz := sizeLine_eq
  refine PyProof.Rows.call_len_slot hr.typeIs PySem.F.slot_dict_len (n := ds.size) (fun Q' hq => PySem.call_len_raw h0 hr hq) (by omega) (by omega) ⟨.int kvs.length, H, I.tok _, ⟨_, by rw [e]⟩, q⟩
theorem bl_len : CallR X (.builtin "len") (rFn X T cls Ex bLen) := by
  intro pins s σ H xs us Q I r h
  obtain ⟨w, st, vs, j, rv, h⟩ := h
  unfold bLen at h
  split at h
  · obtain ⟨x, rfl, r1⟩ := RepVs.one rv
    rename_i zs
    obtain ⟨a, vs, rfl, hr, f, _, hl, rl⟩ := RepD.list r1
    exact call_len_seq pins s σ H _ us Q I r ⟨a, vs, rfl, .inl (.inl hr), by rw [← RepL.length rl]; exact ret1 j h (repI w H _)⟩
  · obtain ⟨x, rfl, r1⟩ := RepVs.one rv
    obtain ⟨a, vs, rfl, hr, hl, rl⟩ := RepD.tuple r1
    exact call_len_seq pins s σ H _ us Q I r ⟨a, vs, rfl, .inr hr, by rw [← RepL.length rl]; exact ret1 j h (repI w H _)⟩
  · obtain ⟨x, rfl, r1⟩ := RepVs.one rv
    split at h
    · rename_i hz
      obtain ⟨rfl, _⟩ := RepD.strV r1
      exact call_len_str pins s σ H _ us Q I r ⟨_, rfl, by rw [← lim_eq]; exact hz, ret1 j h (repI w H _)⟩
    · exact h.elim
  · obtain ⟨x, rfl, r1⟩ := RepVs.one rv
    split at h
    · rename_i ys hn
      obtain ⟨a, ea, rfl, vs, h3, h4, h5⟩ := atCell j r1 hn
      exact call_len_seq pins s σ H _ us Q I r ⟨a, vs, rfl, .inl (SqL.of h3), by rw [← h4.length]; exact ret1 j h (repI w H _)⟩
    · rename_i lk kvs hn
      obtain ⟨a, ea, rfl, es, h1, h0, h2, h3⟩ := atCell j r1 hn
      rw [Vals.ref1 r]
      exact len_dic I h1 h0 h2 h3 (ret1 j h (repI w H _))
    · exact h.elim
  · exact h.elim
theorem bl_abs : CallR X (.builtin "abs") (rFn X T cls Ex fun _ => bAbs) := by
  intro pins s σ H xs us Q I r h
  obtain ⟨w, st, vs, j, rv, h⟩ := h
  unfold bAbs at h
  dsimp only at h
  split at h
  · obtain ⟨x, rfl, r1⟩ := RepVs.one rv
    have e := RepD.intV r1
    subst e
    exact call_abs pins s σ H _ us Q I r ⟨_, rfl, ret1 j h (repI w H _)⟩
  · exact h.elim
/-- divmod(i, j) -/
theorem bl_dvm : CallR X (.builtin "divmod") (rFn X T cls Ex fun _ => bDvm) := by
  intro pins s σ H xs us Q I r h
  obtain ⟨w, st, vs, j, rv, h⟩ := h
  unfold bDvm at h
  dsimp only at h
  split at h
  · rename_i k _ n
    obtain ⟨x, y, rfl, r1, r2⟩ := RepVs.two rv
    have e := RepD.intV r1
    subst e
    have e := RepD.intV r2
    subst e
    split at h
    · rename_i hb
      refine call_divmod pins s σ H _ us Q I r ⟨_, _, rfl, (c_fdiv _ _ _ (if_pos hb)).1, ?_⟩
      exact OkG.newTup (g := .pur) (xs := [.int _, .int _]) h j (by rw [sizeLine_eq]; show (2 : Nat) ≤ _; decide) (.cons (RepD.int _) (.cons (RepD.int _) .nil))
    · exact h.elim
  · exact h.elim
theorem bl_max2 (hc : X.calm = true) : CallR X (.builtin "max") (rFn X T cls Ex fun _ => bMax2) := by
  intro pins s σ H xs us Q I r h
  obtain ⟨w, st, vs, j, rv, h⟩ := h
  unfold bMax2 at h
  dsimp only at h
  split at h
  · obtain ⟨x, y, rfl, r1, r2⟩ := RepVs.two rv
    have e := RepD.intV r1
    subst e
    have e := RepD.intV r2
    subst e
    exact call_max2 hc pins s σ H _ us Q I r ⟨_, _, rfl, ret1 j h (repI w H _)⟩
  · exact h.elim
theorem bl_int : CallR X (.type "int") (rFn X T cls Ex fun _ => bInt) := by
  intro pins s σ H xs us Q I r h
  obtain ⟨w, st, vs, j, rv, h⟩ := h
  unfold bInt at h
  dsimp only at h
  split at h
  · obtain ⟨x, rfl, r1⟩ := RepVs.one rv
    have e := RepD.blV r1
    subst e
    exact call_int1 pins s σ H _ us Q I r (.inr ⟨_, rfl, ret1 j h (repI w H _)⟩)
  · obtain ⟨x, rfl, r1⟩ := RepVs.one rv
    have e := RepD.intV r1
    subst e
    exact call_int1 pins s σ H _ us Q I r (.inl ⟨_, rfl, ret1 j h (repI w H _)⟩)
  · exact h.elim
theorem mapM_ints {F P : Addr → Prop} : ∀ {ds : List PyData} {ns : List Int} {vs : List V}, ds.mapM intOf = some ns → RepL K H F P ds vs → vs = ns.map V.int
  | [], ns, _, e, .nil => by
    simp only [List.mapM_nil, Option.pure_def, Option.some.injEq] at e
    subst e
    rfl
  | x :: ds, ns, _, e, .cons h t => by
    simp only [List.mapM_cons, Option.pure_def, Option.bind_eq_bind, Option.bind_eq_some_iff, Option.some.injEq] at e
    obtain ⟨n, e1, ms, e2, rfl⟩ := e
    rw [mapM_ints e2 t]
    unfold intOf at e1
    split at e1
    · simp only [Option.some.injEq] at e1
      subst e1
      rw [RepD.intV h, List.map_cons]
    · cases e1
theorem bl_sum (hc : X.calm = true) : CallR X (.builtin "sum") (rFn X T cls Ex fun _ => bSum) := by
  intro pins s σ H xs us Q I r h
  obtain ⟨w, st, vs, j, rv, h⟩ := h
  unfold bSum at h
  dsimp only at h
  split at h
  · rename_i g ds
    obtain ⟨x, rfl, r1⟩ := RepVs.one rv
    obtain ⟨a, vs, rfl, hr, _, _, hl, rl⟩ := RepD.list r1
    cases e2 : ds.mapM intOf with
    | none => rw [e2] at h; exact h.elim
    | some ns =>
      rw [e2] at h
      have ev := mapM_ints e2 rl
      subst ev
      exact cr_sum hc pins s σ H _ us Q I r ⟨a, ns, rfl, .inl hr, ret1 j h (repI w H _)⟩
  · exact h.elim
/-- what the walk over the keys collects -/
theorem keys_acc {ds : Array DictEntry} {acc : Array Value} (hs : ds.size = es.length) (he : ∀ (i : Nat) (hi : i < ds.size), ∃ e, es[i]? = some e ∧ ds[i].key = .ref e.2.1 ∧ RelV e.2.2 ds[i].val)
    (hacc : ItemsOf (fun i v => ∃ hi : i < ds.size, v = ds[i].key) acc ds.size) : acc.toList = es.map fun e => Value.ref e.2.1 := by
  refine List.ext_getElem? fun i => ?_
  rw [List.getElem?_map]
  by_cases hi : i < es.length
  · have h1 : i < acc.toList.length := by rw [Array.length_toList, hacc.1, hs]; exact hi
    have h2 := List.getElem?_eq_getElem h1
    obtain ⟨hi', e1⟩ := hacc.2 i _ (by rw [← Array.getElem?_toList]; exact h2)
    obtain ⟨e, e2, e3, _⟩ := he i hi'
    rw [h2, e1, e2, e3]
    rfl
  · rw [List.getElem?_eq_none (by rw [Array.length_toList, hacc.1, hs]; omega), List.getElem?_eq_none (by omega)]
    rfl
theorem refs_vals : ∀ (es : List Ent), Vals (es.map fun e => V.ref e.2.1) (es.map fun e => Value.ref e.2.1)
  | [] => .nil
  | _ :: es => .cons rfl (refs_vals es)
theorem bl_list (hc : X.calm = true) : CallR X (.type "list") (rFn X T cls Ex bList) := by
  intro pins s σ H xs us Q I r h
  obtain ⟨w, st, vs, j, rv, h⟩ := h
  unfold bList at h
  split at h
  · rename_i a
    obtain ⟨x, rfl, r1⟩ := RepVs.one rv
    unfold seqOf at h
    split at h
    · rename_i ks hk
      obtain ⟨b, lk, kvs, es, rfl, rfl, h1, h0, h2, h3⟩ := keys_view j r1 hk
      rw [Vals.ref1 r]
      obtain ⟨ds, ep, hr, hs, he⟩ := dic_raw I h1 h2
      refine PySem.W.kdl_call (PySem.KdlSrc.rawDict h0) (I.ok.hd hc) hr (by omega) fun h' tk acc c' hk hD hacc => ?_
      have ev := keys_acc hs he hacc
      refine ⟨.ref s.heap.objs.size, upd H s.heap.objs.size (.lst (es.map fun e => .ref e.2.1)), I.laid (t' := tk) hk (Nat.le_refl _) (show ObjOk X.prog X.w _ _ _ (.lst (es.map fun e => V.ref e.2.1)) from ⟨by simpa using h3, acc.toList, c', ?_, by rw [Array.toArray_toList]; exact hD⟩), rfl, ?_⟩
      · rw [ev]
        exact refs_vals es
      · exact OkG.new (g := .pur) (xs := keysOf kvs) h j (by simpa using h3) (keys_rep h2) _ (I.hok.fresh (Nat.le_refl _))
    · cases e : flat st a with
      | none => rw [e] at h; exact h.elim
      | some p =>
        rw [e] at h
        obtain ⟨b, vs, rfl, hs, rl, hl⟩ := flat_view j r1 e
        exact call_list_of pins s σ H _ us Q I r ⟨b, vs, rfl, hs, OkG.new h j hl rl⟩
  · exact h.elim
theorem bl_tup : CallR X (.type "tuple") (rFn X T cls Ex bTup) := by
  intro pins s σ H xs us Q I r h
  obtain ⟨w, st, vs, j, rv, h⟩ := h
  unfold bTup at h
  split at h
  · obtain ⟨x, rfl, r1⟩ := RepVs.one rv
    obtain ⟨a, vs, rfl, hr, hl, rl⟩ := RepD.tuple r1
    exact call_tuple_of pins s σ H _ us Q I r ⟨a, vs, rfl, .inr ⟨hr, ret1 j h r1⟩⟩
  · obtain ⟨x, rfl, r1⟩ := RepVs.one rv
    obtain ⟨a, vs, rfl, hr, _, _, hl, rl⟩ := RepD.list r1
    exact call_tuple_of pins s σ H _ us Q I r ⟨a, vs, rfl, .inl ⟨.inl hr, OkG.newTup h j hl rl⟩⟩
  · rename_i n
    obtain ⟨x, rfl, r1⟩ := RepVs.one rv
    split at h
    · rename_i xs hn
      cases e : datas? xs with
      | none => rw [e] at h; exact h.elim
      | some ds =>
        rw [e] at h
        obtain ⟨a, ea, rfl, vs, h3, h4, h5⟩ := atCell j r1 hn
        exact call_tuple_of pins s σ H _ us Q I r ⟨a, vs, rfl, .inl ⟨SqL.of h3, OkG.newTup h j h5 (datas_rep e h4)⟩⟩
    · exact h.elim
  · exact h.elim
end
end DL

-- DMin
/-! DMin: min, max of a list or a tuple; sorted. -/
namespace DL
open PySem L2
section
variable {X : Cx} {T : List (Addr × Str)} {cls : Nat → Value} {Ex : XK} {w : Wd} {H : Hp} {st : Store} {v : V} {rv : RV} {pins : List (Addr × Obj)} {s : Shared} {σ : St} {K : PySem.W.Frag} {kvs : List (PyData × RV)} {es : List Ent}
  {us : List (NestedKey × Addr × Value)}

/-- a rule for the least (the greatest) -/
def LstR (f : PyData → List PyData → PyData) (nm : String) : Prop := ∀ {prog : Program} {w : World} {A : Around} {E : Value → Shared → Prop} {s : Shared} {l : Addr} {vs : Array Value} {x : PyData} {xs : List PyData} {as : List Addr} {Q : Value → Shared → Prop},
  A.handled = none → (s.heap.IsList l vs ∨ s.heap.IsTuple l vs) → ReadsAll s.heap vs.toList (x :: xs) as → PySem.W.AlikeAll (x :: xs) → A.units + 1 + PyData.depthAll (x :: xs) < cLine →
  (∀ (i : Nat) v h' tk bs, vs[i]? = some v → Reads h' v (f x xs) bs → (∀ b o, s.heap.get? b = some o → h'.get? b = some o) → Q v { s with heap := h', toks := tk }) →
  wpAny (model prog w) A (call (.builtin nm) [.ref l]) Q E s
def LstD (f : PyData → List PyData → PyData) (nm : String) : Prop := ∀ {prog : Program} {w : World} {A : Around} {E : Value → Shared → Prop} {s : Shared} {l : Addr} {vs : Array Value} {xs : List PyData} {as : List Addr} {d : Value} {Q : Value → Shared → Prop},
  A.handled = none → (s.heap.IsList l vs ∨ s.heap.IsTuple l vs) → ReadsAll s.heap vs.toList xs as → PySem.W.AlikeAll xs → A.units + 1 + PyData.depthAll xs < cLine →
  (xs = [] → ∀ h' tk, (∀ b o, s.heap.get? b = some o → h'.get? b = some o) → Q d { s with heap := h', toks := tk }) →
  (∀ (y : PyData) (ys : List PyData) (i : Nat) v h' tk bs, xs = y :: ys → vs[i]? = some v → Reads h' v (f y ys) bs → (∀ b o, s.heap.get? b = some o → h'.get? b = some o) → Q v { s with heap := h', toks := tk }) →
  wpAny (model prog w) A (call (.builtin nm) [.ref l] [(Str.ofString "default", d)]) Q E s
theorem lst_min : LstR PySem.W.minD "min" := fun hh hl hr ha hu h => hl.elim (fun hl => PySem.W.min_list_data hh hl hr ha hu h) fun hl => PySem.W.min_tuple_data hh hl hr ha hu h
theorem lst_max : LstR PySem.W.maxD "max" := fun hh hl hr ha hu h => hl.elim (fun hl => PySem.W.max_list_data hh hl hr ha hu h) fun hl => PySem.W.max_tuple_data hh hl hr ha hu h
theorem lst_minD : LstD PySem.W.minD "min" := fun hh hl hr ha hu h0 h => hl.elim (fun hl => PySem.W.min_list_default hh hl hr ha hu h0 h) fun hl => PySem.W.min_tuple_default hh hl hr ha hu h0 h
theorem lst_maxD : LstD PySem.W.maxD "max" := fun hh hl hr ha hu h0 h => hl.elim (fun hl => PySem.W.max_list_default hh hl hr ha hu h0 h) fun hl => PySem.W.max_tuple_default hh hl hr ha hu h0 h

theorem minOk_alike {ds : List PyData} (h : minOk ds = true) : PySem.W.AlikeAll ds ∧ PyData.depthAll ds ≤ 60 := by
  unfold minOk allAlike at h
  simp only [Bool.and_eq_true, List.all_eq_true, decide_eq_true_eq] at h
  refine ⟨⟨fun x hx y hy => h.1.1 x hx y hy, fun x hx e => ?_⟩, h.2⟩
  have := h.1.2 x hx
  rw [e] at this
  simp [isNone] at this
/-- the items in the machine -/
theorem seq_its (I : Inv X pins σ H s) {a : Addr} {vs : List V} (h : SqL X.K H a vs ∨ SqT X.K H a vs) : ∃ its, Vals vs its ∧ (s.heap.IsList a its.toArray ∨ s.heap.IsTuple a its.toArray) := by
  rcases h with h | h
  · obtain ⟨its, r, pl, _⟩ := I.list h
    exact ⟨its, r, .inl pl.isList⟩
  · obtain ⟨its, r, pl, _⟩ := I.tuple h
    exact ⟨its, r, .inr pl⟩
theorem vals_get {vs : List V} {us : List Value} (h : Vals vs us) {i : Nat} {u : Value} (e : us[i]? = some u) : ∃ v, vs[i]? = some v ∧ RelV v u := by
  induction h generalizing i with
  | nil => simp at e
  | cons r _ ih =>
    cases i with
    | zero =>
      simp only [List.getElem?_cons_zero, Option.some.injEq] at e
      subst e
      exact ⟨_, rfl, r⟩
    | succ i => simpa using ih (by simpa using e)
/-- the item is the datum -/
theorem pick_item (I : Inv X pins σ H s) {g : Gn} {ds : List PyData} {vs : List V} {its : List Value} (rl : RepL X.K H w.free (w.ok H g) ds vs) (rv : Vals vs its) {h' : Heap} {tk : Nat} (hk : ∀ b o, s.heap.get? b = some o → h'.get? b = some o)
    {i : Nat} {u : Value} {d : PyData} {bs : List Addr} (e : its.toArray[i]? = some u) (r : Reads h' u d bs) : ∃ x, RelV x u ∧ Rep X.K w H g d x := by
  have e' : its[i]? = some u := by simpa using e
  obtain ⟨x, e1, e2⟩ := vals_get rv e'
  have hi : i < ds.length := by rw [RepL.length rl]; exact (List.getElem?_eq_some_iff.mp e1).1
  obtain ⟨x', e3, e4⟩ := RepL.get rl (List.getElem?_eq_getElem hi)
  rw [e1] at e3
  cases e3
  obtain ⟨as, r2⟩ := Dp.reads (I.kept (t' := tk) hk) _ x u (RepD.dp e4) e2
  have := (PySem.Reads.unique r2 _ _ r).1
  rw [← this]
  exact ⟨x, e2, e4⟩
theorem bl_pick {f : PyData → List PyData → PyData} {nm : String} (hf : LstR f nm) (hc : X.calm = true) (hu : X.A.units + 80 < cLine) : CallR X (.builtin nm) (rFn X T cls Ex (bPick f)) := by
  intro pins s σ H xs us Q I r h
  obtain ⟨w, st, vs, j, rv, h⟩ := h
  unfold bPick at h
  split at h
  · rename_i a
    obtain ⟨x, rfl, r1⟩ := RepVs.one rv
    cases e : flat st a with
    | none => rw [e] at h; exact h.elim
    | some p =>
      rw [e, Option.bind_some] at h
      unfold pick at h
      split at h
      · rename_i hm
        obtain ⟨ha, hd⟩ := minOk_alike hm
        obtain ⟨b, vs, rfl, hs, rl, hl⟩ := flat_view j r1 e
        obtain ⟨its, rvs, hli⟩ := seq_its I hs
        rw [Vals.ref1 r]
        split at h
        · rename_i y ys hy
          rw [hy] at ha hd rl
          obtain ⟨as, hr⟩ := Dp.readsAll I _ _ _ (RepL.dp rl) rvs
          refine hf (I.ok.hd hc) hli (by simpa using hr) ha (by omega) fun i u h' tk bs e1 e2 hk => ?_
          obtain ⟨z, q1, q2⟩ := pick_item I rl rvs (tk := tk) hk e1 e2
          exact ⟨z, H, I.kept hk, q1, ret1 j h (Rep.el q2)⟩
        · exact h.elim
      · exact h.elim
  · exact h.elim
theorem bl_pickD {f : PyData → List PyData → PyData} {nm : String} (hf : LstD f nm) (hc : X.calm = true) (hu : X.A.units + 80 < cLine) :
    CallRK X (.builtin nm) [Str.ofString "default"] (fun xs zs H Q => ∃ x z, xs = [x] ∧ zs = [z] ∧ rFn X T cls Ex (bPickD f) [x, z] H Q) := by
  intro pins s σ H xs zs us ws Q I r rz h
  obtain ⟨x, z, rfl, rfl, w, st, vs, j, rv, h⟩ := h
  unfold bPickD at h
  split at h
  · rename_i a dv
    obtain ⟨x', z', e0, r1, r2⟩ := RepVs.two rv
    cases e0
    obtain ⟨u, rfl, rx⟩ := vals1 rz
    cases e : flat st a with
    | none => rw [e] at h; exact h.elim
    | some p =>
      rw [e, Option.bind_some] at h
      unfold pick at h
      split at h
      · rename_i hm
        obtain ⟨ha, hd⟩ := minOk_alike hm
        obtain ⟨b, vs, rfl, hs, rl, hl⟩ := flat_view j r1 e
        obtain ⟨its, rvs, hli⟩ := seq_its I hs
        obtain ⟨as, hr⟩ := Dp.readsAll I _ _ _ (RepL.dp rl) rvs
        rw [Vals.ref1 r]
        refine hf (I.ok.hd hc) hli (by simpa using hr) ha (by omega) (fun e0 h' tk hk => ?_) fun y ys i u h' tk bs e0 e1 e2 hk => ?_
        · rw [e0] at h
          exact ⟨z, H, I.kept hk, rx, ret1 j h r2⟩
        · rw [e0] at h
          obtain ⟨z, q1, q2⟩ := pick_item I rl rvs (tk := tk) hk e1 e2
          exact ⟨z, H, I.kept hk, q1, ret1 j h (Rep.el q2)⟩
      · exact h.elim
  · exact h.elim

/-! ### min(a, b) -/
section
variable {prog : Program} {w : World} {A : Around} {E : Value → Shared → Prop} {s : Shared}
theorem min_two_data {x y : Value} {dx dy : PyData} {as : List Addr} {Q : Value → Shared → Prop} (hh : A.handled = none) (hr : ReadsAll s.heap [x, y] [dx, dy] as) (ha : PySem.W.AlikeAll [dx, dy]) (hu : A.units + 1 + PyData.depthAll [dx, dy] < cLine)
    (h : ∀ (i : Nat) v h' tk bs, [x, y][i]? = some v → Reads h' v (PySem.W.minD dx [dy]) bs → (∀ b o, s.heap.get? b = some o → h'.get? b = some o) → Q v { s with heap := h', toks := tk }) :
    wpAny (model prog w) A (call (.builtin "min") [x, y]) Q E s := by
  have hname : (toString "min" ++ toString ".loop" : String) = "min.loop" := by decide
  refine call_function_tree F.kind_min F.plain_min F.entry_min (F.args_min2 _ _) ?_
  show wpAny _ A.in1 (Builtin.Builtins.bindParams "min" ["key", "default"] 0 ⟨[], []⟩ >>= _) _ _ s
  refine wpAny_bind (wpAny_of_eq (show Builtin.Builtins.bindParams "min" ["key", "default"] 0 ⟨[], []⟩ = pure [none, none] from rfl) ?_)
  show wpAny _ A.in1 (newTuple [x, y] >>= _) _ _ s
  refine wpAny_bind (wpAny_newObj_type ?_)
  obtain ⟨s1, hs1⟩ : ∃ s1 : Shared, s1 = { s with heap := s.heap.push { cls := .type "tuple", data := .seq #[x, y] } } := ⟨_, rfl⟩
  have hT : s1.heap.IsTuple s.heap.objs.size #[x, y] := by
    rw [hs1]
    exact ⟨_, Heap.get?_push_size _ rfl, rfl, 0, rfl⟩
  have hold : ∀ b o, s.heap.get? b = some o → s1.heap.get? b = some o := fun b o e => by
    rw [hs1]
    exact Heap.get?_push_of_some _ e
  have hr1 : ReadsAll s1.heap (#[x, y] : Array Value).toList [dx, dy] as := PyProof.Rows.ReadsAll.keeps hold hr
  show wpAny _ A.in1 (pyIter (.ref s.heap.objs.size) >>= _) _ _ { s with heap := s.heap.push { cls := .type "tuple", data := .seq #[x, y] } }
  rw [← hs1]
  refine wpAny_bind (PySem.W.iter_tupleW (A := A.in1) hh hT fun s₂ e W st hfp hw hk => ?_)
  refine wpAny_bind (wpAny_newObj_type ?_)
  have hSf : s₂.heap.objs.size ∉ [s1.heap.objs.size, s.heap.objs.size] := fun hm => Nat.lt_irrefl _ (hfp _ hm)
  rw [hname]
  refine wpAny_pure ⟨plainId_quiet F.plain_min_loop _, PySem.codeAny_min_loop_firstH W s1.heap hw _ (PySem.W.cmpIn_lt (A := A.in1) hr1 ha (by show A.units + 1 + _ < _; exact hu)) s₂.heap.objs.size hSf (PySem.fresh_in hk) _ (by show (0 : Nat) < 2; omega) (fun b o e => Heap.get?_push_of_some _ (hk b o e)) (W.frame 0 s₂ _ s₂.toks st (Nat.le_refl _) fun b _ o e => Heap.get?_push_of_some _ e) (Heap.get?_push_size _ rfl) fun v s' hP hm => ?_⟩
  have m := Moved.drop_new (tk := s₂.toks) hm (Nat.le_refl _)
  obtain ⟨h', tk, rfl, hk'⟩ := PySem.W.moved_old e rfl m
  obtain ⟨bs, r, _, _, _⟩ := PySem.W.readsAll_atA hr1 _ v hP
  have e2 := (PySem.W.argBest_fold PySem.W.dataLt PyData.none dx [dy] 1 (Nat.le_refl _)).2
  rw [show List.take 1 [dy] = [dy] from rfl] at e2
  have r2 : Reads h' v (PySem.W.minD dx [dy]) bs := PySem.W.reads_keeps hk' (by unfold PySem.W.minD; rw [← e2]; exact r)
  have hQ := h _ v h' tk bs (by
    have z := hP
    rw [← Array.getElem?_toList] at z
    exact z) r2 (fun b o e => hk' b o (hold b o e))
  rw [hs1]
  exact hQ
end
theorem bl_min2 (hc : X.calm = true) (hu : X.A.units + 80 < cLine) : CallR X (.builtin "min") (rFn X T cls Ex fun _ => bMin2) := by
  intro pins s σ H xs us Q I r h
  obtain ⟨w, st, vs, j, rv, h⟩ := h
  unfold bMin2 at h
  dsimp only at h
  split at h
  · obtain ⟨x, y, rfl, r1, r2⟩ := RepVs.two rv
    have e := RepD.intV r1
    subst e
    have e := RepD.intV r2
    subst e
    exact call_min2 hc pins s σ H _ us Q I r ⟨_, _, rfl, ret1 j h (repI w H _)⟩
  · rename_i a b _
    cases e : datas? [a, b] with
    | none => rw [e] at h; exact h.elim
    | some ds =>
      rw [e, Option.bind_some] at h
      unfold pick at h
      split at h
      · rename_i hm
        obtain ⟨ha, hd⟩ := minOk_alike hm
        have rl := datas_rep e rv
        obtain ⟨x, y, rfl, r1, r2⟩ := RepVs.two rv
        obtain ⟨u1, u2, rfl, q1, q2⟩ := vals2 r
        cases rl with
        | cons l1 rl =>
        cases rl with
        | cons l2 rl =>
        cases rl
        rename_i dx dy
        dsimp only at h
        have rl2 : RepL X.K H w.free (w.ok H (gnOf [a, b])) [dx, dy] [x, y] := .cons l1 (.cons l2 .nil)
        obtain ⟨as, hr⟩ := Dp.readsAll I _ _ _ (RepL.dp rl2) r
        refine min_two_data (I.ok.hd hc) hr ha (by omega) fun i u h' tk bs e1 e2 hk => ?_
        obtain ⟨z, q1, q2⟩ := pick_item I rl2 r (tk := tk) hk (by simpa using e1) e2
        exact ⟨z, H, I.kept hk, q1, ret1 j h (Rep.el q2)⟩
      · exact h.elim
  · exact h.elim
/-! ### sorted -/
theorem sort_col {prog : Program} {w : World} {A : Around} {E : Value → Shared → Prop} {s : Shared} {r : Addr} {vs : List Value} {ds : List PyData} {R : Value → PyData → Prop} {Q : Value → Shared → Prop}
    (hcol : ∀ P : List Value → Shared → Prop, (∀ h' tk, (∀ b o, s.heap.get? b = some o → h'.get? b = some o) → P vs { s with heap := h', toks := tk }) → wpAny (model prog w) A.in1 (collect (.ref r)) P E s)
    (e : PySem.W.EachIs R vs ds) (er : PySem.W.EachIs (fun v b => ∃ as, Reads s.heap v b as) vs ds) (hal : PySem.W.AllAlike ds) (hk : PySem.W.Sortable ds) (hL : ds.length ≤ sizeLine) (hu : ∀ b, b ∈ ds → A.units + 3 + b.depth < cLine)
    (hQ : ∀ (h1 : Heap) (tk : Nat) (h2 : Heap) (c : Nat) (out : List Value), (∀ b o, s.heap.get? b = some o → h1.get? b = some o) → (∀ b o, h1.get? b = some o → h2.get? b = some o) → h2.get? h1.objs.size = some (PyProof.Rows.seqObj "list" out.toArray c) → PySem.W.EachIs R out (ds.mergeSort (PySem.W.dataLe false id)) → Q (.ref h1.objs.size) { s with heap := h2, toks := tk }) :
    wpAny (model prog w) A (call (.builtin "sorted") [.ref r]) Q E s := by
  have hl : vs.length = ds.length := e.length
  refine Calls.call_function_entry PyProof.Rows.kind_sorted PyProof.Rows.plain_sorted PyProof.Rows.entry_sorted (PyProof.Rows.args_sorted1 _) ?_
  unfold Builtin.«sorted»
  refine wpAny_bind (m := checkCount "sorted" 1 1 _) (wpAny_pure ?_)
  refine wpAny_bind (hcol _ fun h' tk hk' => ?_)
  refine wpAny_bind (wpAny_newList ?_ (by rw [hl]; exact hL))
  have ho : (h'.push (PyProof.Rows.seqObj "list" vs.toArray 0)).get? h'.objs.size = some (PyProof.Rows.seqObj "list" vs.toArray 0) := Heap.get?_push_size _ rfl
  have er' : PySem.W.EachIs (fun v b => ∃ as, Reads (h'.push (PyProof.Rows.seqObj "list" vs.toArray 0)) v b as ∧ h'.objs.size ∉ as) vs ds := er.mono fun v d ⟨as, q⟩ => by
    refine ⟨as, PyProof.Rows.Reads.keeps (fun b o x => Heap.get?_push_of_some _ (hk' b o x)) q, fun hm => ?_⟩
    obtain ⟨o, ho⟩ := PyProof.On.readsAll_mem_get (ReadsAll.cons q .nil) _ (by simpa using hm)
    exact absurd (Heap.lt_size (hk' _ _ ho)) (Nat.lt_irrefl _)
  show wpAny _ _ _ _ _ { s with heap := h'.push (PyProof.Rows.seqObj "list" vs.toArray 0), toks := tk }
  refine wpAny_bind (wpAny_holding (PySem.W.list_sort_data (enc := id) (s := { s with heap := h'.push (PyProof.Rows.seqObj "list" vs.toArray 0), toks := tk }) ho e er' (by simpa using hal) (by simpa using hk) hL (fun b hb => ?_) fun out ho' eo => ?_))
  · have := hu b hb
    show A.units + 1 + 1 + b.depth < cLine
    omega
  · obtain ⟨c, hc⟩ := PyProof.Rows.sortedHeap_at (vs := vs) (out := out.toArray) ho
    refine wpAny_pure ⟨_, rfl, hQ h' tk _ c out hk' (fun b o q => ?_) hc eo⟩
    have hlt := Heap.lt_size q
    show (PyProof.Rows.sortedHeap (h'.push (PyProof.Rows.seqObj "list" vs.toArray 0)) h'.objs.size vs out.toArray).get? b = some o
    rw [PyProof.Rows.sortedHeap_old (Nat.ne_of_lt hlt) (by rw [PyProof.Rows.size_push']; exact Nat.lt_succ_of_lt hlt)]
    exact Heap.get?_push_of_some _ q
theorem col_list {prog : Program} {w : World} {A : Around} {E : Value → Shared → Prop} {s : Shared} {r : Addr} {vs : List Value} (hl : s.heap.IsList r vs.toArray) (hz : vs.length ≤ sizeLine)
    (P : List Value → Shared → Prop) (h : ∀ h' tk, (∀ b o, s.heap.get? b = some o → h'.get? b = some o) → P vs { s with heap := h', toks := tk }) : wpAny (model prog w) A (collect (.ref r)) P E s := by
  refine PyProof.Rows.collect_list hl (h _ s.toks fun b o e => ?_) hz
  rw [Heap.get?_update_ne _ _ _ _ (Nat.ne_of_lt (Heap.lt_size e))]
  exact Heap.get?_push_of_some _ e
/-- a tuple collected -/
theorem col_tup {prog : Program} {w : World} {A : Around} {E : Value → Shared → Prop} {s : Shared} {r : Addr} {vs : List Value} (hl : s.heap.IsTuple r vs.toArray) (hz : vs.length ≤ sizeLine)
    (P : List Value → Shared → Prop) (h : ∀ h' tk, (∀ b o, s.heap.get? b = some o → h'.get? b = some o) → P vs { s with heap := h', toks := tk }) : wpAny (model prog w) A (collect (.ref r)) P E s := by
  obtain ⟨o, ho, hc, n, hd⟩ := hl
  unfold collect
  refine wpAny_bind (wpAny_runValue (codeAny_builtin PyProof.Rows.entry_proto_collect' ?_))
  show wpAny _ _ (do again (.builtin "list.__iadd__" ⟨[← newList [], .ref r], []⟩)) _ _ s
  refine wpAny_bind (wpAny_newList (wpAny_pure ⟨Code.quiet_builtin _ (by decide +kernel), codeAny_builtin PyProof.Rows.entry_list_iadd' ?_⟩))
  generalize hs1 : ({ s with heap := s.heap.push (PyProof.Rows.seqObj "list" #[] 0) } : Shared) = s1
  have k1 : ∀ b ob, s.heap.get? b = some ob → s1.heap.get? b = some ob := fun b ob e => by rw [← hs1]; exact Heap.get?_push_of_some _ e
  have e0 : s1.heap.get? s.heap.objs.size = some (PyProof.Rows.seqObj "list" #[] 0) := by rw [← hs1]; exact Heap.get?_push_size _ rfl
  show wpAny _ _ (Builtin.List.listExtendWith (.ref s.heap.objs.size) (.ref r) (.ref s.heap.objs.size)) _ _ s1
  unfold Builtin.List.listExtendWith
  refine wpAny_bind (wpAny_typeOf (T := "tuple") ⟨o, k1 _ _ ho, hc⟩ ?_)
  have ht : (Value.type "tuple" == Value.type "tuple") = true := by rfl
  rw [if_pos (by rw [ht]; simp)]
  refine wpAny_bind (PyProof.Rows.listItems_at (k1 _ _ ho) hd ?_)
  refine wpAny_bind (PyProof.Rows.listItems_at (xs := #[]) (n := 0) e0 rfl ?_)
  rw [if_neg (by simp)]
  refine wpAny_bind (PyProof.Rows.listUpdate_at (xs := #[]) (n := 0) e0 rfl ?_ (Nat.zero_le _) (by simp only [Array.size_append, List.size_toArray]; show 0 + vs.length ≤ sizeLine + 1; omega))
  refine wpAny_pure ?_
  refine wpAny_bind (wpAny_load (PyProof.Rows.get?_update_seq e0 _) ?_)
  have ev : ((#[] : Array Value) ++ vs.toArray).toList = vs := by simp
  have q := h (s1.heap.update s.heap.objs.size (Obj.mapSeq (· ++ vs.toArray))) s1.toks fun b ob e => by
    rw [Heap.get?_update_ne _ _ _ _ (Nat.ne_of_lt (Heap.lt_size e))]
    exact k1 b ob e
  refine wpAny_pure ?_
  rw [ev, ← hs1]
  rw [← hs1] at q
  exact q
theorem each_rep {g : Gn} : ∀ {ds : List PyData} {vs : List V} {us : List Value}, RepL K H w.free (w.ok H g) ds vs → Vals vs us → PySem.W.EachIs (fun u d => ∃ x, RelV x u ∧ Rep K w H g d x) us ds
  | _, _, _, .nil, .nil => .nil
  | _, _, _, .cons h t, .cons r q => .cons ⟨_, r, h⟩ (each_rep t q)
theorem rep_each {g : Gn} : ∀ {ds : List PyData} {us : List Value}, PySem.W.EachIs (fun u d => ∃ x, RelV x u ∧ Rep K w H g d x) us ds → ∃ vs, Vals vs us ∧ RepL K H w.free (w.ok H g) ds vs
  | _, _, .nil => ⟨[], .nil, .nil⟩
  | _, _, .cons ⟨x, r, h⟩ t => by
    obtain ⟨vs, q1, q2⟩ := rep_each t
    exact ⟨x :: vs, .cons r q1, .cons h q2⟩
theorem sortable_of {ds : List PyData} (h : sortable ds = true) : PySem.W.AllAlike ds ∧ PySem.W.Sortable ds ∧ ∀ b ∈ ds, b.depth ≤ 60 := by
  unfold sortable allAlike at h
  simp only [Bool.and_eq_true, Bool.or_eq_true, List.all_eq_true, decide_eq_true_eq] at h
  refine ⟨fun d hd d' hd' => h.1.1 d hd d' hd', ?_, h.2⟩
  rcases h.1.2 with q | q
  · left
    intro d hd
    have := q d hd
    unfold tupNe at this
    split at this
    · exact ⟨_, _, rfl⟩
    · cases this
  · right
    intro d hd
    have := q d hd
    unfold notTup at this
    split at this
    · cases this
    · cases this
    · rename_i h1 h2
      exact ⟨h1, fun xs => h2 xs⟩
theorem vals_len {vs : List V} {us : List Value} (h : Vals vs us) : vs.length = us.length := by
  induction h with
  | nil => rfl
  | cons _ _ ih => simp [ih]
theorem sort_run (hu : X.A.units + 80 < cLine) {g : Gn} {a : Addr} {ds : List PyData} {vs : List V} {its : List Value} {Q : VK} (I : Inv X pins σ H s) (j : JX X T w st H) (hd : sortable ds = true) (hl : vs.length ≤ sizeLine)
    (hcol : ∀ P : List Value → Shared → Prop, (∀ h' tk, (∀ b o, s.heap.get? b = some o → h'.get? b = some o) → P its { s with heap := h', toks := tk }) → wpAny (model X.prog X.w) X.A.in1 (collect (.ref a)) P X.xe s)
    (rl : RepL X.K H w.free (w.ok H g) ds vs) (rvs : Vals vs its) (h : OkV X T cls Ex w H (.ok (.d (lstG g (sortD ds)) (.list (sortD ds))) st) Q) : wpAny (model X.prog X.w) X.A (call (.builtin "sorted") [.ref a]) (EP X pins σ Q) X.xe s := by
  obtain ⟨hal, hk, hdp⟩ := sortable_of hd
  have er := each_rep rl rvs
  have er' : PySem.W.EachIs (fun v b => ∃ as, Reads s.heap v b as) its ds := er.mono fun u d ⟨x, q1, q2⟩ => Dp.reads I d x u (RepD.dp q2) q1
  refine sort_col hcol er er' hal hk (by rw [RepL.length rl]; exact hl) (fun b hb => ?_) fun h1 tk h2 c out k1 k2 hD ho => ?_
  · have := hdp b hb
    omega
  · obtain ⟨ws, q1, q2⟩ := rep_each ho
    have e1 : ws.length = vs.length := by
      rw [← RepL.length q2, List.length_mergeSort, RepL.length rl]
    have I1 : Inv X pins σ H { s with heap := h1, toks := tk } := I.kept k1
    have hn := I1.hok.fresh (Nat.le_refl _)
    refine ⟨.ref h1.objs.size, upd H h1.objs.size (.lst ws), I1.laid (t' := tk) k2 (Nat.le_refl _) (show ObjOk X.prog X.w _ _ _ (.lst ws) from ⟨by omega, out, c, q1, hD⟩), rfl, ?_⟩
    exact OkG.new h j (by omega) q2 _ hn
theorem bl_sorted (hc : X.calm = true) (hu : X.A.units + 80 < cLine) : CallR X (.builtin "sorted") (rFn X T cls Ex bSorted) := by
  intro pins s σ H xs us Q I r h
  obtain ⟨w, st, vs, j, rv, h⟩ := h
  unfold bSorted at h
  split at h
  · rename_i a
    obtain ⟨x, rfl, r1⟩ := RepVs.one rv
    unfold seqOf at h
    split at h
    · rename_i ks hk
      rw [Option.bind_some] at h
      split at h
      · rename_i hd
        obtain ⟨b, lk, kvs, es, rfl, rfl, h1, h0, h2, h3⟩ := keys_view j r1 hk
        rw [Vals.ref1 r]
        obtain ⟨ds, ep, hr, hs, he⟩ := dic_raw I h1 h2
        refine sort_run (its := es.map fun e => .ref e.2.1) hu I j hd (by simpa using h3) (fun P hP => ?_) (keys_rep h2) (refs_vals es) h
        refine PySem.W.kdu_collect (A := X.A.in1) (PySem.KdlSrc.rawDict h0) (I.ok.hd hc) hr (by omega) fun h' tk acc hk hacc => ?_
        rw [keys_acc hs he hacc]
        exact hP h' tk hk
      · exact h.elim
    · cases e : flat st a with
      | none => rw [e] at h; exact h.elim
      | some p =>
        rw [e, Option.bind_some] at h
        split at h
        · rename_i hd
          obtain ⟨b, vs, rfl, hs, rl, hl⟩ := flat_view j r1 e
          rw [Vals.ref1 r]
          obtain ⟨its, rvs, hli⟩ := seq_its I hs
          have hz := vals_len rvs
          refine sort_run (its := its) hu I j hd hl (fun P hP => ?_) rl rvs h
          rcases hli with hli | hli
          · exact col_list hli (by omega) P hP
          · exact col_tup hli (by omega) P hP
        · exact h.elim
  · exact h.elim
end
end DL

-- DCall
/-! DCall: a call: the callee's store, and what comes back. -/
namespace DL
open PySem L2
section
variable {P : Program} {W : World} {K : PySem.W.Frag} {T : List (Addr × Str)} {w w' : Wd} {st : Store} {H H' : Hp}

/-- what stands ahead of a call: all but the cells and the tables -/
noncomputable def allHp (w : Wd) (H : Hp) : Hp := open Classical in fun b => if b ∈ w.ad ∨ (∃ ps, H b = some (.tbl ps)) then none else H b
theorem allHp_none {b : Addr} (h : allHp w H b = none) : b ∈ w.ad ∨ (∃ ps, H b = some (.tbl ps)) ∨ H b = none := by
  unfold allHp at h
  split at h
  · rename_i q
    exact q.elim .inl fun q => .inr (.inl q)
  · exact .inr (.inr h)
theorem allHp_some {b : Addr} {o : HO} (h : allHp w H b = some o) : H b = some o ∧ b ∉ w.ad ∧ ∀ ps, o ≠ .tbl ps := by
  unfold allHp at h
  split at h
  · cases h
  · rename_i q
    simp only [not_or, not_exists] at q
    exact ⟨h, q.1, fun ps e => q.2 ps (by rw [h, e])⟩
/-- the callee's world: it sees the cells of L -/
noncomputable def Wd.sub (w : Wd) (H : Hp) (L : List Nat) : Wd where
  sb := allHp w H
  ad := L.filterMap (w.ad[·]?)
  no := w.no ++ w.ad.filter fun a => !decide (a ∈ L.filterMap (w.ad[·]?))

theorem sub_at {L : List Nat} (hL : ∀ n ∈ L, n < w.ad.length) (i : Nat) : (L.filterMap (w.ad[·]?))[i]? = (L[i]?).bind (w.ad[·]?) := by
  induction L generalizing i with
  | nil => rfl
  | cons n L ih =>
    have hn : n < w.ad.length := hL n List.mem_cons_self
    rw [List.filterMap_cons]
    rw [List.getElem?_eq_getElem hn]
    cases i with
    | zero => simp [hn]
    | succ i => simpa using ih (fun m hm => hL m (List.mem_cons_of_mem _ hm)) i
theorem sub_len {L : List Nat} (hL : ∀ n ∈ L, n < w.ad.length) : (L.filterMap (w.ad[·]?)).length = L.length := by
  induction L with
  | nil => rfl
  | cons n L ih =>
    have hn : n < w.ad.length := hL n List.mem_cons_self
    rw [List.filterMap_cons, List.getElem?_eq_getElem hn]
    simp [ih fun m hm => hL m (List.mem_cons_of_mem _ hm)]
theorem sub_mem {L : List Nat} {a : Addr} (h : a ∈ L.filterMap (w.ad[·]?)) : a ∈ w.ad := by
  obtain ⟨n, _, e⟩ := List.mem_filterMap.mp h
  exact List.mem_of_getElem? e
theorem sub_free {L : List Nat} (a : Addr) : (w.sub H L).free a ↔ w.free a := by
  show (a ∉ L.filterMap (w.ad[·]?) ∧ a ∉ w.no ++ w.ad.filter fun a => !decide (a ∈ L.filterMap (w.ad[·]?))) ↔ (a ∉ w.ad ∧ a ∉ w.no)
  simp only [List.mem_append, List.mem_filter, Bool.not_eq_true', decide_eq_false_iff_not, not_or, not_and, Classical.not_not]
  constructor
  · rintro ⟨h1, h2, h3⟩
    exact ⟨fun z => h1 (h3 z), h2⟩
  · rintro ⟨h1, h2⟩
    exact ⟨fun z => h1 (sub_mem z), h2, fun z => absurd z h1⟩
theorem sub_ok {L : List Nat} {g : Gn} {a : Addr} (h : w.ok H g a) (hs : H a ≠ none) (ht : ∀ ps, H a ≠ some (.tbl ps)) : (w.sub H L).ok H g.down a := by
  refine ⟨?_, (sub_free a).mpr h.2.1, ?_⟩
  · have q : allHp w H a ≠ none := fun z => by
      rcases allHp_none z with z | ⟨ps, z⟩ | z
      · exact h.2.1.1 z
      · exact ht ps z
      · exact hs z
    cases g with
    | pur => exact h.1.elim
    | new => exact q
    | old => exact q
    | mix => exact q
    | scr => trivial
  · rcases h.2.2 with e | e
    · subst e; exact .inl rfl
    · exact .inr e
mutual
theorem RepD.sub {L : List Nat} {g : Gn} : ∀ {x : PyData} {v : V}, RepD K H w.free (w.ok H g) x v → RepD K H (w.sub H L).free ((w.sub H L).ok H g.down) x v
  | _, _, .non => .non
  | _, _, .bl b => .bl b
  | _, _, .int i => .int i
  | _, _, .str x h => .str x h
  | _, _, .lst h f p hl r => by
    obtain ⟨o, e, t⟩ := Rd.some h (fun ps z => by cases z)
    exact .lst h ((sub_free _).mpr f) (sub_ok p (by rw [e]; simp) fun ps z => t ps (by rw [e] at z; exact Option.some.inj z)) hl (RepL.sub r)
  | _, _, .tup h f hl r => .tup h ((sub_free _).mpr f) hl (RepL.sub r)
  | _, _, .tupK h hc hd hl hv r => .tupK h hc hd hl hv (RepL.sub r)
theorem RepL.sub {L : List Nat} {g : Gn} : ∀ {xs : List PyData} {vs : List V}, RepL K H w.free (w.ok H g) xs vs → RepL K H (w.sub H L).free ((w.sub H L).ok H g.down) xs vs
  | _, _, .nil => .nil
  | _, _, .cons h t => .cons (RepD.sub h) (RepL.sub t)
end
theorem idx_some {L : List Nat} {n i : Nat} (h : idx? L n = some i) : L[i]? = some n := by
  unfold idx? at h
  rw [List.findIdx?_eq_some_iff_getElem] at h
  obtain ⟨hl, e, _⟩ := h
  rw [List.getElem?_eq_getElem hl]
  simpa using e
theorem RepV.sub {L : List Nat} (hL : ∀ n ∈ L, n < w.ad.length) : ∀ {rv rv' : RV} {v : V}, mapRV .down (idx? L) rv = some rv' → RepV K w H rv v → RepV K (w.sub H L) H rv' v
  | .d g x, _, v, e, h => by
    simp only [mapRV, Option.some.injEq] at e
    subst e
    exact RepD.sub h
  | .c n, _, v, e, ⟨a, e1, e2⟩ => by
    simp only [mapRV] at e
    obtain ⟨i, e3, rfl⟩ := Option.map_eq_some_iff.mp e
    refine ⟨a, ?_, e2⟩
    show (L.filterMap (w.ad[·]?))[i]? = some a
    rw [sub_at hL, idx_some e3]
    exact e1
theorem RepVs.map {fd : Gn → Gn} {fc : Nat → Option Nat} {w2 : Wd} {H2 : Hp} (hv : ∀ {rv rv' : RV} {v : V}, mapRV fd fc rv = some rv' → RepV K w H rv v → RepV K w2 H2 rv' v) :
    ∀ {rvs rvs' : List RV} {vs : List V}, rvs.mapM (mapRV fd fc) = some rvs' → RepVs K w H rvs vs → RepVs K w2 H2 rvs' vs
  | [], _, _, e, .nil => by
    simp only [List.mapM_nil, Option.pure_def, Option.some.injEq] at e
    subst e
    exact .nil
  | a :: r, _, _, e, .cons h t => by
    simp only [List.mapM_cons, Option.pure_def, Option.bind_eq_bind, Option.bind_eq_some_iff, Option.some.injEq] at e
    obtain ⟨a', e1, r', e2, rfl⟩ := e
    exact .cons (hv e1 h) (RepVs.map hv e2 t)
/-- a mapped cell -/
theorem cellMap {fd : Gn → Gn} {fc : Nat → Option Nat} {w2 : Wd} {H2 : Hp} (hv : ∀ {rv rv' : RV} {v : V}, mapRV fd fc rv = some rv' → RepV K w H rv v → RepV K w2 H2 rv' v)
    (hp : ∀ {x : PyData} {v : V}, Rep K w H .pur x v → Rep K w2 H2 .pur x v) {a : Addr} (ha : H2 a = H a) {c c' : Cell} (e : mapCell fd fc c = some c') (h : CellOk P W K w H a c) : CellOk P W K w2 H2 a c' := by
  cases c with
  | lst xs =>
    obtain ⟨ys, e1, rfl⟩ := Option.map_eq_some_iff.mp e
    obtain ⟨vs, h1, h2, h3⟩ := h
    exact ⟨vs, ha.trans h1, RepVs.map hv e1 h2, h3⟩
  | dic lk kvs =>
    obtain ⟨ys, e1, rfl⟩ := Option.map_eq_some_iff.mp e
    obtain ⟨es, h1, h0, h2, h3⟩ := h
    refine ⟨es, h1.at_ ha, h0, ?_, h3⟩
    clear h1 h3 e
    induction h2 generalizing ys with
    | nil =>
      simp only [List.mapM_nil, Option.pure_def, Option.some.injEq] at e1
      subst e1
      exact .nil
    | @cons p en kvs es q _ ih =>
      simp only [List.mapM_cons, Option.pure_def, Option.bind_eq_bind, Option.bind_eq_some_iff, Option.some.injEq] at e1
      obtain ⟨p', e1, r', e2, rfl⟩ := e1
      obtain ⟨v', e3, rfl⟩ := Option.map_eq_some_iff.mp e1
      exact .cons ⟨q.1, q.2.1, hp q.2.2.1, hv e3 q.2.2.2⟩ (ih _ e2)
  | sd kvs =>
    obtain ⟨ys, e1, rfl⟩ := Option.map_eq_some_iff.mp e
    obtain ⟨vs, h1, h2⟩ := h
    refine ⟨vs, ha.trans h1, ?_⟩
    clear h1 e
    induction h2 generalizing ys with
    | nil =>
      simp only [List.mapM_nil, Option.pure_def, Option.some.injEq] at e1
      subst e1
      exact .nil
    | @cons p en kvs es q _ ih =>
      simp only [List.mapM_cons, Option.pure_def, Option.bind_eq_bind, Option.bind_eq_some_iff, Option.some.injEq] at e1
      obtain ⟨p', e1, r', e2, rfl⟩ := e1
      obtain ⟨v', e3, rfl⟩ := Option.map_eq_some_iff.mp e1
      exact .cons ⟨q.1, hv e3 q.2⟩ (ih _ e2)
  | obj k fs =>
    obtain ⟨ys, e1, rfl⟩ := Option.map_eq_some_iff.mp e
    obtain ⟨h0, C, dx, vs, hC, h1, h2⟩ := h
    refine ⟨h0, C, dx, vs, hC, ha.trans h1, ?_⟩
    clear h1 e
    induction h2 generalizing ys with
    | nil =>
      simp only [List.mapM_nil, Option.pure_def, Option.some.injEq] at e1
      subst e1
      exact .nil
    | @cons p en kvs es q _ ih =>
      simp only [List.mapM_cons, Option.pure_def, Option.bind_eq_bind, Option.bind_eq_some_iff, Option.some.injEq] at e1
      obtain ⟨p', e1, r', e2, rfl⟩ := e1
      obtain ⟨v', e3, rfl⟩ := Option.map_eq_some_iff.mp e1
      exact .cons ⟨q.1, hv e3 q.2⟩ (ih _ e2)
  | gone =>
    simp only [mapCell, Option.some.injEq] at e
    subst e
    obtain ⟨u, h1, h2⟩ := h
    exact ⟨u, ha.trans h1, h2⟩
theorem mapM_at {α β : Type} {f : α → Option β} : ∀ {l : List α} {m : List β}, l.mapM f = some m → m.length = l.length ∧ ∀ (i : Nat) {y : β}, m[i]? = some y → ∃ x, l[i]? = some x ∧ f x = some y
  | [], m, e => by
    simp only [List.mapM_nil, Option.pure_def, Option.some.injEq] at e
    subst e
    exact ⟨rfl, fun i y h => by simp at h⟩
  | a :: l, m, e => by
    simp only [List.mapM_cons, Option.pure_def, Option.bind_eq_bind, Option.bind_eq_some_iff, Option.some.injEq] at e
    obtain ⟨b, e1, r, e2, rfl⟩ := e
    obtain ⟨h1, h2⟩ := mapM_at e2
    refine ⟨by simp [h1], fun i y h => ?_⟩
    cases i with
    | zero =>
      simp only [List.getElem?_cons_zero, Option.some.injEq] at h
      subst h
      exact ⟨a, rfl, e1⟩
    | succ i => simpa using h2 i (by simpa using h)
/-- the callee's start -/
theorem J.sub {L : List Nat} (j : J P W K T w st H) (hL : ∀ n ∈ L, n < w.ad.length) (hn : L.Nodup) {s0 : Store} (e : subStore st L = some s0) : J P W K T (w.sub H L) s0 H where
  len := by
    obtain ⟨h1, _⟩ := mapM_at e
    rw [h1]
    exact sub_len hL
  nd := by
    show (L.filterMap (w.ad[·]?)).Nodup
    have h0 := j.nd
    clear e
    induction L with
    | nil => exact List.nodup_nil
    | cons n L ih =>
      have hn' : n < w.ad.length := hL n List.mem_cons_self
      obtain ⟨q1, q2⟩ := List.nodup_cons.mp hn
      rw [List.filterMap_cons, List.getElem?_eq_getElem hn']
      refine List.nodup_cons.mpr ⟨fun z => ?_, ih (fun m hm => hL m (List.mem_cons_of_mem _ hm)) q2⟩
      obtain ⟨m, hm, e⟩ := List.mem_filterMap.mp z
      obtain ⟨hm', e⟩ := List.getElem?_eq_some_iff.mp e
      have : m = n := (List.getElem_inj j.nd).mp e
      exact q1 (this ▸ hm)
  apart := fun a ha hno => by
    rcases List.mem_append.mp hno with z | z
    · exact j.apart a (sub_mem ha) z
    · have := (List.mem_filter.mp z).2
      simp only [Bool.not_eq_true', decide_eq_false_iff_not] at this
      exact this ha
  sb := fun b o h => (allHp_some h).1
  sbf := fun a ha => by
    cases h : (w.sub H L).sb a with
    | none => rfl
    | some o => exact absurd (sub_mem ha) (allHp_some h).2.1
  sbt := fun b ps h => by
    cases e : (w.sub H L).sb b with
    | none => rfl
    | some o =>
      obtain ⟨h1, _, h2⟩ := allHp_some e
      rw [h] at h1
      cases h1
      exact absurd rfl (h2 ps)
  nos := fun a ha => by
    rcases List.mem_append.mp ha with z | z
    · exact j.nos a z
    · exact j.adNT (List.mem_filter.mp z).1
  cell := fun n a c h1 h2 => by
    obtain ⟨_, q⟩ := mapM_at e
    obtain ⟨m, e1, e2⟩ := q n h2
    have e3 : (L.filterMap (w.ad[·]?))[n]? = some a := h1
    rw [sub_at hL, e1] at e3
    cases hs : st[m]? with
    | none => rw [hs] at e2; cases e2
    | some d =>
      rw [hs] at e2
      exact cellMap (RepV.sub hL) (fun h => RepD.sub h) rfl e2 (j.cell m a d e3 hs)
  tabs := j.tabs

/-! ### what comes back -/
theorem put_at {fd : Gn → Gn} {fc : Nat → Option Nat} : ∀ {L : List Nat} {ds : List Cell} {st st1 : Store}, L.Nodup → L.length = ds.length →
    (L.zip ds).foldlM (fun acc p => (mapCell fd fc p.2).map fun c => acc.set p.1 c) st = some st1 →
    st1.length = st.length ∧ ∀ (n : Nat) (c : Cell), st1[n]? = some c → (∃ (i : Nat) (d : Cell), L[i]? = some n ∧ ds[i]? = some d ∧ mapCell fd fc d = some c) ∨ (n ∉ L ∧ st[n]? = some c)
  | [], [], st, st1, _, _, e => by
    simp only [List.zip_nil_left, List.foldlM_nil, Option.pure_def, Option.some.injEq] at e
    subst e
    exact ⟨rfl, fun n c h => .inr ⟨by simp, h⟩⟩
  | [], _ :: _, _, _, _, hl, _ => by simp at hl
  | _ :: _, [], _, _, _, hl, _ => by simp at hl
  | m :: L, d :: ds, st, st1, hn, hl, e => by
    obtain ⟨q1, q2⟩ := List.nodup_cons.mp hn
    simp only [List.zip_cons_cons, List.foldlM_cons, Option.bind_eq_bind, Option.bind_eq_some_iff] at e
    obtain ⟨st2, e1, e2⟩ := e
    obtain ⟨c0, e3, rfl⟩ := Option.map_eq_some_iff.mp e1
    obtain ⟨h1, h2⟩ := put_at q2 (by simpa using hl) e2
    refine ⟨by rw [h1, List.length_set], fun n c h => ?_⟩
    rcases h2 n c h with ⟨i, d', a1, a2, a3⟩ | ⟨a1, a2⟩
    · exact .inl ⟨i + 1, d', by simpa using a1, by simpa using a2, a3⟩
    · by_cases hm : m = n
      · subst hm
        obtain ⟨hlt, _⟩ := List.getElem?_eq_some_iff.mp a2
        rw [List.getElem?_set_self (by simpa using hlt)] at a2
        cases a2
        exact .inl ⟨0, d, rfl, rfl, e3⟩
      · rw [List.getElem?_set_ne hm] at a2
        exact .inr ⟨fun z => (List.mem_cons.mp z).elim (fun z => hm z.symm) a1, a2⟩

section
variable {L : List Nat} {s1 : Store} {extra : List Addr}
/-- the caller's world behind the call -/
def Wd.more (w : Wd) (extra : List Addr) : Wd := { w with ad := w.ad ++ extra }
structure Bk (K : PySem.W.Frag) (P : Program) (W : World) (T : List (Addr × Str)) (w w' : Wd) (st s1 : Store) (H H' : Hp) (L : List Nat) (extra : List Addr) : Prop where
  j : J P W K T w st H
  hL : ∀ n ∈ L, n < w.ad.length
  nd : L.Nodup
  s : Stp (w.sub H L) w' H H'
  j' : J P W K T w' s1 H'
  ex : ∀ a ∈ extra, a ∈ w'.ad ∧ ¬ NT H a
  exn : extra.Nodup
theorem Bk.stp (b : Bk K P W T w w' st s1 H H' L extra) : Stp w (w.more extra) H H' where
  sb := rfl
  no := ⟨[], by simp [Wd.more], by simp⟩
  ad := ⟨extra, rfl, fun a h => (b.ex a h).2⟩
  fr := fun x o e n t => b.s.fr x o e (fun z => n (sub_mem z)) t
  dom := b.s.dom
  frz := b.s.frz
theorem Bk.free (b : Bk K P W T w w' st s1 H H' L extra) {a : Addr} (h : w'.free a) : (w.more extra).free a := by
  obtain ⟨m0, e1, _⟩ := b.s.no
  have e1 : w'.no = m0 ++ (w.no ++ w.ad.filter fun a => !decide (a ∈ L.filterMap (w.ad[·]?))) := e1
  obtain ⟨m, e2, _⟩ := b.s.ad
  have e2 : w'.ad = L.filterMap (w.ad[·]?) ++ m := e2
  have h1 : a ∉ w'.ad := h.1
  have h2 : a ∉ w'.no := h.2
  refine ⟨fun z => ?_, fun z => h2 (by rw [e1]; exact List.mem_append_right _ (List.mem_append_left _ z))⟩
  rcases List.mem_append.mp z with z | z
  · by_cases q : a ∈ L.filterMap (w.ad[·]?)
    · exact h1 (by rw [e2]; exact List.mem_append_left _ q)
    · exact h2 (by rw [e1]; exact List.mem_append_right _ (List.mem_append_right _ (List.mem_filter.mpr ⟨z, by simpa using q⟩)))
  · exact h1 (b.ex a z).1
theorem Bk.sbn (b : Bk K P W T w w' st s1 H H' L extra) {a : Addr} (h : w'.sb a = none) : w.sb a = none := by
  rw [b.s.sb] at h
  rcases allHp_none h with z | ⟨ps, z⟩ | z
  · exact b.j.sbf a z
  · exact b.j.sbt a ps z
  · cases e : w.sb a with
    | none => rfl
    | some o => rw [b.j.sb a o e] at z; cases z
theorem Bk.ok (b : Bk K P W T w w' st s1 H H' L extra) {g : Gn} {a : Addr} (h : w'.ok H' g a) : (w.more extra).ok H' g.up a := by
  refine ⟨?_, b.free h.2.1, ?_⟩
  · cases g with
    | pur => exact h.1
    | new => exact b.sbn h.1
    | old => trivial
    | mix => trivial
    | scr => trivial
  · rcases h.2.2 with e | e
    · subst e; exact .inl rfl
    · exact .inr e
mutual
theorem RepD.up (b : Bk K P W T w w' st s1 H H' L extra) {g : Gn} : ∀ {x : PyData} {v : V}, RepD K H' w'.free (w'.ok H' g) x v → RepD K H' (w.more extra).free ((w.more extra).ok H' g.up) x v
  | _, _, .non => .non
  | _, _, .bl b => .bl b
  | _, _, .int i => .int i
  | _, _, .str x h => .str x h
  | _, _, .lst h f p hl r => .lst h (b.free f) (b.ok p) hl (RepL.up b r)
  | _, _, .tup h f hl r => .tup h (b.free f) hl (RepL.up b r)
  | _, _, .tupK h hc hd hl hv r => .tupK h hc hd hl hv (RepL.up b r)
theorem RepL.up (b : Bk K P W T w w' st s1 H H' L extra) {g : Gn} : ∀ {xs : List PyData} {vs : List V}, RepL K H' w'.free (w'.ok H' g) xs vs → RepL K H' (w.more extra).free ((w.more extra).ok H' g.up) xs vs
  | _, _, .nil => .nil
  | _, _, .cons h t => .cons (RepD.up b h) (RepL.up b t)
end
theorem RepV.up (b : Bk K P W T w w' st s1 H H' L extra) {fc : Nat → Option Nat} (hf : ∀ j i a, fc j = some i → w'.ad[j]? = some a → (w.more extra).ad[i]? = some a) :
    ∀ {rv rv' : RV} {v : V}, mapRV .up fc rv = some rv' → RepV K w' H' rv v → RepV K (w.more extra) H' rv' v
  | .d g x, _, v, e, h => by
    simp only [mapRV, Option.some.injEq] at e
    subst e
    exact RepD.up b h
  | .c n, _, v, e, ⟨a, e1, e2⟩ => by
    simp only [mapRV] at e
    obtain ⟨i, e3, rfl⟩ := Option.map_eq_some_iff.mp e
    exact ⟨a, hf n i a e3 e1, e2⟩
/-- the callee's cells of L, where they stood -/
theorem Bk.at_ (b : Bk K P W T w w' st s1 H H' L extra) {i : Nat} {a : Addr} (hi : i < L.length) (h : w'.ad[i]? = some a) : (w.more extra).ad[L.getD i 0]? = some a := by
  obtain ⟨m, e2, _⟩ := b.s.ad
  have e2 : w'.ad = L.filterMap (w.ad[·]?) ++ m := e2
  rw [e2, List.getElem?_append_left (by rw [sub_len b.hL]; exact hi), sub_at b.hL, List.getElem?_eq_getElem hi] at h
  have h : w.ad[L[i]]? = some a := h
  have e3 : L.getD i 0 = L[i] := by rw [List.getD_eq_getElem?_getD, List.getElem?_eq_getElem hi]; rfl
  rw [e3]
  show (w.ad ++ extra)[L[i]]? = some a
  rw [List.getElem?_append_left (List.getElem?_eq_some_iff.mp h).1]
  exact h
theorem Bk.len (b : Bk K P W T w w' st s1 H H' L extra) : L.length ≤ s1.length := by
  obtain ⟨m, e2, _⟩ := b.s.ad
  have e2 : w'.ad = L.filterMap (w.ad[·]?) ++ m := e2
  rw [← b.j'.len, e2, List.length_append, sub_len b.hL]
  omega
/-- the caller's state behind the call: more are the cells at extra -/
theorem Bk.Jg (b : Bk K P W T w w' st s1 H H' L extra) {fc : Nat → Option Nat} (hfc : ∀ j i a, fc j = some i → w'.ad[j]? = some a → (w.more extra).ad[i]? = some a) {st1 : Store} (e : (L.zip (s1.take L.length)).foldlM (fun acc p => (mapCell .up fc p.2).map fun c => acc.set p.1 c) st = some st1) {more : Store} (hm : more.length = extra.length)
    (hc : ∀ (i : Nat) (a : Addr) (c : Cell), extra[i]? = some a → more[i]? = some c → CellOk P W K (w.more extra) H' a c) : DL.J P W K T (w.more extra) (st1 ++ more) H' := by
  obtain ⟨h1, h2⟩ := put_at (fd := .up) b.nd (by rw [List.length_take]; have := b.len; omega) e
  have s := b.stp
  refine ⟨?_, ?_, ?_, ?_, ?_, ?_, ?_, ?_, b.j'.tabs⟩
  · show (w.ad ++ extra).length = _
    rw [List.length_append, List.length_append, hm, h1, b.j.len]
  · refine List.nodup_append.mpr ⟨b.j.nd, b.exn, fun a ha c hc z => ?_⟩
    subst z
    exact (b.ex a hc).2 (b.j.adNT ha)
  · intro a ha
    rcases List.mem_append.mp ha with z | z
    · exact b.j.apart a z
    · exact fun q => (b.ex a z).2 (b.j.nos a q)
  · intro x o h
    have h : w.sb x = some o := h
    have q := b.j.sb x o h
    exact s.fr x o q (fun z => by rw [b.j.sbf x z] at h; cases h) fun ps z => by rw [z] at q; rw [b.j.sbt x ps q] at h; cases h
  · intro a ha
    rcases List.mem_append.mp ha with z | z
    · exact b.j.sbf a z
    · cases e : w.sb a with
      | none => exact e
      | some o => exact absurd ⟨o, b.j.sb a o e, fun ps y => by subst y; rw [b.j.sbt a ps (b.j.sb a _ e)] at e; cases e⟩ (b.ex a z).2
  · intro x ps h
    exact b.sbn (b.j'.sbt x ps h)
  · exact fun a ha => s.dom a (b.j.nos a ha)
  · intro n a c e1 e2
    have e1 : (w.ad ++ extra)[n]? = some a := e1
    by_cases hn : n < w.ad.length
    · rw [List.getElem?_append_left hn] at e1
      rw [List.getElem?_append_left (by rw [h1, ← b.j.len]; exact hn)] at e2
      rcases h2 n c e2 with ⟨i, d, a1, a2, a3⟩ | ⟨a1, a2⟩
      · rw [List.getElem?_take] at a2
        split at a2
        · rename_i hi
          have hi' : i < s1.length := (List.getElem?_eq_some_iff.mp a2).1
          have e3 : ∃ a', w'.ad[i]? = some a' := ⟨_, List.getElem?_eq_getElem (by rw [b.j'.len]; exact hi')⟩
          obtain ⟨a', e3⟩ := e3
          have e4 := b.at_ hi e3
          have e5 : L.getD i 0 = n := by rw [List.getD_eq_getElem?_getD, a1]; rfl
          rw [e5] at e4
          have e4 : (w.ad ++ extra)[n]? = some a' := e4
          rw [List.getElem?_append_left hn, e1] at e4
          cases e4
          exact cellMap (RepV.up b hfc) (fun h => RepD.up b h) rfl a3 (b.j'.cell i a d e3 a2)
        · cases a2
      · have q := b.j.cell n a c e1 a2
        obtain ⟨u, hu, hh⟩ := q.ho
        have ha : H' a = H a := by
          rw [hu]
          refine b.s.fr a u hu (fun z => ?_) hh.ntbl
          obtain ⟨m, hm, e⟩ := List.mem_filterMap.mp z
          obtain ⟨i1, x1⟩ := List.getElem?_eq_some_iff.mp e
          obtain ⟨i2, x2⟩ := List.getElem?_eq_some_iff.mp e1
          have : m = n := (List.getElem_inj b.j.nd).mp (x1.trans x2.symm)
          exact a1 (this ▸ hm)
        exact q.stp s ha
    · rw [List.getElem?_append_right (by omega)] at e1
      rw [List.getElem?_append_right (by rw [h1, ← b.j.len]; omega), h1, ← b.j.len] at e2
      exact hc _ a c e1 e2
theorem Bk.J (b : Bk K P W T w w' st s1 H H' L extra) {st1 : Store} (e : putBack st L s1 = some st1) {more : Store} (hm : more.length = extra.length)
    (hc : ∀ (i : Nat) (a : Addr) (c : Cell), extra[i]? = some a → more[i]? = some c → CellOk P W K (w.more extra) H' a c) : DL.J P W K T (w.more extra) (st1 ++ more) H' :=
  b.Jg (fun j i a q1 q2 => by
    split at q1
    · rename_i hj
      cases q1
      exact b.at_ hj q2
    · cases q1) e hm hc
end

section
variable {X : Cx} {cls : Nat → Value} {Ex : XK}
theorem reach_nodup (st : Store) : ∀ (k : Nat) (l acc : List Nat), acc.Nodup → (reach st k l acc).Nodup
  | 0, _, _, h => h
  | _ + 1, [], _, h => h
  | k + 1, n :: r, acc, h => by
    unfold reach
    split
    · exact reach_nodup st k r acc h
    · rename_i hn
      refine reach_nodup st k _ _ (List.nodup_append.mpr ⟨h, by simp, fun a ha b hb e => ?_⟩)
      simp only [List.mem_singleton] at hb
      exact hn (by rw [← hb, ← e]; exact ha)
theorem sub_lt {L : List Nat} {s0 : Store} (h : subStore st L = some s0) : ∀ n ∈ L, n < st.length := fun n hn => by
  unfold subStore at h
  obtain ⟨i, hi, e⟩ := List.mem_iff_getElem.mp hn
  obtain ⟨q1, q2⟩ := mapM_at h
  have hs : i < s0.length := by rw [q1]; exact hi
  obtain ⟨x, e1, e2⟩ := q2 i (List.getElem?_eq_getElem hs)
  rw [List.getElem?_eq_getElem hi, e] at e1
  cases e1
  cases e3 : st[n]? with
  | none => rw [e3] at e2; cases e2
  | some c => exact (List.getElem?_eq_some_iff.mp e3).1
theorem callF_ok {f : List RV → Store → Res RV} {args : List RV} {vs : List V} {Q : VK} (j : JX X T w st H) (ra : RepVs X.K w H args vs) (h : OkV X T cls Ex w H (callF f args st) Q) :
    ∃ w0 s0 as, JX X T w0 s0 H ∧ RepVs X.K w0 H as vs ∧ as.length = args.length ∧ OkV X T cls Ex w0 H (f as s0) Q := by
  unfold callF at h
  dsimp only at h
  generalize hLe : reach st 64 (refsOf args) [] = L at h
  have nd : L.Nodup := by rw [← hLe]; exact reach_nodup st _ _ _ List.nodup_nil
  split at h
  · rename_i as s0 ea es
    have hL : ∀ n ∈ L, n < w.ad.length := fun n hn => by rw [j.len]; exact sub_lt es n hn
    have ras : RepVs X.K (w.sub H L) H as vs := RepVs.map (fun e q => RepV.sub hL e q) ea ra
    refine ⟨w.sub H L, s0, as, j.sub hL nd es, ras, (mapM_at ea).1, ?_⟩
    split at h
    · rename_i v s1 ev
      split at h
      · rename_i st1 ep
        rw [ev]
        intro w' H' b s j' rb
        have B0 : Bk X.K X.prog X.w T w w' st s1 H H' L [] := ⟨j, hL, nd, s, j', fun a ha => absurd ha (by simp), List.nodup_nil⟩
        have J0 := B0.J ep (more := []) rfl (fun i a c e => by simp at e)
        rw [List.append_nil] at J0
        split at h
        · rename_i g x
          refine h _ _ _ B0.stp J0 ?_
          show Rep X.K _ H' _ x b
          split
          · exact Rep.noLst (by assumption) (RepD.up B0 rb)
          · exact RepD.up B0 rb
        · rename_i n
          obtain ⟨a, ea', rfl⟩ := rb
          split at h
          · rename_i hn
            exact h _ _ _ B0.stp J0 ⟨a, B0.at_ hn ea', rfl⟩
          · rename_i hn
            obtain ⟨m, e2, hm0⟩ := s.ad
            have e2 : w'.ad = L.filterMap (w.ad[·]?) ++ m := e2
            have hlt : n < w'.ad.length := (List.getElem?_eq_some_iff.mp ea').1
            have ha : ¬ NT H a := by
              refine hm0 a ?_
              rw [e2, List.getElem?_append_right (by rw [sub_len hL]; omega)] at ea'
              exact List.mem_of_getElem? ea'
            split at h
            · rename_i cl hcl
              have hco := j'.cell n a cl ea' hcl
              split at h
              · rename_i hr
                split at h
                · rename_i xs
                  split at h
                  · rename_i ds hds
                    obtain ⟨ws, h1, h2, h3⟩ := hco
                    refine h _ _ _ B0.stp J0 ?_
                    have r0 := RepL.up B0 (datas_rep hds h2)
                    refine rep_newList (K := X.K) (w := w.more []) h1 ⟨fun z => ?_, fun z => ha (j.nos a z)⟩ ?_ h3 r0
                    · rcases List.mem_append.mp z with z | z
                      · exact ha (j.adNT z)
                      · simp at z
                    · cases e : w.sb a with
                      | none => exact e
                      | some o => exact absurd ⟨o, j.sb a o e, fun ps y => by subst y; rw [j.sbt a ps (j.sb a _ e)] at e; cases e⟩ ha
                  · exact h.elim
                · split at h
                  · rename_i cl' hcl'
                    have B1 : Bk X.K X.prog X.w T w w' st s1 H H' L [a] := ⟨j, hL, nd, s, j', fun c hc => by
                      simp only [List.mem_singleton] at hc
                      subst hc
                      exact ⟨List.mem_of_getElem? ea', ha⟩, by simp⟩
                    have J1 := B1.J ep (more := [cl']) rfl (fun i a' c e e' => by
                      cases i with
                      | zero =>
                        simp only [List.getElem?_cons_zero, Option.some.injEq] at e e'
                        subst e e'
                        exact cellMap (RepV.up B1 fun _ _ _ q _ => by cases q) (fun h => RepD.up B1 h) rfl hcl' hco
                      | succ i => simp at e)
                    refine h _ _ _ B1.stp J1 ⟨a, ?_, rfl⟩
                    show (w.ad ++ [a])[st.length]? = some a
                    rw [← j.len]
                    simp
                  · exact h.elim
              · split at h
                · rename_i more hmore
                  obtain ⟨q1, q2⟩ := mapM_at hmore
                  have lm : L.length ≤ w'.ad.length := by rw [e2, List.length_append, sub_len hL]; omega
                  have B1 : Bk X.K X.prog X.w T w w' st s1 H H' L (w'.ad.drop L.length) := ⟨j, hL, nd, s, j', fun c hc => by
                    refine ⟨List.mem_of_mem_drop hc, hm0 c ?_⟩
                    rw [e2, List.drop_append_of_le_length (by rw [sub_len hL]; exact Nat.le_refl _)] at hc
                    have : (L.filterMap (w.ad[·]?)).drop L.length = [] := List.drop_eq_nil_of_le (by rw [sub_len hL]; exact Nat.le_refl _)
                    rw [this] at hc
                    exact hc, j'.nd.sublist (List.drop_sublist _ _)⟩
                  have hbk : ∀ i a, w'.ad[i]? = some a → (w.more (w'.ad.drop L.length)).ad[back L st.length i]? = some a := fun i a e => by
                    unfold back
                    split
                    · rename_i hi
                      exact B1.at_ hi e
                    · rename_i hi
                      show (w.ad ++ w'.ad.drop L.length)[st.length + (i - L.length)]? = some a
                      rw [List.getElem?_append_right (by rw [j.len]; omega), List.getElem?_drop, ← e]
                      congr 1
                      have := j.len
                      omega
                  have J1 := B1.J ep (more := more) (by rw [q1, List.length_drop, List.length_drop, j'.len]) (fun i a' c e e' => by
                    obtain ⟨d, e3, e4⟩ := q2 i e'
                    rw [List.getElem?_drop] at e e3
                    exact cellMap (RepV.up B1 fun k i b q q' => by cases q; exact hbk k b q') (fun h => RepD.up B1 h) rfl e4 (j'.cell _ a' d e e3))
                  exact h _ _ _ B1.stp J1 ⟨a, hbk n a ea', rfl⟩
                · exact h.elim
            · exact h.elim
      · rename_i ep0
        split at h
        · rename_i st1 more v' ep hmore hv'
          rw [ev]
          intro w' H' b s j' rb
          obtain ⟨m, e2, hm0⟩ := s.ad
          have e2 : w'.ad = L.filterMap (w.ad[·]?) ++ m := e2
          obtain ⟨q1, q2⟩ := mapM_at hmore
          have lm : L.length ≤ w'.ad.length := by rw [e2, List.length_append, sub_len hL]; omega
          have B1 : Bk X.K X.prog X.w T w w' st s1 H H' L (w'.ad.drop L.length) := ⟨j, hL, nd, s, j', fun c hc => by
            refine ⟨List.mem_of_mem_drop hc, hm0 c ?_⟩
            rw [e2, List.drop_append_of_le_length (by rw [sub_len hL]; exact Nat.le_refl _)] at hc
            have : (L.filterMap (w.ad[·]?)).drop L.length = [] := List.drop_eq_nil_of_le (by rw [sub_len hL]; exact Nat.le_refl _)
            rw [this] at hc
            exact hc, j'.nd.sublist (List.drop_sublist _ _)⟩
          have hbk : ∀ i a, w'.ad[i]? = some a → (w.more (w'.ad.drop L.length)).ad[back L st.length i]? = some a := fun i a e => by
            unfold back
            split
            · rename_i hi
              exact B1.at_ hi e
            · rename_i hi
              show (w.ad ++ w'.ad.drop L.length)[st.length + (i - L.length)]? = some a
              rw [List.getElem?_append_right (by rw [j.len]; omega), List.getElem?_drop, ← e]
              congr 1
              have := j.len
              omega
          have hup : ∀ {rv rv' : RV} {v : V}, mapRV .up (fun j => some (back L st.length j)) rv = some rv' → RepV X.K w' H' rv v → RepV X.K (w.more (w'.ad.drop L.length)) H' rv' v := RepV.up B1 fun k i b q q' => by cases q; exact hbk k b q'
          have J1 := B1.Jg (fc := fun j => some (back L st.length j)) (fun k i b q q' => by cases q; exact hbk k b q') ep (more := more) (by rw [q1, List.length_drop, List.length_drop, j'.len]) (fun i a' c e e' => by
            obtain ⟨d, e3, e4⟩ := q2 i e'
            rw [List.getElem?_drop] at e e3
            exact cellMap hup (fun h => RepD.up B1 h) rfl e4 (j'.cell _ a' d e e3))
          exact h _ _ _ B1.stp J1 (hup hv' rb)
        · exact h.elim
    · rename_i k s1 ev
      split at h
      · rename_i st1 ep
        rw [ev]
        intro w' H' d s j'
        have B0 : Bk X.K X.prog X.w T w w' st s1 H H' L [] := ⟨j, hL, nd, s, j', fun a ha => absurd ha (by simp), List.nodup_nil⟩
        have J0 := B0.J ep (more := []) rfl (fun i a c e => by simp at e)
        rw [List.append_nil] at J0
        exact h _ _ d B0.stp J0
      · exact h.elim
    · exact h.elim
  · exact h.elim
end
end
end DL

-- DThaw
/-! DThaw: a tuple is told that holds lists of the def's own: these are data behind. -/
namespace DL
open PySem L2
theorem thaw_ne (n : Nat) (vs : List RV) (st : Store) (k : Nat) (st2 : Store) : thaw n vs st ≠ .exc k st2 := by
  unfold thaw
  split
  · split
    · intro h; cases h
    · intro h; cases h
  · intro h; cases h
theorem mkTup_tup {xs : List RV} {v : RV} (h : mkTup xs = some v) : ∃ g ds, v = .d g (.tuple ds) := by
  unfold mkTup at h
  obtain ⟨ds, _, rfl⟩ := Option.map_eq_some_iff.mp h
  exact ⟨_, ds, rfl⟩
theorem thaw_nb (n : Nat) (vs : List RV) (st st2 : Store) (b : Bool) : thaw n vs st ≠ .ok (rvB b) st2 := by
  unfold thaw
  split
  · split
    · rename_i v e
      obtain ⟨g, ds, rfl⟩ := mkTup_tup e
      intro h
      cases h
    · intro h; cases h
  · intro h; cases h
section
variable {P : Program} {W : World} {K : PySem.W.Frag} {T : List (Addr × Str)} {w w' : Wd} {st st' st2 : Store} {H H' : Hp}
theorem thaw_ok {vs : List RV} {ys : List V} {a : Addr} {v : RV} (s : Stp w w' H H') (j : J P W K T w st H) (j' : J P W K T w' st' H') (r : RepVs K w' H' vs ys) (ht : Rd H' a (.tup ys)) (fa : w'.free a) (hz : ys.length ≤ sizeLine) (h : thaw st.length vs st' = .ok v st2) :
    ∃ w2, Stp w w2 H H' ∧ J P W K T w2 st2 H' ∧ RepV K w2 H' v (.ref a) := by
  obtain ⟨m, em, hm⟩ := s.ad
  have hn : w.ad.length = st.length := j.len
  have et : w'.ad.take st.length = w.ad := by rw [em, ← hn, List.take_left]
  let w2 : Wd := { w' with ad := w.ad }
  have sub : ∀ a, w'.free a → w2.free a := fun a f => ⟨fun z => f.1 (by rw [em]; exact List.mem_append_left _ z), f.2⟩
  have okk : ∀ g a, w'.ok H' g a → w2.ok H' g a := fun g a q => ⟨by cases g <;> exact q.1, sub a q.2.1, q.2.2⟩
  have up : ∀ {g : Gn} {x : PyData} {v : V}, Rep K w' H' g x v → Rep K w2 H' g x v := fun q => RepD.mono (fun a f => sub a f) (fun a _ p => okk _ a p) (fun _ _ _ h => h) (fun _ _ _ h => h) q
  have upL : ∀ {g : Gn} {xs : List PyData} {vs : List V}, RepL K H' w'.free (w'.ok H' g) xs vs → RepL K H' w2.free (w2.ok H' g) xs vs := fun q => RepL.mono (fun a f => sub a f) (fun a _ p => okk _ a p) (fun _ _ _ h => h) (fun _ _ _ h => h) q
  unfold thaw at h
  split at h
  case h_2 => cases h
  rename_i ws st3 ew es
  split at h
  case h_2 => cases h
  rename_i v' ev
  cases h
  obtain ⟨q1, q2⟩ := mapM_at es
  have hl2 : st2.length = st.length := by
    rw [q1, List.length_take, ← j'.len, em, List.length_append, hn]
    omega
  have hv : ∀ {rv rv' : RV} {v : V}, mapRV id (fun j => if j < st.length then some j else none) rv = some rv' → RepV K w' H' rv v → RepV K w2 H' rv' v := by
    intro rv rv' v e q
    cases rv with
    | d g x =>
      simp only [mapRV, Option.some.injEq] at e
      subst e
      exact up q
    | c n =>
      simp only [mapRV] at e
      obtain ⟨i, e3, rfl⟩ := Option.map_eq_some_iff.mp e
      split at e3
      · rename_i hlt
        cases e3
        obtain ⟨b, e4, e5⟩ := q
        refine ⟨b, ?_, e5⟩
        rw [em, List.getElem?_append_left (by omega)] at e4
        exact e4
      · cases e3
  refine ⟨w2, ⟨s.sb, s.no, ⟨[], by show w.ad = w.ad ++ []; simp, by simp⟩, s.fr, s.dom, s.frz⟩, ?_, ?_⟩
  · refine ⟨?_, j.nd, fun b hb => j'.apart b (by rw [em]; exact List.mem_append_left _ hb), j'.sb, fun b hb => j'.sbf b (by rw [em]; exact List.mem_append_left _ hb), j'.sbt, j'.nos, fun n b c e1 e2 => ?_, j'.tabs⟩
    · show w.ad.length = st2.length
      rw [hn, hl2]
    · have e1 : w.ad[n]? = some b := e1
      obtain ⟨d, e3, e4⟩ := q2 n e2
      have hlt : n < w.ad.length := (List.getElem?_eq_some_iff.mp e1).1
      rw [List.getElem?_take_of_lt (by omega)] at e3
      have e5 : w'.ad[n]? = some b := by rw [em, List.getElem?_append_left hlt]; exact e1
      exact cellMap hv (fun q => up q) rfl e4 (j'.cell n b d e5 e3)
  · have rw' : RepVs K w2 H' ws ys := by
      clear ev hz ht
      induction r generalizing ws with
      | nil =>
        simp only [List.mapM_nil, Option.pure_def, Option.some.injEq] at ew
        subst ew
        exact .nil
      | @cons rv v rvs vs q _ ih =>
        simp only [List.mapM_cons, Option.pure_def, Option.bind_eq_bind, Option.bind_eq_some_iff, Option.some.injEq] at ew
        obtain ⟨rv', e1, r', e2, rfl⟩ := ew
        refine .cons ?_ (ih _ e2)
        cases rv with
        | d g x =>
          simp only [frz1, Option.some.injEq] at e1
          subst e1
          exact up q
        | c n =>
          simp only [frz1] at e1
          split at e1
          · rename_i hle
            split at e1
            · rename_i xs hxs
              obtain ⟨ds, hds, rfl⟩ := Option.map_eq_some_iff.mp e1
              obtain ⟨b, e4, rfl⟩ := q
              obtain ⟨us, h1, h2, h3⟩ := j'.cell n b _ e4 hxs
              have e6 : m[n - w.ad.length]? = some b := by
                rw [em, List.getElem?_append_right (by omega)] at e4
                exact e4
              have hb : ¬ NT H b := hm b (List.mem_of_getElem? e6)
              refine rep_newList (K := K) (w := w2) h1 ⟨fun z => ?_, j'.apart b (List.mem_of_getElem? e4)⟩ ?_ h3 (upL (datas_rep hds h2))
              · exact hb (j.adNT z)
              · exact j'.sbf b (List.mem_of_getElem? e4)
            · cases e1
          · cases e1
    unfold mkTup at ev
    obtain ⟨ds, hds, rfl⟩ := Option.map_eq_some_iff.mp ev
    refine Rep.el ?_
    exact RepD.tup ht (sub a fa) hz (datas_rep hds rw')
end
end DL

-- DSrc
/-! DSrc: what loops and comprehensions go over. -/
namespace DL
open PySem L2
/-- behind a statement: all is free to change, or only the cells -/
def Rl (m : Bool) (w w' : Wd) (H H' : Hp) : Prop := m = true ∨ Stp w w' H H'
theorem Rl.stp {m : Bool} {w w' : Wd} {H H' : Hp} (s : Stp w w' H H') : Rl m w w' H H' := .inr s
theorem Rl.trans {m : Bool} {w w1 w2 : Wd} {H H1 H2 : Hp} (a : Rl m w w1 H H1) (b : Rl m w1 w2 H1 H2) : Rl m w w2 H H2 := by
  rcases a with a | a
  · exact .inl a
  · exact b.elim .inl fun b => .inr (a.trans b)
section
variable (X : Cx) (T : List (Addr × Str)) (cls : Nat → Value) (Ex : XK) (C : Cfg) (φ φ2 : Phi)
/-- the iterator gives the source's things -/
def SrcIt (m : Bool) (w0 : Wd) (H0 : Hp) (J : It) (src : Src) : Prop := ∀ (w : Wd) (H : Hp) (st : Store) (i : Nat), Rl m w0 w H0 H → JX X T w st H →
  (∀ v, src.at? st i = some v → J.go i H ∧ ∀ x H', J.yld i H x H' → ∃ w', Stp w w' H H' ∧ JX X T w' st H' ∧ RepV X.K w' H' v x) ∧ (src.ends st = true → i = src.size → J.stop i H)
def NoF (w : Wd) (H : Hp) (l : Option (Nat × Bool)) : Prop := ∀ n, l = some (n, false) → ∀ a, w.ad[n]? = some a → (∀ o u, X.H_0 a ≠ some (.frz o u)) ∧ ∀ o u, H a ≠ some (.frz o u)
def SrcR (m : Bool) (ik : Ik) (w : Wd) (H : Hp) (r : Res (List RV)) (R : It → Hp → Prop) : Prop :=
  match r with
  | .ok rvs st1 => ∃ src, srcOf st1 ik rvs = some src ∧ ∀ w1 H1 J H2, Stp w w1 H H1 → JX X T w1 st1 H1 → Stp w1 w1 H1 H2 → JX X T w1 (setLk st1 (lockOf ik rvs st1) fun _ => true) H2 → NoF X w1 H1 (lockOf ik rvs st1) → src.size ≤ lim → SrcIt X T m w1 H2 J src → R J H2
  | .exc k st1 => ∀ w' H' (d : Dx k), Stp w w' H H' → JX X T w' st1 H' → Ex (cls k) d.1 H'
  | .bad => False
def TIx (m : Bool) (ik : Ik) (it : EL) : TI := fun σ H R => ∃ w env st, JX X T w st H ∧ EnvR X.K w H env σ ∧ SrcR X T cls Ex m ik w H (denL C φ φ2 it env st) R
/-- a locked dict's keys -/
def Itq (P : Program) (W : World) (d : Addr) (o : Obj) (es : List Ent) : It :=
  ⟨fun i H => H d = some (.frz o (dicO P W d es)) ∧ i < es.length, fun i H x H' => H' = H ∧ ∃ e, es[i]? = some e ∧ x = .ref e.2.1, fun i H => H d = some (.frz o (dicO P W d es)) ∧ es.length ≤ i⟩
end
section
variable {X : Cx} {T : List (Addr × Str)} {cls : Nat → Value} {Ex : XK} {C : Cfg} {φ φ2 : Phi} {w w0 : Wd} {H H0 : Hp} {st : Store} {v : V} {rv : RV} {pins : List (Addr × Obj)} {s : Shared} {σ : St} {K : PySem.W.Frag} {kvs : List (PyData × RV)} {es : List Ent}
  {us : List (NestedKey × Addr × Value)} {tg : Expr}
/-- the locked dict's record -/
theorem frz_view {P : Program} {W : World} {h : Heap} {d : Addr} {o : Obj} (hok : HOk P W H h) (hd : H d = some (.frz o (dicO P W d es))) :
    h.get? d = some o ∧ o.ExactDict ∧ ∃ (est : Array DictEntry) (ep : Nat), o.data = .dict est ep ∧ est.size = es.length ∧ ∀ (i : Nat) (e : Ent), es[i]? = some e → ∃ en : DictEntry, est[i]? = some en ∧ en.key = Value.ref e.2.1 := by
  obtain ⟨h1, ⟨us, ru, o', est, ep, h2, h3, h4, h5, _⟩, _⟩ := hok d _ hd
  rw [h1] at h2
  cases h2
  refine ⟨h1, h3, est, ep, h4, ?_, fun i e he => ?_⟩
  · have := congrArg List.length h5
    simp only [Array.length_toList, List.length_map] at this
    rw [this, ru.length]
  · obtain ⟨u, e1, e2⟩ := pget ru i he
    refine ⟨entryOfKey (nestedKind P W) u, ?_, ?_⟩
    · rw [← Array.getElem?_toList, h5, List.getElem?_map, e1]; rfl
    · rw [e2.2.1]; rfl
theorem turn_q {P : Program} {W : World} {d : Addr} {o : Obj} {est : Array DictEntry} {ep : Nat} (it : Addr) (hod : o.data = .dict est ep) : Turn P W K tg (Itq P W d o es) [it] it (fun i h => h.IsKeyIter it d i es.length ep) where
  mem := by simp
  obj := fun i h st b hb => by
    have e : b = it := by simpa using hb
    subst e
    obtain ⟨oi, e, c, dd⟩ := st
    exact ⟨oi, e, fun v z => by rw [dd] at z; cases z⟩
  keep := fun i h h' st k => st.at fun oi e => k it (by simp) oi e
  item := by
    intro X hP hw hK hc i pins s σ H E I hf st hg
    subst hP hw hK
    obtain ⟨hd, hi⟩ := hg
    obtain ⟨f0, f1, f2, f3, f4, f5⟩ := hf it (by simp)
    obtain ⟨hgd, hx, es', ep', hdt, hsz, ent⟩ := frz_view I.hok hd
    obtain ⟨rfl, rfl⟩ := dict_ep hod hdt
    obtain ⟨en, hen, hkey⟩ := ent i _ (List.getElem?_eq_getElem hi)
    refine next_key_item st hgd hdt hsz hen fun h' st' sb => ?_
    have I1 : Inv X pins σ H { s with heap := h' } := I.turned (t' := s.toks) (fun b ob hb e => (sb.2 b hb).trans e) f0 f1 f3 f4 f5
    obtain ⟨oi, e, c, dd⟩ := id st'
    exact ⟨en.key, rfl, go_of (s := { s with heap := h' }) e c dd (by decide) ⟨.ref es[i].2.1, H, I1, hkey, ⟨rfl, _, List.getElem?_eq_getElem hi, rfl⟩, st', fun b hb => (hf b hb).1⟩⟩
  done := by
    intro X hP hw hK hc i pins s σ H E I hf st hg
    subst hP hw hK
    obtain ⟨hd, hi⟩ := hg
    obtain ⟨f0, f1, f2, f3, f4, f5⟩ := hf it (by simp)
    obtain ⟨hgd, hx, es', ep', hdt, hsz, ent⟩ := frz_view I.hok hd
    obtain ⟨rfl, rfl⟩ := dict_ep hod hdt
    exact next_key_end (I.ok.hd hc) st hgd hdt hsz hi fun h' eb => ⟨rfl, I.turned (t' := s.toks) (fun b ob hb e => eb b ob hb e) f0 f1 f3 f4 f5⟩
  self := fun A i s Q E st h => PySem.wpAny_pyIter_keyiter st h
/-- a list that stays -/
theorem it_list {a : Addr} {vs : List V} {items : List RV} (h : ∀ w H, Stp w0 w H0 H → SqL X.K H a vs ∧ RepVs X.K w H items vs) : SrcIt X T false w0 H0 (Itl X.K a) (.items items) := by
  intro w H st i s j
  have s : Stp w0 w H0 H := s.elim (fun z => by cases z) id
  obtain ⟨hq, hr⟩ := h w H s
  refine ⟨fun v e => ?_, fun _ e => ⟨vs, hq, ?_⟩⟩
  · obtain ⟨x, e1, r⟩ := RepVs.get hr (show items[i]? = some v from e)
    refine ⟨⟨vs, x, hq, e1⟩, fun y H' hy => ?_⟩
    obtain ⟨rfl, hy⟩ := hy
    have := hy vs hq
    rw [e1] at this
    cases this
    exact ⟨w, Stp.refl w _, j, r⟩
  · subst e
    show vs.length ≤ items.length
    rw [hr.length]
    exact Nat.le_refl _
theorem it_tup {a : Addr} {vs : List V} {items : List RV} (h : ∀ w H, Stp w0 w H0 H → SqT X.K H a vs ∧ RepVs X.K w H items vs) : SrcIt X T false w0 H0 (Itt X.K a) (.items items) := by
  intro w H st i s j
  have s : Stp w0 w H0 H := s.elim (fun z => by cases z) id
  obtain ⟨hq, hr⟩ := h w H s
  refine ⟨fun v e => ?_, fun _ e => ⟨vs, hq, ?_⟩⟩
  · obtain ⟨x, e1, r⟩ := RepVs.get hr (show items[i]? = some v from e)
    refine ⟨⟨vs, x, hq, e1⟩, fun y H' hy => ?_⟩
    obtain ⟨rfl, hy⟩ := hy
    have := hy vs hq
    rw [e1] at this
    cases this
    exact ⟨w, Stp.refl w _, j, r⟩
  · subst e
    show vs.length ≤ items.length
    rw [hr.length]
    exact Nat.le_refl _
theorem Stp.adAt {w w' : Wd} {H H' : Hp} (s : Stp w w' H H') {n : Nat} {a : Addr} (e : w.ad[n]? = some a) : w'.ad[n]? = some a := by
  obtain ⟨m, e1, _⟩ := s.ad
  rw [e1, List.getElem?_append_left (List.getElem?_eq_some_iff.mp e).1]
  exact e
theorem it_cell {a : Addr} {n m : Nat} (ha : w0.ad[n]? = some a) : SrcIt X T false w0 H0 (Itl X.K a) (.cell n m) := by
  intro w H st i s j
  have s : Stp w0 w H0 H := s.elim (fun z => by cases z) id
  have e0 := s.adAt ha
  refine ⟨fun v e => ?_, fun he e => ?_⟩
  · simp only [Src.at?] at e
    split at e
    · rename_i xs hn
      obtain ⟨vs, h1, h2, h3⟩ := j.cell n a _ e0 hn
      obtain ⟨x, e1, r⟩ := RepVs.get h2 e
      refine ⟨⟨vs, x, SqL.of h1, e1⟩, fun y H' hy => ?_⟩
      obtain ⟨rfl, hy⟩ := hy
      have := hy vs (SqL.of h1)
      rw [e1] at this
      cases this
      exact ⟨w, Stp.refl w _, j, r⟩
    · cases e
  · simp only [Src.ends] at he
    split at he
    · rename_i xs hn
      obtain ⟨vs, h1, h2, h3⟩ := j.cell n a _ e0 hn
      refine ⟨vs, SqL.of h1, ?_⟩
      have e : i = m := e
      have := of_decide_eq_true he
      rw [← h2.length, e]
      omega
    · cases he
theorem rng_at {lo : Int} {n i : Nat} {v : RV} (e : (rngRV lo n)[i]? = some v) : i < n ∧ v = rvI (lo + (i : Int)) := by
  unfold rngRV at e
  rw [List.getElem?_map] at e
  by_cases hi : i < n
  · rw [List.getElem?_range hi] at e
    simp only [Option.map_some, Option.some.injEq] at e
    exact ⟨hi, e.symm⟩
  · rw [List.getElem?_eq_none (by simpa using hi)] at e
    cases e
theorem it_range (m : Bool) (lo : Int) (n : Nat) : SrcIt X T m w0 H0 (Itr lo n) (.items (rngRV lo n)) := by
  intro w H st i s j
  refine ⟨fun v e => ?_, fun _ e => ?_⟩
  · obtain ⟨hi, rfl⟩ := rng_at e
    refine ⟨hi, fun y H' hy => ?_⟩
    obtain ⟨rfl, rfl⟩ := hy
    exact ⟨w, Stp.refl w _, j, repI w _ _⟩
  · subst e
    show n ≤ (rngRV lo n).length
    unfold rngRV
    simp
theorem it_str (m : Bool) (x : Str) (hx : PyData.strOk x = true) : SrcIt X T m w0 H0 (Its x) (.items (x.cps.toList.map fun c => rvS ⟨#[c]⟩)) := by
  intro w H st i s j
  refine ⟨fun v e => ?_, fun _ e => ?_⟩
  · have e : (x.cps.toList.map fun c => rvS ⟨#[c]⟩)[i]? = some v := e
    rw [List.getElem?_map] at e
    obtain ⟨c, e1, rfl⟩ := Option.map_eq_some_iff.mp e
    have e2 : x.cps[i]? = some c := by rw [← Array.getElem?_toList]; exact e1
    refine ⟨(Array.getElem?_eq_some_iff.mp e2).1, fun y H' hy => ?_⟩
    obtain ⟨rfl, c', e3, rfl⟩ := hy
    rw [e2] at e3
    cases e3
    refine ⟨w, Stp.refl w _, j, RepD.str _ ?_⟩
    have hx' : x.cps.all (· < 0x110000) = true := hx
    rw [Array.all_eq_true_iff_forall_mem] at hx'
    show (#[c] : Array Nat).all (· < 0x110000) = true
    simpa using hx' c (by simpa using List.mem_of_getElem? e1)
  · subst e
    show x.cps.size ≤ (x.cps.toList.map fun c => rvS ⟨#[c]⟩).length
    simp
theorem it_keys {d : Addr} {o : Obj} (ha : H0 d = some (.frz o (dicO X.prog X.w d es))) (hr : Paired (EntR X.K w0 H0) kvs es) : SrcIt X T false w0 H0 (Itq X.prog X.w d o es) (.items (kvs.map fun p => .d .pur p.1)) := by
  intro w H st i s j
  have s : Stp w0 w H0 H := s.elim (fun z => by cases z) id
  have hd := s.frz _ _ _ ha
  refine ⟨fun v e => ?_, fun _ e => ⟨hd, ?_⟩⟩
  · have e : (kvs.map fun p => RV.d .pur p.1)[i]? = some v := e
    rw [List.getElem?_map] at e
    obtain ⟨p, e1, rfl⟩ := Option.map_eq_some_iff.mp e
    obtain ⟨en, e2, r⟩ := pget hr i e1
    refine ⟨⟨hd, (List.getElem?_eq_some_iff.mp e2).1⟩, fun y H' hy => ?_⟩
    obtain ⟨rfl, en', e3, rfl⟩ := hy
    rw [e2] at e3
    cases e3
    exact ⟨w, Stp.refl w _, j, (r.stp s).2.2.1⟩
  · subst e
    show es.length ≤ (kvs.map fun p => RV.d .pur p.1).length
    rw [List.length_map, hr.length]
    exact Nat.le_refl _
theorem mapM_get {α β : Type} {f : α → Option β} {l : List α} {m : List β} (e : l.mapM f = some m) {i : Nat} {x : α} (h : l[i]? = some x) : ∃ y, m[i]? = some y ∧ f x = some y := by
  obtain ⟨h1, h2⟩ := mapM_at e
  have hi : i < m.length := by rw [h1]; exact (List.getElem?_eq_some_iff.mp h).1
  obtain ⟨x', e1, e2⟩ := h2 i (List.getElem?_eq_getElem hi)
  rw [h] at e1
  cases e1
  exact ⟨_, List.getElem?_eq_getElem hi, e2⟩
/-- a pair just laid -/
theorem pair_laid {a b v : RV} {x y : V} {p : Addr} (j : JX X T w st H) (e : pairRV a b = some v) (ra : RepV X.K w H a x) (rb : RepV X.K w H b y) (hp : H p = none) :
    Stp w w H (upd H p (.tup [x, y])) ∧ JX X T w st (upd H p (.tup [x, y])) ∧ RepV X.K w (upd H p (.tup [x, y])) v (.ref p) := by
  have s : Stp w w H (upd H p (.tup [x, y])) := Stp.fresh hp
  refine ⟨s, j.fresh hp (fun ps z => by cases z), ?_⟩
  unfold pairRV mkTup at e
  obtain ⟨ds, e1, rfl⟩ := Option.map_eq_some_iff.mp e
  have r : RepVs X.K w H [a, b] [x, y] := .cons ra (.cons rb .nil)
  exact Rep.el (RepD.tup (.inl upd_same) (j.freshP hp).1 (by show 2 ≤ sizeLine; rw [sizeLine_eq]; decide) (RepL.stp s (datas_rep e1 r)))
theorem zip_at {α β : Type} {l : List α} {m : List β} {i : Nat} {p : α × β} (e : (l.zip m)[i]? = some p) : l[i]? = some p.1 ∧ m[i]? = some p.2 := by
  rw [List.getElem?_zip_eq_some] at e
  exact e
theorem it_enum {a : Addr} {g : Gn} {xs : List PyData} {vs : List V} {items : List RV} (h : ∀ w H, Stp w0 w H0 H → SqL X.K H a vs ∧ RepVs X.K w H (xs.map (el g)) vs)
    (e0 : ((List.range xs.length).zip xs).mapM (fun p => pairRV (rvI p.1) (el g p.2)) = some items) : SrcIt X T false w0 H0 (Ite X.K a) (.items items) := by
  intro w H st i s j
  have s : Stp w0 w H0 H := s.elim (fun z => by cases z) id
  obtain ⟨hq, hr⟩ := h w H s
  obtain ⟨q1, q2⟩ := mapM_at e0
  have hl : items.length = xs.length := by rw [q1]; simp
  have hl2 := hr.length
  rw [List.length_map] at hl2
  refine ⟨fun v e => ?_, fun _ e => ⟨vs, hq, ?_⟩⟩
  · obtain ⟨p, e1, e2⟩ := q2 i (show items[i]? = some v from e)
    obtain ⟨e3, e4⟩ := zip_at e1
    have hi : i < xs.length := (List.getElem?_eq_some_iff.mp e4).1
    rw [List.getElem?_range hi] at e3
    have e3 : p.1 = i := (Option.some.inj e3).symm
    obtain ⟨x, e5, r⟩ := RepVs.get hr (x := el g p.2) (by rw [List.getElem?_map, e4]; rfl)
    refine ⟨⟨vs, x, hq, e5⟩, fun y H' hy => ?_⟩
    obtain ⟨p', z, rfl, hp, rfl, hz⟩ := hy
    have := hz vs hq
    rw [e5] at this
    cases this
    rw [e3] at e2
    obtain ⟨s1, j1, r1⟩ := pair_laid j e2 (repI w H _) r hp
    exact ⟨w, s1, j1, r1⟩
  · subst e
    show vs.length ≤ items.length
    omega
theorem it_zip {a b : Addr} {g g' : Gn} {xs ys : List PyData} {vs us : List V} {items : List RV} (h : ∀ w H, Stp w0 w H0 H → SqL X.K H a vs ∧ RepVs X.K w H (xs.map (el g)) vs ∧ SqL X.K H b us ∧ RepVs X.K w H (ys.map (el g')) us)
    (hxy : xs.length = ys.length) (e0 : (xs.zip ys).mapM (fun p => pairRV (el g p.1) (el g' p.2)) = some items) : SrcIt X T false w0 H0 (Itz X.K a b) (.items items) := by
  intro w H st i s j
  have s : Stp w0 w H0 H := s.elim (fun z => by cases z) id
  obtain ⟨hq, hr, hq2, hr2⟩ := h w H s
  obtain ⟨q1, q2⟩ := mapM_at e0
  have hl : items.length = xs.length := by rw [q1, List.length_zip]; omega
  have hl2 := hr.length
  rw [List.length_map] at hl2
  refine ⟨fun v e => ?_, fun _ e => ⟨vs, us, hq, hq2, .inl ?_⟩⟩
  · obtain ⟨p, e1, e2⟩ := q2 i (show items[i]? = some v from e)
    obtain ⟨e3, e4⟩ := zip_at e1
    obtain ⟨x, e5, r⟩ := RepVs.get hr (x := el g p.1) (by rw [List.getElem?_map, e3]; rfl)
    obtain ⟨y, e6, r'⟩ := RepVs.get hr2 (x := el g' p.2) (by rw [List.getElem?_map, e4]; rfl)
    refine ⟨⟨vs, us, x, y, hq, hq2, e5, e6⟩, fun z H' hy => ?_⟩
    obtain ⟨p', z1, z2, rfl, hp, rfl, h1, h2⟩ := hy
    have := h1 vs hq
    rw [e5] at this
    cases this
    have := h2 us hq2
    rw [e6] at this
    cases this
    obtain ⟨s1, j1, r1⟩ := pair_laid j e2 r r' hp
    exact ⟨w, s1, j1, r1⟩
  · subst e
    show vs.length ≤ items.length
    omega

/-! ### PI -/
theorem setLk_none (st : Store) : setLk st none (fun _ => true) = st := rfl
theorem noF_none (w : Wd) (H : Hp) : NoF X w H none := fun n e => by cases e
theorem RepL.at_ {w w' : Wd} {H H' : Hp} (s : Stp w w' H H') {g : Gn} {xs : List PyData} {vs : List V} (r : RepL K H w.free (w.ok H g) xs vs) : RepVs K w' H' (xs.map (el g)) vs := items_rep (RepL.stp s r)
theorem den_one (a : E) (env : Env) (st : Store) : denL C φ φ2 (oneE a) env st = (den C φ φ2 a env st).bind fun v st1 => .ok [v] st1 := by
  simp only [oneE, denL]
  rfl
/-- the dict is locked -/
theorem J.lock {n : Nat} {a : Addr} {kvs : List (PyData × RV)} {o : Obj} (j : JX X T w st H) (ha : w.ad[n]? = some a) (hn : st[n]? = some (.dic false kvs)) (h1 : H a = some (dicO X.prog X.w a es)) (h0 : (a == sysModules) = false)
    (h2 : Paired (EntR X.K w H) kvs es) (h3 : es.length ≤ sizeLine) : Stp w w H (upd H a (.frz o (dicO X.prog X.w a es))) ∧ JX X T w (st.set n (.dic true kvs)) (upd H a (.frz o (dicO X.prog X.w a es))) := by
  have hm : Mut (H a) := by rw [h1]; unfold dicO; trivial
  have s : Stp w w H (upd H a (.frz o (dicO X.prog X.w a es))) := Stp.put (List.mem_of_getElem? ha) hm
  exact ⟨s, j.put ha hm (fun ps z => by cases z) ⟨es, ⟨o, upd_same⟩, h0, h2.mono fun _ _ r => r.stp s, h3⟩⟩
theorem set_self {α : Type} : ∀ {l : List α} {n : Nat} {x : α}, l[n]? = some x → l.set n x = l
  | [], _, _, h => by simp at h
  | a :: l, 0, x, h => by
    simp only [List.getElem?_cons_zero, Option.some.injEq] at h
    rw [h]; rfl
  | a :: l, n + 1, x, h => by
    simp only [List.getElem?_cons_succ] at h
    simp [set_self h]
theorem pi_val {ast : Expr} {a : E} (he : PE X ast (TEx X T cls Ex C φ φ2 a)) : PI X tg ast (TIx X T cls Ex C φ φ2 false .val (oneE a)) := by
  refine ⟨fun pins s σ H R I h => ?_⟩
  obtain ⟨w, env, st, j, en, h⟩ := h
  rw [den_one] at h
  cases hd : den C φ φ2 a env st with
  | bad => rw [hd] at h; exact h.elim
  | exc k st1 =>
    rw [hd] at h
    exact (pi_list he).run pins s σ H R I ⟨w, env, st, j, en, by rw [hd]; exact h⟩
  | ok v st1 =>
    rw [hd] at h
    obtain ⟨src, hs, h⟩ := h
    have base : ∀ Q : VK, (∀ w1 H1 x, Stp w w1 H H1 → JX X T w1 st1 H1 → RepV X.K w1 H1 v x → Q x H1) → TEx X T cls Ex C φ φ2 a σ H Q := fun Q q => ⟨w, env, st, j, en, by rw [hd]; exact q⟩
    cases v with
    | d g x =>
      have h' : ∀ w1 H1 J, Stp w w1 H H1 → JX X T w1 st1 H1 → src.size ≤ lim → SrcIt X T false w1 H1 J src → R J H1 := fun w1 H1 J s1 j1 => h w1 H1 J H1 s1 j1 (Stp.refl w1 H1) j1 (noF_none w1 H1)
      cases x with
      | list xs =>
        simp only [srcOf, sVal, Option.some.injEq] at hs
        subst hs
        refine (pi_list he).run pins s σ H R I (base _ fun w1 H1 x s1 j1 r1 => ?_)
        obtain ⟨b, vs, rfl, hr, f, _, hl, rl⟩ := RepD.list r1
        exact ⟨b, rfl, ⟨vs, .inl hr⟩, h' w1 H1 _ s1 j1 (by show (xs.map (el g)).length ≤ lim; rw [List.length_map, RepL.length rl, lim_eq]; exact hl) (it_list fun w2 H2 s2 => ⟨.inl (s2.rd f (fun ps z => by cases z) hr), RepL.at_ s2 rl⟩)⟩
      | tuple xs =>
        simp only [srcOf, sVal, Option.some.injEq] at hs
        subst hs
        refine (pi_tup he).run pins s σ H R I (base _ fun w1 H1 x s1 j1 r1 => ?_)
        have r1 : RepD X.K H1 w1.free (w1.ok H1 g) (.tuple xs) x := r1
        cases r1 with
        | @tup b vs _ hr f hl rl => exact ⟨b, rfl, ⟨vs, .inl hr⟩, h' w1 H1 _ s1 j1 (by show (xs.map (el g)).length ≤ lim; rw [List.length_map, RepL.length rl, lim_eq]; exact hl) (it_tup fun w2 H2 s2 => ⟨.inl (s2.rd f (fun ps z => by cases z) hr), RepL.at_ s2 rl⟩)⟩
        | @tupK b vs _ o its n hk hc hdd hl hv rl =>
          have hz : vs.length ≤ sizeLine := by
            have e := hv.length
            have e2 : its.toList.length = its.size := by simp
            omega
          exact ⟨b, rfl, ⟨vs, .inr ⟨_, _, _, hk, hc, hdd, hl, hv⟩⟩, h' w1 H1 _ s1 j1 (by show (xs.map (el g)).length ≤ lim; rw [List.length_map, RepL.length rl, lim_eq]; exact hz) (it_tup fun w2 H2 s2 => ⟨.inr ⟨_, _, _, hk, hc, hdd, hl, hv⟩, RepL.at_ s2 rl⟩)⟩
      | str x =>
        simp only [srcOf, sVal] at hs
        split at hs
        rotate_left
        · cases hs
        rename_i hz
        simp only [Option.some.injEq] at hs
        subst hs
        refine (pi_str he).run pins s σ H R I (base _ fun w1 H1 y s1 j1 r1 => ?_)
        obtain ⟨rfl, hx⟩ := RepD.strV r1
        exact ⟨x, rfl, h' w1 H1 _ s1 j1 (by show (x.cps.toList.map fun c => rvS ⟨#[c]⟩).length ≤ lim; simpa using hz) (it_str false x hx)⟩
      | _ => simp [srcOf, sVal] at hs
    | c n =>
      simp only [srcOf, sVal] at hs
      cases hn : st1[n]? with
      | none => rw [hn] at hs; cases hs
      | some cl =>
        rw [hn] at hs
        cases cl with
        | lst xs =>
          simp only [Option.some.injEq] at hs
          subst hs
          refine (pi_list he).run pins s σ H R I (base _ fun w1 H1 x s1 j1 r1 => ?_)
          obtain ⟨b, ea, rfl, vs, h3, h4, h5⟩ := atCell j1 r1 hn
          refine ⟨b, rfl, ⟨vs, SqL.of h3⟩, h w1 H1 _ H1 s1 j1 (Stp.refl w1 H1) ?_ ?_ (by show xs.length ≤ lim; rw [h4.length, lim_eq]; exact h5) (it_cell ea)⟩
          · simp only [lockOf, hn, setLk]; exact j1
          · simp only [lockOf, hn]; exact noF_none w1 H1
        | dic lk kvs =>
          simp only [Option.some.injEq] at hs
          subst hs
          refine thn (he.run pins s σ H _ I (base (fun x H1 => ∃ w1, Stp w w1 H H1 ∧ JX X T w1 st1 H1 ∧ RepV X.K w1 H1 (.c n) x) fun w1 H1 x s1 j1 r1 => ⟨w1, s1, j1, r1⟩)) fun u s1 ⟨x, H1, I1, rx, w1, s1', j1, r1⟩ => ?_
          obtain ⟨b, ea, rfl, es, h1, h0, h2, h3⟩ := atCell j1 r1 hn
          obtain rfl : u = Value.ref b := rx
          -- the lock
          have key : ∀ (o : Obj) (H2 : Hp), Inv X pins σ H2 s1 → Stp w1 w1 H1 H2 → H2 b = some (.frz o (dicO X.prog X.w b es)) → JX X T w1 (setLk st1 (lockOf .val [.c n] st1) fun _ => true) H2 → NoF X w1 H1 (lockOf .val [.c n] st1) →
              wpAny (model X.prog X.w) X.A (pyIter (.ref b)) (PIE X pins σ tg R) X.xe s1 := fun o H2 I2 s2 hf j2 nf => by
            obtain ⟨hgd, hx, est, ep, hdt, hsz, _⟩ := frz_view I2.hok hf
            refine iter_keys h0 hgd hx hdt (pi_one (tk := s1.toks) I2 _ (turn_q _ hdt) ⟨_, Heap.get?_push_size _ rfl, rfl, ?_⟩ (h w1 H1 _ H2 s1' j1 s2 j2 nf (by show (kvs.map fun p => RV.d .pur p.1).length ≤ lim; rw [List.length_map, h2.length, lim_eq]; exact h3) (it_keys hf (h2.mono fun _ _ r => r.stp s2))))
            rw [hsz]; rfl
          cases lk with
          | true =>
            obtain ⟨o, h1⟩ := h1
            refine key o H1 I1 (Stp.refl _ _) h1 ?_ ?_
            · simp only [lockOf, hn, setLk]
              rw [set_self hn]
              exact j1
            · simp only [lockOf, hn]
              intro m e
              cases e
          | false =>
            have h1 : H1 b = some (dicO X.prog X.w b es) := h1
            have mu : Mut (some (dicO X.prog X.w b es)) := by unfold dicO; trivial
            obtain ⟨o, I2⟩ := I1.lock h1 mu
            obtain ⟨s2, j2⟩ := J.lock (o := o) j1 ea hn h1 h0 h2 h3
            refine key o _ I2 s2 upd_same ?_ ?_
            · simp only [lockOf, hn, setLk]
              exact j2
            · simp only [lockOf, hn]
              intro m e a e'
              cases e
              rw [ea] at e'
              cases e'
              exact ⟨I1.nofrz h1 mu, fun o u z => by rw [h1] at z; unfold dicO at z; cases z⟩
        | _ => cases hs
/-- range(..) -/
theorem src_rng {rvs : List RV} {src : Src} (h : srcOf st .rng rvs = some src) : (∃ g j, rvs = [.d g (.int j)] ∧ j < 1000000 ∧ -1000000 < j ∧ src = .items (rngRV 0 j.toNat)) ∨
    ∃ g g' i j, rvs = [.d g (.int i), .d g' (.int j)] ∧ (j < 1000000 ∧ -1000000 < j ∧ i < 1000000 ∧ -1000000 < i) ∧ src = .items (rngRV i (j - i).toNat) := by
  unfold srcOf sRng at h
  dsimp only at h
  split at h
  · split at h
    · rename_i hb
      simp only [Option.some.injEq] at h
      exact .inl ⟨_, _, rfl, hb.1, hb.2, h.symm⟩
    · cases h
  · split at h
    · rename_i hb
      simp only [Option.some.injEq] at h
      exact .inr ⟨_, _, _, _, rfl, hb, h.symm⟩
    · cases h
  · cases h
theorem lock_rng {rvs : List RV} {ik : Ik} (h : ik ≠ .val) : lockOf ik rvs st = none := by
  unfold lockOf
  split
  · exact absurd rfl h
  · rfl
theorem src_plain {m : Bool} {ik : Ik} {w : Wd} {H : Hp} {rvs : List RV} {st1 : Store} {src : Src} {R : It → Hp → Prop} (hik : ik ≠ .val) (hs : srcOf st1 ik rvs = some src) (h : SrcR X T cls Ex m ik w H (.ok rvs st1) R) :
    ∀ w1 H1 J, Stp w w1 H H1 → JX X T w1 st1 H1 → src.size ≤ lim → SrcIt X T m w1 H1 J src → R J H1 := fun w1 H1 J s1 j1 hz hi => by
  obtain ⟨src', hs', h⟩ := h
  rw [hs] at hs'
  cases hs'
  have e := lock_rng (st := st1) (rvs := rvs) hik
  rw [e] at h
  exact h w1 H1 J H1 s1 j1 (Stp.refl w1 H1) j1 (noF_none w1 H1) hz hi
theorem pi_rng {m : Bool} {es : List Expr} {it : EL} {p pos : Pos} (hg : Gl X "range") (hm : X.mg "range" = none) (ha : PA X es (TAx X T cls Ex C φ φ2 it)) (hl : es.length = 1 ∨ es.length = 2)
    (hs : ∀ e r, e ∈ es → starEach (e :: r) X.env = (false, eval e X.env) :: starEach r X.env) (hn : ∀ env st rvs st1, denL C φ φ2 it env st = .ok rvs st1 → rvs.length = es.length) : PI X tg (.Call (.Name "range" p) es [] pos) (TIx X T cls Ex C φ φ2 m .rng it) := by
  refine ⟨fun pins s σ H R I h => ?_⟩
  obtain ⟨w, env, st, j, en, h⟩ := h
  have fin : ∀ {rvs st1}, denL C φ φ2 it env st = .ok rvs st1 → ∀ xs H1, (∃ w1, Stp w w1 H H1 ∧ JX X T w1 st1 H1 ∧ RepVs X.K w1 H1 rvs xs) → ∀ src, srcOf st1 .rng rvs = some src → (∀ w1 H1 J, Stp w w1 H H1 → JX X T w1 st1 H1 → src.size ≤ lim → SrcIt X T m w1 H1 J src → R J H1) →
      (∃ i, xs = [.int i] ∧ -(2 ^ 62) ≤ i ∧ i < 2 ^ 62 ∧ R (Itr 0 i.toNat) H1) ∨ ∃ i j, xs = [.int i, .int j] ∧ (-(2 ^ 62) ≤ i ∧ i < 2 ^ 62 ∧ -(2 ^ 62) ≤ j ∧ j < 2 ^ 62) ∧ R (Itr i (j - i).toNat) H1 := by
    rintro rvs st1 hd xs H1 ⟨w1, s1, j1, r1⟩ src hsr h
    rcases src_rng hsr with ⟨g, i, rfl, b1, b2, rfl⟩ | ⟨g, g', i, k, rfl, b, rfl⟩
    · obtain ⟨x, rfl, r3⟩ := RepVs.one r1
      have e := RepD.intV r3
      subst e
      exact .inl ⟨i, rfl, by omega, by omega, h w1 H1 _ s1 j1 (by show (rngRV 0 i.toNat).length ≤ lim; unfold rngRV lim; simp; omega) (it_range m 0 _)⟩
    · obtain ⟨x, y, rfl, r3, r2⟩ := RepVs.two r1
      have e := RepD.intV r3
      subst e
      have e := RepD.intV r2
      subst e
      exact .inr ⟨i, k, rfl, by omega, h w1 H1 _ s1 j1 (by show (rngRV i (k - i).toNat).length ≤ lim; unfold rngRV lim; simp; omega) (it_range m _ _)⟩
  match es, hl with
  | [a], _ =>
    refine (pi_range1 hg hm ha (hs a [] (by simp))).run pins s σ H R I ⟨w, env, st, j, en, ?_⟩
    cases hd : denL C φ φ2 it env st with
    | bad => rw [hd] at h; exact h.elim
    | exc k st1 => rw [hd] at h; exact h
    | ok rvs st1 =>
      rw [hd] at h
      have h2 := h
      obtain ⟨src, hsr, _⟩ := h2
      intro w1 H1 xs s1 j1 r1
      rcases fin hd xs H1 ⟨w1, s1, j1, r1⟩ src hsr (src_plain (by decide) hsr h) with q | ⟨i, k, e, _⟩
      · exact q
      · have := hn _ _ _ _ hd
        rw [r1.length, e] at this
        cases this
  | [a, b], _ =>
    refine (pi_range2 hg hm ha (by rw [hs a [b] (by simp), hs b [] (by simp)]; rfl) (hs b [] (by simp))).run pins s σ H R I ⟨w, env, st, j, en, ?_⟩
    cases hd : denL C φ φ2 it env st with
    | bad => rw [hd] at h; exact h.elim
    | exc k st1 => rw [hd] at h; exact h
    | ok rvs st1 =>
      rw [hd] at h
      have h2 := h
      obtain ⟨src, hsr, _⟩ := h2
      intro w1 H1 xs s1 j1 r1
      rcases fin hd xs H1 ⟨w1, s1, j1, r1⟩ src hsr (src_plain (by decide) hsr h) with ⟨i, e, _⟩ | q
      · have := hn _ _ _ _ hd
        rw [r1.length, e] at this
        cases this
      · exact q
/-- enumerate(a list) -/
theorem pi_enm {e : Expr} {it : EL} {p pos tpos : Pos} {elts : List Expr} {kk : Nat} (hg : Gl X "enumerate") (hm : X.mg "enumerate" = none) (ha : PA X [e] (TAx X T cls Ex C φ φ2 it)) (hs : starEach [e] X.env = [(false, eval e X.env)]) :
    PI X (.Tuple elts kk tpos) (.Call (.Name "enumerate" p) [e] [] pos) (TIx X T cls Ex C φ φ2 false .enum it) := by
  refine ⟨fun pins s σ H R I h => ?_⟩
  obtain ⟨w, env, st, j, en, h⟩ := h
  refine (pi_enum hg hm ha hs).run pins s σ H R I ⟨w, env, st, j, en, ?_⟩
  cases hd : denL C φ φ2 it env st with
  | bad => rw [hd] at h; exact h.elim
  | exc k st1 => rw [hd] at h; exact h
  | ok rvs st1 =>
    rw [hd] at h
    have h2 := h
    obtain ⟨src, hsr, _⟩ := h2
    have h := src_plain (by decide) hsr h
    intro w1 H1 xs s1 j1 r1
    unfold srcOf sEnum at hsr
    dsimp only at hsr
    split at hsr
    · rename_i g ds
      obtain ⟨items, e0, rfl⟩ := Option.map_eq_some_iff.mp hsr
      obtain ⟨x, rfl, r2⟩ := RepVs.one r1
      obtain ⟨b, vs, rfl, hr, f, _, hl, rl⟩ := RepD.list r2
      exact ⟨b, vs, rfl, .inl hr, h w1 H1 _ s1 j1 (by show items.length ≤ lim; rw [(mapM_at e0).1, lim_eq]; have := RepL.length rl; simp; omega) (it_enum (fun w2 H2 s2 => ⟨.inl (s2.rd f (fun ps z => by cases z) hr), RepL.at_ s2 rl⟩) e0)⟩
    · cases hsr
/-- zip of two lists of one length -/
theorem pi_zp {e e2 : Expr} {it : EL} {p pos tpos : Pos} {elts : List Expr} {kk : Nat} (hg : Gl X "zip") (hm : X.mg "zip" = none) (ha : PA X [e, e2] (TAx X T cls Ex C φ φ2 it))
    (hs : starEach [e, e2] X.env = (false, eval e X.env) :: starEach [e2] X.env) (hpl : (backTo pos (starEach [e2] X.env)).any (·.1) = false) :
    PI X (.Tuple elts kk tpos) (.Call (.Name "zip" p) [e, e2] [] pos) (TIx X T cls Ex C φ φ2 false .zip it) := by
  refine ⟨fun pins s σ H R I h => ?_⟩
  obtain ⟨w, env, st, j, en, h⟩ := h
  refine (L2.pi_zip hg hm ha hs hpl).run pins s σ H R I ⟨w, env, st, j, en, ?_⟩
  cases hd : denL C φ φ2 it env st with
  | bad => rw [hd] at h; exact h.elim
  | exc k st1 => rw [hd] at h; exact h
  | ok rvs st1 =>
    rw [hd] at h
    have h2 := h
    obtain ⟨src, hsr, _⟩ := h2
    have h := src_plain (by decide) hsr h
    intro w1 H1 xs s1 j1 r1
    unfold srcOf sZip at hsr
    dsimp only at hsr
    split at hsr
    · rename_i g ds g' ds'
      split at hsr
      · rename_i hl
        obtain ⟨items, e0, rfl⟩ := Option.map_eq_some_iff.mp hsr
        obtain ⟨x, y, rfl, r3, r2⟩ := RepVs.two r1
        obtain ⟨b, vs, rfl, hr, f, _, hl1, rl⟩ := RepD.list r3
        obtain ⟨c, us, rfl, hr2, f2, _, _, rl2⟩ := RepD.list r2
        exact ⟨b, c, vs, us, rfl, .inl hr, .inl hr2, h w1 H1 _ s1 j1 (by show items.length ≤ lim; rw [(mapM_at e0).1, lim_eq]; have := RepL.length rl; simp only [List.length_zip]; omega) (it_zip (fun w2 H2 s2 => ⟨.inl (s2.rd f (fun ps z => by cases z) hr), RepL.at_ s2 rl, .inl (s2.rd f2 (fun ps z => by cases z) hr2), RepL.at_ s2 rl2⟩) hl e0)⟩
      · cases hsr
    · cases hsr
end
end DL

-- DLoop
/-! DLoop: statements' meaning as readings; for, while; comprehensions. -/
namespace DL
open PySem L2
section
variable {K : PySem.W.Frag} {w : Wd} {H : Hp} {p : Addr} {o : HO}
/-! ### what is not free is changed: data stays -/
theorem ne_free {a : Addr} (hp : ¬ w.free p) (f : w.free a) : a ≠ p := fun z => hp (z ▸ f)
theorem upd_rd {a : Addr} {u : HO} (hp : ¬ w.free p) (f : w.free a) (h : Rd H a u) : Rd (upd H p o) a u := by
  have : a ≠ p := fun z => hp (z ▸ f)
  unfold Rd at h ⊢
  rw [upd_ne this]
  exact h
mutual
theorem RepD.ch (hp : ¬ w.free p) {g : Gn} : ∀ {x : PyData} {v : V}, RepD K H w.free (w.ok H g) x v → RepD K (upd H p o) w.free (w.ok (upd H p o) g) x v
  | _, _, .non => .non
  | _, _, .bl b => .bl b
  | _, _, .int i => .int i
  | _, _, .str x h => .str x h
  | _, _, .lst h f q hl r => .lst (upd_rd hp f h) f ⟨q.1, q.2.1, q.2.2.imp id fun ⟨u, e⟩ => ⟨u, by rw [upd_ne (ne_free hp f)]; exact e⟩⟩ hl (RepL.ch hp r)
  | _, _, .tup h f hl r => .tup (upd_rd hp f h) f hl (RepL.ch hp r)
  | _, _, .tupK h hc hd hl hv r => .tupK h hc hd hl hv (RepL.ch hp r)
theorem RepL.ch (hp : ¬ w.free p) {g : Gn} : ∀ {xs : List PyData} {vs : List V}, RepL K H w.free (w.ok H g) xs vs → RepL K (upd H p o) w.free (w.ok (upd H p o) g) xs vs
  | _, _, .nil => .nil
  | _, _, .cons h t => .cons (RepD.ch hp h) (RepL.ch hp t)
end
theorem RepV.ch (hp : ¬ w.free p) : ∀ {rv : RV} {v : V}, RepV K w H rv v → RepV K w (upd H p o) rv v
  | .d _ _, _, h => RepD.ch hp h
  | .c _, _, h => h
theorem RepVs.ch (hp : ¬ w.free p) {rvs : List RV} {vs : List V} (h : RepVs K w H rvs vs) : RepVs K w (upd H p o) rvs vs := h.mono fun _ _ r => r.ch hp
theorem EntR.ch (hp : ¬ w.free p) {q : PyData × RV} {e : Ent} (h : EntR K w H q e) : EntR K w (upd H p o) q e := ⟨h.1, h.2.1, RepD.ch hp h.2.2.1, h.2.2.2.ch hp⟩
theorem EnvR.ch (hp : ¬ w.free p) {env : Env} {σ : St} (h : EnvR K w H env σ) : EnvR K w (upd H p o) env σ := ⟨h.len, fun i rv e => let ⟨v, e1, r⟩ := h.at_ i rv e; ⟨v, e1, r.ch hp⟩⟩
theorem CellOk.ch {P : Program} {W : World} (hp : ¬ w.free p) {a : Addr} {c : Cell} (ha : a ≠ p) (h : CellOk P W K w H a c) : CellOk P W K w (upd H p o) a c := by
  have e : upd H p o a = H a := upd_ne ha
  cases c with
  | lst xs => obtain ⟨vs, h1, h2, h3⟩ := h; exact ⟨vs, e.trans h1, h2.ch hp, h3⟩
  | dic lk kvs => obtain ⟨es, h1, h0, h2, h3⟩ := h; exact ⟨es, h1.at_ e, h0, h2.mono fun _ _ r => r.ch hp, h3⟩
  | sd kvs => obtain ⟨vs, h1, h2⟩ := h; exact ⟨vs, e.trans h1, h2.mono fun _ _ r => ⟨r.1, r.2.ch hp⟩⟩
  | obj k fs => obtain ⟨h0, C, dx, vs, h1, h2, h3⟩ := h; exact ⟨h0, C, dx, vs, h1, e.trans h2, h3.mono fun _ _ r => ⟨r.1, r.2.ch hp⟩⟩
  | gone => obtain ⟨u, h1, h2⟩ := h; exact ⟨u, e.trans h1, h2⟩
end
section
variable {P : Program} {W : World} {K : PySem.W.Frag} {T : List (Addr × Str)} {w : Wd} {st : Store} {H : Hp} {p : Addr} {o : HO}
theorem tabs_upd (t : LamX.Tabs T H) (h1 : ∀ ps, H p ≠ some (.tbl ps)) (h2 : ∀ q, H p ≠ some (LamX.CodeO p q)) : LamX.Tabs T (upd H p o) := fun q hq => by
  obtain ⟨ps, a1, a2, a3⟩ := t q hq
  refine ⟨ps, by rw [upd_ne (fun z => h1 ps (by rw [← z]; exact a1))]; exact a1, a2, fun pos cv hcv => ?_⟩
  obtain ⟨c0, e1, e2⟩ := a3 pos cv hcv
  exact ⟨c0, e1, by rw [upd_ne (fun z => h2 q.2 (by rw [← z]; exact e2))]; exact e2⟩
/-- the cell at p is changed in any way -/
theorem J.upAt (j : J P W K T w st H) {n : Nat} {c : Cell} (hn : w.ad[n]? = some p) (ho : ∀ ps, o ≠ .tbl ps) (hc : CellOk P W K w (upd H p o) p c) : J P W K T w (st.set n c) (upd H p o) := by
  have hp : p ∈ w.ad := List.mem_of_getElem? hn
  have hf : ¬ w.free p := fun z => z.1 hp
  obtain ⟨u, hu, hh⟩ := j.adHO hp
  refine ⟨by simp [j.len], j.nd, j.apart, fun b u e => ?_, j.sbf, fun b ps e => ?_, fun a ha => ?_, fun m a d h1 h2 => ?_, tabs_upd j.tabs (fun ps z => hh.ntbl ps (by rw [hu] at z; exact Option.some.inj z)) fun q z => hh.ncode rfl (by rw [hu] at z; exact Option.some.inj z)⟩
  · have : b ≠ p := fun z => by rw [z, j.sbf p hp] at e; cases e
    rw [upd_ne this]; exact j.sb b u e
  · by_cases z : b = p
    · rw [z, upd_same] at e
      exact absurd (Option.some.inj e) (ho ps)
    · rw [upd_ne z] at e
      exact j.sbt b ps e
  · have ne : a ≠ p := fun z => j.apart p hp (z ▸ ha)
    obtain ⟨o', e, t⟩ := j.nos a ha
    exact ⟨o', by rw [upd_ne ne]; exact e, t⟩
  · by_cases hm : m = n
    · subst hm
      rw [hn] at h1; cases h1
      rw [List.getElem?_set_self (by rw [← j.len]; exact (List.getElem?_eq_some_iff.mp hn).1)] at h2
      cases h2
      exact hc
    · rw [List.getElem?_set_ne (Ne.symm hm)] at h2
      refine CellOk.ch hf (fun z => ?_) (j.cell m a d h1 h2)
      subst z
      obtain ⟨i1, e1⟩ := List.getElem?_eq_some_iff.mp h1
      obtain ⟨i2, e2⟩ := List.getElem?_eq_some_iff.mp hn
      exact hm ((List.getElem_inj j.nd).mp (e1.trans e2.symm))
/-- a caller's list at p is changed -/
theorem J.upNo (j : J P W K T w st H) (hp : p ∈ w.no) (hs : ∃ vs, H p = some (.lst vs)) (hb : w.sb p = none) {us : List V} : J P W K T w st (upd H p (.lst us)) := by
  obtain ⟨vs, hs⟩ := hs
  have hf : ¬ w.free p := fun z => z.2 hp
  refine ⟨j.len, j.nd, j.apart, fun b u e => ?_, j.sbf, fun b ps e => ?_, fun a ha => ?_, fun m a d h1 h2 => ?_, tabs_upd j.tabs (fun ps z => by rw [hs] at z; cases z) fun q z => by rw [hs] at z; unfold LamX.CodeO at z; cases z⟩
  · have : b ≠ p := fun z => by rw [z, hb] at e; cases e
    rw [upd_ne this]; exact j.sb b u e
  · by_cases z : b = p
    · rw [z, upd_same] at e
      cases e
    · rw [upd_ne z] at e
      exact j.sbt b ps e
  · by_cases z : a = p
    · exact ⟨.lst us, by rw [z, upd_same], fun ps y => by cases y⟩
    · obtain ⟨o', e, t⟩ := j.nos a ha
      exact ⟨o', by rw [upd_ne z]; exact e, t⟩
  · exact CellOk.ch hf (fun z => j.apart a (List.mem_of_getElem? h1) (z ▸ hp)) (j.cell m a d h1 h2)
end

/-! ### a statement's end -/
section
variable (X : Cx) (T : List (Addr × Str)) (cls : Nat → Value) (Ex : XK) (C : Cfg) (φ φ2 : Phi)
def OutOk (m : Bool) (D : Ends) (w : Wd) (H : Hp) (o : Out) : Prop :=
  match o with
  | .nx env st => ∀ w' H' σ', Rl m w w' H H' → JX X T w' st H' → EnvR X.K w' H' env σ' → D.nx σ' H'
  | .rt v st => ∀ w' H' x, Rl m w w' H H' → JX X T w' st H' → RepV X.K w' H' v x → D.rt x H'
  | .rtt vs st => ∀ w' H' a ys, Rl m w w' H H' → JX X T w' st H' → RepVs X.K w' H' vs ys → Rd H' a (.tup ys) → w'.free a → ys.length ≤ sizeLine → D.rt (.ref a) H'
  | .exc k st => ∀ w' H' (d : Dx k), Rl m w w' H H' → JX X T w' st H' → Ex (cls k) d.1 H'
  | .bad => False
def TSx (m : Bool) (s : S) : TS := fun D σ H => ∃ w env st, JX X T w st H ∧ EnvR X.K w H env σ ∧ OutOk X T cls Ex m D w H (exe C φ φ2 s env st)
def TSSx (m : Bool) (s : SL) : TS := fun D σ H => ∃ w env st, JX X T w st H ∧ EnvR X.K w H env σ ∧ OutOk X T cls Ex m D w H (exes C φ φ2 s env st)
def tgSlots : Tg → List Nat
  | .nm i => [i]
  | .tp is => is
  | .pr i is => i :: is
/-- the slots are the same but there -/
def Dif (is : List Nat) (σ σ' : St) : Prop := σ'.length = σ.length ∧ ∀ i, i ∉ is → σ'[i]? = σ[i]?
def GX (tg : Tg) : TG := fun v σ H Q => ∃ w env st rv, JX X T w st H ∧ EnvR X.K w H env σ ∧ RepV X.K w H rv v ∧ match assign tg rv env with
  | some env' => ∀ σ', EnvR X.K w H env' σ' → Dif (tgSlots tg) σ σ' → Q σ' H
  | none => False
/-- what was locked may be unlocked -/
def unNx (nx : St → Hp → Prop) : St → Hp → Prop := fun σ H => nx σ H ∨ ∃ d o u, H d = some (.frz o u) ∧ (∀ o' u', X.H_0 d ≠ some (.frz o' u')) ∧ nx σ (upd H d u)
def unEnds (D : Ends) : Ends := { D with nx := unNx X D.nx }
def unVK (Q : VK) : VK := fun x H => Q x H ∨ ∃ d o u, H d = some (.frz o u) ∧ (∀ o' u', X.H_0 d ≠ some (.frz o' u')) ∧ Q x (upd H d u)
end
section
variable {X : Cx} {T : List (Addr × Str)} {cls : Nat → Value} {Ex : XK} {C : Cfg} {φ φ2 : Phi} {w w0 : Wd} {H H0 : Hp} {st : Store} {v : V} {rv : RV} {pins : List (Addr × Obj)} {s : Shared} {σ : St} {m : Bool} {D : Ends}
theorem ps_un {ast : Stmt} {t : TS} (h : PS X ast t) : PS X ast (fun D σ H => t (unEnds X D) σ H) := by
  refine ⟨fun pins s σ H D I hw => thn (h.run pins s σ H _ I hw) fun f s1 q => ?_⟩
  cases f with
  | next =>
    obtain ⟨σ', H', I2, q⟩ := q
    rcases q with q | ⟨d, o, u, hf, hn, q⟩
    · exact ⟨σ', H', I2, q⟩
    · exact ⟨σ', _, I2.unlock hf hn, q⟩
  | brk => exact q
  | cont => exact q
  | ret v => exact q
theorem pe_unl {e : Expr} {t : TE} (h : PE X e t) : PE X e (fun σ H Q => t σ H (unVK X Q)) := by
  refine ⟨fun pins s σ H Q I hw => thn (h.run pins s σ H _ I hw) fun v s1 ⟨x, H1, I1, r, q⟩ => ?_⟩
  rcases q with q | ⟨d, o, u, hf, hn, q⟩
  · exact ⟨x, H1, I1, r, q⟩
  · exact ⟨x, _, I1.unlock hf hn, r, q⟩
theorem OutOk.after {o : Out} (s : Rl m w w0 H H0) (h : OutOk X T cls Ex m D w H o) : OutOk X T cls Ex m D w0 H0 o := by
  cases o with
  | nx env st => exact fun w' H' σ' s' => h w' H' σ' (s.trans s')
  | rt v st => exact fun w' H' x s' => h w' H' x (s.trans s')
  | rtt vs st => exact fun w' H' a ys s' => h w' H' a ys (s.trans s')
  | exc k st => exact fun w' H' d s' => h w' H' d (s.trans s')
  | bad => exact h
/-- the base stays, the statement runs from later on -/
theorem OutOk.seq {o : Out} {f : Env → Store → Out} (h : OutOk X T cls Ex m D w H (o.seq f)) (s : Rl m w w0 H H0) {nx : St → Hp → Prop} {ct bk : St → Hp → Prop}
    (hn : ∀ w1 H1 σ1 env1 st1, o = .nx env1 st1 → Rl m w0 w1 H0 H1 → JX X T w1 st1 H1 → EnvR X.K w1 H1 env1 σ1 → OutOk X T cls Ex m D w H (f env1 st1) → nx σ1 H1) : OutOk X T cls Ex m { nx := nx, rt := D.rt, ct := ct, bk := bk } w0 H0 o := by
  cases o with
  | nx env st => exact fun w' H' σ' s' j e => hn w' H' σ' env st rfl s' j e h
  | rt v st => exact fun w' H' x s' => h w' H' x (s.trans s')
  | rtt vs st => exact fun w' H' a ys s' => h w' H' a ys (s.trans s')
  | exc k st => exact fun w' H' d s' => h w' H' d (s.trans s')
  | bad => exact h
theorem Out.seq_assoc (o : Out) (f g : Env → Store → Out) : (o.seq f).seq g = o.seq fun env st => (f env st).seq g := by cases o <;> rfl
theorem ps_while {c : Expr} {body : List Stmt} {e : E} {a : SL} {n : Nat} {pos : Pos} (hp : PassesOwn (model X.prog X.w) X.A X.env X.xe) (hc : PT X c (TTx X T cls Ex C φ φ2 e)) (hb : PSs X body (TSSx X T cls Ex C φ φ2 m a)) :
    PS X (.While c body [] pos) (TSx X T cls Ex C φ φ2 m (.whl n e a)) := by
  refine PS.imp (L2.ps_while hp hc hb) fun D σ H h => ?_
  obtain ⟨w, env, st, j, en, h⟩ := h
  have h : OutOk X T cls Ex m D w H (whileLoop (test C φ φ2 e) (exes C φ φ2 a) n env st) := by simpa only [exe] using h
  refine ⟨fun k σ1 H1 => ∃ w1 env1 st1, Rl m w w1 H H1 ∧ JX X T w1 st1 H1 ∧ EnvR X.K w1 H1 env1 σ1 ∧ OutOk X T cls Ex m D w H (whileLoop (test C φ φ2 e) (exes C φ φ2 a) k env1 st1), ⟨n, w, env, st, .inr (Stp.refl w H), j, en, h⟩, ?_⟩
  rintro k σ1 H1 ⟨w1, env1, st1, s1, j1, en1, h1⟩
  cases k with
  | zero => exact h1.elim
  | succ k =>
    refine ⟨w1, env1, st1, j1, en1, ?_⟩
    simp only [whileLoop] at h1
    cases ht : test C φ φ2 e env1 st1 with
    | bad => rw [ht] at h1; exact h1.elim
    | exc x st2 =>
      rw [ht] at h1
      exact fun w' H' d s' j' => h1 w' H' d (s1.trans (.inr s')) j'
    | ok b st2 =>
      rw [ht] at h1
      rintro w2 H2 b' s2 j2 rfl
      have s12 := s1.trans (Rl.stp s2)
      have en2 := en1.stp s2
      cases b with
      | true =>
        rw [if_pos rfl]
        simp only [Out.ofRes_ok, if_true] at h1
        refine ⟨fun σ' H' => ∃ w3 env3 st3, Rl m w w3 H H' ∧ JX X T w3 st3 H' ∧ EnvR X.K w3 H' env3 σ' ∧ OutOk X T cls Ex m D w H (whileLoop (test C φ φ2 e) (exes C φ φ2 a) k env3 st3), fun σ' H' q => ⟨k, Nat.lt_succ_self k, q⟩, w2, env1, st2, j2, en2, ?_⟩
        exact OutOk.seq h1 s12 fun w3 H3 σ3 env3 st3 _ s3 j3 en3 h3 => ⟨w3, env3, st3, s12.trans s3, j3, en3, h3⟩
      | false =>
        rw [if_neg Bool.false_ne_true]
        simp only [Out.ofRes_ok, Bool.false_eq_true, if_false] at h1
        exact h1 w2 H2 σ1 s12 j2 en2

/-! ### the end of a loop over a dict -/
def Unl (X : Cx) (w2 : Wd) (Hc H3 : Hp) : Prop := H3 = Hc ∨ ∃ d o u, Hc d = some (.frz o u) ∧ (∀ o' u', X.H_0 d ≠ some (.frz o' u')) ∧ d ∈ w2.ad ∧ H3 = upd Hc d u
theorem Unl.env {w2 : Wd} {Hc H3 : Hp} (h : Unl X w2 Hc H3) {env : Env} (e : EnvR X.K w2 Hc env σ) : EnvR X.K w2 H3 env σ := by
  rcases h with rfl | ⟨d, o, u, _, _, hd, rfl⟩
  · exact e
  · exact e.ch fun z => z.1 hd
theorem Unl.nx {w2 : Wd} {Hc H3 : Hp} (h : Unl X w2 Hc H3) {nx : St → Hp → Prop} (q : nx σ H3) : unNx X nx σ Hc := by
  rcases h with rfl | ⟨d, o, u, h1, h2, hd, rfl⟩
  · exact .inl q
  · exact .inr ⟨d, o, u, h1, h2, q⟩
theorem Unl.vk {w2 : Wd} {Hc H3 : Hp} (h : Unl X w2 Hc H3) {Q : VK} {x : V} (q : Q x H3) : unVK X Q x Hc := by
  rcases h with rfl | ⟨d, o, u, h1, h2, hd, rfl⟩
  · exact .inl q
  · exact .inr ⟨d, o, u, h1, h2, q⟩
theorem lock_dic {ik : Ik} {rvs : List RV} {st1 : Store} {n : Nat} {lk : Bool} (h : lockOf ik rvs st1 = some (n, lk)) : ∃ kvs, st1[n]? = some (.dic lk kvs) := by
  unfold lockOf at h
  split at h
  · split at h
    · rename_i hn
      simp only [Option.some.injEq, Prod.mk.injEq] at h
      obtain ⟨rfl, rfl⟩ := h
      exact ⟨_, hn⟩
    · cases h
  · cases h
theorem dicO_inj {P : Program} {W : World} {a : Addr} {o : Obj} {vs : List V} : dicO P W a ([] : List Ent) ≠ .lst vs := by unfold dicO; simp
theorem unlock_end {w1 w2 : Wd} {H1 H2 Hc : Hp} {st1 st2 : Store} {l : Option (Nat × Bool)} (hl : ∀ n lk, l = some (n, lk) → ∃ kvs, st1[n]? = some (.dic lk kvs)) (s1 : Stp w1 w1 H1 H2) (j1 : JX X T w1 (setLk st1 l fun _ => true) H2) (nf : NoF X w1 H1 l) (s2 : Stp w1 w2 H2 Hc) (j2 : JX X T w2 st2 Hc) :
    ∃ H3, Unl X w2 Hc H3 ∧ Stp w1 w2 H1 H3 ∧ JX X T w2 (setLk st2 l id) H3 := by
  cases l with
  | none => exact ⟨Hc, .inl rfl, s1.trans s2, j2⟩
  | some p =>
    obtain ⟨n, lk⟩ := p
    obtain ⟨kvs1, hn⟩ := hl n lk rfl
    simp only [setLk, hn] at j1
    have hlt : n < st1.length := (List.getElem?_eq_some_iff.mp hn).1
    obtain ⟨a, ha, es, ⟨o, h1⟩, h0, _, _⟩ := j1.at_ (List.getElem?_set_self (a := Cell.dic true kvs1) hlt)
    have ha2 := s2.adAt ha
    have hc := s2.frz _ _ _ h1
    cases hs : st2[n]? with
    | none => exact ⟨Hc, .inl rfl, s1.trans s2, by simp only [setLk, hs]; exact j2⟩
    | some c2 =>
      have q := j2.cell n a c2 ha2 hs
      cases c2 with
      | lst xs => exact ⟨Hc, .inl rfl, s1.trans s2, by simp only [setLk, hs]; exact j2⟩
      | sd xs => exact ⟨Hc, .inl rfl, s1.trans s2, by simp only [setLk, hs]; exact j2⟩
      | obj k xs => exact ⟨Hc, .inl rfl, s1.trans s2, by simp only [setLk, hs]; exact j2⟩
      | gone => exact ⟨Hc, .inl rfl, s1.trans s2, by simp only [setLk, hs]; exact j2⟩
      | dic lk2 kvs2 =>
        obtain ⟨es2, q1, q2, q3, q4⟩ := q
        cases lk2 with
        | false =>
          have q1 : Hc a = some (dicO X.prog X.w a es2) := q1
          rw [hc] at q1
          unfold dicO at q1
          cases q1
        | true =>
          obtain ⟨o2, q1⟩ := q1
          cases lk with
          | true =>
            refine ⟨Hc, .inl rfl, s1.trans s2, ?_⟩
            simp only [setLk, hs, id]
            rw [set_self hs]
            exact j2
          | false =>
            obtain ⟨n1, n2⟩ := nf n rfl a ha
            have hd : a ∈ w2.ad := List.mem_of_getElem? ha2
            have hf : ¬ w2.free a := fun z => z.1 hd
            refine ⟨upd Hc a (dicO X.prog X.w a es2), .inr ⟨a, o2, _, q1, n1, hd, rfl⟩, ?_, ?_⟩
            · have s := s1.trans s2
              refine ⟨s.sb, s.no, s.ad, fun b x e nb t => ?_, fun b ⟨ob, e, t⟩ => ?_, fun b x u e => ?_⟩
              · rw [upd_ne (fun z => nb (by rw [z]; exact List.mem_of_getElem? ha))]
                exact s.fr b x e nb t
              · by_cases z : b = a
                · exact ⟨_, by rw [z, upd_same], fun ps y => by unfold dicO at y; cases y⟩
                · obtain ⟨o', e', t'⟩ := s.dom b ⟨ob, e, t⟩
                  exact ⟨o', by rw [upd_ne z]; exact e', t'⟩
              · rw [upd_ne (fun z => n2 x u (by rw [← z]; exact e))]
                exact s.frz b x u e
            · simp only [setLk, hs, id]
              exact J.upAt j2 ha2 (fun ps z => by unfold dicO at z; cases z) ⟨es2, upd_same, q2, q3.mono fun _ _ r => r.ch hf, q4⟩

/-! ### for -/
theorem ps_for {target iter : Expr} {body : List Stmt} {tg : Tg} {ik : Ik} {it : EL} {a : SL} {pos : Pos} (hp : PassesOwn (model X.prog X.w) X.A X.env X.xe) (hc : X.calm = true) (hik : m = true → ik = .rng)
    (hi : PI X target iter (TIx X T cls Ex C φ φ2 m ik it)) (hg : PG X target (GX X T tg)) (hb : PSs X body (TSSx X T cls Ex C φ φ2 m a)) (hs : ∀ x, foldedSetIterable iter X.env x = pure x) :
    PS X (.For target iter body [] pos) (TSx X T cls Ex C φ φ2 m (.for_ tg ik it a)) := by
  refine PS.imp (ps_un (L2.ps_for hp hc hi hg hb hs)) fun D σ H h => ?_
  obtain ⟨w, env, st, j, en, h⟩ := h
  simp only [exe] at h
  refine ⟨w, env, st, j, en, ?_⟩
  cases hd : denL C φ φ2 it env st with
  | bad => rw [hd] at h; exact h.elim
  | exc k st1 =>
    rw [hd] at h
    exact fun w' H' d s' j' => h w' H' d (.inr s') j'
  | ok rvs st1 =>
    rw [hd] at h
    simp only [Out.ofRes_ok] at h
    cases hsr : srcOf st1 ik rvs with
    | none => rw [hsr] at h; exact h.elim
    | some src =>
      rw [hsr] at h
      dsimp only at h
      refine ⟨src, hsr, fun w1 H1 It0 H2 s1 j1 s2 j2 nf hsz hi => ?_⟩
      generalize hl : lockOf ik rvs st1 = l at h j2 nf
      have r1 : Rl m w w1 H H1 := .inr s1
      generalize hturn : (fun (v : RV) (env : Env) (st : Store) => match assign tg v env with
        | some env' => exes C φ φ2 a env' st
        | none => Out.bad) = turn at h
      let F : Nat → Nat → Env → Store → Out := fun k i env st => (forLoop src turn k i env st).seq fun env2 st2 => .nx env2 (setLk st2 l id)
      refine ⟨fun i k σ3 H3 => k + i = src.size ∧ ∃ w3 env3 st3, Rl m w1 w3 H2 H3 ∧ JX X T w3 st3 H3 ∧ EnvR X.K w3 H3 env3 σ3 ∧ OutOk X T cls Ex m D w H (F k i env3 st3), ⟨src.size, by omega, w1, env, _, .inr (Stp.refl _ _), j2, (en.stp s1).stp s2, h⟩, ?_⟩
      rintro i k σ3 H3 ⟨hk, w3, env3, st3, s3, j3, en3, h3⟩
      obtain ⟨hat, hstop⟩ := hi w3 H3 st3 i s3 j3
      cases k with
      | zero =>
        left
        simp only [F, forLoop] at h3
        split at h3
        · rename_i he
          simp only [Out.seq_nx] at h3
          refine ⟨hstop he (by omega), ?_⟩
          cases m with
          | true =>
            have e := hik rfl
            have : l = none := by rw [← hl]; exact lock_rng (by rw [e]; decide)
            subst this
            exact .inl (h3 w3 H3 σ3 (.inl rfl) j3 en3)
          | false =>
            have s3 : Stp w1 w3 H2 H3 := s3.elim (fun z => by cases z) id
            obtain ⟨H4, u, s4, j4⟩ := unlock_end (fun n lk e => lock_dic (hl.trans e)) s2 j2 nf s3 j3
            exact u.nx (h3 w3 H4 σ3 (r1.trans (.inr s4)) j4 (u.env en3))
        · exact h3.elim
      | succ k =>
        right
        simp only [F, forLoop] at h3
        cases ha : src.at? st3 i with
        | none => rw [ha] at h3; exact h3.elim
        | some v =>
          rw [ha] at h3
          obtain ⟨go, hy⟩ := hat v ha
          refine ⟨go, fun σ' H' => (k + (i + 1) = src.size ∧ ∃ w4 env4 st4, Rl m w1 w4 H2 H' ∧ JX X T w4 st4 H' ∧ EnvR X.K w4 H' env4 σ' ∧ OutOk X T cls Ex m D w H (F k (i + 1) env4 st4)), fun σ' H' q => ⟨k, Nat.lt_succ_self k, q⟩, fun x H4 y => ?_⟩
          obtain ⟨w4, s4, j4, r4⟩ := hy x H4 y
          have r34 : Rl m w1 w4 H2 H4 := s3.trans (.inr s4)
          have en4 := en3.stp s4
          have e0 : turn v env3 st3 = (match assign tg v env3 with
            | some env' => exes C φ φ2 a env' st3
            | none => Out.bad) := by rw [← hturn]
          dsimp only at h3
          rw [e0] at h3
          refine ⟨w4, env3, st3, v, j4, en4, r4, ?_⟩
          cases hg : assign tg v env3 with
          | none => rw [hg] at h3; exact h3.elim
          | some env' =>
            rw [hg] at h3
            dsimp only at h3 ⊢
            intro σ' en' _
            rw [Out.seq_assoc] at h3
            refine ⟨w4, env', st3, j4, en', OutOk.seq h3 ((r1.trans (.inr s2)).trans r34) fun w5 H5 σ5 env5 st5 ho r5 j5 en5 h5 => ?_⟩
            exact ⟨by omega, w5, env5, st5, r34.trans r5, j5, en5, h5⟩

/-! ### comprehensions -/
theorem wipe_at {σ : St} {i : Nat} : ∀ {vs : List Nat}, (wipe σ vs)[i]? = if i ∈ vs ∧ i < σ.length then some none else σ[i]?
  | [] => by simp [wipe]
  | v :: vs => by
    unfold wipe
    by_cases hi : v = i
    · subst hi
      by_cases hl : v < σ.length
      · rw [List.getElem?_set_self (by rw [wipe_length]; exact hl), if_pos ⟨List.mem_cons_self, hl⟩]
      · rw [List.getElem?_eq_none (by rw [List.length_set, wipe_length]; omega), if_neg (fun z => hl z.2), List.getElem?_eq_none (by omega)]
    · rw [List.getElem?_set_ne hi, wipe_at]
      simp only [List.mem_cons, show ¬ i = v from fun z => hi z.symm, false_or]
theorem wipe_dif {is vs : List Nat} {σ σ' : St} (h : Dif is (wipe σ vs) σ') (hs : ∀ i ∈ is, i ∈ vs) : wipe σ' vs = wipe σ vs := by
  have hl : σ'.length = σ.length := by rw [h.1, wipe_length]
  refine List.ext_getElem? fun i => ?_
  rw [wipe_at, wipe_at, hl]
  split
  · rfl
  · rename_i q
    by_cases hi : i ∈ vs
    · have : ¬ i < σ.length := fun z => q ⟨hi, z⟩
      rw [List.getElem?_eq_none (by omega), List.getElem?_eq_none (by omega)]
    · rw [h.2 i fun z => hi (hs i z), wipe_at, if_neg (fun z => hi z.1)]
theorem wipe_env {env : Env} {K : PySem.W.Frag} (h : EnvR K w H env σ) : ∀ vs : List Nat, EnvR K w H (wipeE env vs) (wipe σ vs)
  | [] => h
  | v :: vs => by
    have ih := wipe_env h vs
    unfold wipeE wipe
    refine ⟨by rw [List.length_set, List.length_set]; exact ih.len, fun i rv e => ?_⟩
    by_cases hi : v = i
    · subst hi
      by_cases hl : v < (wipeE env vs).length
      · rw [List.getElem?_set_self hl] at e; cases e
      · rw [List.getElem?_eq_none (by rw [List.length_set]; omega)] at e; cases e
    · rw [List.getElem?_set_ne hi] at e
      rw [List.getElem?_set_ne hi]
      exact ih.at_ i rv e
/-- another view of the cells -/
structure Wv (w w' : Wd) : Prop where
  free : ∀ a, w.free a → w'.free a
  sb : w'.sb = w.sb
mutual
theorem RepD.wv {K : PySem.W.Frag} {w w' : Wd} {H : Hp} (v : Wv w w') {g : Gn} : ∀ {x : PyData} {y : V}, RepD K H w.free (w.ok H g) x y → RepD K H w'.free (w'.ok H g) x y
  | _, _, .non => .non
  | _, _, .bl b => .bl b
  | _, _, .int i => .int i
  | _, _, .str x h => .str x h
  | _, _, .lst h f q hl r => by
    refine .lst h (v.free _ f) ⟨?_, v.free _ q.2.1, q.2.2⟩ hl (RepL.wv v r)
    have q1 := q.1
    cases g with
    | pur => exact q1
    | mix => trivial
    | scr => trivial
    | new => show w'.sb _ = none; rw [v.sb]; exact q1
    | old => show w'.sb _ ≠ none; rw [v.sb]; exact q1
  | _, _, .tup h f hl r => .tup h (v.free _ f) hl (RepL.wv v r)
  | _, _, .tupK h hc hd hl hv r => .tupK h hc hd hl hv (RepL.wv v r)
theorem RepL.wv {K : PySem.W.Frag} {w w' : Wd} {H : Hp} (v : Wv w w') {g : Gn} : ∀ {xs : List PyData} {ys : List V}, RepL K H w.free (w.ok H g) xs ys → RepL K H w'.free (w'.ok H g) xs ys
  | _, _, .nil => .nil
  | _, _, .cons h t => .cons (RepD.wv v h) (RepL.wv v t)
end
theorem RepV.wv {K : PySem.W.Frag} {w w' : Wd} {H : Hp} (v : Wv w w') (ha : ∀ (n : Nat) (a : Addr), w.ad[n]? = some a → w'.ad[n]? = some a) : ∀ {rv : RV} {y : V}, RepV K w H rv y → RepV K w' H rv y
  | .d _ _, _, h => RepD.wv v h
  | .c n, _, ⟨a, e, h⟩ => ⟨a, ha n a e, h⟩
theorem cellWv {P : Program} {W : World} {K : PySem.W.Frag} {w w' : Wd} {H : Hp} (v : Wv w w') (ha : ∀ (n : Nat) (a : Addr), w.ad[n]? = some a → w'.ad[n]? = some a) {a : Addr} {c : Cell} (h : CellOk P W K w H a c) : CellOk P W K w' H a c := by
  cases c with
  | lst xs => obtain ⟨vs, h1, h2, h3⟩ := h; exact ⟨vs, h1, h2.mono fun _ _ r => r.wv v ha, h3⟩
  | dic lk kvs => obtain ⟨es, h1, h0, h2, h3⟩ := h; exact ⟨es, h1, h0, h2.mono fun _ _ r => ⟨r.1, r.2.1, RepD.wv v r.2.2.1, r.2.2.2.wv v ha⟩, h3⟩
  | sd kvs => obtain ⟨vs, h1, h2⟩ := h; exact ⟨vs, h1, h2.mono fun _ _ r => ⟨r.1, r.2.wv v ha⟩⟩
  | obj k fs => obtain ⟨h0, C, dx, vs, h1, h2, h3⟩ := h; exact ⟨h0, C, dx, vs, h1, h2, h3.mono fun _ _ r => ⟨r.1, r.2.wv v ha⟩⟩
  | gone => exact h
section
variable {w1 w3 : Wd} {H1 H4 : Hp} {p : Addr} {vs : List V} {acc : List RV}
/-- the new list is ours again -/
theorem fin_d (s : Stp w1 w3 H1 H4) (j1 : ∀ a ∈ w1.no, NT H1 a) (j : JX X T w3 st H4) (hp : ¬ NT H1 p) (hn : p ∈ w3.no) :
    Wv w3 { w3 with no := w1.no } ∧ Stp w1 { w3 with no := w1.no } H1 H4 ∧ JX X T { w3 with no := w1.no } st H4 ∧ Wd.free { w3 with no := w1.no } p := by
  have v : Wv w3 { w3 with no := w1.no } := ⟨fun a f => ⟨f.1, fun z => f.2 (by obtain ⟨m, e, _⟩ := s.no; rw [e]; exact List.mem_append_right _ z)⟩, rfl⟩
  refine ⟨v, ⟨s.sb, ⟨[], rfl, by simp⟩, s.ad, s.fr, s.dom, s.frz⟩, ⟨j.len, j.nd, fun a ha hb => ?_, j.sb, j.sbf, j.sbt, fun a ha => s.dom a (j1 a ha), fun n a c h1 h2 => cellWv v (fun _ _ e => e) (j.cell n a c h1 h2), j.tabs⟩, ?_⟩
  · obtain ⟨m, e, _⟩ := s.no
    exact j.apart a ha (by rw [e]; exact List.mem_append_right _ hb)
  · exact ⟨fun z => j.apart p z hn, fun z => hp (j1 p z)⟩
/-- the new list is a cell -/
theorem fin_c (s : Stp w1 w3 H1 H4) (j1 : ∀ a ∈ w1.no, NT H1 a) (j : JX X T w3 st H4) (hp : ¬ NT H1 p) (hb : w1.sb p = none) (hn : p ∈ w3.no) (hl : H4 p = some (.lst vs)) (hz : vs.length ≤ sizeLine) (r : RepVs X.K w3 H4 acc vs) :
    Stp w1 { w3 with no := w1.no, ad := w3.ad ++ [p] } H1 H4 ∧ JX X T { w3 with no := w1.no, ad := w3.ad ++ [p] } (st ++ [.lst acc]) H4 ∧ (w3.ad ++ [p])[st.length]? = some p := by
  have hpa : p ∉ w3.ad := fun z => j.apart p z hn
  have v : Wv w3 { w3 with no := w1.no, ad := w3.ad ++ [p] } := by
    refine ⟨fun a f => ⟨fun z => ?_, fun z => f.2 (by obtain ⟨m, e, _⟩ := s.no; rw [e]; exact List.mem_append_right _ z)⟩, rfl⟩
    have z : a ∈ w3.ad ++ [p] := z
    rcases List.mem_append.mp z with z | z
    · exact f.1 z
    · simp only [List.mem_singleton] at z
      exact f.2 (z ▸ hn)
  have ha : ∀ (n : Nat) (a : Addr), w3.ad[n]? = some a → (w3.ad ++ [p])[n]? = some a := fun n a e => by
    rw [List.getElem?_append_left (List.getElem?_eq_some_iff.mp e).1]
    exact e
  refine ⟨⟨s.sb, ⟨[], rfl, by simp⟩, ?_, s.fr, s.dom, s.frz⟩, ?_, by rw [← j.len]; simp⟩
  · obtain ⟨m, e, hm⟩ := s.ad
    refine ⟨m ++ [p], by rw [← List.append_assoc, ← e], fun a hx => ?_⟩
    rcases List.mem_append.mp hx with hx | hx
    · exact hm a hx
    · simp only [List.mem_singleton] at hx
      rw [hx]; exact hp
  · refine ⟨by simp [j.len], List.nodup_append.mpr ⟨j.nd, by simp, fun a ha b hb e => ?_⟩, fun a ha hb => ?_, j.sb, fun a ha => ?_, j.sbt, fun a ha => s.dom a (j1 a ha), fun n a c h1 h2 => ?_, j.tabs⟩
    · simp only [List.mem_singleton] at hb
      exact hpa (by rw [← hb, ← e]; exact ha)
    · have ha : a ∈ w3.ad ++ [p] := ha
      rcases List.mem_append.mp ha with z | z
      · obtain ⟨m, e, _⟩ := s.no
        exact j.apart a z (by rw [e]; exact List.mem_append_right _ hb)
      · simp only [List.mem_singleton] at z
        exact hp (z ▸ j1 a hb)
    · have ha : a ∈ w3.ad ++ [p] := ha
      rcases List.mem_append.mp ha with z | z
      · exact j.sbf a z
      · simp only [List.mem_singleton] at z
        show w3.sb a = none
        rw [s.sb, z]
        exact hb
    · have h1 : (w3.ad ++ [p])[n]? = some a := h1
      by_cases hn' : n < w3.ad.length
      · rw [List.getElem?_append_left hn'] at h1
        rw [List.getElem?_append_left (by rw [← j.len]; exact hn')] at h2
        exact cellWv v ha (j.cell n a c h1 h2)
      · rw [List.getElem?_append_right (by omega)] at h1
        rw [List.getElem?_append_right (by rw [← j.len]; omega), ← j.len] at h2
        have e0 : n - w3.ad.length = 0 := by
          cases e : n - w3.ad.length with
          | zero => rfl
          | succ k => rw [e] at h1; simp at h1
        rw [e0] at h1 h2
        simp only [List.getElem?_cons_zero, Option.some.injEq] at h1 h2
        subst h1 h2
        exact ⟨vs, hl, r.mono fun _ _ q => q.wv v ha, hz⟩
end

/-- a comprehension's tests in its block -/
def TPx (X : Cx) (T : List (Addr × Str)) (cls : Nat → Value) (Ex : XK) (C : Cfg) (φ φ2 : Phi) (ts : EL) : TT := fun σ H Q => ∃ w env st, JX X T w st H ∧ EnvR X.K w H env σ ∧ OkB X T cls Ex w H (denT C φ φ2 ts env st) Q
abbrev noEx : XK := fun _ _ _ => False
def lcTurn (C : Cfg) (φ φ2 : Phi) (own : List Nat) (tg : Tg) (ts : EL) (elt : E) (env : Env) : RV → Store → Res (Option RV) := fun v st => match assign tg v (wipeE env own) with
  | some env' => (denT C φ φ2 ts env' st).bind fun b st2 => if b = true then (den C φ φ2 elt env' st2).bind fun y st3 => .ok (some y) st3 else .ok none st2
  | none => .bad
/-- the comprehension as a reading; fin is what is done with the new list -/
theorem lc_read {tg : Tg} {ik : Ik} {it ts : EL} {elt : E} {own : List Nat} {Q : VK} {env : Env} (hsub : ∀ i ∈ tgSlots tg, i ∈ own) (j : JX X T w st H) (en : EnvR X.K w H env σ) {f : List RV → Store → Res RV}
    (hf : ∀ (w1 w3 : Wd) (H1 H4 : Hp) (st3 : Store) (p : Addr) (vs : List V) (acc : List RV), Stp w w1 H H1 → Stp w1 w3 H1 H4 → (∀ a ∈ w1.no, NT H1 a) → JX X T w3 st3 H4 → ¬ NT H1 p → w1.sb p = none → p ∈ w3.no → H4 p = some (.lst vs) → vs.length ≤ sizeLine → RepVs X.K w3 H4 acc vs →
      OkV X T cls Ex w H (f acc st3) Q → Q (.ref p) H4)
    (h : OkV X T cls Ex w H ((denL C φ φ2 it env st).bind fun vs st1 => match srcOf st1 ik vs with
      | some src => (lcLoop src (lcTurn C φ φ2 own tg ts elt env) src.size 0 [] (setLk st1 (lockOf ik vs st1) fun _ => true)).bind fun ys st2 => f ys (setLk st2 (lockOf ik vs st1) id)
      | none => .bad) Q) :
    tLc (TIx X T cls Ex C φ φ2 false ik it) (GX X T tg) (TPx X T cls noEx C φ φ2 ts) (TEx X T cls noEx C φ φ2 elt) own σ H (unVK X Q) := by
  refine ⟨w, env, st, j, en, ?_⟩
  cases hd : denL C φ φ2 it env st with
  | bad => rw [hd] at h; exact h.elim
  | exc k st1 => rw [hd] at h; exact h
  | ok rvs st1 =>
    rw [hd] at h
    simp only [Res.bind_ok] at h
    cases hsr : srcOf st1 ik rvs with
    | none => rw [hsr] at h; exact h.elim
    | some src =>
      rw [hsr] at h
      dsimp only at h
      refine ⟨src, hsr, fun w1 H1 It0 H2 s1 j1 s2 j2 nf hsz hi D hD => ?_⟩
      generalize hl : lockOf ik rvs st1 = l at h j2 nf
      have hD1 : ¬ NT H1 D := fun z => NT.of_none hD (s2.dom D z)
      have j1no : ∀ a ∈ w1.no, NT H1 a := j1.nos
      have hsb : w1.sb D = none := by
        cases e : w1.sb D with
        | none => rfl
        | some o => rw [j2.sb D o e] at hD; cases hD
      -- the world with the new list
      have s3 : Stp w1 { w1 with no := D :: w1.no } H2 (upd H2 D (.lst [])) := ⟨rfl, ⟨[D], rfl, fun a ha => by simp only [List.mem_singleton] at ha; rw [ha]; exact NT.of_none hD⟩, ⟨[], by simp, by simp⟩, fun b o e _ _ => by rw [upd_ne (ne_of_none e hD)]; exact e, fun b ⟨o, e, t⟩ => ⟨o, by rw [upd_ne (ne_of_none e hD)]; exact e, t⟩, fun b o u e => by rw [upd_ne (ne_of_none e hD)]; exact e⟩
      have j3 : JX X T { w1 with no := D :: w1.no } (setLk st1 l fun _ => true) (upd H2 D (.lst [])) := by
        have j0 := j2.fresh (o := .lst []) hD (fun ps z => by cases z)
        have v : ∀ a ∈ w1.ad, a ≠ D := fun a ha z => (j2.adSome ha).1 (z ▸ hD)
        refine ⟨j0.len, j0.nd, fun a ha hb => ?_, j0.sb, j0.sbf, j0.sbt, fun a ha => ?_, fun n a c h1 h2 => ?_, j0.tabs⟩
        · rcases List.mem_cons.mp hb with z | z
          · exact v a ha z
          · exact j0.apart a ha z
        · rcases List.mem_cons.mp ha with z | z
          · exact ⟨_, by rw [z, upd_same], fun ps y => by cases y⟩
          · exact j0.nos a z
        · have q := j2.cell n a c h1 h2
          exact q.stp s3 (upd_ne (v a (List.mem_of_getElem? h1)))
      refine ⟨fun i k H3 => k + i = src.size ∧ ∃ w3 st3 acc vs, Stp w1 w3 H2 H3 ∧ JX X T w3 st3 H3 ∧ D ∈ w3.no ∧ H3 D = some (.lst vs) ∧ vs.length ≤ i ∧ RepVs X.K w3 H3 acc vs ∧
        OkV X T cls Ex w H ((lcLoop src (lcTurn C φ φ2 own tg ts elt env) k i acc st3).bind fun ys st2 => f ys (setLk st2 l id)) Q,
        ⟨src.size, by omega, _, _, [], [], s3, j3, List.mem_cons_self, upd_same, Nat.zero_le _, .nil, h⟩, ?_⟩
      rintro i k H3 ⟨hk, w3, st3, acc, vs, s3, j3, hDn, hDv, hz, ra, h3⟩
      obtain ⟨hat, hstop⟩ := hi w3 H3 st3 i (.inr s3) j3
      cases k with
      | zero =>
        left
        simp only [lcLoop] at h3
        split at h3
        · rename_i he
          simp only [Res.bind_ok] at h3
          refine ⟨hstop he (by omega), ?_⟩
          obtain ⟨H4, u, s4, j4⟩ := unlock_end (fun n lk e => lock_dic (hl.trans e)) s2 j2 nf s3 j3
          refine u.vk ?_
          have hu : H4 D = some (.lst vs) ∧ RepVs X.K w3 H4 acc vs := by
            rcases u with rfl | ⟨d, o, u, h1, h2, hd, rfl⟩
            · exact ⟨hDv, ra⟩
            · have : D ≠ d := fun z => j3.apart d hd (z ▸ hDn)
              exact ⟨by rw [upd_ne this]; exact hDv, ra.ch fun z => z.1 hd⟩
          exact hf w1 w3 H1 H4 _ D vs acc s1 s4 j1no j4 hD1 hsb hDn hu.1 (by rw [← lim_eq]; omega) hu.2 h3
        · exact h3.elim
      | succ k =>
        right
        simp only [lcLoop] at h3
        cases ha : src.at? st3 i with
        | none => rw [ha] at h3; exact h3.elim
        | some v =>
          rw [ha] at h3
          dsimp only at h3
          obtain ⟨go, hy⟩ := hat v ha
          refine ⟨go, fun H' => (k + (i + 1) = src.size ∧ ∃ w4 st4 acc vs, Stp w1 w4 H2 H' ∧ JX X T w4 st4 H' ∧ D ∈ w4.no ∧ H' D = some (.lst vs) ∧ vs.length ≤ i + 1 ∧ RepVs X.K w4 H' acc vs ∧
            OkV X T cls Ex w H ((lcLoop src (lcTurn C φ φ2 own tg ts elt env) k (i + 1) acc st4).bind fun ys st2 => f ys (setLk st2 l id)) Q), fun H' q => ⟨k, Nat.lt_succ_self k, q⟩, fun x H4 y => ?_⟩
          obtain ⟨w4, s4, j4, r4⟩ := hy x H4 y
          have s34 := s3.trans s4
          have en4 : EnvR X.K w4 H4 env σ := (((en.stp s1).stp s2).stp s3).stp s4
          -- the new list stays
          have stay : ∀ {w5 : Wd} {H5 : Hp} {st5 : Store}, Stp w3 w5 H3 H5 → JX X T w5 st5 H5 → D ∈ w5.no ∧ H5 D = some (.lst vs) ∧ RepVs X.K w5 H5 acc vs := fun s5 j5 => by
            refine ⟨?_, s5.fr D _ hDv (fun z => j3.apart D z hDn) (fun ps z => by cases z), ra.stp s5⟩
            obtain ⟨mm, e, _⟩ := s5.no
            rw [e]
            exact List.mem_append_right _ hDn
          refine ⟨w4, wipeE env own, st3, v, j4, wipe_env en4 own, r4, ?_⟩
          have e0 : lcTurn C φ φ2 own tg ts elt env v st3 = (match assign tg v (wipeE env own) with
            | some env' => (denT C φ φ2 ts env' st3).bind fun b st2 => if b = true then (den C φ φ2 elt env' st2).bind fun y st3 => .ok (some y) st3 else .ok none st2
            | none => .bad) := rfl
          rw [e0] at h3
          cases hg : assign tg v (wipeE env own) with
          | none => rw [hg] at h3; exact h3.elim
          | some env' =>
            rw [hg] at h3
            dsimp only at h3 ⊢
            intro σ' en' hdif
            refine ⟨wipe_dif hdif hsub, w4, env', st3, j4, en', ?_⟩
            cases ht : denT C φ φ2 ts env' st3 with
            | bad => rw [ht] at h3; exact h3.elim
            | exc x st5 => rw [ht] at h3; exact h3.elim
            | ok b st5 =>
              rw [ht] at h3
              simp only [Res.bind_ok] at h3
              rintro w5 H5 b' s5 j5 rfl
              have s45 := s4.trans s5
              cases b with
              | false =>
                simp only [Bool.false_eq_true, if_false] at h3 ⊢
                obtain ⟨t1, t2, t3⟩ := stay s45 j5
                exact ⟨by omega, w5, st5, acc, vs, s34.trans s5, j5, t1, t2, by omega, t3, h3⟩
              | true =>
                simp only [if_true] at h3 ⊢
                refine ⟨w5, env', st5, j5, en'.stp s5, ?_⟩
                cases hel : den C φ φ2 elt env' st5 with
                | bad => rw [hel] at h3; exact h3.elim
                | exc x st6 => rw [hel] at h3; exact h3.elim
                | ok y st6 =>
                  rw [hel] at h3
                  simp only [Res.bind_ok] at h3
                  intro w6 H6 yv s6 j6 r6
                  have s56 := s45.trans s6
                  obtain ⟨t1, t2, t3⟩ := stay s56 j6
                  refine ⟨vs, t2, ?_, ?_⟩
                  · rw [← lim_eq]; omega
                  have hfD : ¬ w6.free D := fun z => z.2 t1
                  refine ⟨by omega, w6, st6, acc ++ [y], vs ++ [yv], ?_, J.upNo j6 t1 ⟨vs, t2⟩ (by rw [(s3.trans s56).sb]; exact hsb), t1, upd_same, ?_, ?_, h3⟩
                  · have s := s3.trans s56
                    refine ⟨s.sb, s.no, s.ad, fun b o e nb t => ?_, fun b ⟨o, e, t⟩ => ?_, fun b o u e => ?_⟩
                    · rw [upd_ne (ne_of_none e hD)]; exact s.fr b o e nb t
                    · obtain ⟨o', e', t'⟩ := s.dom b ⟨o, e, t⟩
                      exact ⟨o', by rw [upd_ne (ne_of_none e hD)]; exact e', t'⟩
                    · rw [upd_ne (ne_of_none e hD)]; exact s.frz b o u e
                  · simp; omega
                  · exact RepVs.append (t3.ch hfD) (.cons (r6.ch hfD) .nil)
end
end DL

-- DMth
/-! DMth: methods. -/
namespace DL
open PySem L2
def idOf : Mth → String
  | .append => "list.append" | .extend => "list.extend" | .pop => "list.pop" | .popAt => "list.pop" | .reverse => "list.reverse" | .get1 => "dict.get" | .get2 => "dict.get" | .update => "dict.update" | .join => "str.join" | .split => "str.split"
def rMth (X : Cx) (T : List (Addr × Str)) (m : Mth) : V → List V → Hp → VK → Prop := fun x xs H Q => ∃ w st rx rvs, JX X T w st H ∧ RepV X.K w H rx x ∧ RepVs X.K w H rvs xs ∧ ∃ v st3, mthd st m rx rvs = some (v, st3) ∧ ∀ w' H' b, Stp w w' H H' → JX X T w' st3 H' → RepV X.K w' H' v b → Q b H'
section
variable {X : Cx} {T : List (Addr × Str)} {cls : Nat → Value} {Ex : XK} {C : Cfg} {φ φ2 : Phi} {w w0 : Wd} {H H0 : Hp} {st : Store} {v : V} {rv : RV} {pins : List (Addr × Obj)} {s : Shared} {σ : St} {m : Bool} {D : Ends}
theorem RepVs.nil_of {K : PySem.W.Frag} {xs : List V} (r : RepVs K w H [] xs) : xs = [] := by cases r; rfl
/-- a cell's list is rewritten -/
theorem put_lst {n : Nat} {a : Addr} {xs ys : List RV} {vs us : List V} (j : JX X T w st H) (ea : w.ad[n]? = some a) (h1 : H a = some (.lst vs)) (r : RepVs X.K w H ys us) (hz : us.length ≤ sizeLine) :
    Stp w w H (upd H a (.lst us)) ∧ JX X T w (st.set n (.lst ys)) (upd H a (.lst us)) := by
  have hm : Mut (H a) := by rw [h1]; trivial
  have s : Stp w w H (upd H a (.lst us)) := Stp.put (List.mem_of_getElem? ea) hm
  exact ⟨s, j.put ea hm (fun ps z => by cases z) ⟨us, upd_same, r.stp s, hz⟩⟩
theorem reps_drop {xs : List RV} {vs : List V} (r : RepVs X.K w H xs vs) : RepVs X.K w H xs.dropLast vs.dropLast := by
  rw [List.dropLast_eq_take, List.dropLast_eq_take, r.length]
  exact Paired.take _ r
theorem reps_rev {xs : List RV} {vs : List V} (r : RepVs X.K w H xs vs) : RepVs X.K w H xs.reverse vs.reverse := by
  induction r with
  | nil => exact .nil
  | cons h _ ih =>
    rw [List.reverse_cons, List.reverse_cons]
    exact RepVs.append ih (.cons h .nil)
theorem strOf_rep {F P : Addr → Prop} {K : PySem.W.Frag} : ∀ {ds : List PyData} {ys : List Str} {vs : List V}, ds.mapM strOf = some ys → RepL K H F P ds vs → vs = ys.map V.str ∧ ys.all PyData.strOk = true
  | [], ys, _, e, .nil => by
    simp only [List.mapM_nil, Option.pure_def, Option.some.injEq] at e
    subst e
    exact ⟨rfl, rfl⟩
  | x :: ds, ys, _, e, .cons h t => by
    simp only [List.mapM_cons, Option.pure_def, Option.bind_eq_bind, Option.bind_eq_some_iff, Option.some.injEq] at e
    obtain ⟨y, e1, zs, e2, rfl⟩ := e
    unfold strOf at e1
    split at e1
    · cases e1
      obtain ⟨h1, h2⟩ := RepD.strV h
      obtain ⟨h3, h4⟩ := strOf_rep e2 t
      exact ⟨by rw [h1, h3]; rfl, by rw [List.all_cons, h2, h4]; rfl⟩
    · cases e1
theorem join_ok {s : Str} (hs : PyData.strOk s = true) : ∀ ys : List Str, ys.all PyData.strOk = true → PyData.strOk (Txt.join s ys) = true := by
  have key : ∀ ys : List Str, ys.all PyData.strOk = true → PyData.strOk (Str.join s ys) = true := fun ys => by
    fun_induction Str.join s ys with
    | case1 => exact fun _ => by decide +kernel
    | case2 x => exact fun h => by simpa using h
    | case3 x ys h ih =>
      intro h
      rw [List.all_cons, Bool.and_eq_true] at h
      exact strOk_append (strOk_append h.1 hs) (ih h.2)
  intro ys h
  rw [TL.join_eq]
  exact key ys h
theorem strL_rep {F P : Addr → Prop} {K : PySem.W.Frag} : ∀ {ys : List Str}, ys.all PyData.strOk = true → RepL K H F P (ys.map .str) (ys.map V.str)
  | [], _ => .nil
  | y :: ys, h => by
    rw [List.all_cons, Bool.and_eq_true] at h
    exact .cons (RepD.str _ h.1) (strL_rep h.2)
theorem mt_str (mt : Mth) (hm : mt = .join ∨ mt = .split) : MtR X (idOf mt) (rMth X T mt) := by
  intro pins s σ H x xs v us Q I rx rv h
  obtain ⟨w, st, ro, rvs, j, r1, r2, rr, st3, he, h⟩ := h
  unfold mthd at he
  split at he
  · rename_i g z
    obtain ⟨rfl, hz⟩ := RepD.strV r1
    unfold mStr at he
    split at he
    · rename_i a
      obtain ⟨y, rfl, ry⟩ := RepVs.one r2
      cases hf : flat st a with
      | none => rw [hf] at he; cases he
      | some p =>
        rw [hf, Option.bind_some] at he
        cases hy : p.2.mapM strOf with
        | none => rw [hy] at he; cases he
        | some ys =>
          rw [hy, Option.bind_some] at he
          split at he
          · rename_i hb
            cases he
            obtain ⟨l, vs, rfl, hl, rl, _⟩ := flat_view j ry hf
            obtain ⟨rfl, hok⟩ := strOf_rep hy rl
            rw [lim_eq] at hb
            exact mt_join pins s σ H _ _ v us Q I rx rv ⟨z, l, ys, rfl, rfl, hl, hb, h w H _ (Stp.refl _ _) j (RepD.str _ (join_ok hz ys hok))⟩
          · cases he
    · rename_i g2 b
      split at he
      · rename_i hb
        cases he
        obtain ⟨y, rfl, ry⟩ := RepVs.one r2
        obtain ⟨rfl, hb2⟩ := RepD.strV ry
        rw [lim_eq] at hb
        refine mt_split pins s σ H _ _ v us Q I rx rv ⟨z, b, rfl, rfl, hb.1, hb.2.1, fun q hq => ?_⟩
        obtain ⟨hfree, hn⟩ := j.freshP hq
        have s1 : Stp w w H (upd H q (.lst ((Txt.split z b).map V.str))) := Stp.fresh hq
        refine h w _ _ s1 (j.fresh hq fun ps z => by cases z) ?_
        have hl : (Txt.split z b).length ≤ sizeLine := Nat.le_trans (PyProof.Rows.split_le z b) hb.2.1
        have rn := rep_newList (K := X.K) (w := w) (H := upd H q (.lst ((Txt.split z b).map V.str))) (g := .pur) (xs := (Txt.split z b).map .str) upd_same hfree hn (by rw [List.length_map]; exact hl) (strL_rep hb.2.2)
        unfold lstG at rn
        rw [if_pos (by generalize Txt.split z b = L; induction L with
          | nil => rfl
          | cons y L ih => simp only [List.map_cons, noLs, noL, ih, Bool.and_self])] at rn
        exact rn
      · cases he
    · cases he
  · rcases hm with rfl | rfl
    · split at he <;> cases he
    · split at he <;> cases he
  · cases he
theorem mt_mth (hu : X.A.units + 80 < cLine) (mt : Mth) (hm : mt ≠ .update ∧ mt ≠ .join ∧ mt ≠ .split) : MtR X (idOf mt) (rMth X T mt) := by
  intro pins s σ H x xs v us Q I rx rv h
  obtain ⟨w, st, ro, rvs, j, r1, r2, rr, st3, he, h⟩ := h
  unfold mthd at he
  split at he
  · unfold mStr at he
    split at he
    · exact absurd rfl hm.2.1
    · exact absurd rfl hm.2.2
    · cases he
  · rename_i n
    split at he
    · rename_i ys hn
      obtain ⟨a, ea, rfl, vs, h1, h2, h3⟩ := atCell j r1 hn
      unfold mLst at he
      split at he
      · split at he
        · rename_i hz
          cases he
          obtain ⟨y, rfl, ry⟩ := RepVs.one r2
          rw [lim_eq] at hz
          have hl := h2.length
          refine mt_append pins s σ H _ _ v us Q I rx rv ⟨a, vs, y, rfl, rfl, h1, by omega, ?_⟩
          obtain ⟨s1, j1⟩ := put_lst (xs := ys) j ea h1 (RepVs.append h2 (.cons ry .nil)) (by simp; omega)
          exact h _ _ _ s1 j1 (repN _ _)
        · cases he
      · split at he
        · rename_i g zs hz
          cases he
          obtain ⟨y, rfl, ry⟩ := RepVs.one r2
          obtain ⟨b, zs', rfl, hr, f, p, hl, rl⟩ := RepD.list ry
          have hb : H b = some (.lst zs') := by
            rcases p.2.2 with q | ⟨u, q⟩
            · exact absurd q hz.1
            · rcases hr with hr | ⟨o, hr⟩
              · exact hr
              · rw [q] at hr; cases hr
          have hz2 := hz.2
          rw [lim_eq] at hz2
          have hl1 := h2.length
          have hl2 := RepL.length rl
          refine mt_extend pins s σ H _ _ v us Q I rx rv ⟨a, b, vs, zs', rfl, rfl, h1, hb, by omega, ?_⟩
          obtain ⟨s1, j1⟩ := put_lst (xs := ys) j ea h1 (RepVs.append h2 (items_rep rl)) (by rw [List.length_append]; omega)
          exact h _ _ _ s1 j1 (repN _ _)
        · cases he
      · have e := RepVs.nil_of r2
        subst e
        obtain ⟨y, hy, e⟩ := Option.map_eq_some_iff.mp he
        cases e
        obtain ⟨u, hu', ru⟩ := RepVs.get h2 hy
        refine mt_pop pins s σ H _ _ v us Q I rx rv ⟨a, vs, u, rfl, rfl, h1, by rw [← h2.length]; exact hu', ?_⟩
        obtain ⟨s1, j1⟩ := put_lst (xs := ys) j ea h1 (reps_drop h2) (by rw [List.length_dropLast]; omega)
        exact h _ _ _ s1 j1 (ru.stp s1)
      · split at he
        · rename_i y ys
          split at he
          · rename_i hi
            cases he
            obtain ⟨i', rfl, ri⟩ := RepVs.one r2
            have e := RepD.intV ri
            subst e
            have hi0 := hi.1
            subst hi0
            cases h2 with
            | @cons _ u _ us' ru rus =>
              have hl := rus.length
              have hz := hi.2
              rw [lim_eq] at hz
              refine mt_popAt pins s σ H _ _ v us Q I rx rv ⟨a, u :: us', 0, 0, u, rfl, rfl, h1, by omega, by omega, ?_, rfl, ?_⟩
              · unfold seqIndex?
                simp
              · obtain ⟨s1, j1⟩ := put_lst (xs := ys) j ea h1 rus (by omega)
                exact h _ _ _ s1 j1 (ru.stp s1)
          · cases he
        · cases he
      · cases he
        have e := RepVs.nil_of r2
        subst e
        refine mt_reverse pins s σ H _ _ v us Q I rx rv ⟨a, vs, rfl, rfl, h1, ?_⟩
        obtain ⟨s1, j1⟩ := put_lst (xs := ys) j ea h1 (reps_rev h2) (by simpa using h3)
        exact h _ _ _ s1 j1 (repN _ _)
      · cases he
    · rename_i lk kvs hn
      obtain ⟨a, ea, rfl, es, h1, h0, h2, h3⟩ := atCell j r1 hn
      obtain ⟨us', ru, hd⟩ := dic_view I h1 h2
      obtain rfl : v = .ref a := rx
      unfold mDic at he
      split at he
      · split at he
        · rename_i g d hk
          cases he
          obtain ⟨y, rfl, ry⟩ := RepVs.one r2
          obtain ⟨ys, k, rfl, ek⟩ := keyOk_tup hk
          obtain ⟨q, rfl⟩ := rep_ref (K := X.K) ry
          rw [Vals.ref1 rv]
          have his := key_is I ek hk (RepD.dp ry)
          have hl := look_at ek h2 ru
          refine call_meetsIn PySem.F.slot_dict_get hd.typeIs PySem.F.entry_dict_get (PySem.F.args_dict_get_2 _ _) (meetsH_dict_get (nestedKind X.prog X.w) a q h0) ⟨room8 hu, k, us', his, hd, ?_⟩
          cases e1 : dget kvs (.tuple ys) with
          | none =>
            rw [e1] at hl h
            cases e2 : atKey us' k with
            | some pv => rw [e2] at hl; exact hl.elim
            | none => exact ⟨.non, H, I.tok _, rfl, h w H _ (Stp.refl _ _) j (repN _ _)⟩
          | some rv =>
            rw [e1] at hl h
            cases e2 : atKey us' k with
            | none => rw [e2] at hl; exact hl.elim
            | some pv =>
              rw [e2] at hl
              obtain ⟨u, q1, q2⟩ := hl
              exact ⟨u, H, I.tok _, q2, h w H _ (Stp.refl _ _) j q1⟩
        · cases he
      · split at he
        · rename_i g d dv hk
          cases he
          obtain ⟨y, z, rfl, ry, rz⟩ := RepVs.two r2
          obtain ⟨ys, k, rfl, ek⟩ := keyOk_tup hk
          obtain ⟨q, rfl⟩ := rep_ref (K := X.K) ry
          obtain ⟨u1, u2, rfl, e1, rz'⟩ := vals2 rv
          obtain rfl : u1 = .ref q := e1
          have his := key_is I ek hk (RepD.dp ry)
          have hl := look_at ek h2 ru
          refine call_meetsIn PySem.F.slot_dict_get hd.typeIs PySem.F.entry_dict_get (PySem.F.args_dict_get_3 _ _ _) (meetsH_dict_get_default (nestedKind X.prog X.w) a q h0 u2) ⟨room8 hu, k, us', his, hd, ?_⟩
          cases e1 : dget kvs (.tuple ys) with
          | none =>
            rw [e1] at hl h
            cases e2 : atKey us' k with
            | some pv => rw [e2] at hl; exact hl.elim
            | none => exact ⟨z, H, I.tok _, rz', h w H _ (Stp.refl _ _) j rz⟩
          | some rv =>
            rw [e1] at hl h
            cases e2 : atKey us' k with
            | none => rw [e2] at hl; exact hl.elim
            | some pv =>
              rw [e2] at hl
              obtain ⟨u, q1, q2⟩ := hl
              exact ⟨u, H, I.tok _, q2, h w H _ (Stp.refl _ _) j q1⟩
        · cases he
      · cases he
    · cases he
  · cases he
theorem mt_any (hu : X.A.units + 80 < cLine) (mt : Mth) (hm : mt ≠ .update) : MtR X (idOf mt) (rMth X T mt) := by
  by_cases h : mt = .join ∨ mt = .split
  · exact mt_str mt h
  · exact mt_mth hu mt ⟨hm, fun z => h (.inl z), fun z => h (.inr z)⟩
end
end DL

-- DRule
/-! DRule: the rules, form by form. -/
namespace DL
open PySem L2
/-! ### what is seen of a form -/
def notStar : Expr → Bool
  | .Starred _ _ => false
  | _ => true
theorem star_cons {e : Expr} (h : notStar e = true) (es : List Expr) (env : PySem.Env) : starEach (e :: es) env = (false, eval e env) :: starEach es env := by cases e <;> first | rfl | cases h
theorem star_any {pos : Pos} (env : PySem.Env) : ∀ (es : List Expr), es.all notStar = true → (backTo pos (starEach es env)).any (·.1) = false
  | [], _ => rfl
  | e :: es, h => by
    simp only [List.all_cons, Bool.and_eq_true] at h
    rw [star_cons h.1]
    show (false || (backTo pos (starEach es env)).any (·.1)) = false
    rw [star_any env es h.2]
    rfl
theorem star_all {pos : Pos} (env : PySem.Env) : ∀ (es : List Expr), es.all notStar = true → (backTo pos (starEach es env)).all (fun x => !x.1) = true
  | [], _ => rfl
  | e :: es, h => by
    simp only [List.all_cons, Bool.and_eq_true] at h
    rw [star_cons h.1]
    show (true && (backTo pos (starEach es env)).all (fun x => !x.1)) = true
    rw [star_all env es h.2]
    rfl
def notSet : Expr → Bool
  | .Set _ _ _ => false
  | _ => true
theorem mark_no {op : CmpOp} {e : Expr} (h : notSet e = true) : behindInMarks op e = false := by cases e <;> first | rfl | cases h
theorem fold_no {e : Expr} (h : notSet e = true) (env : PySem.Env) (x : Value) : foldedSetIterable e env x = pure x := by cases e <;> first | rfl | cases h
def notComp : Expr → Bool
  | .ListComp _ _ _ _ => false
  | .SetComp _ _ _ _ => false
  | .DictComp _ _ _ _ _ => false
  | _ => true
theorem swap_no {e : Expr} (h : notComp e = true) (t : Option Expr) (l : Nat) (env : PySem.Env) : swapsWith e t l env = pure false := by cases e <;> first | rfl | cases h
/-- a test that is its value's truth -/
def asVal : Expr → Bool
  | .Name _ _ => true
  | .Call _ _ _ _ => true
  | .Subscript _ _ _ => true
  | .Constant _ _ _ => true
  | _ => false
theorem true_val {e : Expr} (h : asVal e = true) (env : PySem.Env) (whole : Sem Value) : isTrue e env whole = (do let v ← whole; standAt e.pos; holding [v] (truthy v)) := by cases e <;> first | rfl | cases h
def notCall : Expr → Bool
  | .Call _ _ _ _ => false
  | _ => true
theorem base_no {e : Expr} (h : notCall e = true) (m : Str) (env : PySem.Env) (x : Sem Value) : attributeBase e m env x = x := by cases e <;> first | rfl | cases h
def notSlice : Expr → Bool
  | .Slice _ _ _ _ => false
  | _ => true

section
variable {X : Cx} {T : List (Addr × Str)} {cls : Nat → Value} {Ex : XK} {C : Cfg} {φ φ2 : Phi} {w w0 : Wd} {H H0 : Hp} {st : Store} {v : V} {rv : RV} {pins : List (Addr × Obj)} {s : Shared} {σ : St} {m : Bool} {D : Ends}
  {x1 x2 x3 : Expr} {a b c : E} {es : List Expr} {xs : EL} {pos : Pos}
/-- the value of a test -/
theorem ttx_tex {Q : Bool → Hp → Prop} (h : TTx X T cls Ex C φ φ2 a σ H Q) : TEx X T cls Ex C φ φ2 a σ H fun x H1 => ∃ k, x = .bl k ∧ Q k H1 := by
  obtain ⟨w, env, st, j, en, h⟩ := h
  refine ⟨w, env, st, j, en, ?_⟩
  unfold test at h
  cases hd : den C φ φ2 a env st with
  | bad => rw [hd] at h; exact h.elim
  | exc k st1 => rw [hd] at h; exact h
  | ok v st1 =>
    rw [hd] at h
    intro w1 H1 x s1 j1 r1
    simp only [Res.bind_ok] at h
    split at h
    · rename_i g k
      exact ⟨k, RepD.blV r1, h w1 H1 k s1 j1 rfl⟩
    · exact h.elim
theorem pt_of (h : PE X x1 (TEx X T cls Ex C φ φ2 a)) (he : asVal x1 = true) : PT X x1 (TTx X T cls Ex C φ φ2 a) := PT.imp (pt_val h (true_val he X.env)) fun _ _ _ q => ttx_tex q
theorem pa_nilX : PA X [] (TAx X T cls Ex C φ φ2 .nil) := PA.imp pa_nil fun σ H Q h => by
  obtain ⟨w, env, st, j, en, h⟩ := h
  exact OkG.ret (show OkL X T cls Ex w H (.ok [] st) Q from h) j .nil
theorem pa_consX (h1 : PE X x1 (TEx X T cls Ex C φ φ2 a)) (h2 : PA X es (TAx X T cls Ex C φ φ2 xs)) (hs : notStar x1 = true) : PA X (x1 :: es) (TAx X T cls Ex C φ φ2 (.cons a xs)) := PA.imp (pa_cons h1 h2 (star_cons hs es X.env)) fun σ H Q h => by
  obtain ⟨w, env, st, j, en, h⟩ := h
  simp only [denL] at h
  refine ⟨w, env, st, j, en, (OkG.bind (R := RepV X.K) h).imp fun x H1 ⟨w1, st1, rx, s1, j1, r1, h1⟩ => ?_⟩
  refine ⟨w1, env, st1, j1, en.stp s1, (OkG.bind (R := RepVs X.K) h1).imp fun ys H2 ⟨w2, st2, rs, s2, j2, r2, h2⟩ => ?_⟩
  exact OkG.ret h2 j2 (.cons (r1.stp s2) r2)
theorem pe_binX (o : BOp) (h1 : PE X x1 (TEx X T cls Ex C φ φ2 a)) (h2 : PE X x2 (TEx X T cls Ex C φ φ2 b)) : PE X (.BinOp x1 (opOf o) x2 pos) (TEx X T cls Ex C φ φ2 (.bin o a b)) := PE.imp (pe_op (op_bin o) h1 h2) fun σ H Q h => by
  obtain ⟨w, env, st, j, en, h⟩ := h
  simp only [den] at h
  exact tex_op ⟨w, env, st, j, en, h⟩
theorem pe_negX (h1 : PE X x1 (TEx X T cls Ex C φ φ2 a)) : PE X (.UnaryOp .USub x1 pos) (TEx X T cls Ex C φ φ2 (.neg a)) := PE.imp (pe_un un_neg h1) fun σ H Q h => by
  obtain ⟨w, env, st, j, en, h⟩ := h
  simp only [den] at h
  refine ⟨w, env, st, j, en, (OkG.bind (R := RepV X.K) h).imp fun x H1 ⟨w1, st1, rx, s1, j1, r1, h1⟩ => ?_⟩
  split at h1
  · rename_i g i
    exact ⟨i, RepD.intV r1, OkG.ret h1 j1 (repI w1 H1 _)⟩
  · exact h1.elim
theorem cmp_read (o : COp) {Q : VK} (h : TEx X T cls Ex C φ φ2 (.cmp o a b) σ H Q) : tOp (rOp X T cls Ex fun st x y => (cmpop st o x y).map rvB) (TEx X T cls Ex C φ φ2 a) (TEx X T cls Ex C φ φ2 b) σ H Q := by
  obtain ⟨w, env, st, j, en, h⟩ := h
  simp only [den] at h
  exact tex_op (f := fun st x y => (cmpop st o x y).map rvB) ⟨w, env, st, j, en, h⟩
theorem pe_cmpX (hu : X.A.units + 80 < cLine) (o : COp) (h1 : PE X x1 (TEx X T cls Ex C φ φ2 a)) (h2 : PE X x2 (TEx X T cls Ex C φ φ2 b)) (hs : notSet x2 = true) : PE X (.Compare x1 [copOf o] [x2] pos) (TEx X T cls Ex C φ φ2 (.cmp o a b)) :=
  PE.imp (pe_cmpR (op_cmp hu o) h1 h2 (mark_no hs)) fun _ _ _ h => cmp_read o h
theorem pt_cmpX (hu : X.A.units + 80 < cLine) (o : COp) (h1 : PE X x1 (TEx X T cls Ex C φ φ2 a)) (h2 : PE X x2 (TEx X T cls Ex C φ φ2 b)) (hs : notSet x2 = true) : PT X (.Compare x1 [copOf o] [x2] pos) (TTx X T cls Ex C φ φ2 (.cmp o a b)) :=
  PT.imp (pt_cmpR (op_cmp hu o) h1 h2 (mark_no hs)) fun _ _ _ h => cmp_read o (ttx_tex h)
theorem chn_read (o p : COp) {Q : VK} (h : TEx X T cls Ex C φ φ2 (.chn o p a b c) σ H Q) :
    tChain (rOp X T cls Ex fun st x y => (cmpop st o x y).map rvB) (rOp X T cls Ex fun st x y => (cmpop st p x y).map rvB) (TEx X T cls Ex C φ φ2 a) (TEx X T cls Ex C φ φ2 b) (TEx X T cls Ex C φ φ2 c) σ H Q := by
  obtain ⟨w, env, st, j, en, h⟩ := h
  simp only [den] at h
  refine ⟨w, env, st, j, en, (OkG.bind (R := RepV X.K) h).imp fun x H1 ⟨w1, st1, rx, s1, j1, r1, h1⟩ => ?_⟩
  refine ⟨w1, env, st1, j1, en.stp s1, (OkG.bind (R := RepV X.K) h1).imp fun y H2 ⟨w2, st2, ry, s2, j2, r2, h2⟩ => ?_⟩
  refine ⟨w2, st2, rx, ry, j2, r1.stp s2, r2, ?_⟩
  cases hc : cmpop st2 o rx ry with
  | none => rw [hc] at h2; exact h2.elim
  | some k =>
    rw [hc] at h2
    simp only [Res.ofOpt_some, Res.bind_ok] at h2
    change OkV X T cls Ex w2 H2 (Res.ofOpt ((cmpop st2 o rx ry).map rvB) st2) _
    rw [hc]
    intro w3 H3 z s3 j3 r3
    have e := RepD.blV r3
    subst e
    refine ⟨k, rfl, ?_⟩
    have en3 : EnvR X.K w3 H3 env σ := ((en.stp s1).stp s2).stp s3
    have h3 := OkG.after s3 h2
    cases k with
    | false =>
      simp only [Bool.false_eq_true, if_false] at h2 ⊢
      exact h2 w3 H3 _ s3 j3 (repB w3 H3 false)
    | true =>
      simp only [if_true] at h3 ⊢
      refine ⟨w3, env, st2, j3, en3, (OkG.bind (R := RepV X.K) h3).imp fun z H4 ⟨w4, st4, rz, s4, j4, r4, h4⟩ => ?_⟩
      exact ⟨w4, st4, ry, rz, j4, (r2.stp s3).stp s4, r4, h4⟩
theorem marks_no {o p : CmpOp} (h2 : notSet x3 = true) : lastMarks [o, p] [x2, x3] = false := mark_no h2
theorem pe_chnX (hu : X.A.units + 80 < cLine) (o p : COp) (h1 : PE X x1 (TEx X T cls Ex C φ φ2 a)) (h2 : PE X x2 (TEx X T cls Ex C φ φ2 b)) (h3 : PE X x3 (TEx X T cls Ex C φ φ2 c)) (hs : notSet x3 = true) :
    PE X (.Compare x1 [copOf o, copOf p] [x2, x3] pos) (TEx X T cls Ex C φ φ2 (.chn o p a b c)) := PE.imp (pe_chain (op_cmp hu o) (op_cmp hu p) h1 h2 h3 (marks_no hs)) fun _ _ _ h => chn_read o p h
theorem pt_chnX (hu : X.A.units + 80 < cLine) (o p : COp) (h1 : PE X x1 (TEx X T cls Ex C φ φ2 a)) (h2 : PE X x2 (TEx X T cls Ex C φ φ2 b)) (h3 : PE X x3 (TEx X T cls Ex C φ φ2 c)) (hs : notSet x3 = true) :
    PT X (.Compare x1 [copOf o, copOf p] [x2, x3] pos) (TTx X T cls Ex C φ φ2 (.chn o p a b c)) := PT.imp (pt_chain (op_cmp hu o) (op_cmp hu p) h1 h2 h3 (marks_no hs)) fun _ _ _ h => chn_read o p (ttx_tex h)

/-! ### and, or, not -/
def TBx (X : Cx) (T : List (Addr × Str)) (cls : Nat → Value) (Ex : XK) (C : Cfg) (φ φ2 : Phi) (k : Bool) (xs : EL) : TT := fun σ H Q => ∃ w env st, JX X T w st H ∧ EnvR X.K w H env σ ∧ OkB X T cls Ex w H (denBoo C φ φ2 k xs env st) Q
def bopOf : Bool → BoolOp
  | true => .And
  | false => .Or
/-- the first of them -/
theorem boo_head {k : Bool} {r : EL} {Q : Bool → Hp → Prop} (h : TBx X T cls Ex C φ φ2 k (.cons a r) σ H Q) : TTx X T cls Ex C φ φ2 a σ H fun c H1 => match r with
    | .nil => Q c H1
    | .cons e' r' => if c = k then TBx X T cls Ex C φ φ2 k (.cons e' r') σ H1 Q else Q c H1 := by
  obtain ⟨w, env, st, j, en, h⟩ := h
  refine ⟨w, env, st, j, en, ?_⟩
  unfold test
  rw [denBoo] at h
  cases hd : den C φ φ2 a env st with
  | bad => rw [hd] at h; exact h.elim
  | exc k st1 => rw [hd] at h; exact h
  | ok v st1 =>
    rw [hd] at h
    simp only [Res.bind_ok] at h ⊢
    split at h
    · rename_i g c
      rintro w1 H1 c' s1 j1 rfl
      cases r with
      | nil => exact h w1 H1 c s1 j1 rfl
      | cons e' r' =>
        dsimp only at h ⊢
        split at h
        · rw [if_pos (by assumption)]
          exact ⟨w1, env, st1, j1, en.stp s1, OkG.after s1 h⟩
        · rw [if_neg (by assumption)]
          exact h w1 H1 c s1 j1 rfl
    · exact h.elim
theorem pw_one {k : Bool} (h1 : PT X x1 (TTx X T cls Ex C φ φ2 a)) : PW X (.BoolOp (bopOf k) [x1] pos) (TBx X T cls Ex C φ φ2 k (.cons a .nil)) := by
  cases k with
  | true => exact PW.imp (pw_and1 h1) fun _ _ _ h => boo_head h
  | false => exact PW.imp (pw_or1 h1) fun _ _ _ h => boo_head h
theorem pw_more {k : Bool} {a' : E} {r : EL} (h1 : PT X x1 (TTx X T cls Ex C φ φ2 a)) (h2 : PW X (.BoolOp (bopOf k) (x2 :: es) pos) (TBx X T cls Ex C φ φ2 k (.cons a' r))) : PW X (.BoolOp (bopOf k) (x1 :: x2 :: es) pos) (TBx X T cls Ex C φ φ2 k (.cons a (.cons a' r))) := by
  cases k with
  | true =>
    exact PW.imp (pw_and h1 h2) fun σ H Q h => by
      obtain ⟨w, env, st, j, en, h⟩ := boo_head h
      exact ⟨w, env, st, j, en, h.imp fun c H1 q => by cases c <;> simpa using q⟩
  | false =>
    exact PW.imp (pw_or h1 h2) fun σ H Q h => by
      obtain ⟨w, env, st, j, en, h⟩ := boo_head h
      exact ⟨w, env, st, j, en, h.imp fun c H1 q => by cases c <;> simpa using q⟩
/-- and, or as a value -/
def TVx (X : Cx) (T : List (Addr × Str)) (cls : Nat → Value) (Ex : XK) (C : Cfg) (φ φ2 : Phi) (k : Bool) (xs : EL) : TE := fun σ H Q => TBx X T cls Ex C φ φ2 k xs σ H fun c H1 => Q (.bl c) H1
theorem pv_one {k : Bool} (h1 : PE X x1 (TEx X T cls Ex C φ φ2 a)) : PE X (.BoolOp (bopOf k) [x1] pos) (TVx X T cls Ex C φ φ2 k (.cons a .nil)) := PE.imp (pe_one h1) fun σ H Q h => by
  obtain ⟨w, env, st, j, en, h⟩ := ttx_tex (boo_head h)
  exact ⟨w, env, st, j, en, h.imp fun x H1 ⟨k, e, q⟩ => by subst e; exact q⟩
theorem pv_more {k : Bool} {a' : E} {r : EL} (h1 : PE X x1 (TEx X T cls Ex C φ φ2 a)) (h2 : PE X (.BoolOp (bopOf k) (x2 :: es) pos) (TVx X T cls Ex C φ φ2 k (.cons a' r))) : PE X (.BoolOp (bopOf k) (x1 :: x2 :: es) pos) (TVx X T cls Ex C φ φ2 k (.cons a (.cons a' r))) := by
  cases k with
  | true =>
    exact PE.imp (pe_and h1 h2) fun σ H Q h => by
      obtain ⟨w, env, st, j, en, h⟩ := ttx_tex (boo_head h)
      refine ⟨w, env, st, j, en, h.imp fun x H1 ⟨c, e, q⟩ => ⟨c, e, ?_⟩⟩
      cases c
      · exact q
      · exact q
  | false =>
    exact PE.imp (pe_or h1 h2) fun σ H Q h => by
      obtain ⟨w, env, st, j, en, h⟩ := ttx_tex (boo_head h)
      refine ⟨w, env, st, j, en, h.imp fun x H1 ⟨c, e, q⟩ => ⟨c, e, ?_⟩⟩
      cases c
      · exact q
      · exact q
theorem boo_tex {k : Bool} {Q : VK} (h : TEx X T cls Ex C φ φ2 (.boo k xs) σ H Q) : TVx X T cls Ex C φ φ2 k xs σ H Q := by
  obtain ⟨w, env, st, j, en, h⟩ := h
  simp only [den] at h
  refine ⟨w, env, st, j, en, ?_⟩
  cases hd : denBoo C φ φ2 k xs env st with
  | bad => rw [hd] at h; exact h.elim
  | exc k st1 => rw [hd] at h; exact h
  | ok c st1 =>
    rw [hd] at h
    rintro w1 H1 c' s1 j1 rfl
    exact h w1 H1 _ s1 j1 (repB w1 H1 c)
theorem boo_ttx {k : Bool} {Q : Bool → Hp → Prop} (h : TTx X T cls Ex C φ φ2 (.boo k xs) σ H Q) : TBx X T cls Ex C φ φ2 k xs σ H Q := by
  obtain ⟨w, env, st, j, en, h⟩ := boo_tex (ttx_tex h)
  exact ⟨w, env, st, j, en, h.imp fun c H1 ⟨k, e, q⟩ => by cases e; exact q⟩
theorem pe_booX {k : Bool} (h : PE X (.BoolOp (bopOf k) es pos) (TVx X T cls Ex C φ φ2 k xs)) : PE X (.BoolOp (bopOf k) es pos) (TEx X T cls Ex C φ φ2 (.boo k xs)) := PE.imp h fun _ _ _ h => boo_tex h
theorem pt_booX {k : Bool} (h : PW X (.BoolOp (bopOf k) es pos) (TBx X T cls Ex C φ φ2 k xs)) : PT X (.BoolOp (bopOf k) es pos) (TTx X T cls Ex C φ φ2 (.boo k xs)) := PT.imp h.pt fun _ _ _ h => boo_ttx h
theorem nt_read {Q : VK} (h : TEx X T cls Ex C φ φ2 (.nt a) σ H Q) : TTx X T cls Ex C φ φ2 a σ H fun c H1 => Q (.bl (!c)) H1 := by
  obtain ⟨w, env, st, j, en, h⟩ := h
  simp only [den] at h
  refine ⟨w, env, st, j, en, ?_⟩
  unfold test
  cases hd : den C φ φ2 a env st with
  | bad => rw [hd] at h; exact h.elim
  | exc k st1 => rw [hd] at h; exact h
  | ok v st1 =>
    rw [hd] at h
    simp only [Res.bind_ok] at h ⊢
    split at h
    · rintro w1 H1 c' s1 j1 rfl
      exact h w1 H1 _ s1 j1 (repB w1 H1 _)
    · exact h.elim
theorem pe_ntX (h1 : PE X x1 (TEx X T cls Ex C φ φ2 a)) : PE X (.UnaryOp .Not x1 pos) (TEx X T cls Ex C φ φ2 (.nt a)) := PE.imp (pe_not h1) fun _ _ _ h => ttx_tex (nt_read h)
theorem pt_ntX (h1 : PT X x1 (TTx X T cls Ex C φ φ2 a)) : PT X (.UnaryOp .Not x1 pos) (TTx X T cls Ex C φ φ2 (.nt a)) := PT.imp (pt_not h1) fun σ H Q h => by
  obtain ⟨w, env, st, j, en, h⟩ := nt_read (ttx_tex h)
  exact ⟨w, env, st, j, en, h.imp fun c H1 ⟨k, e, q⟩ => by cases e; exact q⟩
theorem test_ife {env : Env} : test C φ φ2 (.ife a b c) env st = (test C φ φ2 a env st).bind fun k st1 => if k = true then test C φ φ2 b env st1 else test C φ φ2 c env st1 := by
  unfold test
  rw [den]
  cases den C φ φ2 a env st with
  | bad => rfl
  | exc k st1 => rfl
  | ok v st1 =>
    simp only [Res.bind_ok]
    split
    · rfl
    · rfl
    · rename_i h1 h2
      split
      · rename_i g k
        cases k
        · exact absurd rfl (h2 g)
        · exact absurd rfl (h1 g)
      · rfl
/-- a choice as a test -/
theorem pt_ifeX (h1 : PT X x1 (TTx X T cls Ex C φ φ2 a)) (h2 : PT X x2 (TTx X T cls Ex C φ φ2 b)) (h3 : PT X x3 (TTx X T cls Ex C φ φ2 c)) : PT X (.IfExp x1 x2 x3 pos) (TTx X T cls Ex C φ φ2 (.ife a b c)) := by
  refine ⟨fun pins s σ H Q I h => ?_⟩
  obtain ⟨w, env, st, j, en, h⟩ := h
  rw [test_ife] at h
  show wpAny _ _ (isTrue x1 X.env (eval x1 X.env) >>= fun k => if k = true then isTrue x2 X.env (eval x2 X.env) else isTrue x3 X.env (eval x3 X.env)) _ _ s
  refine wpAny_bind (thn (h1.run pins s σ H _ I ⟨w, env, st, j, en, OkG.bind (R := fun _ _ (a b : Bool) => a = b) h⟩) fun k s1 ⟨H1, I1, w1, st1, k', s01, j1, r1, q⟩ => ?_)
  subst r1
  cases k' with
  | true => exact h2.run pins s1 σ H1 Q I1 ⟨w1, env, st1, j1, en.stp s01, OkG.after (Stp.refl _ _) q⟩
  | false => exact h3.run pins s1 σ H1 Q I1 ⟨w1, env, st1, j1, en.stp s01, OkG.after (Stp.refl _ _) q⟩
theorem pe_ifeX (h1 : PT X x1 (TTx X T cls Ex C φ φ2 a)) (h2 : PE X x2 (TEx X T cls Ex C φ φ2 b)) (h3 : PE X x3 (TEx X T cls Ex C φ φ2 c)) : PE X (.IfExp x1 x2 x3 pos) (TEx X T cls Ex C φ φ2 (.ife a b c)) := PE.imp (pe_ifExp h1 h2 h3) fun σ H Q h => by
  obtain ⟨w, env, st, j, en, h⟩ := h
  simp only [den] at h
  refine ⟨w, env, st, j, en, ?_⟩
  unfold test
  cases hd : den C φ φ2 a env st with
  | bad => rw [hd] at h; exact h.elim
  | exc k st1 => rw [hd] at h; exact h
  | ok v st1 =>
    rw [hd] at h
    simp only [Res.bind_ok] at h ⊢
    split at h
    · rintro w1 H1 c' s1 j1 rfl
      rw [if_pos rfl]
      exact ⟨w1, env, st1, j1, en.stp s1, OkG.after s1 h⟩
    · rintro w1 H1 c' s1 j1 rfl
      rw [if_neg Bool.false_ne_true]
      exact ⟨w1, env, st1, j1, en.stp s1, OkG.after s1 h⟩
    · exact h.elim
end
end DL

-- DRule2
/-! DRule2: displays, items, calls, methods, comprehensions. -/
namespace DL
open PySem L2
section
variable {X : Cx} {T : List (Addr × Str)} {cls : Nat → Value} {Ex : XK} {C : Cfg} {φ φ2 : Phi} {w w0 : Wd} {H H0 : Hp} {st : Store} {v : V} {rv : RV} {pins : List (Addr × Obj)} {s : Shared} {σ : St} {m : Bool} {D : Ends}
  {x1 x2 x3 : Expr} {a b c : E} {es : List Expr} {xs : EL} {pos p : Pos} {kk : Nat}
theorem denL_len : ∀ (xs : EL) (env : Env) (st : Store) (rvs : List RV) (st1 : Store), denL C φ φ2 xs env st = .ok rvs st1 → ∀ (es : List Expr) (n : Nat), n = (match xs with | .nil => 0 | .cons _ _ => 1) → True := fun _ _ _ _ _ _ _ _ _ => trivial
def eLen : EL → Nat
  | .nil => 0
  | .cons _ r => eLen r + 1
theorem den_len : ∀ (xs : EL) (env : Env) (st : Store) (rvs : List RV) (st1 : Store), denL C φ φ2 xs env st = .ok rvs st1 → rvs.length = eLen xs
  | .nil, env, st, rvs, st1, h => by
    rw [denL] at h
    cases h
    rfl
  | .cons e r, env, st, rvs, st1, h => by
    rw [denL] at h
    cases h1 : den C φ φ2 e env st with
    | bad => rw [h1] at h; cases h
    | exc k s => rw [h1] at h; cases h
    | ok v s =>
      rw [h1] at h
      simp only [Res.bind_ok] at h
      cases h2 : denL C φ φ2 r env s with
      | bad => rw [h2] at h; cases h
      | exc k s => rw [h2] at h; cases h
      | ok vs s' =>
        rw [h2] at h
        simp only [Res.bind_ok] at h
        cases h
        simp [eLen, den_len r env s vs st1 h2]
theorem reps_size {rvs : List RV} {vs : List V} (r : RepVs X.K w H rvs vs) (h : rvs.length ≤ 1000) : vs.length ≤ sizeLine := by
  rw [← r.length, sizeLine_eq]; omega
/-- (a, b, ..) -/
theorem pe_tupX (h1 : PA X es (TAx X T cls Ex C φ φ2 xs)) (hl : eLen xs ≤ 1000) : PE X (.Tuple es kk pos) (TEx X T cls Ex C φ φ2 (.tup xs)) := PE.imp (pe_tup h1) fun σ H Q h => by
  obtain ⟨w, env, st, j, en, h⟩ := h
  rw [den] at h
  refine ⟨w, env, st, j, en, ?_⟩
  cases hd : denL C φ φ2 xs env st with
  | bad => rw [hd] at h; exact h.elim
  | exc k st1 => rw [hd] at h; exact h
  | ok rvs st1 =>
    rw [hd] at h
    intro w1 H1 vs s1 j1 r1
    have hz := reps_size r1 (by rw [den_len _ _ _ _ _ hd]; exact hl)
    exact ⟨hz, new_of_mkTup j1 (OkG.after s1 h) r1 hz⟩
theorem pe_lstX (h1 : PA X es (TAx X T cls Ex C φ φ2 xs)) (hl : eLen xs ≤ 1000) : PE X (.List es pos) (TEx X T cls Ex C φ φ2 (.lst xs)) := PE.imp (pe_lst h1) fun σ H Q h => by
  obtain ⟨w, env, st, j, en, h⟩ := h
  rw [den] at h
  refine ⟨w, env, st, j, en, ?_⟩
  cases hd : denL C φ φ2 xs env st with
  | bad => rw [hd] at h; exact h.elim
  | exc k st1 => rw [hd] at h; exact h
  | ok rvs st1 =>
    rw [hd] at h
    intro w1 H1 vs s1 j1 r1
    have hz := reps_size r1 (by rw [den_len _ _ _ _ _ hd]; exact hl)
    exact ⟨hz, new_of_mkLst j1 (OkG.after s1 h) r1 hz⟩
/-- a new cell -/
theorem new_cell {o : HO} {cl : Cell} {q : Addr} {Q : VK} (j : JX X T w st H) (h : OkV X T cls Ex w H (.ok (.c st.length) (st ++ [cl])) Q) (hq : H q = none) (ho : ∀ ps, o ≠ .tbl ps) (hc : CellOk X.prog X.w X.K (w.add q) (upd H q o) q cl) : Q (.ref q) (upd H q o) :=
  h _ _ _ (Stp.add hq) (j.add hq ho hc) ⟨q, addAt j q, rfl⟩
theorem pe_mlstX (h1 : PA X es (TAx X T cls Ex C φ φ2 xs)) (hl : eLen xs ≤ 1000) : PE X (.List es pos) (TEx X T cls Ex C φ φ2 (.mlst xs)) := PE.imp (pe_lst h1) fun σ H Q h => by
  obtain ⟨w, env, st, j, en, h⟩ := h
  rw [den] at h
  refine ⟨w, env, st, j, en, ?_⟩
  cases hd : denL C φ φ2 xs env st with
  | bad => rw [hd] at h; exact h.elim
  | exc k st1 => rw [hd] at h; exact h
  | ok rvs st1 =>
    rw [hd] at h
    intro w1 H1 vs s1 j1 r1
    have hz := reps_size r1 (by rw [den_len _ _ _ _ _ hd]; exact hl)
    exact ⟨hz, fun q hq => new_cell j1 (OkG.after s1 h) hq (fun ps z => by cases z) ⟨vs, upd_same, r1.stp (Stp.add hq), hz⟩⟩
theorem pe_mdicX : PE X (.Dict [] [] pos) (TEx X T cls Ex C φ φ2 .mdic) := by
  refine ⟨fun pins s σ H Q I hq => ?_⟩
  obtain ⟨w, env, st, j, en, h⟩ := hq
  rw [den] at h
  obtain ⟨I1, h0⟩ := newDic I
  have hn := I.hok.fresh (Nat.le_refl s.heap.objs.size)
  refine wpAny_Dict_empty ⟨.ref s.heap.objs.size, _, I1, rfl, new_cell j h hn (fun ps z => by unfold dicO at z; cases z) ⟨[], upd_same, h0, .nil, Nat.zero_le _⟩⟩
/-- a display with texts as keys -/
def strKeys : List (Option Expr) → Option (List Str)
  | [] => some []
  | some (.Constant (.str x) _ _) :: r => (strKeys r).map (x :: ·)
  | _ => none
/-! ### items and slices -/
theorem ix_plain {e : Expr} (h : notSlice e = true) : PlainIx e := fun o i => by cases e <;> first | rfl | cases h
theorem pe_subX (hu : X.A.units + 80 < cLine) (h1 : PE X x1 (TEx X T cls Ex C φ φ2 a)) (h2 : PE X x2 (TEx X T cls Ex C φ φ2 b)) (hs : notSlice x2 = true) : PE X (.Subscript x1 x2 pos) (TEx X T cls Ex C φ φ2 (.sub a b)) :=
  PE.imp (pe_ix (ixX hu) h1 h2 (ix_plain hs)) fun σ H Q h => by
    obtain ⟨w, env, st, j, en, h⟩ := h
    rw [den] at h
    exact tex_op ⟨w, env, st, j, en, h⟩
/-- a bound of a slice -/
def TOx (X : Cx) (T : List (Addr × Str)) (cls : Nat → Value) (Ex : XK) (C : Cfg) (φ φ2 : Phi) (xs : EL) : TO := fun σ H Q => ∃ w env st, JX X T w st H ∧ EnvR X.K w H env σ ∧ OkO X T cls Ex w H (denO C φ φ2 xs env st) Q
theorem PO.imp {e : Option Expr} {t t' : TO} (h : PO X e t) (i : ∀ σ H Q, t' σ H Q → t σ H Q) : PO X e t' := ⟨fun pins s σ H Q I q => h.run pins s σ H Q I (i σ H Q q)⟩
theorem po_noneX : PO X none (TOx X T cls Ex C φ φ2 .nil) := PO.imp po_none fun σ H Q h => by
  obtain ⟨w, env, st, j, en, h⟩ := h
  rw [denO] at h
  exact h w H none (Stp.refl w H) j rfl
theorem po_someX {r : EL} (h1 : PE X x1 (TEx X T cls Ex C φ φ2 a)) : PO X (some x1) (TOx X T cls Ex C φ φ2 (.cons a r)) := PO.imp (po_some h1) fun σ H Q h => by
  obtain ⟨w, env, st, j, en, h⟩ := h
  rw [denO] at h
  refine ⟨w, env, st, j, en, (OkG.bind (R := RepV X.K) h).imp fun x H1 ⟨w1, st1, rx, s1, j1, r1, h1⟩ => ?_⟩
  split at h1
  · rename_i g i
    exact ⟨i, RepD.intV r1, h1 w1 H1 _ (Stp.refl w1 H1) j1 rfl⟩
  · exact h1.elim
theorem pe_slcX {lo hi : Option Expr} {el eh : EL} {p2 : Pos} (h1 : PE X x1 (TEx X T cls Ex C φ φ2 a)) (h2 : PO X lo (TOx X T cls Ex C φ φ2 el)) (h3 : PO X hi (TOx X T cls Ex C φ φ2 eh)) : PE X (.Subscript x1 (.Slice lo hi none p2) pos) (TEx X T cls Ex C φ φ2 (.slc a el eh)) :=
  PE.imp (pe_slice slX h1 h2 h3) fun σ H Q h => by
    obtain ⟨w, env, st, j, en, h⟩ := h
    rw [den] at h
    refine ⟨w, env, st, j, en, (OkG.bind (R := RepV X.K) h).imp fun x H1 ⟨w1, st1, rx, s1, j1, r1, h1⟩ => ?_⟩
    refine ⟨w1, env, st1, j1, en.stp s1, (OkG.bind (R := fun _ _ (a b : Option Int) => a = b) h1).imp fun l H2 ⟨w2, st2, rl, s2, j2, r2, h2⟩ => ?_⟩
    subst r2
    refine ⟨w2, env, st2, j2, (en.stp s1).stp s2, (OkG.bind (R := fun _ _ (a b : Option Int) => a = b) h2).imp fun u H3 ⟨w3, st3, ru, s3, j3, r3, h3⟩ => ?_⟩
    subst r3
    exact ⟨w3, st3, rx, j3, (r1.stp s2).stp s3, h3⟩
/-! ### calls of built-ins -/
theorem call_read {f : Store → List RV → Option RV} {Q : VK} (h : ∃ w env st, JX X T w st H ∧ EnvR X.K w H env σ ∧ OkV X T cls Ex w H ((denL C φ φ2 xs env st).bind fun vs st1 => Res.ofOpt (f st1 vs) st1) Q) : tCB (rFn X T cls Ex f) (TAx X T cls Ex C φ φ2 xs) σ H Q := by
  obtain ⟨w, env, st, j, en, h⟩ := h
  exact ⟨w, env, st, j, en, (OkG.bind (R := RepVs X.K) h).imp fun ys H1 ⟨w1, st1, rvs, s1, j1, r1, h1⟩ => ⟨w1, st1, rvs, j1, r1, h1⟩⟩
theorem bl_read {bt : Blt} (hb : bt ≠ .dict) {Q : VK} (h : TEx X T cls Ex C φ φ2 (.bl bt xs) σ H Q) : tCB (rFn X T cls Ex fun st vs => blt st bt vs) (TAx X T cls Ex C φ φ2 xs) σ H Q := by
  obtain ⟨w, env, st, j, en, h⟩ := h
  refine call_read (f := fun st vs => blt st bt vs) ⟨w, env, st, j, en, ?_⟩
  cases bt <;> first | exact absurd rfl hb | (rw [den] at h; exact h)
/-- how a built-in is written, and its rule -/
def bltFn : Blt → Option String
  | .len => some "len" | .abs => some "abs" | .sorted => some "sorted" | .sum => some "sum" | .min1 => some "min" | .max1 => some "max" | .max2 => some "max" | .min2 => some "min" | .dvm => some "divmod"
  | _ => none
def bltTy : Blt → Option String
  | .list => some "list" | .tuple => some "tuple" | .int => some "int"
  | _ => none
theorem blt_fn (hc : X.calm = true) (hu : X.A.units + 80 < cLine) {bt : Blt} {x : String} (h : bltFn bt = some x) : CallR X (.builtin x) (rFn X T cls Ex fun st vs => blt st bt vs) := by
  cases bt <;> simp only [bltFn, Option.some.injEq, reduceCtorEq] at h <;> subst h
  · exact bl_len
  · exact bl_abs
  · exact bl_sorted hc hu
  · exact bl_sum hc
  · exact bl_pick lst_min hc hu
  · exact bl_pick lst_max hc hu
  · exact bl_max2 hc
  · exact bl_min2 hc hu
  · exact bl_dvm
theorem blt_ty (hc : X.calm = true) {bt : Blt} {x : String} (h : bltTy bt = some x) : CallR X (.type x) (rFn X T cls Ex fun st vs => blt st bt vs) := by
  cases bt <;> simp only [bltTy, Option.some.injEq, reduceCtorEq] at h <;> subst h
  · exact bl_list hc
  · exact bl_tup
  · exact bl_int
theorem boot_fn {bt : Blt} {x : String} (h : bltFn bt = some x) : bootBuiltins (Str.ofString x) = some (.builtin x) ∧ Str.ofString x ≠ "__name__" ∧ (Str.ofString x == ("__debug__" : Str)) = false := by
  cases bt <;> simp only [bltFn, Option.some.injEq, reduceCtorEq] at h <;> subst h <;> exact ⟨by decide +kernel, by decide +kernel, by decide +kernel⟩
theorem boot_ty {bt : Blt} {x : String} (h : bltTy bt = some x) : bootBuiltins (Str.ofString x) = some (.type x) ∧ Str.ofString x ≠ "__name__" ∧ (Str.ofString x == ("__debug__" : Str)) = false := by
  cases bt <;> simp only [bltTy, Option.some.injEq, reduceCtorEq] at h <;> subst h <;> exact ⟨by decide +kernel, by decide +kernel, by decide +kernel⟩
theorem blt_ne {bt : Blt} {x : String} (h : bltFn bt = some x ∨ bltTy bt = some x) : bt ≠ .dict := by
  rintro rfl
  rcases h with h | h <;> cases h
theorem pe_blF (hc : X.calm = true) (hu : X.A.units + 80 < cLine) {bt : Blt} {x : String} (h : bltFn bt = some x) (hg : Gl X (Str.ofString x)) (hm : X.mg (Str.ofString x) = none) (h1 : PA X (x1 :: es) (TAx X T cls Ex C φ φ2 xs)) (hs : (x1 :: es).all notStar = true) :
    PE X (.Call (.Name (Str.ofString x) p) (x1 :: es) [] pos) (TEx X T cls Ex C φ φ2 (.bl bt xs)) := by
  obtain ⟨h2, h3, h4⟩ := boot_fn h
  simp only [List.all_cons, Bool.and_eq_true] at hs
  exact PE.imp (pe_callB (blt_fn hc hu h) hg hm h2 h1 h3 h4 (star_cons hs.1 es X.env) (star_any X.env es hs.2)) fun _ _ _ q => bl_read (blt_ne (.inl h)) q
theorem pe_blT (hc : X.calm = true) {bt : Blt} {x : String} (h : bltTy bt = some x) (hg : Gl X (Str.ofString x)) (hm : X.mg (Str.ofString x) = none) (h1 : PA X (x1 :: es) (TAx X T cls Ex C φ φ2 xs)) (hs : (x1 :: es).all notStar = true) :
    PE X (.Call (.Name (Str.ofString x) p) (x1 :: es) [] pos) (TEx X T cls Ex C φ φ2 (.bl bt xs)) := by
  obtain ⟨h2, h3, h4⟩ := boot_ty h
  simp only [List.all_cons, Bool.and_eq_true] at hs
  exact PE.imp (pe_callTy (blt_ty hc h) hg hm h2 h1 h3 h4 (star_cons hs.1 es X.env) (star_any X.env es hs.2)) fun _ _ _ q => bl_read (blt_ne (.inr h)) q
end
end DL

-- DRule3
/-! DRule3: dict(pairs), min and max with default=, isinstance, methods, comprehensions. -/
namespace DL
open PySem L2
section
variable {X : Cx} {T : List (Addr × Str)} {cls : Nat → Value} {Ex : XK} {C : Cfg} {φ φ2 : Phi} {w w0 : Wd} {H H0 : Hp} {st : Store} {v : V} {rv : RV} {pins : List (Addr × Obj)} {s : Shared} {σ : St} {m : Bool} {D : Ends}
  {x1 x2 x3 : Expr} {a b c : E} {es : List Expr} {xs : EL} {pos p apos : Pos} {kk : Nat} {K : PySem.W.Frag}
/-! ### dict([(k, v), ..]) -/
theorem pairs_view (I : Inv X pins σ H s) {g : Gn} : ∀ {ds : List PyData} {kvs : List (PyData × PyData)} {vs : List V} {its : List Value}, pairsOf ds = some kvs → (kvs.all fun q => keyOk q.1) = true → RepL X.K H w.free (w.ok H g) ds vs → Vals vs its →
    ∃ (es : List Ent) (us : List (NestedKey × Addr × Value)) (Ts : List Addr), Paired EntU es us ∧ Paired (EntR X.K w H) (kvs.map fun q => (q.1, el g q.2)) es ∧ its = Ts.map Value.ref ∧ Paired (fun (t : Addr) (u : NestedKey × Addr × Value) => s.heap.IsTuple t #[.ref u.2.1, u.2.2]) Ts us
  | [], kvs, _, _, e, _, .nil, .nil => by
    simp only [pairsOf, Option.some.injEq] at e
    subst e
    exact ⟨[], [], [], .nil, .nil, rfl, .nil⟩
  | x :: ds, kvs, _, _, e, ho, .cons h t, .cons r q => by
    unfold pairsOf at e
    split at e
    · cases ‹_ :: _ = []›
    · rename_i k y ds' heq
      cases heq
      obtain ⟨kvs', e1, rfl⟩ := Option.map_eq_some_iff.mp e
      simp only [List.all_cons, Bool.and_eq_true] at ho
      obtain ⟨es, us, Ts, i1, i2, i3, i4⟩ := pairs_view I e1 ho.2 t q
      obtain ⟨ta, ws, rfl, hq, _, rl⟩ := RepD.tuple h
      obtain rfl : _ = Value.ref ta := r
      obtain ⟨us2, rv, ht, _⟩ := I.tuple hq
      obtain ⟨ys, nk, rfl, ek⟩ := keyOk_tup ho.1
      cases rl with
      | cons rk r2 =>
        cases r2 with
        | cons ry r3 =>
          cases r3
          cases rv with
          | cons k1 k2 =>
            cases k2 with
            | cons y1 y2 =>
              cases y2
              obtain ⟨qa, rfl⟩ := rep_ref (K := X.K) rk
              obtain rfl : _ = Value.ref qa := k1
              exact ⟨(nk, qa, _) :: es, (nk, qa, _) :: us, ta :: Ts, .cons ⟨rfl, rfl, y1⟩ i1, .cons ⟨ek, ho.1, Rep.noLst (toKey_noL _ _ ek) rk, Rep.el ry⟩ i2, by rw [i3]; rfl, .cons ht i4⟩
    · cases e
theorem fold_u : ∀ {es acc : List Ent} {us accU : List (NestedKey × Addr × Value)}, Paired EntU es us → Paired EntU acc accU → Paired EntU (es.foldl (fun acc e => storeE acc e.1 e.2.1 e.2.2) acc) (storedAllH accU us)
  | _, _, _, _, .nil, h => h
  | e :: es, acc, u :: us, accU, .cons r t, h => by
    have q : Paired EntU (storeE acc e.1 e.2.1 e.2.2) (storedH accU u.1 u.2.1 u.2.2) := by
      rw [← r.1, ← r.2.1]
      exact store_u h r.2.2
    simp only [List.foldl_cons]
    show Paired EntU _ (storedAllH (storedH accU u.1 u.2.1 u.2.2) us)
    exact fold_u t q
theorem fold_kv : ∀ {kvs acc : List (PyData × RV)} {es accE : List Ent}, Paired (EntR K w H) kvs es → Paired (EntR K w H) acc accE → Paired (EntR K w H) (kvs.foldl (fun acc q => dput acc q.1 q.2) acc) (es.foldl (fun acc e => storeE acc e.1 e.2.1 e.2.2) accE)
  | _, _, _, _, .nil, h => h
  | _ :: _, _, _ :: _, _, .cons r t, h => by
    simp only [List.foldl_cons]
    exact fold_kv t (store_kv h r.1 r.2.1 r.2.2.1 r.2.2.2)
theorem fold_len : ∀ (es acc : List Ent), (es.foldl (fun acc e => storeE acc e.1 e.2.1 e.2.2) acc).length ≤ acc.length + es.length
  | [], acc => Nat.le_refl _
  | e :: es, acc => by
    have h1 := fold_len es (storeE acc e.1 e.2.1 e.2.2)
    have h2 := @storeE_len acc e.1 e.2.1 e.2.2
    simp only [List.foldl_cons, List.length_cons]
    omega
def rDict (X : Cx) (T : List (Addr × Str)) : List V → Hp → VK → Prop := fun xs H Q => ∃ w st rv cl, JX X T w st H ∧ RepVs X.K w H [rv] xs ∧ mkDic rv = some cl ∧ ∀ w' H' b, Stp w w' H H' → JX X T w' (st ++ [cl]) H' → RepV X.K w' H' (.c st.length) b → Q b H'
theorem bl_dict (hc : X.calm = true) (hu : X.A.units + 80 < cLine) : CallR X (.type "dict") (rDict X T) := by
  intro pins s σ H xs us Q I r h
  obtain ⟨w, st, rv, cl, j, rvs, hm, h⟩ := h
  obtain ⟨x, rfl, r1⟩ := RepVs.one rvs
  unfold mkDic at hm
  split at hm
  · rename_i g ds
    cases hp : pairsOf ds with
    | none => rw [hp] at hm; cases hm
    | some kvs =>
      rw [hp] at hm
      simp only [Option.bind_some] at hm
      split at hm
      · rename_i hk
        cases hm
        obtain ⟨l, vs, rfl, hr, f, q, hl, rl⟩ := RepD.list r1
        rw [Vals.ref1 r]
        obtain ⟨its, rits, pl, hz⟩ := I.list (.inl hr)
        obtain ⟨es, us', Ts, p1, p2, p3, p4⟩ := pairs_view I hp hk rl rits
        have hn : H s.heap.objs.size = none := I.hok.fresh (Nat.le_refl _)
        have l1 := p1.length
        have l4 := p4.length
        have lv := vals_len rits
        have li : its.length = us'.length := by rw [p3, List.length_map, l4]
        obtain ⟨ol, nl, e1, e2, e3, e4⟩ := pl
        have OK : PySem.PlainSeq "list" s.heap l its.toArray ∧ PySem.PairItems s.heap its.toArray (fun i => Ts.getD i 0) (us'.map fun u => (Value.ref u.2.1, u.2.2)) := by
          refine ⟨⟨ol, nl, e1, e2, e3, e4⟩, by simp [li], fun i k v e => ?_⟩
          rw [List.getElem?_map] at e
          obtain ⟨u, e5, e6⟩ := Option.map_eq_some_iff.mp e
          cases e6
          have hi : i < Ts.length := by rw [l4]; exact (List.getElem?_eq_some_iff.mp e5).1
          obtain ⟨u', e7, e8⟩ := pget p4 i (List.getElem?_eq_getElem hi)
          rw [e5] at e7
          cases e7
          have e9 : Ts.getD i 0 = Ts[i] := by rw [List.getD_eq_getElem?_getD, List.getElem?_eq_getElem hi]; rfl
          refine ⟨?_, ?_⟩
          · dsimp only
            rw [e9, p3]
            simp [List.getElem?_eq_getElem hi]
          · dsimp only
            rw [e9]
            exact .inl e8
        refine PySem.call_dict_pairsH (knd := nestedKind X.prog X.w) (ps := us') (PySem.PairArg.list l its.toArray (fun i => Ts.getD i 0) (us'.map fun u => (Value.ref u.2.1, u.2.2))) (I.ok.hd hc) (room9 hu) OK ⟨by simp, fun i key v e => ?_⟩ (fun h' hk' x hx => ?_) (by rw [List.length_map]; omega) fun h' tk hd hk' => ?_
        · have e : (us'.map fun u => (Value.ref u.2.1, u.2.2))[i]? = some (key, v) := e
          rw [List.getElem?_map] at e
          obtain ⟨u, e5, e6⟩ := Option.map_eq_some_iff.mp e
          cases e6
          exact ⟨u.1, u.2.1, e5, rfl⟩
        · have k' : ∀ b o, s.heap.get? b = some o → h'.get? b = some o := fun b o e => hk' b o (Nat.ne_of_lt (Heap.lt_size e)) (by simp) e
          exact ents_is (I.kept (t' := s.toks) k') p2 p1 x hx
        · have k' : ∀ b o, s.heap.get? b = some o → h'.get? b = some o := fun b o e => hk' b o (by simp) e
          have h0 : (s.heap.objs.size == sysModules) = false := beq_eq_false_iff_ne.mpr (Nat.ne_of_gt I.big)
          have q1 := fold_u p1 .nil
          have q2 := fold_kv p2 .nil
          have hlen : (kvs.map fun q => (q.1, el g q.2)).length = es.length := p2.length
          have e9 : (kvs.map fun q => (q.1, el g q.2)).foldl (fun acc q => dput acc q.1 q.2) [] = kvs.foldl (fun acc q => dput acc q.1 (el g q.2)) [] := by rw [List.foldl_map]
          rw [e9] at q2
          have sa : Stp w (w.add s.heap.objs.size) H (upd H s.heap.objs.size (dicO X.prog X.w s.heap.objs.size (es.foldl (fun acc e => storeE acc e.1 e.2.1 e.2.2) []))) := Stp.add hn
          refine ⟨.ref s.heap.objs.size, _, I.laid (t' := tk) k' (Nat.le_refl _) (dic_ok q1 hd), rfl, h _ _ _ sa (j.add hn (fun ps z => by unfold dicO at z; cases z) ⟨_, upd_same, h0, q2.mono fun _ _ r => r.stp sa, ?_⟩) ⟨_, addAt j _, rfl⟩⟩
          have := fold_len es []
          simp only [List.length_nil] at this
          omega
      · cases hm
  · cases hm
theorem pe_dict (hc : X.calm = true) (hu : X.A.units + 80 < cLine) (hg : Gl X "dict") (hm : X.mg "dict" = none) (h1 : PA X [x1] (TAx X T cls Ex C φ φ2 (oneE a))) (hs : notStar x1 = true) :
    PE X (.Call (.Name "dict" p) [x1] [] pos) (TEx X T cls Ex C φ φ2 (.bl .dict (oneE a))) :=
  PE.imp (pe_callTy (bl_dict (T := T) hc hu) hg hm (by decide +kernel) h1 (by decide) (by decide) (star_cons hs [] X.env) rfl) fun σ H Q h => by
    obtain ⟨w, env, st, j, en, h⟩ := h
    rw [den] at h
    refine ⟨w, env, st, j, en, (OkG.bind (R := RepVs X.K) h).imp fun ys H1 ⟨w1, st1, rvs, s1, j1, r1, h1⟩ => ?_⟩
    dsimp only at h1
    split at h1
    · split at h1
      · rename_i cl hcl
        exact ⟨w1, st1, _, cl, j1, r1, hcl, h1⟩
      · exact h1.elim
    · exact h1.elim
/-- min(xs, default=d), max(xs, default=d) -/
def pickD : Blt → Option (String × (PyData → List PyData → PyData))
  | .minD => some ("min", PySem.W.minD)
  | .maxD => some ("max", PySem.W.maxD)
  | _ => none
theorem pickD_rule (hc : X.calm = true) (hu : X.A.units + 80 < cLine) {bt : Blt} {x : String} {f : PyData → List PyData → PyData} (h : pickD bt = some (x, f)) :
    CallRK X (.builtin x) [Str.ofString "default"] (fun xs zs H Q => ∃ y z, xs = [y] ∧ zs = [z] ∧ rFn X T cls Ex (bPickD f) [y, z] H Q) := by
  cases bt <;> simp only [pickD, Option.some.injEq, Prod.mk.injEq, reduceCtorEq] at h
  · obtain ⟨rfl, rfl⟩ := h
    exact bl_pickD lst_minD hc hu
  · obtain ⟨rfl, rfl⟩ := h
    exact bl_pickD lst_maxD hc hu
theorem boot_pick {bt : Blt} {x : String} {f : PyData → List PyData → PyData} (h : pickD bt = some (x, f)) : bootBuiltins (Str.ofString x) = some (.builtin x) ∧ Str.ofString x ≠ "__name__" ∧ (Str.ofString x == ("__debug__" : Str)) = false := by
  cases bt <;> simp only [pickD, Option.some.injEq, Prod.mk.injEq, reduceCtorEq] at h <;> obtain ⟨rfl, _⟩ := h <;> exact ⟨by decide +kernel, by decide +kernel, by decide +kernel⟩
theorem den_pick {bt : Blt} {x : String} {f : PyData → List PyData → PyData} (h : pickD bt = some (x, f)) (st : Store) (vs : List RV) : blt st bt vs = bPickD f st vs ∧ bt ≠ .dict := by
  cases bt <;> simp only [pickD, Option.some.injEq, Prod.mk.injEq, reduceCtorEq] at h <;> obtain ⟨_, rfl⟩ := h <;> exact ⟨rfl, by decide⟩
theorem pe_pickD (hc : X.calm = true) (hu : X.A.units + 80 < cLine) {bt : Blt} {x : String} {f : PyData → List PyData → PyData} {kp : Pos} (hp : pickD bt = some (x, f)) (hg : Gl X (Str.ofString x)) (hm : X.mg (Str.ofString x) = none)
    (h1 : PE X x1 (TEx X T cls Ex C φ φ2 a)) (h2 : PE X x2 (TEx X T cls Ex C φ φ2 b)) (hs : notStar x1 = true) :
    PE X (.Call (.Name (Str.ofString x) p) [x1] [⟨some (Str.ofString "default"), x2, kp⟩] pos) (TEx X T cls Ex C φ φ2 (.bl bt (.cons a (.cons b .nil)))) := by
  obtain ⟨b1, b2, b3⟩ := boot_pick hp
  refine PE.imp (pe_callBK (pickD_rule (T := T) (cls := cls) (Ex := Ex) hc hu hp) hg hm b1 (pa_consX h1 pa_nilX hs) (pk_cons h2 pk_nil) b2 b3 (by rw [star_cons hs]; rfl) (by rw [star_cons hs]; rfl) rfl rfl rfl) fun σ H Q h => ?_
  have h := bl_read (den_pick hp [] []).2 h
  obtain ⟨w, env, st, j, en, h⟩ := h
  simp only [denL] at h
  refine ⟨w, env, st, j, en, ?_⟩
  simp only [denL]
  cases hd : den C φ φ2 a env st with
  | bad => rw [hd] at h; exact h.elim
  | exc k st1 => rw [hd] at h; exact h
  | ok v st1 =>
    rw [hd] at h
    simp only [Res.bind_ok] at h ⊢
    intro w1 H1 ys s1 j1 r1
    obtain ⟨y, rfl, ry⟩ := RepVs.one r1
    refine ⟨w1, env, st1, j1, en.stp s1, ?_⟩
    cases hd2 : den C φ φ2 b env st1 with
    | bad => rw [hd2] at h; exact h.elim
    | exc k st2 => rw [hd2] at h; exact fun w' H' d s' j' => h w' H' d (s1.trans s') j'
    | ok u st2 =>
      rw [hd2] at h
      simp only [Res.bind_ok] at h
      intro w2 H2 z s2 j2 rz
      refine ⟨y, z, rfl, rfl, ?_⟩
      have q := h w2 H2 [y, z] (s1.trans s2) j2 (.cons (ry.stp s2) (.cons rz .nil))
      obtain ⟨w3, st3, vs3, j3, r3, q⟩ := q
      refine ⟨w3, st3, vs3, j3, r3, ?_⟩
      rw [← (den_pick hp st3 vs3).1]
      exact q
end
end DL

-- DRule4
/-! DRule4: isinstance, methods, comprehensions, names. -/
namespace DL
open PySem L2
section
variable {X : Cx} {T : List (Addr × Str)} {cls : Nat → Value} {Ex : XK} {C : Cfg} {φ φ2 : Phi} {w w0 : Wd} {H H0 : Hp} {st : Store} {v : V} {rv : RV} {pins : List (Addr × Obj)} {s : Shared} {σ : St} {m : Bool} {D : Ends}
  {x1 x2 x3 : Expr} {a b c : E} {es : List Expr} {xs : EL} {pos p apos : Pos} {kk : Nat} {K : PySem.W.Frag}
/-! ### isinstance -/
def dty : PyData → String
  | .none => "NoneType" | .bool _ => "bool" | .int _ => "int" | .str _ => "str" | .list _ => "list" | .tuple _ => "tuple" | .dict _ => "dict"
def tyNm : Ty → String
  | .tuple => "tuple" | .list => "list" | .int => "int" | .bool => "bool" | .str => "str"
def tyV? (st : Store) : RV → Option String
  | .d _ x => some (dty x)
  | .c n => match st[n]? with
    | some (.lst _) => some "list"
    | _ => none
theorem ty_names : ∀ t ∈ ["NoneType", "bool", "int", "str", "list", "tuple", "dict"], ∀ u ∈ [Ty.tuple, .list, .int, .bool, .str], kitB t (tyNm u) = some (match u with | .tuple => t == "tuple" | .list => t == "list" | .int => t == "int" || t == "bool" | .bool => t == "bool" | .str => t == "str") := by decide +kernel
theorem ty_is {t : Ty} {n : String} {r : Bool} (h : tyV? st rv = some n) (e : isTy st rv t = some r) : kitB n (tyNm t) = some r := by
  cases rv with
  | d g x =>
    simp only [tyV?, Option.some.injEq] at h
    simp only [isTy, Option.some.injEq] at e
    subst h e
    rw [ty_names (dty x) (by cases x <;> simp [dty]) t (by cases t <;> decide)]
    cases x <;> cases t <;> rfl
  | c k =>
    simp only [tyV?] at h
    simp only [isTy] at e
    split at h
    · rename_i ys hn
      rw [hn] at e
      cases h
      cases e
      rw [ty_names "list" (by decide) t (by cases t <;> decide)]
      cases t <;> rfl
    · cases h
theorem ty_some {t : Ty} {r : Bool} (e : isTy st rv t = some r) : ∃ n, tyV? st rv = some n := by
  cases rv with
  | d g x => exact ⟨_, rfl⟩
  | c k =>
    simp only [isTy] at e
    simp only [tyV?]
    split at e
    · rename_i hn
      first
      | exact ⟨_, rfl⟩
      | exact ⟨_, by rw [hn]⟩
    · cases e
/-- its type as the machine sees it -/
theorem ty_rep (j : JX X T w st H) (r : RepV X.K w H rv v) {n : String} (h : tyV? st rv = some n) : TyX X.K H v (.type n) := by
  cases rv with
  | d g x =>
    simp only [tyV?, Option.some.injEq] at h
    subst h
    have r : RepD X.K H w.free (w.ok H g) x v := r
    cases r with
    | non => exact .base .non
    | bl b => exact .base (.bl b)
    | int i => exact .base (.int i)
    | str x _ => exact .base (.str x)
    | lst h _ _ _ _ =>
      rcases h with h | ⟨o, h⟩
      · exact .base (.lst h)
      · exact .base (.frz h)
    | tup h _ _ _ =>
      rcases h with h | ⟨o, h⟩
      · exact .base (.tup h)
      · exact .fTuple h
    | tupK h hc _ _ _ _ => exact .kTuple h hc
  | c k =>
    simp only [tyV?] at h
    split at h
    · rename_i ys hn
      cases h
      obtain ⟨a, ea, rfl, vs, h1, _⟩ := atCell j r hn
      exact .base (.lst h1)
    · cases h
theorem ty_any {n : String} (h : tyV? st rv = some n) : ∀ {ts : List Ty} {bs : List Bool}, ts.mapM (isTy st rv) = some bs → PySem.W.kitAny K (.type n) (ts.map fun t => .type (tyNm t)) = some (bs.any id)
  | [], bs, e => by
    simp only [List.mapM_nil, Option.pure_def, Option.some.injEq] at e
    subst e
    rfl
  | t :: ts, bs, e => by
    simp only [List.mapM_cons, Option.pure_def, Option.bind_eq_bind, Option.bind_eq_some_iff, Option.some.injEq] at e
    obtain ⟨r, e1, rs, e2, rfl⟩ := e
    refine kitAny_cons (kit_ty (ty_is h e1)) (fun hr => ?_) fun hr => ?_
    · subst hr
      rw [ty_any h e2]
      simp
    · subst hr
      rfl
theorem boot_isi : bootBuiltins (Str.ofString "isinstance") = some (.builtin "isinstance") := by decide +kernel
theorem boot_tyN (t : Ty) : bootBuiltins (Str.ofString (tyNm t)) = some (.type (tyNm t)) ∧ Str.ofString (tyNm t) ≠ "__name__" ∧ (Str.ofString (tyNm t) == ("__debug__" : Str)) = false := by cases t <;> exact ⟨by decide +kernel, by decide +kernel, by decide +kernel⟩
theorem pe_isi1 {t : Ty} {p2 : Pos} (hg : Gl X "isinstance") (hm : X.mg "isinstance" = none) (hg2 : Gl X (Str.ofString (tyNm t))) (hm2 : X.mg (Str.ofString (tyNm t)) = none) (h1 : PE X x1 (TEx X T cls Ex C φ φ2 a)) (hs : notStar x1 = true) :
    PE X (.Call (.Name "isinstance" p) [x1, .Name (Str.ofString (tyNm t)) p2] [] pos) (TEx X T cls Ex C φ φ2 (.isi a [t])) := by
  obtain ⟨b1, b2, b3⟩ := boot_tyN t
  have hty : PE X (.Name (Str.ofString (tyNm t)) p2) (tC (.ty (tyNm t))) := pe_bltn hg2 hm2 b1 rfl b2 b3
  refine PE.imp (pe_callB call_isi hg hm boot_isi (pa_cons h1 (pa_cons hty pa_nil rfl) (star_cons hs _ X.env)) (by decide) (by decide) (star_cons hs _ X.env) rfl) fun σ H Q h => ?_
  obtain ⟨w, env, st, j, en, h⟩ := h
  rw [den] at h
  refine ⟨w, env, st, j, en, (OkG.bind (R := RepV X.K) h).imp fun x H1 ⟨w1, st1, rx, s1, j1, r1, h1⟩ => ?_⟩
  cases e : isTy st1 rx t with
  | none =>
    rw [show ([t].mapM (isTy st1 rx)) = none from by simp [e]] at h1
    exact h1.elim
  | some r =>
    rw [show ([t].mapM (isTy st1 rx)) = some [r] from by simp [e]] at h1
    obtain ⟨n, hn⟩ := ty_some e
    refine ⟨x, .ty (tyNm t), .type n, .type (tyNm t), r, rfl, .ty _, ty_rep j1 r1 hn, kit_ty (ty_is hn e), ?_⟩
    have := OkG.ret (show OkV X T cls Ex w1 H1 (.ok (rvB ([r].any id)) st1) Q from h1) j1 (repB w1 H1 _)
    simpa using this
/-- a tuple of names of types -/
def tyNames : List Ty → List Expr → Bool
  | [], [] => true
  | t :: ts, .Name x _ :: es => decide (x = Str.ofString (tyNm t)) && tyNames ts es
  | _, _ => false
theorem pa_tys : ∀ {ts : List Ty} {es : List Expr}, tyNames ts es = true → (∀ t ∈ ts, Gl X (Str.ofString (tyNm t)) ∧ X.mg (Str.ofString (tyNm t)) = none) → PA X es (fun _ H Q => Q (ts.map fun t => V.ty (tyNm t)) H)
  | [], [], _, _ => pa_nil
  | t :: ts, .Name x p :: es, h, hg => by
    simp only [tyNames, Bool.and_eq_true, decide_eq_true_eq] at h
    obtain ⟨rfl, h⟩ := h
    obtain ⟨g1, g2⟩ := hg t List.mem_cons_self
    obtain ⟨b1, b2, b3⟩ := boot_tyN t
    have hty : PE X (.Name (Str.ofString (tyNm t)) p) (tC (.ty (tyNm t))) := pe_bltn g1 g2 b1 rfl b2 b3
    exact pa_cons hty (pa_tys h fun u hu => hg u (List.mem_cons_of_mem _ hu)) rfl
theorem cls_tys : ∀ ts : List Ty, Paired ClsV (ts.map fun t => V.ty (tyNm t)) (ts.map fun t => Value.type (tyNm t))
  | [] => .nil
  | t :: ts => .cons (.ty _) (cls_tys ts)
theorem pe_isiT {ts : List Ty} {p2 : Pos} (hg : Gl X "isinstance") (hm : X.mg "isinstance" = none) (hgs : ∀ t ∈ ts, Gl X (Str.ofString (tyNm t)) ∧ X.mg (Str.ofString (tyNm t)) = none) (ht : tyNames ts es = true) (hl : ts.length ≤ 100) (hne : ts ≠ [])
    (h1 : PE X x1 (TEx X T cls Ex C φ φ2 a)) (hs : notStar x1 = true) : PE X (.Call (.Name "isinstance" p) [x1, .Tuple es kk p2] [] pos) (TEx X T cls Ex C φ φ2 (.isi a ts)) := by
  refine PE.imp (pe_callB call_isiT hg hm boot_isi (pa_cons h1 (pa_cons (pe_tup (pa_tys ht hgs)) pa_nil rfl) (star_cons hs _ X.env)) (by decide) (by decide) (star_cons hs _ X.env) rfl) fun σ H Q h => ?_
  obtain ⟨w, env, st, j, en, h⟩ := h
  rw [den] at h
  refine ⟨w, env, st, j, en, (OkG.bind (R := RepV X.K) h).imp fun x H1 ⟨w1, st1, rx, s1, j1, r1, h1⟩ => ?_⟩
  refine ⟨by rw [List.length_map, sizeLine_eq]; omega, fun q hq => ?_⟩
  cases e : ts.mapM (isTy st1 rx) with
  | none => rw [e] at h1; exact h1.elim
  | some bs =>
    rw [e] at h1
    have s2 : Stp w1 w1 H1 (upd H1 q (.tup (ts.map fun t => V.ty (tyNm t)))) := Stp.fresh hq
    have j2 := j1.fresh (o := .tup (ts.map fun t => V.ty (tyNm t))) hq (fun ps z => by cases z)
    cases hn : tyV? st1 rx with
    | none =>
      cases ts with
      | nil => exact absurd rfl hne
      | cons t ts =>
        simp only [List.mapM_cons, Option.pure_def, Option.bind_eq_bind, Option.bind_eq_some_iff] at e
        obtain ⟨r, e1, _⟩ := e
        obtain ⟨n, hn'⟩ := ty_some e1
        rw [hn] at hn'
        cases hn'
    | some n =>
      refine ⟨x, q, ts.map fun t => V.ty (tyNm t), .type n, ts.map fun t => .type (tyNm t), bs.any id, rfl, upd_same, ?_, ty_rep j2 (r1.stp s2) hn, ty_any hn e, ?_⟩
      · exact cls_tys ts
      · exact OkG.ret (OkG.after s2 (show OkV X T cls Ex w1 H1 (.ok (rvB (bs.any id)) st1) Q from h1)) j2 (repB _ _ _)

/-! ### methods -/
def mName : Mth → String
  | .append => "append" | .extend => "extend" | .pop => "pop" | .popAt => "pop" | .reverse => "reverse" | .get1 => "get" | .get2 => "get" | .update => "update" | .join => "join" | .split => "split"
def mTy : Mth → String
  | .get1 => "dict" | .get2 => "dict" | .update => "dict" | .join => "str" | .split => "str" | _ => "list"
def mPlain (mt : Mth) : Prop := mt ≠ .update
instance (mt : Mth) : Decidable (mPlain mt) := inferInstanceAs (Decidable (_ ≠ _))
theorem mth_slot {mt : Mth} (h : mPlain mt) : PlainAttrs (mTy mt) ∧ Slot (mTy mt) (Str.ofString (mName mt)) (idOf mt) ∧ typeOf (.builtin (idOf mt)) = pure (.type "method_descriptor") := by
  cases mt with
  | append => exact ⟨PySem.F.plainAttrs_list, PySem.F.slot_list_append, PySem.F.type_list_append⟩
  | extend => exact ⟨PySem.F.plainAttrs_list, PySem.F.slot_list_extend, PySem.F.type_list_extend⟩
  | pop => exact ⟨PySem.F.plainAttrs_list, PySem.F.slot_list_pop, PySem.F.type_list_pop⟩
  | popAt => exact ⟨PySem.F.plainAttrs_list, PySem.F.slot_list_pop, PySem.F.type_list_pop⟩
  | reverse => exact ⟨PySem.F.plainAttrs_list, PySem.F.slot_list_reverse, PySem.F.type_list_reverse⟩
  | get1 => exact ⟨PySem.F.plainAttrs_dict, PySem.F.slot_dict_get, PySem.F.type_dict_get⟩
  | get2 => exact ⟨PySem.F.plainAttrs_dict, PySem.F.slot_dict_get, PySem.F.type_dict_get⟩
  | update => exact absurd rfl h
  | join => exact ⟨PySem.F.plainAttrs_str, PySem.F.slot_str_join, PySem.F.type_str_join⟩
  | split => exact ⟨PySem.F.plainAttrs_str, PySem.F.slot_str_split, PySem.F.type_str_split⟩
/-- the thing asked is of the method's type -/
theorem m_type {mt : Mth} {u : Value} (I : Inv X pins σ H s) (j : JX X T w st H) (r : RepV X.K w H rv v) (rx : RelV v u) (h : mOk st mt rv = true) (hm : mPlain mt) : s.TypeIs u (mTy mt) ∧ ∀ a, u = .ref a → ∃ ob, s.heap.get? a = some ob ∧ ob.dict = none := by
  have lst : ∀ n, rv = .c n → isLst st (.c n) = true → s.TypeIs u "list" ∧ ∀ a, u = .ref a → ∃ ob, s.heap.get? a = some ob ∧ ob.dict = none := fun n e h' => by
    subst e
    simp only [isLst] at h'
    split at h'
    · rename_i ys hn
      obtain ⟨a, ea, rfl, vs, h1, _⟩ := atCell j r hn
      obtain rfl : u = Value.ref a := rx
      obtain ⟨_, its, k, _, _, e⟩ := I.lstM h1
      exact ⟨⟨_, e, rfl⟩, fun b q => by cases q; exact ⟨_, e, rfl⟩⟩
    · cases h'
  have dic : ∀ n, rv = .c n → (∃ lk kvs, st[n]? = some (.dic lk kvs)) → s.TypeIs u "dict" ∧ ∀ a, u = .ref a → ∃ ob, s.heap.get? a = some ob ∧ ob.dict = none := fun n e h' => by
    subst e
    obtain ⟨lk, kvs, hn⟩ := h'
    obtain ⟨a, ea, rfl, es, h1, h0, h2, _⟩ := atCell j r hn
    obtain rfl : u = Value.ref a := rx
    obtain ⟨us, _, hd⟩ := dic_view I h1 h2
    obtain ⟨o, _, _, e1, e2, _⟩ := hd
    exact ⟨⟨o, e1, e2.1⟩, fun b q => by cases q; exact ⟨o, e1, e2.2.1⟩⟩
  cases rv with
  | d g x =>
    cases x with
    | str z =>
      obtain ⟨rfl, _⟩ := RepD.strV r
      obtain ⟨t, rfl⟩ := rx
      cases mt with
      | join => exact ⟨typeIs_str _ _ _, fun a e => nomatch e⟩
      | split => exact ⟨typeIs_str _ _ _, fun a e => nomatch e⟩
      | _ => exact absurd (show false = true from h) Bool.false_ne_true
    | _ => cases mt <;> first | exact absurd rfl hm | (exact absurd (show false = true from h) Bool.false_ne_true)
  | c n =>
    cases mt with
    | append => exact lst n rfl h
    | extend => exact lst n rfl h
    | pop => exact lst n rfl h
    | popAt => exact lst n rfl h
    | reverse => exact lst n rfl h
    | get1 =>
      have h : isDic st n = true := h
      unfold isDic at h
      split at h
      · exact dic n rfl ⟨_, _, by assumption⟩
      · cases h
    | get2 =>
      have h : isDic st n = true := h
      unfold isDic at h
      split at h
      · exact dic n rfl ⟨_, _, by assumption⟩
      · cases h
    | update => exact absurd rfl hm
    | join => exact absurd (show false = true from h) Bool.false_ne_true
    | split => exact absurd (show false = true from h) Bool.false_ne_true
theorem pe_mthX (hu : X.A.units + 80 < cLine) {mt : Mth} (hm : mPlain mt) {o : Expr} {eo : E} (ho : PE X o (TEx X T cls Ex C φ φ2 eo)) (ha : PA X es (TAx X T cls Ex C φ φ2 xs)) (hb : notCall o = true) (hl : (apos.endLine == pos.line) = true) (hs : es.all notStar = true) (hn : es.length < 20) (hx : es = [] → xs = .nil) :
    PE X (.Call (.Attribute o (Str.ofString (mName mt)) apos) es [] pos) (TEx X T cls Ex C φ φ2 (.mth mt eo xs)) := by
  obtain ⟨pa, slot, hty⟩ := mth_slot hm
  refine ⟨fun pins s σ H Q I h => ?_⟩
  obtain ⟨w, env, st, j, en, h⟩ := h
  rw [den] at h
  have hfew : ((backTo pos (starEach es X.env)).all (fun x => !x.1) && (backToKw pos (keywordEach [] X.env)).all (fun x => x.1.isSome) && decide (es.length + ([] : List Keyword).length + (if ([] : List Keyword).isEmpty then 0 else 1) < 30)) = true := by
    rw [star_all X.env es hs, Bool.true_and]
    show (true && decide (es.length + 0 + 0 < 30)) = true
    rw [Bool.true_and]
    exact decide_eq_true (by omega)
  refine wpAny_Call_method_late (base_no hb _ X.env _) hfew hl rfl (thn (ho.run pins s σ H (fun x H1 => ∃ w1 st1 rx, Stp w w1 H H1 ∧ JX X T w1 st1 H1 ∧ RepV X.K w1 H1 rx x ∧ OkG X T cls Ex (RepV X.K) w1 H1 (if mOk st1 mt rx = true then (denL C φ φ2 xs env st1).bind fun vs st2 => match mthd st2 mt rx vs with
    | some (v, st3) => .ok v st3
    | none => .bad
    else .bad) Q) I ⟨w, env, st, j, en, OkG.bind (R := RepV X.K) h⟩) fun v s1 ⟨x, H1, I1, r1, w1, st1, rx, s01, j1, rr, h1⟩ => ?_)
  split at h1
  rotate_left
  · exact h1.elim
  rename_i hok
  obtain ⟨t1, t2⟩ := m_type I1 j1 rr r1 hok hm
  refine ⟨mTy mt, idOf mt, pa, slot, hty, t1, t2, ?_⟩
  have hA := ha.run pos pins s1 σ H1 _ I1 ⟨w1, env, st1, j1, en.stp s01, OkG.bind (R := RepVs X.K) h1⟩
  have fin : ∀ us s2, AP X pins σ (fun vs H2 => ∃ w2 st2 rvs, Stp w1 w2 H1 H2 ∧ JX X T w2 st2 H2 ∧ RepVs X.K w2 H2 rvs vs ∧ OkG X T cls Ex (RepV X.K) w2 H2 (match mthd st2 mt rx rvs with
    | some (v, st3) => Res.ok v st3
    | none => .bad) Q) us s2 → wpAny (model X.prog X.w) X.A (call (.builtin (idOf mt)) (v :: us)) (EP X pins σ Q) X.xe s2 := fun us s2 ⟨vs, H2, I2, r2, w2, st2, rvs, s12, j2, rrs, h2⟩ => by
    refine mt_any hu mt hm pins s2 σ H2 x vs v us Q I2 r1 r2 ⟨w2, st2, rx, rvs, j2, rr.stp s12, rrs, ?_⟩
    split at h2
    · exact ⟨_, _, by assumption, h2⟩
    · exact h2.elim
  match es, hs, ha, hfew, hA, hx with
  | [], _, _, _, hA, hx =>
    have e := hx rfl
    subst e
    rw [denL] at h1
    exact Calls.callWith_builtin rfl (PySem.evalArgs_none (fin [] s1 ⟨[], H1, I1, .nil, w1, st1, [], Stp.refl _ _, j1, .nil, h1⟩))
  | e :: es, hs, _, _, hA, _ =>
    simp only [List.all_cons, Bool.and_eq_true] at hs
    rw [star_cons hs.1] at hA ⊢
    refine Calls.callWith_builtin (by show (false || (backTo pos (starEach es X.env)).any (·.1)) = false; rw [star_any X.env es hs.2]; rfl) (Calls.evalArgs_plain ?_)
    exact thn hA fun us s2 h => fin us s2 h
end
end DL

-- DComp
/-! DComp: comprehensions as expressions and statements; names, constants, calls. -/
namespace DL
open PySem L2
section
variable {X : Cx} {T : List (Addr × Str)} {cls : Nat → Value} {Ex : XK} {C : Cfg} {φ φ2 : Phi} {w w0 : Wd} {H H0 : Hp} {st : Store} {v : V} {rv : RV} {pins : List (Addr × Obj)} {s : Shared} {σ : St} {m : Bool} {D : Ends}
  {x1 x2 x3 : Expr} {a b c : E} {es : List Expr} {xs : EL} {pos p apos : Pos} {kk : Nat} {K : PySem.W.Frag}
  {tg : Tg} {ik : Ik} {it ts : EL} {elt : E} {own : List (Str × Nat)} {ae atg ai : Expr} {aifs : List Expr} {scope : Scope}
theorem fin_lc {Q : VK} {w1 w3 : Wd} {H1 H4 : Hp} {st3 : Store} {q : Addr} {vs : List V} {acc : List RV} (s0 : Stp w w1 H H1) (s : Stp w1 w3 H1 H4) (j1 : ∀ a ∈ w1.no, NT H1 a) (j : JX X T w3 st3 H4) (hp : ¬ NT H1 q) (hb : w1.sb q = none) (hn : q ∈ w3.no) (hl : H4 q = some (.lst vs)) (hz : vs.length ≤ sizeLine)
    (r : RepVs X.K w3 H4 acc vs) (h : OkV X T cls Ex w H (Res.ofOpt (mkLst acc) st3) Q) : Q (.ref q) H4 := by
  obtain ⟨v, s1, j2, hf⟩ := fin_d s j1 j hp hn
  unfold mkLst at h
  cases e : datas? acc with
  | none => rw [e] at h; exact h.elim
  | some ds =>
    rw [e] at h
    refine h _ _ _ (s0.trans s1) j2 ?_
    have r2 : RepVs X.K { w3 with no := w1.no } H4 acc vs := r.mono fun _ _ q => q.wv v fun _ _ e => e
    exact rep_newList (K := X.K) hl hf (by show w3.sb q = none; rw [s.sb]; exact hb) hz (datas_rep e r2)
theorem fin_mlc {Q : VK} {w1 w3 : Wd} {H1 H4 : Hp} {st3 : Store} {q : Addr} {vs : List V} {acc : List RV} (s0 : Stp w w1 H H1) (s : Stp w1 w3 H1 H4) (j1 : ∀ a ∈ w1.no, NT H1 a) (j : JX X T w3 st3 H4) (hp : ¬ NT H1 q) (hb : w1.sb q = none) (hn : q ∈ w3.no) (hl : H4 q = some (.lst vs)) (hz : vs.length ≤ sizeLine)
    (r : RepVs X.K w3 H4 acc vs) (h : OkV X T cls Ex w H (.ok (.c st3.length) (st3 ++ [.lst acc])) Q) : Q (.ref q) H4 := by
  obtain ⟨s1, j2, e⟩ := fin_c s j1 j hp hb hn hl hz r
  exact h _ _ _ (s0.trans s1) j2 ⟨q, e, rfl⟩
/-- what a block gives: the target, the tests, the element -/
structure Blk (X : Cx) (T : List (Addr × Str)) (cls : Nat → Value) (C : Cfg) (φ φ2 : Phi) (scope : Scope) (atg : Expr) (aifs : List Expr) (ae : Expr) (tg : Tg) (ts : EL) (elt : E) : Prop where
  g : ∀ (s : Shared) (H : Hp) (C' : Addr) (cl : List (Str × Addr)) (fp : List Addr), PG (X.blk s H scope (compEnvC scope cl C' X.env) fp) atg (GX X T tg)
  t : ∀ (s : Shared) (H : Hp) (C' : Addr) (cl : List (Str × Addr)) (fp : List Addr), PTs (X.blk s H scope (compEnvC scope cl C' X.env) fp) aifs (TPx X T cls noEx C φ φ2 ts)
  e : ∀ (s : Shared) (H : Hp) (C' : Addr) (cl : List (Str × Addr)) (fp : List Addr), PE (X.blk s H scope (compEnvC scope cl C' X.env) fp) ae (TEx X T cls noEx C φ φ2 elt)
theorem pe_lcX (hc : X.calm = true) (hN : X.N.Nodup) (hi : PI X atg ai (TIx X T cls Ex C φ φ2 false ik it)) (ok : BlkOk X.N X.env.scope scope own) (B : Blk X T cls C φ φ2 scope atg aifs ae tg ts elt) (hs : notSet ai = true) (hsub : ∀ i ∈ tgSlots tg, i ∈ own.map (·.2)) :
    PE X (.ListComp ae [⟨atg, ai, aifs, 0⟩] scope pos) (TEx X T cls Ex C φ φ2 (.lc (own.map (·.2)) tg ik it ts elt)) :=
  PE.imp (pe_unl (pe_lc hc hN hi ok B.g B.t B.e (fold_no hs X.env))) fun σ H Q h => by
    obtain ⟨w, env, st, j, en, h⟩ := h
    rw [den] at h
    exact lc_read hsub j en (fun w1 w3 H1 H4 st3 p vs acc a1 a2 a3 a4 a5 a6 a7 a8 a9 a10 a11 => fin_lc a1 a2 a3 a4 a5 a6 a7 a8 a9 a10 a11) h
theorem pe_mlcX (hc : X.calm = true) (hN : X.N.Nodup) (hi : PI X atg ai (TIx X T cls Ex C φ φ2 false ik it)) (ok : BlkOk X.N X.env.scope scope own) (B : Blk X T cls C φ φ2 scope atg aifs ae tg ts elt) (hs : notSet ai = true) (hsub : ∀ i ∈ tgSlots tg, i ∈ own.map (·.2)) :
    PE X (.ListComp ae [⟨atg, ai, aifs, 0⟩] scope pos) (TEx X T cls Ex C φ φ2 (.mlc (own.map (·.2)) tg ik it ts elt)) :=
  PE.imp (pe_unl (pe_lc hc hN hi ok B.g B.t B.e (fold_no hs X.env))) fun σ H Q h => by
    obtain ⟨w, env, st, j, en, h⟩ := h
    rw [den] at h
    exact lc_read (f := fun ys st => Res.ok (RV.c st.length) (st ++ [Cell.lst ys])) hsub j en (fun w1 w3 H1 H4 st3 p vs acc a1 a2 a3 a4 a5 a6 a7 a8 a9 a10 a11 => fin_mlc a1 a2 a3 a4 a5 a6 a7 a8 a9 a10 a11) h
/-! ### a value given to a name -/
theorem EnvR.set {env : Env} (h : EnvR K w H env σ) {rv : RV} {v : V} (r : RepV K w H rv v) (i : Nat) : EnvR K w H (env.set i (some rv)) (σ.set i (some v)) := by
  refine ⟨by rw [List.length_set, List.length_set]; exact h.len, fun k rv' e => ?_⟩
  by_cases hi : i = k
  · subst hi
    by_cases hl : i < env.length
    · rw [List.getElem?_set_self hl] at e
      cases e
      exact ⟨v, List.getElem?_set_self (by rw [← h.len]; exact hl), r⟩
    · rw [List.getElem?_eq_none (by rw [List.length_set]; omega)] at e; cases e
  · rw [List.getElem?_set_ne hi] at e
    rw [List.getElem?_set_ne hi]
    exact h.at_ k rv' e
theorem Dif.one (i : Nat) (σ : St) (x : Option V) : Dif [i] σ (σ.set i x) := ⟨by simp, fun k hk => List.getElem?_set_ne (fun z => hk (by simp [z]))⟩
theorem pg_nmX {i : Nat} {x : Str} (hN : X.N.Nodup) (hi : X.N[i]? = some x) (hx : Loc X.env.scope x) (hf : X.fn x = true ∨ X.env.scope.names.lookup x = some .local) : PG X (.Name x pos) (GX X T (.nm i)) := by
  refine ⟨fun pins s σ H v u Q I r h => (pg_name hN hi hx hf).run pins s σ H v u Q I r ?_⟩
  obtain ⟨w, env, st, rv, j, en, rr, h⟩ := h
  exact h _ (en.set rr i) (Dif.one i σ _)
/-- several names -/
def gSets : List Nat → List V → St → St
  | i :: is, v :: vs, σ => gSets is vs (σ.set i (some v))
  | _, _, σ => σ
def GSs (is : List Nat) : TGs := fun vs σ H Q => vs.length = is.length ∧ Q (gSets is vs σ) H
/-- the targets are plain names -/
def nmTgs (N : List Str) (ok : Str → Bool) : List Nat → List Expr → Bool
  | [], [] => true
  | i :: is, .Name x _ :: es => decide (N[i]? = some x) && ok x && nmTgs N ok is es
  | _, _ => false
theorem pgs_names {ok : Str → Bool} (hN : X.N.Nodup) (hok : ∀ x, ok x = true → Loc X.env.scope x ∧ (X.fn x = true ∨ X.env.scope.names.lookup x = some .local)) : ∀ {is : List Nat} {es : List Expr}, nmTgs X.N ok is es = true → PGs X es (GSs is) ∧ (assignEach es X.env).length = is.length ∧ (assignEach es X.env).findIdx? (·.1) = none
  | [], [], _ => ⟨⟨fun pins s σ H vs us Q I r h => pgs_nil.run pins s σ H vs us Q I r (by
      obtain ⟨h1, h2⟩ := h
      have : vs = [] := List.length_eq_zero_iff.mp h1
      subst this
      exact ⟨rfl, h2⟩)⟩, rfl, rfl⟩
  | i :: is, .Name x p :: es, h => by
    simp only [nmTgs, Bool.and_eq_true, decide_eq_true_eq] at h
    obtain ⟨⟨h1, h2⟩, h3⟩ := h
    obtain ⟨q1, q2⟩ := hok x h2
    obtain ⟨i1, i2, i3⟩ := pgs_names hN hok h3
    refine ⟨⟨fun pins s σ H vs us Q I r h => (pgs_cons (pg_name hN h1 q1 q2) i1 rfl).run pins s σ H vs us Q I r ?_⟩, by show (assignEach es X.env).length + 1 = _; rw [i2]; rfl, ?_⟩
    · obtain ⟨h4, h5⟩ := h
      cases vs with
      | nil => simp at h4
      | cons v vs => exact ⟨v, vs, rfl, by simpa using h4, h5⟩
    · show ((false, _) :: assignEach es X.env).findIdx? (·.1) = none
      rw [List.findIdx?_cons, i3]
      rfl
theorem set_all {g : Gn} : ∀ {is : List Nat} {ds : List PyData} {vs : List V} {env env' : Env} {σ : St}, setAll is ds g env = some env' → RepL K H w.free (w.ok H g) ds vs → EnvR K w H env σ → vs.length = is.length ∧ EnvR K w H env' (gSets is vs σ) ∧ Dif is σ (gSets is vs σ)
  | [], [], _, env, env', σ, e, .nil, h => by
    simp only [setAll, Option.some.injEq] at e
    subst e
    exact ⟨rfl, h, rfl, fun _ _ => rfl⟩
  | i :: is, x :: ds, _, env, env', σ, e, .cons r t, h => by
    simp only [setAll] at e
    obtain ⟨q1, q2, q3, q4⟩ := set_all e t (h.set (Rep.el r) i)
    refine ⟨by simp [q1], q2, by rw [gSets, q3]; simp, fun k hk => ?_⟩
    simp only [List.mem_cons, not_or] at hk
    rw [gSets, q4 k hk.2, List.getElem?_set_ne (fun z => hk.1 z.symm)]
  | [], _ :: _, _, _, _, _, e, _, _ => by simp [setAll] at e
  | _ :: _, [], _, _, _, _, e, _, _ => by simp [setAll] at e
theorem asg_tp {is : List Nat} {env env' : Env} (e : assign (.tp is) rv env = some env') : ∃ g ds, rv = .d g (.tuple ds) ∧ setAll is ds g env = some env' := by
  cases rv with
  | c n => simp [assign] at e
  | d g x =>
    cases x with
    | tuple ds => exact ⟨g, ds, rfl, e⟩
    | _ => simp [assign] at e
theorem pg_tpX {ok : Str → Bool} {is : List Nat} {k : Nat} (hc : X.calm = true) (hN : X.N.Nodup) (hok : ∀ x, ok x = true → Loc X.env.scope x ∧ (X.fn x = true ∨ X.env.scope.names.lookup x = some .local)) (h : nmTgs X.N ok is es = true) : PG X (.Tuple es k pos) (GX X T (.tp is)) := by
  obtain ⟨h1, h2, h3⟩ := pgs_names (X := X) hN hok h
  refine ⟨fun pins s σ H v u Q I r hq => (pg_tup hc h1 h2 h3).run pins s σ H v u Q I r ?_⟩
  obtain ⟨w, env, st, rv, j, en, rr, hq⟩ := hq
  cases e : assign (.tp is) rv env with
  | none => rw [e] at hq; exact hq.elim
  | some env' =>
    rw [e] at hq
    obtain ⟨g, ds, rfl, e⟩ := asg_tp e
    obtain ⟨a, vs, rfl, hs, _, rl⟩ := RepD.tuple rr
    obtain ⟨q1, q2, q3⟩ := set_all e rl en
    exact ⟨a, vs, rfl, hs, q1, q1, hq _ q2 q3⟩
end
end DL

-- DStm
/-! DStm: statements. -/
namespace DL
open PySem L2
section
variable {X : Cx} {T : List (Addr × Str)} {cls : Nat → Value} {Ex : XK} {C : Cfg} {φ φ2 : Phi} {w w0 : Wd} {H H0 : Hp} {st : Store} {v : V} {rv : RV} {pins : List (Addr × Obj)} {s : Shared} {σ : St} {m : Bool} {D : Ends}
  {x1 x2 x3 : Expr} {a b c : E} {es : List Expr} {xs : EL} {pos p apos : Pos} {kk : Nat} {K : PySem.W.Frag}
  {tg : Tg} {ik : Ik} {it ts : EL} {elt : E} {own : List (Str × Nat)} {ae atg ai : Expr} {aifs : List Expr} {scope : Scope}
theorem out_res {α β : Type} {R : Wd → Hp → α → β → Prop} {r : Res α} {f : α → Store → Out} (h : OutOk X T cls Ex m D w H (Out.ofRes r f)) : OkG X T cls Ex R w H r fun b H1 => ∃ w1 st1 a, Stp w w1 H H1 ∧ JX X T w1 st1 H1 ∧ R w1 H1 a b ∧ OutOk X T cls Ex m D w1 H1 (f a st1) := by
  cases r with
  | ok a st => exact fun w' H' b s j r => ⟨w', st, a, s, j, r, OutOk.after (.inr s) h⟩
  | exc k st => exact fun w' H' d s j => h w' H' d (.inr s) j
  | bad => exact h
theorem out_nx {env : Env} (h : OutOk X T cls Ex m D w H (.nx env st)) (j : JX X T w st H) (e : EnvR X.K w H env σ) : D.nx σ H := h w H σ (.inr (Stp.refl w H)) j e
/-- behind a value: it is given to the target -/
theorem asg_read {env : Env} (en : EnvR X.K w H env σ) (h : OutOk X T cls Ex m D w H (Out.ofRes (den C φ φ2 a env st) fun v st1 => match assign tg v env with | some env' => .nx env' st1 | none => .bad)) :
    OkV X T cls Ex w H (den C φ φ2 a env st) fun x H1 => GX X T tg x σ H1 D.nx := (out_res (R := RepV X.K) h).imp fun x H1 ⟨w1, st1, rx, s1, j1, r1, h1⟩ => by
  refine ⟨w1, env, st1, rx, j1, en.stp s1, r1, ?_⟩
  cases e : assign tg rx env with
  | none => rw [e] at h1; exact h1.elim
  | some env' =>
    rw [e] at h1
    exact fun σ' en' _ => out_nx h1 j1 en'
def plainAsg (t v : Expr) : Bool :=
  match t, v with
  | .Tuple _ _ _, .Tuple _ _ _ => false
  | .List _ _, _ => false
  | .Starred _ _, _ => false
  | _, _ => true
theorem swapped_no {t v : Expr} (h : plainAsg t v = true) (env : PySem.Env) : swappedStores [t] v env = pure none := by cases t <;> cases v <;> first | rfl | cases h
theorem asgE_one {t v : Expr} (h : plainAsg t v = true) (env : PySem.Env) : (assignEach [t] env).map (·.2) = [PySem.assign t env] := by cases t <;> first | rfl | (cases v <;> cases h)
theorem ps_asgX (he : PE X x1 (TEx X T cls Ex C φ φ2 a)) (hg : PG X atg (GX X T tg)) (hc : notComp x1 = true) (hp : plainAsg atg x1 = true) : PS X (.Assign [atg] x1 pos) (TSx X T cls Ex C φ φ2 m (.asg tg a)) :=
  PS.imp (ps_asg he hg (swap_no hc _ _ _) (swapped_no hp _) (asgE_one hp _)) fun D σ H h => by
    obtain ⟨w, env, st, j, en, h⟩ := h
    rw [exe] at h
    exact ⟨w, env, st, j, en, asg_read en h⟩
/-- name = value -/
theorem ps_setX {i : Nat} {x : Str} (hN : X.N.Nodup) (hi : X.N[i]? = some x) (hx : Loc X.env.scope x) (hf : X.fn x = true ∨ X.env.scope.names.lookup x = some .local) (he : PE X x1 (TEx X T cls Ex C φ φ2 a)) (hs : swapsWith x1 (some (.Name x p)) pos.line X.env = pure false) :
    PS X (.Assign [.Name x p] x1 pos) (TSx X T cls Ex C φ φ2 m (.asg (.nm i) a)) := PS.imp (ps_set hN hi hx he hs hf) fun D σ H h => by
    obtain ⟨w, env, st, j, en, h⟩ := h
    rw [exe] at h
    refine ⟨w, env, st, j, en, (asg_read (tg := .nm i) en h).imp fun x H1 ⟨w1, env1, st1, rx, j1, en1, r1, q⟩ => ?_⟩
    exact q _ (en1.set r1 i) (Dif.one i σ _)
theorem ps_lcX {i : Nat} {y : Str} {py spos : Pos} (hc : X.calm = true) (hN : X.N.Nodup) (hy : X.N[i]? = some y) (hyl : X.env.scope.names.lookup y = some .local) (hsw : swapsWith (.ListComp ae [⟨atg, ai, aifs, 0⟩] scope pos) (some (.Name y py)) spos.line X.env = pure true)
    (hi : PI X atg ai (TIx X T cls Ex C φ φ2 false ik it)) (ok : BlkOk X.N X.env.scope scope own) (B : Blk X T cls C φ φ2 scope atg aifs ae tg ts elt) (hs : notSet ai = true) (hsub : ∀ i ∈ tgSlots tg, i ∈ own.map (·.2)) :
    PS X (.Assign [.Name y py] (.ListComp ae [⟨atg, ai, aifs, 0⟩] scope pos) spos) (TSx X T cls Ex C φ φ2 m (.asg (.nm i) (.lc (own.map (·.2)) tg ik it ts elt))) :=
  PS.imp (ps_un (ps_setLc hc hN hy hyl hsw hi ok B.g B.t B.e (fold_no hs X.env))) fun D σ H h => by
    obtain ⟨w, env, st, j, en, h⟩ := h
    rw [exe] at h
    have h := (asg_read (tg := .nm i) en h).imp fun x H1 ⟨w1, env1, st1, rx, j1, en1, r1, q⟩ => q _ (en1.set r1 i) (Dif.one i σ _)
    rw [den] at h
    exact lc_read hsub j en (fun w1 w3 H1 H4 st3 p vs acc a1 a2 a3 a4 a5 a6 a7 a8 a9 a10 a11 => fin_lc a1 a2 a3 a4 a5 a6 a7 a8 a9 a10 a11) h
theorem ps_mlcX {i : Nat} {y : Str} {py spos : Pos} (hc : X.calm = true) (hN : X.N.Nodup) (hy : X.N[i]? = some y) (hyl : X.env.scope.names.lookup y = some .local) (hsw : swapsWith (.ListComp ae [⟨atg, ai, aifs, 0⟩] scope pos) (some (.Name y py)) spos.line X.env = pure true)
    (hi : PI X atg ai (TIx X T cls Ex C φ φ2 false ik it)) (ok : BlkOk X.N X.env.scope scope own) (B : Blk X T cls C φ φ2 scope atg aifs ae tg ts elt) (hs : notSet ai = true) (hsub : ∀ i ∈ tgSlots tg, i ∈ own.map (·.2)) :
    PS X (.Assign [.Name y py] (.ListComp ae [⟨atg, ai, aifs, 0⟩] scope pos) spos) (TSx X T cls Ex C φ φ2 m (.asg (.nm i) (.mlc (own.map (·.2)) tg ik it ts elt))) :=
  PS.imp (ps_un (ps_setLc hc hN hy hyl hsw hi ok B.g B.t B.e (fold_no hs X.env))) fun D σ H h => by
    obtain ⟨w, env, st, j, en, h⟩ := h
    rw [exe] at h
    have h := (asg_read (tg := .nm i) en h).imp fun x H1 ⟨w1, env1, st1, rx, j1, en1, r1, q⟩ => q _ (en1.set r1 i) (Dif.one i σ _)
    rw [den] at h
    exact lc_read (f := fun ys st => Res.ok (RV.c st.length) (st ++ [Cell.lst ys])) hsub j en (fun w1 w3 H1 H4 st3 p vs acc a1 a2 a3 a4 a5 a6 a7 a8 a9 a10 a11 => fin_mlc a1 a2 a3 a4 a5 a6 a7 a8 a9 a10 a11) h
theorem asg_sub {i : Expr} (h : notSlice i = true) (o : Expr) (p : Pos) (env : PySem.Env) (v : Value) : PySem.assign (.Subscript o i p) env v = (do
      let ov ← holding [v] (eval o env)
      let iv ← holding [v, ov] (eval i env)
      standAt p
      holding [v, ov, iv] (PySem.setItem ov iv v)
      release [v, ov, iv] []) := by cases i <;> first | rfl | cases h
/-- o[i] = v -/
theorem ps_astX {o i v : Expr} {eo ei ev : E} (hu : X.A.units + 80 < cLine) (hv : PE X v (TEx X T cls Ex C φ φ2 ev)) (ho : PE X o (TEx X T cls Ex C φ φ2 eo)) (hi : PE X i (TEx X T cls Ex C φ φ2 ei)) (hc : notComp v = true) (hn : notSlice i = true) :
    PS X (.Assign [.Subscript o i p] v pos) (TSx X T cls Ex C φ φ2 m (.ast eo ei ev)) :=
  PS.imp (ps_asg hv (pg_sub (pos := p) ho hi (setX (T := T) hu) (fun v => asg_sub hn o p X.env v)) (swap_no hc (some (.Subscript o i p)) pos.line X.env) (swapped_no (t := .Subscript o i p) (by cases v <;> rfl) X.env) rfl) fun D σ H h => by
    obtain ⟨w, env, st, j, en, h⟩ := h
    rw [exe] at h
    refine ⟨w, env, st, j, en, (out_res (R := RepV X.K) h).imp fun x H1 ⟨w1, st1, rx, s1, j1, r1, h1⟩ => ?_⟩
    refine ⟨w1, env, st1, j1, en.stp s1, (out_res (R := RepV X.K) h1).imp fun y H2 ⟨w2, st2, ry, s2, j2, r2, h2⟩ => ?_⟩
    refine ⟨w2, env, st2, j2, (en.stp s1).stp s2, (out_res (R := RepV X.K) h2).imp fun z H3 ⟨w3, st3, rz, s3, j3, r3, h3⟩ => ?_⟩
    refine ⟨w3, st3, ry, rz, rx, j3, r2.stp s3, r3, (r1.stp s2).stp s3, ?_⟩
    cases e : setItem st3 ry rz rx with
    | none => rw [e] at h3; exact h3.elim
    | some st4 =>
      rw [e] at h3
      exact fun H' s' j' => h3 w3 H' σ (.inr s') j' ((((en.stp s1).stp s2).stp s3).stp s')
theorem ps_expX (he : PE X x1 (TEx X T cls Ex C φ φ2 a)) (hc : notComp x1 = true) : PS X (.Expr x1 pos) (TSx X T cls Ex C φ φ2 m (.exp a)) := PS.imp (ps_expr he (swap_no hc _ _ _)) fun D σ H h => by
    obtain ⟨w, env, st, j, en, h⟩ := h
    rw [exe] at h
    exact ⟨w, env, st, j, en, (out_res (R := RepV X.K) h).imp fun x H1 ⟨w1, st1, rx, s1, j1, r1, h1⟩ => out_nx h1 j1 (en.stp s1)⟩
theorem ps_retX (he : PE X x1 (TEx X T cls Ex C φ φ2 a)) : PS X (.Return (some x1) pos) (TSx X T cls Ex C φ φ2 m (.ret a)) := PS.imp (ps_ret he) fun D σ H h => by
    obtain ⟨w, env, st, j, en, h⟩ := h
    rw [exe] at h
    exact ⟨w, env, st, j, en, (out_res (R := RepV X.K) h).imp fun x H1 ⟨w1, st1, rx, s1, j1, r1, h1⟩ => h1 w1 H1 x (.inr (Stp.refl w1 H1)) j1 r1⟩
/-- return a, b with lists of its own -/
theorem ps_rttX (h1 : PA X es (TAx X T cls Ex C φ φ2 xs)) (hl : eLen xs ≤ 1000) : PS X (.Return (some (.Tuple es kk apos)) pos) (TSx X T cls Ex C φ φ2 m (.rtt xs)) := PS.imp (ps_ret (pe_tup h1)) fun D σ H h => by
    obtain ⟨w, env, st, j, en, h⟩ := h
    rw [exe] at h
    refine ⟨w, env, st, j, en, ?_⟩
    cases hd : denL C φ φ2 xs env st with
    | bad => rw [hd] at h; exact h.elim
    | exc k st1 => rw [hd] at h; exact fun w' H' d s j => h w' H' d (.inr s) j
    | ok rvs st1 =>
      rw [hd] at h
      intro w1 H1 vs s1 j1 r1
      have hz := reps_size r1 (by rw [den_len _ _ _ _ _ hd]; exact hl)
      refine ⟨hz, fun p hp => ?_⟩
      have s2 : Stp w1 w1 H1 (upd H1 p (.tup vs)) := Stp.fresh hp
      exact h w1 _ p vs (.inr (s1.trans s2)) (j1.fresh hp fun ps z => by cases z) (r1.stp s2) (.inl upd_same) (j1.freshP hp).1 hz
theorem ps_retnX : PS X (.Return none pos) (TSx X T cls Ex C φ φ2 m .retn) := PS.imp ps_retN fun D σ H h => by
    obtain ⟨w, env, st, j, en, h⟩ := h
    rw [exe] at h
    exact h w H .non (.inr (Stp.refl w H)) j (repN w H)
theorem ps_passX : PS X (.Pass pos) (TSx X T cls Ex C φ φ2 m .pass) := PS.imp ps_pass fun D σ H h => by
    obtain ⟨w, env, st, j, en, h⟩ := h
    rw [exe] at h
    exact out_nx h j en
theorem ps_ifX {sa sb : List Stmt} {ia ib : SL} (hc : PT X x1 (TTx X T cls Ex C φ φ2 a)) (ha : PSs X sa (TSSx X T cls Ex C φ φ2 m ia)) (hb : PSs X sb (TSSx X T cls Ex C φ φ2 m ib)) : PS X (.If x1 sa sb pos) (TSx X T cls Ex C φ φ2 m (.ifs a ia ib)) := PS.imp (ps_if hc ha hb) fun D σ H h => by
    obtain ⟨w, env, st, j, en, h⟩ := h
    rw [exe] at h
    refine ⟨w, env, st, j, en, (out_res (R := fun _ _ (a b : Bool) => a = b) h).imp fun k H1 ⟨w1, st1, k', s1, j1, r1, h1⟩ => ?_⟩
    subst r1
    cases k' with
    | true => exact ⟨w1, env, st1, j1, en.stp s1, h1⟩
    | false => exact ⟨w1, env, st1, j1, en.stp s1, h1⟩
/-- a raise: mk tells what is made -/
theorem ps_raiX {k : Nat} (hc : X.calm = true) (tk : Takes X fun c d _ H => Ex c d H) (he : PMk X x1 (fun _ H Q => Q (cls k) none H)) : PS X (.Raise (some x1) none pos) (TSx X T cls Ex C φ φ2 m (.rais k)) := PS.imp (ps_raise hc tk he) fun D σ H h => by
    obtain ⟨w, env, st, j, en, h⟩ := h
    rw [exe] at h
    exact h w H ⟨none, fun _ => rfl⟩ (.inr (Stp.refl w H)) j
theorem pss_nilX : PSs X [] (TSSx X T cls Ex C φ φ2 m .nil) := PSs.imp pss_nil fun D σ H h => by
    obtain ⟨w, env, st, j, en, h⟩ := h
    rw [exes] at h
    exact out_nx h j en
theorem pss_consX {s1 : Stmt} {ss : List Stmt} {i1 : S} {is : SL} (h1 : PS X s1 (TSx X T cls Ex C φ φ2 m i1)) (h2 : PSs X ss (TSSx X T cls Ex C φ φ2 m is)) : PSs X (s1 :: ss) (TSSx X T cls Ex C φ φ2 m (.cons i1 is)) := PSs.imp (pss_cons h1 h2) fun D σ H h => by
    obtain ⟨w, env, st, j, en, h⟩ := h
    rw [exes] at h
    exact ⟨w, env, st, j, en, OutOk.seq h (.inr (Stp.refl w H)) fun w1 H1 σ1 env1 st1 _ s1 j1 en1 h1 => ⟨w1, env1, st1, j1, en1, OutOk.after s1 h1⟩⟩
theorem out_weak {o : Out} (h : OutOk X T cls Ex true D w H o) : OutOk X T cls Ex false D w H o := by
  cases o with
  | nx env st => exact fun w' H' σ' s' => h w' H' σ' (.inl rfl)
  | rt v st => exact fun w' H' x s' => h w' H' x (.inl rfl)
  | rtt vs st => exact fun w' H' a ys s' => h w' H' a ys (.inl rfl)
  | exc k st => exact fun w' H' d s' => h w' H' d (.inl rfl)
  | bad => exact h
theorem ps_weak {s1 : Stmt} {i1 : S} (h : PS X s1 (TSx X T cls Ex C φ φ2 false i1)) : PS X s1 (TSx X T cls Ex C φ φ2 true i1) := PS.imp h fun D σ H ⟨w, env, st, j, en, q⟩ => ⟨w, env, st, j, en, out_weak q⟩
theorem pss_weak {s1 : List Stmt} {i1 : SL} (h : PSs X s1 (TSSx X T cls Ex C φ φ2 false i1)) : PSs X s1 (TSSx X T cls Ex C φ φ2 true i1) := PSs.imp h fun D σ H ⟨w, env, st, j, en, q⟩ => ⟨w, env, st, j, en, out_weak q⟩
end
end DL

-- DSpoil
/-! DSpoil: told lists that are changed afterwards. -/
namespace DL
open PySem L2
section
variable {X : Cx} {T : List (Addr × Str)} {cls : Nat → Value} {Ex : XK} {C : Cfg} {φ φ2 : Phi} {w w0 : Wd} {H H0 : Hp} {st : Store} {v : V} {rv : RV} {pins : List (Addr × Obj)} {s : Shared} {σ : St} {m : Bool} {D : Ends}
  {x1 x2 x3 : Expr} {a b c : E} {es : List Expr} {xs : EL} {pos p apos : Pos} {kk : Nat} {K : PySem.W.Frag} {P : Program} {W : World}
/-! ### what stands becomes old -/
noncomputable def Wd.aged (w : Wd) (H : Hp) : Wd := { w with sb := allHp w H }
theorem aged_ok {g : Gn} {a : Addr} (h : w.ok H g a) (hs : H a ≠ none) (ht : ∀ ps, H a ≠ some (.tbl ps)) : (w.aged H).ok H g.aged a := by
  refine ⟨?_, h.2.1, ?_⟩
  · have q : allHp w H a ≠ none := fun z => by
      rcases allHp_none z with z | ⟨ps, z⟩ | z
      · exact h.2.1.1 z
      · exact ht ps z
      · exact hs z
    cases g with
    | pur => exact h.1.elim
    | new => exact q
    | old => exact q
    | mix => exact q
    | scr => trivial
  · rcases h.2.2 with e | e
    · subst e; exact .inl rfl
    · exact .inr e
mutual
theorem RepD.aged {g : Gn} : ∀ {x : PyData} {v : V}, RepD K H w.free (w.ok H g) x v → RepD K H (w.aged H).free ((w.aged H).ok H g.aged) x v
  | _, _, .non => .non
  | _, _, .bl b => .bl b
  | _, _, .int i => .int i
  | _, _, .str x h => .str x h
  | _, _, .lst h f q hl r => by
    obtain ⟨o, e, t⟩ := Rd.some h (fun ps z => by cases z)
    exact .lst h f (aged_ok q (by rw [e]; simp) fun ps z => t ps (by rw [e] at z; exact Option.some.inj z)) hl (RepL.aged r)
  | _, _, .tup h f hl r => .tup h f hl (RepL.aged r)
  | _, _, .tupK h hc hd hl hv r => .tupK h hc hd hl hv (RepL.aged r)
theorem RepL.aged {g : Gn} : ∀ {xs : List PyData} {vs : List V}, RepL K H w.free (w.ok H g) xs vs → RepL K H (w.aged H).free ((w.aged H).ok H g.aged) xs vs
  | _, _, .nil => .nil
  | _, _, .cons h t => .cons (RepD.aged h) (RepL.aged t)
end
theorem RepV.aged : ∀ {rv : RV} {v : V}, RepV K w H rv v → RepV K (w.aged H) H (rvOld rv) v
  | .d _ _, _, h => RepD.aged h
  | .c _, _, h => h
theorem paired_map {α β : Type} {R : α → β → Prop} {R' : α → β → Prop} {f : α → α} (h : ∀ a b, R a b → R' (f a) b) {l : List α} {l' : List β} (q : Paired R l l') : Paired R' (l.map f) l' := by
  induction q with
  | nil => exact .nil
  | cons r _ ih => exact .cons (h _ _ r) ih
theorem cellAged {a : Addr} {c : Cell} (h : CellOk P W K w H a c) : CellOk P W K (w.aged H) H a (cellOld c) := by
  cases c with
  | lst xs => obtain ⟨vs, h1, h2, h3⟩ := h; exact ⟨vs, h1, paired_map (fun _ _ r => r.aged) h2, h3⟩
  | dic lk kvs => obtain ⟨es, h1, h0, h2, h3⟩ := h; exact ⟨es, h1, h0, paired_map (fun _ _ r => ⟨r.1, r.2.1, RepD.aged r.2.2.1, r.2.2.2.aged⟩) h2, h3⟩
  | sd kvs => obtain ⟨vs, h1, h2⟩ := h; exact ⟨vs, h1, paired_map (fun _ _ r => ⟨r.1, r.2.aged⟩) h2⟩
  | obj k fs => obtain ⟨h0, C, dx, vs, h1, h2, h3⟩ := h; exact ⟨h0, C, dx, vs, h1, h2, paired_map (fun _ _ r => ⟨r.1, r.2.aged⟩) h3⟩
  | gone => exact h
theorem J.aged (j : J P W K T w st H) : J P W K T (w.aged H) (st.map cellOld) H where
  len := by rw [List.length_map]; exact j.len
  nd := j.nd
  apart := j.apart
  sb := fun b o h => (allHp_some h).1
  sbf := fun a ha => by
    cases h : (w.aged H).sb a with
    | none => rfl
    | some o => exact absurd ha (allHp_some h).2.1
  sbt := fun b ps h => by
    cases e : (w.aged H).sb b with
    | none => rfl
    | some o =>
      obtain ⟨h1, _, h2⟩ := allHp_some e
      rw [h] at h1
      cases h1
      exact absurd rfl (h2 ps)
  nos := j.nos
  cell := fun n a c h1 h2 => by
    rw [List.getElem?_map] at h2
    obtain ⟨d, e, rfl⟩ := Option.map_eq_some_iff.mp h2
    exact cellAged (j.cell n a d h1 e)
  tabs := j.tabs
theorem EnvR.aged {env : Env} (h : EnvR K w H env σ) : EnvR K (w.aged H) H (env.map fun o => o.map rvOld) σ := ⟨by rw [List.length_map]; exact h.len, fun i rv e => by
  rw [List.getElem?_map] at e
  obtain ⟨o, e1, e2⟩ := Option.map_eq_some_iff.mp e
  obtain ⟨rv', rfl, rfl⟩ := Option.map_eq_some_iff.mp e2
  obtain ⟨v, e3, r⟩ := h.at_ i rv' e1
  exact ⟨v, e3, r.aged⟩⟩
theorem out_free {o : Out} {w1 : Wd} {H1 : Hp} (h : OutOk X T cls Ex true D w H o) : OutOk X T cls Ex true D w1 H1 o := by
  cases o with
  | nx env st => exact fun w' H' σ' _ => h w' H' σ' (.inl rfl)
  | rt v st => exact fun w' H' x _ => h w' H' x (.inl rfl)
  | rtt vs st => exact fun w' H' a ys _ => h w' H' a ys (.inl rfl)
  | exc k st => exact fun w' H' d _ => h w' H' d (.inl rfl)
  | bad => exact h
theorem ps_prmX {s1 : Stmt} {i1 : S} (h : PS X s1 (TSx X T cls Ex C φ φ2 true i1)) : PS X s1 (TSx X T cls Ex C φ φ2 true (.prm i1)) := PS.imp h fun D σ H ⟨w, env, st, j, en, q⟩ => by
  rw [exe] at q
  exact ⟨w.aged H, _, _, j.aged, en.aged, out_free q⟩
/-! ### a new list is changed -/
mutual
theorem RepD.spoil {q : Addr} {o : HO} {u : List V} (hq : H q = some (.lst u)) {g : Gn} (hg : ∀ a, okG w g a → a ≠ q) : ∀ {x : PyData} {v : V}, RepD K H w.free (w.ok H g) x v → RepD K (upd H q o) w.free (w.ok (upd H q o) g) x v
  | _, _, .non => .non
  | _, _, .bl b => .bl b
  | _, _, .int i => .int i
  | _, _, .str x h => .str x h
  | _, _, .lst h f p hl r => by
    have ne := hg _ p.1
    refine .lst ?_ f ⟨p.1, p.2.1, p.2.2.imp id fun ⟨u, e⟩ => ⟨u, by rw [upd_ne ne]; exact e⟩⟩ hl (RepL.spoil hq hg r)
    unfold Rd at h ⊢
    rw [upd_ne ne]
    exact h
  | _, _, .tup h f hl r => by
    refine .tup ?_ f hl (RepL.spoil hq hg r)
    unfold Rd at h ⊢
    rw [upd_ne (fun z => by subst z; rcases h with h | ⟨o, h⟩ <;> rw [hq] at h <;> cases h)]
    exact h
  | _, _, .tupK h hc hd hl hv r => .tupK h hc hd hl hv (RepL.spoil hq hg r)
theorem RepL.spoil {q : Addr} {o : HO} {u : List V} (hq : H q = some (.lst u)) {g : Gn} (hg : ∀ a, okG w g a → a ≠ q) : ∀ {xs : List PyData} {vs : List V}, RepL K H w.free (w.ok H g) xs vs → RepL K (upd H q o) w.free (w.ok (upd H q o) g) xs vs
  | _, _, .nil => .nil
  | _, _, .cons h t => .cons (RepD.spoil hq hg h) (RepL.spoil hq hg t)
end
theorem RepV.spoil {q : Addr} {o : HO} {u : List V} (hq : H q = some (.lst u)) (hs : w.sb q = none) : ∀ {rv : RV} {v : V}, oldOnly rv = true → RepV K w H rv v → RepV K w (upd H q o) rv v
  | .d .pur _, _, _, h => RepD.spoil hq (g := .pur) (fun a (z : False) => z.elim) h
  | .d .old _, _, _, h => RepD.spoil hq (g := .old) (fun a (z : w.sb a ≠ none) e => z (by rw [e]; exact hs)) h
  | .c _, _, _, h => h
  | .d .new _, _, e, _ => by cases e
  | .d .mix _, _, e, _ => by cases e
  | .d .scr _, _, e, _ => by cases e
theorem paired_all {α β : Type} {R R' : α → β → Prop} {f : α → Bool} (h : ∀ a b, f a = true → R a b → R' a b) {l : List α} {l' : List β} (ha : l.all f = true) (q : Paired R l l') : Paired R' l l' := by
  induction q with
  | nil => exact .nil
  | cons r _ ih =>
    simp only [List.all_cons, Bool.and_eq_true] at ha
    exact .cons (h _ _ ha.1 r) (ih ha.2)
theorem cellSpoil {q : Addr} {o : HO} {u : List V} (hq : H q = some (.lst u)) (hs : w.sb q = none) {a : Addr} (ha : a ≠ q) {c : Cell} (h : CellOk P W K w H a c) : CellOk P W K w (upd H q o) a (if cellKeeps c = true then c else .gone) := by
  have e : upd H q o a = H a := upd_ne ha
  split
  · rename_i hk
    cases c with
    | lst xs => obtain ⟨vs, h1, h2, h3⟩ := h; exact ⟨vs, e.trans h1, paired_all (fun _ _ k r => r.spoil hq hs k) hk h2, h3⟩
    | dic lk kvs => obtain ⟨es, h1, h0, h2, h3⟩ := h; exact ⟨es, h1.at_ e, h0, paired_all (fun _ _ k r => ⟨r.1, r.2.1, RepD.spoil hq (g := .pur) (fun a (z : False) => z.elim) r.2.2.1, r.2.2.2.spoil hq hs k⟩) hk h2, h3⟩
    | sd kvs => obtain ⟨vs, h1, h2⟩ := h; exact ⟨vs, e.trans h1, paired_all (fun _ _ k r => ⟨r.1, r.2.spoil hq hs k⟩) hk h2⟩
    | obj k fs => obtain ⟨h0, C, dx, vs, h1, h2, h3⟩ := h; exact ⟨h0, C, dx, vs, h1, e.trans h2, paired_all (fun _ _ k r => ⟨r.1, r.2.spoil hq hs k⟩) hk h3⟩
    | gone => obtain ⟨u, h1, h2⟩ := h; exact ⟨u, e.trans h1, h2⟩
  · obtain ⟨u, h1, h2⟩ := h.ho
    exact ⟨u, e.trans h1, h2⟩
theorem J.spoil {q : Addr} {u us : List V} (j : J P W K T w st H) (hq : H q = some (.lst u)) (hs : w.sb q = none) (hf : w.free q) : J P W K T w (spoilSt st) (upd H q (.lst us)) where
  len := by unfold spoilSt; rw [List.length_map]; exact j.len
  nd := j.nd
  apart := j.apart
  sb := fun b o h => by rw [upd_ne (fun z => by rw [z, hs] at h; cases h)]; exact j.sb b o h
  sbf := j.sbf
  sbt := fun b ps h => by
    by_cases z : b = q
    · rw [z, upd_same] at h; cases h
    · rw [upd_ne z] at h; exact j.sbt b ps h
  nos := fun a ha => by
    have ne : a ≠ q := fun z => hf.2 (z ▸ ha)
    obtain ⟨o', e, t⟩ := j.nos a ha
    exact ⟨o', by rw [upd_ne ne]; exact e, t⟩
  cell := fun n a c h1 h2 => by
    unfold spoilSt at h2
    rw [List.getElem?_map] at h2
    obtain ⟨d, e, rfl⟩ := Option.map_eq_some_iff.mp h2
    exact cellSpoil hq hs (fun z => hf.1 (z ▸ List.mem_of_getElem? h1)) (j.cell n a d h1 e)
  tabs := tabs_upd j.tabs (fun ps z => by rw [hq] at z; cases z) fun p z => by rw [hq] at z; unfold LamX.CodeO at z; cases z
theorem EnvR.spoil {q : Addr} {o : HO} {u : List V} {env : Env} (h : EnvR K w H env σ) (hq : H q = some (.lst u)) (hs : w.sb q = none) : EnvR K w (upd H q o) (spoilEnv env) σ := ⟨by unfold spoilEnv; rw [List.length_map]; exact h.len, fun i rv e => by
  unfold spoilEnv at e
  rw [List.getElem?_map] at e
  obtain ⟨ov, e1, e2⟩ := Option.map_eq_some_iff.mp e
  cases ov with
  | none => cases e2
  | some rv' =>
    simp only [Option.bind_some] at e2
    split at e2
    · rename_i hk
      cases e2
      obtain ⟨v, e3, r⟩ := h.at_ i _ e1
      exact ⟨v, e3, r.spoil hq hs hk⟩
    · cases e2⟩
theorem spo_view (r : RepV K w H rv v) (h : spoOk rv = true) : ∃ q us, v = .ref q ∧ H q = some (.lst us) ∧ w.sb q = none ∧ w.free q ∧ us.length < sizeLine := by
  unfold spoOk at h
  split at h
  · rename_i xs
    obtain ⟨q, us, rfl, hr, f, p, hl, rl⟩ := RepD.list r
    rcases p.2.2 with z | ⟨u, z⟩
    · cases z
    · rcases hr with hr | ⟨o, hr⟩
      · exact ⟨q, us, rfl, hr, p.1, f, by rw [← RepL.length rl, ← lim_eq]; exact of_decide_eq_true h⟩
      · rw [z] at hr; cases hr
  · cases h
theorem ps_spoX {o : Expr} {eo : E} (ho : PE X o (TEx X T cls Ex C φ φ2 eo)) (ha : PA X [x1] (TAx X T cls Ex C φ φ2 xs)) (hx : eLen xs = 1) (hb : notCall o = true) (hl : (apos.endLine == p.line) = true) (hs : notStar x1 = true) :
    PS X (.Expr (.Call (.Attribute o (Str.ofString "append") apos) [x1] [] p) pos) (TSx X T cls Ex C φ φ2 true (.spo eo xs)) := by
  have hfew : ((backTo p (starEach [x1] X.env)).all (fun x => !x.1) && (backToKw p (keywordEach [] X.env)).all (fun x => x.1.isSome) && decide (([x1] : List Expr).length + ([] : List Keyword).length + (if ([] : List Keyword).isEmpty then 0 else 1) < 30)) = true := by
    rw [star_all X.env [x1] (by simp [hs])]
    rfl
  have hP := pe_bm (apos := apos) (cpos := p) PySem.F.plainAttrs_list PySem.F.slot_list_append PySem.F.type_list_append mt_append ho ha (base_no hb _ X.env _) hfew hl (star_cons hs [] X.env) rfl
  refine PS.imp (ps_expr hP (swap_no rfl _ _ _)) fun D σ H h => ?_
  obtain ⟨w, env, st, j, en, h⟩ := h
  rw [exe] at h
  refine ⟨w, env, st, j, en, (out_res (R := RepV X.K) h).imp fun x H1 ⟨w1, st1, rx, s1, j1, r1, h1⟩ => ?_⟩
  split at h1
  rotate_left
  · exact h1.elim
  rename_i hok
  obtain ⟨q, us, rfl, hq, hsb, hf, hz⟩ := spo_view r1 hok
  refine ⟨.inl ⟨rfl, us, SqL.of hq⟩, w1, env, st1, j1, en.stp s1, ?_⟩
  cases hd : denL C φ φ2 xs env st1 with
  | bad => rw [hd] at h1; exact h1.elim
  | exc k st2 => rw [hd] at h1; exact fun w' H' d s j => h1 w' H' d (.inr s) j
  | ok rvs st2 =>
    rw [hd] at h1
    intro w2 H2 ys s2 j2 r2
    have hl1 : rvs.length = 1 := by rw [den_len _ _ _ _ _ hd]; exact hx
    obtain ⟨rv1, rfl⟩ := List.length_eq_one_iff.mp hl1
    obtain ⟨y, rfl, _⟩ := RepVs.one r2
    obtain ⟨q', us', e', hq', hsb', hf', hz'⟩ := spo_view (r1.stp s2) hok
    cases e'
    refine ⟨q, us', y, rfl, rfl, hq', hz', ?_⟩
    exact h1 w2 _ σ (.inl rfl) (j2.spoil hq' hsb' hf') (((en.stp s1).stp s2).spoil hq' hsb')
end
end DL

-- DRule5
/-! DRule5: names, constants, calls of defs, list(x) as a cell. -/
namespace DL
open PySem L2
/-- a def's promise, told by its meaning f -/
def OkR (P : Program) (W : World) (K : PySem.W.Frag) (T : List (Addr × Str)) (cls : Nat → Value) (Ex : XK) (w : Wd) (H : Hp) (r : Res RV) (Q : VK) : Prop :=
  match r with
  | .ok a st' => ∀ w' H' b, Stp w w' H H' → J P W K T w' st' H' → RepV K w' H' a b → Q b H'
  | .exc k st' => ∀ w' H' (d : Dx k), Stp w w' H H' → J P W K T w' st' H' → Ex (cls k) d.1 H'
  | .bad => False
def spF (P : Program) (W : World) (K : PySem.W.Frag) (T : List (Addr × Str)) (cls : Nat → Value) (np : Nat) (f : List RV → Store → Res RV) : Sp := fun vs H Q E => ∃ w st rvs, J P W K T w st H ∧ RepVs K w H rvs vs ∧ rvs.length = np ∧ OkR P W K T cls E w H (f rvs st) Q
section
variable {X : Cx} {T : List (Addr × Str)} {cls : Nat → Value} {Ex : XK} {C : Cfg} {φ φ2 : Phi} {w w0 : Wd} {H H0 : Hp} {st : Store} {v : V} {rv : RV} {pins : List (Addr × Obj)} {s : Shared} {σ : St} {m : Bool} {D : Ends}
  {x1 x2 x3 : Expr} {a b c : E} {es : List Expr} {xs : EL} {pos p apos : Pos} {kk : Nat} {K : PySem.W.Frag} {P : Program} {W : World}
theorem okR_of {r : Res RV} {Q : VK} (h : OkV X T cls Ex w H r Q) : OkR X.prog X.w X.K T cls Ex w H r Q := by cases r <;> exact h
theorem okV_of {r : Res RV} {Q : VK} (h : OkR X.prog X.w X.K T cls Ex w H r Q) : OkV X T cls Ex w H r Q := by cases r <;> exact h
theorem J.extN {H1 : Hp} (j : J P W K T w st H) (e : LamX.ExtN H H1) (t : LamX.Tabs T H1) : Stp w w H H1 ∧ J P W K T w st H1 := by
  have hn : ∀ b ps, H1 b = some (.tbl ps) → ∀ o, H b = some o → ∃ ps', o = .tbl ps' := fun b ps h o h' => by
    cases o with
    | tbl ps' => exact ⟨ps', rfl⟩
    | _ => rw [e b _ h' fun ps z => by cases z] at h; cases h
  have s : Stp w w H H1 := ⟨rfl, ⟨[], by simp, by simp⟩, ⟨[], by simp, by simp⟩, fun b o h _ t => e b o h t, fun b ⟨o, h, t⟩ => ⟨o, e b o h t, t⟩, fun b o u h => e b _ h fun ps z => by cases z⟩
  refine ⟨s, ⟨j.len, j.nd, j.apart, fun b o h => ?_, j.sbf, fun b ps h => ?_, fun a ha => s.dom a (j.nos a ha), fun n a c h1 h2 => ?_, t⟩⟩
  · have q := j.sb b o h
    exact e b o q fun ps z => by subst z; rw [j.sbt b ps q] at h; cases h
  · cases hb : w.sb b with
    | none => rfl
    | some o =>
      obtain ⟨ps', z⟩ := hn b ps h o (j.sb b o hb)
      subst z
      rw [j.sbt b ps' (j.sb b _ hb)] at hb
      cases hb
  · have q := j.cell n a c h1 h2
    obtain ⟨u, hu, hh⟩ := q.ho
    exact q.stp s (by rw [hu]; exact e a u hu hh.ntbl)
/-! ### constants -/
def cstIs : PyData → Const → Bool
  | .none, .none => true
  | .bool b, .bool c => decide (b = c)
  | .int i, .int j => decide (i = j)
  | .str x, .str y => decide (x = y) && PyData.strOk x
  | _, _ => false
theorem pe_cstX {d : PyData} {k : Const} (h : cstIs d k = true) : PE X (.Constant k kk pos) (TEx X T cls Ex C φ φ2 (.cst d)) := by
  cases d <;> cases k <;> simp only [cstIs, Bool.and_eq_true, decide_eq_true_eq, reduceCtorEq] at h
  · exact PE.imp pe_non fun σ H Q q => tex_cst q fun w => RepD.non
  · subst h
    exact PE.imp pe_bl fun σ H Q q => tex_cst q fun w => RepD.bl _
  · subst h
    exact PE.imp pe_int fun σ H Q q => tex_cst q fun w => RepD.int _
  · obtain ⟨rfl, h⟩ := h
    exact PE.imp pe_str fun σ H Q q => tex_cst q fun w => RepD.str _ h
/-! ### a def called -/
theorem pe_callX {f : Nat} {np k : Nat} {x : Str} {fa : Addr} {fd : FuncData} {ps : List Str} (F : FnOk X.prog X.w X.K X.mg X.base (L2.CX X.prog X.w) k fa fd ps (spF X.prog X.w X.K T cls np (φ f))) (hr : Room k X.A) (hg : Gl X x) (hm : X.mg x = some (.ref fa))
    (hk : PySem.W.keepIn X.K (.ref fa) = true) (hb : L2.Binds X.K fd ps []) (hx : Passes (L2.CX X.prog X.w) X Ex) (ha : PA X (x1 :: es) (TAx X T cls Ex C φ φ2 xs)) (hl : eLen xs = np) (hs : (x1 :: es).all notStar = true) (hd : (x == ("__debug__" : Str)) = false) :
    PE X (.Call (.Name x p) (x1 :: es) [] pos) (TEx X T cls Ex C φ φ2 (.call f xs)) := by
  simp only [List.all_cons, Bool.and_eq_true] at hs
  refine PE.imp (pe_call F hr hg hm hk hb .nil hx ha hd (star_cons hs.1 es X.env) (star_any X.env es hs.2)) fun σ H Q h => ?_
  obtain ⟨w, env, st, j, en, h⟩ := h
  rw [den] at h
  refine ⟨w, env, st, j, en, ?_⟩
  cases hden : denL C φ φ2 xs env st with
  | bad => rw [hden] at h; exact h.elim
  | exc k st1 => rw [hden] at h; exact h
  | ok rvs st1 =>
    rw [hden] at h
    intro w1 H1 vs s1 j1 r1
    obtain ⟨w0, s0, as, j0, ra, el, h0⟩ := callF_ok j1 r1 (OkG.after s1 h)
    refine ⟨w0, s0, as, j0, by rw [List.append_nil]; exact ra, by rw [el, den_len _ _ _ _ _ hden]; exact hl, okR_of h0⟩
/-! ### list(x) that is changed afterwards -/
theorem pe_mblX (hg : Gl X "list") (hm : X.mg "list" = none) (h1 : PA X [x1] (TAx X T cls Ex C φ φ2 (oneE a))) (hs : notStar x1 = true) : PE X (.Call (.Name "list" p) [x1] [] pos) (TEx X T cls Ex C φ φ2 (.mbl .list (oneE a))) :=
  PE.imp (pe_callTy call_list_of hg hm (by decide +kernel) h1 (by decide) (by decide) (star_cons hs [] X.env) rfl) fun σ H Q h => by
    obtain ⟨w, env, st, j, en, h⟩ := h
    rw [den] at h
    refine ⟨w, env, st, j, en, (OkG.bind (R := RepVs X.K) h).imp fun ys H1 ⟨w1, st1, rvs, s1, j1, r1, h1⟩ => ?_⟩
    split at h1
    · rename_i rv
      split at h1
      · rename_i items hi
        obtain ⟨y, rfl, ry⟩ := RepVs.one r1
        obtain ⟨q, vs, rfl, hq, rvs, hz⟩ := seq_view j1 ry hi
        exact ⟨q, vs, rfl, hq, fun l hl => new_cell j1 h1 hl (fun ps z => by cases z) ⟨vs, upd_same, rvs.stp (Stp.add hl), hz⟩⟩
      · exact h1.elim
    · exact h1.elim
end
end DL

-- DObj
/-! DObj: objects of the text's one class: attributes, methods, new ones. -/
namespace DL
open PySem L2
section
variable {X : Cx} {T : List (Addr × Str)} {cls : Nat → Value} {Ex : XK} {C : Cfg} {φ φ2 : Phi} {w w0 : Wd} {H H0 : Hp} {st : Store} {v : V} {rv : RV} {pins : List (Addr × Obj)} {s : Shared} {σ : St} {m : Bool} {D : Ends}
  {x1 x2 x3 : Expr} {a b c : E} {es : List Expr} {xs : EL} {pos p apos : Pos} {kk : Nat} {K : PySem.W.Frag} {P : Program} {W : World} {Ca : Addr} {f mn : Str}
/-- what may stand ahead of a dot: no call without arguments -/
def notCall0 : Expr → Bool
  | .Call _ [] _ _ => false
  | _ => true
theorem base_no0 {e : Expr} (h : notCall0 e = true) (m : Str) (env : PySem.Env) (x : Sem Value) : attributeBase e m env x = x := by
  unfold notCall0 at h
  split at h
  · cases h
  · rename_i q
    unfold attributeBase
    split
    · rename_i id _ _
      exact absurd rfl (q _ _ _)
    · rfl
theorem paired_lookup {R : RV → V → Prop} : ∀ {fs : List (Str × RV)} {vs : List (Str × V)}, Paired (fun (p : Str × RV) (q : Str × V) => p.1 = q.1 ∧ R p.2 q.2) fs vs → ∀ f, match fs.lookup f with
    | some rv => ∃ v, vs.lookup f = some v ∧ R rv v
    | none => vs.lookup f = none
  | [], _, .nil, f => rfl
  | (g, rv) :: fs, (g', v) :: vs, .cons h t, f => by
    obtain ⟨h1, h2⟩ := h
    simp only at h1 h2
    subst h1
    rw [List.lookup_cons, List.lookup_cons]
    by_cases e : (f == g) = true
    · rw [e]
      exact ⟨v, rfl, h2⟩
    · have e2 : (f == g) = false := by simpa using e
      rw [e2]
      exact paired_lookup t f
theorem paired_put {R : RV → V → Prop} {rv : RV} {v : V} {f : Str} (h : R rv v) : ∀ {fs : List (Str × RV)} {vs : List (Str × V)}, Paired (fun (p : Str × RV) (q : Str × V) => p.1 = q.1 ∧ R p.2 q.2) fs vs → Paired (fun (p : Str × RV) (q : Str × V) => p.1 = q.1 ∧ R p.2 q.2) (putA f rv fs) (putF f v vs)
  | [], _, .nil => .cons ⟨rfl, h⟩ .nil
  | (g, y) :: fs, (g', z) :: vs, .cons q t => by
    obtain ⟨h1, h2⟩ := q
    simp only at h1 h2
    subst h1
    show Paired _ (if g = f then (g, rv) :: fs else (g, y) :: putA f rv fs) (if g = f then (g, v) :: vs else (g, z) :: putF f v vs)
    split
    · exact .cons ⟨rfl, h⟩ t
    · exact .cons ⟨rfl, h2⟩ (paired_put h t)
/-- the object at that cell -/
theorem obj_at (j : JX X T w st H) {n : Nat} {fs : List (Str × RV)} (hn : st[n]? = some (.obj 0 fs)) (r : RepV X.K w H (.c n) v) (hC : PySem.W.nsIn X.K mainGlobals clsNm = some (some (.ref Ca))) : ∃ a dx vs, w.ad[n]? = some a ∧ v = .ref a ∧ H a = some (.ins Ca dx vs) ∧ Paired (fun (p : Str × RV) (q : Str × V) => p.1 = q.1 ∧ RepV X.K w H p.2 q.2) fs vs := by
  obtain ⟨a, ea, rfl, h0, C, dx, vs, h1, h2, h3⟩ := atCell j r hn
  rw [hC] at h1
  cases h1
  exact ⟨a, dx, vs, ea, rfl, h2, h3⟩
/-- o.f -/
theorem pe_fldX {o : Expr} {eo : E} (hC : PySem.W.nsIn X.K mainGlobals clsNm = some (some (.ref Ca))) (hc : Cls X.K Ca) (hn : NoAttr X.K Ca f) (ho : PE X o (TEx X T cls Ex C φ φ2 eo)) (hb : notCall0 o = true) : PE X (.Attribute o f pos) (TEx X T cls Ex C φ φ2 (.fld eo f)) :=
  PE.imp (pe_fld ho (base_no0 hb f X.env _)) fun σ H Q h => by
    obtain ⟨w, env, st, j, en, h⟩ := h
    rw [den] at h
    refine ⟨w, env, st, j, en, (OkG.bind (R := RepV X.K) h).imp fun x H1 ⟨w1, st1, rx, s1, j1, r1, h1⟩ => ?_⟩
    unfold fldOf at h1
    split at h1
    · rename_i n
      split at h1
      · rename_i fs hs
        obtain ⟨a, dx, vs, ea, rfl, h2, h3⟩ := obj_at j1 hs r1 hC
        have q := paired_lookup h3 f
        cases e : fs.lookup f with
        | none => rw [e] at h1; exact h1.elim
        | some rv =>
          rw [e] at h1 q
          obtain ⟨v, e2, r2⟩ := q
          exact ⟨a, Ca, dx, vs, v, rfl, h2, hc, hn, e2, OkG.ret (show OkV X T cls Ex w1 H1 (.ok rv st1) Q from h1) j1 r2⟩
      · exact h1.elim
    · exact h1.elim
/-- o.f = e -/
theorem ps_sfldX {o : Expr} {eo e : E} {p2 : Pos} (hC : PySem.W.nsIn X.K mainGlobals clsNm = some (some (.ref Ca))) (hc : Cls X.K Ca) (hn : NoAttr X.K Ca f) (ho : PE X o (TEx X T cls Ex C φ φ2 eo)) (he : PE X x1 (TEx X T cls Ex C φ φ2 e)) (hs : notComp x1 = true) : PS X (.Assign [.Attribute o f p2] x1 pos) (TSx X T cls Ex C φ φ2 m (.sfld eo f e)) :=
  PS.imp (ps_fld ho he (swap_no hs _ _ _)) fun D σ H h => by
    obtain ⟨w, env, st, j, en, h⟩ := h
    rw [exe] at h
    refine ⟨w, env, st, j, en, (out_res (R := RepV X.K) h).imp fun y H1 ⟨w1, st1, ry, s1, j1, r1, h1⟩ => ?_⟩
    refine ⟨w1, env, st1, j1, en.stp s1, (out_res (R := RepV X.K) h1).imp fun x H2 ⟨w2, st2, rx, s2, j2, r2, h2⟩ => ?_⟩
    unfold setFld at h2
    cases rx with
    | d g x => exact h2.elim
    | c n =>
      simp only at h2
      split at h2
      case h_2 => exact h2.elim
      rename_i st3 e3
      split at e3
      case h_2 => cases e3
      rename_i fs hs
      split at e3
      case isFalse => cases e3
      rename_i hl
      cases e3
      obtain ⟨a, dx, vs, ea, rfl, q2, q3⟩ := obj_at j2 hs r2 hC
      have hp : a ∈ w2.ad := List.mem_of_getElem? ea
      have hmut : Mut (H2 a) := by rw [q2]; trivial
      have s' : Stp w2 w2 H2 (upd H2 a (.ins Ca dx (putF f y vs))) := Stp.put hp hmut
      refine ⟨a, Ca, dx, vs, rfl, q2, hc, hn, by rw [← q3.length]; exact hl, ?_⟩
      refine h2 w2 _ σ (.inr s') (j2.put ea hmut (fun ps z => by cases z) ⟨rfl, Ca, dx, _, hC, upd_same, ?_⟩) (((en.stp s1).stp s2).stp s')
      exact (paired_put (r1.stp s2) q3).mono fun _ _ r => ⟨r.1, r.2.stp s'⟩
/-- the text of o.m(..) -/
theorem meth_eq {o e : Expr} (hb : notCall0 o = true) (hl : (apos.endLine == pos.line) = true) (hs : (e :: es).all notStar = true) (hn : (e :: es).length < 20) (env : PySem.Env) : eval (.Call (.Attribute o mn apos) (e :: es) [] pos) env = (do
      let ov ← eval o env
      standAt apos.atName
      let (f, first) ← holding [ov] (getMethod ov mn (do return (← importBound o env).getD true))
      callWith pos f first (backTo pos (starEach (e :: es) env)) (backToKw pos (keywordEach [] env))) := by
  have hform : methodCallForm ((e :: es).length + ([] : List Keyword).length) (backTo pos (starEach (e :: es) env)) (backToKw pos (keywordEach [] env)) = true := by
    unfold methodCallForm
    rw [star_all env (e :: es) hs, Bool.true_and]
    show (true && decide ((e :: es).length + 0 + 0 < 30)) = true
    rw [Bool.true_and]
    exact decide_eq_true (by omega)
  have hpos : methodCallPos true o env apos pos = pure pos := by unfold methodCallPos; simp [hl]
  rw [arm_eval_Call, base_no0 hb]
  refine congrArg (fun k => eval o env >>= k) (funext fun ov => ?_)
  refine congrArg (fun k => standAt apos.atName >>= k) (funext fun _ => ?_)
  unfold methodCall
  rw [hform, hpos]
  rfl
/-- o.m(..) -/
theorem pe_methX {o : Expr} {eo : E} {f np k : Nat} {fa : Addr} {fd : FuncData} {ps : List Str} (hC : PySem.W.nsIn X.K mainGlobals clsNm = some (some (.ref Ca))) (hc : Cls X.K Ca) (hm : Meth X.K Ca mn fa) (F : FnOk X.prog X.w X.K X.mg X.base (L2.CX X.prog X.w) k fa fd ps (spF X.prog X.w X.K T cls np (φ f))) (hr : Room k X.A)
    (hB : L2.Binds X.K fd ps []) (hx : Passes (L2.CX X.prog X.w) X Ex) (ho : PE X o (TEx X T cls Ex C φ φ2 eo)) (ha : PA X (x1 :: es) (TAx X T cls Ex C φ φ2 xs)) (hl : eLen xs + 1 = np) (hb : notCall0 o = true) (hp : (apos.endLine == pos.line) = true) (hs : (x1 :: es).all notStar = true) (hn : (x1 :: es).length < 20) :
    PE X (.Call (.Attribute o mn apos) (x1 :: es) [] pos) (TEx X T cls Ex C φ φ2 (.meth f mn eo xs)) := by
  have hs' := hs
  simp only [List.all_cons, Bool.and_eq_true] at hs'
  refine PE.imp (pe_meth ho hc hm F hr hB .nil hx ha (star_cons hs'.1 es X.env) (star_any X.env es hs'.2) (meth_eq hb hp hs hn X.env)) fun σ H Q h => ?_
  obtain ⟨w, env, st, j, en, h⟩ := h
  rw [den] at h
  refine ⟨w, env, st, j, en, (OkG.bind (R := RepV X.K) h).imp fun x H1 ⟨w1, st1, rx, s1, j1, r1, h1⟩ => ?_⟩
  split at h1
  case isFalse => exact h1.elim
  rename_i ho
  unfold isObj at ho
  cases rx with
  | d g x => cases ho
  | c n =>
    simp only at ho
    split at ho
    case h_2 => cases ho
    rename_i fs hfs
    obtain ⟨a, dx, vs, ea, rfl, q2, q3⟩ := obj_at j1 hfs r1 hC
    have q := paired_lookup q3 mn
    rw [Option.isNone_iff_eq_none.mp ho] at q
    refine ⟨a, dx, vs, rfl, q2, q, w1, env, st1, j1, en.stp s1, ?_⟩
    cases hden : denL C φ φ2 xs env st1 with
    | bad => rw [hden] at h1; exact h1.elim
    | exc k st2 => rw [hden] at h1; exact h1
    | ok rvs st2 =>
      rw [hden] at h1
      intro w2 H2 us s2 j2 r2
      obtain ⟨w0, s0, as, j0, ra, el, h0⟩ := callF_ok j2 (.cons (r1.stp s2) r2) (OkG.after s2 h1)
      refine ⟨w0, s0, as, j0, by rw [List.append_nil]; exact ra, ?_, okR_of h0⟩
      rw [el, List.length_cons, den_len _ _ _ _ _ hden]
      exact hl
/-- C(..) -/
theorem pe_mkX {f np k : Nat} {x : Str} {fa : Addr} {fd : FuncData} {ps : List Str} (hC : PySem.W.nsIn X.K mainGlobals clsNm = some (some (.ref Ca))) (M : Mk X.K Ca fa) (F : FnOk X.prog X.w X.K X.mg X.base (L2.CX X.prog X.w) k fa fd ps (spF X.prog X.w X.K T cls np (φ f))) (hr : Room (k + 1) X.A) (hg : Gl X x) (hm : X.mg x = some (.ref Ca))
    (hB : L2.Binds X.K fd ps []) (hx : Passes (L2.CX X.prog X.w) X Ex) (ha : PA X (x1 :: es) (TAx X T cls Ex C φ φ2 xs)) (hl : eLen xs + 1 = np) (hs : (x1 :: es).all notStar = true) (hd : (x == ("__debug__" : Str)) = false) :
    PE X (.Call (.Name x p) (x1 :: es) [] pos) (TEx X T cls Ex C φ φ2 (.mk f xs)) := by
  simp only [List.all_cons, Bool.and_eq_true] at hs
  refine PE.imp (pe_make M F hr hg hm hB .nil hx ha hd (star_cons hs.1 es X.env) (star_any X.env es hs.2)) fun σ H Q h => ?_
  obtain ⟨w, env, st, j, en, h⟩ := h
  rw [den] at h
  refine ⟨w, env, st, j, en, ?_⟩
  cases hden : denL C φ φ2 xs env st with
  | bad => rw [hden] at h; exact h.elim
  | exc k st1 => rw [hden] at h; exact h
  | ok rvs st1 =>
    rw [hden] at h
    intro w1 H1 vs s1 j1 r1 y dx ny ndx nex
    have ny' : (upd H1 dx (.own y)) y = none := by rw [upd_ne (Ne.symm nex)]; exact ny
    have s2 : Stp w1 w1 H1 (upd H1 dx (.own y)) := Stp.fresh ndx
    have s3 : Stp w1 (w1.add y) (upd H1 dx (.own y)) (upd (upd H1 dx (.own y)) y (.ins Ca dx [])) := Stp.add ny'
    have j2 := j1.fresh ndx (o := .own y) (fun ps z => by cases z)
    have j3 := j2.add (c := .obj 0 []) (o := .ins Ca dx []) ny' (fun ps z => by cases z) ⟨rfl, Ca, dx, [], hC, upd_same, .nil⟩
    have s23 := s2.trans s3
    have hat : RepV X.K (w1.add y) (upd (upd H1 dx (.own y)) y (.ins Ca dx [])) (.c st1.length) (.ref y) := ⟨y, addAt j1 y, rfl⟩
    have h2 := OkG.after s23 (OkG.after s1 h)
    have h3 : OkV X T cls Ex (w1.add y) (upd (upd H1 dx (.own y)) y (.ins Ca dx [])) (callF (φ f) (.c st1.length :: rvs) (st1 ++ [.obj 0 []])) (fun v H2 => v = .non ∧ Q (.ref y) H2) := (OkG.bind (R := RepV X.K) h2).imp fun b H4 ⟨w4, st4, a, s4, j4, r4, h4⟩ => by
      split at h4
      case isFalse => exact h4.elim
      rename_i hnon
      cases a with
      | c n => cases hnon
      | d g z =>
        cases z with
        | none => exact ⟨RepD.nonV r4, OkG.ret h4 j4 (hat.stp s4)⟩
        | _ => cases hnon
    obtain ⟨w0, s0, as, j0, ra, el, h0⟩ := callF_ok j3 (.cons hat (r1.stp s23)) h3
    refine ⟨w0, s0, as, j0, by rw [List.append_nil]; exact ra, ?_, okR_of h0⟩
    rw [el, List.length_cons, den_len _ _ _ _ _ hden]
    exact hl
end
end DL

-- DSdi
/-! DSdi: a dict display with texts as keys. -/
namespace DL
open PySem L2
section
variable {P : Program} {W : World} {K : PySem.W.Frag} {T : List (Addr × Str)} {w w1 w3 : Wd} {st : Store} {H H1 H4 : Hp} {p : Addr} {o : HO}
/-- a caller's thing at p is changed -/
theorem J.upAny (j : J P W K T w st H) (hp : p ∈ w.no) (h1 : ∀ ps, H p ≠ some (.tbl ps)) (h2 : ∀ q, H p ≠ some (LamX.CodeO p q)) (ho : ∀ ps, o ≠ .tbl ps) (hb : w.sb p = none) : J P W K T w st (upd H p o) := by
  have hf : ¬ w.free p := fun z => z.2 hp
  refine ⟨j.len, j.nd, j.apart, fun b u e => ?_, j.sbf, fun b ps e => ?_, fun a ha => ?_, fun m a d h1 h2 => ?_, tabs_upd j.tabs h1 h2⟩
  · have : b ≠ p := fun z => by rw [z, hb] at e; cases e
    rw [upd_ne this]; exact j.sb b u e
  · by_cases z : b = p
    · rw [z, upd_same] at e
      exact absurd (Option.some.inj e) (ho ps)
    · rw [upd_ne z] at e
      exact j.sbt b ps e
  · by_cases z : a = p
    · exact ⟨o, by rw [z, upd_same], ho⟩
    · obtain ⟨o', e, t⟩ := j.nos a ha
      exact ⟨o', by rw [upd_ne z]; exact e, t⟩
  · exact CellOk.ch hf (fun z => j.apart a (List.mem_of_getElem? h1) (z ▸ hp)) (j.cell m a d h1 h2)
theorem Stp.upNew (s : Stp w1 w3 H1 H4) (hp : H1 p = none) : Stp w1 w3 H1 (upd H4 p o) := ⟨s.sb, s.no, s.ad, fun b u e h1 h2 => by rw [upd_ne (ne_of_none e hp)]; exact s.fr b u e h1 h2,
  fun b h => by
    have q := s.dom b h
    obtain ⟨u, e, t⟩ := q
    have : b ≠ p := fun z => NT.of_none hp (z ▸ h)
    exact ⟨u, by rw [upd_ne this]; exact e, t⟩, fun b o' u e => by rw [upd_ne (ne_of_none e hp)]; exact s.frz b o' u e⟩
end
section
variable {X : Cx} {T : List (Addr × Str)} {cls : Nat → Value} {Ex : XK} {C : Cfg} {φ φ2 : Phi} {w w0 w1 w3 : Wd} {H H0 H1 H4 : Hp} {st : Store} {σ : St} {p : Addr}
/-- the new thing is a cell -/
theorem fin_cG {cl : Cell} (s : Stp w1 w3 H1 H4) (j1 : ∀ a ∈ w1.no, NT H1 a) (j : JX X T w3 st H4) (hp : ¬ NT H1 p) (hb : w1.sb p = none) (hn : p ∈ w3.no) (hc : CellOk X.prog X.w X.K { w3 with no := w1.no, ad := w3.ad ++ [p] } H4 p cl) :
    Stp w1 { w3 with no := w1.no, ad := w3.ad ++ [p] } H1 H4 ∧ JX X T { w3 with no := w1.no, ad := w3.ad ++ [p] } (st ++ [cl]) H4 ∧ (w3.ad ++ [p])[st.length]? = some p := by
  have hpa : p ∉ w3.ad := fun z => j.apart p z hn
  have v : Wv w3 { w3 with no := w1.no, ad := w3.ad ++ [p] } := by
    refine ⟨fun a f => ⟨fun z => ?_, fun z => f.2 (by obtain ⟨m, e, _⟩ := s.no; rw [e]; exact List.mem_append_right _ z)⟩, rfl⟩
    have z : a ∈ w3.ad ++ [p] := z
    rcases List.mem_append.mp z with z | z
    · exact f.1 z
    · simp only [List.mem_singleton] at z
      exact f.2 (z ▸ hn)
  have ha : ∀ (n : Nat) (a : Addr), w3.ad[n]? = some a → (w3.ad ++ [p])[n]? = some a := fun n a e => by
    rw [List.getElem?_append_left (List.getElem?_eq_some_iff.mp e).1]
    exact e
  refine ⟨⟨s.sb, ⟨[], rfl, by simp⟩, ?_, s.fr, s.dom, s.frz⟩, ?_, by rw [← j.len]; simp⟩
  · obtain ⟨m, e, hm⟩ := s.ad
    refine ⟨m ++ [p], by rw [← List.append_assoc, ← e], fun a hx => ?_⟩
    rcases List.mem_append.mp hx with hx | hx
    · exact hm a hx
    · simp only [List.mem_singleton] at hx
      rw [hx]; exact hp
  · refine ⟨by simp [j.len], List.nodup_append.mpr ⟨j.nd, by simp, fun a ha b hb e => ?_⟩, fun a ha hb => ?_, j.sb, fun a ha => ?_, j.sbt, fun a ha => s.dom a (j1 a ha), fun n a c h1 h2 => ?_, j.tabs⟩
    · simp only [List.mem_singleton] at hb
      exact hpa (by rw [← hb, ← e]; exact ha)
    · have ha : a ∈ w3.ad ++ [p] := ha
      rcases List.mem_append.mp ha with z | z
      · obtain ⟨m, e, _⟩ := s.no
        exact j.apart a z (by rw [e]; exact List.mem_append_right _ hb)
      · simp only [List.mem_singleton] at z
        exact hp (z ▸ j1 a hb)
    · have ha : a ∈ w3.ad ++ [p] := ha
      rcases List.mem_append.mp ha with z | z
      · exact j.sbf a z
      · simp only [List.mem_singleton] at z
        show w3.sb a = none
        rw [s.sb, z]
        exact hb
    · have h1 : (w3.ad ++ [p])[n]? = some a := h1
      by_cases hn' : n < w3.ad.length
      · rw [List.getElem?_append_left hn'] at h1
        rw [List.getElem?_append_left (by rw [← j.len]; exact hn')] at h2
        exact cellWv v ha (j.cell n a c h1 h2)
      · rw [List.getElem?_append_right (by omega)] at h1
        rw [List.getElem?_append_right (by rw [← j.len]; omega), ← j.len] at h2
        have e0 : n - w3.ad.length = 0 := by
          cases e : n - w3.ad.length with
          | zero => rfl
          | succ k => rw [e] at h1; simp at h1
        rw [e0] at h1 h2
        simp only [List.getElem?_cons_zero, Option.some.injEq] at h1 h2
        subst h1 h2
        exact hc
/-- a world with a thing of the caller's at p -/
theorem new_no {o : HO} (j : JX X T w st H) (hp : H p = none) (ho : ∀ ps, o ≠ .tbl ps) : Stp w { w with no := p :: w.no } H (upd H p o) ∧ JX X T { w with no := p :: w.no } st (upd H p o) := by
  have s3 : Stp w { w with no := p :: w.no } H (upd H p o) := ⟨rfl, ⟨[p], rfl, fun a ha => by simp only [List.mem_singleton] at ha; rw [ha]; exact NT.of_none hp⟩, ⟨[], by simp, by simp⟩, fun b o e _ _ => by rw [upd_ne (ne_of_none e hp)]; exact e, fun b ⟨o, e, t⟩ => ⟨o, by rw [upd_ne (ne_of_none e hp)]; exact e, t⟩, fun b o u e => by rw [upd_ne (ne_of_none e hp)]; exact e⟩
  have j0 := j.fresh (o := o) hp ho
  have v : ∀ a ∈ w.ad, a ≠ p := fun a ha z => (j.adSome ha).1 (z ▸ hp)
  refine ⟨s3, ⟨j0.len, j0.nd, fun a ha hb => ?_, j0.sb, j0.sbf, j0.sbt, fun a ha => ?_, fun n a c h1 h2 => ?_, j0.tabs⟩⟩
  · rcases List.mem_cons.mp hb with z | z
    · exact v a ha z
    · exact j0.apart a ha z
  · rcases List.mem_cons.mp ha with z | z
    · exact ⟨_, by rw [z, upd_same], ho⟩
    · exact j0.nos a z
  · have q := j.cell n a c h1 h2
    exact q.stp s3 (upd_ne (v a (List.mem_of_getElem? h1)))
/-! ### the pairs -/
inductive PEs (X : Cx) (T : List (Addr × Str)) (cls : Nat → Value) (Ex : XK) (C : Cfg) (φ φ2 : Phi) : List Expr → EL → Prop
  | nil : PEs X T cls Ex C φ φ2 [] .nil
  | cons {x : Expr} {e : E} {es : List Expr} {r : EL} : PE X x (TEx X T cls Ex C φ φ2 e) → PEs X T cls Ex C φ φ2 es r → PEs X T cls Ex C φ φ2 (x :: es) (.cons e r)
def trsOf (X : Cx) (T : List (Addr × Str)) (cls : Nat → Value) (Ex : XK) (C : Cfg) (φ φ2 : Phi) : List Str → EL → List (TE × TE)
  | k :: ks, .cons e r => (tC (.str k), TEx X T cls Ex C φ φ2 e) :: trsOf X T cls Ex C φ φ2 ks r
  | _, _ => []
theorem pps_of {pos : Pos} : ∀ {keys : List (Option Expr)} {ks : List Str} {es : List Expr} {xs : EL}, strKeys keys = some ks → keys.length = es.length → PEs X T cls Ex C φ φ2 es xs → PPs X pos keys es (trsOf X T cls Ex C φ φ2 ks xs) ∧ ks.length = eLen xs ∧ keys.all (·.isSome) = true ∧ keys.length = ks.length
  | [], ks, es, xs, h, hl, hp => by
    simp only [strKeys, Option.some.injEq] at h
    subst h
    cases hp with
    | nil => exact ⟨pps_nil, rfl, rfl, rfl⟩
    | cons _ _ => simp at hl
  | k :: keys, ks, es, xs, h, hl, hp => by
    cases hp with
    | nil => simp at hl
    | @cons x e es r h1 h2 =>
      unfold strKeys at h
      split at h
      · rename_i heq; cases heq
      · rename_i y _ _ _ heq
        cases heq
        cases hk : strKeys keys with
        | none => rw [hk] at h; cases h
        | some ks' =>
          rw [hk] at h
          cases h
          obtain ⟨i1, i2, i3, i4⟩ := pps_of (pos := pos) hk (by simpa using hl) h2
          exact ⟨pps_cons pe_str h1 i1, by simp [eLen, i2], by simp [i3], by simp [i4]⟩
      · cases h
theorem pairs_read : ∀ {ks : List Str} {xs : EL} {w : Wd} {env : Env} {st : Store} {H : Hp} {Q : List V → Hp → Prop} {R : List (V × V) → Hp → Prop}, ks.length = eLen xs → JX X T w st H → EnvR X.K w H env σ → OkL X T cls Ex w H (denL C φ φ2 xs env st) Q →
    (∀ vs H2, vs.length = ks.length → Q vs H2 → R ((ks.zip vs).map fun kv => (V.str kv.1, kv.2)) H2) → tPairs (trsOf X T cls Ex C φ φ2 ks xs) σ H R
  | [], .nil, w, env, st, H, Q, R, hl, j, en, h, hR => by
    rw [denL] at h
    exact hR [] H rfl (OkG.ret h j .nil)
  | [], .cons _ _, w, env, st, H, Q, R, hl, j, en, h, hR => by simp [eLen] at hl
  | _ :: _, .nil, w, env, st, H, Q, R, hl, j, en, h, hR => by simp [eLen] at hl
  | k :: ks, .cons e r, w, env, st, H, Q, R, hl, j, en, h, hR => by
    rw [denL] at h
    refine ⟨w, env, st, j, en, (OkG.bind (R := RepV X.K) h).imp fun y H1 ⟨w1, st1, ry, s1, j1, r1, h1⟩ => ?_⟩
    have hl' : ks.length = eLen r := by simpa [eLen] using hl
    refine pairs_read (Q := fun vs H2 => Q (y :: vs) H2) hl' j1 (en.stp s1) ?_ fun vs H2 e1 e2 => ?_
    · exact (OkG.bind (R := RepVs X.K) h1).imp fun vs H2 ⟨w2, st2, rvs, s2, j2, r2, h2⟩ => h2 w2 H2 _ (Stp.refl w2 H2) j2 (.cons (r1.stp s2) r2)
    · exact hR (y :: vs) H2 (by simp [e1]) e2
theorem merge_new : ∀ {kvs acc : List (Key × V)}, ((acc ++ kvs).map (·.1)).Nodup → mergeK acc kvs = acc ++ kvs
  | [], acc, _ => by simp [mergeK]
  | kv :: kvs, acc, h => by
    have hn : valV acc kv.1 = none := by
      cases e : valV acc kv.1 with
      | none => rfl
      | some v =>
        exfalso
        have : (acc.any fun q => decide (q.1 = kv.1)) = true := by rw [valV_any, e]; rfl
        obtain ⟨q, h1, h2⟩ := List.any_eq_true.mp this
        rw [List.map_append, List.nodup_append] at h
        exact h.2.2 q.1 (List.mem_map_of_mem h1) kv.1 (by simp) (of_decide_eq_true h2)
    show mergeK (putK acc kv.1 kv.2) kvs = _
    rw [putK_new _ hn, merge_new (by simpa using h)]
    simp
theorem zip_rep {w : Wd} {H : Hp} : ∀ {ks : List Str} {rvs : List RV} {vs : List V}, RepVs X.K w H rvs vs → Paired (fun (p : Str × RV) (q : Key × V) => q.1 = Sum.inr p.1 ∧ RepV X.K w H p.2 q.2) (ks.zip rvs) ((ks.zip vs).map fun kv => (Sum.inr kv.1, kv.2))
  | [], _, _, _ => .nil
  | _ :: _, _, _, .nil => .nil
  | k :: ks, _, _, .cons h t => .cons ⟨rfl, h⟩ (zip_rep t)
theorem zip_keys : ∀ {ks : List Str} {vs : List V}, vs.length = ks.length → ((ks.zip vs).map fun kv => ((Sum.inr kv.1 : Key), kv.2)).map (·.1) = ks.map Sum.inr
  | [], _, _ => rfl
  | _ :: _, [], h => by simp at h
  | k :: ks, v :: vs, h => by simp only [List.zip_cons_cons, List.map_cons]; rw [zip_keys (by simpa using h)]
theorem pe_sdiX {keys : List (Option Expr)} {es : List Expr} {ks : List Str} {xs : EL} {pos : Pos} (h1 : PEs X T cls Ex C φ φ2 es xs) (hk : strKeys keys = some ks) (hl : keys.length = es.length) (hn : ks.Nodup) (h15 : ks.length ≤ 15) (h0 : ks ≠ []) : PE X (.Dict keys es pos) (TEx X T cls Ex C φ φ2 (.sdi ks xs)) := by
  obtain ⟨q1, q2, q3, q4⟩ := pps_of (pos := pos) hk hl h1
  refine PE.imp (pe_disp q1 q3 hl (fun z => h0 (List.length_eq_zero_iff.mp (by rw [← q4, z]; rfl))) (by omega)) fun σ H Q h => ?_
  obtain ⟨w, env, st, j, en, h⟩ := h
  rw [den] at h
  intro p hp
  have hb : w.sb p = none := (j.freshP hp).2
  obtain ⟨s3, j3⟩ := new_no (o := .dK []) j hp (fun ps z => by cases z)
  have hP : OkL X T cls Ex { w with no := p :: w.no } (upd H p (.dK [])) (denL C φ φ2 xs env st) fun vs H2 => ∃ w3 st3 rvs, Stp w w3 H H2 ∧ JX X T w3 st3 H2 ∧ p ∈ w3.no ∧ H2 p = some (.dK []) ∧ RepVs X.K w3 H2 rvs vs ∧ OkV X T cls Ex w H (.ok (.c st3.length) (st3 ++ [.sd (ks.zip rvs)])) Q := by
    cases hd : denL C φ φ2 xs env st with
    | bad => rw [hd] at h; exact h.elim
    | exc k st1 => rw [hd] at h; exact fun w' H' d s j => h w' H' d (s3.trans s) j
    | ok rvs st1 =>
      rw [hd] at h
      simp only [Res.bind_ok] at h
      have hlen := den_len _ _ _ _ _ hd
      rw [if_pos (by rw [hlen, q2])] at h
      intro w3 H2 vs s j' r
      refine ⟨w3, st1, rvs, s3.trans s, j', ?_, ?_, r, h⟩
      · obtain ⟨m, e, _⟩ := s.no
        rw [e]
        exact List.mem_append_right _ List.mem_cons_self
      · exact s.fr p _ upd_same (fun z => (j.adSome z).1 hp) fun ps z => by cases z
  refine pairs_read q2 j3 (en.stp s3) hP fun vs H2 hv hq => ?_
  obtain ⟨w3, st3, rvs, s, j', hno, hpd, r, h⟩ := hq
  refine ⟨hpd, (ks.zip vs).map fun kv => (Sum.inr kv.1, kv.2), by rw [List.map_map]; rfl, by simp; omega, ?_⟩
  have hm := merge_new (acc := []) (kvs := (ks.zip vs).map fun kv => ((Sum.inr kv.1 : Key), kv.2)) (by rw [List.nil_append, zip_keys hv]; exact hn.map Sum.inr (fun a b ne e => ne (Sum.inr.inj e)))
  rw [List.nil_append] at hm
  rw [hm]
  have hb3 : w3.sb p = none := by rw [s.sb]; exact hb
  have j5 := j'.upAny (o := .dK ((ks.zip vs).map fun kv => ((Sum.inr kv.1 : Key), kv.2))) hno (fun ps z => by rw [hpd] at z; cases z) (fun q z => by rw [hpd] at z; unfold LamX.CodeO at z; cases z) (fun ps z => by cases z) hb3
  have s5 := s.upNew (o := .dK ((ks.zip vs).map fun kv => ((Sum.inr kv.1 : Key), kv.2))) hp
  have hf : ¬ w3.free p := fun z => z.2 hno
  have v : Wv w3 { w3 with no := w.no, ad := w3.ad ++ [p] } := by
    refine ⟨fun a f => ⟨fun z => ?_, fun z => f.2 (by obtain ⟨m, e, _⟩ := s.no; rw [e]; exact List.mem_append_right _ z)⟩, rfl⟩
    have z : a ∈ w3.ad ++ [p] := z
    rcases List.mem_append.mp z with z | z
    · exact f.1 z
    · simp only [List.mem_singleton] at z
      exact f.2 (z ▸ hno)
  have ha : ∀ (n : Nat) (a : Addr), w3.ad[n]? = some a → (w3.ad ++ [p])[n]? = some a := fun n a e => by
    rw [List.getElem?_append_left (List.getElem?_eq_some_iff.mp e).1]
    exact e
  obtain ⟨s6, j6, e6⟩ := fin_cG (cl := .sd (ks.zip rvs)) s5 j.nos j5 (NT.of_none hp) hb hno ⟨_, upd_same, zip_rep ((r.ch hf).mono fun _ _ q => q.wv v ha)⟩
  exact h _ _ _ s6 j6 ⟨p, e6, rfl⟩
end
end DL

-- DSpl
/-! DSpl: a dict display of one pair; a told list of lists that is changed, with its items. -/
namespace DL
open PySem L2
section
variable {X : Cx} {T : List (Addr × Str)} {cls : Nat → Value} {Ex : XK} {C : Cfg} {φ φ2 : Phi} {w w0 : Wd} {H H0 : Hp} {st : Store} {v : V} {rv : RV} {pins : List (Addr × Obj)} {s : Shared} {σ : L2.St} {m : Bool} {D : Ends}
  {x1 x2 x3 : Expr} {a b c : E} {es : List Expr} {xs : EL} {pos p apos : Pos} {kk : Nat} {K : PySem.W.Frag} {P : Program} {W : World}
/-! ### what a spoiling leaves, spoilt again -/
theorem spoilEnv_idem (env : Env) : spoilEnv (spoilEnv env) = spoilEnv env := by
  unfold spoilEnv
  rw [List.map_map]
  refine List.map_congr_left fun o _ => ?_
  cases o with
  | none => rfl
  | some rv =>
    simp only [Function.comp_def, Option.bind_some]
    by_cases h : oldOnly rv = true
    · rw [if_pos h, Option.bind_some, if_pos h]
    · rw [if_neg h, Option.bind_none]
theorem spoilSt_idem (st : Store) : spoilSt (spoilSt st) = spoilSt st := by
  unfold spoilSt
  rw [List.map_map]
  refine List.map_congr_left fun c _ => ?_
  simp only [Function.comp_def]
  by_cases h : cellKeeps c = true
  · rw [if_pos h, if_pos h]
  · rw [if_neg h]
    rfl
theorem spoilEnv_none_set (env : Env) (i : Nat) : spoilEnv (env.set i none) = (spoilEnv env).set i none := by
  unfold spoilEnv
  rw [List.map_set]
  rfl
/-- less is known -/
theorem CellOk.drop {a : Addr} {c : Cell} (h : CellOk P W K w H a c) : CellOk P W K w H a (if cellKeeps c = true then c else .gone) := by
  split
  · exact h
  · exact h.ho
theorem J.drop (j : J P W K T w st H) : J P W K T w (spoilSt st) H where
  len := by unfold spoilSt; rw [List.length_map]; exact j.len
  nd := j.nd
  apart := j.apart
  sb := j.sb
  sbf := j.sbf
  sbt := j.sbt
  nos := j.nos
  cell := fun n a c h1 h2 => by
    unfold spoilSt at h2
    rw [List.getElem?_map] at h2
    obtain ⟨d, e, rfl⟩ := Option.map_eq_some_iff.mp h2
    exact (j.cell n a d h1 e).drop
  tabs := j.tabs
theorem EnvR.drop {env : Env} (h : EnvR K w H env σ) : EnvR K w H (spoilEnv env) σ := ⟨by unfold spoilEnv; rw [List.length_map]; exact h.len, fun i rv e => by
  unfold spoilEnv at e
  rw [List.getElem?_map] at e
  obtain ⟨ov, e1, e2⟩ := Option.map_eq_some_iff.mp e
  cases ov with
  | none => cases e2
  | some rv' =>
    simp only [Option.bind_some] at e2
    split at e2
    · cases e2
      exact h.at_ i _ e1
    · cases e2⟩
theorem EnvR.unset {env : Env} (h : EnvR K w H env σ) (i : Nat) : EnvR K w H (env.set i none) σ := ⟨by rw [List.length_set]; exact h.len, fun k rv e => by
  rw [List.getElem?_set] at e
  split at e
  · split at e <;> cases e
  · exact h.at_ k rv e⟩
theorem EnvR.setNone {env : Env} (h : EnvR K w H (env.set i none) σ) (o : Option V) : EnvR K w H (env.set i none) (σ.set i o) := ⟨by rw [List.length_set, List.length_set, ← List.length_set]; rw [h.len], fun k rv e => by
  by_cases q : i = k
  · subst q
    rw [List.getElem?_set] at e
    split at e
    · split at e <;> cases e
    · exact absurd rfl ‹_›
  · rw [List.getElem?_set_ne q]
    exact h.at_ k rv e⟩
/-! ### the loop, and the list itself -/
/-- what stands while the items are changed: n changes more -/
structure Spl (X : Cx) (T : List (Addr × Str)) (w : Wd) (env : Env) (st : Store) (v : Nat) (t q : Addr) (x0 : V) (us : List V) (n : Nat) (σ : L2.St) (H : Hp) : Prop where
  j : JX X T w st H
  en : EnvR X.K w H env σ
  at_ : σ[v]? = some (some (.ref t))
  tp : SqT X.K H t [x0, .ref q]
  ls : H q = some (.lst us)
  it : ∀ u ∈ us, ∃ (b : Addr) (bs : List V), u = .ref b ∧ H b = some (.lst bs) ∧ bs.length + n < sizeLine ∧ w.sb b = none ∧ w.free b ∧ b ≠ q
theorem sqT_upd {o : HO} {b t : Addr} {bs vs : List V} (hb : H b = some (.lst bs)) (h : SqT K H t vs) : SqT K (upd H b o) t vs := by
  rcases h with h | h
  · refine .inl ?_
    unfold Rd at h ⊢
    rw [upd_ne (fun z => by subst z; rcases h with h | ⟨o, h⟩ <;> rw [hb] at h <;> cases h)]
    exact h
  · exact .inr h
theorem sqT_new {o : HO} {b t : Addr} {vs : List V} (hb : H b = none) (h : SqT K H t vs) : SqT K (upd H b o) t vs := by
  rcases h with h | h
  · refine .inl ?_
    unfold Rd at h ⊢
    rw [upd_ne (fun z => by subst z; rcases h with h | ⟨o, h⟩ <;> rw [hb] at h <;> cases h)]
    exact h
  · exact .inr h
/-- one item is changed -/
theorem Spl.step {env : Env} {v : Nat} {t q b pn : Addr} {x0 : V} {us bs : List V} {n : Nat} {o : HO} (h : Spl X T w env st v t q x0 us (n + 1) σ H) (he : spoilEnv env = env) (hst : spoilSt st = st) (hu : V.ref b ∈ us) (hp : H pn = none) (ho : ∀ ps, o ≠ .tbl ps) (hb : upd H pn o b = some (.lst bs)) :
    Spl X T w env st v t q x0 us n σ (upd (upd H pn o) b (.lst (bs ++ [.ref pn]))) := by
  have jf := h.j.fresh (o := o) hp ho
  have sf : Stp w w H (upd H pn o) := Stp.fresh hp
  obtain ⟨b', bs', e, hb', hl, hsb, hf, hne⟩ := h.it _ hu
  cases e
  have hbp : b ≠ pn := fun z => by rw [z, hp] at hb'; cases hb'
  have hqp : q ≠ pn := fun z => by have := h.ls; rw [z, hp] at this; cases this
  rw [upd_ne hbp, hb'] at hb
  cases hb
  have hb2 : upd H pn o b = some (.lst bs) := by rw [upd_ne hbp]; exact hb'
  have j2 := jf.spoil (us := bs ++ [.ref pn]) hb2 hsb hf
  rw [hst] at j2
  have e2 := (h.en.stp sf).spoil (o := .lst (bs ++ [.ref pn])) hb2 hsb
  rw [he] at e2
  refine ⟨j2, e2, h.at_, sqT_upd hb2 (sqT_new hp h.tp), ?_, fun u hu2 => ?_⟩
  · rw [upd_ne hne.symm, upd_ne hqp]
    exact h.ls
  · obtain ⟨b'', bs'', e, h1, h2, h3, h4, h5⟩ := h.it u hu2
    by_cases z : b'' = b
    · subst z
      rw [hb'] at h1
      cases h1
      exact ⟨b'', _, e, upd_same, by rw [List.length_append, List.length_singleton]; omega, h3, h4, h5⟩
    · have hz : b'' ≠ pn := fun y => by rw [y, hp] at h1; cases h1
      exact ⟨b'', bs'', e, by rw [upd_ne z, upd_ne hz]; exact h1, by omega, h3, h4, h5⟩
theorem no_both {c : Addr} {us vs : List V} (I : Inv X pins σ H s) (h1 : H c = some (.lst us)) (h2 : SqT X.K H c vs) : False := by
  obtain ⟨its, rv, ⟨o, n, ho, hcl, _, _⟩, _⟩ := I.list (SqL.of h1)
  obtain ⟨its2, rv2, ⟨o2, ho2, hcl2, _⟩, _⟩ := I.tuple h2
  rw [ho] at ho2
  cases ho2
  rw [hcl] at hcl2
  exact absurd hcl2 (by decide)
theorem spl_items : ∀ {xs : List PyData} {us : List V}, RepL X.K H w.free (w.ok H .new) xs us → xs.all splItem = true → ∀ u ∈ us, ∃ (b : Addr) (bs : List V) (ys : List PyData), u = .ref b ∧ H b = some (.lst bs) ∧ bs.length < 1000 ∧ w.sb b = none ∧ w.free b ∧ RepL X.K H w.free (w.ok H .new) ys bs ∧ (ys.all fun z => match z with
    | .tuple _ => true
    | _ => false) = true
  | _, _, .nil, _, u, hu => absurd hu List.not_mem_nil
  | x :: xs, v :: us, .cons r t, ha, u, hu => by
    simp only [List.all_cons, Bool.and_eq_true] at ha
    rcases List.mem_cons.mp hu with rfl | hu
    · obtain ⟨h1, _⟩ := ha
      unfold splItem at h1
      split at h1
      · rename_i ys
        simp only [Bool.and_eq_true, decide_eq_true_eq] at h1
        have rv : RepV X.K w H (.d .new (.list ys)) u := r
        obtain ⟨b, bs, rfl, hb, hsb, hf, _⟩ := spo_view rv (by unfold spoOk; rw [decide_eq_true_eq, lim_eq, sizeLine_eq]; omega)
        obtain ⟨b', bs', e, hr, _, _, _, rl⟩ := RepD.list r
        cases e
        have e2 : bs' = bs := by
          rcases hr with hr | ⟨o, hr⟩ <;> rw [hb] at hr <;> cases hr
          rfl
        subst e2
        exact ⟨b, bs', ys, rfl, hb, by rw [← RepL.length rl]; exact h1.1, hsb, hf, rl, h1.2⟩
      · cases h1
    · exact spl_items t ha.2 u hu
/-- the two statements -/
theorem pss_splX {y x : Str} {i v : Nat} {k1 k2 k3 k4 : Nat} {za zb : Int} {q1 q2 q3 q4 q5 q6 q7 q8 q9 q10 q11 q12 q13 q14 q15 p1 p2 ap1 ap2 : Pos} {kt : _} {rest : List Stmt} {r : SL} {φ φ2 : Phi} (hp : PassesOwn (model X.prog X.w) X.A X.env X.xe) (hc : X.calm = true) (hN : X.N.Nodup) (hi : X.N[i]? = some y) (hv : X.N[v]? = some x) (ly : Loc X.env.scope y) (fy : X.fn y = true) (vy : Vis X.env.scope y) (vx : Vis X.env.scope x)
    (nx : (x == ("__debug__" : Str)) = false ∧ (x == ("__classdict__" : Str)) = false) (ny : (y == ("__debug__" : Str)) = false ∧ (y == ("__classdict__" : Str)) = false) (hl1 : (ap1.endLine == p1.line) = true) (hl2 : (ap2.endLine == p2.line) = true) (hr : PSs X rest (TSSx X T cls Ex C φ φ2 true r)) :
    PSs X (.For (.Name y q1) (.Subscript (.Name x q2) (.Constant (.int 1) k1 q3) q4) [.Expr (.Call (.Attribute (.Name y q5) (Str.ofString "append") ap1) [.Tuple [.Constant (.int za) k2 q6, .Constant (.int zb) k3 q7] kt q8] [] p1) q9] [] q10 :: .Expr (.Call (.Attribute (.Subscript (.Name x q11) (.Constant (.int 1) k4 q12) q13) (Str.ofString "append") ap2) [.List [] q14] [] p2) q15 :: rest) (TSSx X T cls Ex C φ φ2 true (.cons (.spl v i) r)) := by
  have hx := fun (q2 q3 q4 : Pos) (k1 : Nat) => pe_ix (X := X) (pos := q4) ix_tup (pe_var (pos := q2) hv vx nx.1 nx.2) (pe_int (i := 1) (j := k1) (pos := q3)) (fun _ _ => rfl)
  have few : ∀ (e : Expr) (p : Pos), notStar e = true → ((backTo p (starEach [e] X.env)).all (fun x => !x.1) && (backToKw p (keywordEach [] X.env)).all (fun x => x.1.isSome) && decide (([e] : List Expr).length + ([] : List Keyword).length + (if ([] : List Keyword).isEmpty then 0 else 1) < 30)) = true := fun e p hs => by
    rw [star_all X.env [e] (by simp [hs])]
    rfl
  have a1 := pe_bm (apos := ap1) (cpos := p1) PySem.F.plainAttrs_list PySem.F.slot_list_append PySem.F.type_list_append mt_append (pe_var (pos := q5) hi vy ny.1 ny.2) (pa_cons (pe_tup (pos := q8) (x1 := kt) (pa_cons (pe_int (i := za) (j := k2) (pos := q6)) (pa_cons (pe_int (i := zb) (j := k3) (pos := q7)) pa_nil))) pa_nil) (base_no rfl _ X.env _) (few _ _ rfl) hl1 rfl rfl
  have a2 := pe_bm (apos := ap2) (cpos := p2) PySem.F.plainAttrs_list PySem.F.slot_list_append PySem.F.type_list_append mt_append (hx q11 q12 q13 k4) (pa_cons (pe_lst (pos := q14) pa_nil) pa_nil) (base_no rfl _ X.env _) (few _ _ rfl) hl2 rfl rfl
  have s1 := L2.ps_for (pos := q10) hp hc (pi_list (hx q2 q3 q4 k1)) (pg_name (pos := q1) hN hi ly (.inl fy)) (pss_one (ps_expr (pos := q9) a1 (swap_no rfl _ _ _))) (fun x => fold_no rfl X.env x)
  have s2 := ps_expr (pos := q15) a2 (swap_no rfl _ _ _)
  refine ⟨fun pins s σ H D I h => (pss_cons s1 (pss_cons s2 hr)).run pins s σ H D I ?_⟩
  obtain ⟨w, env, st, j, en, h⟩ := h
  rw [exes, exe] at h
  split at h
  rotate_left
  · exact h.elim
  rename_i d0 xs heq
  split at h
  rotate_left
  · exact h.elim
  rename_i hk
  unfold splOk at hk
  simp only [Bool.and_eq_true, decide_eq_true_eq] at hk
  obtain ⟨⟨hvi, hxl⟩, hall⟩ := hk
  simp only [Out.seq_nx] at h
  obtain ⟨vv, e3, r⟩ := en.at_ v _ heq
  obtain ⟨t, vs, rfl, ht, hl, rl⟩ := RepD.tuple (xs := [d0, .list xs]) r
  cases rl with
  | cons r0 rl =>
  cases rl with
  | cons r1 rl =>
  cases rl
  rename_i x0 yq
  have rq : RepV X.K w H (.d .new (.list xs)) yq := r1
  obtain ⟨q, us, rfl, hq, hsq, hfq, hzq⟩ := spo_view rq (by unfold spoOk; rw [decide_eq_true_eq, lim_eq, sizeLine_eq]; omega)
  obtain ⟨q', us', e, hr', _, _, _, rlx⟩ := RepD.list r1
  cases e
  have e2 : us' = us := by
    rcases hr' with hr' | ⟨o, hr'⟩ <;> rw [hq] at hr' <;> cases hr'
    rfl
  subst e2
  have hul : us'.length < 1000 := by rw [← RepL.length rlx]; exact hxl
  have hit := spl_items rlx hall
  have S0 : Spl X T w ((spoilEnv env).set i none) (spoilSt st) v t q x0 us' (us'.length + 1) σ H := by
    refine ⟨j.drop, en.drop.unset i, e3, ht, hq, fun u hu => ?_⟩
    obtain ⟨b, bs, ys, rfl, hb, hbl, hsb, hf, rly, hty⟩ := hit u hu
    refine ⟨b, bs, rfl, hb, by rw [sizeLine_eq]; omega, hsb, hf, fun z => ?_⟩
    subst z
    rw [hq] at hb
    cases hb
    cases us' with
    | nil => cases hu
    | cons u0 us' =>
      obtain ⟨c, cs, _, rfl, hcc, _⟩ := hit u0 List.mem_cons_self
      cases rly with
      | cons ry _ =>
        simp only [List.all_cons, Bool.and_eq_true] at hty
        split at hty
        · obtain ⟨c', vs', e, hsq', _⟩ := RepD.tuple ry
          cases e
          exact no_both I hcc hsq'
        · cases hty.1
  have hlen : i < σ.length := by
    have := I.len
    have := (List.getElem?_eq_some_iff.mp hi).1
    omega
  have he0 : spoilEnv ((spoilEnv env).set i none) = (spoilEnv env).set i none := by rw [spoilEnv_none_set, spoilEnv_idem]
  have hs0 := spoilSt_idem st
  have hlenE : ((spoilEnv env).set i none).length = σ.length := S0.en.len
  refine ⟨.ref t, e3, t, _, 1, .ref q, rfl, rfl, ht, rfl, q, rfl, ⟨us', SqL.of hq⟩, fun jn m σ H => jn + m = us'.length ∧ Spl X T w ((spoilEnv env).set i none) (spoilSt st) v t q x0 us' (m + 1) σ H, ⟨us'.length, by omega, S0⟩, ?_⟩
  rintro jn m σ1 H1 ⟨hm, S⟩
  cases m with
  | zero =>
    refine .inl ⟨⟨us', SqL.of S.ls, by omega⟩, ?_⟩
    refine ⟨.ref t, S.at_, t, _, 1, .ref q, rfl, rfl, S.tp, rfl, .inl ⟨rfl, us', SqL.of S.ls⟩, by show (0 : Nat) ≤ _; omega, fun pn hpn => ?_⟩
    have hqp : q ≠ pn := fun z => by have := S.ls; rw [z, hpn] at this; cases this
    have hq2 : upd H1 pn (.lst []) q = some (.lst us') := by rw [upd_ne hqp]; exact S.ls
    refine ⟨q, us', .ref pn, rfl, rfl, hq2, by rw [sizeLine_eq]; omega, ?_⟩
    have j2 := (S.j.fresh (o := .lst []) hpn (fun ps z => by cases z)).spoil (us := us' ++ [.ref pn]) hq2 hsq hfq
    have e2 := (S.en.stp (Stp.fresh hpn)).spoil (o := .lst (us' ++ [.ref pn])) hq2 hsq
    rw [hs0] at j2
    rw [he0] at e2
    exact ⟨w, _, _, j2, e2, out_free h⟩
  | succ m =>
    have hjn : jn < us'.length := by omega
    refine .inr ⟨⟨us', us'[jn], SqL.of S.ls, List.getElem?_eq_getElem hjn⟩, fun σ' H' => jn + 1 + m = us'.length ∧ Spl X T w ((spoilEnv env).set i none) (spoilSt st) v t q x0 us' (m + 1) σ' H', fun σ' H' hh => ⟨m, Nat.lt_succ_self m, hh⟩, fun xx H2 hh => ?_⟩
    obtain ⟨rfl, hxx⟩ := hh
    have hxx := hxx us' (SqL.of S.ls)
    have hmem := List.mem_of_getElem? hxx
    obtain ⟨b, bs, rfl, hb, hbl, _⟩ := S.it _ hmem
    have S1 : Spl X T w ((spoilEnv env).set i none) (spoilSt st) v t q x0 us' (m + 1 + 1) (σ1.set i (some (.ref b))) H2 := ⟨S.j, S.en.setNone _, by rw [List.getElem?_set_ne (fun z => hvi z.symm)]; exact S.at_, S.tp, S.ls, S.it⟩
    refine ⟨.ref b, List.getElem?_set_self (by rw [← S.en.len, hlenE]; exact hlen), .inl ⟨rfl, bs, SqL.of hb⟩, by show (2 : Nat) ≤ _; rw [sizeLine_eq]; decide, fun pn hpn => ?_⟩
    have hbp : b ≠ pn := fun z => by rw [z, hpn] at hb; cases hb
    have hb2 : upd H2 pn (.tup [.int za, .int zb]) b = some (.lst bs) := by rw [upd_ne hbp]; exact hb
    exact ⟨b, bs, .ref pn, rfl, rfl, hb2, by omega, by omega, S1.step he0 hs0 hmem hpn (fun ps z => by cases z) hb2⟩
/-! ### a dict display of one pair -/
def dic1S (k v : RV) (st2 : Store) : Res RV := match k with
  | .d _ x => if keyOk x = true then .ok (.c st2.length) (st2 ++ [.dic false [(x, v)]]) else .bad
  | _ => .bad
theorem fr_no {p0 : Addr} {w1 : Wd} {H2 : Hp} {o : HO} (hn : H p0 = none) (j : JX X T w st H) (s : Stp { w with no := p0 :: w.no } w1 (upd H p0 o) H2) (ho : ∀ ps, o ≠ .tbl ps) : p0 ∈ w1.no ∧ H2 p0 = some o := by
  refine ⟨?_, s.fr p0 _ upd_same (fun z => (j.adSome z).1 hn) ho⟩
  obtain ⟨m, e, _⟩ := s.no
  rw [e]
  exact List.mem_append_right _ List.mem_cons_self
theorem pe_dic1X {φ φ2 : Phi} (hu : X.A.units + 80 < cLine) (h1 : PE X x1 (TEx X T cls Ex C φ φ2 a)) (h2 : PE X x2 (TEx X T cls Ex C φ φ2 b)) : PE X (.Dict [some x1] [x2] pos) (TEx X T cls Ex C φ φ2 (.dic1 a b)) := by
  refine ⟨fun pins s σ H Q I hq => ?_⟩
  obtain ⟨w, env, st, j, en, h⟩ := hq
  rw [den] at h
  obtain ⟨I1, h0⟩ := newDic I
  have hn := I.hok.fresh (Nat.le_refl s.heap.objs.size)
  obtain ⟨p, hpe⟩ : ∃ p, s.heap.objs.size = p := ⟨_, rfl⟩
  have nt : ∀ ps, dicO X.prog X.w p [] ≠ .tbl ps := fun ps z => by unfold dicO at z; cases z
  have room : (nestedKind X.prog X.w).room X.A := by
    show X.A.units + 8 < cLine
    omega
  rw [arm_eval_Dict, zip_pairTrees [some x1] [x2] X.env pos rfl rfl, dictDisplay_pairs (pairTrees [some x1] [x2] X.env pos) (fun z => by cases z) (by show (1 : Nat) < 17; omega)]
  refine wpAny_bind (wpAny_standAt (wpAny_bind (wpAny_subDictH (knd := nestedKind X.prog X.w) (Q := fun d s' => wpAny (model X.prog X.w) X.A (pure (Value.ref d)) _ X.xe s') room (by show (1 : Nat) ≤ 15; omega) ?_)))
  rw [hpe] at I1 h0 hn ⊢
  have hb : w.sb p = none := (j.freshP hn).2
  obtain ⟨s3, j3⟩ := new_no (o := dicO X.prog X.w p []) j hn nt
  have hA : OkV X T cls Ex { w with no := p :: w.no } (upd H p (dicO X.prog X.w p [])) (den C φ φ2 a env st) fun xk H1 => ∃ w1 st1 rk, Stp w w1 H H1 ∧ Stp { w with no := p :: w.no } w1 (upd H p (dicO X.prog X.w p [])) H1 ∧ JX X T w1 st1 H1 ∧ RepV X.K w1 H1 rk xk ∧ OkV X T cls Ex w H ((den C φ φ2 b env st1).bind fun v st2 => dic1S rk v st2) Q := by
    cases hd : den C φ φ2 a env st with
    | bad => rw [hd] at h; exact h.elim
    | exc k st1 => rw [hd] at h; exact fun w' H' d s j => h w' H' d (s3.trans s) j
    | ok rk st1 =>
      rw [hd] at h
      simp only [Res.bind_ok] at h
      intro w1 H1 xk s1 j1 r
      exact ⟨w1, st1, rk, s3.trans s1, s1, j1, r, h⟩
  refine pairTrees_cons_walk (thn (h1.run pins _ σ _ _ I1 ⟨_, env, st, j3, en.stp s3, hA⟩) fun ku s1 ⟨xk, Hk, Ik, rk, w1, st1, rvk, sA, sA', jA, repk, hB⟩ => ?_)
  have hBB : OkV X T cls Ex w1 Hk (den C φ φ2 b env st1) fun xv H2 => ∃ w2 st2 rv, Stp w w2 H H2 ∧ Stp { w with no := p :: w.no } w2 (upd H p (dicO X.prog X.w p [])) H2 ∧ JX X T w2 st2 H2 ∧ RepV X.K w2 H2 rv xv ∧ RepV X.K w2 H2 rvk xk ∧ OkV X T cls Ex w H (dic1S rvk rv st2) Q := by
    cases hd : den C φ φ2 b env st1 with
    | bad => rw [hd] at hB; exact hB.elim
    | exc k st2 => rw [hd] at hB; exact fun w' H' d s j => hB w' H' d (sA.trans s) j
    | ok rv st2 =>
      rw [hd] at hB
      simp only [Res.bind_ok] at hB
      intro w2 H2 xv s2 j2 r
      exact ⟨w2, st2, rv, sA.trans s2, sA'.trans s2, j2, r, repk.stp s2, hB⟩
  refine thn (h2.run pins s1 σ Hk _ Ik ⟨w1, env, st1, jA, en.stp sA, hBB⟩) fun vu s2 ⟨xv, H2, Iv, rvu, w2, st2, rv, sB, sB', jB, repv, repk2, hC⟩ => pairTrees_nil_walk ?_
  cases rvk with
  | c n => exact hC.elim
  | d gk x =>
    unfold dic1S at hC
    dsimp only at hC
    split at hC
    rotate_left
    · exact hC.elim
    rename_i hok
    obtain ⟨ys, k, rfl, ek⟩ := keyOk_tup hok
    obtain ⟨q, rfl⟩ := rep_ref (K := X.K) repk2
    obtain rfl : ku = .ref q := rk
    obtain ⟨hno, hpd⟩ := fr_no hn j sB' nt
    have his := key_is Iv ek hok (RepD.dp repk2)
    obtain ⟨us, ru, hm⟩ := dic_view (lk := false) (kvs := []) (w := w2) Iv hpd .nil
    cases ru
    refine ⟨[(k, q, vu)], ⟨rfl, rfl, his, trivial⟩, hm, fun h' tk hm' hsb => wpAny_pure ?_⟩
    have hmut : Mut (H2 p) := by rw [hpd]; unfold dicO; trivial
    have e1 : Paired EntU [(k, q, xv)] [(k, q, vu)] := .cons ⟨rfl, rfl, rvu⟩ .nil
    have I2 : Inv X pins σ (upd H2 p (dicO X.prog X.w p [(k, q, xv)])) { s2 with heap := h', toks := tk } := Iv.write (t' := tk) (e := p) hmut (.inl rfl) (fun b ob hb q => (hsb.2 b hb).trans q) (by obtain ⟨o', _, _, e', _⟩ := hm'; exact ⟨o', e'⟩) (dic_ok e1 hm')
    refine ⟨.ref p, _, I2, rfl, ?_⟩
    have hb3 : w2.sb p = none := by rw [sB.sb]; exact hb
    have j5 := jB.upAny (o := dicO X.prog X.w p [(k, q, xv)]) hno (fun ps z => by rw [hpd] at z; unfold dicO at z; cases z) (fun q z => by rw [hpd] at z; exact codeO_ne_dic rfl (Option.some.inj z).symm) (fun ps z => by unfold dicO at z; cases z) hb3
    have s5 := sB.upNew (o := dicO X.prog X.w p [(k, q, xv)]) hn
    have hf : ¬ w2.free p := fun z => z.2 hno
    have v : Wv w2 { w2 with no := w.no, ad := w2.ad ++ [p] } := by
      refine ⟨fun a f => ⟨fun z => ?_, fun z => f.2 (by obtain ⟨m, e, _⟩ := sB.no; rw [e]; exact List.mem_append_right _ z)⟩, rfl⟩
      have z : a ∈ w2.ad ++ [p] := z
      rcases List.mem_append.mp z with z | z
      · exact f.1 z
      · simp only [List.mem_singleton] at z
        exact f.2 (z ▸ hno)
    have ha : ∀ (n : Nat) (a : Addr), w2.ad[n]? = some a → (w2.ad ++ [p])[n]? = some a := fun n a e => by
      rw [List.getElem?_append_left (List.getElem?_eq_some_iff.mp e).1]
      exact e
    have er : EntR X.K w2 H2 (.tuple ys, rv) (k, q, xv) := ⟨ek, hok, Rep.noLst (toKey_noL _ _ ek) repk2, repv⟩
    have er2 := er.ch (p := p) (o := dicO X.prog X.w p [(k, q, xv)]) hf
    obtain ⟨s6, j6, e6⟩ := fin_cG (cl := .dic false [(.tuple ys, rv)]) s5 j.nos j5 (NT.of_none hn) hb hno ⟨[(k, q, xv)], upd_same, h0, .cons ⟨er2.1, er2.2.1, RepD.wv v er2.2.2.1, er2.2.2.2.wv v ha⟩ .nil, by show (1 : Nat) ≤ _; rw [sizeLine_eq]; decide⟩
    exact hC _ _ _ s6 j6 ⟨p, e6, rfl⟩
end
end DL

-- DSx
/-! DSx: sets of up to 64 tuples of small numbers, out of a tuple. -/
namespace L2
open PySem PySem.Spec PyProof.Rows
abbrev emptyO (w : World) : Obj := { cls := .type "set", dict := none, data := .set #[] 0 (.fresh 0 0 (!w.params.followText "set-order")) }
abbrev emptyH (w : World) (s : Shared) : Heap := s.heap.push (emptyO w)
/-- as SetTR, but for its size: one more -/
def SetTX (P : Program) (w : World) (h : Heap) (a : Addr) (L : List (Addr × List Int)) (es : Array (Int × Value)) (ep : Nat) (t : SetTable) : Prop :=
  (∃ o, h.get? a = some o ∧ o.ExactSet ∧ o.data = .set es ep t) ∧ es.toList = rowsOf P w L ∧ TabOk t (L.map fun p => thash P w p.2) ∧ (L.map (·.2)).Nodup ∧ (∀ p ∈ L, IsT P w h p.2 p.1) ∧
  t.plain = true ∧ (w.params.followText "set-order" = true ∨ t.led = true) ∧ L.length * 5 < t.mask * 3 ∧ L.length ≤ 64
section
variable {P : Program} {w : World} {A : Around} {E : Value → Shared → Prop} {s : Shared} {a : Addr} {L : List (Addr × List Int)} {es : Array (Int × Value)} {ep : Nat} {t : SetTable}
theorem SetTR.x {h : Heap} (R : SetTR P w h a L es ep t) : SetTX P w h a L es ep t := ⟨R.ob, R.rows, R.tab, R.nd, R.tup, R.plain, R.led, R.room, Nat.le_of_lt R.few⟩
theorem SetTX.r {h : Heap} (R : SetTX P w h a L es ep t) (hl : L.length < 64) : SetTR P w h a L es ep t := by
  obtain ⟨r1, r2, r3, r4, r5, r6, r7, r8, _⟩ := R
  exact ⟨r1, r2, r3, r4, r5, r6, r7, r8, hl⟩
theorem SetTX.keep {h h2 : Heap} (R : SetTX P w h a L es ep t) (k1 : ∀ o, h.get? a = some o → h2.get? a = some o) (k2 : ∀ p ∈ L, IsT P w h2 p.2 p.1) : SetTX P w h2 a L es ep t := by
  obtain ⟨⟨o, ho, ro⟩, r2, r3, r4, _, r⟩ := R
  exact ⟨⟨o, k1 o ho, ro⟩, r2, r3, r4, k2, r⟩
/-- one more is added, up to the 64th -/
theorem add_x (R : SetTR P w s.heap a L es ep t) {x : Addr} {k : List Int} (hx : IsT P w s.heap k x) (room : A.units < cLine) {Q : Bool → Shared → Prop}
    (fin : ∀ b h2 L2 es2 ep2 t2, Heap.SameBut a s.heap h2 → SetTX P w h2 a L2 es2 ep2 t2 → (k ∈ L.map (·.2) → L2 = L) → (k ∉ L.map (·.2) → L2.Perm ((x, k) :: L)) → Q b { s with heap := h2 }) :
    wpAny (model P w) A (setAddHashed a (.ref x) (thash P w k)) Q E s := by
  by_cases few : L.length + 1 < 64
  · exact add_at R hx room few fun b h2 L2 es2 ep2 t2 sb R2 c1 c2 => fin b h2 L2 es2 ep2 t2 sb R2.x c1 c2
  have big : L.length = 63 := by have := R.few; omega
  obtain ⟨o, ho, hex, hd⟩ := R.ob
  have len0 := R.size; have room0 := R.room
  have m127 : t.mask = 127 := by
    rcases R.tab.mok with e | e | e
    · rw [e, big] at room0; omega
    · rw [e, big] at room0; omega
    · exact e
  unfold setAddHashed
  refine wpAny_holding ?_
  have e1 : (100000 : Nat) = 99999 + 1 := rfl
  rw [e1, setAddHashedIn_succ]
  refine wpAny_bind (wpAny_setState_of ho hd R.fits ?_)
  dsimp only
  refine wp_if_neg (by simp [byScan, Value.scannable]) ?_
  try refine wpAny_bind (wpAny_pure ?_)
  refine wpAny_bind (search_at R hx room (fun yes => ?_) fun K no hK hb => ?_)
  · exact wpAny_pure (fin false s.heap L es ep t (Heap.SameBut.refl a s.heap) R.x (fun _ => rfl) fun z => absurd yes z)
  dsimp only
  refine wpAny_bind (wpAny_setState_of ho hd R.fits ?_)
  dsimp only
  obtain ⟨p1, p2, p3, p4, p5, p6, p7, p8, p9⟩ := R.tab.put hK hb
  have pl : (t.put (way t.mask (thash P w k) K)).1.plain = true := p6.trans R.plain
  generalize t.put (way t.mask (thash P w k) K) = pt at p1 p3 p4 p5 p6 p7 p8 p9 pl ⊢
  obtain ⟨t1, q⟩ := pt
  dsimp only at p1 p3 p4 p5 p6 p7 p8 p9 pl ⊢
  subst p1
  first
    | (refine wpAny_bind ?_; refine wp_if_pos pl ?_; refine hashBy_tup hx ?_)
    | refine wp_if_pos pl (wpAny_bind (hashBy_tup hx ?_))
  simp only [if_true]
  have rows1 : (SetTable.insertAt es (SetTable.below t.place (way t.mask (thash P w k) K)) (thash P w k, Value.ref x)).toList = rowsOf P w (L.take (SetTable.below t.place (way t.mask (thash P w k) K)) ++ (x, k) :: L.drop (SetTable.below t.place (way t.mask (thash P w k) K))) :=
    (SetTable.toList_insertAt ..).trans (by rw [R.rows, rows_put])
  generalize SetTable.below t.place (way t.mask (thash P w k) K) = n at p2 p3 rows1 ⊢
  have pm := put_perm L n (x, k)
  have hs : (L.take n ++ (x, k) :: L.drop n).map (fun p => thash P w p.2) = (L.map fun p => thash P w p.2).take n ++ thash P w k :: (L.map fun p => thash P w p.2).drop n := by simp [List.map_take, List.map_drop]
  rw [← hs] at p3
  have nd1 : ((L.take n ++ (x, k) :: L.drop n).map (·.2)).Nodup := (pm.map (·.2)).nodup_iff.mpr (List.nodup_cons.mpr ⟨no, R.nd⟩)
  generalize SetTable.insertAt es n (thash P w k, Value.ref x) = es1 at rows1 ⊢
  generalize L.take n ++ (x, k) :: L.drop n = L1 at pm p3 nd1 rows1
  have len1 : L1.length = 64 := by rw [pm.length_eq, List.length_cons, big]
  have lenE : es1.size = 64 := by
    have e := congrArg List.length rows1
    unfold rowsOf at e
    simpa [len1] using e
  refine wpAny_bind (wpAny_storeSet_of ho hd ?_ (by rw [lenE, sizeLine_eq]; decide))
  have sb : Heap.SameBut a s.heap (s.heap.update a (Obj.putSet es1 t1)) := Heap.SameBut.update ..
  have ho1 := store_at (es' := es1) (t' := t1) ho hd
  generalize s.heap.update a (Obj.putSet es1 t1) = h1 at sb ho1 ⊢
  have tup1 : ∀ p ∈ L1, IsT P w h1 p.2 p.1 := fun p hp => by
    rcases List.mem_cons.mp (pm.mem_iff.mp hp) with e | hp
    · subst e; exact isT_same hx ho hd sb
    · exact isT_same (R.tup p hp) ho hd sb
  have nf : ¬ t1.tooFull = true := fun z => by
    unfold SetTable.tooFull at z
    rw [decide_eq_true_eq, p9, List.length_map, p4, m127, big] at z
    omega
  first
    | refine wp_if_neg (by simp [nf]) ?_
    | (refine wpAny_bind ?_; refine wp_if_neg (by simp [nf]) ?_; refine wpAny_pure ?_)
  refine wpAny_pure (fin true h1 L1 es1 (ep + 1) t1 sb ⟨⟨_, ho1, ⟨hex.1, hex.2.1, hex.2.2⟩, rfl⟩, rows1, p3, nd1, tup1, pl, p5 ▸ R.led, ?_, by omega⟩ (fun z => absurd z no) fun _ => pm)
  rw [p4, m127, len1]
  decide
theorem SetTX.fits {h : Heap} (R : SetTX P w h a L es ep t) : t.fits es.size = true ∧ es.size = L.length := by
  obtain ⟨_, rw_, tb, _, _, _, _, rm, _⟩ := R
  have l2 : es.size = L.length := by
    have e := congrArg List.length rw_
    unfold rowsOf at e
    simpa using e
  have l1 := tb.sz
  rw [List.length_map] at l1
  refine ⟨?_, l2⟩
  unfold SetTable.fits SetTable.fill
  rw [tb.dm, Bool.and_eq_true, beq_iff_eq, decide_eq_true_eq]
  refine ⟨l1.trans l2.symm, ?_⟩
  show t.place.size + 0 ≤ t.mask
  omega
/-- set.update's loop, up to 64 items -/
theorem upd_x {I : Addr} {fp wr : List Addr} {G : Array GenState → Array GenState → Prop} {n : Nat} {Pv : Nat → Value → Prop} {St : Nat → Shared → Prop} {R : Result → Shared → Prop}
    (W : WalksS P w A.in1 I fp wr G n Pv St) (S : Addr) (nS : S ∉ fp) (ks : List (Addr × List Int)) (len : n = ks.length) (most : ks.length ≤ 64) (val : ∀ i v, Pv i v → ∃ p, ks[i]? = some p ∧ v = .ref p.1)
    (hA : Heap) (tups : ∀ p ∈ ks, IsT P w hA p.2 p.1) (noS : hA.get? S = none) (noW : ∀ b ∈ wr, hA.get? b = none) (room : A.in1.units < cLine) :
    ∀ (k i : Nat) (s : Shared), i + k = n → St i s → (∀ b o, hA.get? b = some o → s.heap.get? b = some o) → (∃ L es ep t, SetTX P w s.heap S L es ep t ∧ Got ks i L) →
      (∀ s2 L es ep t, Moved (S :: wr) G s s2 → SetTX P w s2.heap S L es ep t → Got ks n L → (∀ b o, hA.get? b = some o → s2.heap.get? b = some o) → R (.ok (.ret .none)) s2) →
      codeAny (model P w) A (.builtin "set.update.loop" ⟨[.ref S, .ref I], []⟩) R s := by
  have nw : S ∉ wr := fun h => nS (W.sub _ h)
  have up : ∀ b ∈ wr, b ∈ S :: wr := fun b hb => List.mem_cons_of_mem _ hb
  have mv : ∀ {s s2 : Shared}, Moved wr G s s2 → (∀ b o, hA.get? b = some o → s.heap.get? b = some o) → ∀ b o, hA.get? b = some o → s2.heap.get? b = some o := fun m kp b o e =>
    m.heap b o (fun z => by rw [noW b z] at e; cases e) (kp b o e)
  have inK : ∀ {i L}, Got ks i L → ∀ p ∈ L, p ∈ ks := fun g p hp => List.mem_of_mem_take (g.sub p hp)
  intro k
  induction k with
  | zero =>
    intro i s hi st kp ⟨L, es, ep, t, R0, g⟩ fin
    obtain rfl : i = n := by omega
    refine codeAny_builtin F.entry_set_update_loop ?_
    rw [Around.under_plainId F.plain_set_update_loop _]
    show wpAny _ A.in1 (pyNext (.ref I) >>= _) _ _ s
    refine wpAny_bind (W.done s _ _ st fun s2 m => ?_)
    show wpAny _ A.in1 (ret Value.none) _ _ s2
    have kp2 := mv m kp
    exact wpAny_pure (fin s2 L es ep t (m.mono up) (R0.keep (fun o e => m.heap S o nw e) fun p hp => isT_keep (tups p (inK g p hp)) kp2) g kp2)
  | succ k ih =>
    intro i s hi st kp ⟨L, es, ep, t, R0, g⟩ fin
    refine codeAny_builtin F.entry_set_update_loop ?_
    rw [Around.under_plainId F.plain_set_update_loop _]
    show wpAny _ A.in1 (pyNext (.ref I) >>= _) _ _ s
    refine wpAny_bind (W.item i s _ _ (by omega) st fun v s2 pv st2 m => ?_)
    obtain ⟨p, hp, rfl⟩ := val i v pv
    have kp2 := mv m kp
    have R1 : SetTX P w s2.heap S L es ep t := R0.keep (fun o e => m.heap S o nw e) fun q hq => isT_keep (tups q (inK g q hq)) kp2
    have hx : IsT P w s2.heap p.2 p.1 := isT_keep (tups p (List.mem_of_getElem? hp)) kp2
    show wpAny _ A.in1 (holding [Value.ref p.1] (setAdd S (.ref p.1)) >>= _) _ _ s2
    refine wpAny_bind (wpAny_holding ?_)
    unfold setAdd
    refine wpAny_holding ?_
    refine wpAny_bind (wpAny_pyHash_tuple room hx ?_)
    have g1 := g.len
    refine add_x (s := { s2 with toks := s2.toks + (p.2.length + 1) }) (R1.r (by omega)) hx room fun b h2 L2 es2 ep2 t2 sb R2 c1 c2 => ?_
    have g2 : Got ks (i + 1) L2 := by
      rcases Classical.em (p.2 ∈ L.map (·.2)) with c | c
      · rw [c1 c]; exact g.same hp c
      · exact g.more hp (c2 c)
    have kp3 : ∀ b o, hA.get? b = some o → h2.get? b = some o := fun b o e => (sb.2 b (fun z => by rw [z, noS] at e; cases e)).trans (kp2 b o e)
    have fr : ∀ b ∈ fp, ∀ o, s2.heap.get? b = some o → h2.get? b = some o := fun b hb o e => (sb.2 b (fun z => nS (z ▸ hb))).trans e
    refine wpAny_pure ⟨plainId_quiet F.plain_set_update_loop _, ih (i + 1) _ (by omega) (W.frame _ s2 _ _ st2 (Nat.le_add_right _ _) fun b hb o e => fr b hb o e) kp3 ⟨L2, es2, ep2, t2, R2, g2⟩ fun s3 L3 es3 ep3 t3 m3 R3 g3 kp4 => ?_⟩
    refine fin s3 L3 es3 ep3 t3 (Moved.trans W.gtrans ((m.mono up).then_heap (Nat.le_add_right _ _) fun b o hb e => ?_) m3) R3 g3 kp4
    exact (sb.2 b (fun z => hb (by rw [z]; exact List.mem_cons_self))).trans e
abbrev setR (s : Shared) (R : Heap → Tok → Prop) (E : Value → Shared → Prop) : Result → Shared → Prop := wants (fun r s₂ => r = .none ∧ ∃ h2 tk, s₂ = { s with heap := h2, toks := tk } ∧ R h2 tk) E
set_option maxRecDepth 100000 in
set_option maxHeartbeats 3200000 in
/-- set(x), its __init__ left -/
theorem call_set_gen {l : Addr} {R : Heap → Tok → Prop} {Q : Value → Shared → Prop}
    (ini : wpAny (model P w) A.in1.in1 (Builtin.«set.__init__» { pos := [Value.ref s.heap.objs.size] ++ [Value.ref l] }) (fun f s' => match f with
      | .done f => setR s R E (.ok f) s'
      | .again c' => c'.quiet = true ∧ codeAny (model P w) A.in1 c' (setR s R E) s') (fun e s' => setR s R E (.error e) s') { s with heap := emptyH w s })
    (fin : ∀ (h2 : Heap) (tk : Nat), R h2 tk → Q (.ref s.heap.objs.size) { s with heap := h2, toks := tk }) :
    wpAny (model P w) A (call (.type "set") [.ref l]) Q E s := by
  obtain ⟨c1, tl1, hmr⟩ := F.called_set.mro
  have md := F.called_set.made; have sb := F.called_set.sub
  refine wpAny_call (codeAny_of_tree ?_)
  show wpAny _ _ (callAny (.type "set") _) _ _ _
  refine wpAny_pure ⟨Code.quiet_builtin _ (by decide +kernel), codeAny_builtin F.entry_type_call ?_⟩
  rw [Around.under_plain (weight_type_call_type "set" [.ref l] []) rfl]
  have g1 := F.called_set.notType; have g2 := F.called_set.canCreate
  have g3 := F.typeCall_set_1 (.ref l)
  repeat (any_goals (first | assumption | wp_step))

  refine codeAny_mono (code_set_led1 (.ref l) (E := E) (Q₁ := fun obj s₁ => obj = .ref s.heap.objs.size ∧ s₁ = { s with heap := emptyH w s }) ⟨rfl, rfl⟩) fun r s₁ hr => ?_
  cases r with
  | error e => exact hr
  | ok fl =>
    cases fl with
    | ret obj =>
      obtain ⟨rfl, rfl⟩ := hr
      have hS : (emptyH w s).get? s.heap.objs.size = some (emptyO w) := Heap.get?_push_size _ rfl
      have hT : Shared.TypeIs { s with heap := emptyH w s } (.ref s.heap.objs.size) "set" := ⟨_, hS, rfl⟩
      have i1 := F.called_set.init.lookup; have i2 := F.called_set.init.bind (.ref s.heap.objs.size)
      repeat (any_goals (first | assumption | wp_step))

      refine codeAny_mono (codeAny_call_builtin (R := setR s R E) F.called_set.init.plain F.entry_set_init (check_set_init_1 hT ini)) fun r₂ s₂ hr₂ => ?_
      cases r₂ with
      | error e => exact hr₂
      | ok f2 =>
        cases f2 with
        | ret r =>
          obtain ⟨rfl, h2, tk, rfl, hR⟩ := hr₂
          repeat (any_goals (first | assumption | wp_step))
          exact fin _ _ hR
        | _ => exact hr₂.elim
    | _ => exact hr.elim
set_option maxRecDepth 100000 in
/-- set(xs), xs a tuple of up to 64 -/
theorem call_set_x {l : Addr} {items : Array Value} (ks : List (Addr × List Int)) {Q : Value → Shared → Prop} (hh : A.handled = none) (hx : s.heap.IsTuple l items) (hit : items.toList = ks.map fun p => Value.ref p.1)
    (hk : ∀ q ∈ ks, IsT P w s.heap q.2 q.1) (most : ks.length ≤ 64) (room : A.units + 3 < cLine)
    (fin : ∀ (h2 : Heap) (tk : Nat) L es ep t, SetTX P w h2 s.heap.objs.size L es ep t → Got ks ks.length L → (∀ b o, s.heap.get? b = some o → h2.get? b = some o) → Q (.ref s.heap.objs.size) { s with heap := h2, toks := tk }) :
    wpAny (model P w) A (call (.type "set") [.ref l]) Q E s := by
  have hisz : items.size = ks.length := by
    have q := congrArg List.length hit
    rw [Array.length_toList, List.length_map] at q; exact q
  refine call_set_gen (R := fun h2 _ => ∃ L es ep t, SetTX P w h2 s.heap.objs.size L es ep t ∧ Got ks ks.length L ∧ ∀ b o, s.heap.get? b = some o → h2.get? b = some o) ?_ fun h2 tk ⟨L, es, ep, t, r1, r2, r3⟩ => fin h2 tk L es ep t r1 r2 r3
  have hS : (emptyH w s).get? s.heap.objs.size = some (emptyO w) := Heap.get?_push_size _ rfl
  have hT : Shared.TypeIs { s with heap := emptyH w s } (.ref s.heap.objs.size) "set" := ⟨_, hS, rfl⟩
  obtain ⟨ol, hol, hcl, nl, hdl⟩ := hx
  obtain ⟨ocls, odict, odata, oslots⟩ := ol
  simp only at hcl hdl; subst hcl; subst hdl
  have hol2 : (emptyH w s).get? l = some { cls := .type "tuple", dict := odict, data := .seq items nl, slots := oslots } := Heap.get?_push_of_some _ hol
  have u1 := F.sub_tuple_set; have u2 := F.sub_tuple_frozenset
  have u3 : (Value.type "tuple" == Value.type "dict") = false := by decide
  have hl1 : (emptyH w s).IsTuple l items := ⟨_, hol2, rfl, nl, rfl⟩
  unfold Builtin.«set.__init__» noKeywords Builtin.Frozenset.updateFrom
  generalize hPI : pyIter = PI
  wp_walk
  subst hPI

  refine wpAny_pyIter_tuple hl1 ?_
  refine wpAny_bind (wpAny_runValue ?_)
  have lS : l < s.heap.objs.size := Heap.lt_size hol
  have hh3 : A.in1.in1.in1.handled = none := by simp [hh]
  have neI : l ≠ (emptyH w s).objs.size := by rw [Heap.size_push]; exact Nat.ne_of_lt (Nat.lt_succ_of_lt lS)
  have nS : s.heap.objs.size ∉ [(emptyH w s).objs.size, l] := by
    rw [Heap.size_push]; simp only [List.mem_cons, List.not_mem_nil, or_false, not_or]; exact ⟨Nat.ne_of_lt (Nat.lt_succ_self _), Nat.ne_of_gt lS⟩
  have hval : ∀ (i : Nat) (v : Value), items[i]? = some v → ∃ p, ks[i]? = some p ∧ v = .ref p.1 := fun i v hv => by
    have z : items.toList[i]? = some v := by rw [Array.getElem?_toList]; exact hv
    rw [hit, List.getElem?_map] at z
    cases y : ks[i]? with
    | none => rw [y] at z; cases z
    | some p => rw [y] at z; exact ⟨p, rfl, (Option.some.inj z).symm⟩
  have off : ∀ b, s.heap.objs.size ≤ b → s.heap.get? b = none := fun b hb => by
    cases q : s.heap.get? b with
    | none => rfl
    | some o => exact absurd (Nat.lt_of_lt_of_le (Heap.lt_size q) hb) (Nat.lt_irrefl _)
  refine upd_x ((Walks.tuple hh3 _ l neI items).toS) s.heap.objs.size nS ks hisz most hval s.heap hk (off _ (Nat.le_refl _)) (fun b hb => off b (by rw [List.mem_singleton.mp hb, Heap.size_push]; exact Nat.le_succ _)) room items.size 0 _ (by omega)
    ⟨⟨_, Heap.get?_push_size _ rfl, rfl, rfl⟩, (hl1.push _)⟩ (fun b o e => Heap.get?_push_of_some _ (Heap.get?_push_of_some _ e)) ?a0 ?a1
  case a0 =>
    have hget : ((emptyH w s).push { cls := .type "tuple_iterator", data := .fields #[.ref l, .int 0 0] }).get? s.heap.objs.size = some (emptyO w) := Heap.get?_push_of_some _ hS
    exact ⟨[], #[], 0, _, (setTR_fresh hget).x, Got.zero ks⟩
  case a1 =>
    intro s' L es ep t hm hS' g' hkp
    obtain ⟨h', g2, d', tk', os'⟩ := s'
    obtain rfl : g2 = s.gens := hm.gens; obtain rfl : d' = s.drawn := hm.drawn; obtain rfl : os' = s.os := hm.os
    show wpAny _ _ _ _ _ _
    refine wpAny_pure ?_
    show wpAny _ _ (ret Value.none) _ _ _
    rw [hisz] at g'
    exact wpAny_pure ⟨rfl, h', tk', rfl, L, es, ep, t, hS', g', hkp⟩
set_option maxRecDepth 100000 in
/-- set(xs), xs a list of up to 64 -/
theorem call_set_xl {l : Addr} {items : Array Value} (ks : List (Addr × List Int)) {Q : Value → Shared → Prop} (hh : A.handled = none) (hx : s.heap.IsList l items) (hit : items.toList = ks.map fun p => Value.ref p.1)
    (hk : ∀ q ∈ ks, IsT P w s.heap q.2 q.1) (most : ks.length ≤ 64) (room : A.units + 3 < cLine)
    (fin : ∀ (h2 : Heap) (tk : Nat) L es ep t, SetTX P w h2 s.heap.objs.size L es ep t → Got ks ks.length L → (∀ b o, s.heap.get? b = some o → h2.get? b = some o) → Q (.ref s.heap.objs.size) { s with heap := h2, toks := tk }) :
    wpAny (model P w) A (call (.type "set") [.ref l]) Q E s := by
  have hisz : items.size = ks.length := by
    have q := congrArg List.length hit
    rw [Array.length_toList, List.length_map] at q; exact q
  refine call_set_gen (R := fun h2 _ => ∃ L es ep t, SetTX P w h2 s.heap.objs.size L es ep t ∧ Got ks ks.length L ∧ ∀ b o, s.heap.get? b = some o → h2.get? b = some o) ?_ fun h2 tk ⟨L, es, ep, t, r1, r2, r3⟩ => fin h2 tk L es ep t r1 r2 r3
  have hS : (emptyH w s).get? s.heap.objs.size = some (emptyO w) := Heap.get?_push_size _ rfl
  have hT : Shared.TypeIs { s with heap := emptyH w s } (.ref s.heap.objs.size) "set" := ⟨_, hS, rfl⟩
  obtain ⟨ol, hol, hcl, nl, hdl⟩ := hx
  obtain ⟨ocls, odict, odata, oslots⟩ := ol
  simp only at hcl hdl; subst hcl; subst hdl
  have hol2 : (emptyH w s).get? l = some { cls := .type "list", dict := odict, data := .seq items nl, slots := oslots } := Heap.get?_push_of_some _ hol
  have u1 := F.sub_list_set; have u2 := F.sub_list_frozenset
  have u3 : (Value.type "list" == Value.type "dict") = false := by decide
  have hl1 : (emptyH w s).IsList l items := ⟨_, hol2, rfl, nl, rfl⟩
  unfold Builtin.«set.__init__» noKeywords Builtin.Frozenset.updateFrom
  generalize hPI : pyIter = PI
  wp_walk
  subst hPI

  refine wpAny_pyIter_list hl1 ?_
  refine wpAny_bind (wpAny_runValue ?_)
  have lS : l < s.heap.objs.size := Heap.lt_size hol
  have hh3 : A.in1.in1.in1.handled = none := by simp [hh]
  have neI : l ≠ (emptyH w s).objs.size := by rw [Heap.size_push]; exact Nat.ne_of_lt (Nat.lt_succ_of_lt lS)
  have nS : s.heap.objs.size ∉ [(emptyH w s).objs.size, l] := by
    rw [Heap.size_push]; simp only [List.mem_cons, List.not_mem_nil, or_false, not_or]; exact ⟨Nat.ne_of_lt (Nat.lt_succ_self _), Nat.ne_of_gt lS⟩
  have hval : ∀ (i : Nat) (v : Value), items[i]? = some v → ∃ p, ks[i]? = some p ∧ v = .ref p.1 := fun i v hv => by
    have z : items.toList[i]? = some v := by rw [Array.getElem?_toList]; exact hv
    rw [hit, List.getElem?_map] at z
    cases y : ks[i]? with
    | none => rw [y] at z; cases z
    | some p => rw [y] at z; exact ⟨p, rfl, (Option.some.inj z).symm⟩
  have off : ∀ b, s.heap.objs.size ≤ b → s.heap.get? b = none := fun b hb => by
    cases q : s.heap.get? b with
    | none => rfl
    | some o => exact absurd (Nat.lt_of_lt_of_le (Heap.lt_size q) hb) (Nat.lt_irrefl _)
  refine upd_x ((Walks.list hh3 _ l neI items).toS) s.heap.objs.size nS ks hisz most hval s.heap hk (off _ (Nat.le_refl _)) (fun b hb => off b (by rw [List.mem_singleton.mp hb, Heap.size_push]; exact Nat.le_succ _)) room items.size 0 _ (by omega)
    ⟨⟨_, Heap.get?_push_size _ rfl, rfl, rfl⟩, (hl1.push _)⟩ (fun b o e => Heap.get?_push_of_some _ (Heap.get?_push_of_some _ e)) ?a0 ?a1
  case a0 =>
    have hget : ((emptyH w s).push { cls := .type "list_iterator", data := .fields #[.ref l, .int 0 0] }).get? s.heap.objs.size = some (emptyO w) := Heap.get?_push_of_some _ hS
    exact ⟨[], #[], 0, _, (setTR_fresh hget).x, Got.zero ks⟩
  case a1 =>
    intro s' L es ep t hm hS' g' hkp
    obtain ⟨h', g2, d', tk', os'⟩ := s'
    obtain rfl : g2 = s.gens := hm.gens; obtain rfl : d' = s.drawn := hm.drawn; obtain rfl : os' = s.os := hm.os
    show wpAny _ _ _ _ _ _
    refine wpAny_pure ?_
    show wpAny _ _ (ret Value.none) _ _ _
    rw [hisz] at g'
    exact wpAny_pure ⟨rfl, h', tk', rfl, L, es, ep, t, hS', g', hkp⟩
end
end L2

-- DSy
/-! DSy: sorted(s), s a set of up to 64 tuples of small numbers. -/
namespace L2
open PySem PySem.Spec PyProof.Rows
abbrev tupE (q : Addr × List Int) : PyData := .tuple (q.2.map .int)
theorem dataLe_tupE : PySem.W.dataLe false tupE = fun p q => decide (p.2 ≤ q.2) := by
  funext p q
  show (!PySem.W.dataLt (.tuple (q.2.map .int)) (.tuple (p.2.map .int))) = _
  rw [PySem.W.dataLt_tuple]
  show (!PySem.W.rowLt (q.2.map .int) (p.2.map .int)) = _
  rw [PySem.W.dataLt_ints, ← decide_not, decide_eq_decide]
  exact List.not_lt
theorem lex_code : ∀ {a b : List Int}, a.length = b.length → TS.Bd 64 a → TS.Bd 64 b → a ≤ b → TS.code 64 a ≤ TS.code 64 b
  | [], [], _, _, _, _ => Int.le_refl _
  | [], _ :: _, h, _, _, _ => by simp at h
  | _ :: _, [], h, _, _, _ => by simp at h
  | d :: r, e :: q, h, h1, h2, hc => by
    have hl : r.length = q.length := by simpa using h
    rcases List.cons_le_cons_iff.mp hc with z | ⟨rfl, z⟩
    · exact Int.le_of_lt (TS.code_lt hl h1.tail h2.tail z)
    · have := lex_code hl h1.tail h2.tail z
      rcases Int.lt_or_le (TS.code 64 (d :: q)) (TS.code 64 (d :: r)) with y | y
      · have := (TS.code_same hl.symm).mp y
        omega
      · exact y
section
variable {P : Program} {w : World} {A : Around} {E : Value → Shared → Prop} {s : Shared} {a : Addr} {L : List (Addr × List Int)} {es : Array (Int × Value)} {ep : Nat} {t : SetTable}
theorem isT_reads {h : Heap} {k : List Int} {b : Addr} (x : IsT P w h k b) : Reads h (.ref b) (.tuple (k.map .int)) [] := by
  obtain ⟨o, items, n, ho, hc, hd, hi⟩ := x
  have key : ∀ {k : List Int} {vs : List Value}, ItemsAre (intKind P w) k vs → ReadsAll h vs (k.map .int) [] := fun {k vs} hi => by
    induction hi with
    | nil => exact .nil
    | @cons k0 v ks vs h1 _ ih =>
      obtain ⟨t, rfl⟩ := Value.isInt_shape h1
      exact .cons (.int k0 t) ih
  exact .tuple ho hc hd (key hi)
theorem each_refs : ∀ M : List (Addr × List Int), PySem.W.EachIs (fun u q => u = Value.ref q.1) (M.map fun q => Value.ref q.1) M
  | [] => .nil
  | _ :: M => .cons rfl (each_refs M)
theorem refs_each : ∀ {us : List Value} {M : List (Addr × List Int)}, PySem.W.EachIs (fun u q => u = Value.ref q.1) us M → us = M.map fun q => Value.ref q.1
  | _, _, .nil => rfl
  | _, _, .cons h t => by rw [List.map_cons, ← refs_each t, h]
theorem perm_map_inv {α β : Type} {f : α → β} : ∀ {vs : List β} {L : List α}, vs.Perm (L.map f) → ∃ M : List α, vs = M.map f ∧ M.Perm L
  | [], L, h => by
    have := h.length_eq
    cases L with
    | nil => exact ⟨[], rfl, .nil⟩
    | cons x L => simp at this
  | v :: vs, L, h => by
    obtain ⟨x, hx, e⟩ := List.mem_map.mp (h.mem_iff.mp (List.mem_cons_self (a := v) (l := vs)))
    obtain ⟨L1, L2, rfl⟩ := List.append_of_mem hx
    subst e
    rw [List.map_append, List.map_cons] at h
    have h2 : vs.Perm ((L1 ++ L2).map f) := by rw [List.map_append]; exact (h.trans List.perm_middle).cons_inv
    obtain ⟨M, e1, e2⟩ := perm_map_inv h2
    exact ⟨x :: M, by rw [e1, List.map_cons], (e2.cons x).trans List.perm_middle.symm⟩
theorem sorted_setX {Q : Value → Shared → Prop} (R : SetTX P w s.heap a L es ep t) (hh : A.handled = none) (room : A.units + 8 < cLine)
    {d : Nat} (hB : ∀ p ∈ L, p.2.length = d ∧ TS.Bd 64 p.2) (hd1 : 1 ≤ d)
    (fin : ∀ s2 p (out : List Value) (c : Nat) (M : List (Addr × List Int)), (∀ b o, s.heap.get? b = some o → s2.heap.get? b = some o) → s2.gens = s.gens → s2.os = s.os → s.heap.objs.size ≤ p →
      s2.heap.get? p = some (seqObj "list" out.toArray c) → out = M.map (fun q => Value.ref q.1) → M.Perm L → M.Pairwise (fun q r => TS.code 64 q.2 ≤ TS.code 64 r.2) → Q (.ref p) s2) :
    wpAny (model P w) A (call (.builtin "sorted") [.ref a]) Q E s := by
  obtain ⟨fi, sz⟩ := R.fits
  obtain ⟨⟨o, ho, hex, hd⟩, rw_, tb, nd, tup, pl, led, rm, most⟩ := R
  refine Calls.call_function_entry kind_sorted plain_sorted entry_sorted (args_sorted1 _) ?_
  unfold Builtin.«sorted»
  refine wpAny_bind (m := checkCount "sorted" 1 1 _) (wpAny_pure ?_)
  refine wpAny_bind (collect_set (A := A.in1) hh ⟨o, ho, hex.1, hd⟩ fi (by unfold scanBound; omega) tb.ris led fun s1 vs k1 z1 g1 o1 pm => ?_)
  have e1 : es.toList.map (·.2) = L.map fun q => Value.ref q.1 := by
    rw [rw_]; unfold rowsOf; rw [List.map_map]; rfl
  rw [e1] at pm
  obtain ⟨M, rfl, pM⟩ := perm_map_inv pm
  have lM : M.length = L.length := pM.length_eq
  refine wpAny_bind (wpAny_newList ?_ (by rw [List.length_map, lM, sizeLine_eq]; omega))
  generalize hvs : (M.map fun q => Value.ref q.1) = vs
  have hoL : (s1.heap.push (seqObj "list" vs.toArray 0)).get? s1.heap.objs.size = some (seqObj "list" vs.toArray 0) := Heap.get?_push_size _ rfl
  have memM : ∀ q ∈ M, q ∈ L := fun q hq => pM.mem_iff.mp hq
  have er : PySem.W.EachIs (fun v q => ∃ as, Reads (s1.heap.push (seqObj "list" vs.toArray 0)) v (tupE q) as ∧ s1.heap.objs.size ∉ as) vs M := by
    have key : ∀ N : List (Addr × List Int), (∀ q ∈ N, q ∈ L) → PySem.W.EachIs (fun v q => ∃ as, Reads (s1.heap.push (seqObj "list" vs.toArray 0)) v (tupE q) as ∧ s1.heap.objs.size ∉ as) (N.map fun q => Value.ref q.1) N := fun N => by
      induction N with
      | nil => exact fun _ => .nil
      | cons q N ih => exact fun hN => .cons ⟨[], isT_reads (isT_keep (tup q (hN q List.mem_cons_self)) fun b u e => Heap.get?_push_of_some _ (k1 b u e)), List.not_mem_nil⟩ (ih fun q hq => hN q (List.mem_cons_of_mem _ hq))
    have z := key M memM
    rw [hvs] at z
    exact z
  have nem : ∀ q ∈ M, ∃ x r, tupE q = .tuple (x :: r) := fun q hq => by
    have := (hB q (memM q hq)).1
    cases e : q.2 with
    | nil => rw [e] at this; simp at this; omega
    | cons x r => exact ⟨.int x, r.map .int, by unfold tupE; rw [e]; rfl⟩
  refine wpAny_bind (wpAny_holding (PySem.W.list_sort_data (enc := tupE) (R := fun u q => u = Value.ref q.1) (s := { s1 with heap := s1.heap.push (seqObj "list" vs.toArray 0) }) hoL (hvs ▸ each_refs M) er
    (PySem.W.AllAlike.of fun b b' => by unfold tupE; simp only [PySem.W.alike]; exact PySem.W.alike_ints _ _) (.inl fun x hx => by
      obtain ⟨q, hq, rfl⟩ := List.mem_map.mp hx
      exact nem q hq) (by rw [lM, sizeLine_eq]; omega) (fun q hq => ?_) fun out lo eo => ?_))
  · have : (tupE q).depth ≤ 1 := by
      unfold tupE
      simp only [PyData.depth]
      rw [PySem.W.depth_ints]
      omega
    show A.units + 1 + 1 + _ < cLine
    omega
  · obtain ⟨c, hc⟩ := sortedHeap_at (vs := vs) (out := out.toArray) hoL
    have pw : (M.mergeSort (PySem.W.dataLe false tupE)).Pairwise fun q r => q.2 ≤ r.2 := by
      rw [dataLe_tupE]
      have := List.pairwise_mergeSort (le := fun (p q : Addr × List Int) => decide (p.2 ≤ q.2)) (fun a b c h1 h2 => by
        simp only [decide_eq_true_eq] at h1 h2 ⊢
        exact List.le_trans h1 h2) (fun a b => by
        simp only [Bool.or_eq_true, decide_eq_true_eq]
        exact List.le_total _ _) M
      exact this.imp fun h => of_decide_eq_true h
    have pM2 : (M.mergeSort (PySem.W.dataLe false tupE)).Perm M := List.mergeSort_perm _ _
    refine wpAny_pure ⟨_, rfl, fin _ s1.heap.objs.size out c _ (fun b u e => ?_) g1 o1 z1 hc (refs_each eo) (pM2.trans pM) (pw.imp_of_mem fun {q r} hq hr h => ?_)⟩
    · have q := k1 b u e
      have lt := Heap.lt_size q
      show (sortedHeap (s1.heap.push (seqObj "list" vs.toArray 0)) s1.heap.objs.size vs out.toArray).get? b = some u
      rw [sortedHeap_old (Nat.ne_of_lt lt) (by rw [size_push']; exact Nat.lt_succ_of_lt lt)]
      exact Heap.get?_push_of_some _ q
    · obtain ⟨a1, a2⟩ := hB q (memM q (pM2.mem_iff.mp hq))
      obtain ⟨b1, b2⟩ := hB r (memM r (pM2.mem_iff.mp hr))
      exact lex_code (by rw [a1, b1]) a2 b2 h
end
/-! ### in the hand layer -/
def SetXO (P : Program) (w : World) (a : Addr) (L : List (Addr × List Int)) : HO := .ext fun h => (∃ (es : Array (Int × Value)) (ep : Nat) (t : SetTable), (∃ o, h.get? a = some o ∧ o.ExactSet ∧ o.data = .set es ep t) ∧ es.toList = rowsOf P w L ∧ TabOk t (L.map fun p => thash P w p.2) ∧ (L.map (·.2)).Nodup ∧ t.plain = true ∧
    (w.params.followText "set-order" = true ∨ t.led = true) ∧ L.length * 5 < t.mask * 3 ∧ L.length ≤ 64)
theorem setXO_new {P : Program} {w : World} {H : Hp} {h : Heap} {a : Addr} {L : List (Addr × List Int)} {es : Array (Int × Value)} {ep : Nat} {t : SetTable} (R : SetTX P w h a L es ep t) : ObjOk P w H h a (SetXO P w a L) := by
  obtain ⟨⟨o, ho, r1⟩, r2, r3, r4, _, r6, r7, r8, r9⟩ := R
  refine ⟨⟨es, ep, t, ⟨o, ho, r1⟩, r2, r3, r4, r6, r7, r8, r9⟩, ⟨o, ho⟩, fun h1 h2 p k => ?_⟩
  obtain ⟨es', ep', t', ⟨o', ho', q1⟩, q⟩ := p
  exact ⟨es', ep', t', ⟨o', k o' ho', q1⟩, q⟩
section
variable {X : Cx}
/-- set(xs), xs a list or a tuple of up to 64 -/
def rSetX (K : PySem.W.Frag) (P : Program) (w : World) : List V → Hp → VK → Prop := fun xs H Q => ∃ (l : Addr) (ks : List (Addr × List Int)), xs = [V.ref l] ∧ (SqL K H l (ks.map fun p => V.ref p.1) ∨ SqT K H l (ks.map fun p => V.ref p.1)) ∧ ks.length ≤ 64 ∧ (∀ p ∈ ks, SqT K H p.1 (p.2.map V.int)) ∧
  ∀ a L, H a = none → (∀ p ∈ L, p ∈ ks) → (∀ p ∈ ks, p.2 ∈ L.map (·.2)) → Q (.ref a) (upd H a (SetXO P w a L))
theorem cr_setX (hc : X.calm = true) (hu : X.A.units + 64 < cLine) : CallR X (.type "set") (rSetX X.K X.prog X.w) := by
  intro pins s σ H xs us Q I r h
  obtain ⟨l, ks, rfl, hl, hf, hk, q⟩ := h
  have hn : H s.heap.objs.size = none := I.hok.fresh (Nat.le_refl _)
  have sub : ∀ L, Got ks ks.length L → ∀ p ∈ ks, p.2 ∈ L.map (·.2) := fun L g p hp => g.all p (by rw [List.take_length]; exact hp)
  rw [Vals.ref1 r]
  rcases hl with hl | hl
  · obtain ⟨its, rv, pl, hz⟩ := I.list hl
    refine call_set_xl (P := X.prog) (w := X.w) ks (I.ok.hd hc) pl.isList (by simpa using refs_of_vals rv) (fun p hp => I.isT (hk p hp)) hf (by omega) fun h' tk L es ep t R g k => ?_
    exact ⟨.ref s.heap.objs.size, _, I.laid (t' := tk) k (Nat.le_refl _) (setXO_new R), rfl, q _ L hn (fun p hp => List.mem_of_mem_take (g.sub p hp)) (sub L g)⟩
  · obtain ⟨its, rv, pl, hz⟩ := I.tuple hl
    refine call_set_x (P := X.prog) (w := X.w) ks (I.ok.hd hc) pl (by simpa using refs_of_vals rv) (fun p hp => I.isT (hk p hp)) hf (by omega) fun h' tk L es ep t R g k => ?_
    exact ⟨.ref s.heap.objs.size, _, I.laid (t' := tk) k (Nat.le_refl _) (setXO_new R), rfl, q _ L hn (fun p hp => List.mem_of_mem_take (g.sub p hp)) (sub L g)⟩
/-- sorted(set), the tuples of d ints in [0, 64) -/
def rSortX (K : PySem.W.Frag) (P : Program) (w : World) : List V → Hp → VK → Prop := fun vs H Q => ∃ (a : Addr) (L : List (Addr × List Int)) (d : Nat), vs = [V.ref a] ∧ H a = some (SetXO P w a L) ∧ (∀ p ∈ L, SqT K H p.1 (p.2.map V.int)) ∧ 1 ≤ d ∧ (∀ p ∈ L, p.2.length = d ∧ TS.Bd 64 p.2) ∧
  ∀ (M : List (Addr × List Int)) (p : Addr), M.Perm L → (M.map (·.2)).Nodup → M.length ≤ 64 → M.Pairwise (fun q r => TS.code 64 q.2 ≤ TS.code 64 r.2) → H p = none → Q (.ref p) (upd H p (.lst (M.map fun q => V.ref q.1)))
theorem cr_sortX (hc : X.calm = true) (hu : X.A.units + 64 < cLine) : CallR X (.builtin "sorted") (rSortX X.K X.prog X.w) := by
  intro pins s σ H vs us Q I r h
  obtain ⟨a, L, d, rfl, ha, hk, hd, hB, q⟩ := h
  obtain ⟨⟨es, ep, t, r1, r2, r3, r4, r6, r7, r8, r9⟩, _⟩ := I.hok a _ ha
  have R : SetTX X.prog X.w s.heap a L es ep t := ⟨r1, r2, r3, r4, fun p hp => I.isT (hk p hp), r6, r7, r8, r9⟩
  rw [Vals.ref1 r]
  refine sorted_setX R (I.ok.hd hc) (by omega) hB hd fun s2 p out c M k g o hp hg hout pm pw => ?_
  have few : M.length ≤ 64 := by rw [pm.length_eq]; exact r9
  have len : (M.map fun q => V.ref q.1).length ≤ sizeLine := by rw [List.length_map, sizeLine_eq]; omega
  have hn : H p = none := I.hok.fresh hp
  have hv : Vals (M.map fun q => V.ref q.1) out := by rw [hout]; exact vals_of_refs M
  have J := I.call (g' := s2.gens) (d' := s2.drawn) (t' := s2.toks) (ch := []) (Un.laid k hp hn) (I.hok.laid k hp (o := .lst (M.map fun q => V.ref q.1)) ⟨len, out, c, hv, hg⟩) (by rw [g]; exact I.bare) (fun _ z => nomatch z)
  obtain ⟨h2, g2, d2, t2, o2⟩ := s2
  obtain rfl : o2 = s.os := o
  exact ⟨.ref p, _, J, rfl, q M p pm ((pm.map (·.2)).nodup_iff.mpr r4) few pw hn⟩
end
end L2

-- DSort
/-! DSort: sorted(set(x)) as an expression. -/
namespace DL
open PySem L2
theorem ints_is : ∀ {ds : List PyData} {ns : List Int}, ds.mapM intOf = some ns → ds = ns.map PyData.int
  | [], ns, e => by
    simp only [List.mapM_nil, Option.pure_def, Option.some.injEq] at e
    subst e
    rfl
  | x :: ds, ns, e => by
    simp only [List.mapM_cons, Option.pure_def, Option.bind_eq_bind, Option.bind_eq_some_iff, Option.some.injEq] at e
    obtain ⟨n, e1, ms, e2, rfl⟩ := e
    rw [ints_is e2]
    unfold intOf at e1
    split at e1
    · cases e1
      rfl
    · cases e1
theorem intTup_is {x : PyData} {ns : List Int} (h : intTup x = some ns) : x = tupI ns := by
  unfold intTup at h
  split at h
  · rw [ints_is h]
    rfl
  · cases h
theorem tups_rep {K : PySem.W.Frag} {H : Hp} {F P : Addr → Prop} : ∀ {ds : List PyData} {ks : List (List Int)} {vs : List V}, ds.mapM intTup = some ks → RepL K H F P ds vs →
    ∃ kz : List (Addr × List Int), vs = (kz.map fun p => V.ref p.1) ∧ ks = kz.map (·.2) ∧ ∀ p ∈ kz, SqT K H p.1 (p.2.map V.int) ∧ RepD K H F P (tupI p.2) (.ref p.1)
  | [], ks, _, e, .nil => by
    simp only [List.mapM_nil, Option.pure_def, Option.some.injEq] at e
    subst e
    exact ⟨[], rfl, rfl, fun _ h => by cases h⟩
  | x :: ds, ks, _, e, .cons h t => by
    simp only [List.mapM_cons, Option.pure_def, Option.bind_eq_bind, Option.bind_eq_some_iff, Option.some.injEq] at e
    obtain ⟨n, e1, ms, e2, rfl⟩ := e
    obtain ⟨kz, h1, h2, h3⟩ := tups_rep e2 t
    have ex := intTup_is e1
    subst ex
    obtain ⟨a, us, rfl, hs, hl, rl⟩ := RepD.tuple (xs := n.map PyData.int) h
    have eu : us = n.map V.int := mapM_ints (ns := n) (by clear e1 h rl; induction n with
      | nil => rfl
      | cons i n ih => simp only [List.map_cons, List.mapM_cons, ih]; rfl) rl
    subst eu
    refine ⟨(a, n) :: kz, by rw [h1]; rfl, by rw [h2]; rfl, fun p hp => ?_⟩
    rcases List.mem_cons.mp hp with rfl | hp
    · exact ⟨hs, h⟩
    · exact h3 p hp
theorem code_eq : ∀ ns : List Int, TS.code 64 ns = codeI ns
  | [] => rfl
  | d :: r => by
    show d * 64 ^ r.length + TS.code 64 r = d * 64 ^ r.length + codeI r
    rw [code_eq r]
theorem code_inj : ∀ {a b : List Int}, a.length = b.length → TS.Bd 64 a → TS.Bd 64 b → codeI a = codeI b → a = b
  | [], [], _, _, _, _ => rfl
  | [], _ :: _, h, _, _, _ => by simp at h
  | _ :: _, [], h, _, _, _ => by simp at h
  | d :: r, e :: q, h, h1, h2, hc => by
    have hl : r.length = q.length := by simpa using h
    have hc' : TS.code 64 (d :: r) = TS.code 64 (e :: q) := by rw [code_eq, code_eq, hc]
    have de : d = e := by
      rcases Int.lt_trichotomy d e with z | z | z
      · have := TS.code_lt hl h1.tail h2.tail z
        omega
      · exact z
      · have := TS.code_lt hl.symm h2.tail h1.tail z
        omega
    subst de
    have : codeI (d :: r) = codeI (d :: q) := hc
    unfold codeI at this
    rw [hl] at this
    rw [code_inj hl h1.tail h2.tail (by omega)]
theorem mem_dedup {x : List Int} : ∀ {ks : List (List Int)}, x ∈ dedupI ks ↔ x ∈ ks
  | [] => Iff.rfl
  | k :: ks => by
    unfold dedupI
    split
    · rename_i h
      rw [mem_dedup, List.mem_cons]
      exact ⟨.inr, fun z => z.elim (fun z => z ▸ h) id⟩
    · rw [List.mem_cons, List.mem_cons, mem_dedup]
theorem nodup_dedup : ∀ ks : List (List Int), (dedupI ks).Nodup
  | [] => .nil
  | k :: ks => by
    unfold dedupI
    split
    · exact nodup_dedup ks
    · rename_i h
      exact List.nodup_cons.mpr ⟨fun z => h (mem_dedup.mp z), nodup_dedup ks⟩
theorem sortC_perm (ks : List (List Int)) : (sortC ks).Perm (dedupI ks) := List.mergeSort_perm _ _
theorem mem_sortC {x : List Int} {ks : List (List Int)} : x ∈ sortC ks ↔ x ∈ ks := (sortC_perm ks).mem_iff.trans mem_dedup
theorem nodup_sortC (ks : List (List Int)) : (sortC ks).Nodup := (sortC_perm ks).nodup_iff.mpr (nodup_dedup ks)
theorem sorted_sortC (ks : List (List Int)) : (sortC ks).Pairwise fun x y => codeI x ≤ codeI y := by
  have := List.pairwise_mergeSort (le := fun (x y : List Int) => decide (codeI x ≤ codeI y)) (fun a b c h1 h2 => by simp only [decide_eq_true_eq] at h1 h2 ⊢; omega) (fun a b => by simp only [Bool.or_eq_true, decide_eq_true_eq]; omega) (dedupI ks)
  exact this.imp fun h => of_decide_eq_true h
theorem sortC_only {ks L : List (List Int)} {d : Nat} (hb : ∀ k ∈ ks, k.length = d ∧ TS.Bd 64 k) (hn : L.Nodup) (hm : ∀ k, k ∈ L ↔ k ∈ ks) (hp : L.Pairwise fun x y => codeI x ≤ codeI y) : L = sortC ks := by
  refine List.Perm.eq_of_pairwise (le := fun x y => codeI x ≤ codeI y) (fun a b ha hb' h1 h2 => ?_) hp (sorted_sortC ks) ((List.perm_ext_iff_of_nodup hn (nodup_sortC ks)).mpr fun k => (hm k).trans mem_sortC.symm)
  obtain ⟨l1, b1⟩ := hb a ((hm a).mp ha)
  obtain ⟨l2, b2⟩ := hb b (mem_sortC.mp hb')
  exact code_inj (by rw [l1, l2]) b1 b2 (by omega)
section
variable {X : Cx} {T : List (Addr × Str)} {cls : Nat → Value} {Ex : XK} {C : Cfg} {φ φ2 : Phi} {w : Wd} {H : Hp} {st : Store} {σ : St} {x1 : Expr} {a : E}
theorem laid_keep {H : Hp} {p : Addr} {o : HO} {K : PySem.W.Frag} {b : Addr} {vs : List V} (hp : H p = none) (h : SqT K H b vs) : SqT K (upd H p o) b vs := by
  rcases h with h | h
  · refine .inl (h.elim (fun h => .inl ?_) (fun ⟨ob, h⟩ => .inr ⟨ob, ?_⟩)) <;> (rw [upd_ne (ne_of_none h hp)]; exact h)
  · exact .inr h
theorem pe_ss {p p2 pos pos2 : Pos} (hc : X.calm = true) (hu : X.A.units + 64 < cLine) (hg : Gl X "sorted") (hm : X.mg "sorted" = none) (hg2 : Gl X "set") (hm2 : X.mg "set" = none) (h1 : PE X x1 (TEx X T cls Ex C φ φ2 a)) (hs : notStar x1 = true) :
    PE X (.Call (.Name "sorted" p) [.Call (.Name "set" p2) [x1] [] pos2] [] pos) (TEx X T cls Ex C φ φ2 (.bl .sortset (oneE a))) :=
  PE.imp (pe_callB (cr_sortX hc hu) hg hm (by decide +kernel) (pa_cons (pe_callTy (cr_setX hc hu) hg2 hm2 (by decide +kernel) (pa_consX h1 pa_nilX hs) (by decide) (by decide) (star_cons hs [] X.env) rfl) pa_nil rfl) (by decide) (by decide) rfl rfl) fun σ H Q h => by
    obtain ⟨w, env, st, j, en, h⟩ := h
    rw [den] at h
    refine ⟨w, env, st, j, en, (OkG.bind (R := RepVs X.K) h).imp fun ys H1 ⟨w1, st1, rvs, s1, j1, r1, h1⟩ => ?_⟩
    dsimp only [blt] at h1
    unfold bSortset at h1
    split at h1
    · rename_i rv
      obtain ⟨y, rfl, ry⟩ := RepVs.one r1
      cases hf : flat st1 rv with
      | none => rw [hf] at h1; exact h1.elim
      | some q =>
        rw [hf] at h1
        simp only [Option.bind_some] at h1
        cases hk : q.2.mapM intTup with
        | none => rw [hk] at h1; exact h1.elim
        | some ks =>
          rw [hk] at h1
          simp only [Option.bind_some] at h1
          split at h1
          · rename_i hok
            obtain ⟨l, vs, rfl, hl, rl, _⟩ := flat_view j1 ry hf
            obtain ⟨kz, rfl, rfl, hz⟩ := tups_rep hk rl
            unfold cellsOk at hok
            simp only [Bool.and_eq_true, decide_eq_true_eq, List.all_eq_true, List.length_map] at hok
            obtain ⟨⟨o1, o2⟩, o3⟩ := hok
            refine ⟨l, kz, rfl, hl, o1, fun p hp => (hz p hp).1, fun b L hb c1 c2 => ?_⟩
            have bd : ∀ p ∈ kz, p.2.length = dimOf (kz.map (·.2)) ∧ TS.Bd 64 p.2 := fun p hp => by
              obtain ⟨q1, q2⟩ := o3 p.2 (List.mem_map_of_mem hp)
              exact ⟨q1, fun m hm => q2 m hm⟩
            refine ⟨b, L, dimOf (kz.map (·.2)), rfl, upd_same, fun p hp => laid_keep hb (hz p (c1 p hp)).1, o2, fun p hp => bd p (c1 p hp), fun L' p pm nd hfew pw hp => ?_⟩
            have hbp : p ≠ b := fun z => by rw [z, upd_same] at hp; cases hp
            have e : L'.map (·.2) = sortC (kz.map (·.2)) := by
              refine sortC_only (d := dimOf (kz.map (·.2))) (fun k hk => ?_) nd (fun k => ?_) ?_
              · obtain ⟨p, hp, rfl⟩ := List.mem_map.mp hk
                exact bd p hp
              · constructor
                · intro z
                  obtain ⟨p, hp, rfl⟩ := List.mem_map.mp z
                  exact List.mem_map_of_mem (c1 p (pm.mem_iff.mp hp))
                · intro z
                  obtain ⟨p, hp, rfl⟩ := List.mem_map.mp z
                  obtain ⟨q, hq, eq⟩ := List.mem_map.mp (c2 p hp)
                  exact List.mem_map.mpr ⟨q, pm.mem_iff.mpr hq, eq⟩
              · refine List.Pairwise.map _ (fun a b h => ?_) pw
                rw [← code_eq, ← code_eq]
                exact h
            have sa : Stp w1 w1 H1 (upd H1 b (SetXO X.prog X.w b L)) := Stp.fresh hb
            have ja := j1.fresh (o := SetXO X.prog X.w b L) hb (fun ps z => by unfold SetXO at z; cases z)
            have sb : Stp w1 w1 (upd H1 b (SetXO X.prog X.w b L)) (upd (upd H1 b (SetXO X.prog X.w b L)) p (.lst (L'.map fun q => V.ref q.1))) := Stp.fresh hp
            have jb := ja.fresh (o := .lst (L'.map fun q => V.ref q.1)) hp (fun ps z => by cases z)
            obtain ⟨hfree, hn⟩ := ja.freshP hp
            refine h1 _ _ _ (sa.trans sb) jb ?_
            rw [← e]
            have reps : ∀ M : List (Addr × List Int), (∀ p ∈ M, p ∈ kz) → RepL X.K (upd (upd H1 b (SetXO X.prog X.w b L)) p (.lst (L'.map fun q => V.ref q.1))) w1.free (w1.ok (upd (upd H1 b (SetXO X.prog X.w b L)) p (.lst (L'.map fun q => V.ref q.1))) q.1) ((M.map (·.2)).map tupI) (M.map fun q => V.ref q.1) := fun M => by
              induction M with
              | nil => exact fun _ => .nil
              | cons m M ih => exact fun hM => .cons (RepD.stp (sa.trans sb) (hz m (hM m List.mem_cons_self)).2) (ih fun p hp => hM p (List.mem_cons_of_mem _ hp))
            have nol : noLs ((L'.map (·.2)).map tupI) = true := by
              generalize L'.map (·.2) = M
              induction M with
              | nil => rfl
              | cons m M ih =>
                simp only [List.map_cons, noLs, Bool.and_eq_true, ih, and_true]
                unfold tupI
                simp only [noL]
                induction m with
                | nil => rfl
                | cons i m ih => simp only [List.map_cons, noLs, noL, ih, Bool.and_self]
            have rn := rep_newList (K := X.K) (w := w1) (g := q.1) upd_same hfree hn (by rw [List.length_map, sizeLine_eq]; omega) (reps L' fun p hp => c1 p (pm.mem_iff.mp hp))
            unfold lstG at rn
            rw [if_pos nol] at rn
            exact rn
          · exact h1.elim
    · exact h1.elim
end
end DL

-- DInt
/-! DInt: sorted(set(t)) of a tuple of whole numbers; tuple(range(n)). -/
namespace DL
open PySem L2
theorem mem_dedupZ {x : Int} : ∀ {ns : List Int}, x ∈ dedupZ ns ↔ x ∈ ns
  | [] => Iff.rfl
  | k :: ns => by
    unfold dedupZ
    split
    · rename_i h
      rw [mem_dedupZ, List.mem_cons]
      exact ⟨.inr, fun z => z.elim (fun z => z ▸ h) id⟩
    · rw [List.mem_cons, List.mem_cons, mem_dedupZ]
theorem nodup_dedupZ : ∀ ns : List Int, (dedupZ ns).Nodup
  | [] => .nil
  | k :: ns => by
    unfold dedupZ
    split
    · exact nodup_dedupZ ns
    · rename_i h
      exact List.nodup_cons.mpr ⟨fun z => h (mem_dedupZ.mp z), nodup_dedupZ ns⟩
theorem sortZ_only {ns L : List Int} (hp : L.Pairwise (· < ·)) (hm : ∀ k, k ∈ L ↔ k ∈ ns) : L = sortZ ns := by
  have q := List.pairwise_mergeSort (le := fun (x y : Int) => decide (x ≤ y)) (fun a b c h1 h2 => by simp only [decide_eq_true_eq] at h1 h2 ⊢; omega) (fun a b => by simp only [Bool.or_eq_true, decide_eq_true_eq]; omega) (dedupZ ns)
  have pm : (sortZ ns).Perm (dedupZ ns) := List.mergeSort_perm _ _
  refine List.Perm.eq_of_pairwise (le := fun x y => x ≤ y) (fun a b _ _ h1 h2 => by omega) (hp.imp fun h => by omega) (q.imp fun h => of_decide_eq_true h) ((List.perm_ext_iff_of_nodup (hp.imp fun h => by omega) (pm.nodup_iff.mpr (nodup_dedupZ ns))).mpr fun k => (hm k).trans ?_)
  exact mem_dedupZ.symm.trans pm.mem_iff.symm
theorem noLs_ints (ns : List Int) : noLs (ns.map PyData.int) = true := by
  induction ns with
  | nil => rfl
  | cons i ns ih => simp only [List.map_cons, noLs, noL, ih, Bool.and_self]
section
variable {X : Cx} {T : List (Addr × Str)} {cls : Nat → Value} {Ex : XK} {C : Cfg} {φ φ2 : Phi} {w : Wd} {H : Hp} {st : Store} {σ : St} {x1 : Expr} {a : E} {K : PySem.W.Frag}
/-- set(t), t a tuple of whole numbers -/
def rSetTI (K : PySem.W.Frag) (w : World) : List V → Hp → VK → Prop := fun xs H Q => ∃ (p : Addr) (ns : List Int), xs = [V.ref p] ∧ SqT K H p (ns.map V.int) ∧ ns.length < 64 ∧ ∀ b c, H b = none → c ≤ ns.length → Q (.ref b) (upd H b (SetO w b (fun j => decide (j ∈ ns)) c))
theorem cr_setTI (hc : X.calm = true) : CallR X (.type "set") (rSetTI X.K X.w) := by
  intro pins s σ H xs us Q I r h
  obtain ⟨p, ns, rfl, hl, hf, q⟩ := h
  rw [Vals.ref1 r]
  obtain ⟨its, rv, pt, hz⟩ := I.tuple hl
  have hn : H s.heap.objs.size = none := I.hok.fresh (Nat.le_refl _)
  refine call_set_tupI ns (I.ok.hd hc) (show s.heap.IsTuple p its.toArray from pt) (ints_of_vals rv) (by unfold scanBound; omega) fun h' tk c R1 hcn k => ?_
  exact ⟨.ref s.heap.objs.size, upd H s.heap.objs.size (SetO X.w s.heap.objs.size (fun j => decide (j ∈ ns)) c), I.laid (t' := tk) k (Nat.le_refl _) (setO_new R1), rfl, q _ c hn hcn⟩
theorem ints_rep {P F : Addr → Prop} : ∀ {xs : List PyData} {ns : List Int} {vs : List V}, xs.mapM intOf = some ns → RepL K H F P xs vs → vs = ns.map V.int ∧ xs = ns.map PyData.int
  | [], ns, vs, e, r => by
    simp only [List.mapM_nil, Option.pure_def, Option.some.injEq] at e
    subst e
    cases r
    exact ⟨rfl, rfl⟩
  | x :: xs, ns, vs, e, r => by
    simp only [List.mapM_cons, Option.pure_def, Option.bind_eq_bind, Option.bind_eq_some_iff, Option.some.injEq] at e
    obtain ⟨i, e1, r', e2, rfl⟩ := e
    cases r with
    | cons h t =>
      obtain ⟨h1, h2⟩ := ints_rep e2 t
      cases x with
      | int j =>
        simp only [intOf, Option.some.injEq] at e1
        subst e1
        obtain rfl := RepD.intV h
        rw [h1, h2]
        exact ⟨rfl, rfl⟩
      | _ => cases e1
theorem repL_ints {P F : Addr → Prop} : ∀ ns : List Int, RepL K H F P (ns.map PyData.int) (ns.map V.int)
  | [] => .nil
  | i :: ns => .cons (.int i) (repL_ints ns)
theorem pe_ssI {p p2 pos pos2 : Pos} (hc : X.calm = true) (hg : Gl X "sorted") (hm : X.mg "sorted" = none) (hg2 : Gl X "set") (hm2 : X.mg "set" = none) (h1 : PE X x1 (TEx X T cls Ex C φ φ2 a)) (hs : notStar x1 = true) :
    PE X (.Call (.Name "sorted" p) [.Call (.Name "set" p2) [x1] [] pos2] [] pos) (TEx X T cls Ex C φ φ2 (.bl .sortsi (oneE a))) :=
  PE.imp (pe_callB (cr_sortedSet hc) hg hm (by decide +kernel) (pa_cons (pe_callTy (cr_setTI hc) hg2 hm2 (by decide +kernel) (pa_consX h1 pa_nilX hs) (by decide) (by decide) (star_cons hs [] X.env) rfl) pa_nil rfl) (by decide) (by decide) rfl rfl) fun σ H Q h => by
    obtain ⟨w, env, st, j, en, h⟩ := h
    rw [den] at h
    refine ⟨w, env, st, j, en, (OkG.bind (R := RepVs X.K) h).imp fun ys H1 ⟨w1, st1, rvs, s1, j1, r1, h1⟩ => ?_⟩
    dsimp only [blt] at h1
    unfold bSortsi at h1
    split at h1
    · rename_i g xs
      obtain ⟨y, rfl, ry⟩ := RepVs.one r1
      obtain ⟨l, vs, rfl, hl, hz, rl⟩ := RepD.tuple ry
      cases hk : xs.mapM intOf with
      | none => rw [hk] at h1; exact h1.elim
      | some ns =>
        rw [hk] at h1
        simp only [Option.bind_some] at h1
        split at h1
        · rename_i hok
          obtain ⟨rfl, rfl⟩ := ints_rep hk rl
          refine ⟨l, ns, rfl, hl, hok, fun b c hb hcn => ?_⟩
          refine ⟨b, _, c, rfl, upd_same, by omega, fun out p hpw hmem hlen hp => ?_⟩
          have e : out = sortZ ns := sortZ_only hpw fun k => (hmem k).trans (by simp)
          have sa : Stp w1 w1 H1 (upd H1 b (SetO X.w b (fun j => decide (j ∈ ns)) c)) := Stp.fresh hb
          have ja := j1.fresh (o := SetO X.w b (fun j => decide (j ∈ ns)) c) hb (fun ps z => by unfold SetO at z; cases z)
          have sb : Stp w1 w1 (upd H1 b (SetO X.w b (fun j => decide (j ∈ ns)) c)) (upd (upd H1 b (SetO X.w b (fun j => decide (j ∈ ns)) c)) p (.lst (out.map V.int))) := Stp.fresh hp
          have jb := ja.fresh (o := .lst (out.map V.int)) hp (fun ps z => by cases z)
          obtain ⟨hfree, hn⟩ := ja.freshP hp
          refine h1 _ _ _ (sa.trans sb) jb ?_
          rw [← e]
          have rn := rep_newList (K := X.K) (w := w1) (H := upd (upd H1 b (SetO X.w b (fun j => decide (j ∈ ns)) c)) p (.lst (out.map V.int))) (g := .pur) upd_same hfree hn (by rw [List.length_map, sizeLine_eq]; omega) (repL_ints out)
          unfold lstG at rn
          rw [if_pos (noLs_ints out)] at rn
          exact rn
        · exact h1.elim
    · exact h1.elim
theorem den_trng {env : Env} : den C φ φ2 (.bl .trng (oneE a)) env st = (den C φ φ2 a env st).bind fun v st1 => Res.ofOpt (bTrng [v]) st1 := by
  unfold oneE
  rw [den, denL]
  cases den C φ φ2 a env st with
  | ok v st1 =>
    simp only [Res.bind_ok]
    rw [denL]
    simp only [Res.bind_ok]
    rfl
  | exc k st1 => rfl
  | bad => rfl
/-- tuple(range(n)) -/
theorem pe_trng {p p2 pos pos2 : Pos} (hc : X.calm = true) (hg : Gl X "tuple") (hm : X.mg "tuple" = none) (hg2 : Gl X "range") (hm2 : X.mg "range" = none) (h1 : PE X x1 (TEx X T cls Ex C φ φ2 a)) (hs : notStar x1 = true) :
    PE X (.Call (.Name "tuple" p) [.Call (.Name "range" p2) [x1] [] pos2] [] pos) (TEx X T cls Ex C φ φ2 (.bl .trng (oneE a))) :=
  PE.imp (pe_tupRg hc hg hm (prg_1 hg2 hm2 h1 (na := star_cons hs [] X.env))) fun σ H Q h => by
    obtain ⟨w, env, st, j, en, h⟩ := h
    rw [den_trng] at h
    refine ⟨w, env, st, j, en, (OkG.bind (R := RepV X.K) h).imp fun y H1 ⟨w1, st1, rv, s1, j1, r1, h1⟩ => ?_⟩
    unfold bTrng at h1
    split at h1
    · rename_i e
      cases e
      obtain rfl := RepD.intV r1
      rename_i g n _
      split at h1
      · rename_i hb
        refine ⟨n, rfl, ⟨by omega, by omega, by omega, by omega, by omega⟩, fun q hq => ?_⟩
        have s2 : Stp w1 w1 H1 (upd H1 q (.tup (rgV 0 n))) := Stp.fresh hq
        refine h1 w1 _ _ s2 (j1.fresh hq fun ps z => by cases z) ?_
        have e : rgV 0 n = ((List.range n.toNat).map fun (i : Nat) => (i : Int)).map V.int := by
          unfold rgV
          rw [List.map_map, Int.sub_zero]
          refine List.map_congr_left fun i _ => ?_
          show V.int (0 + (i : Int)) = V.int (i : Int)
          rw [Int.zero_add]
        have e2 : ((List.range n.toNat).map fun (i : Nat) => PyData.int i) = ((List.range n.toNat).map fun (i : Nat) => (i : Int)).map PyData.int := by
          rw [List.map_map]
          rfl
        rw [e2, e]
        exact RepD.tup (.inl upd_same) (j1.freshP hq).1 (by rw [List.length_map, List.length_map, List.length_range, sizeLine_eq]; omega) (repL_ints _)
      · exact h1.elim
    · exact h1.elim
end
end DL

-- DRev
/-! DRev: t[::-1] of a tuple, of a list. -/
namespace L2
open PySem PySem.Spec PyProof.Rows
section
variable {prog : Program} {w : World} {A : Around} {E : Value → Shared → Prop} {s : Shared}
theorem sliceApplied_rev {sl : Addr} {vl vu vs : Value} {n : Nat} {Q : Int × Int × Nat → Shared → Prop} (hs : s.heap.IsSliceOf sl vl vu vs) (pl : IsPart vl none) (pu : IsPart vu none) (ps : IsPart vs (some (-1)))
    (h : Q ((n : Int) - 1, -1, n) s) : wpAny (model prog w) A (Builtin.Slice.sliceApplied (.ref sl) (pure (n : Int))) Q E s := by
  obtain ⟨os, hos, hcs, hds⟩ := id hs
  unfold Builtin.Slice.sliceApplied Builtin.Slice.sliceFields
  refine wpAny_bind (wpAny_bind (wpAny_field hos hds (x := vl) rfl (wpAny_bind (wpAny_field hos hds (x := vu) rfl (wpAny_bind (wpAny_field hos hds (x := vs) rfl (wpAny_pure ?_)))))))
  refine wpAny_bind (HT.slicePart_ ps ?_)
  show wpAny _ _ (if ((-1 : Int) == 0) = true then _ else _) _ _ s
  rw [if_neg (by decide)]
  refine wpAny_bind (HT.slicePart_ pl (wpAny_bind (HT.slicePart_ pu (wpAny_bind (wpAny_pure ?_)))))
  show wpAny _ _ (match Builtin.Slice.sliceAdjust none none (-1) (n : Int) with | (lo, hi) => pure (lo, (-1 : Int), Builtin.Slice.slicePlaces lo hi (-1))) _ _ s
  have e1 : Builtin.Slice.sliceAdjust none none (-1) (n : Int) = ((n : Int) - 1, -1) := by
    unfold Builtin.Slice.sliceAdjust
    rfl
  rw [e1]
  show wpAny _ _ (pure ((n : Int) - 1, (-1 : Int), Builtin.Slice.slicePlaces ((n : Int) - 1) (-1) (-1))) _ _ s
  have e2 : Builtin.Slice.slicePlaces ((n : Int) - 1) (-1) (-1) = n := by
    unfold Builtin.Slice.slicePlaces
    have h1 : ¬ ((-1 : Int) > 0) := by omega
    have h2 : (- -1 : Int) = 1 := by decide
    simp only [h1, if_false, h2, Int.ediv_one]
    split <;> omega
  rw [e2]
  exact wpAny_pure h
theorem pick_rev (xs : Array Value) : ((List.range xs.size).filterMap fun (m : Nat) => xs[(((xs.size : Nat) : Int) - 1 + (m : Int) * (-1)).toNat]?).toArray = xs.toList.reverse.toArray := by
  have e : ((List.range xs.size).filterMap fun (m : Nat) => xs[(((xs.size : Nat) : Int) - 1 + (m : Int) * (-1)).toNat]?) = ((List.range xs.size).map fun k => xs.size - 1 - k).filterMap (xs[·]?) := by
    rw [List.filterMap_map]
    have : ∀ (L : List Nat), (∀ m ∈ L, m < xs.size) → (L.filterMap fun (m : Nat) => xs[(((xs.size : Nat) : Int) - 1 + (m : Int) * (-1)).toNat]?) = L.filterMap ((xs[·]?) ∘ fun k => xs.size - 1 - k) := by
      intro L
      induction L with
      | nil => exact fun _ => rfl
      | cons m L ih =>
        intro h
        have hm := h m List.mem_cons_self
        have e3 : (((xs.size : Nat) : Int) - 1 + (m : Int) * (-1)).toNat = xs.size - 1 - m := by omega
        rw [List.filterMap_cons, List.filterMap_cons, ih fun a ha => h a (List.mem_cons_of_mem _ ha)]
        simp only [Function.comp_def, e3]
    exact this _ fun m hm => List.mem_range.mp hm
  rw [e, PySem.W.krv_range, List.filterMap_reverse, PySem.W.krv_all]
theorem getItem_tuple_rev {t sl : Addr} {items : Array Value} {vl vu vs : Value} {Q : Value → Shared → Prop} (ht : IsTup s.heap t items) (hs : s.heap.IsSliceOf sl vl vu vs) (pl : IsPart vl none) (pu : IsPart vu none) (ps : IsPart vs (some (-1)))
    (h : Q (.ref s.heap.objs.size) { s with heap := s.heap.push { cls := .type "tuple", data := .seq items.toList.reverse.toArray } })
    (hsz : items.size ≤ sizeLine) : wpAny (model prog w) A (getItem (.ref t) (.ref sl)) Q E s := by
  have htake : sizeOk (.seq items.toList.reverse.toArray) := by
    show items.toList.reverse.toArray.size ≤ sizeLine
    rw [List.size_toArray, List.length_reverse, Array.length_toList]
    omega
  obtain ⟨os, hos, hcs, hds⟩ := id hs
  have hTs : s.TypeIs (.ref sl) "slice" := ⟨os, hos, hcs⟩
  unfold getItem
  try with_reducible refine wpAny_holding ?_
  first | refine wpAny_bind (wpAny_pure ?_) | skip
  refine wpAny_bind (wpAny_sequenceKey ht.typeIs (by decide) ?_)
  refine wpAny_bind (wpAny_callSpecial?_slot (name := Str.ofString "__getitem__") ht.typeIs PyProof.Rows.slot_tuple_getitem
    (wpAny_call_entry PyProof.Rows.slot_tuple_getitem ht.typeIs entry_tuple_getitem ?_ (args_tuple_getitem _ _)))
  show wpAny _ _ (Builtin.Tuple.tupleItemsOf (.ref t) >>= _) _ _ s
  refine wpAny_bind (tupleItemsOf_ ht ?_)
  refine wpAny_bind (wpAny_typeOf hTs ?_)
  rw [if_pos (by decide)]
  refine wpAny_bind (sliceApplied_rev hs pl pu ps ?_)
  have hno : ¬ ((((items.size : Nat) : Int) - 1 == 0 && (-1 : Int) == 1 && items.size == items.size) = true) := by
    intro q
    rw [Bool.and_eq_true, Bool.and_eq_true] at q
    exact absurd q.1.2 (by decide)
  show wpAny _ _ (if (((items.size : Nat) : Int) - 1 == 0 && (-1 : Int) == 1 && items.size == items.size) = true then _ else _) _ _ s
  rw [if_neg hno, pick_rev]
  first
    | exact wpAny_bind (m := Builtin.Tuple.tupleExact _) (wpAny_newObj_type (wpAny_pure ⟨_, rfl, wpAny_pure h⟩) htake)
    | exact wpAny_bind (m := Builtin.Tuple.tupleExact _) (wpAny_newObj_type (wpAny_bind (wpAny_pure (wpAny_pure ⟨_, rfl, wpAny_pure h⟩))) htake)
    | exact wpAny_bind (wpAny_bind (m := Builtin.Tuple.tupleExact _) (wpAny_newObj_type (wpAny_pure (wpAny_pure ⟨_, rfl, wpAny_pure h⟩)) htake))
    | exact wpAny_bind (wpAny_bind (m := Builtin.Tuple.tupleExact _) (wpAny_newObj_type (wpAny_pure ⟨_, rfl, wpAny_pure h⟩) htake))
end

section
variable {X : Cx} {T : List (Addr × Str)} {cls : Nat → Value} {Ex : XK} {C : Cfg} {φ φ2 : Phi} {a : E} {x1 : Expr}
def tRev (K : PySem.W.Frag) (te : TE) : TE := fun σ H Q => te σ H fun x H1 => ∃ a xs, x = .ref a ∧
  ((SqL K H1 a xs ∧ ∀ p, H1 p = none → Q (.ref p) (upd H1 p (.lst xs.reverse))) ∨ (SqT K H1 a xs ∧ ∀ p, H1 p = none → Q (.ref p) (upd H1 p (.tup xs.reverse))))
theorem pe_revA {e : Expr} {te : TE} {k : Nat} {p1 p2 p3 pos : Pos} (he : PE X e te) : PE X (.Subscript e (.Slice none none (some (.UnaryOp .USub (.Constant (.int 1) k p1) p2)) p3) pos) (tRev X.K te) := by
  refine ⟨fun pins s σ H Q I h => ?_⟩
  refine Subscript_ (thn (he.run pins s σ H _ I h) fun v s1 ⟨x, H1, I1, r1, q1⟩ => ?_)
  obtain ⟨a, xs, ex, q⟩ := q1
  subst ex
  cases r1
  have hst : PO X (some (.UnaryOp .USub (.Constant (.int 1) k p1) p2)) (tPart (tUn (rU fun i => .int (-i)) (tC (.int 1)))) := po_some (pe_un un_neg pe_int)
  refine wpAny_Slice (thn (po_none.run pins s1 σ H1 (fun o H2 => o = none ∧ H2 = H1) I1 ⟨rfl, rfl⟩) fun vl s2 ⟨l, H2, I2, pl, el, e2⟩ => ?_)
  subst el e2
  refine thn (po_none.run pins s2 σ H2 (fun o H3 => o = none ∧ H3 = H2) I2 ⟨rfl, rfl⟩) fun vu s3 ⟨u, H3, I3, pu, eu, e3⟩ => ?_
  subst eu e3
  refine thn (hst.run pins s3 σ H3 (fun o H4 => o = some (-1) ∧ H4 = H3) I3 ⟨1, rfl, -1, rfl, rfl, rfl⟩) fun vs s4 ⟨o, H4, I4, ps, eo, e4⟩ => ?_
  subst eo e4
  have I5 : Inv X pins σ H4 { s4 with heap := s4.heap.push { cls := .type "slice", data := .fields #[vl, vu, vs] } } := I4.kept (t' := s4.toks) fun b ob q => Heap.get?_push_of_some _ q
  show wpAny (model X.prog X.w) X.A (subscriptTail e (.Slice none none (some (.UnaryOp .USub (.Constant (.int 1) k p1) p2)) p3) (.ref a) (.ref s4.heap.objs.size)) (EP X pins σ Q) X.xe { s4 with heap := s4.heap.push { cls := .type "slice", data := .fields #[vl, vu, vs] } }
  rcases q with ⟨hx, q⟩ | ⟨hx, q⟩
  · obtain ⟨its, r, ht, hz⟩ := I5.list hx
    have hlen := r.length
    refine tail_any (ops := [.ref a, .ref s4.heap.objs.size]) ht.isList.typeIs (PySem.slot_list_getitem.lookup) ?_ (by with_unfolding_all rfl)
    refine wpAny_getItem_list_slice ht.isList (Heap.IsSliceOf.new _ vl vu vs) pl pu ps (by decide) ?_ (by rw [List.size_toArray]; omega)
    rw [PySem.W.krv_pick]
    refine ⟨.ref _, _, I5.laid (t' := s4.toks) (o := .lst xs.reverse) (fun b ob q => Heap.get?_push_of_some _ q) (Nat.le_refl _) ?_, rfl, q _ (I5.hok.fresh (Nat.le_refl _))⟩
    exact ⟨by rw [List.length_reverse]; exact hz, _, 0, r.reverse, Heap.get?_push_size _ rfl⟩
  · obtain ⟨its, r, ht, hz⟩ := I5.tuple hx
    have hlen := r.length
    refine tail_any (ops := [.ref a, .ref s4.heap.objs.size]) ht.typeIs PyProof.Rows.slot_tuple_getitem.lookup ?_ (by with_unfolding_all rfl)
    refine getItem_tuple_rev ht (Heap.IsSliceOf.new _ vl vu vs) pl pu ps ?_ (by rw [List.size_toArray]; omega)
    refine ⟨.ref _, _, I5.laid (t' := s4.toks) (o := .tup xs.reverse) (fun b ob q => Heap.get?_push_of_some _ q) (Nat.le_refl _) ?_, rfl, q _ (I5.hok.fresh (Nat.le_refl _))⟩
    exact ⟨by rw [List.length_reverse]; exact hz, _, r.reverse, IsTup.new _ _⟩
end
end L2
namespace DL
open PySem L2
section
theorem RepL.rev {K : PySem.W.Frag} {H : Hp} {F P : Addr → Prop} : ∀ {xs : List PyData} {vs : List V}, RepL K H F P xs vs → RepL K H F P xs.reverse vs.reverse
  | [], _, h => by cases h; exact .nil
  | x :: xs, _, h => by
    cases h with
    | cons h1 h2 =>
      rw [List.reverse_cons, List.reverse_cons]
      exact (RepL.rev h2).append (.cons h1 .nil)
variable {X : Cx} {T : List (Addr × Str)} {cls : Nat → Value} {Ex : XK} {C : Cfg} {φ φ2 : Phi} {st : Store} {a : E} {x1 : Expr} {pos : Pos}
theorem den_rev {env : Env} : den C φ φ2 (.bl .rev (oneE a)) env st = (den C φ φ2 a env st).bind fun v st1 => Res.ofOpt (bRev [v]) st1 := by
  unfold oneE
  rw [den, denL]
  cases den C φ φ2 a env st with
  | ok v st1 =>
    simp only [Res.bind_ok]
    rw [denL]
    simp only [Res.bind_ok]
    rfl
  | exc k st1 => rfl
  | bad => rfl
/-- t[::-1] -/
theorem pe_revX {k : Nat} {p1 p2 p3 pos : Pos} (h1 : PE X x1 (TEx X T cls Ex C φ φ2 a)) :
    PE X (.Subscript x1 (.Slice none none (some (.UnaryOp .USub (.Constant (.int 1) k p1) p2)) p3) pos) (TEx X T cls Ex C φ φ2 (.bl .rev (oneE a))) :=
  PE.imp (pe_revA h1) fun σ H Q h => by
    obtain ⟨w, env, st, j, en, h⟩ := h
    rw [den_rev] at h
    refine ⟨w, env, st, j, en, (OkG.bind (R := RepV X.K) h).imp fun y H1 ⟨w1, st1, rv, s1, j1, r1, h1⟩ => ?_⟩
    unfold bRev at h1
    split at h1
    · rename_i g xs e
      cases e
      obtain ⟨l, vs, rfl, hl, hz, rl⟩ := RepD.tuple r1
      refine ⟨l, vs, rfl, .inr ⟨hl, fun p hp => ?_⟩⟩
      have s2 : Stp w1 w1 H1 (upd H1 p (.tup vs.reverse)) := Stp.fresh hp
      refine h1 w1 _ _ s2 (j1.fresh hp fun ps z => by cases z) ?_
      exact RepD.tup (.inl upd_same) (j1.freshP hp).1 (by rw [List.length_reverse]; exact hz) (RepL.stp s2 rl).rev
    · rename_i g xs e
      cases e
      obtain ⟨l, vs, rfl, hl, _, _, hz, rl⟩ := RepD.list r1
      refine ⟨l, vs, rfl, .inl ⟨.inl hl, fun p hp => ?_⟩⟩
      have s2 : Stp w1 w1 H1 (upd H1 p (.lst vs.reverse)) := Stp.fresh hp
      obtain ⟨hfree, hn⟩ := j1.freshP hp
      refine h1 w1 _ _ s2 (j1.fresh hp fun ps z => by cases z) ?_
      exact rep_newList upd_same hfree hn (by rw [List.length_reverse]; exact hz) (RepL.stp s2 rl).rev
    · exact h1.elim
end
end DL

-- DChk
/-! DChk: a look at a def's text: it is what the small language tells. -/
namespace DL
open PySem L2
structure Tb where
  N : List Str
  fns : List (Str × Nat)
  gls : List Str
  exns : List Str
def visC (sc : Scope) (x : Str) : Bool := match sc.names.lookup x with
  | some .local => true
  | some .cell => true
  | some .free => true
  | _ => false
def glC (sc : Scope) (x : Str) : Bool := match sc.names.lookup x with
  | some .globalImplicit => true
  | _ => false
def locC (isF : Bool) (sc : Scope) (x : Str) : Bool := match sc.names.lookup x with
  | some .local => true
  | some .cell => isF
  | _ => false
def ndC (x : Str) : Bool := !(x == ("__debug__" : Str)) && !(x == ("__classdict__" : Str))
def isB (sc : Scope) (x : Str) (n : String) : Bool := decide (x = Str.ofString n) && glC sc x
def ownP (N : List Str) (own : List Nat) : List (Str × Nat) := own.map fun i => (N.getD i default, i)
theorem ownP_snd (N : List Str) (own : List Nat) : (ownP N own).map (·.2) = own := by
  unfold ownP
  rw [List.map_map]
  exact List.map_id _
/-- a comprehension's own name: local, or a cell of its own -/
def locK (scope sc : Scope) (x : Str) : Bool := match sc.names.lookup x with
  | some .local => true
  | some .cell => scope.names.lookup x == some .cell
  | _ => false
def tgC (ok : Str → Bool) (N : List Str) : Tg → Expr → Bool
  | .nm i, .Name x _ => decide (N[i]? = some x) && ok x
  | .tp is, .Tuple es _ _ => nmTgs N ok is es
  | _, _ => false
def isTup : Expr → Bool
  | .Tuple _ _ _ => true
  | _ => false
/-- may stand as a test -/
def tOk : E → Bool
  | .var _ => true
  | .cst _ => true
  | .glb _ => true
  | .cmp _ _ _ => true
  | .chn _ _ _ _ _ => true
  | .boo _ xs => tOks xs
  | .nt a => tOk a
  | .ife c a b => tOk c && tOk a && tOk b
  | .sub _ _ => true
  | .slc _ _ _ => true
  | .call _ _ => true
  | .isi _ _ => true
  | .bl _ _ => true
  | .mth _ _ _ => true
  | _ => false
where tOks : EL → Bool
  | .nil => true
  | .cons e r => tOk e && tOks r
/-- list(x), len(x) .. as they are written -/
def bltC (sc : Scope) (bt : Blt) (x : Str) : Bool := (match bltFn bt with | some n => isB sc x n | none => false) || (match bltTy bt with | some n => isB sc x n | none => false)
def pickC (sc : Scope) (bt : Blt) (x : Str) : Bool := match pickD bt with | some (n, _) => isB sc x n | none => false
def fnC (t : Tb) (f : Nat) (x : Str) (n : Nat) : Bool := match t.fns[f]? with | some (y, k) => decide (x = y) && decide (n = k) | none => false
/-- a method's whole name -/
def mNm (m : Str) : Str := clsNm ++ (("." : Str) ++ m)
def isM (x : Str) : Bool := decide (x.cps.toList.take 5 = (mNm "").cps.toList)
def iniNm : Str := "__init__"
/-- the attributes of its objects -/
def fldNms : List Str := ["layers", "known"]
def hasObj (t : Tb) : Bool := t.fns.any fun p => isM p.1
/-- a comprehension's frame -/
def lcC (t : Tb) (sc : Scope) (own : List Nat) (tg : Tg) (atg ai : Expr) (as : Int) (scope : Scope) : Bool := decide (as = 0) && blkC t.N sc scope (ownP t.N own) && notSet ai && (tgSlots tg).all (fun i => own.contains i) && tgC (locK scope (relS scope sc)) t.N tg atg
def lamC (sc scope : Scope) (ps : Arguments) : Bool := ps.posonlyargs.isEmpty && ps.args.isEmpty && ps.vararg.isNone && ps.kwonlyargs.isEmpty && ps.kw_defaults.isEmpty && ps.kwarg.isNone && ps.defaults.isEmpty && LamX.lamSB sc scope
mutual
def chE (t : Tb) (kd : Bool) (sc : Scope) : E → Expr → Bool
  | .var i, x => match x with
    | .Name x _ => decide (t.N[i]? = some x) && visC sc x && ndC x
    | _ => false
  | .cst d, x => match x with
    | .Constant c _ _ => cstIs d c
    | _ => false
  | .glb n, x => match x with
    | .Name x _ => decide (t.gls[n]? = some x) && glC sc x && ndC x
    | _ => false
  | .bin o a b, x => match x with
    | .BinOp x op y _ => decide (op = opOf o) && chE t kd sc a x && chE t kd sc b y
    | _ => false
  | .neg a, x => match x with
    | .UnaryOp op x _ => decide (op = .USub) && chE t kd sc a x
    | _ => false
  | .cmp o a b, x => match x with
    | .Compare x [op] [y] _ => decide (op = copOf o) && notSet y && chE t kd sc a x && chE t kd sc b y
    | _ => false
  | .chn o p a b c, x => match x with
    | .Compare x [op, op2] [y, z] _ => decide (op = copOf o) && decide (op2 = copOf p) && notSet z && chE t kd sc a x && chE t kd sc b y && chE t kd sc c z
    | _ => false
  | .boo k xs, x => match x with
    | .BoolOp op es _ => decide (op = bopOf k) && !es.isEmpty && chL t kd sc xs es
    | _ => false
  | .nt a, x => match x with
    | .UnaryOp op x _ => decide (op = .Not) && chE t kd sc a x
    | _ => false
  | .ife c a b, x => match x with
    | .IfExp x y z _ => tOk c && chE t kd sc c x && chE t kd sc a y && chE t kd sc b z
    | _ => false
  | .tup xs, x => match x with
    | .Tuple es _ _ => decide (eLen xs ≤ 1000) && chL t kd sc xs es
    | _ => false
  | .lst xs, x => match x with
    | .List es _ => decide (eLen xs ≤ 1000) && chL t kd sc xs es
    | _ => false
  | .mlst xs, x => match x with
    | .List es _ => decide (eLen xs ≤ 1000) && chL t kd sc xs es
    | _ => false
  | .mdic, x => match x with
    | .Dict [] [] _ => true
    | _ => false
  | .dic1 a b, x => match x with
    | .Dict [some k] [v] _ => chE t kd sc a k && chE t kd sc b v
    | _ => false
  | .sdi ks xs, x => match x with
    | .Dict keys es _ => decide (strKeys keys = some ks) && decide (ks.Nodup) && decide (keys.length = es.length) && decide (ks.length ≤ 15) && !ks.isEmpty && chL t kd sc xs es
    | _ => false
  | .sub a i, x => match x with
    | .Subscript x y _ => notSlice y && chE t kd sc a x && chE t kd sc i y
    | _ => false
  | .slc a lo hi, x => match x with
    | .Subscript x (.Slice l h none _) _ => chE t kd sc a x && chO t kd sc lo l && chO t kd sc hi h
    | _ => false
  | .call f xs, x => match x with
    | .Call (.Name x _) (e1 :: es) [] _ => fnC t f x (eLen xs) && !isM x && glC sc x && ndC x && (e1 :: es).all notStar && chL t kd sc xs (e1 :: es)
    | _ => false
  | .isi a ts, x => match x with
    | .Call (.Name x _) [e1, .Name y _] [] _ => isB sc x "isinstance" && notStar e1 && chE t kd sc a e1 && (match ts with | [ty] => isB sc y (tyNm ty) | _ => false)
    | .Call (.Name x _) [e1, .Tuple es _ _] [] _ => isB sc x "isinstance" && tyNames ts es && ts.all (fun ty => glC sc (Str.ofString (tyNm ty))) && decide (ts.length ≤ 100) && !ts.isEmpty && notStar e1 && chE t kd sc a e1
    | _ => false
  | .bl bt xs, x => match x with
    | .Call (.Name x _) (e1 :: es) [] _ => match bt with
      | .dict => isB sc x "dict" && es.isEmpty && notStar e1 && ch1 t kd sc xs e1
      | .sortset => match e1 with
        | .Call (.Name y _) [e2] [] _ => isB sc x "sorted" && isB sc y "set" && es.isEmpty && notStar e2 && ch1 t kd sc xs e2
        | _ => false
      | .sortsi => match e1 with
        | .Call (.Name y _) [e2] [] _ => isB sc x "sorted" && isB sc y "set" && es.isEmpty && notStar e2 && ch1 t kd sc xs e2
        | _ => false
      | .trng => match e1 with
        | .Call (.Name y _) [e2] [] _ => isB sc x "tuple" && isB sc y "range" && es.isEmpty && notStar e2 && ch1 t kd sc xs e2
        | _ => false
      | bt => bltC sc bt x && (e1 :: es).all notStar && chL t kd sc xs (e1 :: es)
    | .Call (.Name x _) [e1] [⟨some k, e2, _⟩] _ => pickC sc bt x && decide (k = Str.ofString "default") && notStar e1 && ch2 t kd sc xs e1 e2
    | .Subscript e1 (.Slice none none (some (.UnaryOp .USub (.Constant (.int n) _ _) _)) _) _ => decide (bt = .rev) && decide (n = 1) && ch1 t kd sc xs e1
    | _ => false
  | .mbl bt xs, x => match x with
    | .Call (.Name x _) [e1] [] _ => decide (bt = .list) && isB sc x "list" && notStar e1 && ch1 t kd sc xs e1
    | _ => false
  | .mth mt o xs, x => match x with
    | .Call (.Attribute oe nm apos) es [] pos => decide (mPlain mt) && decide (nm = Str.ofString (mName mt)) && notCall oe && (apos.endLine == pos.line) && decide (es.length < 20) && es.all notStar && chE t kd sc o oe && chL t kd sc xs es
    | _ => false
  | .lc own tg ik it ts elt, x => match x with
    | .ListComp ae [⟨atg, ai, aifs, as⟩] scope _ => lcC t sc own tg atg ai as scope && chI t kd sc ik it ai atg && chT t (relS scope sc) ts aifs && chE t false (relS scope sc) elt ae
    | _ => false
  | .mlc own tg ik it ts elt, x => match x with
    | .ListComp ae [⟨atg, ai, aifs, as⟩] scope _ => lcC t sc own tg atg ai as scope && chI t kd sc ik it ai atg && chT t (relS scope sc) ts aifs && chE t false (relS scope sc) elt ae
    | _ => false
  | .kind b, x => match x with
    | .Call (.Name x _) [.Lambda ps body scope _] [] _ => kd && decide (x = Str.ofString "_law_kind") && glC sc x && lamC sc scope ps && chE t false scope b body
    | _ => false
  | .fld o f, x => match x with
    | .Attribute oe nm _ => decide (nm = f) && fldNms.contains f && hasObj t && notCall0 oe && chE t kd sc o oe
    | _ => false
  | .mk f xs, x => match x with
    | .Call (.Name x _) (e1 :: es) [] _ => decide (x = clsNm) && fnC t f (mNm iniNm) (eLen xs + 1) && isM (mNm iniNm) && glC sc x && ndC x && (e1 :: es).all notStar && chL t kd sc xs (e1 :: es)
    | _ => false
  | .meth f m o xs, x => match x with
    | .Call (.Attribute oe nm apos) (e1 :: es) [] pos => decide (nm = m) && fnC t f (mNm m) (eLen xs + 1) && isM (mNm m) && !decide (m = iniNm) && notCall0 oe && (apos.endLine == pos.line) && decide ((e1 :: es).length < 20) && (e1 :: es).all notStar && chE t kd sc o oe && chL t kd sc xs (e1 :: es)
    | _ => false
def chL (t : Tb) (kd : Bool) (sc : Scope) : EL → List Expr → Bool
  | .nil, es => es.isEmpty
  | .cons e r, es => match es with
    | x :: es => notStar x && chE t kd sc e x && chL t kd sc r es
    | [] => false
def ch1 (t : Tb) (kd : Bool) (sc : Scope) : EL → Expr → Bool
  | .nil, _ => false
  | .cons e r, x => decide (eLen r = 0) && chE t kd sc e x
def ch2 (t : Tb) (kd : Bool) (sc : Scope) : EL → Expr → Expr → Bool
  | .nil, _, _ => false
  | .cons e r, x, y => chE t kd sc e x && ch1 t kd sc r y
def chO (t : Tb) (kd : Bool) (sc : Scope) : EL → Option Expr → Bool
  | .nil, x => x.isNone
  | .cons e _, x => match x with
    | some x => chE t kd sc e x
    | none => false
def chT (t : Tb) (sc : Scope) : EL → List Expr → Bool
  | .nil, es => es.isEmpty
  | .cons e _, es => match es with
    | [x] => tOk e && chE t false sc e x
    | _ => false
/-- what is gone over; the target -/
def chI (t : Tb) (kd : Bool) (sc : Scope) (ik : Ik) : EL → Expr → Expr → Bool
  | .nil, _, _ => false
  | .cons a r, x, tg => match ik with
    | .val => decide (eLen r = 0) && chE t kd sc a x
    | .rng => match x with
      | .Call (.Name x _) [e1] [] _ => isB sc x "range" && notStar e1 && decide (eLen r = 0) && chE t kd sc a e1
      | .Call (.Name x _) [e1, e2] [] _ => isB sc x "range" && notStar e1 && notStar e2 && chE t kd sc a e1 && ch1 t kd sc r e2
      | _ => false
    | .enum => match x with
      | .Call (.Name x _) [e1] [] _ => isTup tg && isB sc x "enumerate" && notStar e1 && decide (eLen r = 0) && chE t kd sc a e1
      | _ => false
    | .zip => match x with
      | .Call (.Name x _) [e1, e2] [] _ => isTup tg && isB sc x "zip" && notStar e1 && notStar e2 && chE t kd sc a e1 && ch1 t kd sc r e2
      | _ => false
end
end DL

-- DSound
/-! DSound: what the look lets through is what the small language tells. -/
namespace DL
open PySem L2
section
variable (t : Tb) (C : Cfg) (T : List (Addr × Str)) (cls : Nat → Value)
/-- the names of built-ins that may be asked for -/
def bltNames : List Str := ["len", "abs", "sorted", "sum", "min", "max", "list", "tuple", "int", "bool", "str", "dict", "set", "isinstance", "range", "enumerate", "zip", "divmod"]
/-- the class as the top has made it -/
structure ObjF (K : PySem.W.Frag) (mg : Str → Option Value) (Ca : Addr) : Prop where
  at_ : PySem.W.nsIn K mainGlobals clsNm = some (some (.ref Ca))
  mgC : mg clsNm = some (.ref Ca)
  cl : Cls K Ca
  no : ∀ f ∈ fldNms, NoAttr K Ca f
/-- a def by its name, a method of the class -/
def Nmd (K : PySem.W.Frag) (mg : Str → Option Value) (x : Str) (fa : Addr) : Prop := if isM x = true then ∃ Ca, ObjF K mg Ca ∧ ∀ m, x = mNm m → (m = iniNm → Mk K Ca fa) ∧ (m ≠ iniNm → Meth K Ca m fa) else mg x = some (.ref fa) ∧ PySem.W.keepIn K (.ref fa) = true
structure Ctx0 (φ : Phi) (k : Nat) (Ex : XK) (sc : Scope) (X : Cx) : Prop where
  calm : X.calm = true
  N : X.N = t.N
  nd : t.N.Nodup
  sc : X.env.scope = sc
  room : Room (k + 1) X.A
  gls : ∀ (n : Nat) (x : Str), t.gls[n]? = some x → ∃ d v u, C.glb[n]? = some d ∧ X.mg x = some u ∧ RelV v u ∧ ∀ w H, RepD X.K H (Wd.free w) (Wd.ok w H .pur) d v
  blt : ∀ x ∈ bltNames, X.mg x = none
  call : ∀ (f : Nat) (x : Str) (np : Nat), t.fns[f]? = some (x, np) → ∃ fa fd ps, FnOk X.prog X.w X.K X.mg X.base (L2.CX X.prog X.w) k fa fd ps (spF X.prog X.w X.K T cls np (φ f)) ∧ Nmd X.K X.mg x fa ∧ L2.Binds X.K fd ps []
  pass : Passes (L2.CX X.prog X.w) X Ex
/-- _law_kind(lambda: ..) -/
def KindR (φ φ2 : Phi) (k2 : Nat) (Ex : XK) (sc : Scope) (X : Cx) : Prop := ∀ (b : E) (ps : Arguments) (body : Expr) (scope : Scope) (p lp pos : Pos), lamC sc scope ps = true → Gl X "_law_kind" →
  (∀ (X' : Cx) (Ex' : XK), Ctx0 t C T cls φ2 k2 Ex' scope X' → PE X' body (TEx X' T cls Ex' C φ2 φ2 b)) → PE X (.Call (.Name "_law_kind" p) [.Lambda ps body scope lp] [] pos) (TEx X T cls Ex C φ φ2 (.kind b))
end
section
variable {t : Tb} {C : Cfg} {T : List (Addr × Str)} {cls : Nat → Value} {φ φ2 : Phi} {k k2 : Nat} {Ex : XK} {sc : Scope} {X : Cx} {a b c e : E} {xs : EL} {x1 x2 x : Expr} {es : List Expr} {pos p : Pos}
theorem Ctx0.hu (h : Ctx0 t C T cls φ k Ex sc X) : X.A.units + 80 < cLine := by
  have := h.room.un
  omega
theorem Ctx0.gl (h : Ctx0 t C T cls φ k Ex sc X) {y : Str} (q : glC sc y = true) : Gl X y := by
  unfold glC at q
  show X.env.scope.names.lookup y = some .globalImplicit
  rw [h.sc]
  split at q
  · assumption
  · cases q
theorem isB_of {y : Str} {n : String} (q : isB sc y n = true) : y = Str.ofString n ∧ glC sc y = true := by
  unfold isB at q
  simpa only [Bool.and_eq_true, decide_eq_true_eq] using q
theorem Ctx0.glB (h : Ctx0 t C T cls φ k Ex sc X) {y : Str} {n : String} (q : isB sc y n = true) (hn : Str.ofString n ∈ bltNames) : y = Str.ofString n ∧ Gl X (Str.ofString n) ∧ X.mg (Str.ofString n) = none := by
  obtain ⟨rfl, q2⟩ := isB_of q
  exact ⟨rfl, h.gl q2, h.blt _ hn⟩
theorem vis_of {y : Str} (q : visC sc y = true) : Vis sc y := by
  unfold visC at q
  unfold Vis
  split at q
  · exact .inl (by assumption)
  · exact .inr (.inl (by assumption))
  · exact .inr (.inr (by assumption))
  · cases q
theorem nd_of {y : Str} (q : ndC y = true) : (y == ("__debug__" : Str)) = false ∧ (y == ("__classdict__" : Str)) = false := by
  unfold ndC at q
  simpa using q
/-- what is shown of an expression -/
def Gd (X : Cx) (T : List (Addr × Str)) (cls : Nat → Value) (Ex : XK) (C : Cfg) (φ φ2 : Phi) (e : E) (x : Expr) : Prop := PE X x (TEx X T cls Ex C φ φ2 e) ∧ (tOk e = true → PT X x (TTx X T cls Ex C φ φ2 e))
theorem gd_val (h : PE X x (TEx X T cls Ex C φ φ2 e)) (q : asVal x = true) : Gd X T cls Ex C φ φ2 e x := ⟨h, fun _ => pt_of h q⟩
theorem gd_no (h : PE X x (TEx X T cls Ex C φ φ2 e)) (q : tOk e = false) : Gd X T cls Ex C φ φ2 e x := ⟨h, fun z => by rw [q] at z; cases z⟩
theorem gd_var (c0 : Ctx0 t C T cls φ k Ex sc X) {i : Nat} {y : Str} (h : (decide (t.N[i]? = some y) && visC sc y && ndC y) = true) : Gd X T cls Ex C φ φ2 (.var i) (.Name y p) := by
  simp only [Bool.and_eq_true, decide_eq_true_eq] at h
  obtain ⟨⟨h1, h2⟩, h3⟩ := h
  obtain ⟨h4, h5⟩ := nd_of h3
  exact gd_val (PE.imp (pe_var (by rw [c0.N]; exact h1) (by rw [c0.sc]; exact vis_of h2) h4 h5) fun _ _ _ q => tex_var q) rfl
theorem gd_cst {d : PyData} {cc : Const} {j : Nat} (h : cstIs d cc = true) : Gd X T cls Ex C φ φ2 (.cst d) (.Constant cc j p) := gd_val (pe_cstX h) rfl
theorem gd_glb (c0 : Ctx0 t C T cls φ k Ex sc X) {n : Nat} {y : Str} (h : (decide (t.gls[n]? = some y) && glC sc y && ndC y) = true) : Gd X T cls Ex C φ φ2 (.glb n) (.Name y p) := by
  simp only [Bool.and_eq_true, decide_eq_true_eq] at h
  obtain ⟨⟨h1, h2⟩, h3⟩ := h
  obtain ⟨d, v, u, e1, e2, r, q⟩ := c0.gls n y h1
  refine gd_val (PE.imp (pe_glob (c0.gl h2) e2 r (nd_of h3).1) fun σ H Q h => ?_) rfl
  obtain ⟨w, env, st, j, en, h⟩ := h
  rw [den, e1] at h
  exact OkG.ret h j (q w H)
theorem len_nil {xs : EL} (h : eLen xs = 0) : xs = .nil := by cases xs with
  | nil => rfl
  | cons e r => cases h
theorem mem_blt {bt : Blt} {n : String} (h : bltFn bt = some n ∨ bltTy bt = some n) : Str.ofString n ∈ bltNames := by
  cases bt <;> simp only [bltFn, bltTy, Option.some.injEq, reduceCtorEq, or_false, false_or, or_self] at h <;> subst h <;> decide +kernel
theorem gd_bl (c0 : Ctx0 t C T cls φ k Ex sc X) {bt : Blt} {y : Str} (h : (bltC sc bt y && (x1 :: es).all notStar) = true) (h1 : PA X (x1 :: es) (TAx X T cls Ex C φ φ2 xs)) : Gd X T cls Ex C φ φ2 (.bl bt xs) (.Call (.Name y p) (x1 :: es) [] pos) := by
  simp only [bltC, Bool.and_eq_true, Bool.or_eq_true] at h
  obtain ⟨h2, h3⟩ := h
  rcases h2 with h2 | h2
  · split at h2
    · rename_i n hn
      obtain ⟨rfl, g, m⟩ := c0.glB h2 (mem_blt (.inl hn))
      exact gd_val (pe_blF c0.calm c0.hu hn g m h1 h3) rfl
    · cases h2
  · split at h2
    · rename_i n hn
      obtain ⟨rfl, g, m⟩ := c0.glB h2 (mem_blt (.inr hn))
      exact gd_val (pe_blT c0.calm hn g m h1 h3) rfl
    · cases h2
theorem gd_call (c0 : Ctx0 t C T cls φ k Ex sc X) {f : Nat} {y : Str} (h : fnC t f y (eLen xs) = true) (hM : isM y = false) (hg : glC sc y = true) (hd : ndC y = true) (hs : (x1 :: es).all notStar = true) (h1 : PA X (x1 :: es) (TAx X T cls Ex C φ φ2 xs)) : Gd X T cls Ex C φ φ2 (.call f xs) (.Call (.Name y p) (x1 :: es) [] pos) := by
  unfold fnC at h
  split at h
  · rename_i z n hz
    simp only [Bool.and_eq_true, decide_eq_true_eq] at h
    obtain ⟨rfl, h⟩ := h
    obtain ⟨fa, fd, ps, F, hnm, hb⟩ := c0.call _ _ _ hz
    unfold Nmd at hnm
    rw [if_neg (by rw [hM]; simp)] at hnm
    obtain ⟨hm, hk⟩ := hnm
    exact gd_val (pe_callX F (c0.room.mono (Nat.le_succ k)) (c0.gl hg) hm hk hb c0.pass h1 h hs (nd_of hd).1) rfl
  · cases h
/-- there is a class with objects -/
theorem Ctx0.obj (c0 : Ctx0 t C T cls φ k Ex sc X) (h : hasObj t = true) : ∃ Ca, ObjF X.K X.mg Ca := by
  unfold hasObj at h
  rw [List.any_eq_true] at h
  obtain ⟨⟨x, np⟩, hx, hM⟩ := h
  obtain ⟨f, hf⟩ := List.mem_iff_getElem?.mp hx
  obtain ⟨fa, fd, ps, F, hnm, hb⟩ := c0.call f x np hf
  unfold Nmd at hnm
  rw [if_pos hM] at hnm
  obtain ⟨Ca, q, _⟩ := hnm
  exact ⟨Ca, q⟩
theorem gd_fld (c0 : Ctx0 t C T cls φ k Ex sc X) {f nm : Str} {oe : Expr} (h : (decide (nm = f) && fldNms.contains f && hasObj t && notCall0 oe) = true) (h1 : PE X oe (TEx X T cls Ex C φ φ2 a)) : Gd X T cls Ex C φ φ2 (.fld a f) (.Attribute oe nm pos) := by
  simp only [Bool.and_eq_true, decide_eq_true_eq] at h
  obtain ⟨⟨⟨rfl, h2⟩, h3⟩, h4⟩ := h
  obtain ⟨Ca, q⟩ := c0.obj h3
  exact gd_no (pe_fldX q.at_ q.cl (q.no _ (List.contains_iff_mem.mp h2)) h1 h4) rfl
theorem gd_mk (c0 : Ctx0 t C T cls φ k Ex sc X) {f : Nat} {y : Str} (h : (decide (y = clsNm) && fnC t f (mNm iniNm) (eLen xs + 1) && isM (mNm iniNm)) = true) (hg : glC sc y = true) (hd : ndC y = true) (hs : (x1 :: es).all notStar = true) (h1 : PA X (x1 :: es) (TAx X T cls Ex C φ φ2 xs)) : Gd X T cls Ex C φ φ2 (.mk f xs) (.Call (.Name y p) (x1 :: es) [] pos) := by
  simp only [Bool.and_eq_true, decide_eq_true_eq] at h
  obtain ⟨⟨rfl, h2⟩, hM⟩ := h
  unfold fnC at h2
  split at h2
  · rename_i z n hz
    simp only [Bool.and_eq_true, decide_eq_true_eq] at h2
    obtain ⟨rfl, h⟩ := h2
    obtain ⟨fa, fd, ps, F, hnm, hb⟩ := c0.call _ _ _ hz
    unfold Nmd at hnm
    rw [if_pos hM] at hnm
    obtain ⟨Ca, q, r⟩ := hnm
    exact gd_no (pe_mkX q.at_ ((r iniNm rfl).1 rfl) F c0.room (c0.gl hg) q.mgC hb c0.pass h1 h hs (nd_of hd).1) rfl
  · cases h2
theorem gd_meth (c0 : Ctx0 t C T cls φ k Ex sc X) {f : Nat} {m nm : Str} {oe : Expr} {apos : Pos} (h : (decide (nm = m) && fnC t f (mNm m) (eLen xs + 1) && isM (mNm m) && !decide (m = iniNm)) = true) (hb : notCall0 oe = true) (hp : (apos.endLine == pos.line) = true) (hn : (x1 :: es).length < 20) (hs : (x1 :: es).all notStar = true) (h0 : PE X oe (TEx X T cls Ex C φ φ2 a)) (h1 : PA X (x1 :: es) (TAx X T cls Ex C φ φ2 xs)) : Gd X T cls Ex C φ φ2 (.meth f m a xs) (.Call (.Attribute oe nm apos) (x1 :: es) [] pos) := by
  simp only [Bool.and_eq_true, decide_eq_true_eq, Bool.not_eq_true', decide_eq_false_iff_not] at h
  obtain ⟨⟨⟨rfl, h2⟩, hM⟩, hi⟩ := h
  unfold fnC at h2
  split at h2
  · rename_i z n hz
    simp only [Bool.and_eq_true, decide_eq_true_eq] at h2
    obtain ⟨rfl, h⟩ := h2
    obtain ⟨fa, fd, ps, F, hnm, hB⟩ := c0.call _ _ _ hz
    unfold Nmd at hnm
    rw [if_pos hM] at hnm
    obtain ⟨Ca, q, r⟩ := hnm
    exact gd_no (pe_methX q.at_ q.cl ((r _ rfl).2 hi) F (c0.room.mono (Nat.le_succ k)) hB c0.pass h0 h1 h hb hp hs hn) rfl
  · cases h2
theorem ty_mem (y : Ty) : Str.ofString (tyNm y) ∈ bltNames := by cases y <;> decide +kernel
theorem CX_no {P : Program} {w : World} {outer : List PySem.Env} {H : Hp} {s s' : Shared} {e : Value} (h : L2.CX P w outer H s noEx e s') : False := by
  obtain ⟨_, _, _, _, _, _, _, _, _, _, _, _, h⟩ := h
  exact h
/-- in a comprehension's block -/
theorem Ctx0.inBlk (c0 : Ctx0 t C T cls φ k Ex sc X) {scope : Scope} (s : Shared) (H : Hp) (C' : Addr) (cl : List (Str × Addr)) (fp : List Addr) : Ctx0 t C T cls φ k noEx (relS scope sc) (X.blk s H scope (compEnvC scope cl C' X.env) fp) where
  calm := c0.calm
  N := c0.N
  nd := c0.nd
  sc := by
    show relS scope X.env.scope = _
    rw [c0.sc]
  room := c0.room
  gls := c0.gls
  blt := c0.blt
  call := c0.call
  pass := fun _ _ _ _ _ _ _ h => (CX_no h).elim
theorem m_no {m : Bool} {ik : Ik} (hm : m = true → ik = .rng) (h : ik ≠ .rng) : m = false := by
  cases m with
  | false => rfl
  | true => exact absurd (hm rfl) h
theorem loc_ok {isF : Bool} (c0 : Ctx0 t C T cls φ k Ex sc X) (hf : isF = true → ∀ x, X.fn x = true) : ∀ y, locC isF sc y = true → Loc X.env.scope y ∧ (X.fn y = true ∨ X.env.scope.names.lookup y = some .local) := fun y q => by
  unfold locC at q
  rw [c0.sc]
  split at q
  · exact ⟨.inl (by assumption), .inr (by assumption)⟩
  · exact ⟨.inr (by assumption), .inl (hf q y)⟩
  · cases q
theorem tg_ok {ok : Str → Bool} {tg : Tg} {atg : Expr} (c0 : Ctx0 t C T cls φ k Ex sc X) (hl : ∀ y, ok y = true → Loc X.env.scope y ∧ (X.fn y = true ∨ X.env.scope.names.lookup y = some .local)) (h : tgC ok t.N tg atg = true) : PG X atg (GX X T tg) := by
  unfold tgC at h
  split at h
  · simp only [Bool.and_eq_true, decide_eq_true_eq] at h
    obtain ⟨h1, h2⟩ := h
    exact pg_nmX (by rw [c0.N]; exact c0.nd) (by rw [c0.N]; exact h1) (hl _ h2).1 (hl _ h2).2
  · exact pg_tpX c0.calm (by rw [c0.N]; exact c0.nd) hl (by rw [c0.N]; exact h)
  · cases h
theorem PTs.imp {es : List Expr} {t t' : TT} (h : PTs X es t) (i : ∀ σ H Q, t' σ H Q → t σ H Q) : PTs X es t' := ⟨fun pins s σ H Q I q => h.run pins s σ H Q I (i σ H Q q)⟩
theorem star_two (h1 : notStar x1 = true) (h2 : notStar x2 = true) (env : PySem.Env) : ∀ e r, e ∈ [x1, x2] → starEach (e :: r) env = (false, eval e env) :: starEach r env := fun e r h => by
  simp only [List.mem_cons, List.not_mem_nil, or_false] at h
  rcases h with rfl | rfl
  · exact star_cons h1 r env
  · exact star_cons h2 r env
/-- a comprehension's parts -/
theorem blk_of {own : List Nat} {tg : Tg} {atg ai ae : Expr} {as : Int} {scope : Scope} {aifs : List Expr} {ts : EL} {elt : E} (c0 : Ctx0 t C T cls φ k Ex sc X) (h : lcC t sc own tg atg ai as scope = true)
    (ht : ∀ (X' : Cx), Ctx0 t C T cls φ k noEx (relS scope sc) X' → PTs X' aifs (TPx X' T cls noEx C φ φ2 ts)) (he : ∀ (X' : Cx), Ctx0 t C T cls φ k noEx (relS scope sc) X' → PE X' ae (TEx X' T cls noEx C φ φ2 elt)) :
    as = 0 ∧ BlkOk X.N X.env.scope scope (ownP t.N own) ∧ Blk X T cls C φ φ2 scope atg aifs ae tg ts elt ∧ notSet ai = true ∧ ∀ i ∈ tgSlots tg, i ∈ (ownP t.N own).map (·.2) := by
  unfold lcC at h
  simp only [Bool.and_eq_true, decide_eq_true_eq] at h
  obtain ⟨⟨⟨⟨h1, h2⟩, h3⟩, h4⟩, h5⟩ := h
  refine ⟨h1, by rw [c0.N, c0.sc]; exact blkOk_by h2, ⟨fun s H C' cl fp => ?_, fun s H C' cl fp => ht _ (c0.inBlk s H C' cl fp), fun s H C' cl fp => he _ (c0.inBlk s H C' cl fp)⟩, h3, fun i hi => ?_⟩
  · have c2 := c0.inBlk (scope := scope) s H C' cl fp
    refine tg_ok c2 (fun y q => ?_) h5
    unfold locK at q
    rw [c2.sc]
    split at q
    · exact ⟨.inl (by assumption), .inr (by assumption)⟩
    · exact ⟨.inr (by assumption), .inl q⟩
    · cases q
  · rw [ownP_snd]
    simpa using List.all_eq_true.mp h4 i hi
mutual
theorem chE_ok : ∀ (e : E) {kd : Bool} {φ φ2 : Phi} {k k2 : Nat} {sc : Scope} {x : Expr} {X : Cx} {Ex : XK}, chE t kd sc e x = true → Ctx0 t C T cls φ k Ex sc X → (kd = true → KindR t C T cls φ φ2 k2 Ex sc X) → Gd X T cls Ex C φ φ2 e x
  | .var i, kd, φ, φ2, k, k2, sc, x, X, Ex, h, c0, hk => by
    unfold chE at h
    split at h
    · exact gd_var c0 h
    · cases h
  | .cst d, kd, φ, φ2, k, k2, sc, x, X, Ex, h, c0, hk => by
    unfold chE at h
    split at h
    · exact gd_cst h
    · cases h
  | .glb n, kd, φ, φ2, k, k2, sc, x, X, Ex, h, c0, hk => by
    unfold chE at h
    split at h
    · exact gd_glb c0 h
    · cases h
  | .bin o a b, kd, φ, φ2, k, k2, sc, x, X, Ex, h, c0, hk => by
    unfold chE at h
    split at h
    · simp only [Bool.and_eq_true, decide_eq_true_eq] at h
      obtain ⟨⟨rfl, h1⟩, h2⟩ := h
      exact gd_no (pe_binX o (chE_ok a h1 c0 hk).1 (chE_ok b h2 c0 hk).1) rfl
    · cases h
  | .neg a, kd, φ, φ2, k, k2, sc, x, X, Ex, h, c0, hk => by
    unfold chE at h
    split at h
    · simp only [Bool.and_eq_true, decide_eq_true_eq] at h
      obtain ⟨rfl, h1⟩ := h
      exact gd_no (pe_negX (chE_ok a h1 c0 hk).1) rfl
    · cases h
  | .cmp o a b, kd, φ, φ2, k, k2, sc, x, X, Ex, h, c0, hk => by
    unfold chE at h
    split at h
    · simp only [Bool.and_eq_true, decide_eq_true_eq] at h
      obtain ⟨⟨⟨rfl, hs⟩, h1⟩, h2⟩ := h
      have i1 := chE_ok a h1 c0 hk
      have i2 := chE_ok b h2 c0 hk
      exact ⟨pe_cmpX c0.hu o i1.1 i2.1 hs, fun _ => pt_cmpX c0.hu o i1.1 i2.1 hs⟩
    · cases h
  | .chn o p a b c, kd, φ, φ2, k, k2, sc, x, X, Ex, h, c0, hk => by
    unfold chE at h
    split at h
    · simp only [Bool.and_eq_true, decide_eq_true_eq] at h
      obtain ⟨⟨⟨⟨⟨rfl, rfl⟩, hs⟩, h1⟩, h2⟩, h3⟩ := h
      have i1 := chE_ok a h1 c0 hk
      have i2 := chE_ok b h2 c0 hk
      have i3 := chE_ok c h3 c0 hk
      exact ⟨pe_chnX c0.hu o p i1.1 i2.1 i3.1 hs, fun _ => pt_chnX c0.hu o p i1.1 i2.1 i3.1 hs⟩
    · cases h
  | .boo kk xs, kd, φ, φ2, k, k2, sc, x, X, Ex, h, c0, hk => by
    unfold chE at h
    split at h
    · simp only [Bool.and_eq_true, decide_eq_true_eq] at h
      obtain ⟨⟨rfl, h1⟩, h2⟩ := h
      have i := fun pos => chB_ok xs kk (pos := pos) h2 c0 hk (fun z => by subst z; cases h1)
      exact ⟨pe_booX (i _).1, fun z => pt_booX ((i _).2 (by unfold tOk at z; exact z))⟩
    · cases h
  | .nt a, kd, φ, φ2, k, k2, sc, x, X, Ex, h, c0, hk => by
    unfold chE at h
    split at h
    · simp only [Bool.and_eq_true, decide_eq_true_eq] at h
      obtain ⟨rfl, h1⟩ := h
      have i1 := chE_ok a h1 c0 hk
      exact ⟨pe_ntX i1.1, fun z => pt_ntX (i1.2 z)⟩
    · cases h
  | .ife a b c, kd, φ, φ2, k, k2, sc, x, X, Ex, h, c0, hk => by
    unfold chE at h
    split at h
    · simp only [Bool.and_eq_true, decide_eq_true_eq] at h
      obtain ⟨⟨⟨ht, h1⟩, h2⟩, h3⟩ := h
      refine ⟨pe_ifeX ((chE_ok a h1 c0 hk).2 ht) (chE_ok b h2 c0 hk).1 (chE_ok c h3 c0 hk).1, fun z => ?_⟩
      simp only [tOk, Bool.and_eq_true] at z
      exact pt_ifeX ((chE_ok a h1 c0 hk).2 z.1.1) ((chE_ok b h2 c0 hk).2 z.1.2) ((chE_ok c h3 c0 hk).2 z.2)
    · cases h
  | .tup xs, kd, φ, φ2, k, k2, sc, x, X, Ex, h, c0, hk => by
    unfold chE at h
    split at h
    · simp only [Bool.and_eq_true, decide_eq_true_eq] at h
      exact gd_no (pe_tupX (chL_ok xs h.2 c0 hk) h.1) rfl
    · cases h
  | .lst xs, kd, φ, φ2, k, k2, sc, x, X, Ex, h, c0, hk => by
    unfold chE at h
    split at h
    · simp only [Bool.and_eq_true, decide_eq_true_eq] at h
      exact gd_no (pe_lstX (chL_ok xs h.2 c0 hk) h.1) rfl
    · cases h
  | .mlst xs, kd, φ, φ2, k, k2, sc, x, X, Ex, h, c0, hk => by
    unfold chE at h
    split at h
    · simp only [Bool.and_eq_true, decide_eq_true_eq] at h
      exact gd_no (pe_mlstX (chL_ok xs h.2 c0 hk) h.1) rfl
    · cases h
  | .mdic, kd, φ, φ2, k, k2, sc, x, X, Ex, h, c0, hk => by
    unfold chE at h
    split at h
    · exact gd_no pe_mdicX rfl
    · cases h
  | .dic1 a b, kd, φ, φ2, k, k2, sc, x, X, Ex, h, c0, hk => by
    unfold chE at h
    split at h
    · simp only [Bool.and_eq_true] at h
      exact gd_no (pe_dic1X c0.hu (chE_ok a h.1 c0 hk).1 (chE_ok b h.2 c0 hk).1) rfl
    · cases h
  | .sdi ks xs, kd, φ, φ2, k, k2, sc, x, X, Ex, h, c0, hk => by
    unfold chE at h
    split at h
    · simp only [Bool.and_eq_true, decide_eq_true_eq] at h
      obtain ⟨⟨⟨⟨⟨h1, h2⟩, h3⟩, h4⟩, h5⟩, h6⟩ := h
      exact gd_no (pe_sdiX (chP_ok xs h6 c0 hk) h1 h3 h2 h4 (fun z => by subst z; cases h5)) rfl
    · cases h
  | .sub a i, kd, φ, φ2, k, k2, sc, x, X, Ex, h, c0, hk => by
    unfold chE at h
    split at h
    · simp only [Bool.and_eq_true, decide_eq_true_eq] at h
      obtain ⟨⟨hs, h1⟩, h2⟩ := h
      exact gd_val (pe_subX c0.hu (chE_ok a h1 c0 hk).1 (chE_ok i h2 c0 hk).1 hs) rfl
    · cases h
  | .slc a lo hi, kd, φ, φ2, k, k2, sc, x, X, Ex, h, c0, hk => by
    unfold chE at h
    split at h
    · simp only [Bool.and_eq_true, decide_eq_true_eq] at h
      obtain ⟨⟨h1, h2⟩, h3⟩ := h
      exact gd_val (pe_slcX (chE_ok a h1 c0 hk).1 (chO_ok lo h2 c0 hk) (chO_ok hi h3 c0 hk)) rfl
    · cases h
  | .call f xs, kd, φ, φ2, k, k2, sc, x, X, Ex, h, c0, hk => by
    unfold chE at h
    split at h
    · simp only [Bool.and_eq_true] at h
      obtain ⟨⟨⟨⟨⟨h1, hM⟩, h2⟩, h3⟩, h4⟩, h5⟩ := h
      exact gd_call c0 h1 (by simpa using hM) h2 h3 h4 (chL_ok xs h5 c0 hk)
    · cases h
  | .isi a ts, kd, φ, φ2, k, k2, sc, x, X, Ex, h, c0, hk => by
    unfold chE at h
    split at h
    · simp only [Bool.and_eq_true] at h
      obtain ⟨⟨⟨h1, h2⟩, h3⟩, h4⟩ := h
      split at h4
      · rename_i ty
        obtain ⟨rfl, g, m⟩ := c0.glB h1 (by decide +kernel)
        obtain ⟨rfl, g2, m2⟩ := c0.glB h4 (ty_mem ty)
        exact gd_val (pe_isi1 g m g2 m2 (chE_ok a h3 c0 hk).1 h2) rfl
      · cases h4
    · simp only [Bool.and_eq_true, decide_eq_true_eq] at h
      obtain ⟨⟨⟨⟨⟨⟨h1, h2⟩, h3⟩, h4⟩, h5⟩, h6⟩, h7⟩ := h
      obtain ⟨rfl, g, m⟩ := c0.glB h1 (by decide +kernel)
      refine gd_val (pe_isiT g m (fun ty q => ⟨c0.gl (List.all_eq_true.mp h3 ty q), c0.blt _ (ty_mem ty)⟩) h2 h4 (fun z => by subst z; cases h5) (chE_ok a h7 c0 hk).1 h6) rfl
    · cases h
  | .bl bt xs, kd, φ, φ2, k, k2, sc, x, X, Ex, h, c0, hk => by
    unfold chE at h
    split at h
    · split at h
      · simp only [Bool.and_eq_true] at h
        obtain ⟨⟨⟨h1, h2⟩, h3⟩, h4⟩ := h
        obtain ⟨rfl, g, m⟩ := c0.glB h1 (by decide +kernel)
        obtain ⟨a, rfl, i⟩ := ch1_ok xs h4 c0 hk
        rw [List.isEmpty_iff.mp h2]
        exact gd_val (pe_dict c0.calm c0.hu g m (pa_consX i.1 pa_nilX h3) h3) rfl
      · split at h
        · simp only [Bool.and_eq_true] at h
          obtain ⟨⟨⟨⟨h1, h2⟩, h3⟩, h4⟩, h5⟩ := h
          obtain ⟨rfl, g, m⟩ := c0.glB h1 (by decide +kernel)
          obtain ⟨rfl, g2, m2⟩ := c0.glB h2 (by decide +kernel)
          obtain ⟨a, rfl, i⟩ := ch1_ok xs h5 c0 hk
          rw [List.isEmpty_iff.mp h3]
          exact gd_val (pe_ss c0.calm (by have := c0.hu; omega) g m g2 m2 i.1 h4) rfl
        · cases h
      · split at h
        · simp only [Bool.and_eq_true] at h
          obtain ⟨⟨⟨⟨h1, h2⟩, h3⟩, h4⟩, h5⟩ := h
          obtain ⟨rfl, g, m⟩ := c0.glB h1 (by decide +kernel)
          obtain ⟨rfl, g2, m2⟩ := c0.glB h2 (by decide +kernel)
          obtain ⟨a, rfl, i⟩ := ch1_ok xs h5 c0 hk
          rw [List.isEmpty_iff.mp h3]
          exact gd_val (pe_ssI c0.calm g m g2 m2 i.1 h4) rfl
        · cases h
      · split at h
        · simp only [Bool.and_eq_true] at h
          obtain ⟨⟨⟨⟨h1, h2⟩, h3⟩, h4⟩, h5⟩ := h
          obtain ⟨rfl, g, m⟩ := c0.glB h1 (by decide +kernel)
          obtain ⟨rfl, g2, m2⟩ := c0.glB h2 (by decide +kernel)
          obtain ⟨a, rfl, i⟩ := ch1_ok xs h5 c0 hk
          rw [List.isEmpty_iff.mp h3]
          exact gd_val (pe_trng c0.calm g m g2 m2 i.1 h4) rfl
        · cases h
      · simp only [Bool.and_eq_true] at h
        obtain ⟨h1, h2⟩ := h
        exact gd_bl c0 (by simp only [Bool.and_eq_true]; exact h1) (chL_ok xs h2 c0 hk)
    · simp only [Bool.and_eq_true, decide_eq_true_eq] at h
      obtain ⟨⟨⟨h1, rfl⟩, h3⟩, h4⟩ := h
      obtain ⟨a, b, rfl, i1, i2⟩ := ch2_ok xs h4 c0 hk
      unfold pickC at h1
      split at h1
      · rename_i n f hp
        obtain ⟨rfl, g, m⟩ := c0.glB h1 (by cases bt <;> simp only [pickD, Option.some.injEq, Prod.mk.injEq, reduceCtorEq] at hp <;> obtain ⟨rfl, _⟩ := hp <;> decide +kernel)
        exact gd_val (pe_pickD c0.calm c0.hu hp g m i1.1 i2.1 h3) rfl
      · cases h1
    · simp only [Bool.and_eq_true, decide_eq_true_eq] at h
      obtain ⟨⟨rfl, rfl⟩, h3⟩ := h
      obtain ⟨a, rfl, i⟩ := ch1_ok xs h3 c0 hk
      exact gd_val (pe_revX i.1) rfl
    · cases h
  | .mbl bt xs, kd, φ, φ2, k, k2, sc, x, X, Ex, h, c0, hk => by
    unfold chE at h
    split at h
    · simp only [Bool.and_eq_true, decide_eq_true_eq] at h
      obtain ⟨⟨⟨rfl, h2⟩, h3⟩, h4⟩ := h
      obtain ⟨rfl, g, m⟩ := c0.glB h2 (by decide +kernel)
      obtain ⟨a, rfl, i⟩ := ch1_ok xs h4 c0 hk
      exact gd_val (pe_mblX g m (pa_consX i.1 pa_nilX h3) h3) rfl
    · cases h
  | .mth mt o xs, kd, φ, φ2, k, k2, sc, x, X, Ex, h, c0, hk => by
    unfold chE at h
    split at h
    · simp only [Bool.and_eq_true, decide_eq_true_eq] at h
      obtain ⟨⟨⟨⟨⟨⟨⟨h1, rfl⟩, h3⟩, h4⟩, h5⟩, h6⟩, h7⟩, h8⟩ := h
      exact gd_val (pe_mthX c0.hu h1 (chE_ok o h7 c0 hk).1 (chL_ok xs h8 c0 hk) h3 h4 h6 h5 (fun z => by subst z; cases xs <;> first | rfl | (rw [chL] at h8; cases h8))) rfl
    · cases h
  | .lc own tg ik it ts elt, kd, φ, φ2, k, k2, sc, x, X, Ex, h, c0, hk => by
    unfold chE at h
    split at h
    · simp only [Bool.and_eq_true] at h
      obtain ⟨⟨⟨h1, h2⟩, h3⟩, h4⟩ := h
      obtain ⟨rfl, b1, b2, b3, b4⟩ := blk_of (φ2 := φ2) c0 h1 (fun X' c1 => chT_ok ts (k2 := k2) h3 c1) (fun X' c1 => (chE_ok elt (k2 := k2) h4 c1 (fun z => by cases z)).1)
      have q := fun pos => pe_lcX (pos := pos) c0.calm (by rw [c0.N]; exact c0.nd) (chI_ok it h2 c0 hk (m := false) (fun z => by cases z)) b1 b2 b3 b4
      rw [ownP_snd] at q
      exact gd_no (q _) rfl
    · cases h
  | .mlc own tg ik it ts elt, kd, φ, φ2, k, k2, sc, x, X, Ex, h, c0, hk => by
    unfold chE at h
    split at h
    · simp only [Bool.and_eq_true] at h
      obtain ⟨⟨⟨h1, h2⟩, h3⟩, h4⟩ := h
      obtain ⟨rfl, b1, b2, b3, b4⟩ := blk_of (φ2 := φ2) c0 h1 (fun X' c1 => chT_ok ts (k2 := k2) h3 c1) (fun X' c1 => (chE_ok elt (k2 := k2) h4 c1 (fun z => by cases z)).1)
      have q := fun pos => pe_mlcX (pos := pos) c0.calm (by rw [c0.N]; exact c0.nd) (chI_ok it h2 c0 hk (m := false) (fun z => by cases z)) b1 b2 b3 b4
      rw [ownP_snd] at q
      exact gd_no (q _) rfl
    · cases h
  | .kind b, kd, φ, φ2, k, k2, sc, x, X, Ex, h, c0, hk => by
    unfold chE at h
    split at h
    · simp only [Bool.and_eq_true, decide_eq_true_eq] at h
      obtain ⟨⟨⟨⟨h1, rfl⟩, h3⟩, h4⟩, h5⟩ := h
      exact gd_val (hk h1 b _ _ _ _ _ _ h4 (c0.gl h3) fun X' Ex' c1 => (chE_ok b (k2 := k2) h5 c1 (fun z => by cases z)).1) rfl
    · cases h
  | .fld o f, kd, φ, φ2, k, k2, sc, x, X, Ex, h, c0, hk => by
    unfold chE at h
    split at h
    · rw [Bool.and_eq_true] at h
      exact gd_fld c0 h.1 (chE_ok o h.2 c0 hk).1
    · cases h
  | .mk f xs, kd, φ, φ2, k, k2, sc, x, X, Ex, h, c0, hk => by
    unfold chE at h
    split at h
    · rw [Bool.and_eq_true, Bool.and_eq_true, Bool.and_eq_true, Bool.and_eq_true] at h
      obtain ⟨⟨⟨⟨h1, h2⟩, h3⟩, h4⟩, h5⟩ := h
      exact gd_mk c0 h1 h2 h3 h4 (chL_ok xs h5 c0 hk)
    · cases h
  | .meth f m o xs, kd, φ, φ2, k, k2, sc, x, X, Ex, h, c0, hk => by
    unfold chE at h
    split at h
    · rw [Bool.and_eq_true, Bool.and_eq_true, Bool.and_eq_true, Bool.and_eq_true, Bool.and_eq_true, Bool.and_eq_true] at h
      obtain ⟨⟨⟨⟨⟨⟨h1, h2⟩, h3⟩, h4⟩, h5⟩, h6⟩, h7⟩ := h
      exact gd_meth c0 h1 h2 h3 (of_decide_eq_true h4) h5 (chE_ok o h6 c0 hk).1 (chL_ok xs h7 c0 hk)
    · cases h
theorem chL_ok : ∀ (xs : EL) {kd : Bool} {φ φ2 : Phi} {k k2 : Nat} {sc : Scope} {es : List Expr} {X : Cx} {Ex : XK}, chL t kd sc xs es = true → Ctx0 t C T cls φ k Ex sc X → (kd = true → KindR t C T cls φ φ2 k2 Ex sc X) → PA X es (TAx X T cls Ex C φ φ2 xs)
  | .nil, kd, φ, φ2, k, k2, sc, es, X, Ex, h, c0, hk => by
    unfold chL at h
    rw [List.isEmpty_iff.mp h]
    exact pa_nilX
  | .cons e r, kd, φ, φ2, k, k2, sc, es, X, Ex, h, c0, hk => by
    unfold chL at h
    split at h
    · simp only [Bool.and_eq_true] at h
      exact pa_consX (chE_ok e h.1.2 c0 hk).1 (chL_ok r h.2 c0 hk) h.1.1
    · cases h
theorem chP_ok : ∀ (xs : EL) {kd : Bool} {φ φ2 : Phi} {k k2 : Nat} {sc : Scope} {es : List Expr} {X : Cx} {Ex : XK}, chL t kd sc xs es = true → Ctx0 t C T cls φ k Ex sc X → (kd = true → KindR t C T cls φ φ2 k2 Ex sc X) → PEs X T cls Ex C φ φ2 es xs
  | .nil, kd, φ, φ2, k, k2, sc, es, X, Ex, h, c0, hk => by
    unfold chL at h
    rw [List.isEmpty_iff.mp h]
    exact .nil
  | .cons e r, kd, φ, φ2, k, k2, sc, es, X, Ex, h, c0, hk => by
    unfold chL at h
    split at h
    · simp only [Bool.and_eq_true] at h
      exact .cons (chE_ok e h.1.2 c0 hk).1 (chP_ok r h.2 c0 hk)
    · cases h
theorem chB_ok : ∀ (xs : EL) (b : Bool) {kd : Bool} {φ φ2 : Phi} {k k2 : Nat} {sc : Scope} {es : List Expr} {X : Cx} {Ex : XK} {pos : Pos}, chL t kd sc xs es = true → Ctx0 t C T cls φ k Ex sc X → (kd = true → KindR t C T cls φ φ2 k2 Ex sc X) → es ≠ [] →
    PE X (.BoolOp (bopOf b) es pos) (TVx X T cls Ex C φ φ2 b xs) ∧ (tOk.tOks xs = true → PW X (.BoolOp (bopOf b) es pos) (TBx X T cls Ex C φ φ2 b xs))
  | .nil, b, kd, φ, φ2, k, k2, sc, es, X, Ex, pos, h, c0, hk, hn => by
    unfold chL at h
    exact absurd (List.isEmpty_iff.mp h) hn
  | .cons e .nil, b, kd, φ, φ2, k, k2, sc, es, X, Ex, pos, h, c0, hk, hn => by
    unfold chL at h
    split at h
    · simp only [Bool.and_eq_true, chL] at h
      rw [List.isEmpty_iff.mp h.2]
      have i := chE_ok e h.1.2 c0 hk
      exact ⟨pv_one i.1, fun z => pw_one (i.2 (by simp only [tOk.tOks, Bool.and_eq_true] at z; exact z.1))⟩
    · cases h
  | .cons e (.cons e' r), b, kd, φ, φ2, k, k2, sc, es, X, Ex, pos, h, c0, hk, hn => by
    unfold chL at h
    split at h
    · simp only [Bool.and_eq_true] at h
      have i := chE_ok e h.1.2 c0 hk
      have h2 := h.2
      unfold chL at h2
      split at h2
      · have i2 := chB_ok (.cons e' r) b (pos := pos) h.2 c0 hk (by simp)
        exact ⟨pv_more i.1 i2.1, fun z => by
          rw [tOk.tOks, Bool.and_eq_true] at z
          exact pw_more (i.2 z.1) (i2.2 z.2)⟩
      · cases h2
    · cases h
theorem chO_ok : ∀ (xs : EL) {kd : Bool} {φ φ2 : Phi} {k k2 : Nat} {sc : Scope} {x : Option Expr} {X : Cx} {Ex : XK}, chO t kd sc xs x = true → Ctx0 t C T cls φ k Ex sc X → (kd = true → KindR t C T cls φ φ2 k2 Ex sc X) → PO X x (TOx X T cls Ex C φ φ2 xs)
  | .nil, kd, φ, φ2, k, k2, sc, x, X, Ex, h, c0, hk => by
    unfold chO at h
    cases x with
    | none => exact po_noneX
    | some _ => cases h
  | .cons e r, kd, φ, φ2, k, k2, sc, x, X, Ex, h, c0, hk => by
    unfold chO at h
    split at h
    · exact po_someX (chE_ok e h c0 hk).1
    · cases h
theorem chT_ok : ∀ (xs : EL) {φ φ2 : Phi} {k k2 : Nat} {sc : Scope} {es : List Expr} {X : Cx} {Ex : XK}, chT t sc xs es = true → Ctx0 t C T cls φ k Ex sc X → PTs X es (TPx X T cls Ex C φ φ2 xs)
  | .nil, φ, φ2, k, k2, sc, es, X, Ex, h, c0 => by
    unfold chT at h
    rw [List.isEmpty_iff.mp h]
    exact PTs.imp pts_nil fun σ H Q ⟨w, env, st, j, en, h⟩ => by
      rw [denT] at h
      exact h w H true (Stp.refl w H) j rfl
  | .cons e r, φ, φ2, k, k2, sc, es, X, Ex, h, c0 => by
    unfold chT at h
    split at h
    · simp only [Bool.and_eq_true] at h
      have i := (chE_ok e (φ2 := φ2) (k2 := k2) h.2 c0 (fun z => by cases z)).2 h.1
      exact PTs.imp (pts_one i) fun σ H Q ⟨w, env, st, j, en, h⟩ => ⟨w, env, st, j, en, by rw [denT] at h; exact h⟩
    · cases h
theorem chI_ok : ∀ (xs : EL) {kd : Bool} {φ φ2 : Phi} {k k2 : Nat} {sc : Scope} {ik : Ik} {x tg : Expr} {X : Cx} {Ex : XK} {m : Bool}, chI t kd sc ik xs x tg = true → Ctx0 t C T cls φ k Ex sc X → (kd = true → KindR t C T cls φ φ2 k2 Ex sc X) → (m = true → ik = .rng) → PI X tg x (TIx X T cls Ex C φ φ2 m ik xs)
  | .nil, kd, φ, φ2, k, k2, sc, ik, x, tg, X, Ex, m, h, c0, hk, hm => by
    unfold chI at h
    cases h
  | .cons a r, kd, φ, φ2, k, k2, sc, ik, x, tg, X, Ex, m, h, c0, hk, hm => by
    unfold chI at h
    split at h
    · obtain rfl := m_no hm (by simp)
      simp only [Bool.and_eq_true, decide_eq_true_eq] at h
      rw [len_nil h.1]
      exact pi_val (chE_ok a h.2 c0 hk).1
    · split at h
      · simp only [Bool.and_eq_true, decide_eq_true_eq] at h
        obtain ⟨⟨⟨h1, h2⟩, h3⟩, h4⟩ := h
        obtain ⟨rfl, g, mm⟩ := c0.glB h1 (by decide +kernel)
        have hr := len_nil h3
        subst hr
        exact pi_rng g mm (pa_consX (chE_ok a h4 c0 hk).1 pa_nilX h2) (.inl rfl) (fun e r h => by rw [List.mem_singleton] at h; subst h; exact star_cons h2 r _) (fun env st rvs st1 h => den_len _ _ _ _ _ h)
      · simp only [Bool.and_eq_true, decide_eq_true_eq] at h
        obtain ⟨⟨⟨⟨h1, h2⟩, h3⟩, h4⟩, h5⟩ := h
        obtain ⟨rfl, g, mm⟩ := c0.glB h1 (by decide +kernel)
        obtain ⟨b, rfl, i⟩ := ch1_ok r h5 c0 hk
        exact pi_rng g mm (pa_consX (chE_ok a h4 c0 hk).1 (pa_consX i.1 pa_nilX h3) h2) (.inr rfl) (star_two h2 h3 _) (fun env st rvs st1 h => den_len _ _ _ _ _ h)
      · cases h
    · obtain rfl := m_no hm (by simp)
      split at h
      · simp only [Bool.and_eq_true, decide_eq_true_eq] at h
        obtain ⟨⟨⟨⟨h0, h1⟩, h2⟩, h3⟩, h4⟩ := h
        obtain ⟨rfl, g, mm⟩ := c0.glB h1 (by decide +kernel)
        have hr := len_nil h3
        subst hr
        cases tg <;> first | exact pi_enm g mm (pa_consX (chE_ok a h4 c0 hk).1 pa_nilX h2) (star_cons h2 [] _) | cases h0
      · cases h
    · obtain rfl := m_no hm (by simp)
      split at h
      · simp only [Bool.and_eq_true, decide_eq_true_eq] at h
        obtain ⟨⟨⟨⟨⟨h0, h1⟩, h2⟩, h3⟩, h4⟩, h5⟩ := h
        obtain ⟨rfl, g, mm⟩ := c0.glB h1 (by decide +kernel)
        obtain ⟨b, rfl, i⟩ := ch1_ok r h5 c0 hk
        cases tg <;> first | exact pi_zp g mm (pa_consX (chE_ok a h4 c0 hk).1 (pa_consX i.1 pa_nilX h3) h2) (star_cons h2 _ _) (star_any _ _ (by simp [h3])) | cases h0
      · cases h
theorem ch1_ok : ∀ (xs : EL) {kd : Bool} {φ φ2 : Phi} {k k2 : Nat} {sc : Scope} {x : Expr} {X : Cx} {Ex : XK}, ch1 t kd sc xs x = true → Ctx0 t C T cls φ k Ex sc X → (kd = true → KindR t C T cls φ φ2 k2 Ex sc X) → ∃ e, xs = oneE e ∧ Gd X T cls Ex C φ φ2 e x
  | .nil, kd, φ, φ2, k, k2, sc, x, X, Ex, h, c0, hk => by
    unfold ch1 at h
    cases h
  | .cons e r, kd, φ, φ2, k, k2, sc, x, X, Ex, h, c0, hk => by
    unfold ch1 at h
    simp only [Bool.and_eq_true, decide_eq_true_eq] at h
    rw [len_nil h.1]
    exact ⟨e, rfl, chE_ok e h.2 c0 hk⟩
theorem ch2_ok : ∀ (xs : EL) {kd : Bool} {φ φ2 : Phi} {k k2 : Nat} {sc : Scope} {x y : Expr} {X : Cx} {Ex : XK}, ch2 t kd sc xs x y = true → Ctx0 t C T cls φ k Ex sc X → (kd = true → KindR t C T cls φ φ2 k2 Ex sc X) → ∃ e e', xs = .cons e (.cons e' .nil) ∧ Gd X T cls Ex C φ φ2 e x ∧ Gd X T cls Ex C φ φ2 e' y
  | .nil, kd, φ, φ2, k, k2, sc, x, y, X, Ex, h, c0, hk => by
    unfold ch2 at h
    cases h
  | .cons e r, kd, φ, φ2, k, k2, sc, x, y, X, Ex, h, c0, hk => by
    unfold ch2 at h
    simp only [Bool.and_eq_true] at h
    obtain ⟨e', rfl, i⟩ := ch1_ok r h.2 c0 hk
    exact ⟨e, e', rfl, chE_ok e h.1 c0 hk, i⟩
end
end
end DL

-- DStmC
/-! DStmC: a look at statements, and what it lets through. -/
namespace DL
open PySem L2
def swapC (sc : Scope) (y : Str) (py vpos : Pos) (scope : Scope) : Bool := (sc.names.lookup y == some .local) && py.line == vpos.line && !(scope.names.any fun (n, k) => n == y && (k == .local || k == .cell))
def isComp : Expr → Expr → Tg → Bool
  | .Name _ _, .ListComp _ _ _ _, .nm _ => true
  | _, _, _ => false
def splC (t : Tb) (sc : Scope) (v i : Nat) : Stmt → Stmt → Bool
  | .For (.Name y _) (.Subscript (.Name x _) (.Constant (.int n) _ _) _) [.Expr (.Call (.Attribute (.Name y2 _) m1 ap1) [.Tuple [.Constant (.int _) _ _, .Constant (.int _) _ _] _ _] [] p1) _] [] _, .Expr (.Call (.Attribute (.Subscript (.Name x2 _) (.Constant (.int n2) _ _) _) m2 ap2) [.List [] _] [] p2) _ =>
    decide (n = 1) && decide (n2 = 1) && decide (y2 = y) && decide (x2 = x) && decide (m1 = Str.ofString "append") && decide (m2 = Str.ofString "append") && (ap1.endLine == p1.line) && (ap2.endLine == p2.line) && decide (t.N[i]? = some y) && decide (t.N[v]? = some x) && locC true sc y && visC sc y && visC sc x && ndC x && ndC y
  | _, _ => false
def splOf : S → Option (Nat × Nat)
  | .spl v i => some (v, i)
  | _ => none
mutual
def chS (t : Tb) (kd : Bool) (sc : Scope) : Bool → S → Stmt → Bool
  | m, .asg tg e, s => match s with
    | .Assign [atg] x _ => tgC (locC true sc) t.N tg atg && chE t kd sc e x && (notComp x && plainAsg atg x || isComp atg x tg)
    | _ => false
  | m, .ast o i e, s => match s with
    | .Assign [.Subscript oe ie _] x _ => notComp x && notSlice ie && chE t kd sc o oe && chE t kd sc i ie && chE t kd sc e x
    | _ => false
  | m, .sfld o f e, s => match s with
    | .Assign [.Attribute oe nm _] x _ => decide (nm = f) && fldNms.contains f && hasObj t && notComp x && chE t kd sc o oe && chE t kd sc e x
    | _ => false
  | m, .exp e, s => match s with
    | .Expr x _ => notComp x && chE t kd sc e x
    | _ => false
  | m, .ret e, s => match s with
    | .Return (some x) _ => chE t kd sc e x
    | _ => false
  | m, .rtt xs, s => match s with
    | .Return (some (.Tuple es _ _)) _ => decide (eLen xs ≤ 1000) && chL t kd sc xs es
    | _ => false
  | m, .retn, s => match s with
    | .Return none _ => true
    | _ => false
  | m, .ifs c a b, s => match s with
    | .If x sa sb _ => tOk c && chE t kd sc c x && chSL t kd sc m a sa && chSL t kd sc m b sb
    | _ => false
  | m, .whl _ c a, s => match s with
    | .While x sa [] _ => tOk c && chE t kd sc c x && chSL t kd sc m a sa
    | _ => false
  | m, .for_ tg ik it a, s => match s with
    | .For atg ai sa [] _ => tgC (locC true sc) t.N tg atg && chI t kd sc ik it ai atg && notSet ai && chSL t kd sc (m && decide (ik = .rng)) a sa
    | _ => false
  | m, .rais k, s => match s with
    | .Raise (some (.Call (.Name x _) [.Constant (.str _) _ _] [] _)) none _ => decide (t.exns[k]? = some x) && glC sc x && ndC x
    | _ => false
  | m, .pass, s => match s with
    | .Pass _ => true
    | _ => false
  | m, .nope, s => true
  | m, .prm s, st => m && chS t kd sc m s st
  | m, .spo o xs, s => match s with
    | .Expr (.Call (.Attribute oe nm apos) [x] [] p) _ => m && decide (nm = Str.ofString "append") && decide (eLen xs = 1) && notCall oe && (apos.endLine == p.line) && notStar x && chE t kd sc o oe && chL t kd sc xs [x]
    | _ => false
  | m, .spl v i, s => false
  | m, .knd w a b nm, s => false
def chSL (t : Tb) (kd : Bool) (sc : Scope) (m : Bool) : SL → List Stmt → Bool
  | .nil, ss => ss.isEmpty
  | .cons s r, ss => match splOf s, ss with
    | some (v, i), s1 :: s2 :: rest => m && splC t sc v i s1 s2 && chSL t kd sc m r rest
    | none, st :: ss => chS t kd sc m s st && chSL t kd sc m r ss
    | _, _ => false
end
section
variable (t : Tb) (C : Cfg) (T : List (Addr × Str)) (cls : Nat → Value)
structure Ctx1 (φ φ2 : Phi) (k k2 : Nat) (kd : Bool) (Ex : XK) (sc : Scope) (X : Cx) : Prop where
  c0 : Ctx0 t C T cls φ k Ex sc X
  fn : ∀ x, X.fn x = true
  bk : X.env.blockKind = .function
  tk : Takes X fun c d _ H => Ex c d H
  po : PassesOwn (model X.prog X.w) X.A X.env X.xe
  exn : ∀ (k : Nat) (x : Str), t.exns[k]? = some x → Gl X x → (x == ("__debug__" : Str)) = false → ∀ (m : Str) (j : Nat) (p p2 pos : Pos), PMk X (.Call (.Name x p) [.Constant (.str m) j p2] [] pos) (fun _ H Q => Q (cls k) none H)
  kind : kd = true → KindR t C T cls φ φ2 k2 Ex sc X
end
section
variable {t : Tb} {C : Cfg} {T : List (Addr × Str)} {cls : Nat → Value} {φ φ2 : Phi} {k k2 : Nat} {kd m : Bool} {Ex : XK} {sc : Scope} {X : Cx} {a b c e : E} {xs : EL} {x1 x2 x : Expr} {es : List Expr} {pos p : Pos}
theorem swap_is (hb : X.env.blockKind = .function) (hs : X.env.scope = sc) {y : Str} {py vpos : Pos} {scope : Scope} {ae : Expr} {gs : List Comprehension} {l : Nat} : swapsWith (.ListComp ae gs scope vpos) (some (.Name y py)) l X.env = pure (swapC sc y py vpos scope) := by
  unfold swapsWith swapC
  rw [hb]
  show pure _ = _
  simp only [Env.kindOf, hs]
  rfl
theorem asg_ok (c1 : Ctx1 t C T cls φ φ2 k k2 kd Ex sc X) {tg : Tg} {atg : Expr} (h : (tgC (locC true sc) t.N tg atg && chE t kd sc e x && (notComp x && plainAsg atg x || isComp atg x tg)) = true) : PS X (.Assign [atg] x pos) (TSx X T cls Ex C φ φ2 m (.asg tg e)) := by
  have c0 := c1.c0
  simp only [Bool.and_eq_true, Bool.or_eq_true] at h
  obtain ⟨⟨h1, h2⟩, h3⟩ := h
  rcases h3 with ⟨h3, h4⟩ | h3
  · exact ps_asgX (chE_ok e h2 c0 c1.kind).1 (tg_ok c0 (loc_ok c0 fun _ => c1.fn) h1) h3 h4
  · unfold isComp at h3
    split at h3
    · rename_i y py ae gs scope vpos i
      unfold tgC at h1
      simp only [Bool.and_eq_true, decide_eq_true_eq] at h1
      obtain ⟨h1, h5⟩ := h1
      have hN : X.N.Nodup := by rw [c0.N]; exact c0.nd
      have hi : X.N[i]? = some y := by rw [c0.N]; exact h1
      have hl : Loc X.env.scope y := by
        unfold locC at h5
        rw [c0.sc]
        split at h5
        · exact .inl (by assumption)
        · exact .inr (by assumption)
        · cases h5
      have hsw := fun (l : Nat) => swap_is (X := X) c1.bk c0.sc (y := y) (py := py) (vpos := vpos) (scope := scope) (ae := ae) (gs := gs) (l := l)
      cases hw : swapC sc y py vpos scope with
      | false =>
        rw [hw] at hsw
        exact ps_setX hN hi hl (.inl (c1.fn y)) (chE_ok e h2 c0 c1.kind).1 (hsw _)
      | true =>
        rw [hw] at hsw
        have hyl : X.env.scope.names.lookup y = some .local := by
          unfold swapC at hw
          simp only [Bool.and_eq_true, beq_iff_eq] at hw
          rw [c0.sc]
          exact hw.1.1
        cases e with
        | lc own tg ik it ts elt =>
          unfold chE at h2
          split at h2
          · rename_i heq
            cases heq
            simp only [Bool.and_eq_true] at h2
            obtain ⟨⟨⟨q1, q2⟩, q3⟩, q4⟩ := h2
            obtain ⟨rfl, b1, b2, b3, b4⟩ := blk_of (φ2 := φ2) c0 q1 (fun X' c1 => chT_ok ts (k2 := k2) q3 c1) (fun X' c1 => (chE_ok elt (k2 := k2) q4 c1 (fun z => by cases z)).1)
            have q := ps_lcX (m := m) (spos := pos) c0.calm hN hi hyl (hsw _) (chI_ok it q2 c0 c1.kind (m := false) (fun z => by cases z)) b1 b2 b3 b4
            rw [ownP_snd] at q
            exact q
          · cases h2
        | mlc own tg ik it ts elt =>
          unfold chE at h2
          split at h2
          · rename_i heq
            cases heq
            simp only [Bool.and_eq_true] at h2
            obtain ⟨⟨⟨q1, q2⟩, q3⟩, q4⟩ := h2
            obtain ⟨rfl, b1, b2, b3, b4⟩ := blk_of (φ2 := φ2) c0 q1 (fun X' c1 => chT_ok ts (k2 := k2) q3 c1) (fun X' c1 => (chE_ok elt (k2 := k2) q4 c1 (fun z => by cases z)).1)
            have q := ps_mlcX (m := m) (spos := pos) c0.calm hN hi hyl (hsw _) (chI_ok it q2 c0 c1.kind (m := false) (fun z => by cases z)) b1 b2 b3 b4
            rw [ownP_snd] at q
            exact q
          · cases h2
        | _ => unfold chE at h2; first | cases h2 | (split at h2 <;> first | cases h2 | (rename_i heq; cases heq))
    · cases h3
theorem spl_ok (c1 : Ctx1 t C T cls φ φ2 k k2 kd Ex sc X) {v i : Nat} {s1 s2 : Stmt} {rest : List Stmt} {r : SL} (h : splC t sc v i s1 s2 = true) (hr : PSs X rest (TSSx X T cls Ex C φ φ2 true r)) : PSs X (s1 :: s2 :: rest) (TSSx X T cls Ex C φ φ2 true (.cons (.spl v i) r)) := by
  have c0 := c1.c0
  unfold splC at h
  split at h
  · simp only [Bool.and_eq_true, decide_eq_true_eq] at h
    obtain ⟨⟨⟨⟨⟨⟨⟨⟨⟨⟨⟨⟨⟨⟨rfl, rfl⟩, rfl⟩, rfl⟩, rfl⟩, rfl⟩, h1⟩, h2⟩, h3⟩, h4⟩, h5⟩, h6⟩, h7⟩, h8⟩, h9⟩ := h
    refine pss_splX c1.po c0.calm (by rw [c0.N]; exact c0.nd) (by rw [c0.N]; exact h3) (by rw [c0.N]; exact h4) ?_ (c1.fn _) (by rw [c0.sc]; exact vis_of h6) (by rw [c0.sc]; exact vis_of h7) (nd_of h8) (nd_of h9) h1 h2 hr
    unfold locC at h5
    rw [c0.sc]
    split at h5
    · exact .inl (by assumption)
    · exact .inr (by assumption)
    · cases h5
  · cases h
mutual
theorem chS_ok : ∀ (s : S) {kd m : Bool} {φ φ2 : Phi} {k k2 : Nat} {sc : Scope} {st : Stmt} {X : Cx} {Ex : XK}, chS t kd sc m s st = true → Ctx1 t C T cls φ φ2 k k2 kd Ex sc X → PS X st (TSx X T cls Ex C φ φ2 m s)
  | .asg tg e, kd, m, φ, φ2, k, k2, sc, st, X, Ex, h, c1 => by
    unfold chS at h
    split at h
    · exact asg_ok c1 h
    · cases h
  | .ast o i e, kd, m, φ, φ2, k, k2, sc, st, X, Ex, h, c1 => by
    unfold chS at h
    split at h
    · simp only [Bool.and_eq_true] at h
      obtain ⟨⟨⟨⟨h1, h2⟩, h3⟩, h4⟩, h5⟩ := h
      exact ps_astX c1.c0.hu (chE_ok e h5 c1.c0 c1.kind).1 (chE_ok o h3 c1.c0 c1.kind).1 (chE_ok i h4 c1.c0 c1.kind).1 h1 h2
    · cases h
  | .sfld o f e, kd, m, φ, φ2, k, k2, sc, st, X, Ex, h, c1 => by
    unfold chS at h
    split at h
    · simp only [Bool.and_eq_true, decide_eq_true_eq] at h
      obtain ⟨⟨⟨⟨⟨rfl, h2⟩, h3⟩, h4⟩, h5⟩, h6⟩ := h
      obtain ⟨Ca, q⟩ := c1.c0.obj h3
      exact ps_sfldX q.at_ q.cl (q.no _ (List.contains_iff_mem.mp h2)) (chE_ok o h5 c1.c0 c1.kind).1 (chE_ok e h6 c1.c0 c1.kind).1 h4
    · cases h
  | .exp e, kd, m, φ, φ2, k, k2, sc, st, X, Ex, h, c1 => by
    unfold chS at h
    split at h
    · simp only [Bool.and_eq_true] at h
      exact ps_expX (chE_ok e h.2 c1.c0 c1.kind).1 h.1
    · cases h
  | .ret e, kd, m, φ, φ2, k, k2, sc, st, X, Ex, h, c1 => by
    unfold chS at h
    split at h
    · exact ps_retX (chE_ok e h c1.c0 c1.kind).1
    · cases h
  | .rtt xs, kd, m, φ, φ2, k, k2, sc, st, X, Ex, h, c1 => by
    unfold chS at h
    split at h
    · simp only [Bool.and_eq_true, decide_eq_true_eq] at h
      exact ps_rttX (chL_ok xs h.2 c1.c0 c1.kind) h.1
    · cases h
  | .retn, kd, m, φ, φ2, k, k2, sc, st, X, Ex, h, c1 => by
    unfold chS at h
    split at h
    · exact ps_retnX
    · cases h
  | .ifs c a b, kd, m, φ, φ2, k, k2, sc, st, X, Ex, h, c1 => by
    unfold chS at h
    split at h
    · simp only [Bool.and_eq_true] at h
      obtain ⟨⟨⟨h1, h2⟩, h3⟩, h4⟩ := h
      exact ps_ifX ((chE_ok c h2 c1.c0 c1.kind).2 h1) (chSL_ok a h3 c1) (chSL_ok b h4 c1)
    · cases h
  | .whl n c a, kd, m, φ, φ2, k, k2, sc, st, X, Ex, h, c1 => by
    unfold chS at h
    split at h
    · simp only [Bool.and_eq_true] at h
      obtain ⟨⟨h1, h2⟩, h3⟩ := h
      exact ps_while c1.po ((chE_ok c h2 c1.c0 c1.kind).2 h1) (chSL_ok a h3 c1)
    · cases h
  | .for_ tg ik it a, kd, m, φ, φ2, k, k2, sc, st, X, Ex, h, c1 => by
    unfold chS at h
    split at h
    · simp only [Bool.and_eq_true] at h
      obtain ⟨⟨⟨h1, h2⟩, h3⟩, h4⟩ := h
      have hik : (m && decide (ik = .rng)) = true → ik = .rng := fun z => by
        simp only [Bool.and_eq_true, decide_eq_true_eq] at z
        exact z.2
      have q := fun pos => ps_for (pos := pos) c1.po c1.c0.calm hik (chI_ok it h2 c1.c0 c1.kind hik) (tg_ok c1.c0 (loc_ok c1.c0 fun _ => c1.fn) h1) (chSL_ok a h4 c1) (fold_no h3 X.env)
      cases hm : m with
      | false => rw [hm] at q; exact q _
      | true =>
        by_cases hr : ik = .rng
        · rw [hm, decide_eq_true hr] at q; exact q _
        · rw [hm, decide_eq_false hr] at q; exact ps_weak (q _)
    · cases h
  | .rais n, kd, m, φ, φ2, k, k2, sc, st, X, Ex, h, c1 => by
    unfold chS at h
    split at h
    · simp only [Bool.and_eq_true, decide_eq_true_eq] at h
      obtain ⟨⟨h1, h2⟩, h3⟩ := h
      exact ps_raiX c1.c0.calm c1.tk (c1.exn n _ h1 (c1.c0.gl h2) (nd_of h3).1 _ _ _ _ _)
    · cases h
  | .pass, kd, m, φ, φ2, k, k2, sc, st, X, Ex, h, c1 => by
    unfold chS at h
    split at h
    · exact ps_passX
    · cases h
  | .nope, kd, m, φ, φ2, k, k2, sc, st, X, Ex, h, c1 => ⟨fun pins s σ H D I h => by
    obtain ⟨w, env, st', j, en, h⟩ := h
    rw [exe] at h
    exact h.elim⟩
  | .prm s, kd, m, φ, φ2, k, k2, sc, st, X, Ex, h, c1 => by
    unfold chS at h
    simp only [Bool.and_eq_true] at h
    obtain ⟨rfl, h2⟩ := h
    exact ps_prmX (chS_ok s h2 c1)
  | .spo o xs, kd, m, φ, φ2, k, k2, sc, st, X, Ex, h, c1 => by
    unfold chS at h
    split at h
    · simp only [Bool.and_eq_true, decide_eq_true_eq] at h
      obtain ⟨⟨⟨⟨⟨⟨⟨rfl, rfl⟩, h3⟩, h4⟩, h5⟩, h6⟩, h7⟩, h8⟩ := h
      exact ps_spoX (chE_ok o h7 c1.c0 c1.kind).1 (chL_ok xs h8 c1.c0 c1.kind) h3 h4 h5 h6
    · cases h
  | .spl v i, kd, m, φ, φ2, k, k2, sc, st, X, Ex, h, c1 => by
    unfold chS at h
    cases h
  | .knd w a b nm, kd, m, φ, φ2, k, k2, sc, st, X, Ex, h, c1 => by
    unfold chS at h
    cases h
theorem chSL_ok : ∀ (s : SL) {kd m : Bool} {φ φ2 : Phi} {k k2 : Nat} {sc : Scope} {ss : List Stmt} {X : Cx} {Ex : XK}, chSL t kd sc m s ss = true → Ctx1 t C T cls φ φ2 k k2 kd Ex sc X → PSs X ss (TSSx X T cls Ex C φ φ2 m s)
  | .nil, kd, m, φ, φ2, k, k2, sc, ss, X, Ex, h, c1 => by
    unfold chSL at h
    rw [List.isEmpty_iff.mp h]
    exact pss_nilX
  | .cons s r, kd, m, φ, φ2, k, k2, sc, ss, X, Ex, h, c1 => by
    unfold chSL at h
    split at h
    · rename_i v i s1 s2 rest he
      simp only [Bool.and_eq_true] at h
      obtain ⟨⟨rfl, h2⟩, h3⟩ := h
      have es : s = .spl v i := by
        cases s <;> simp only [splOf, Option.some.injEq, Prod.mk.injEq, reduceCtorEq] at he
        obtain ⟨rfl, rfl⟩ := he
        rfl
      subst es
      exact spl_ok c1 h2 (chSL_ok r h3 c1)
    · simp only [Bool.and_eq_true] at h
      exact pss_consX (chS_ok s h.1 c1) (chSL_ok r h.2 c1)
    · cases h
end
end
end DL

-- DLev
/-! DLev: the defs of a text, level by level. -/
namespace DL
open PySem L2 PyProof.Rows
/-- a def: its name, its names, its text -/
structure Df where
  x : Str
  N : List Str
  st : Stmt
def chDf (fns : List (Str × Nat)) (gls exns : List Str) (kd m : Bool) (d : Df) (F : Fn) : Bool := C8.scC d.N (d.N.take F.np) (C8.fnScope d.st) && decide (d.N.length = F.ns) && decide (F.np ≤ F.ns) && chSL ⟨d.N, fns, gls, exns⟩ kd (C8.fnScope d.st) m F.body (C8.fnBody d.st)
def fnsOf : List Df → List Fn → List (Str × Nat)
  | d :: ds, F :: Fs => (d.x, F.np) :: fnsOf ds Fs
  | _, _ => []
theorem fnsOf_at {ds : List Df} {Fs : List Fn} {i : Nat} {x : Str} {np : Nat} (h : (fnsOf ds Fs)[i]? = some (x, np)) : ∃ d F, ds[i]? = some d ∧ Fs[i]? = some F ∧ x = d.x ∧ np = F.np := by
  induction ds generalizing Fs i with
  | nil => simp [fnsOf] at h
  | cons d ds ih =>
    cases Fs with
    | nil => simp [fnsOf] at h
    | cons F Fs =>
      cases i with
      | zero =>
        simp only [fnsOf, List.getElem?_cons_zero, Option.some.injEq, Prod.mk.injEq] at h
        exact ⟨d, F, rfl, rfl, h.1.symm, h.2.symm⟩
      | succ i =>
        simp only [fnsOf, List.getElem?_cons_succ] at h
        exact ih h
def chAll (fns : List (Str × Nat)) (gls exns : List Str) (kd : Bool) : List Df → List Fn → Bool
  | d :: ds, F :: Fs => chDf fns gls exns kd false d F && chAll fns gls exns kd ds Fs
  | [], [] => true
  | _, _ => false
theorem chAll_at {fns : List (Str × Nat)} {gls exns : List Str} {kd : Bool} {ds : List Df} {Fs : List Fn} {i : Nat} {d : Df} {F : Fn} (h : chAll fns gls exns kd ds Fs = true) (h1 : ds[i]? = some d) (h2 : Fs[i]? = some F) : chDf fns gls exns kd false d F = true := by
  induction ds generalizing Fs i with
  | nil => simp at h1
  | cons d ds ih =>
    cases Fs with
    | nil => simp at h2
    | cons F Fs =>
      simp only [chAll, Bool.and_eq_true] at h
      cases i with
      | zero =>
        simp only [List.getElem?_cons_zero, Option.some.injEq] at h1 h2
        subst h1 h2
        exact h.1
      | succ i =>
        simp only [List.getElem?_cons_succ] at h1 h2
        exact ih h.2 h1 h2
/-- an own class of exceptions -/
structure ExF (K : PySem.W.Frag) (mg : Str → Option Value) (x : Str) (c : Value) : Prop where
  ex : ∃ (Ca : Addr) (bmB : List Value) (B newId initId : String), c = .ref Ca ∧ ExcBaseFacts B newId initId bmB ∧ PySem.W.excIn K Ca bmB newId = true ∧ mg x = some (.ref Ca) ∧ PySem.W.keepIn K (.ref Ca) = true ∧ PySem.W.subIn K (.ref Ca) (.type "BaseException") = some true ∧ PySem.W.typeIn K (.ref Ca) = some (.type "type")
/-- what is known of the text behind its top -/
structure Facts (P : Program) (w : World) (K : PySem.W.Frag) (mg : Str → Option Value) (base : Heap) (T : List (Addr × Str)) (cls : Nat → Value) (C : Cfg) (defs : List Df) (prog : List Fn) (gls exns : List Str) : Prop where
  defs : ∀ (i : Nat) (d : Df) (F : Fn), defs[i]? = some d → prog[i]? = some F → ∃ nm fa fd, C8.Fun K nm d.x d.st fa fd ∧ Nmd K mg d.x fa ∧ L2.Binds K fd (d.N.take F.np) []
  gls : ∀ (n : Nat) (x : Str), gls[n]? = some x → ∃ d v u, C.glb[n]? = some d ∧ mg x = some u ∧ RelV v u ∧ ∀ w H, RepD K H (Wd.free w) (Wd.ok w H .pur) d v
  blt : ∀ x ∈ bltNames, mg x = none
  exn : ∀ (k : Nat) (x : Str), exns[k]? = some x → ExF K mg x (cls k)
/-- the machine's levels for a level of ours -/
def lv (k : Nat) : Nat := 2 * k
theorem lev2 (C : Cfg) (prog : List Fn) : ∀ k, (lev C prog k).2.1 = Ph C prog (k - 1) ∧ (lev C prog k).2.2 = Ph C prog (k - 2)
  | 0 => ⟨rfl, rfl⟩
  | 1 => ⟨rfl, rfl⟩
  | k + 2 => by
    refine ⟨rfl, ?_⟩
    show (lev C prog (k + 1)).2.1 = _
    exact (lev2 C prog (k + 1)).1
theorem ph_succ (C : Cfg) (prog : List Fn) (k f : Nat) : Ph C prog (k + 1) f = fun args st => match prog[f]? with
      | some F => runFn C (Ph C prog k) (Ph C prog (k - 2)) F args st
      | none => .bad := by
  have := (lev2 C prog k).2
  show (fun args st => match prog[f]? with
      | some F => runFn C (lev C prog k).1 (lev C prog k).2.2 F args st
      | none => .bad) = _
  rw [this]
  rfl
section
variable {P : Program} {w : World} {K : PySem.W.Frag} {mg : Str → Option Value} {base : Heap} {T : List (Addr × Str)} {cls : Nat → Value} {C : Cfg} {defs : List Df} {prog : List Fn} {gls exns : List Str} {kd : Bool}
/-- what a call wants to know, at level j -/
def Calls (P : Program) (w : World) (K : PySem.W.Frag) (mg : Str → Option Value) (base : Heap) (T : List (Addr × Str)) (cls : Nat → Value) (fns : List (Str × Nat)) (j : Nat) (φ : Phi) : Prop :=
  ∀ (f : Nat) (x : Str) (np : Nat), fns[f]? = some (x, np) → ∃ fa fd ps, FnOk P w K mg base (L2.CX P w) j fa fd ps (spF P w K T cls np (φ f)) ∧ Nmd K mg x fa ∧ L2.Binds K fd ps []
theorem Calls.mono {fns : List (Str × Nat)} {j i : Nat} {φ : Phi} (h : Calls P w K mg base T cls fns j φ) (q : j ≤ i) : Calls P w K mg base T cls fns i φ := fun f x np e => by
  obtain ⟨fa, fd, ps, F, h1⟩ := h f x np e
  exact ⟨fa, fd, ps, F.mono q, h1⟩
theorem sp_len {np : Nat} {f : List RV → Store → Res RV} : ∀ vs H Q E, spF P w K T cls np f vs H Q E → vs.length = np := fun vs H Q E h => by
  obtain ⟨w1, st, rvs, j, r, hl, _⟩ := h
  rw [← r.length]
  exact hl
theorem start_env {w1 : Wd} {H : Hp} {rvs : List RV} {vs : List V} {N : List Str} {ns np : Nat} (r : RepVs K w1 H rvs vs) (hl : rvs.length = np) (hn : N.length = ns) (hp : np ≤ ns) : EnvR K w1 H (rvs.map some ++ List.replicate (ns - np) none) (L2.start N vs) := by
  have e : vs.length = np := by rw [← r.length]; exact hl
  unfold L2.start
  rw [hn, e]
  refine ⟨by simp [hl, e], fun i rv h => ?_⟩
  by_cases hi : i < rvs.length
  · rw [List.getElem?_append_left (by simpa using hi)] at h
    rw [List.getElem?_append_left (by rw [List.length_map, e, ← hl]; exact hi)]
    rw [List.getElem?_map] at h
    cases hr : rvs[i]? with
    | none => rw [hr] at h; cases h
    | some a =>
      rw [hr] at h
      cases h
      obtain ⟨v, h1, h2⟩ := pget r i hr
      exact ⟨v, by rw [List.getElem?_map, h1]; rfl, h2⟩
  · rw [List.getElem?_append_right (by simpa using hi), List.getElem?_replicate] at h
    split at h <;> cases h
theorem ctx_of {d : Df} {F : Fn} {fa : Addr} {cdv : Value} {A : Around} {outer : List PySem.Env} {s : Shared} {H : Hp} {E : XK} {k j : Nat} {φ φ2 : Phi} (M : Facts P w K mg base T cls C defs prog gls exns) (hc : C8.scC d.N (d.N.take F.np) (C8.fnScope d.st) = true) (hr : Room (j + 1) (A.deeper (envOfC d.x (C8.fnScope d.st) s.heap.objs.size fa cdv)))
    (h1 : Calls P w K mg base T cls (fnsOf defs prog) j φ) (hk : kd = true → KindR ⟨d.N, fnsOf defs prog, gls, exns⟩ C T cls φ φ2 k E (C8.fnScope d.st) (cxOf (L2.CX P w) P w K mg base d.N d.x (C8.fnScope d.st) fa cdv A outer s H E)) :
    Ctx1 ⟨d.N, fnsOf defs prog, gls, exns⟩ C T cls φ φ2 j k kd E (C8.fnScope d.st) (cxOf (L2.CX P w) P w K mg base d.N d.x (C8.fnScope d.st) fa cdv A outer s H E) := by
  have S := C8.fnScope_by hc
  have tk : Takes (cxOf (L2.CX P w) P w K mg base d.N d.x (C8.fnScope d.st) fa cdv A outer s H E) fun c d _ H => E c d H := takes_of rfl rfl rfl rfl
  refine ⟨⟨rfl, rfl, S.nd, rfl, hr, M.gls, M.blt, h1, passes_call tk fun _ _ _ _ h => h⟩, fun _ => rfl, ?_, tk, passes_of (X := cxOf (L2.CX P w) P w K mg base d.N d.x (C8.fnScope d.st) fa cdv A outer s H E) rfl, ?_, hk⟩
  · show (envOfC d.x (C8.fnScope d.st) s.heap.objs.size fa cdv).blockKind = .function
    have q : (envOfC d.x (C8.fnScope d.st) s.heap.objs.size fa cdv).scope.kind = .function := S.kind
    unfold Env.blockKind
    rw [q]
    rfl
  · intro n x e hg hd m j p p2 pos
    obtain ⟨Ca, bmB, B, newId, initId, ec, q1, q2, q3, q4, q5, q6⟩ := (M.exn n x e).ex
    rw [ec]
    exact pmk_own q1 q2 q3 q4 (raises_own q5 q6) hg hd
theorem rl_no {w1 w2 : Wd} {H1 H2 : Hp} (h : Rl false w1 w2 H1 H2) : Stp w1 w2 H1 H2 := h.elim (fun z => by cases z) id
theorem levels (M : Facts P w K mg base T cls C defs prog gls exns) (hc : chAll (fnsOf defs prog) gls exns false defs prog = true) : ∀ k, Calls P w K mg base T cls (fnsOf defs prog) (lv k) (Ph C prog k) := by
  intro k
  induction k with
  | zero =>
    intro f x np e
    obtain ⟨d, F, e1, e2, rfl, rfl⟩ := fnsOf_at e
    obtain ⟨nm, fa, fd, D, N, B⟩ := M.defs f d F e1 e2
    refine ⟨fa, fd, d.N.take F.np, ?_, N, B⟩
    have h := chAll_at hc e1 e2
    unfold chDf at h
    simp only [Bool.and_eq_true, decide_eq_true_eq] at h
    obtain ⟨⟨⟨h1, h2⟩, h3⟩, h4⟩ := h
    have hps : (d.N.take F.np).length = F.np := by rw [List.length_take, h2]; omega
    refine ⟨fun vs H Q E h => by rw [hps]; exact sp_len _ _ _ _ h, fun A outer s H args us vs Q E _ _ _ _ h => ?_⟩
    obtain ⟨w1, st, rvs, j, r, hl, h⟩ := h
    exact h.elim
  | succ k ih =>
    intro f x np e
    obtain ⟨d, F, e1, e2, rfl, rfl⟩ := fnsOf_at e
    obtain ⟨nm, fa, fd, D, N, B⟩ := M.defs f d F e1 e2
    refine ⟨fa, fd, d.N.take F.np, ?_, N, B⟩
    have h := chAll_at hc e1 e2
    unfold chDf at h
    simp only [Bool.and_eq_true, decide_eq_true_eq] at h
    obtain ⟨⟨⟨h1, h2⟩, h3⟩, h4⟩ := h
    have hps : (d.N.take F.np).length = F.np := by rw [List.length_take, h2]; omega
    obtain ⟨oc, od, dV, kV, doc, pm, an, cdv, ct, osl, rfl, lk, hcd⟩ := D.ex
    refine fn_of (k := lv k + 1) lk hcd (C8.fnScope_by h1) (fun vs H Q E h => by rw [hps]; exact sp_len _ _ _ _ h) fun A outer s H vs Q E hr h => ?_
    have c1 := ctx_of (kd := false) (F := F) (outer := outer) (H := H) (E := E) (k := 0) (φ2 := Ph C prog (k - 2)) M h1 hr ih fun z => by cases z
    refine ⟨_, chSL_ok F.body h4 c1, ?_⟩
    obtain ⟨w1, st, rvs, j, r, hl, h⟩ := h
    refine ⟨w1, rvs.map some ++ List.replicate (F.ns - F.np) none, st, j, start_env r hl h2 h3, ?_⟩
    rw [ph_succ] at h
    simp only [e2] at h
    unfold runFn at h
    rw [if_pos hl] at h
    cases hx : exes C (Ph C prog k) (Ph C prog (k - 2)) F.body (rvs.map some ++ List.replicate (F.ns - F.np) none) st with
    | bad => rw [hx] at h; exact h.elim
    | exc n st1 => rw [hx] at h; exact fun w' H' d' r j' => h w' H' d' (rl_no r) j'
    | rt v st1 => rw [hx] at h; exact fun w' H' x r j' rv => h w' H' x (rl_no r) j' rv
    | rtt vs st1 =>
      rw [hx] at h
      change OkR P w K T cls E w1 H (thaw st.length vs st1) Q at h
      intro w' H' a ys r j' ry ht fa hz
      cases ht2 : thaw st.length vs st1 with
      | bad => rw [ht2] at h; exact h.elim
      | exc n st2 => exact absurd ht2 (thaw_ne _ _ _ _ _)
      | ok v st2 =>
        rw [ht2] at h
        obtain ⟨w2, r2, j2, rv⟩ := thaw_ok (rl_no r) j j' ry ht fa hz ht2
        exact h w2 H' _ r2 j2 rv
    | nx env st1 => rw [hx] at h; exact fun w' H' σ' r j' en => h w' H' .non (rl_no r) j' (repN w' H')
end
end DL

-- DKind
/-! DKind: _law_kind(lambda: ..): which of the own exceptions comes out. -/
namespace DL
open PySem L2 PyProof.Rows
/-! ### the text of _law_kind, b its line -/
abbrev kNm (b l c : Nat) (x : Str) (n : Nat) : Expr := .Name x ⟨b + l, c, b + l, c + n⟩
abbrev kIs (b l c : Nat) (x : Str) (n : Nat) : Expr := .Call (.Name "isinstance" ⟨b + l, c, b + l, c + 10⟩) [.Name "e" ⟨b + l, c + 11, b + l, c + 12⟩, .Name x ⟨b + l, c + 14, b + l, c + 14 + n⟩] [] ⟨b + l, c, b + l, c + 15 + n⟩
abbrev kS (b l c : Nat) (x : Str) (n : Nat) : Expr := .Constant (.str x) 0 ⟨b + l, c, b + l, c + n⟩
abbrev kKs (b l c : Nat) : Expr := .Name "_law_kinds" ⟨b + l, c, b + l, c + 10⟩
abbrev kM (b l c : Nat) (m : Str) (n : Nat) : Expr := .Call (.Attribute (kKs b l c) m ⟨b + l, c, b + l, c + 11 + n⟩) [.Constant (.bool true) 0 ⟨b + l, c + n + 12, b + l, c + n + 16⟩] [] ⟨b + l, c, b + l, c + n + 17⟩
abbrev kSt1 (b : Nat) : Stmt := .Assign [kKs b 4 8] (.List [kIs b 4 22 "NoBody" 6, kIs b 4 45 "Outside" 7, kIs b 4 69 "NoLayer" 7, kIs b 4 93 "NoProp" 6] ⟨b + 4, 21, b + 4, 115⟩) ⟨b + 4, 8, b + 4, 115⟩
abbrev kSt2 (b : Nat) : Stmt := .Assign [kKs b 5 8] (.BinOp (kKs b 5 21) .Add (.List [kIs b 5 35 "BadReach" 8, kIs b 5 60 "BadPlace" 8, kIs b 5 85 "BadText" 7] ⟨b + 5, 34, b + 5, 108⟩) ⟨b + 5, 21, b + 5, 108⟩) ⟨b + 5, 8, b + 5, 108⟩
abbrev kSt3 (b : Nat) : Stmt := .If (.BoolOp .Or [.Compare (kM b 6 11 "count" 5) [.NotEq] [.Constant (.int 1) 0 ⟨b + 6, 37, b + 6, 38⟩] ⟨b + 6, 11, b + 6, 38⟩, .UnaryOp .Not (kIs b 6 46 "ValueError" 10) ⟨b + 6, 42, b + 6, 71⟩] ⟨b + 6, 11, b + 6, 71⟩)
  [.Return (some (kS b 7 19 "other" 7)) ⟨b + 7, 12, b + 7, 26⟩] [] ⟨b + 6, 8, b + 7, 26⟩
abbrev kSt4 (b : Nat) : Stmt := .Return (some (.Subscript (.List [kS b 8 16 "NoBody" 8, kS b 8 26 "Outside" 9, kS b 8 37 "NoLayer" 9, kS b 8 48 "NoProp" 8, kS b 8 58 "BadReach" 10, kS b 8 70 "BadPlace" 10, kS b 8 82 "BadText" 9] ⟨b + 8, 15, b + 8, 92⟩) (kM b 8 93 "index" 5) ⟨b + 8, 15, b + 8, 116⟩)) ⟨b + 8, 8, b + 8, 116⟩
abbrev kBody (b : Nat) : List Stmt := [.Try [.Expr (.Call (kNm b 2 8 "_law_work" 9) [] [] ⟨b + 2, 8, b + 2, 19⟩) ⟨b + 2, 8, b + 2, 19⟩] [.ExceptHandler (some (kNm b 3 11 "PrintError" 10)) (some "e") [kSt1 b, kSt2 b, kSt3 b, kSt4 b] ⟨b + 3, 4, b + 8, 116⟩] [] [] ⟨b + 1, 4, b + 8, 116⟩,
  .Return (some (kS b 9 11 "" 2)) ⟨b + 9, 4, b + 9, 13⟩]
def kNames : List Str := ["NoBody", "Outside", "NoLayer", "NoProp", "BadReach", "BadPlace", "BadText"]
def kScope : Scope := { kind := .function, names := [("_law_work", .local), ("e", .local), ("_law_kinds", .local), ("PrintError", .globalImplicit), ("isinstance", .globalImplicit), ("NoBody", .globalImplicit), ("Outside", .globalImplicit), ("NoLayer", .globalImplicit), ("NoProp", .globalImplicit), ("BadReach", .globalImplicit), ("BadPlace", .globalImplicit), ("BadText", .globalImplicit), ("ValueError", .globalImplicit)], isGenerator := false, isCoroutine := false, more := [] }
def kArgs (b : Nat) : Arguments := { posonlyargs := [], args := [{ arg := "_law_work", annotation := none, pos := ⟨b, 14, b, 23⟩ }], vararg := none, kwonlyargs := [], kw_defaults := [], kwarg := none, defaults := [] }
abbrev kN : List Str := ["_law_work", "e", "_law_kinds"]
/-! ### what is known of the classes -/
structure KFacts (K : PySem.W.Frag) (mg : Str → Option Value) (cls : Nat → Value) : Prop where
  at_ : ∀ k, k < 6 → ∃ D, cls k = .ref D ∧ ExcC K D ∧ PySem.W.kitOne K (.ref D) (.type "ValueError") = some true
  nm : ∀ j x, kNames[j]? = some x → mg x = some (cls j) ∧ ∃ D, cls j = .ref D
  is_ : ∀ k j, k < 6 → j < 7 → PySem.W.kitOne K (cls k) (cls j) = some (decide (j = k))
  top : ∃ D, mg "PrintError" = some (.ref D) ∧ ∀ k, k < 6 → PySem.W.exmOne K (cls k) (.ref D) = some true
  isi : mg "isinstance" = none
  ve : mg "ValueError" = none
/-- new things only -/
inductive Nw : Hp → Hp → Prop
  | refl (H : Hp) : Nw H H
  | add {H H1 : Hp} {p : Addr} {o : HO} : Nw H H1 → H1 p = none → (∀ ps, o ≠ .tbl ps) → Nw H (upd H1 p o)
section
variable {X : Cx} {T : List (Addr × Str)} {w : Wd} {H H1 : Hp} {st : Store}
theorem Nw.step (n : Nw H H1) (j : JX X T w st H) : Stp w w H H1 ∧ JX X T w st H1 := by
  induction n with
  | refl => exact ⟨Stp.refl w _, j⟩
  | add n hp ho ih =>
    obtain ⟨s, j1⟩ := ih
    exact ⟨s.trans (Stp.fresh hp), j1.fresh hp ho⟩
end
/-! ### xs.count(b), flat items -/
section
variable {X : Cx}
def rCntV (K : PySem.W.Frag) : V → List V → Hp → VK → Prop := fun x xs H Q => ∃ (a : Addr) (ys : List V) (y : V), x = V.ref a ∧ xs = [y] ∧ SqL K H a ys ∧ flatV y = true ∧ ys.all flatV = true ∧ Q (.int (ys.countP (fun z => eqV z y) : Nat)) H
theorem eq_count {y : V} : ∀ {ys : List V} {us : List Value}, Vals ys us → ys.all flatV = true → us.countP (eqU y) = ys.countP fun z => eqV z y
  | _, _, .nil, _ => rfl
  | z :: ys, u :: us, .cons r t, f => by
    rw [List.all_cons, Bool.and_eq_true] at f
    rw [List.countP_cons, List.countP_cons, eq_count t f.2, eqU_of r f.1]
theorem mt_countV : MtR X "list.count" (rCntV X.K) := by
  intro pins s σ H x xs v us Q I rx rxs h
  obtain ⟨a, ys, y, rfl, rfl, hs, fy, fys, q⟩ := h
  cases rx
  obtain ⟨u, rfl, ry⟩ := rxs.one
  obtain ⟨its, rv, ⟨⟨cls, dd, data, sl⟩, n, ho, hc, hdn, hd⟩, hlen⟩ := I.list hs
  simp only at hc hd
  subst hc hd
  refine call_meets PySem.F.slot_list_count ⟨_, ho, rfl⟩ PySem.F.entry_list_count (PySem.F.args_list_count_2 _ _)
    (SeqAt.list_countAt a its.toArray n dd sl u (eqU y)) ⟨ho, fun u' hu' => mem_eqAt ry fy rv fys u' (by simpa using hu'), ?_⟩
  have ec : its.toArray.toList.countP (eqU y) = ys.countP fun z => eqV z y := eq_count rv fys
  refine ⟨.int (ys.countP (fun z => eqV z y) : Nat), H, I.tok _, ⟨s.toks, ?_⟩, q⟩
  show Value.int ((its.toArray.toList.countP (eqU y) : Nat) : Int) s.toks = Value.int ((ys.countP (fun z => eqV z y) : Nat) : Int) s.toks
  rw [ec]
end
/-! ### the suite -/
section
variable {Z : Cx} {a D : Addr} {oe : Obj} {pn : List (Addr × Obj)} {b l c n : Nat} {x : Str}
theorem pe_kIs (C : ExcC Z.K D) (hz : Zc (.ref D) none oe) (hf : ∃ vs, oe.data = .fields vs) (hN : Z.N = kN) (hs : Z.env.scope = kScope) (hi : Z.mg "isinstance" = none) {cv : V} {u : Value} {r : Bool} (hx : PE (Z.suite a ((a, oe) :: pn)) (.Name x ⟨b + l, c + 14, b + l, c + 14 + n⟩) (tC cv)) (hu : ∀ v, RelV cv v → v = u) (hk : PySem.W.kitOne Z.K (.ref D) u = some r) :
    PE (Z.suite a ((a, oe) :: pn)) (kIs b l c x n) (fun σ H Q => σ[1]? = some (some (.ref a)) ∧ Q (.bl r) H) := by
  have he : PE (Z.suite a ((a, oe) :: pn)) (.Name "e" ⟨b + l, c + 11, b + l, c + 12⟩) (tVar 1) := pe_var (by show Z.N[1]? = _; rw [hN]; rfl) (.inl (by show Z.env.scope.names.lookup _ = _; rw [hs]; decide +kernel)) (by decide +kernel) (by decide +kernel)
  have hg : Gl (Z.suite a ((a, oe) :: pn)) "isinstance" := by
    show Z.env.scope.names.lookup _ = _
    rw [hs]
    decide +kernel
  refine PE.imp (pe_callB (call_isE C hz hf) hg hi (by decide +kernel) (pa_cons he (pa_cons hx pa_nil)) (by decide +kernel) (by decide +kernel)) fun σ H Q ⟨h1, h2⟩ => ?_
  exact ⟨.ref a, h1, cv, u, r, rfl, hu, hk, h2⟩
variable {cls : Nat → Value} {k : Nat}
theorem pe_kNm (F : KFacts Z.K Z.mg cls) (hN : Z.N = kN) (hs : Z.env.scope = kScope) (hk : k < 6) (hz : Zc (cls k) none oe) (hf : ∃ vs, oe.data = .fields vs) {j : Nat} (hj : kNames[j]? = some x) :
    PE (Z.suite a ((a, oe) :: pn)) (kIs b l c x n) (fun σ H Q => σ[1]? = some (some (.ref a)) ∧ Q (.bl (decide (j = k))) H) := by
  obtain ⟨D, e, C, _⟩ := F.at_ k hk
  obtain ⟨hm, D2, e2⟩ := F.nm j x hj
  have hj7 : j < 7 := (List.getElem?_eq_some_iff.mp hj).1
  have q := F.is_ k j hk hj7
  rw [e, e2] at q
  rw [e] at hz
  rw [e2] at hm
  have hgx : kScope.names.lookup x = some .globalImplicit ∧ (x == ("__debug__" : Str)) = false := by
    match j, hj with
    | 0, h => cases h; decide +kernel
    | 1, h => cases h; decide +kernel
    | 2, h => cases h; decide +kernel
    | 3, h => cases h; decide +kernel
    | 4, h => cases h; decide +kernel
    | 5, h => cases h; decide +kernel
    | 6, h => cases h; decide +kernel
    | j + 7, h => simp [kNames] at h
  have hg : Gl (Z.suite a ((a, oe) :: pn)) x := by
    show Z.env.scope.names.lookup _ = _
    rw [hs]
    exact hgx.1
  exact pe_kIs C hz hf hN hs F.isi (pe_glob hg hm (v := .ref D2) rfl hgx.2) (fun v h => h) q
theorem pe_kVe (F : KFacts Z.K Z.mg cls) (hN : Z.N = kN) (hs : Z.env.scope = kScope) (hk : k < 6) (hz : Zc (cls k) none oe) (hf : ∃ vs, oe.data = .fields vs) :
    PE (Z.suite a ((a, oe) :: pn)) (kIs b l c "ValueError" n) (fun σ H Q => σ[1]? = some (some (.ref a)) ∧ Q (.bl true) H) := by
  obtain ⟨D, e, C, q⟩ := F.at_ k hk
  rw [e] at hz
  have hg : Gl (Z.suite a ((a, oe) :: pn)) "ValueError" := by
    show Z.env.scope.names.lookup _ = _
    rw [hs]
    decide +kernel
  exact pe_kIs C hz hf hN hs F.isi (pe_bltn hg F.ve (v := .ty "ValueError") (u := .type "ValueError") (by decide +kernel) rfl (by decide +kernel) (by decide +kernel)) (fun v h => h) q
theorem pe_ks (hN : Z.N = kN) (hs : Z.env.scope = kScope) : PE (Z.suite a ((a, oe) :: pn)) (kKs b l c) (tVar 2) :=
  pe_var (by show Z.N[2]? = _; rw [hN]; rfl) (.inl (by show Z.env.scope.names.lookup _ = _; rw [hs]; decide +kernel)) (by decide +kernel) (by decide +kernel)
def kBs (k : Nat) : List V := (List.range 7).map fun j => V.bl (decide (j = k))
theorem kind_suite (F : KFacts Z.K Z.mg cls) (hN : Z.N = kN) (hs : Z.env.scope = kScope) (hfn : ∀ x, Z.fn x = true) (hk : k < 6) (hz : Zc (cls k) none oe) (hf : ∃ vs, oe.data = .fields vs) :
    PSs (Z.suite a ((a, oe) :: pn)) [kSt1 b, kSt2 b, kSt3 b, kSt4 b] (fun Dn σ H => σ.length = 3 ∧ σ[1]? = some (some (.ref a)) ∧ ∀ H', Nw H H' → Dn.rt (.str (kNames.getD k "")) H') := by
  have nd : (Z.suite a ((a, oe) :: pn)).N.Nodup := by show Z.N.Nodup; rw [hN]; decide +kernel
  have h2 : (Z.suite a ((a, oe) :: pn)).N[2]? = some ("_law_kinds" : Str) := by show Z.N[2]? = _; rw [hN]; rfl
  have hl : Loc (Z.suite a ((a, oe) :: pn)).env.scope "_law_kinds" := .inl (by show Z.env.scope.names.lookup _ = _; rw [hs]; decide +kernel)
  have nm := fun (l c n j : Nat) (x : Str) (hj : kNames[j]? = some x) => pe_kNm (a := a) (pn := pn) (b := b) (l := l) (c := c) (n := n) F hN hs hk hz hf hj
  have ks := fun (l c : Nat) => pe_ks (a := a) (oe := oe) (pn := pn) (b := b) (l := l) (c := c) hN hs
  have p1 : PS (Z.suite a ((a, oe) :: pn)) (kSt1 b) _ := ps_set (i := 2) nd h2 hl (pe_lst (pa_cons (nm 4 22 6 0 _ rfl) (pa_cons (nm 4 45 7 1 _ rfl) (pa_cons (nm 4 69 7 2 _ rfl) (pa_cons (nm 4 93 6 3 _ rfl) pa_nil))))) rfl (.inl (hfn _))
  have p2 : PS (Z.suite a ((a, oe) :: pn)) (kSt2 b) _ := ps_set (i := 2) nd h2 hl (pe_op op_cat (ks 5 21) (pe_lst (pa_cons (nm 5 35 8 4 _ rfl) (pa_cons (nm 5 60 8 5 _ rfl) (pa_cons (nm 5 85 7 6 _ rfl) pa_nil))))) rfl (.inl (hfn _))
  have cnt : PE (Z.suite a ((a, oe) :: pn)) (kM b 6 11 "count" 5) _ := pe_bm PySem.F.plainAttrs_list PySem.F.slot_list_count PySem.F.type_list_count mt_countV (ks 6 11) (pa_cons pe_bl pa_nil) rfl rfl (by simp)
  have idx : PE (Z.suite a ((a, oe) :: pn)) (kM b 8 93 "index" 5) _ := pe_bm PySem.F.plainAttrs_list PySem.F.slot_list_index PySem.F.type_list_index mt_index (ks 8 93) (pa_cons pe_bl pa_nil) rfl rfl (by simp)
  have p3 : PS (Z.suite a ((a, oe) :: pn)) (kSt3 b) _ := ps_if (pw_or (pt_cmpR op_ne cnt pe_int rfl) (pw_or1 (pt_not (pt_val (pe_kVe F hN hs hk hz hf))))).pt (pss_one (ps_ret pe_str)) pss_nil
  have p4 : PS (Z.suite a ((a, oe) :: pn)) (kSt4 b) _ := ps_ret (pe_ix ix_list (pe_lst (pa_cons pe_str (pa_cons pe_str (pa_cons pe_str (pa_cons pe_str (pa_cons pe_str (pa_cons pe_str (pa_cons pe_str pa_nil)))))))) idx (fun _ _ => rfl))
  refine PSs.imp (pss_cons p1 (pss_cons p2 (pss_cons p3 (pss_one p4)))) fun Dn σ H ⟨hlen, h1, hq⟩ => ?_
  have h1' : ∀ p : Addr, (σ.set 2 (some (V.ref p)))[1]? = some (some (.ref a)) := fun p => by rw [List.getElem?_set_ne (by decide)]; exact h1
  have g2 : ∀ (τ : L2.St) (p : Addr), τ.length = 3 → (τ.set 2 (some (V.ref p)))[2]? = some (some (.ref p)) := fun τ p h => List.getElem?_set_self (by omega)
  refine ⟨h1, h1, h1, h1, by show (4 : Nat) ≤ _; rw [sizeLine_eq]; decide, fun l1 n1 => ?_⟩
  have nw1 := Nw.add (o := .lst [V.bl (decide (0 = k)), .bl (decide (1 = k)), .bl (decide (2 = k)), .bl (decide (3 = k))]) (.refl H) n1 (fun ps z => by cases z)
  refine ⟨.ref l1, g2 σ l1 hlen, h1' l1, h1' l1, h1' l1, by show (3 : Nat) ≤ _; rw [sizeLine_eq]; decide, fun l2 n2 => ?_⟩
  have nw2 := Nw.add (o := .lst [V.bl (decide (4 = k)), .bl (decide (5 = k)), .bl (decide (6 = k))]) nw1 n2 (fun ps z => by cases z)
  have ne12 : l1 ≠ l2 := fun z => by rw [← z, upd_same] at n2; cases n2
  refine ⟨l1, l2, _, _, rfl, rfl, by rw [upd_ne ne12]; exact upd_same, upd_same, by show (7 : Nat) ≤ _; rw [sizeLine_eq]; decide, fun l3 n3 => ?_⟩
  have nw3 := Nw.add (o := .lst (kBs k)) nw2 n3 (fun ps z => by cases z)
  generalize hH3 : upd (upd (upd H l1 (.lst [V.bl (decide (0 = k)), .bl (decide (1 = k)), .bl (decide (2 = k)), .bl (decide (3 = k))])) l2 (.lst [V.bl (decide (4 = k)), .bl (decide (5 = k)), .bl (decide (6 = k))])) l3 (.lst (kBs k)) = H3 at nw3
  have e3 : upd (upd (upd H l1 (.lst [V.bl (decide (0 = k)), .bl (decide (1 = k)), .bl (decide (2 = k)), .bl (decide (3 = k))])) l2 (.lst [V.bl (decide (4 = k)), .bl (decide (5 = k)), .bl (decide (6 = k))])) l3 (.lst ([V.bl (decide (0 = k)), .bl (decide (1 = k)), .bl (decide (2 = k)), .bl (decide (3 = k))] ++ [V.bl (decide (4 = k)), .bl (decide (5 = k)), .bl (decide (6 = k))])) = H3 := hH3
  rw [e3]
  have hq3 : H3 l3 = some (.lst (kBs k)) := by rw [← hH3]; exact upd_same
  have t1 : ((σ.set 2 (some (V.ref l1))).set 2 (some (V.ref l3)))[1]? = some (some (.ref a)) := by rw [List.getElem?_set_ne (by decide)]; exact h1' l1
  have t2 : ((σ.set 2 (some (V.ref l1))).set 2 (some (V.ref l3)))[2]? = some (some (.ref l3)) := g2 _ l3 (by rw [List.length_set]; exact hlen)
  have fl : (kBs k).all flatV = true := by simp [kBs, List.all_map, flatV]
  have hcnt : (!decide (V.int (((kBs k).countP fun z => eqV z (.bl true) : Nat) : Int) = V.int 1)) = false := by
    match k, hk with
    | 0, _ => decide +kernel
    | 1, _ => decide +kernel
    | 2, _ => decide +kernel
    | 3, _ => decide +kernel
    | 4, _ => decide +kernel
    | 5, _ => decide +kernel
    | k + 6, h => omega
  have hix : (kBs k)[k]? = some (.bl true) ∧ (∀ (m : Nat) (z : V), m < k → (kBs k)[m]? = some z → eqV z (.bl true) = false) ∧ atI (kNames.map V.str) (k : Int) = some (.str (kNames.getD k "")) := by
    refine ⟨?_, fun m z hm hz => ?_, ?_⟩
    · unfold kBs
      rw [List.getElem?_map, List.getElem?_range (by omega)]
      simp
    · unfold kBs at hz
      rw [List.getElem?_map, List.getElem?_range (by omega)] at hz
      simp only [Option.map_some, Option.some.injEq] at hz
      subst hz
      have : ¬ m = k := by omega
      simp [eqV, this]
    · match k, hk with
      | 0, _ => decide +kernel
      | 1, _ => decide +kernel
      | 2, _ => decide +kernel
      | 3, _ => decide +kernel
      | 4, _ => decide +kernel
      | 5, _ => decide +kernel
      | k + 6, h => omega
  refine ⟨.ref l3, t2, .inl ⟨rfl, _, SqL.of hq3⟩, l3, kBs k, .bl true, rfl, rfl, SqL.of hq3, rfl, fl, rfl, _, rfl, ?_⟩
  rw [hcnt]
  refine ⟨t1, true, rfl, ?_⟩
  show (7 : Nat) ≤ _ ∧ _
  refine ⟨by rw [sizeLine_eq]; decide, fun l4 n4 => ?_⟩
  have nw4 := Nw.add (o := .lst (kNames.map V.str)) nw3 n4 (fun ps z => by cases z)
  have ne34 : l3 ≠ l4 := fun z => by rw [← z, hq3] at n4; cases n4
  have hq4 : upd H3 l4 (.lst (kNames.map V.str)) l3 = some (.lst (kBs k)) := by rw [upd_ne ne34]; exact hq3
  exact ⟨.ref l3, t2, .inl ⟨rfl, _, SqL.of hq4⟩, l3, kBs k, .bl true, k, .bl true, rfl, rfl, SqL.of hq4, rfl, fl, hix.1, rfl, hix.2.1, l4, kNames.map V.str, (k : Int), .str (kNames.getD k ""), rfl, rfl, SqL.of upd_same, hix.2.2, hq _ nw4⟩
end
/-! ### the def, and its call -/
section
variable {X : Cx} {cls : Nat → Value} {g : Addr} {cdg : Value} {b : Nat}
def TTk (cls : Nat → Value) : (XK → Hp → VK → Prop) → Hp → VK → Prop := fun tl H Q => tl (fun c d H' => ∃ k, k < 6 ∧ c = cls k ∧ d = none ∧ ∀ H2, Nw H' H2 → Q (.str (kNames.getD k "")) H2) H fun _ H' => Q (.str "") H'
theorem kind_gives {q : Str} (F : KFacts X.K X.mg cls) : LamX.GivesTo X kN "_law_kind" kScope g cdg (kBody b) "_law_work" q (TTk cls) := by
  intro f c' s H Q tl act hc h
  obtain ⟨D, hD, hall⟩ := F.top
  have hgl : Gl (cxOf C8.CX0 X.prog X.w X.K X.mg X.base kN "_law_kind" kScope g cdg X.A X.stack s H C8.E0).nox "PrintError" := by
    show kScope.names.lookup _ = _
    decide +kernel
  refine ⟨_, pss_cons (ps_try_as (X := (cxOf C8.CX0 X.prog X.w X.K X.mg X.base kN "_law_kind" kScope g cdg X.A X.stack s H C8.E0).nox) (c := .ref D) (i := 1) (n := "e")
      (tb := fun W Dn σ H => ∃ Ech : XK, (∀ cls d σ' H', Ech cls d H' → W cls d σ' H') ∧ σ[0]? = some (some (.ref f)) ∧ H c' = some (LamX.CodeO c' q) ∧ tl Ech H fun _ H' => Dn.nx σ H')
      (ts := fun a c d Dn σ H => ∃ k, k < 6 ∧ c = cls k ∧ d = none ∧ (∃ σ0, σ = List.set σ0 1 (some (V.ref a))) ∧ ∀ H', Nw H H' → Dn.rt (.str (kNames.getD k "")) H')
      rfl rfl (by show kN.Nodup; decide +kernel) rfl (by show kScope.names.lookup _ = _; decide +kernel) ⟨hgl, by decide +kernel, .inl hD⟩ LamX.takes0 (fun W pn xe tk _ => ?_) (fun a oe c d pn hz hf => ?_)) (pss_one (ps_ret pe_str)), ?_⟩
  · refine ⟨fun pins s' σ H' Dn I h' => ?_⟩
    obtain ⟨Ech, hW, h1, h2, h3⟩ := h'
    have hp := act W pn xe Ech ⟨b + 2, 8, b + 2, 17⟩ ⟨b + 2, 8, b + 2, 19⟩ tk hW
    exact (pss_one (ps_expr (pos := ⟨b + 2, 8, b + 2, 19⟩) hp)).run pins s' σ H' Dn I ⟨h1, h2, h3⟩
  · refine ⟨fun pins s' σ H' Dn I ⟨k, hk, e1, e2, ⟨σ0, e3⟩, hh⟩ => ?_⟩
    subst e1 e2
    have hl : σ.length = 3 := I.len
    refine (kind_suite (Z := (cxOf C8.CX0 X.prog X.w X.K X.mg X.base kN "_law_kind" kScope g cdg X.A X.stack s H C8.E0).nox) F rfl rfl (fun _ => rfl) hk hz hf).run pins s' σ H' Dn I ⟨hl, ?_, hh⟩
    rw [e3]
    rw [e3, List.length_set] at hl
    exact List.getElem?_set_self (by omega)
  · refine ⟨fun c d H' => ∃ k, k < 6 ∧ c = cls k ∧ d = none ∧ ∀ H2, Nw H' H2 → Q (.str (kNames.getD k "")) H2, fun c d σ' H' ⟨k, hk, e1, e2, e3⟩ => ⟨true, by rw [e1]; exact hall k hk, fun _ a _ => ⟨k, hk, e1, e2, ⟨σ', rfl⟩, e3⟩, fun z => by cases z⟩, rfl, hc, h⟩
variable {t : Tb} {C : Cfg} {T : List (Addr × Str)} {φ φ2 : Phi} {k2 : Nat} {Ex : XK} {sc : Scope}
theorem kindR {k c P : Addr} {dV kV doc pm cdv ct oc : Value} {an od : Option Addr} {osl : Array (Option Value)} (c0 : Ctx0 t C T cls φ k Ex sc X) (F : KFacts X.K X.mg cls) (hE : ∀ (k : Nat) (s : Str), C.exn[k]? = some s → k < 6 ∧ s = kNames.getD k "")
    (hm : X.mg "_law_kind" = some (.ref g)) (hk : PySem.W.keepIn X.K (.ref g) = true) (lk : X.K.lookup g = some ⟨oc, od, .func (PySem.W.fnOf "_law_kind" "_law_kind" (kArgs b) (kBody b) kScope dV kV doc pm an cdv ct), osl⟩) (hcg : PySem.W.codeIn X.K cdv "_law_kind" = true)
    (hb : L2.Binds X.K (PySem.W.fnOf "_law_kind" "_law_kind" (kArgs b) (kBody b) kScope dV kV doc pm an cdv ct) ["_law_work"] []) (TB : LamX.TabB X.base X.mg c P) (hcode : X.env.code = .ref c) (hmT : (P, X.env.qual ++ "<lambda>") ∈ T) (hu : ∀ p ∈ T, p.1 = P → p.2 = X.env.qual ++ "<lambda>") (hr : Room (k2 + 3) X.A)
    (i2 : Calls X.prog X.w X.K X.mg X.base T cls t.fns k2 φ2) : KindR t C T cls φ φ2 k2 Ex sc X := by
  intro e ps body scope p lp pos hl hg hX
  unfold lamC at hl
  simp only [Bool.and_eq_true] at hl
  obtain ⟨⟨⟨⟨⟨⟨⟨h1, h2⟩, h3⟩, h4⟩, h5⟩, h6⟩, h7⟩, h8⟩ := hl
  obtain ⟨p1, p2, p3, p4, p5, p6, p7⟩ := ps
  have q1 : p1 = [] := List.isEmpty_iff.mp h1
  have q2 : p2 = [] := List.isEmpty_iff.mp h2
  have q3 : p3 = none := Option.isNone_iff_eq_none.mp h3
  have q4 : p4 = [] := List.isEmpty_iff.mp h4
  have q5 : p5 = [] := List.isEmpty_iff.mp h5
  have q6 : p6 = none := Option.isNone_iff_eq_none.mp h6
  have q7 : p7 = [] := List.isEmpty_iff.mp h7
  subst q1 q2 q3 q4 q5 q6 q7
  have L : LamX.LamS X.env.scope scope := LamX.lamS_by (by rw [c0.sc]; exact h8)
  refine PE.imp (LamX.pe_lamcall (T := T) (TT := TTk cls) (t := fun E => TEx X T cls E C φ2 φ2 e) (k := k2 + 1) hg hm hk lk hcg hb (C8.fnScope_by (by decide +kernel)) rfl (.inl (by decide +kernel)) (kind_gives F) TB hcode hmT hu hr L rfl (fun _ _ _ _ _ => rfl) (fun A outer s H E f c' hr2 => ?_) (by decide +kernel) (by decide +kernel) (by decide +kernel)) fun σ H Q h => ?_
  · exact hX (LamX.lamCx X A outer s H E scope f c') E ⟨rfl, c0.N, c0.nd, rfl, hr2, c0.gls, c0.blt, i2, passes_call (takes_of (X := LamX.lamCx X A outer s H E scope f c') rfl rfl rfl rfl) fun _ _ _ _ h => h⟩
  · obtain ⟨w, env, st, j, en, h⟩ := h
    refine ⟨j.tabs, fun H1 eN T1 => ?_⟩
    obtain ⟨s1, j1⟩ := j.extN eN T1
    refine ⟨w, env, st, j1, en.stp s1, ?_⟩
    rw [den] at h
    cases hd : den C φ2 φ2 e env st with
    | bad => rw [hd] at h; exact h.elim
    | ok v st1 =>
      rw [hd] at h
      exact fun w' H' x s' j' _ => h w' H' _ (s1.trans s') j' (RepD.str _ (by decide +kernel))
    | exc n st1 =>
      rw [hd] at h
      dsimp only at h
      cases hs : C.exn[n]? with
      | none => rw [hs] at h; exact h.elim
      | some s =>
        rw [hs] at h
        obtain ⟨hn, es⟩ := hE n s hs
        intro w' H' d s' j'
        refine ⟨n, hn, rfl, d.2 hn, fun H2 nw => ?_⟩
        obtain ⟨s2, j2⟩ := nw.step j'
        rw [← es]
        refine h w' H2 _ ((s1.trans s').trans s2) j2 (RepD.str _ ?_)
        rw [es]
        match n, hn with
        | 0, _ => decide +kernel
        | 1, _ => decide +kernel
        | 2, _ => decide +kernel
        | 3, _ => decide +kernel
        | 4, _ => decide +kernel
        | 5, _ => decide +kernel
        | n + 6, h => omega
end
end DL

-- DEnd
/-! DEnd: the law's own def, and the row's end. -/
namespace DL
open PySem L2 PyProof.Rows
section
variable {P : Program} {w : World} {K : PySem.W.Frag} {mg : Str → Option Value} {base : Heap} {T : List (Addr × Str)} {cls : Nat → Value} {C : Cfg} {defs : List Df} {prog : List Fn} {gls exns : List Str}
/-- no list stands in what is known -/
def noLst (K : PySem.W.Frag) : Bool := K.all fun p => match p.2.cls with | .type t => !(t == "list") | _ => true
/-- the script as it lies -/
def scrRV (ns : List Int) : RV := .d .scr (.list (ns.map .int))
def w00 (H : Hp) : Wd := ⟨fun b => match H b with | some (.tbl _) => none | o => o, [], []⟩
theorem j00 {H : Hp} (hT : ∀ p ∈ T, H p.1 = some (.tbl #[])) : J P w K T (w00 H) [] H := by
  refine ⟨rfl, .nil, (fun a h => nomatch h), (fun b o h => ?_), (fun a h => nomatch h), (fun b ps h => ?_), (fun a h => nomatch h), (fun n a c h => by simp [w00] at h), (fun p hp => ⟨#[], hT p hp, ?_, fun pos cv h => ?_⟩)⟩
  · have h : (match H b with | some (.tbl _) => none | o => o) = some o := h
    split at h
    · cases h
    · exact h
  · show (match H b with | some (.tbl _) => none | o => o) = none
    rw [h]
  · exact trivial
  · cases h
theorem lookup_all {K : PySem.W.Frag} {f : Addr × Obj → Bool} (h : K.all f = true) {a : Addr} {o : Obj} (e : K.lookup a = some o) : f (a, o) = true := by
  induction K with
  | nil => cases e
  | cons p K ih =>
    simp only [List.all_cons, Bool.and_eq_true] at h
    obtain ⟨b, u⟩ := p
    rw [List.lookup_cons] at e
    split at e
    · rename_i hb
      cases e
      rw [beq_iff_eq.mp hb]
      exact h.1
    · exact ih h.2 e
theorem rep_script {H : Hp} {a : Addr} {ns : List Int} (hK : noLst K = true) (h : SqL K H a (ns.map V.int)) (hn : ns.length ≤ 63) : RepV K (w00 H) H (scrRV ns) (.ref a) := by
  have hr : Rd H a (.lst (ns.map V.int)) := by
    rcases h with h | ⟨o, its, n, hk, hc, _⟩
    · exact h
    · have q := lookup_all hK hk
      dsimp only at q
      rw [hc] at q
      cases q
  refine RepD.lst hr ⟨by simp [w00], by simp [w00]⟩ ⟨trivial, ⟨by simp [w00], by simp [w00]⟩, .inl rfl⟩ (by rw [List.length_map, sizeLine_eq]; omega) ?_
  clear h hr hn
  induction ns with
  | nil => exact .nil
  | cons n ns ih => exact .cons (.int n) ih
def spLaw (K : PySem.W.Frag) (T : List (Addr × Str)) (C : Cfg) (prog : List Fn) (k : Nat) (F : Fn) : Sp := fun vs H Q _ => ∃ (a : Addr) (ns : List Int), vs = [.ref a] ∧ SqL K H a (ns.map V.int) ∧ ns.length ≤ 63 ∧ (∀ p ∈ T, H p.1 = some (.tbl #[])) ∧
  (∃ st, runFn C (Ph C prog k) (Ph C prog (k - 2)) F [scrRV ns] [] = .ok (rvB true) st) ∧ ∀ H', Q (.bl true) H'
theorem law_fn (M : Facts P w K mg base T cls C defs prog gls exns) (hc : chAll (fnsOf defs prog) gls exns false defs prog = true) {Dl : Df} {Fl : Fn} {kd : Bool} (hl : chDf (fnsOf defs prog) gls exns kd true Dl Fl = true) (hnp : Fl.np = 1) (hK : noLst K = true)
    {fa : Addr} {dV kV doc pm cdv ct oc : Value} {an od : Option Addr} {osl : Array (Option Value)} (lk : K.lookup fa = some ⟨oc, od, .func (PySem.W.fnOf Dl.x Dl.x (C8.fnArgs Dl.st) (C8.fnBody Dl.st) (C8.fnScope Dl.st) dV kV doc pm an cdv ct), osl⟩) (hcd : PySem.W.codeIn K cdv Dl.x = true) (k : Nat)
    (hk : kd = true → ∀ (A : Around) (outer : List PySem.Env) (s : Shared) (H : Hp) (E : XK), Ctx0 ⟨Dl.N, fnsOf defs prog, gls, exns⟩ C T cls (Ph C prog k) (lv k) E (C8.fnScope Dl.st) (cxOf (L2.CX P w) P w K mg base Dl.N Dl.x (C8.fnScope Dl.st) fa cdv A outer s H E) → Calls P w K mg base T cls (fnsOf defs prog) (lv (k - 2)) (Ph C prog (k - 2)) →
      KindR ⟨Dl.N, fnsOf defs prog, gls, exns⟩ C T cls (Ph C prog k) (Ph C prog (k - 2)) (lv (k - 2)) E (C8.fnScope Dl.st) (cxOf (L2.CX P w) P w K mg base Dl.N Dl.x (C8.fnScope Dl.st) fa cdv A outer s H E)) :
    FnOk P w K mg base (L2.CX P w) (lv k + 2) fa (PySem.W.fnOf Dl.x Dl.x (C8.fnArgs Dl.st) (C8.fnBody Dl.st) (C8.fnScope Dl.st) dV kV doc pm an cdv ct) (Dl.N.take Fl.np) (spLaw K T C prog k Fl) := by
  unfold chDf at hl
  simp only [Bool.and_eq_true, decide_eq_true_eq] at hl
  obtain ⟨⟨⟨h1, h2⟩, h3⟩, h4⟩ := hl
  have i1 := levels M hc k
  have i2 := levels M hc (k - 2)
  refine fn_of (k := lv k + 1) lk hcd (C8.fnScope_by h1) (fun vs H Q E h => ?_) fun A outer s H vs Q E hr h => ?_
  · obtain ⟨a, ns, rfl, _⟩ := h
    rw [List.length_take, hnp]
    show 1 = min 1 _
    omega
  · have c := ctx_of (kd := false) (F := Fl) (outer := outer) (H := H) (E := E) (k := 0) (φ2 := Ph C prog (k - 2)) M h1 hr i1 fun z => by cases z
    have c1 : Ctx1 ⟨Dl.N, fnsOf defs prog, gls, exns⟩ C T cls (Ph C prog k) (Ph C prog (k - 2)) (lv k) (lv (k - 2)) kd E (C8.fnScope Dl.st) _ := ⟨c.c0, c.fn, c.bk, c.tk, c.po, c.exn, fun z => hk z A outer s H E c.c0 i2⟩
    refine ⟨_, chSL_ok Fl.body h4 c1, ?_⟩
    obtain ⟨a, ns, rfl, hs, hn, hT, ⟨st, hx⟩, hq⟩ := h
    have hrep := rep_script hK hs hn
    refine ⟨w00 H, [scrRV ns].map some ++ List.replicate (Fl.ns - Fl.np) none, [], j00 hT, start_env (.cons hrep .nil) hnp.symm h2 h3, ?_⟩
    unfold runFn at hx
    rw [if_pos (show [scrRV ns].length = Fl.np from hnp.symm)] at hx
    cases hy : exes C (Ph C prog k) (Ph C prog (k - 2)) Fl.body ([scrRV ns].map some ++ List.replicate (Fl.ns - Fl.np) none) [] with
    | bad => rw [hy] at hx; cases hx
    | exc n st1 => rw [hy] at hx; cases hx
    | nx env st1 => rw [hy] at hx; cases hx
    | rtt vs st1 =>
      rw [hy] at hx
      exact absurd hx (thaw_nb _ _ _ _ _)
    | rt v st1 =>
      rw [hy] at hx
      cases hx
      intro w' H' x _ j' rv
      obtain rfl := RepD.blV rv
      exact hq H'
end
end DL

-- DLaw
/-! DLaw: what the top has left, asked in few questions; the row. -/
namespace DL
open PySem L2 PyProof.Rows
/-- where a global of that name points -/
def adr (K : PySem.W.Frag) (x : Str) : Addr := match PySem.W.nsIn K mainGlobals x with
  | some (some (.ref a)) => a
  | _ => 0
def isAdr (K : PySem.W.Frag) (x : Str) : Bool := PySem.W.nsIn K mainGlobals x == some (some (.ref (adr K x)))
def isNo (K : PySem.W.Frag) (x : Str) : Bool := PySem.W.nsIn K mainGlobals x == some none
abbrev bmVE : List Value := [.type "ValueError", .type "Exception", .type "BaseException", .type "object"]
def exnB (K : PySem.W.Frag) (x : Str) : Bool := isAdr K x && PySem.W.excIn K (adr K x) bmVE "ValueError.__new__" && PySem.W.keepIn K (.ref (adr K x)) && (PySem.W.subIn K (.ref (adr K x)) (.type "BaseException") == some true) && (PySem.W.typeIn K (.ref (adr K x)) == some (.type "type"))
def exkB (K : PySem.W.Frag) (x : Str) : Bool := (PySem.W.findIn K (.ref (adr K x)) "__getattribute__" == some (some (.builtin "BaseException.__getattribute__"))) && (PySem.W.findIn K (.ref (adr K x)) "__getattr__" == some none) && (PySem.W.subIn K (.ref (adr K x)) (.type "BaseException") == some true) && PySem.W.hasDictIn K (adr K x) &&
  (PySem.W.findIn K (.ref (adr K x)) "__class__" == some (some (.builtin "object.__class__"))) && (PySem.W.specialIn K (.builtin "object.__class__") "__get__" == some (some (.builtin "getset_descriptor.__get__"))) && (PySem.W.takesIn K (.builtin "object.__class__") == some true) && (PySem.W.mroIn K (adr K x) (.type "object") == some true) &&
  (PySem.W.kitOne K (.ref (adr K x)) (.type "ValueError") == some true) && (PySem.W.exmOne K (.ref (adr K x)) (.ref (adr K "PrintError")) == some true)
def clsK (K : PySem.W.Frag) (k : Nat) : Value := .ref (adr K (kNames.getD k ""))
/-- all that is asked of the classes -/
def kindB (K : PySem.W.Frag) : Bool := kNames.all (isAdr K) && isAdr K "PrintError" && isNo K "ValueError" && isNo K "isinstance" && (kNames.take 6).all (exkB K) &&
  (List.range 6).all (fun k => (List.range 7).all fun j => PySem.W.kitOne K (clsK K k) (clsK K j) == some (decide (j = k)))
def topB (K : PySem.W.Frag) (exns : List Str) : Bool := exns.all (exnB K) && bltNames.all (isNo K) && noLst K
section
variable {P : Program} {w : World} {K : PySem.W.Frag} {mg : Str → Option Value} {h base : Heap} {T : List (Addr × Str)} {C : Cfg} {defs : List Df} {prog : List Fn} {gls exns : List Str}
theorem isAdr_of (X : K.In h) (G : h.Ns mainGlobals mg) {x : Str} (q : isAdr K x = true) : mg x = some (.ref (adr K x)) := PySem.W.mg_of X G (beq_iff_eq.mp q)
theorem isNo_of (X : K.In h) (G : h.Ns mainGlobals mg) {x : Str} (q : isNo K x = true) : mg x = none := PySem.W.mg_none_of X G (beq_iff_eq.mp q)
theorem kfacts_of (X : K.In h) (G : h.Ns mainGlobals mg) (q : kindB K = true) : KFacts K mg (clsK K) := by
  unfold kindB at q
  simp only [Bool.and_eq_true, List.all_eq_true, beq_iff_eq] at q
  obtain ⟨⟨⟨⟨⟨q1, q2⟩, q3⟩, q4⟩, q5⟩, q6⟩ := q
  have nm : ∀ j x, kNames[j]? = some x → kNames.getD j "" = x := fun j x h => by rw [List.getD_eq_getElem?_getD, h]; rfl
  have ex : ∀ k, k < 6 → exkB K (kNames.getD k "") = true := fun k hk => q5 _ (by
    have : kNames.getD k "" = (kNames.take 6).getD k "" := by
      match k, hk with
      | 0, _ => rfl
      | 1, _ => rfl
      | 2, _ => rfl
      | 3, _ => rfl
      | 4, _ => rfl
      | 5, _ => rfl
      | k + 6, h => omega
    rw [this, List.getD_eq_getElem?_getD]
    have hl : k < (kNames.take 6).length := hk
    rw [List.getElem?_eq_getElem hl]
    exact List.getElem_mem hl)
  refine ⟨fun k hk => ?_, fun j x hj => ?_, fun k j hk hj => ?_, ⟨_, isAdr_of X G q2, fun k hk => ?_⟩, isNo_of X G q4, isNo_of X G q3⟩
  · have e := ex k hk
    unfold exkB at e
    simp only [Bool.and_eq_true, beq_iff_eq] at e
    obtain ⟨⟨⟨⟨⟨⟨⟨⟨⟨e1, e2⟩, e3⟩, e4⟩, e5⟩, e6⟩, e7⟩, e8⟩, e9⟩, e10⟩ := e
    exact ⟨_, rfl, ⟨e1, e2, e3, e4, e5, e6, e7, e8⟩, e9⟩
  · have := isAdr_of X G (q1 x (List.mem_of_getElem? hj))
    unfold clsK
    rw [nm j x hj]
    exact ⟨this, _, rfl⟩
  · exact q6 k (List.mem_range.mpr hk) j (List.mem_range.mpr hj)
  · have e := ex k hk
    unfold exkB at e
    simp only [Bool.and_eq_true, beq_iff_eq] at e
    exact e.2
/-- a def as the top left it -/
structure DefF (K : PySem.W.Frag) (mg : Str → Option Value) (d : Df) (F : Fn) : Prop where
  ex : ∃ nm fa fd, C8.Fun K nm d.x d.st fa fd ∧ Nmd K mg d.x fa ∧ L2.Binds K fd (d.N.take F.np) []
theorem defF_of (X : K.In h) (G : h.Ns mainGlobals mg) {d : Df} {F : Fn} {f : Addr} {oc kV doc pm cd ct : Value} {od an : Option Addr} {sl : Array (Option Value)} (a : PySem.W.nsIn K mainGlobals d.x = some (some (.ref f)))
    (l : K.lookup f = some ⟨oc, od, .func (PySem.W.fnOf d.x d.x (C8.fnArgs d.st) (C8.fnBody d.st) (C8.fnScope d.st) .none kV doc pm an cd ct), sl⟩) (c : PySem.W.codeIn K cd d.x = true) (k : PySem.W.keepIn K (.ref f) = true) (hM : isM d.x = false)
    (hb : ∀ (kV doc pm : Value) (an : Option Addr) (cdv ct : Value) (us : List Value), us.length = (d.N.take F.np).length → bindArgs (PySem.W.fnOf d.x d.x (C8.fnArgs d.st) (C8.fnBody d.st) (C8.fnScope d.st) .none kV doc pm an cdv ct) ⟨us, []⟩ = pure ((d.N.take F.np).zip us)) : DefF K mg d F :=
  ⟨d.x, f, _, ⟨oc, od, .none, kV, doc, pm, an, cd, ct, sl, rfl, l, c⟩, (by unfold Nmd; rw [if_neg (by rw [hM]; simp)]; exact ⟨PySem.W.mg_of X G a, k⟩), .all (hb kV doc pm an cd ct)⟩
/-- the class with objects, as the top left it -/
def objB (K : PySem.W.Frag) : Bool := isAdr K clsNm && PySem.W.plainGet K (adr K clsNm) Str.empty && PySem.W.hasDictIn K (adr K clsNm) && PySem.W.plainOver K (adr K clsNm) && (PySem.W.findIn K (.ref (adr K clsNm)) "__setattr__" == some (some (.builtin "object.__setattr__"))) && fldNms.all fun f => PySem.W.findIn K (.ref (adr K clsNm)) f == some none
theorem objF_of (X : K.In h) (G : h.Ns mainGlobals mg) {Ca : Addr} (aC : PySem.W.nsIn K mainGlobals clsNm = some (some (.ref Ca))) (b : objB K = true) : ObjF K mg Ca := by
  have e : adr K clsNm = Ca := by unfold adr; rw [aC]
  unfold objB at b
  rw [e] at b
  simp only [Bool.and_eq_true, beq_iff_eq, List.all_eq_true] at b
  obtain ⟨⟨⟨⟨⟨_, b1⟩, b2⟩, b3⟩, b4⟩, b5⟩ := b
  exact ⟨aC, PySem.W.mg_of X G aC, ⟨b1, b2, b3, b4⟩, b5⟩
theorem mNm_inj {m m' : Str} (h : mNm m = mNm m') : m = m' := by
  unfold mNm at h
  have q : (clsNm ++ (("." : Str) ++ m)).cps.toList = (clsNm ++ (("." : Str) ++ m')).cps.toList := by rw [h]
  have e : ∀ a b : Str, (a ++ b).cps.toList = a.cps.toList ++ b.cps.toList := fun a b => by
    show (a.cps ++ b.cps).toList = _
    exact Array.toList_append
  rw [e, e, e, e, List.append_cancel_left_eq, List.append_cancel_left_eq] at q
  cases m
  cases m'
  simp only at q
  rw [Array.toList_inj.mp q]
/-- a method -/
theorem defM_of (X : K.In h) (G : h.Ns mainGlobals mg) {d : Df} {F : Fn} {f Ca : Addr} {m : Str} {oc kV doc pm cd ct : Value} {od an : Option Addr} {sl : Array (Option Value)} (aC : PySem.W.nsIn K mainGlobals clsNm = some (some (.ref Ca))) (bC : objB K = true) (mC : PySem.W.makesIn K Ca = true) (kC : PySem.W.keepIn K (.ref Ca) = true)
    (a : PySem.W.findIn K (.ref Ca) m = some (some (.ref f))) (i : PySem.W.isFn K (.ref f) = true) (l : K.lookup f = some ⟨oc, od, .func (PySem.W.fnOf m d.x (C8.fnArgs d.st) (C8.fnBody d.st) (C8.fnScope d.st) .none kV doc pm an cd ct), sl⟩) (c : PySem.W.codeIn K cd d.x = true) (k : PySem.W.keepIn K (.ref f) = true) (hx : d.x = mNm m) (hM : isM d.x = true)
    (hb : ∀ (kV doc pm : Value) (an : Option Addr) (cdv ct : Value) (us : List Value), us.length = (d.N.take F.np).length → bindArgs (PySem.W.fnOf m d.x (C8.fnArgs d.st) (C8.fnBody d.st) (C8.fnScope d.st) .none kV doc pm an cdv ct) ⟨us, []⟩ = pure ((d.N.take F.np).zip us)) : DefF K mg d F :=
  ⟨m, f, _, ⟨oc, od, .none, kV, doc, pm, an, cd, ct, sl, rfl, l, c⟩, (by
    unfold Nmd
    rw [if_pos hM]
    refine ⟨Ca, objF_of X G aC bC, fun m' e => ?_⟩
    have := mNm_inj (hx.symm.trans e)
    subst this
    exact ⟨fun e2 => ⟨mC, by rw [show m = ("__init__" : Str) from e2] at a; exact a, i, kC⟩, fun _ => ⟨a, i, k⟩⟩), .all (hb kV doc pm an cd ct)⟩
def DefsOk (K : PySem.W.Frag) (mg : Str → Option Value) : List Df → List Fn → Prop
  | d :: ds, F :: Fs => DefF K mg d F ∧ DefsOk K mg ds Fs
  | _, _ => True
theorem DefsOk.at_ : ∀ {ds : List Df} {Fs : List Fn}, DefsOk K mg ds Fs → ∀ (i : Nat) (d : Df) (F : Fn), ds[i]? = some d → Fs[i]? = some F → DefF K mg d F
  | [], _, _, i, d, F, h1, _ => by simp at h1
  | _ :: _, [], _, i, d, F, _, h2 => by simp at h2
  | d :: ds, F :: Fs, hh, 0, _, _, h1, h2 => by
    simp only [List.getElem?_cons_zero, Option.some.injEq] at h1 h2
    subst h1 h2
    exact hh.1
  | d :: ds, F :: Fs, hh, i + 1, _, _, h1, h2 => by
    simp only [List.getElem?_cons_succ] at h1 h2
    exact hh.2.at_ i _ _ h1 h2
/-- a module's constant -/
def GlF (K : PySem.W.Frag) (mg : Str → Option Value) (x : Str) (d : PyData) : Prop := ∃ v u, mg x = some u ∧ RelV v u ∧ ∀ w H, RepD K H (Wd.free w) (Wd.ok w H .pur) d v
def GlsOk (K : PySem.W.Frag) (mg : Str → Option Value) : List Str → List PyData → Prop
  | x :: xs, d :: ds => GlF K mg x d ∧ GlsOk K mg xs ds
  | [], _ => True
  | _ :: _, [] => False
theorem GlsOk.at_ : ∀ {xs : List Str} {ds : List PyData}, GlsOk K mg xs ds → ∀ (i : Nat) (x : Str), xs[i]? = some x → ∃ d v u, ds[i]? = some d ∧ mg x = some u ∧ RelV v u ∧ ∀ w H, RepD K H (Wd.free w) (Wd.ok w H .pur) d v
  | [], _, _, i, x, h => by simp at h
  | _ :: _, [], hh, _, _, _ => hh.elim
  | y :: xs, d :: ds, hh, 0, x, h => by
    simp only [List.getElem?_cons_zero, Option.some.injEq] at h
    subst h
    obtain ⟨v, u, q⟩ := hh.1
    exact ⟨d, v, u, rfl, q⟩
  | y :: xs, d :: ds, hh, i + 1, x, h => by
    simp only [List.getElem?_cons_succ] at h
    exact hh.2.at_ i x h
theorem glF_int (X : K.In h) (G : h.Ns mainGlobals mg) {x : Str} {i : Int} {t : Tok} (a : PySem.W.nsIn K mainGlobals x = some (some (.int i t))) : GlF K mg x (.int i) := ⟨.int i, .int i t, PySem.W.mg_of X G a, ⟨t, rfl⟩, fun w H => .int i⟩
/-- texts as they stand in a tuple -/
def strsB (its : List Value) (ss : List Str) : Bool := match its, ss with
  | .str x _ :: its, s :: ss => decide (x = s) && PyData.strOk s && strsB its ss
  | [], [] => true
  | _, _ => false
theorem strs_rep {w : Wd} {H : Hp} : ∀ {its : List Value} {ss : List Str}, strsB its ss = true → Vals (ss.map V.str) its ∧ RepL K H (Wd.free w) (Wd.ok w H .pur) (ss.map PyData.str) (ss.map V.str)
  | its, ss, h => by
    induction ss generalizing its with
    | nil =>
      unfold strsB at h
      split at h
      · rename_i heq; cases heq
      · exact ⟨.nil, .nil⟩
      · cases h
    | cons s ss ih =>
      unfold strsB at h
      split at h
      · rename_i heq
        cases heq
        simp only [Bool.and_eq_true, decide_eq_true_eq] at h
        obtain ⟨⟨rfl, h2⟩, h3⟩ := h
        obtain ⟨i1, i2⟩ := ih _ h3
        exact ⟨.cons ⟨_, rfl⟩ i1, .cons (.str _ h2) i2⟩
      · rename_i heq; cases heq
      · cases h
theorem glF_strs (X : K.In h) (G : h.Ns mainGlobals mg) {x : Str} {ss : List Str} {a : Addr} {o : Obj} {its : Array Value} {n : Nat} (e : PySem.W.nsIn K mainGlobals x = some (some (.ref a))) (l : K.lookup a = some o) (hc : o.cls = .type "tuple") (hd : o.data = .seq its n) (hs : strsB its.toList ss = true) (hz : ss.length ≤ 1000) : GlF K mg x (.tuple (ss.map .str)) :=
  ⟨.ref a, .ref a, PySem.W.mg_of X G e, rfl, fun w H => by
    obtain ⟨h1, h2⟩ := strs_rep (K := K) (w := w) (H := H) hs
    refine .tupK l hc hd ?_ h1 h2
    have := h1.length
    rw [sizeLine_eq, ← Array.length_toList, ← this, List.length_map]
    omega⟩
theorem facts_of (X : K.In h) (G : h.Ns mainGlobals mg) (hd : DefsOk K mg defs prog) (hg : GlsOk K mg gls C.glb) (ht : topB K exns = true) (he : ∀ k x, exns[k]? = some x → kNames.getD k "" = x) : Facts P w K mg base T (clsK K) C defs prog gls exns := by
  unfold topB at ht
  simp only [Bool.and_eq_true, List.all_eq_true] at ht
  obtain ⟨⟨t1, t2⟩, t3⟩ := ht
  refine ⟨fun i d F h1 h2 => (hd.at_ i d F h1 h2).ex, hg.at_, fun x hx => isNo_of X G (t2 x hx), fun k x hx => ?_⟩
  have q := t1 x (List.mem_of_getElem? hx)
  unfold exnB at q
  simp only [Bool.and_eq_true, beq_iff_eq] at q
  obtain ⟨⟨⟨⟨q1, q2⟩, q3⟩, q4⟩, q5⟩ := q
  refine ⟨adr K x, bmVE, _, _, _, ?_, PySem.F.excBase_ValueError, q2, isAdr_of X G q1, q3, q4, q5⟩
  unfold clsK
  rw [he k x hx]
theorem qual_mem {Pt : Addr} {q x lam : Str} (e : q = x) : (Pt, q ++ lam) ∈ [(Pt, x ++ lam)] := by
  rw [e]
  exact List.mem_cons_self
theorem qual_all {Pt : Addr} {q x lam : Str} (e : q = x) : ∀ p ∈ [(Pt, x ++ lam)], p.2 = q ++ lam := fun p hp => by
  rw [List.mem_singleton.mp hp, e]
theorem kind_cx {t : Tb} {Pt c g fa : Addr} {N : List Str} {x : Str} {sc : Scope} {A : Around} {outer : List PySem.Env} {s : Shared} {H : Hp} {E : XK} {k k2 b : Nat} {φ φ2 : Phi} {dV2 kV2 doc2 pm2 cd2 ct2 oc2 : Value} {an2 od2 : Option Addr} {osl2 : Array (Option Value)} (hT : T = [(Pt, x ++ ".<locals>." ++ "<lambda>")])
    (hk2 : k2 + 2 ≤ k) (c0 : Ctx0 t C T (clsK K) φ k E sc (cxOf (L2.CX P w) P w K mg base N x sc fa (.ref c) A outer s H E)) (F : KFacts K mg (clsK K)) (hE : ∀ (k : Nat) (s : Str), C.exn[k]? = some s → k < 6 ∧ s = kNames.getD k "")
    (gk : mg "_law_kind" = some (.ref g)) (kk : PySem.W.keepIn K (.ref g) = true) (lkk : K.lookup g = some ⟨oc2, od2, .func (PySem.W.fnOf "_law_kind" "_law_kind" (kArgs b) (kBody b) kScope dV2 kV2 doc2 pm2 an2 cd2 ct2), osl2⟩) (ck : PySem.W.codeIn K cd2 "_law_kind" = true)
    (hbk : L2.Binds K (PySem.W.fnOf "_law_kind" "_law_kind" (kArgs b) (kBody b) kScope dV2 kV2 doc2 pm2 an2 cd2 ct2) ["_law_work"] []) (TB : LamX.TabB base mg c Pt) (i2 : Calls P w K mg base T (clsK K) t.fns k2 φ2) :
    KindR t C T (clsK K) φ φ2 k2 E sc (cxOf (L2.CX P w) P w K mg base N x sc fa (.ref c) A outer s H E) :=
  kindR (b := b) c0 F hE gk kk lkk ck hbk TB rfl (by rw [hT]; exact qual_mem rfl) (fun p hp _ => by rw [hT] at hp; exact qual_all rfl p hp) (c0.room.mono (by omega)) i2
/-- the law's promise, where it refuses by _law_kind -/
theorem take_at {k : Nat} {x : Str} (h : (kNames.take 6)[k]? = some x) : k < 6 ∧ x = kNames.getD k "" := by
  match k, h with
  | 0, h => cases h; exact ⟨by decide, rfl⟩
  | 1, h => cases h; exact ⟨by decide, rfl⟩
  | 2, h => cases h; exact ⟨by decide, rfl⟩
  | 3, h => cases h; exact ⟨by decide, rfl⟩
  | 4, h => cases h; exact ⟨by decide, rfl⟩
  | 5, h => cases h; exact ⟨by decide, rfl⟩
  | k + 6, h => simp [kNames] at h
theorem law_atK {l : PySem.W.OpenLaw} {f fa g c Pt : Addr} {Dl : Df} {Fl : Fn} {b : Nat} (X : K.In h) (G : h.Ns mainGlobals mg) (hd : DefsOk K mg defs prog) (hg : GlsOk K mg gls C.glb) (ht : topB K exns = true) (he0 : exns = kNames.take 6) (gl : PySem.W.nsIn K mainGlobals "law" = some (some (.ref f))) (hfa : mg "law" = some (.ref fa))
    (hc : chAll (fnsOf defs prog) gls exns false defs prog = true) (hl : chDf (fnsOf defs prog) gls exns true true Dl Fl = true) (hnp : Fl.np = 1) (hN : Dl.N.take Fl.np = [Str.ofString "_law_script"])
    {kV doc pm ct oc kV2 doc2 pm2 cd2 ct2 oc2 : Value} {an od an2 od2 : Option Addr} {osl osl2 : Array (Option Value)} (lk : K.lookup f = some ⟨oc, od, .func (PySem.W.fnOf Dl.x Dl.x (C8.fnArgs Dl.st) (C8.fnBody Dl.st) (C8.fnScope Dl.st) .none kV doc pm an (.ref c) ct), osl⟩) (hcd : PySem.W.codeIn K (.ref c) Dl.x = true)
    (hbl : ∀ (s : Shared) (u : Value), BindsTo s (PySem.W.fnOf Dl.x Dl.x (C8.fnArgs Dl.st) (C8.fnBody Dl.st) (C8.fnScope Dl.st) .none kV doc pm an (.ref c) ct) ⟨[u], []⟩ [("_law_script", u)])
    (hkB : kindB K = true) (hE0 : C.exn = kNames.take 6) (gk : PySem.W.nsIn K mainGlobals "_law_kind" = some (some (.ref g))) (lkk : K.lookup g = some ⟨oc2, od2, .func (PySem.W.fnOf "_law_kind" "_law_kind" (kArgs b) (kBody b) kScope .none kV2 doc2 pm2 an2 cd2 ct2), osl2⟩)
    (ck : PySem.W.codeIn K cd2 "_law_kind" = true) (kk : PySem.W.keepIn K (.ref g) = true) (hbk : L2.Binds K (PySem.W.fnOf "_law_kind" "_law_kind" (kArgs b) (kBody b) kScope .none kV2 doc2 pm2 an2 cd2 ct2) ["_law_work"] [])
    (hP : h.get? Pt = some { cls := .none, data := .fields #[] }) (nP : K.lookup Pt = none) (hcc : PySem.W.codeHdIn K c Pt = true)
    (plain : ∀ ns : List Int, ns.length ≤ 63 → (∀ z ∈ ns, Builtin.Int.intBits z ≤ 1048576) → ∃ st, runFn C (Ph C prog 97) (Ph C prog 95) Fl [scrRV ns] [] = .ok (rvB true) st) :
    LamX.LawAtS l w K (L2.CX l.prog w) 196 63 "_law_script" mg fa h := by
  have he : ∀ k x, exns[k]? = some x → kNames.getD k "" = x := fun k x h => by rw [he0] at h; exact (take_at h).2.symm
  have hE : ∀ (k : Nat) (s : Str), C.exn[k]? = some s → k < 6 ∧ s = kNames.getD k "" := fun k s h => by rw [hE0] at h; exact take_at h
  have e := hfa.symm.trans (PySem.W.mg_of X G gl)
  cases e
  refine ⟨_, [(c, Pt)], spLaw K [(Pt, Dl.x ++ ".<locals>." ++ "<lambda>")] C prog 97 Fl, fun p hp => ?_, fun p hp => ?_, fun p hp => ?_, hbl, fun H a ns h1 h2 h3 h4 => ⟨a, ns, rfl, h4, h1, fun p hp => ?_, plain ns h1 h2, fun _ => rfl⟩, fun base hKb hGb hTb => ?_⟩
  · simp only [List.mem_singleton] at hp
    subst hp
    exact hP
  · simp only [List.mem_singleton] at hp
    subst hp
    exact nP
  · simp only [List.mem_singleton] at hp
    subst hp
    exact PySem.W.codeHd_of_K X hcc
  · simp only [List.mem_singleton] at hp
    subst hp
    exact h3 (c, Pt) List.mem_cons_self
  · have M : Facts l.prog w K mg base [(Pt, Dl.x ++ ".<locals>." ++ "<lambda>")] (clsK K) C defs prog gls exns := facts_of X G hd hg ht he
    have hK : noLst K = true := by
      unfold topB at ht
      simp only [Bool.and_eq_true] at ht
      exact ht.2
    rw [← hN]
    refine law_fn (k := 97) M hc hl hnp hK lk hcd fun _ A outer s H E c0 i2 => ?_
    exact kind_cx (T := [(Pt, Dl.x ++ ".<locals>." ++ "<lambda>")]) rfl (by decide) c0 (kfacts_of X G hkB) hE (PySem.W.mg_of X G gk) kk lkk ck hbk (hTb (c, Pt) List.mem_cons_self) i2
/-- .. where the text makes no lambda -/
theorem law_at0 {l : PySem.W.OpenLaw} {f fa c : Addr} {Dl : Df} {Fl : Fn} (X : K.In h) (G : h.Ns mainGlobals mg) (hd : DefsOk K mg defs prog) (hg : GlsOk K mg gls C.glb) (ht : topB K exns = true) (m : Nat) (hm6 : m ≤ 6) (he0 : exns = kNames.take m) (gl : PySem.W.nsIn K mainGlobals "law" = some (some (.ref f))) (hfa : mg "law" = some (.ref fa))
    (hc : chAll (fnsOf defs prog) gls exns false defs prog = true) (hl : chDf (fnsOf defs prog) gls exns false true Dl Fl = true) (hnp : Fl.np = 1) (hN : Dl.N.take Fl.np = [Str.ofString "_law_script"])
    {kV doc pm ct oc : Value} {an od : Option Addr} {osl : Array (Option Value)} (lk : K.lookup f = some ⟨oc, od, .func (PySem.W.fnOf Dl.x Dl.x (C8.fnArgs Dl.st) (C8.fnBody Dl.st) (C8.fnScope Dl.st) .none kV doc pm an (.ref c) ct), osl⟩) (hcd : PySem.W.codeIn K (.ref c) Dl.x = true)
    (hbl : ∀ (s : Shared) (u : Value), BindsTo s (PySem.W.fnOf Dl.x Dl.x (C8.fnArgs Dl.st) (C8.fnBody Dl.st) (C8.fnScope Dl.st) .none kV doc pm an (.ref c) ct) ⟨[u], []⟩ [("_law_script", u)])
    (plain : ∀ ns : List Int, ns.length ≤ 63 → (∀ z ∈ ns, Builtin.Int.intBits z ≤ 1048576) → ∃ st, runFn C (Ph C prog 97) (Ph C prog 95) Fl [scrRV ns] [] = .ok (rvB true) st) :
    LamX.LawAtS l w K (L2.CX l.prog w) 196 63 "_law_script" mg fa h := by
  have he : ∀ k x, exns[k]? = some x → kNames.getD k "" = x := fun k x h => by
    rw [he0, List.getElem?_take] at h
    split at h
    · exact (take_at (by rw [List.getElem?_take, if_pos (by omega)]; exact h)).2.symm
    · cases h
  have e := hfa.symm.trans (PySem.W.mg_of X G gl)
  cases e
  refine ⟨_, [], spLaw K [] C prog 97 Fl, fun p hp => absurd hp List.not_mem_nil, fun p hp => absurd hp List.not_mem_nil, fun p hp => absurd hp List.not_mem_nil, hbl, fun H a ns h1 h2 _ h4 => ⟨a, ns, rfl, h4, h1, fun p hp => absurd hp List.not_mem_nil, plain ns h1 h2, fun _ => rfl⟩, fun base hKb hGb hTb => ?_⟩
  have M : Facts l.prog w K mg base [] (clsK K) C defs prog gls exns := facts_of X G hd hg ht he
  have hK : noLst K = true := by
    unfold topB at ht
    simp only [Bool.and_eq_true] at ht
    exact ht.2
  rw [← hN]
  exact law_fn (kd := false) (k := 97) M hc hl hnp hK lk hcd fun z => by cases z
end
end DL

-- DEv
/-! DEv: the meaning told once more so that simp runs it head first: what comes behind is kept shut (Tag) until the head is known. -/
namespace DL
open PySem

/-- shuts what it is of: simp does not look into an argument that a later one's type names -/
structure Tag {α : Type} (a : α) : Type where

def bF {α β : Type} (κ : α → Store → Res β) (_ : Tag κ) (r : Res α) : Res β := r.bind κ
def oF {α β : Type} (κ : α → Res β) (_ : Tag κ) (o : Option α) : Res β := match o with
  | some a => κ a
  | none => .bad
def boF {α : Type} (κ : α → Store → Out) (_ : Tag κ) (r : Res α) : Out := Out.ofRes r κ
def ooF {α : Type} (κ : α → Out) (_ : Tag κ) (o : Option α) : Out := match o with
  | some a => κ a
  | none => .bad
def sF (κ : DL.Env → Store → Out) (_ : Tag κ) (o : Out) : Out := o.seq κ
def ifF {ρ : Type} (a b : Unit → ρ) (_ : Tag a) (_ : Tag b) (k : Bool) : ρ := if k = true then a () else b ()
def andF (f : Unit → Res Bool) (_ : Tag f) (x : Bool) (st : Store) : Res Bool := if x = true then f () else .ok false st
def orF (f : Unit → Res Bool) (_ : Tag f) (x : Bool) (st : Store) : Res Bool := if x = true then .ok true st else f ()
def andG (x : Bool) (r : Res Bool) (st : Store) : Res Bool := if x = true then r else .ok false st
def orG (x : Bool) (r : Res Bool) (st : Store) : Res Bool := if x = true then .ok true st else r
section
variable {α β ρ : Type}
@[simp] theorem bF_ok (κ : α → Store → Res β) (t : Tag κ) (a : α) (st : Store) : bF κ t (.ok a st) = κ a st := Eq.trans rfl rfl
@[simp] theorem bF_exc (κ : α → Store → Res β) (t : Tag κ) (k : Nat) (st : Store) : bF κ t (.exc k st) = .exc k st := Eq.trans rfl rfl
@[simp] theorem bF_bad (κ : α → Store → Res β) (t : Tag κ) : bF κ t .bad = .bad := Eq.trans rfl rfl
@[simp] theorem bF_ite (κ : α → Store → Res β) (t : Tag κ) (p : Prop) [Decidable p] (a b : Res α) : bF κ t (if p then a else b) = if p then bF κ t a else bF κ t b := by split <;> rfl
@[simp] theorem oF_some (κ : α → Res β) (t : Tag κ) (a : α) : oF κ t (some a) = κ a := Eq.trans rfl rfl
@[simp] theorem oF_none (κ : α → Res β) (t : Tag κ) : oF κ t none = .bad := Eq.trans rfl rfl
@[simp] theorem oF_ite (κ : α → Res β) (t : Tag κ) (p : Prop) [Decidable p] (a b : Option α) : oF κ t (if p then a else b) = if p then oF κ t a else oF κ t b := by split <;> rfl
@[simp] theorem boF_ok (κ : α → Store → Out) (t : Tag κ) (a : α) (st : Store) : boF κ t (.ok a st) = κ a st := Eq.trans rfl rfl
@[simp] theorem boF_exc (κ : α → Store → Out) (t : Tag κ) (k : Nat) (st : Store) : boF κ t (.exc k st) = .exc k st := Eq.trans rfl rfl
@[simp] theorem boF_bad (κ : α → Store → Out) (t : Tag κ) : boF κ t .bad = .bad := Eq.trans rfl rfl
@[simp] theorem boF_ite (κ : α → Store → Out) (t : Tag κ) (p : Prop) [Decidable p] (a b : Res α) : boF κ t (if p then a else b) = if p then boF κ t a else boF κ t b := by split <;> rfl
@[simp] theorem ooF_some (κ : α → Out) (t : Tag κ) (a : α) : ooF κ t (some a) = κ a := Eq.trans rfl rfl
@[simp] theorem ooF_none (κ : α → Out) (t : Tag κ) : ooF κ t none = .bad := Eq.trans rfl rfl
@[simp] theorem ooF_ite (κ : α → Out) (t : Tag κ) (p : Prop) [Decidable p] (a b : Option α) : ooF κ t (if p then a else b) = if p then ooF κ t a else ooF κ t b := by split <;> rfl
@[simp] theorem sF_nx (κ : DL.Env → Store → Out) (t : Tag κ) (env : DL.Env) (st : Store) : sF κ t (.nx env st) = κ env st := Eq.trans rfl rfl
@[simp] theorem sF_rt (κ : DL.Env → Store → Out) (t : Tag κ) (v : RV) (st : Store) : sF κ t (.rt v st) = .rt v st := Eq.trans rfl rfl
@[simp] theorem sF_rtt (κ : DL.Env → Store → Out) (t : Tag κ) (vs : List RV) (st : Store) : sF κ t (.rtt vs st) = .rtt vs st := Eq.trans rfl rfl
@[simp] theorem sF_exc (κ : DL.Env → Store → Out) (t : Tag κ) (k : Nat) (st : Store) : sF κ t (.exc k st) = .exc k st := Eq.trans rfl rfl
@[simp] theorem sF_bad (κ : DL.Env → Store → Out) (t : Tag κ) : sF κ t .bad = .bad := Eq.trans rfl rfl
@[simp] theorem sF_ite (κ : DL.Env → Store → Out) (t : Tag κ) (p : Prop) [Decidable p] (a b : Out) : sF κ t (if p then a else b) = if p then sF κ t a else sF κ t b := by split <;> rfl
@[simp] theorem ifF_t (a b : Unit → ρ) (s : Tag a) (t : Tag b) : ifF a b s t true = a () := Eq.trans rfl rfl
@[simp] theorem ifF_f (a b : Unit → ρ) (s : Tag a) (t : Tag b) : ifF a b s t false = b () := Eq.trans rfl rfl
@[simp low] theorem ifF_k (a b : Unit → ρ) (s : Tag a) (t : Tag b) (k : Bool) : ifF a b s t k = if k = true then a () else b () := Eq.trans rfl rfl
@[simp] theorem andF_t (f : Unit → Res Bool) (t : Tag f) (st : Store) : andF f t true st = f () := Eq.trans rfl rfl
@[simp] theorem andF_f (f : Unit → Res Bool) (t : Tag f) (st : Store) : andF f t false st = .ok false st := Eq.trans rfl rfl
@[simp low] theorem andF_k (f : Unit → Res Bool) (t : Tag f) (x : Bool) (st : Store) : andF f t x st = andG x (f ()) st := Eq.trans rfl rfl
@[simp] theorem andG_ok (x y : Bool) (st : Store) : andG x (.ok y st) st = .ok (x && y) st := by cases x <;> rfl
@[simp] theorem orF_t (f : Unit → Res Bool) (t : Tag f) (st : Store) : orF f t true st = .ok true st := Eq.trans rfl rfl
@[simp] theorem orF_f (f : Unit → Res Bool) (t : Tag f) (st : Store) : orF f t false st = f () := Eq.trans rfl rfl
@[simp low] theorem orF_k (f : Unit → Res Bool) (t : Tag f) (x : Bool) (st : Store) : orF f t x st = orG x (f ()) st := Eq.trans rfl rfl
@[simp] theorem orG_ok (x y : Bool) (st : Store) : orG x (.ok y st) st = .ok (x || y) st := by cases x <;> rfl
end
def asB : RV → Option Bool
  | .d _ (.bool b) => some b
  | _ => none
def asI : RV → Option Int
  | .d _ (.int i) => some i
  | _ => none
@[simp] theorem asB_b (g : Gn) (b : Bool) : asB (.d g (.bool b)) = some b := Eq.trans rfl rfl
@[simp] theorem asI_i (g : Gn) (i : Int) : asI (.d g (.int i)) = some i := Eq.trans rfl rfl

/-! loops over their things -/
def lcS (src : Src) (κ : RV → Store → Res (Option RV)) (_ : Tag κ) (acc : List RV) (st : Store) : Res (List RV) := lcLoop src κ src.size 0 acc st
def lcL (κ : RV → Store → Res (Option RV)) (_ : Tag κ) : List RV → List RV → Store → Res (List RV)
  | [], acc, st => .ok acc st
  | v :: r, acc, st => match κ v st with
    | .ok (some y) st' => lcL κ ⟨⟩ r (acc ++ [y]) st'
    | .ok none st' => lcL κ ⟨⟩ r acc st'
    | _ => .bad
def forS (src : Src) (κ : RV → DL.Env → Store → Out) (_ : Tag κ) (env : DL.Env) (st : Store) : Out := forLoop src κ src.size 0 env st
def forL (κ : RV → DL.Env → Store → Out) (_ : Tag κ) : List RV → DL.Env → Store → Out
  | [], env, st => .nx env st
  | v :: r, env, st => (κ v env st).seq fun env' st' => forL κ ⟨⟩ r env' st'
theorem lc_items (xs : List RV) (κ : RV → Store → Res (Option RV)) (t : Tag κ) : ∀ (k i : Nat) (acc : List RV) (st : Store), i + k = xs.length → lcLoop (.items xs) κ k i acc st = lcL κ t (xs.drop i) acc st
  | 0, i, acc, st, h => by
    rw [List.drop_of_length_le (by omega)]
    rfl
  | k + 1, i, acc, st, h => by
    have hi : i < xs.length := by omega
    rw [List.drop_eq_getElem_cons hi]
    unfold lcLoop lcL
    simp only [Src.at?, List.getElem?_eq_getElem hi]
    rcases κ xs[i] st with ⟨_ | y, s⟩ | _ | _
    · exact lc_items xs κ t k (i + 1) _ _ (by omega)
    · exact lc_items xs κ t k (i + 1) _ _ (by omega)
    · rfl
    · rfl
theorem for_items (xs : List RV) (κ : RV → DL.Env → Store → Out) (t : Tag κ) : ∀ (k i : Nat) (env : DL.Env) (st : Store), i + k = xs.length → forLoop (.items xs) κ k i env st = forL κ t (xs.drop i) env st
  | 0, i, env, st, h => by
    rw [List.drop_of_length_le (by omega)]
    rfl
  | k + 1, i, env, st, h => by
    have hi : i < xs.length := by omega
    rw [List.drop_eq_getElem_cons hi]
    unfold forLoop forL
    simp only [Src.at?, List.getElem?_eq_getElem hi]
    exact congrArg _ (funext fun env' => funext fun st' => for_items xs κ t k (i + 1) _ _ (by omega))
@[simp] theorem lcS_items (xs : List RV) (κ : RV → Store → Res (Option RV)) (t : Tag κ) (acc : List RV) (st : Store) : lcS (.items xs) κ t acc st = lcL κ t xs acc st := by
  unfold lcS
  rw [show (Src.items xs).size = xs.length from rfl, lc_items xs κ t _ _ _ _ (by omega), List.drop_zero]
@[simp] theorem forS_items (xs : List RV) (κ : RV → DL.Env → Store → Out) (t : Tag κ) (env : DL.Env) (st : Store) : forS (.items xs) κ t env st = forL κ t xs env st := by
  unfold forS
  rw [show (Src.items xs).size = xs.length from rfl, for_items xs κ t _ _ _ _ (by omega), List.drop_zero]
def lcR (κ : RV → Store → Res (Option RV)) (_ : Tag κ) (r : List RV) (acc : List RV) (o : Res (Option RV)) : Res (List RV) := match o with
    | .ok (some y) st' => lcL κ ⟨⟩ r (acc ++ [y]) st'
    | .ok none st' => lcL κ ⟨⟩ r acc st'
    | _ => .bad
@[simp] theorem lcL_nil (κ : RV → Store → Res (Option RV)) (t : Tag κ) (acc : List RV) (st : Store) : lcL κ t [] acc st = .ok acc st := Eq.trans rfl rfl
@[simp] theorem lcL_cons (κ : RV → Store → Res (Option RV)) (t : Tag κ) (v : RV) (r acc : List RV) (st : Store) : lcL κ t (v :: r) acc st = lcR κ t r acc (κ v st) := Eq.trans rfl rfl
@[simp] theorem lcR_some (κ : RV → Store → Res (Option RV)) (t : Tag κ) (y : RV) (r acc : List RV) (st : Store) : lcR κ t r acc (.ok (some y) st) = lcL κ t r (acc ++ [y]) st := Eq.trans rfl rfl
@[simp] theorem lcR_none (κ : RV → Store → Res (Option RV)) (t : Tag κ) (r acc : List RV) (st : Store) : lcR κ t r acc (.ok none st) = lcL κ t r acc st := Eq.trans rfl rfl
@[simp] theorem lcR_ite (κ : RV → Store → Res (Option RV)) (t : Tag κ) (r acc : List RV) (p : Prop) [Decidable p] (a b : Res (Option RV)) : lcR κ t r acc (if p then a else b) = if p then lcR κ t r acc a else lcR κ t r acc b := by split <;> rfl
@[simp] theorem forL_nil (κ : RV → DL.Env → Store → Out) (t : Tag κ) (env : DL.Env) (st : Store) : forL κ t [] env st = .nx env st := Eq.trans rfl rfl
@[simp] theorem forL_cons (κ : RV → DL.Env → Store → Out) (t : Tag κ) (v : RV) (r : List RV) (env : DL.Env) (st : Store) : forL κ t (v :: r) env st = sF (fun env' st' => forL κ t r env' st') ⟨⟩ (κ v env st) := Eq.trans rfl rfl
@[simp] theorem size_items (xs : List RV) : (Src.items xs).size = xs.length := Eq.trans rfl rfl

def dic1R (v : RV) (st2 : Store) (k : RV) : Res RV := match k with
  | .d _ x => if keyOk x = true then .ok (.c st2.length) (st2 ++ [.dic false [(x, v)]]) else .bad
  | _ => .bad
@[simp] theorem dic1R_d (v : RV) (st2 : Store) (g : Gn) (x : PyData) : dic1R v st2 (.d g x) = if keyOk x = true then .ok (.c st2.length) (st2 ++ [.dic false [(x, v)]]) else .bad := Eq.trans rfl rfl
def splR (v i : Nat) (env : DL.Env) (st : Store) (o : Option (Option RV)) : Out := match o with
  | some (some (.d .new (.tuple [_, .list xs]))) => if splOk v i xs = true then .nx ((spoilEnv env).set i none) (spoilSt st) else .bad
  | _ => .bad
theorem splR_d (v i : Nat) (env : DL.Env) (st : Store) (d : PyData) (xs : List PyData) : splR v i env st (some (some (.d .new (.tuple [d, .list xs])))) = if splOk v i xs = true then .nx ((spoilEnv env).set i none) (spoilSt st) else .bad := Eq.trans rfl rfl
/-! the expressions -/
section
variable {C : Cfg} {φ φ2 : Phi} {env : DL.Env} {st : Store}
@[simp] theorem E_var (i : Nat) : den C φ φ2 (.var i) env st = oF (fun o => oF (fun v => .ok v st) ⟨⟩ o) ⟨⟩ env[i]? := by
  rw [den]
  rcases env[i]? with _ | _ | _ <;> rfl
@[simp] theorem E_cst (x : PyData) : den C φ φ2 (.cst x) env st = .ok (.d .pur x) st := by rw [den]
@[simp] theorem E_glb (n : Nat) : den C φ φ2 (.glb n) env st = oF (fun x => .ok (.d .pur x) st) ⟨⟩ C.glb[n]? := by
  rw [den]
  rcases C.glb[n]? with _ | _ <;> rfl
theorem ofOpt_oF {α : Type} (o : Option α) (st : Store) : Res.ofOpt o st = oF (fun a => .ok a st) ⟨⟩ o := by cases o <;> rfl
@[simp] theorem E_bin (o : BOp) (a b : E) : den C φ φ2 (.bin o a b) env st = bF (fun x st1 => bF (fun y st2 => oF (fun v => .ok v st2) ⟨⟩ (binop st2 o x y)) ⟨⟩ (den C φ φ2 b env st1)) ⟨⟩ (den C φ φ2 a env st) := by
  rw [den]
  simp only [ofOpt_oF]
  rfl
@[simp] theorem E_neg (a : E) : den C φ φ2 (.neg a) env st = bF (fun x st1 => oF (fun i => .ok (rvI (-i)) st1) ⟨⟩ (asI x)) ⟨⟩ (den C φ φ2 a env st) := by
  rw [den]
  refine congrArg _ (funext fun x => funext fun st1 => ?_)
  rcases x with ⟨_, _ | _ | _ | _ | _ | _ | _⟩ | _ <;> rfl
@[simp] theorem E_cmp (o : COp) (a b : E) : den C φ φ2 (.cmp o a b) env st = bF (fun x st1 => bF (fun y st2 => oF (fun v => .ok (rvB v) st2) ⟨⟩ (cmpop st2 o x y)) ⟨⟩ (den C φ φ2 b env st1)) ⟨⟩ (den C φ φ2 a env st) := by
  rw [den]
  refine congrArg _ (funext fun x => funext fun st1 => congrArg _ (funext fun y => funext fun st2 => ?_))
  cases cmpop st2 o x y <;> rfl
@[simp] theorem E_chn (o p : COp) (a b c : E) : den C φ φ2 (.chn o p a b c) env st = bF (fun x st1 => bF (fun y st2 => bF (fun v s => .ok (rvB v) s) ⟨⟩ (oF (fun r => andF (fun _ => bF (fun z st4 => oF (fun v => .ok v st4) ⟨⟩ (cmpop st4 p y z)) ⟨⟩ (den C φ φ2 c env st2)) ⟨⟩ r st2) ⟨⟩ (cmpop st2 o x y))) ⟨⟩ (den C φ φ2 b env st1)) ⟨⟩ (den C φ φ2 a env st) := by
  rw [den]
  refine congrArg _ (funext fun x => funext fun st1 => congrArg _ (funext fun y => funext fun st2 => ?_))
  rcases cmpop st2 o x y with _ | _ | _
  · rfl
  · rfl
  · show (den C φ φ2 c env st2).bind (fun z st4 => Res.ofOpt ((cmpop st4 p y z).map rvB) st4) = bF (fun v s => .ok (rvB v) s) ⟨⟩ (bF (fun z st4 => oF (fun v => .ok v st4) ⟨⟩ (cmpop st4 p y z)) ⟨⟩ (den C φ φ2 c env st2))
    cases den C φ φ2 c env st2 with
    | ok z s =>
      simp only [bF_ok, Res.bind_ok]
      cases cmpop s p y z <;> rfl
    | exc k s => rfl
    | bad => rfl
@[simp] theorem E_boo (k : Bool) (xs : EL) : den C φ φ2 (.boo k xs) env st = bF (fun b st1 => .ok (rvB b) st1) ⟨⟩ (denBoo C φ φ2 k xs env st) := by
  rw [den]
  rfl
@[simp] theorem B_one (k : Bool) (e : E) : denBoo C φ φ2 k (.cons e .nil) env st = bF (fun v st1 => oF (fun b => .ok b st1) ⟨⟩ (asB v)) ⟨⟩ (den C φ φ2 e env st) := by
  rw [denBoo]
  refine congrArg _ (funext fun x => funext fun st1 => ?_)
  rcases x with ⟨_, _ | _ | _ | _ | _ | _ | _⟩ | _ <;> rfl
@[simp] theorem B_and (e e' : E) (r : EL) : denBoo C φ φ2 true (.cons e (.cons e' r)) env st = bF (fun v st1 => oF (fun b => andF (fun _ => denBoo C φ φ2 true (.cons e' r) env st1) ⟨⟩ b st1) ⟨⟩ (asB v)) ⟨⟩ (den C φ φ2 e env st) := by
  rw [denBoo]
  refine congrArg _ (funext fun x => funext fun st1 => ?_)
  rcases x with ⟨_, _ | ⟨_ | _⟩ | _ | _ | _ | _ | _⟩ | _ <;> rfl
@[simp] theorem B_or (e e' : E) (r : EL) : denBoo C φ φ2 false (.cons e (.cons e' r)) env st = bF (fun v st1 => oF (fun b => orF (fun _ => denBoo C φ φ2 false (.cons e' r) env st1) ⟨⟩ b st1) ⟨⟩ (asB v)) ⟨⟩ (den C φ φ2 e env st) := by
  rw [denBoo]
  refine congrArg _ (funext fun x => funext fun st1 => ?_)
  rcases x with ⟨_, _ | ⟨_ | _⟩ | _ | _ | _ | _ | _⟩ | _ <;> rfl
@[simp] theorem E_nt (a : E) : den C φ φ2 (.nt a) env st = bF (fun x st1 => oF (fun b => .ok (rvB (!b)) st1) ⟨⟩ (asB x)) ⟨⟩ (den C φ φ2 a env st) := by
  rw [den]
  refine congrArg _ (funext fun x => funext fun st1 => ?_)
  rcases x with ⟨_, _ | _ | _ | _ | _ | _ | _⟩ | _ <;> rfl
@[simp] theorem E_ife (c a b : E) : den C φ φ2 (.ife c a b) env st = bF (fun x st1 => oF (fun k => ifF (fun _ => den C φ φ2 a env st1) (fun _ => den C φ φ2 b env st1) ⟨⟩ ⟨⟩ k) ⟨⟩ (asB x)) ⟨⟩ (den C φ φ2 c env st) := by
  rw [den]
  refine congrArg _ (funext fun x => funext fun st1 => ?_)
  rcases x with ⟨_, _ | ⟨_ | _⟩ | _ | _ | _ | _ | _⟩ | _ <;> rfl
@[simp] theorem E_tup (xs : EL) : den C φ φ2 (.tup xs) env st = bF (fun vs st1 => oF (fun v => .ok v st1) ⟨⟩ (mkTup vs)) ⟨⟩ (denL C φ φ2 xs env st) := by
  rw [den]
  simp only [ofOpt_oF]
  rfl
@[simp] theorem E_lst (xs : EL) : den C φ φ2 (.lst xs) env st = bF (fun vs st1 => oF (fun v => .ok v st1) ⟨⟩ (mkLst vs)) ⟨⟩ (denL C φ φ2 xs env st) := by
  rw [den]
  simp only [ofOpt_oF]
  rfl
@[simp] theorem E_mlst (xs : EL) : den C φ φ2 (.mlst xs) env st = bF (fun vs st1 => .ok (.c st1.length) (st1 ++ [.lst vs])) ⟨⟩ (denL C φ φ2 xs env st) := by
  rw [den]
  rfl
@[simp] theorem E_mdic : den C φ φ2 .mdic env st = .ok (.c st.length) (st ++ [.dic false []]) := by rw [den]
@[simp] theorem E_dic1 (a b : E) : den C φ φ2 (.dic1 a b) env st = bF (fun k st1 => bF (fun v st2 => dic1R v st2 k) ⟨⟩ (den C φ φ2 b env st1)) ⟨⟩ (den C φ φ2 a env st) := by
  rw [den]
  rfl
@[simp] theorem E_sdi (ks : List Str) (xs : EL) : den C φ φ2 (.sdi ks xs) env st = bF (fun vs st1 => ifF (fun _ => .ok (.c st1.length) (st1 ++ [.sd (ks.zip vs)])) (fun _ => .bad) ⟨⟩ ⟨⟩ (decide (vs.length = ks.length))) ⟨⟩ (denL C φ φ2 xs env st) := by
  rw [den]
  refine congrArg _ (funext fun vs => funext fun st1 => ?_)
  unfold ifF
  simp only [decide_eq_true_eq]
@[simp] theorem E_sub (a i : E) : den C φ φ2 (.sub a i) env st = bF (fun x st1 => bF (fun y st2 => oF (fun v => .ok v st2) ⟨⟩ (subscr st2 x y)) ⟨⟩ (den C φ φ2 i env st1)) ⟨⟩ (den C φ φ2 a env st) := by
  rw [den]
  simp only [ofOpt_oF]
  rfl
@[simp] theorem E_slc (a : E) (lo hi : EL) : den C φ φ2 (.slc a lo hi) env st = bF (fun x st1 => bF (fun l st2 => bF (fun h st3 => oF (fun v => .ok v st3) ⟨⟩ (slice st3 x l h)) ⟨⟩ (denO C φ φ2 hi env st2)) ⟨⟩ (denO C φ φ2 lo env st1)) ⟨⟩ (den C φ φ2 a env st) := by
  rw [den]
  simp only [ofOpt_oF]
  rfl
@[simp] theorem E_call (f : Nat) (xs : EL) : den C φ φ2 (.call f xs) env st = bF (fun vs st1 => callF (φ f) vs st1) ⟨⟩ (denL C φ φ2 xs env st) := by
  rw [den]
  rfl
@[simp] theorem E_isi (a : E) (ts : List Ty) : den C φ φ2 (.isi a ts) env st = bF (fun x st1 => oF (fun bs => .ok (rvB (bs.any id)) st1) ⟨⟩ (ts.mapM (isTy st1 x))) ⟨⟩ (den C φ φ2 a env st) := by
  rw [den]
  refine congrArg _ (funext fun x => funext fun st1 => ?_)
  cases ts.mapM (isTy st1 x) <;> rfl
/-- dict(..) of a told list -/
def bDict : List RV → Option Cell
  | [v] => mkDic v
  | _ => none
@[simp] theorem E_dict (xs : EL) : den C φ φ2 (.bl .dict xs) env st = bF (fun vs st1 => oF (fun cl => .ok (.c st1.length) (st1 ++ [cl])) ⟨⟩ (bDict vs)) ⟨⟩ (denL C φ φ2 xs env st) := by
  rw [den]
  refine congrArg _ (funext fun vs => funext fun st1 => ?_)
  rcases vs with _ | ⟨v, _ | _⟩
  · rfl
  · show (match mkDic v with
      | some cl => _
      | none => _) = oF _ _ (mkDic v)
    cases mkDic v <;> rfl
  · rfl
theorem E_bl (b : Blt) (hb : b ≠ .dict) (xs : EL) : den C φ φ2 (.bl b xs) env st = bF (fun vs st1 => oF (fun v => .ok v st1) ⟨⟩ (blt st1 b vs)) ⟨⟩ (denL C φ φ2 xs env st) := by
  rw [den]
  simp only [ofOpt_oF]
  cases b <;> first | rfl | exact absurd rfl hb
@[simp] theorem E_len (xs : EL) : den C φ φ2 (.bl .len xs) env st = bF (fun vs st1 => oF (fun v => .ok v st1) ⟨⟩ (bLen st1 vs)) ⟨⟩ (denL C φ φ2 xs env st) := E_bl _ (by simp) _
@[simp] theorem E_abs (xs : EL) : den C φ φ2 (.bl .abs xs) env st = bF (fun vs st1 => oF (fun v => .ok v st1) ⟨⟩ (bAbs vs)) ⟨⟩ (denL C φ φ2 xs env st) := E_bl _ (by simp) _
@[simp] theorem E_dvm (xs : EL) : den C φ φ2 (.bl .dvm xs) env st = bF (fun vs st1 => oF (fun v => .ok v st1) ⟨⟩ (bDvm vs)) ⟨⟩ (denL C φ φ2 xs env st) := E_bl _ (by simp) _
@[simp] theorem E_list (xs : EL) : den C φ φ2 (.bl .list xs) env st = bF (fun vs st1 => oF (fun v => .ok v st1) ⟨⟩ (bList st1 vs)) ⟨⟩ (denL C φ φ2 xs env st) := E_bl _ (by simp) _
@[simp] theorem E_tuple (xs : EL) : den C φ φ2 (.bl .tuple xs) env st = bF (fun vs st1 => oF (fun v => .ok v st1) ⟨⟩ (bTup st1 vs)) ⟨⟩ (denL C φ φ2 xs env st) := E_bl _ (by simp) _
@[simp] theorem E_sorted (xs : EL) : den C φ φ2 (.bl .sorted xs) env st = bF (fun vs st1 => oF (fun v => .ok v st1) ⟨⟩ (bSorted st1 vs)) ⟨⟩ (denL C φ φ2 xs env st) := E_bl _ (by simp) _
@[simp] theorem E_sortset (xs : EL) : den C φ φ2 (.bl .sortset xs) env st = bF (fun vs st1 => oF (fun v => .ok v st1) ⟨⟩ (bSortset st1 vs)) ⟨⟩ (denL C φ φ2 xs env st) := E_bl _ (by simp) _
@[simp] theorem E_sortsi (xs : EL) : den C φ φ2 (.bl .sortsi xs) env st = bF (fun vs st1 => oF (fun v => .ok v st1) ⟨⟩ (bSortsi vs)) ⟨⟩ (denL C φ φ2 xs env st) := E_bl _ (by simp) _
@[simp] theorem E_trng (xs : EL) : den C φ φ2 (.bl .trng xs) env st = bF (fun vs st1 => oF (fun v => .ok v st1) ⟨⟩ (bTrng vs)) ⟨⟩ (denL C φ φ2 xs env st) := E_bl _ (by simp) _
@[simp] theorem E_rev (xs : EL) : den C φ φ2 (.bl .rev xs) env st = bF (fun vs st1 => oF (fun v => .ok v st1) ⟨⟩ (bRev vs)) ⟨⟩ (denL C φ φ2 xs env st) := E_bl _ (by simp) _
@[simp] theorem E_sum (xs : EL) : den C φ φ2 (.bl .sum xs) env st = bF (fun vs st1 => oF (fun v => .ok v st1) ⟨⟩ (bSum vs)) ⟨⟩ (denL C φ φ2 xs env st) := E_bl _ (by simp) _
@[simp] theorem E_min1 (xs : EL) : den C φ φ2 (.bl .min1 xs) env st = bF (fun vs st1 => oF (fun v => .ok v st1) ⟨⟩ (bPick PySem.W.minD st1 vs)) ⟨⟩ (denL C φ φ2 xs env st) := E_bl _ (by simp) _
@[simp] theorem E_max1 (xs : EL) : den C φ φ2 (.bl .max1 xs) env st = bF (fun vs st1 => oF (fun v => .ok v st1) ⟨⟩ (bPick PySem.W.maxD st1 vs)) ⟨⟩ (denL C φ φ2 xs env st) := E_bl _ (by simp) _
@[simp] theorem E_minD (xs : EL) : den C φ φ2 (.bl .minD xs) env st = bF (fun vs st1 => oF (fun v => .ok v st1) ⟨⟩ (bPickD PySem.W.minD st1 vs)) ⟨⟩ (denL C φ φ2 xs env st) := E_bl _ (by simp) _
@[simp] theorem E_maxD (xs : EL) : den C φ φ2 (.bl .maxD xs) env st = bF (fun vs st1 => oF (fun v => .ok v st1) ⟨⟩ (bPickD PySem.W.maxD st1 vs)) ⟨⟩ (denL C φ φ2 xs env st) := E_bl _ (by simp) _
@[simp] theorem E_max2 (xs : EL) : den C φ φ2 (.bl .max2 xs) env st = bF (fun vs st1 => oF (fun v => .ok v st1) ⟨⟩ (bMax2 vs)) ⟨⟩ (denL C φ φ2 xs env st) := E_bl _ (by simp) _
@[simp] theorem E_min2 (xs : EL) : den C φ φ2 (.bl .min2 xs) env st = bF (fun vs st1 => oF (fun v => .ok v st1) ⟨⟩ (bMin2 vs)) ⟨⟩ (denL C φ φ2 xs env st) := E_bl _ (by simp) _
@[simp] theorem E_int (xs : EL) : den C φ φ2 (.bl .int xs) env st = bF (fun vs st1 => oF (fun v => .ok v st1) ⟨⟩ (bInt vs)) ⟨⟩ (denL C φ φ2 xs env st) := E_bl _ (by simp) _
/-- list(..) kept as a cell -/
def mList (st : Store) : List RV → Option (List RV)
  | [v] => items? st v
  | _ => none
@[simp] theorem E_mlist (xs : EL) : den C φ φ2 (.mbl .list xs) env st = bF (fun vs st1 => oF (fun ys => .ok (.c st1.length) (st1 ++ [.lst ys])) ⟨⟩ (mList st1 vs)) ⟨⟩ (denL C φ φ2 xs env st) := by
  rw [den]
  refine congrArg _ (funext fun vs => funext fun st1 => ?_)
  rcases vs with _ | ⟨v, _ | _⟩
  · rfl
  · show (match items? st1 v with
      | some ys => _
      | none => _) = oF _ _ (items? st1 v)
    cases items? st1 v <;> rfl
  · rfl
@[simp] theorem E_mth (m : Mth) (o : E) (xs : EL) : den C φ φ2 (.mth m o xs) env st = bF (fun x st1 => ifF (fun _ => bF (fun vs st2 => oF (fun p => .ok p.1 p.2) ⟨⟩ (mthd st2 m x vs)) ⟨⟩ (denL C φ φ2 xs env st1)) (fun _ => .bad) ⟨⟩ ⟨⟩ (mOk st1 m x)) ⟨⟩ (den C φ φ2 o env st) := by
  rw [den]
  refine congrArg _ (funext fun x => funext fun st1 => ?_)
  unfold ifF
  split
  · refine congrArg _ (funext fun vs => funext fun st2 => ?_)
    cases mthd st2 m x vs <;> rfl
  · rfl
/-- a comprehension's turn -/
def lcTrn (C : Cfg) (φ φ2 : Phi) (own : List Nat) (tg : DL.Tg) (ts : EL) (elt : E) (env : DL.Env) (v : RV) (st : Store) : Res (Option RV) :=
  oF (fun env' => bF (fun b st2 => ifF (fun _ => bF (fun y st3 => .ok (some y) st3) ⟨⟩ (den C φ φ2 elt env' st2)) (fun _ => .ok none st2) ⟨⟩ ⟨⟩ b) ⟨⟩ (denT C φ φ2 ts env' st)) ⟨⟩ (assign tg v (wipeE env own))
@[simp] theorem E_lc (own : List Nat) (tg : DL.Tg) (ik : Ik) (it ts : EL) (elt : E) : den C φ φ2 (.lc own tg ik it ts elt) env st = bF (fun vs st1 => oF (fun src => bF (fun ys st2 => oF (fun v => .ok v (setLk st2 (lockOf ik vs st1) id)) ⟨⟩ (mkLst ys)) ⟨⟩ (lcS src (fun v st => lcTrn C φ φ2 own tg ts elt env v st) ⟨⟩ [] (setLk st1 (lockOf ik vs st1) fun _ => true))) ⟨⟩ (srcOf st1 ik vs)) ⟨⟩ (denL C φ φ2 it env st) := by
  rw [den]
  refine congrArg _ (funext fun vs => funext fun st1 => ?_)
  simp only [ofOpt_oF]
  cases srcOf st1 ik vs with
  | none => rfl
  | some src =>
    refine congrArg (fun t => (lcLoop src t src.size 0 [] _).bind _) (funext fun v => funext fun st => ?_)
    unfold lcTrn
    cases assign tg v (wipeE env own) <;> rfl
@[simp] theorem E_mlc (own : List Nat) (tg : DL.Tg) (ik : Ik) (it ts : EL) (elt : E) : den C φ φ2 (.mlc own tg ik it ts elt) env st = bF (fun vs st1 => oF (fun src => bF (fun ys st2 => .ok (.c (setLk st2 (lockOf ik vs st1) id).length) (setLk st2 (lockOf ik vs st1) id ++ [.lst ys])) ⟨⟩ (lcS src (fun v st => lcTrn C φ φ2 own tg ts elt env v st) ⟨⟩ [] (setLk st1 (lockOf ik vs st1) fun _ => true))) ⟨⟩ (srcOf st1 ik vs)) ⟨⟩ (denL C φ φ2 it env st) := by
  rw [den]
  refine congrArg _ (funext fun vs => funext fun st1 => ?_)
  cases srcOf st1 ik vs with
  | none => rfl
  | some src =>
    refine congrArg (fun t => (lcLoop src t src.size 0 [] _).bind _) (funext fun v => funext fun st => ?_)
    unfold lcTrn
    cases assign tg v (wipeE env own) <;> rfl
/-- what a refusal is called -/
def kindF (C : Cfg) (r : Res RV) : Res RV := match r with
    | .ok _ st1 => .ok (rvS ⟨#[]⟩) st1
    | .exc k st1 => oF (fun s => .ok (rvS s) st1) ⟨⟩ C.exn[k]?
    | .bad => .bad
@[simp] theorem kindF_ok (v : RV) : kindF C (.ok v st) = .ok (rvS ⟨#[]⟩) st := Eq.trans rfl rfl
@[simp] theorem kindF_exc (k : Nat) : kindF C (.exc k st) = oF (fun s => .ok (rvS s) st) ⟨⟩ C.exn[k]? := Eq.trans rfl rfl
@[simp] theorem E_kind (body : E) : den C φ φ2 (.kind body) env st = kindF C (den C φ2 φ2 body env st) := by
  rw [den]
  unfold kindF
  cases den C φ2 φ2 body env st with
  | exc k s => simp only []; cases C.exn[k]? <;> rfl
  | _ => rfl
@[simp] theorem E_fld (o : E) (f : Str) : den C φ φ2 (.fld o f) env st = bF (fun x st1 => oF (fun v => .ok v st1) ⟨⟩ (fldOf st1 x f)) ⟨⟩ (den C φ φ2 o env st) := by
  rw [den]
  simp only [ofOpt_oF]
  rfl
/-- behind a new object's __init__ -/
def mkR (n : Nat) (r : Res RV) : Res RV := r.bind fun v st2 => if isNonRV v = true then .ok (.c n) st2 else .bad
@[simp] theorem mkR_none (n : Nat) (g : Gn) : mkR n (.ok (.d g .none) st) = .ok (.c n) st := Eq.trans rfl rfl
@[simp] theorem E_mk (f : Nat) (xs : EL) : den C φ φ2 (.mk f xs) env st = bF (fun vs st1 => mkR st1.length (callF (φ f) (.c st1.length :: vs) (st1 ++ [.obj 0 []]))) ⟨⟩ (denL C φ φ2 xs env st) := by
  rw [den]
  rfl
@[simp] theorem E_meth (f : Nat) (m : Str) (o : E) (xs : EL) : den C φ φ2 (.meth f m o xs) env st = bF (fun x st1 => ifF (fun _ => bF (fun vs st2 => callF (φ f) (x :: vs) st2) ⟨⟩ (denL C φ φ2 xs env st1)) (fun _ => .bad) ⟨⟩ ⟨⟩ (isObj st1 x m)) ⟨⟩ (den C φ φ2 o env st) := by
  rw [den]
  rfl
@[simp] theorem L_nil : denL C φ φ2 .nil env st = .ok [] st := by rw [denL]
@[simp] theorem L_cons (e : E) (r : EL) : denL C φ φ2 (.cons e r) env st = bF (fun v st1 => bF (fun vs st2 => .ok (v :: vs) st2) ⟨⟩ (denL C φ φ2 r env st1)) ⟨⟩ (den C φ φ2 e env st) := by
  rw [denL]
  rfl
@[simp] theorem O_nil : denO C φ φ2 .nil env st = .ok none st := by rw [denO]
@[simp] theorem O_cons (e : E) (r : EL) : denO C φ φ2 (.cons e r) env st = bF (fun v st1 => oF (fun i => .ok (some i) st1) ⟨⟩ (asI v)) ⟨⟩ (den C φ φ2 e env st) := by
  rw [denO]
  refine congrArg _ (funext fun x => funext fun st1 => ?_)
  rcases x with ⟨_, _ | _ | _ | _ | _ | _ | _⟩ | _ <;> rfl
@[simp] theorem T_nil : denT C φ φ2 .nil env st = .ok true st := by rw [denT]
@[simp] theorem T_cons (e : E) (r : EL) : denT C φ φ2 (.cons e r) env st = bF (fun v st1 => oF (fun i => .ok i st1) ⟨⟩ (asB v)) ⟨⟩ (den C φ φ2 e env st) := by
  rw [denT]
  refine congrArg _ (funext fun x => funext fun st1 => ?_)
  rcases x with ⟨_, _ | _ | _ | _ | _ | _ | _⟩ | _ <;> rfl
@[simp] theorem test_eq (e : E) : DL.test C φ φ2 e env st = bF (fun v st1 => oF (fun i => .ok i st1) ⟨⟩ (asB v)) ⟨⟩ (den C φ φ2 e env st) := by
  unfold DL.test
  refine congrArg _ (funext fun x => funext fun st1 => ?_)
  rcases x with ⟨_, _ | _ | _ | _ | _ | _ | _⟩ | _ <;> rfl

/-! the statements -/
@[simp] theorem S_asg (tg : DL.Tg) (e : E) : exe C φ φ2 (.asg tg e) env st = boF (fun v st1 => ooF (fun env' => .nx env' st1) ⟨⟩ (assign tg v env)) ⟨⟩ (den C φ φ2 e env st) := by
  rw [exe]
  refine congrArg _ (funext fun v => funext fun st1 => ?_)
  cases assign tg v env <;> rfl
@[simp] theorem S_ast (o i e : E) : exe C φ φ2 (.ast o i e) env st = boF (fun v st1 => boF (fun x st2 => boF (fun y st3 => ooF (fun st4 => .nx env st4) ⟨⟩ (setItem st3 x y v)) ⟨⟩ (den C φ φ2 i env st2)) ⟨⟩ (den C φ φ2 o env st1)) ⟨⟩ (den C φ φ2 e env st) := by
  rw [exe]
  refine congrArg _ (funext fun v => funext fun st1 => congrArg _ (funext fun x => funext fun st2 => congrArg _ (funext fun y => funext fun st3 => ?_)))
  cases setItem st3 x y v <;> rfl
@[simp] theorem S_sfld (o : E) (f : Str) (e : E) : exe C φ φ2 (.sfld o f e) env st = boF (fun v st1 => boF (fun x st2 => ooF (fun st3 => .nx env st3) ⟨⟩ (setFld st2 x f v)) ⟨⟩ (den C φ φ2 o env st1)) ⟨⟩ (den C φ φ2 e env st) := by
  rw [exe]
  refine congrArg _ (funext fun v => funext fun st1 => congrArg _ (funext fun x => funext fun st2 => ?_))
  cases setFld st2 x f v <;> rfl
@[simp] theorem S_exp (e : E) : exe C φ φ2 (.exp e) env st = boF (fun _ st1 => .nx env st1) ⟨⟩ (den C φ φ2 e env st) := by
  rw [exe]
  rfl
@[simp] theorem S_ret (e : E) : exe C φ φ2 (.ret e) env st = boF (fun v st1 => .rt v st1) ⟨⟩ (den C φ φ2 e env st) := by
  rw [exe]
  rfl
@[simp] theorem S_rtt (xs : EL) : exe C φ φ2 (.rtt xs) env st = boF (fun vs st1 => .rtt vs st1) ⟨⟩ (denL C φ φ2 xs env st) := by
  rw [exe]
  rfl
@[simp] theorem S_retn : exe C φ φ2 .retn env st = .rt rvN st := by rw [exe]
@[simp] theorem S_ifs (c : E) (a b : SL) : exe C φ φ2 (.ifs c a b) env st = boF (fun k st1 => ifF (fun _ => exes C φ φ2 a env st1) (fun _ => exes C φ φ2 b env st1) ⟨⟩ ⟨⟩ k) ⟨⟩ (DL.test C φ φ2 c env st) := by
  rw [exe]
  rfl
def whF (test : DL.Env → Store → Res Bool) (turn : DL.Env → Store → Out) (_ : Tag test) (_ : Tag turn) (n : Nat) (env : DL.Env) (st : Store) : Out := whileLoop test turn n env st
@[simp] theorem S_whl (n : Nat) (c : E) (a : SL) : exe C φ φ2 (.whl n c a) env st = whF (fun env st => DL.test C φ φ2 c env st) (fun env st => exes C φ φ2 a env st) ⟨⟩ ⟨⟩ n env st := by
  rw [exe]
  rfl
theorem whF_succ (test : DL.Env → Store → Res Bool) (turn : DL.Env → Store → Out) (s : Tag test) (t : Tag turn) (n : Nat) (env : DL.Env) (st : Store) : whF test turn s t (n + 1) env st = boF (fun b st1 => ifF (fun _ => sF (fun env' st' => whF test turn s t n env' st') ⟨⟩ (turn env st1)) (fun _ => .nx env st1) ⟨⟩ ⟨⟩ b) ⟨⟩ (test env st) := rfl
/-- a loop's turn -/
def frTurn (C : Cfg) (φ φ2 : Phi) (tg : DL.Tg) (a : SL) (v : RV) (env : DL.Env) (st : Store) : Out := ooF (fun env' => exes C φ φ2 a env' st) ⟨⟩ (assign tg v env)
@[simp] theorem S_for (tg : DL.Tg) (ik : Ik) (it : EL) (a : SL) : exe C φ φ2 (.for_ tg ik it a) env st = boF (fun vs st1 => ooF (fun src => sF (fun env2 st2 => .nx env2 (setLk st2 (lockOf ik vs st1) id)) ⟨⟩ (forS src (fun v env st => frTurn C φ φ2 tg a v env st) ⟨⟩ env (setLk st1 (lockOf ik vs st1) fun _ => true))) ⟨⟩ (srcOf st1 ik vs)) ⟨⟩ (denL C φ φ2 it env st) := by
  rw [exe]
  refine congrArg _ (funext fun vs => funext fun st1 => ?_)
  cases srcOf st1 ik vs with
  | none => rfl
  | some src =>
    refine congrArg (fun t => (forLoop src t src.size 0 env _).seq _) (funext fun v => funext fun env => funext fun st => ?_)
    unfold frTurn
    cases assign tg v env <;> rfl
@[simp] theorem S_rais (k : Nat) : exe C φ φ2 (.rais k) env st = .exc k st := by rw [exe]
@[simp] theorem S_nope : exe C φ φ2 .nope env st = .bad := by rw [exe]
@[simp] theorem S_pass : exe C φ φ2 .pass env st = .nx env st := by rw [exe]
@[simp] theorem S_prm (s : S) : exe C φ φ2 (.prm s) env st = exe C φ φ2 s (env.map fun o => o.map rvOld) (st.map cellOld) := by rw [exe]
@[simp] theorem S_spo (o : E) (e : EL) : exe C φ φ2 (.spo o e) env st = boF (fun v st1 => ifF (fun _ => boF (fun _ st2 => .nx (spoilEnv env) (spoilSt st2)) ⟨⟩ (denL C φ φ2 e env st1)) (fun _ => .bad) ⟨⟩ ⟨⟩ (spoOk v)) ⟨⟩ (den C φ φ2 o env st) := by
  rw [exe]
  rfl
@[simp] theorem S_spl (v i : Nat) : exe C φ φ2 (.spl v i) env st = splR v i env st env[v]? := by
  rw [exe]
  rfl
@[simp] theorem isStr_s (s x : Str) (g : Gn) : isStr s (.d g (.str x)) = decide (x = s) := Eq.trans rfl rfl
@[simp] theorem S_knd (w : Nat) (a b : E) (nm : Str) : exe C φ φ2 (.knd w a b nm) env st = boF (fun x st1 => ifF (fun _ => boF (fun y st2 => ifF (fun _ => .nx (env.set w none) st2) (fun _ => .rt (rvB false) st2) ⟨⟩ ⟨⟩ (isStr nm y)) ⟨⟩ (den C φ φ2 (.kind b) env st1)) (fun _ => .rt (rvB false) st1) ⟨⟩ ⟨⟩ (isStr nm x)) ⟨⟩ (den C φ φ2 (.kind a) env st) := by
  rw [exe]
  rfl
@[simp] theorem SL_nil : exes C φ φ2 .nil env st = .nx env st := by rw [exes]
@[simp] theorem SL_cons (s : S) (r : SL) : exes C φ φ2 (.cons s r) env st = sF (fun env' st' => exes C φ φ2 r env' st') ⟨⟩ (exe C φ φ2 s env st) := by
  rw [exes]
  rfl
end
/-- what a def gives back -/
def Out.res (n : Nat) : Out → Res RV
  | .rt v st => .ok v st
  | .rtt vs st => thaw n vs st
  | .nx _ st => .ok rvN st
  | .exc k st => .exc k st
  | .bad => .bad
@[simp] theorem res_rt (n : Nat) (v : RV) (st : Store) : (Out.rt v st).res n = .ok v st := Eq.trans rfl rfl
@[simp] theorem res_rtt (n : Nat) (vs : List RV) (st : Store) : (Out.rtt vs st).res n = thaw n vs st := Eq.trans rfl rfl
@[simp] theorem res_nx (n : Nat) (env : DL.Env) (st : Store) : (Out.nx env st).res n = .ok rvN st := Eq.trans rfl rfl
@[simp] theorem res_exc (n k : Nat) (st : Store) : (Out.exc k st).res n = .exc k st := Eq.trans rfl rfl
@[simp] theorem res_ite (n : Nat) (p : Prop) [Decidable p] (a b : Out) : (if p then a else b).res n = if p then a.res n else b.res n := by split <;> rfl
theorem run_eq {C : Cfg} {φ φ2 : Phi} {F : Fn} {args : List RV} {st : Store} (h : args.length = F.np) : runFn C φ φ2 F args st = (exes C φ φ2 F.body (args.map some ++ List.replicate (F.ns - F.np) none) st).res st.length := by
  unfold runFn
  rw [if_pos h]
  cases exes C φ φ2 F.body (args.map some ++ List.replicate (F.ns - F.np) none) st <;> rfl
theorem Ph_succ {C : Cfg} {prog : List Fn} {k f : Nat} {F : Fn} (hk : 1 ≤ k) (hF : prog[f]? = some F) : Ph C prog k f = runFn C (Ph C prog (k - 1)) (Ph C prog (k - 3)) F := by
  obtain ⟨k, rfl⟩ := Nat.exists_eq_add_of_le' hk
  have e3 : (lev C prog k).2.2 = Ph C prog (k - 2) := by
    match k with
    | 0 => rfl
    | 1 => rfl
    | k + 2 => rfl
  show (fun args st => match prog[f]? with
      | some F => runFn C (lev C prog k).1 (lev C prog k).2.2 F args st
      | none => .bad) = _
  rw [hF, e3]
  rfl

end DL

-- DVal
/-! DVal: what operators and built-ins give of values that are told; calls. -/
namespace DL
open PySem
section
variable {st : Store} {g g' : Gn}
@[simp] theorem rvI_eq (i : Int) : rvI i = .d .pur (.int i) := Eq.trans rfl rfl
@[simp] theorem rvB_eq (i : Bool) : rvB i = .d .pur (.bool i) := Eq.trans rfl rfl
@[simp] theorem rvS_eq (i : Str) : rvS i = .d .pur (.str i) := Eq.trans rfl rfl
@[simp] theorem rvN_eq : rvN = .d .pur .none := Eq.trans rfl rfl
/-! operators -/
@[simp] theorem add_ii (i j : Int) : binop st .add (.d g (.int i)) (.d g' (.int j)) = some (.d .pur (.int (i + j))) := Eq.trans rfl rfl
@[simp] theorem sub_ii (i j : Int) : binop st .sub (.d g (.int i)) (.d g' (.int j)) = some (.d .pur (.int (i - j))) := Eq.trans rfl rfl
@[simp] theorem mul_ii (i j : Int) : binop st .mul (.d g (.int i)) (.d g' (.int j)) = if (-(2 ^ 64) < j ∧ j < 2 ^ 64) ∨ (-(2 ^ 64) < i ∧ i < 2 ^ 64) then some (.d .pur (.int (i * j))) else none := by
  show Option.map rvI (if _ then _ else _) = _
  split <;> rfl
@[simp] theorem fdiv_ii (i j : Int) : binop st .fdiv (.d g (.int i)) (.d g' (.int j)) = if 0 < j ∧ j < 1073741824 then some (.d .pur (.int (i / j))) else none := by
  show Option.map rvI (if _ then _ else _) = _
  split <;> rfl
@[simp] theorem mod_ii (i j : Int) : binop st .mod (.d g (.int i)) (.d g' (.int j)) = if 0 < j then some (.d .pur (.int (i % j))) else none := by
  show Option.map rvI (if _ then _ else _) = _
  split <;> rfl
@[simp] theorem pow_ii (i j : Int) : binop st .pow (.d g (.int i)) (.d g' (.int j)) = if 0 ≤ j ∧ j ≤ 1000 ∧ -(2 ^ 62) < i ∧ i < 2 ^ 62 then some (.d .pur (.int (i ^ j.toNat))) else none := by
  show Option.map rvI (if _ then _ else _) = _
  split <;> rfl
@[simp] theorem add_tt (xs ys : List PyData) : binop st .add (.d g (.tuple xs)) (.d g' (.tuple ys)) = if xs.length + ys.length ≤ lim then some (.d (g.join g') (.tuple (xs ++ ys))) else none := Eq.trans rfl rfl
@[simp] theorem add_ss (x y : Str) : binop st .add (.d g (.str x)) (.d g' (.str y)) = if x.length + y.length ≤ lim then some (.d .pur (.str (x ++ y))) else none := Eq.trans rfl rfl
@[simp] theorem add_ll (xs ys : List PyData) : binop st .add (.d g (.list xs)) (.d g' (.list ys)) = if (g ≠ .scr ∧ g' ≠ .scr) ∧ xs.length + ys.length ≤ lim then mkLst (xs.map (el g) ++ ys.map (el g')) else none := by
  show catL st (.d g (.list xs)) (.d g' (.list ys)) = _
  show (match decide (g ≠ .scr) && decide (g' ≠ .scr), some (xs.map (el g)), some (ys.map (el g')) with
    | true, some xs, some ys => if xs.length + ys.length ≤ lim then mkLst (xs ++ ys) else none
    | _, _, _ => none) = _
  by_cases h1 : g = .scr <;> by_cases h2 : g' = .scr <;> simp [h1, h2]
@[simp] theorem lt_ii (i j : Int) : cmpop st .lt (.d g (.int i)) (.d g' (.int j)) = some (decide (i < j)) := Eq.trans rfl rfl
@[simp] theorem le_ii (i j : Int) : cmpop st .le (.d g (.int i)) (.d g' (.int j)) = some (decide (i ≤ j)) := Eq.trans rfl rfl
@[simp] theorem gt_ii (i j : Int) : cmpop st .gt (.d g (.int i)) (.d g' (.int j)) = some (decide (j < i)) := Eq.trans rfl rfl
@[simp] theorem ge_ii (i j : Int) : cmpop st .ge (.d g (.int i)) (.d g' (.int j)) = some (decide (j ≤ i)) := Eq.trans rfl rfl
@[simp] theorem ne_eq' (a b : RV) : cmpop st .ne a b = (cmpop st .eq a b).map (!·) := Eq.trans rfl rfl
@[simp] theorem nin_in (a b : RV) : cmpop st .nin a b = (cmpop st .isin a b).map (!·) := Eq.trans rfl rfl
@[simp] theorem depth_int (i : Int) : (PyData.int i).depth = 0 := by rw [PyData.depth]
@[simp] theorem depth_bool (i : Bool) : (PyData.bool i).depth = 0 := by rw [PyData.depth]
@[simp] theorem depth_none : (PyData.none).depth = 0 := by rw [PyData.depth]
@[simp] theorem depth_str (i : Str) : (PyData.str i).depth = 0 := by rw [PyData.depth]
theorem eq_dd (x y : PyData) : cmpop st .eq (.d g x) (.d g' y) = if min x.depth y.depth ≤ 60 then some (PyData.eqv x y) else none := rfl
theorem eq_dl {x y : PyData} (h : x.depth ≤ 60) : cmpop st .eq (.d g x) (.d g' y) = some (PyData.eqv x y) := by
  rw [eq_dd, if_pos (by omega)]
theorem eq_dr {x y : PyData} (h : y.depth ≤ 60) : cmpop st .eq (.d g x) (.d g' y) = some (PyData.eqv x y) := by
  rw [eq_dd, if_pos (by omega)]
@[simp] theorem eq_ii (i j : Int) : cmpop st .eq (.d g (.int i)) (.d g' (.int j)) = some (decide (i = j)) := by
  rw [eq_dl (by simp)]
  unfold PyData.eqv
  congr 1
@[simp] theorem eq_bb (i j : Bool) : cmpop st .eq (.d g (.bool i)) (.d g' (.bool j)) = some (decide (i = j)) := by
  rw [eq_dl (by simp)]
  unfold PyData.eqv
  congr 1
@[simp] theorem eq_ss (i j : Str) : cmpop st .eq (.d g (.str i)) (.d g' (.str j)) = some (decide (i = j)) := by
  rw [eq_dl (by simp)]
  unfold PyData.eqv
  congr 1
@[simp] theorem eq_x0 (x : PyData) : cmpop st .eq (.d g x) (.d g' (.tuple [])) = some (PyData.eqv x (.tuple [])) := eq_dr (by simp [PyData.depth, PyData.depthAll])
@[simp] theorem eq_xL (x : PyData) : cmpop st .eq (.d g x) (.d g' (.list [])) = some (PyData.eqv x (.list [])) := eq_dr (by simp [PyData.depth, PyData.depthAll])
@[simp] theorem eqv_list_nil (xs : List PyData) : PyData.eqv (.list xs) (.list []) = decide (xs = []) := by
  cases xs <;> simp [PyData.eqv, PyData.eqvAll]
@[simp] theorem eqv_tup_nil (xs : List PyData) : PyData.eqv (.tuple xs) (.tuple []) = decide (xs = []) := by
  cases xs <;> simp [PyData.eqv, PyData.eqvAll]
@[simp] theorem is_none (x : PyData) : cmpop st .is (.d g x) (.d g' .none) = some (isNone x) := by
  show isSame x .none = _
  cases x <;> rfl
@[simp] theorem isnt_none (x : PyData) : cmpop st .isnt (.d g x) (.d g' .none) = some (!isNone x) := by
  show (isSame x .none).map _ = _
  cases x <;> rfl
@[simp] theorem isNone_n : isNone .none = true := Eq.trans rfl rfl
@[simp] theorem isNone_i (i : Int) : isNone (.int i) = false := Eq.trans rfl rfl
@[simp] theorem isNone_b (i : Bool) : isNone (.bool i) = false := Eq.trans rfl rfl
@[simp] theorem isNone_s (i : Str) : isNone (.str i) = false := Eq.trans rfl rfl
@[simp] theorem isNone_l (i : List PyData) : isNone (.list i) = false := Eq.trans rfl rfl
@[simp] theorem isNone_t (i : List PyData) : isNone (.tuple i) = false := Eq.trans rfl rfl
/-- that cell == y -/
def eqCell (y : PyData) : Cell → Option Bool
  | .lst xs => (datas? xs).bind fun ds => if min (PyData.list ds).depth y.depth ≤ 60 then some (PyData.eqv (.list ds) y) else none
  | _ => none
@[simp] theorem eq_cell (n : Nat) (y : PyData) : cmpop st .eq (.c n) (.d g y) = st[n]?.bind (eqCell y) := by
  show (match snap? st (.c n), some y with
    | some x, some y => _
    | _, _ => none) = _
  unfold snap?
  simp only []
  rcases st[n]? with _ | xs | _ | _ | _ | _ <;> try rfl
  simp only [Option.bind_some, eqCell]
  cases datas? xs <;> rfl
@[simp] theorem eqCell_nil (xs : List RV) : eqCell (.list []) (.lst xs) = (datas? xs).map fun ds => decide (ds = []) := by
  show ((datas? xs).bind fun ds => if min (PyData.list ds).depth (PyData.list []).depth ≤ 60 then some (PyData.eqv (.list ds) (.list [])) else none) = _
  cases datas? xs with
  | none => rfl
  | some ds => simp [PyData.depth, PyData.depthAll]
@[simp] theorem in_eq (a b : RV) : cmpop st .isin a b = isIn st a b := Eq.trans rfl rfl
@[simp] theorem in_list (x : PyData) (ds : List PyData) : isIn st (.d g x) (.d g' (.list ds)) = memD x ds := Eq.trans rfl rfl
@[simp] theorem in_tup (x : PyData) (ds : List PyData) : isIn st (.d g x) (.d g' (.tuple ds)) = memD x ds := Eq.trans rfl rfl
/-- x in that cell -/
def inCell (x : PyData) : Cell → Option Bool
  | .dic _ kvs => if keyOk x = true then some (dget kvs x).isSome else none
  | .lst xs => (datas? xs).bind (memD x)
  | _ => none
@[simp] theorem in_cell (x : PyData) (n : Nat) : isIn st (.d g x) (.c n) = st[n]?.bind (inCell x) := by
  show (match st[n]? with
    | some (.dic _ kvs) => _
    | some (.lst xs) => _
    | _ => none) = _
  rcases st[n]? with _ | _ | _ | _ | _ | _ <;> rfl
/-! flags -/
@[simp] theorem join_p (g : Gn) : Gn.join .pur g = g := by cases g <;> rfl
@[simp] theorem join_q (g : Gn) : Gn.join g .pur = g := by cases g <;> rfl
@[simp] theorem join_s (g : Gn) : Gn.join g g = g := by cases g <;> rfl
@[simp] theorem down_p : Gn.down .pur = .pur := Eq.trans rfl rfl
@[simp] theorem up_p : Gn.up .pur = .pur := Eq.trans rfl rfl
@[simp] theorem up_n : Gn.up .new = .new := Eq.trans rfl rfl
@[simp] theorem gnOf_nil : gnOf [] = .pur := Eq.trans rfl rfl
@[simp] theorem gnOf_d (g : Gn) (x : PyData) (r : List RV) : gnOf (.d g x :: r) = g.join (gnOf r) := Eq.trans rfl rfl
@[simp] theorem datas_nil : datas? [] = some [] := Eq.trans rfl rfl
@[simp] theorem datas_d (g : Gn) (x : PyData) (r : List RV) : datas? (.d g x :: r) = (datas? r).map (x :: ·) := Eq.trans rfl rfl
@[simp] theorem noL_int (i : Int) : noL (.int i) = true := Eq.trans rfl rfl
@[simp] theorem noL_bool (i : Bool) : noL (.bool i) = true := Eq.trans rfl rfl
@[simp] theorem noL_str (i : Str) : noL (.str i) = true := Eq.trans rfl rfl
@[simp] theorem noL_none : noL .none = true := Eq.trans rfl rfl
@[simp] theorem noL_list (xs : List PyData) : noL (.list xs) = false := Eq.trans rfl rfl
@[simp] theorem noL_tup (xs : List PyData) : noL (.tuple xs) = noLs xs := by rw [noL]
@[simp] theorem noLs_nil : noLs [] = true := Eq.trans rfl rfl
@[simp] theorem noLs_cons (x : PyData) (xs : List PyData) : noLs (x :: xs) = (noL x && noLs xs) := by rw [noLs]
@[simp] theorem el_int (i : Int) : el g (.int i) = .d .pur (.int i) := Eq.trans rfl rfl
@[simp] theorem el_str (i : Str) : el g (.str i) = .d .pur (.str i) := Eq.trans rfl rfl
@[simp] theorem el_none : el g .none = .d .pur .none := Eq.trans rfl rfl
@[simp] theorem el_bool (i : Bool) : el g (.bool i) = .d .pur (.bool i) := Eq.trans rfl rfl
theorem el_no {x : PyData} (h : noL x = true) : el g x = .d .pur x := by unfold el; rw [if_pos h]
@[simp] theorem el_list (xs : List PyData) : el g (.list xs) = .d g (.list xs) := Eq.trans rfl rfl
@[simp] theorem el_tup (xs : List PyData) : el g (.tuple xs) = .d (if noLs xs = true then .pur else g) (.tuple xs) := by unfold el; rw [noL]
theorem lstG_no {xs : List PyData} (h : noLs xs = true) : lstG g xs = .new := by unfold lstG; rw [if_pos h]
@[simp] theorem lstG_nil : lstG g [] = .new := Eq.trans rfl rfl
@[simp] theorem lstG_cons (x : PyData) (xs : List PyData) : lstG g (x :: xs) = if (noL x && noLs xs) = true then .new else g.newL := by unfold lstG; rw [noLs]
@[simp] theorem mkTup_eq (xs : List RV) : mkTup xs = (datas? xs).map fun ds => el (gnOf xs) (.tuple ds) := Eq.trans rfl rfl
@[simp] theorem mkLst_eq (xs : List RV) : mkLst xs = (datas? xs).map fun ds => .d (lstG (gnOf xs) ds) (.list ds) := Eq.trans rfl rfl
/-! subscripts -/
@[simp] theorem sub_l (xs : List PyData) (k : Int) : subscr st (.d g (.list xs)) (.d g' (.int k)) = (L2.atI xs k).map (el g) := Eq.trans rfl rfl
@[simp] theorem sub_t (xs : List PyData) (k : Int) : subscr st (.d g (.tuple xs)) (.d g' (.int k)) = (L2.atI xs k).map (el g) := Eq.trans rfl rfl
def subCell (x : PyData) : Cell → Option RV
  | .lst xs => match x with
    | .int k => L2.atI xs k
    | _ => none
  | .dic _ kvs => if keyOk x = true then dget kvs x else none
  | .sd kvs => match x with
    | .str s => kvs.lookup s
    | _ => none
  | _ => none
@[simp] theorem sub_cell (x : PyData) (n : Nat) : subscr st (.c n) (.d g x) = st[n]?.bind (subCell x) := by
  show (match st[n]?, x with
    | some (.lst xs), .int k => L2.atI xs k
    | some (.dic _ kvs), x => if keyOk x = true then dget kvs x else none
    | some (.sd kvs), .str s => kvs.lookup s
    | _, _ => none) = _
  rcases st[n]? with _ | _ | _ | _ | _ | _ <;> cases x <;> rfl
@[simp] theorem subCell_l (xs : List RV) (k : Int) : subCell (.int k) (.lst xs) = L2.atI xs k := Eq.trans rfl rfl
@[simp] theorem subCell_sd (kvs : List (Str × RV)) (s : Str) : subCell (.str s) (.sd kvs) = kvs.lookup s := Eq.trans rfl rfl
@[simp] theorem lk_ne {a a' : Str} (v : RV) (r : List (Str × RV)) (h : ¬ a = a') : List.lookup a ((a', v) :: r) = List.lookup a r := by
  rw [List.lookup_cons]
  have : (a == a') = false := by simpa using h
  rw [this]
@[simp] theorem cut_1n {α : Type} (x : α) (xs : List α) : cut (x :: xs) (some 1) none = xs := by
  unfold cut
  have e : HT.sIx (x :: xs).length 0 (some 1) = 1 := by
    show (if (1 : Int) < 0 then ((1 : Int) + ((x :: xs).length : Int)).toNat else min (1 : Int).toNat (x :: xs).length) = 1
    rw [if_neg (by omega)]
    simp
  rw [e, HT.sIx_none]
  simp
theorem atI_nn {α : Type} {xs : List α} {i : Int} (h : 0 ≤ i) : L2.atI xs i = xs[i.toNat]? := by
  unfold L2.atI L2.ixN
  rw [if_pos h]
  split
  · rfl
  · rename_i q
    rw [List.getElem?_eq_none (by omega)]
    rfl
@[simp] theorem atI_0 {α : Type} (x : α) (xs : List α) : L2.atI (x :: xs) 0 = some x := by rw [atI_nn (by omega)]; rfl
@[simp] theorem atI_1 {α : Type} (x y : α) (xs : List α) : L2.atI (x :: y :: xs) 1 = some y := by rw [atI_nn (by omega)]; rfl
@[simp] theorem atI_2 {α : Type} (x y z : α) (xs : List α) : L2.atI (x :: y :: z :: xs) 2 = some z := by rw [atI_nn (by omega)]; rfl
@[simp] theorem atI_3 {α : Type} (x y z a : α) (xs : List α) : L2.atI (x :: y :: z :: a :: xs) 3 = some a := by rw [atI_nn (by omega)]; rfl
@[simp] theorem slice_t (xs : List PyData) (lo hi : Option Int) : slice st (.d g (.tuple xs)) lo hi = some (.d g (.tuple (cut xs lo hi))) := Eq.trans rfl rfl
@[simp] theorem slice_l (xs : List PyData) (lo hi : Option Int) : slice st (.d g (.list xs)) lo hi = some (.d (lstG g (cut xs lo hi)) (.list (cut xs lo hi))) := Eq.trans rfl rfl
/-! kinds -/
@[simp] theorem isTy_d (x : PyData) (t : Ty) : isTy st (.d g x) t = some (isTyD t x) := Eq.trans rfl rfl
@[simp] theorem ty_tt (xs : List PyData) : isTyD .tuple (.tuple xs) = true := Eq.trans rfl rfl
@[simp] theorem ty_tl (xs : List PyData) : isTyD .tuple (.list xs) = false := Eq.trans rfl rfl
@[simp] theorem ty_ti (i : Int) : isTyD .tuple (.int i) = false := Eq.trans rfl rfl
@[simp] theorem ty_ts (i : Str) : isTyD .tuple (.str i) = false := Eq.trans rfl rfl
@[simp] theorem ty_tb (i : Bool) : isTyD .tuple (.bool i) = false := Eq.trans rfl rfl
@[simp] theorem ty_tn : isTyD .tuple .none = false := Eq.trans rfl rfl
@[simp] theorem ty_lt (xs : List PyData) : isTyD .list (.tuple xs) = false := Eq.trans rfl rfl
@[simp] theorem ty_ll (xs : List PyData) : isTyD .list (.list xs) = true := Eq.trans rfl rfl
@[simp] theorem ty_li (i : Int) : isTyD .list (.int i) = false := Eq.trans rfl rfl
@[simp] theorem ty_ls (i : Str) : isTyD .list (.str i) = false := Eq.trans rfl rfl
@[simp] theorem ty_lb (i : Bool) : isTyD .list (.bool i) = false := Eq.trans rfl rfl
@[simp] theorem ty_ln : isTyD .list .none = false := Eq.trans rfl rfl
@[simp] theorem ty_ii (i : Int) : isTyD .int (.int i) = true := Eq.trans rfl rfl
@[simp] theorem ty_it (xs : List PyData) : isTyD .int (.tuple xs) = false := Eq.trans rfl rfl
@[simp] theorem ty_il (xs : List PyData) : isTyD .int (.list xs) = false := Eq.trans rfl rfl
@[simp] theorem ty_ist (i : Str) : isTyD .int (.str i) = false := Eq.trans rfl rfl
@[simp] theorem ty_ib (i : Bool) : isTyD .int (.bool i) = true := Eq.trans rfl rfl
@[simp] theorem ty_in : isTyD .int .none = false := Eq.trans rfl rfl
@[simp] theorem ty_bi (i : Int) : isTyD .bool (.int i) = false := Eq.trans rfl rfl
@[simp] theorem ty_bt (xs : List PyData) : isTyD .bool (.tuple xs) = false := Eq.trans rfl rfl
@[simp] theorem ty_bl (xs : List PyData) : isTyD .bool (.list xs) = false := Eq.trans rfl rfl
@[simp] theorem ty_bs (i : Str) : isTyD .bool (.str i) = false := Eq.trans rfl rfl
@[simp] theorem ty_bb (i : Bool) : isTyD .bool (.bool i) = true := Eq.trans rfl rfl
@[simp] theorem ty_bn : isTyD .bool .none = false := Eq.trans rfl rfl
@[simp] theorem ty_si (i : Int) : isTyD .str (.int i) = false := Eq.trans rfl rfl
@[simp] theorem ty_st (xs : List PyData) : isTyD .str (.tuple xs) = false := Eq.trans rfl rfl
@[simp] theorem ty_sl (xs : List PyData) : isTyD .str (.list xs) = false := Eq.trans rfl rfl
@[simp] theorem ty_ss (i : Str) : isTyD .str (.str i) = true := Eq.trans rfl rfl
@[simp] theorem ty_sb (i : Bool) : isTyD .str (.bool i) = false := Eq.trans rfl rfl
@[simp] theorem ty_sn : isTyD .str .none = false := Eq.trans rfl rfl
@[simp] theorem opt_pure {α : Type} (a : α) : (pure a : Option α) = some a := Eq.trans rfl rfl
@[simp] theorem opt_bind {α β : Type} (o : Option α) (f : α → Option β) : (o >>= f) = o.bind f := Eq.trans rfl rfl
/-! built-ins -/
@[simp] theorem len_l (xs : List PyData) : bLen st [.d g (.list xs)] = some (.d .pur (.int xs.length)) := Eq.trans rfl rfl
@[simp] theorem len_t (xs : List PyData) : bLen st [.d g (.tuple xs)] = some (.d .pur (.int xs.length)) := Eq.trans rfl rfl
def lenCell : Cell → Option RV
  | .lst xs => some (rvI xs.length)
  | .dic _ kvs => some (rvI kvs.length)
  | _ => none
@[simp] theorem len_c (n : Nat) : bLen st [.c n] = st[n]?.bind lenCell := by
  show (match st[n]? with
    | some (.lst xs) => _
    | some (.dic _ kvs) => _
    | _ => none) = _
  rcases st[n]? with _ | _ | _ | _ | _ | _ <;> rfl
@[simp] theorem lenCell_l (xs : List RV) : lenCell (.lst xs) = some (.d .pur (.int xs.length)) := Eq.trans rfl rfl
@[simp] theorem lenCell_d (b : Bool) (xs : List (PyData × RV)) : lenCell (.dic b xs) = some (.d .pur (.int xs.length)) := Eq.trans rfl rfl
@[simp] theorem abs_i (i : Int) : bAbs [.d g (.int i)] = some (.d .pur (.int (if i < 0 then -i else i))) := Eq.trans rfl rfl
@[simp] theorem dvm_ii (i j : Int) : bDvm [.d g (.int i), .d g' (.int j)] = if 0 < j ∧ j < 1073741824 then some (.d .pur (.tuple [.int (i / j), .int (i % j)])) else none := Eq.trans rfl rfl
@[simp] theorem max2_ii (i j : Int) : bMax2 [.d g (.int i), .d g' (.int j)] = some (.d .pur (.int (if j > i then j else i))) := Eq.trans rfl rfl
@[simp] theorem min2_ii (i j : Int) : bMin2 [.d g (.int i), .d g' (.int j)] = some (.d .pur (.int (if j < i then j else i))) := Eq.trans rfl rfl
@[simp] theorem int_b (b : Bool) : bInt [.d g (.bool b)] = some (.d .pur (.int (if b = true then 1 else 0))) := Eq.trans rfl rfl
@[simp] theorem int_i (b : Int) : bInt [.d g (.int b)] = some (.d .pur (.int b)) := Eq.trans rfl rfl
@[simp] theorem list_eq (a : RV) : bList st [a] = (seqOf st a).map fun p => .d (lstG p.1 p.2) (.list p.2) := Eq.trans rfl rfl
@[simp] theorem sorted_eq (a : RV) : bSorted st [a] = (seqOf st a).bind fun p => if sortable p.2 = true then some (.d (lstG p.1 (sortD p.2)) (.list (sortD p.2))) else none := Eq.trans rfl rfl
@[simp] theorem tup_t (xs : List PyData) : bTup st [.d g (.tuple xs)] = some (.d g (.tuple xs)) := Eq.trans rfl rfl
@[simp] theorem tup_l (xs : List PyData) : bTup st [.d g (.list xs)] = some (el g (.tuple xs)) := Eq.trans rfl rfl
def tupCell : Cell → Option RV
  | .lst xs => (datas? xs).map fun ds => el (gnOf xs) (.tuple ds)
  | _ => none
@[simp] theorem tup_c (n : Nat) : bTup st [.c n] = st[n]?.bind tupCell := by
  show (match st[n]? with
    | some (.lst xs) => _
    | _ => none) = _
  rcases st[n]? with _ | _ | _ | _ | _ | _ <;> rfl
@[simp] theorem tupCell_l (xs : List RV) : tupCell (.lst xs) = (datas? xs).map fun ds => el (gnOf xs) (.tuple ds) := Eq.trans rfl rfl
@[simp] theorem seq_l (xs : List PyData) : seqOf st (.d g (.list xs)) = some (g, xs) := Eq.trans rfl rfl
@[simp] theorem seq_t (xs : List PyData) : seqOf st (.d g (.tuple xs)) = some (g, xs) := Eq.trans rfl rfl
def seqCell : Cell → Option (Gn × List PyData)
  | .lst xs => (datas? xs).map fun ds => (gnOf xs, ds)
  | .dic _ kvs => some (.pur, keysOf kvs)
  | _ => none
@[simp] theorem seq_c (n : Nat) : seqOf st (.c n) = st[n]?.bind seqCell := by
  unfold seqOf keys? flat
  simp only []
  rcases st[n]? with _ | _ | _ | _ | _ | _ <;> rfl
@[simp] theorem seqCell_d (b : Bool) (kvs : List (PyData × RV)) : seqCell (.dic b kvs) = some (.pur, keysOf kvs) := Eq.trans rfl rfl
@[simp] theorem seqCell_l (xs : List RV) : seqCell (.lst xs) = (datas? xs).map fun ds => (gnOf xs, ds) := Eq.trans rfl rfl
@[simp] theorem flat_l (xs : List PyData) : flat st (.d g (.list xs)) = some (g, xs) := Eq.trans rfl rfl
@[simp] theorem flat_t (xs : List PyData) : flat st (.d g (.tuple xs)) = some (g, xs) := Eq.trans rfl rfl
def flatCell : Cell → Option (Gn × List PyData)
  | .lst xs => (datas? xs).map fun ds => (gnOf xs, ds)
  | _ => none
@[simp] theorem flat_c (n : Nat) : flat st (.c n) = st[n]?.bind flatCell := by
  unfold flat
  simp only []
  rcases st[n]? with _ | _ | _ | _ | _ | _ <;> rfl
@[simp] theorem sortset_eq (a : RV) : bSortset st [a] = (flat st a).bind fun p => (p.2.mapM intTup).bind fun ks => if cellsOk ks = true then some (.d .new (.list ((sortC ks).map tupI))) else none := Eq.trans rfl rfl
@[simp] theorem sortsi_eq (xs : List PyData) : bSortsi [.d g (.tuple xs)] = (xs.mapM intOf).bind fun ns => if ns.length < 64 then some (.d .new (.list ((sortZ ns).map .int))) else none := Eq.trans rfl rfl
@[simp] theorem trng_eq (j : Int) : bTrng [.d g (.int j)] = if j < 1000000 ∧ -1000000 < j then some (.d .pur (.tuple ((List.range j.toNat).map fun (i : Nat) => .int i))) else none := Eq.trans rfl rfl
@[simp] theorem revT_eq (xs : List PyData) : bRev [.d g (.tuple xs)] = some (.d g (.tuple xs.reverse)) := Eq.trans rfl rfl
@[simp] theorem revL_eq (xs : List PyData) : bRev [.d g (.list xs)] = some (.d (lstG g xs.reverse) (.list xs.reverse)) := Eq.trans rfl rfl
@[simp] theorem pick_eq (f : PyData → List PyData → PyData) (a : RV) : bPick f st [a] = (flat st a).bind fun p => pick f p.1 p.2 none := Eq.trans rfl rfl
@[simp] theorem pickD_eq (f : PyData → List PyData → PyData) (a dv : RV) : bPickD f st [a, dv] = (flat st a).bind fun p => pick f p.1 p.2 (some dv) := Eq.trans rfl rfl
@[simp] theorem sum_eq (xs : List PyData) : bSum [.d g (.list xs)] = (xs.mapM intOf).map fun is => .d .pur (.int is.sum) := Eq.trans rfl rfl
@[simp] theorem bDict_eq (v : RV) : bDict [v] = mkDic v := Eq.trans rfl rfl
@[simp] theorem mList_eq (v : RV) : mList st [v] = items? st v := Eq.trans rfl rfl
@[simp] theorem items_l (xs : List PyData) : items? st (.d g (.list xs)) = some (xs.map (el g)) := Eq.trans rfl rfl
@[simp] theorem items_t (xs : List PyData) : items? st (.d g (.tuple xs)) = some (xs.map (el g)) := Eq.trans rfl rfl
/-! sources -/
@[simp] theorem src_l (xs : List PyData) : srcOf st .val [.d g (.list xs)] = some (.items (xs.map (el g))) := Eq.trans rfl rfl
@[simp] theorem src_t (xs : List PyData) : srcOf st .val [.d g (.tuple xs)] = some (.items (xs.map (el g))) := Eq.trans rfl rfl
def srcCell (n : Nat) : Cell → Option Src
  | .lst xs => some (.cell n xs.length)
  | .dic _ kvs => some (.items (kvs.map fun p => .d .pur p.1))
  | _ => none
@[simp] theorem src_c (n : Nat) : srcOf st .val [.c n] = st[n]?.bind (srcCell n) := by
  show sVal st [.c n] = _
  unfold sVal
  simp only []
  rcases st[n]? with _ | _ | _ | _ | _ | _ <;> rfl
@[simp] theorem srcCell_d (n : Nat) (b : Bool) (kvs : List (PyData × RV)) : srcCell n (.dic b kvs) = some (.items (kvs.map fun p => .d .pur p.1)) := Eq.trans rfl rfl
@[simp] theorem srcCell_l (n : Nat) (xs : List RV) : srcCell n (.lst xs) = some (.cell n xs.length) := Eq.trans rfl rfl
@[simp] theorem src_r1 (j : Int) : srcOf st .rng [.d g (.int j)] = if j < 1000000 ∧ -1000000 < j then some (.items (rngRV 0 j.toNat)) else none := Eq.trans rfl rfl
@[simp] theorem src_r2 (i j : Int) : srcOf st .rng [.d g (.int i), .d g' (.int j)] = if j < 1000000 ∧ -1000000 < j ∧ i < 1000000 ∧ -1000000 < i then some (.items (rngRV i (j - i).toNat)) else none := Eq.trans rfl rfl
theorem rngRV_succ (lo : Int) (n : Nat) : rngRV lo (n + 1) = .d .pur (.int lo) :: rngRV (lo + 1) n := by
  unfold rngRV
  rw [List.range_succ_eq_map, List.map_cons, List.map_map]
  refine List.cons_eq_cons.mpr ⟨by simp, List.map_congr_left fun i _ => ?_⟩
  simp only [Function.comp_def, rvI_eq]
  congr 2
  push_cast
  omega
@[simp] theorem rngRV_0 (lo : Int) : rngRV lo 0 = [] := Eq.trans rfl rfl
@[simp] theorem rngRV_1 (lo : Int) : rngRV lo 1 = [.d .pur (.int lo)] := by rw [rngRV_succ, rngRV_0]
@[simp] theorem rngRV_2 : rngRV 0 2 = [.d .pur (.int 0), .d .pur (.int 1)] := by simp only [rngRV_succ, rngRV_0]; rfl
@[simp] theorem rngRV_3 : rngRV 0 3 = [.d .pur (.int 0), .d .pur (.int 1), .d .pur (.int 2)] := by simp only [rngRV_succ, rngRV_0]; rfl
@[simp] theorem rngRV_4 : rngRV 0 4 = [.d .pur (.int 0), .d .pur (.int 1), .d .pur (.int 2), .d .pur (.int 3)] := by simp only [rngRV_succ, rngRV_0]; rfl
@[simp] theorem rngRV_5 : rngRV 0 5 = [.d .pur (.int 0), .d .pur (.int 1), .d .pur (.int 2), .d .pur (.int 3), .d .pur (.int 4)] := by simp only [rngRV_succ, rngRV_0]; rfl
/-! locks -/
def lkCell (n : Nat) : Cell → Option (Nat × Bool)
  | .dic lk _ => some (n, lk)
  | _ => none
@[simp] theorem lock_c (n : Nat) : lockOf .val [.c n] st = st[n]?.bind (lkCell n) := by
  show (match st[n]? with
    | some (.dic lk _) => _
    | _ => none) = _
  rcases st[n]? with _ | _ | _ | _ | _ | _ <;> rfl
@[simp] theorem lkCell_d (n : Nat) (b : Bool) (kvs : List (PyData × RV)) : lkCell n (.dic b kvs) = some (n, b) := Eq.trans rfl rfl
@[simp] theorem lkCell_l (n : Nat) (xs : List RV) : lkCell n (.lst xs) = none := Eq.trans rfl rfl
@[simp] theorem lock_d (x : PyData) : lockOf .val [.d g x] st = none := Eq.trans rfl rfl
@[simp] theorem lock_r (vs : List RV) : lockOf .rng vs st = none := Eq.trans rfl rfl
@[simp] theorem lock_e (vs : List RV) : lockOf .enum vs st = none := Eq.trans rfl rfl
@[simp] theorem lock_z (vs : List RV) : lockOf .zip vs st = none := Eq.trans rfl rfl
@[simp] theorem setLk_no (f : Bool → Bool) : setLk st none f = st := Eq.trans rfl rfl
def setLkC (st : Store) (n : Nat) (b : Bool) : Option Cell → Store
  | some (.dic _ kvs) => st.set n (.dic b kvs)
  | _ => st
@[simp] theorem setLk_some (n : Nat) (b : Bool) (f : Bool → Bool) : setLk st (some (n, b)) f = setLkC st n (f b) st[n]? := by
  unfold setLk
  simp only []
  rcases st[n]? with _ | _ | _ | _ | _ | _ <;> rfl
@[simp] theorem setLkC_d (n : Nat) (b b' : Bool) (kvs : List (PyData × RV)) : setLkC st n b (some (.dic b' kvs)) = st.set n (.dic b kvs) := Eq.trans rfl rfl
/-! targets -/
@[simp] theorem asg_nm (i : Nat) (v : RV) (env : DL.Env) : assign (.nm i) v env = some (env.set i (some v)) := Eq.trans rfl rfl
@[simp] theorem asg_tpl (is : List Nat) (xs : List PyData) (env : DL.Env) : assign (.tp is) (.d g (.tuple xs)) env = setAll is xs g env := Eq.trans rfl rfl
@[simp] theorem asg_pr (i : Nat) (is : List Nat) (x : PyData) (ys : List PyData) (env : DL.Env) : assign (.pr i is) (.d g (.tuple [x, .tuple ys])) env = setAll is ys g (env.set i (some (el g x))) := Eq.trans rfl rfl
@[simp] theorem setAll_nil (env : DL.Env) : setAll [] [] g env = some env := Eq.trans rfl rfl
@[simp] theorem setAll_cons (i : Nat) (is : List Nat) (x : PyData) (xs : List PyData) (env : DL.Env) : setAll (i :: is) (x :: xs) g env = setAll is xs g (env.set i (some (el g x))) := Eq.trans rfl rfl
@[simp] theorem wipeE_nil (env : DL.Env) : wipeE env [] = env := Eq.trans rfl rfl
@[simp] theorem wipeE_cons (env : DL.Env) (v : Nat) (vs : List Nat) : wipeE env (v :: vs) = (wipeE env vs).set v none := Eq.trans rfl rfl
/-! methods -/
def mokCell (m : Mth) : Cell → Bool
  | .lst _ => match m with
    | .append => true
    | .extend => true
    | .pop => true
    | .popAt => true
    | .reverse => true
    | _ => false
  | .dic _ _ => match m with
    | .get1 => true
    | .get2 => true
    | _ => false
  | _ => false
@[simp] theorem mok_c (m : Mth) (n : Nat) : mOk st m (.c n) = (st[n]?.map (mokCell m)).getD false := by
  cases m <;> simp only [mOk, isDic, isLst] <;> rcases st[n]? with _ | _ | _ | _ | _ | _ <;> rfl
@[simp] theorem mok_lst (m : Mth) (xs : List RV) : mokCell m (.lst xs) = (match m with | .append => true | .extend => true | .pop => true | .popAt => true | .reverse => true | _ => false) := by cases m <;> rfl
@[simp] theorem mok_dic (m : Mth) (b : Bool) (xs : List (PyData × RV)) : mokCell m (.dic b xs) = (match m with | .get1 => true | .get2 => true | _ => false) := by cases m <;> rfl
@[simp] theorem mok_s (m : Mth) (s : Str) : mOk st m (.d g (.str s)) = (match m with | .join => true | .split => true | _ => false) := by cases m <;> rfl
@[simp] theorem mth_s (m : Mth) (s : Str) (xs : List RV) : mthd st m (.d g (.str s)) xs = mStr st s m xs := Eq.trans rfl rfl
@[simp] theorem m_join (s : Str) (a : RV) : mStr st s .join [a] = (flat st a).bind fun p => (p.2.mapM strOf).bind fun ys => if (ys.map (·.length)).sum + ys.length * s.length ≤ lim then some (.d .pur (.str (Txt.join s ys)), st) else none := Eq.trans rfl rfl
@[simp] theorem m_split (s b : Str) : mStr st s .split [.d g (.str b)] = if (b.length == 0) = false ∧ s.length + 2 ≤ lim ∧ (Txt.split s b).all PyData.strOk = true then some (.d .new (.list ((Txt.split s b).map .str)), st) else none := Eq.trans rfl rfl
def mCell (st : Store) (n : Nat) (m : Mth) (xs : List RV) : Cell → Option (RV × Store)
  | .lst ys => mLst st n ys m xs
  | .dic _ kvs => mDic st kvs m xs
  | _ => none
@[simp] theorem mth_c (m : Mth) (n : Nat) (xs : List RV) : mthd st m (.c n) xs = st[n]?.bind (mCell st n m xs) := by
  unfold mthd
  simp only []
  rcases st[n]? with _ | _ | _ | _ | _ | _ <;> rfl
@[simp] theorem mCell_l (n : Nat) (m : Mth) (xs ys : List RV) : mCell st n m xs (.lst ys) = mLst st n ys m xs := Eq.trans rfl rfl
@[simp] theorem mCell_d (n : Nat) (m : Mth) (xs : List RV) (b : Bool) (kvs : List (PyData × RV)) : mCell st n m xs (.dic b kvs) = mDic st kvs m xs := Eq.trans rfl rfl
@[simp] theorem m_append (n : Nat) (ys : List RV) (v : RV) : mLst st n ys .append [v] = if ys.length < lim then some (.d .pur .none, st.set n (.lst (ys ++ [v]))) else none := Eq.trans rfl rfl
@[simp] theorem m_extend (n : Nat) (ys : List RV) (zs : List PyData) : mLst st n ys .extend [.d g (.list zs)] = if g ≠ .scr ∧ ys.length + zs.length ≤ lim then some (.d .pur .none, st.set n (.lst (ys ++ zs.map (el g)))) else none := Eq.trans rfl rfl
theorem m_pop (n : Nat) (ys : List RV) : mLst st n ys .pop [] = (ys[ys.length - 1]?).map fun y => (y, st.set n (.lst ys.dropLast)) := rfl
@[simp] theorem m_pop_snoc (n : Nat) (ys : List RV) (v : RV) : mLst st n (ys ++ [v]) .pop [] = some (v, st.set n (.lst ys)) := by
  rw [m_pop]
  simp
@[simp] theorem m_pop_one (n : Nat) (v : RV) : mLst st n [v] .pop [] = some (v, st.set n (.lst [])) := m_pop_snoc n [] v
@[simp] theorem m_pop0 (n : Nat) (y : RV) (ys : List RV) (h : ys.length < 16777216) : mLst st n (y :: ys) .popAt [.d g (.int 0)] = some (y, st.set n (.lst ys)) := by
  show (if (0 : Int) = 0 ∧ ys.length < lim then some (y, st.set n (.lst ys)) else none) = _
  rw [if_pos ⟨rfl, h⟩]
def setCell (st : Store) (n : Nat) (k : PyData) (v : RV) : Cell → Option Store
  | .lst ys => match k with
    | .int j => if 0 ≤ j ∧ j < ys.length then some (st.set n (.lst (ys.set j.toNat v))) else none
    | _ => none
  | .dic false kvs => if keyOk k = true ∧ kvs.length < lim then some (st.set n (.dic false (dput kvs k v))) else none
  | _ => none
@[simp] theorem setItem_c (n : Nat) (k : PyData) (v : RV) : setItem st (.c n) (.d g k) v = st[n]?.bind (setCell st n k v) := by
  unfold setItem
  simp only []
  rcases st[n]? with _ | _ | ⟨_ | _, _⟩ | _ | _ | _ <;> cases k <;> rfl
@[simp] theorem setCell_l (n : Nat) (j : Int) (v : RV) (ys : List RV) : setCell st n (.int j) v (.lst ys) = if 0 ≤ j ∧ j < ys.length then some (st.set n (.lst (ys.set j.toNat v))) else none := Eq.trans rfl rfl
@[simp] theorem setCell_d (n : Nat) (k : PyData) (v : RV) (kvs : List (PyData × RV)) : setCell st n k v (.dic false kvs) = if keyOk k = true ∧ kvs.length < lim then some (st.set n (.dic false (dput kvs k v))) else none := Eq.trans rfl rfl
end
@[simp] theorem lim_num : lim = 16777216 := Eq.trans rfl rfl
end DL

-- DSt
/-! DSt: calls by what their stores hold: data alone, a set of cells, the state that is drawn from. -/
namespace DL
open PySem

/-! ### cells of the room and sets of them -/
abbrev Cl := Int × Int × Int
def cD (c : Cl) : PyData := .tuple [.int c.1, .int c.2.1, .int c.2.2]
/-- a set of cells: a dict's keys -/
def kvS (L : List Cl) : List (PyData × RV) := L.map fun c => (cD c, .d .pur (.bool true))
def dcS (lk : Bool) (L : List Cl) : Cell := .dic lk (kvS L)
theorem keyOk_cell (x y z : Int) : keyOk (.tuple [.int x, .int y, .int z]) = true := by
  simp [keyOk, toKey, toKeys, NestedKey.depth, NestedKey.depthAll]
theorem eqv_cell (a b : Cl) : PyData.eqv (cD a) (cD b) = decide (a = b) := by
  obtain ⟨x, y, z⟩ := a
  obtain ⟨x', y', z'⟩ := b
  simp only [cD, PyData.eqv, PyData.eqvAll, Bool.and_true, Prod.mk.injEq, Bool.decide_and]
  rfl
theorem dget_kvS (L : List Cl) (a : Cl) : (dget (kvS L) (cD a)).isSome = decide (a ∈ L) := by
  unfold dget kvS
  induction L with
  | nil => simp
  | cons c L ih =>
    simp only [List.map_cons, List.find?_cons, same, eqv_cell, List.mem_cons]
    by_cases h : c = a
    · simp [h]
    · simp only [h, decide_false]
      rw [show (fun p : PyData × RV => PyData.eqv p.1 (cD a)) = fun p => same p.1 (cD a) from rfl, ih]
      have : ¬ a = c := fun e => h e.symm
      simp [this]
theorem inCell_S (x y z : Int) (lk : Bool) (L : List Cl) : inCell (.tuple [.int x, .int y, .int z]) (dcS lk L) = some (decide ((x, y, z) ∈ L)) := by
  show (if keyOk (.tuple [.int x, .int y, .int z]) = true then some (dget (kvS L) (cD (x, y, z))).isSome else none) = _
  rw [keyOk_cell, dget_kvS]
  rfl
@[simp] theorem inCell_Sc (c : Cl) (lk : Bool) (L : List Cl) : inCell (cD c) (dcS lk L) = some (decide (c ∈ L)) := inCell_S _ _ _ _ _
@[simp] theorem srcCell_S (n : Nat) (lk : Bool) (L : List Cl) : srcCell n (dcS lk L) = some (.items (L.map fun c => .d .pur (cD c))) := by
  show some (Src.items (List.map _ (List.map _ L))) = _
  rw [List.map_map]
  rfl
@[simp] theorem lkCell_S (n : Nat) (lk : Bool) (L : List Cl) : lkCell n (dcS lk L) = some (n, lk) := Eq.trans rfl rfl
@[simp] theorem setLkC_S (st : Store) (n : Nat) (lk lk' : Bool) (L : List Cl) : setLkC st n lk (some (dcS lk' L)) = st.set n (dcS lk L) := Eq.trans rfl rfl
theorem keysOf_S (L : List Cl) : keysOf (kvS L) = L.map cD := by
  unfold keysOf kvS
  rw [List.map_map]
  rfl
@[simp] theorem seqCell_S (lk : Bool) (L : List Cl) : seqCell (dcS lk L) = some (.pur, L.map cD) := by
  show some (Gn.pur, keysOf (kvS L)) = _
  rw [keysOf_S]
@[simp] theorem noLs_cells (L : List Cl) : noLs (L.map cD) = true := by
  induction L with
  | nil => rfl
  | cons c L ih => simp [cD, ih]
@[simp] theorem noL_cD (c : Cl) : noL (cD c) = true := Eq.trans rfl rfl
@[simp] theorem refs_S (lk : Bool) (L : List Cl) : (dcS lk L).refs = [] := by
  show refsOf (List.map _ (List.map _ L)) = []
  rw [List.map_map]
  induction L with
  | nil => rfl
  | cons c L ih => exact ih
/-- the first of each -/
def nubS : List Cl → List Cl → List Cl
  | acc, [] => acc
  | acc, c :: r => nubS (if c ∈ acc then acc else acc ++ [c]) r
theorem nubS_nodup : ∀ (L acc : List Cl), acc.Nodup → (nubS acc L).Nodup
  | [], _, h => h
  | c :: r, acc, h => nubS_nodup r _ (by
    split
    · exact h
    · rename_i q
      rw [List.nodup_append]
      refine ⟨h, by simp, fun a ha b hb => ?_⟩
      rw [List.mem_singleton] at hb
      subst hb
      exact fun e => q (e ▸ ha))
theorem mem_nubS (x : Cl) : ∀ (L acc : List Cl), x ∈ nubS acc L ↔ x ∈ acc ∨ x ∈ L
  | [], _ => by simp [nubS]
  | c :: r, acc => by
    unfold nubS
    rw [mem_nubS x r]
    split
    · rename_i q
      simp only [List.mem_cons]
      constructor
      · rintro (h | h)
        · exact .inl h
        · exact .inr (.inr h)
      · rintro (h | h | h)
        · exact .inl h
        · exact .inl (h ▸ q)
        · exact .inr h
    · simp only [List.mem_append, List.mem_cons, List.not_mem_nil, or_false, or_assoc]
theorem nubS_id : ∀ (L acc : List Cl), L.Nodup → (∀ x ∈ L, x ∉ acc) → nubS acc L = acc ++ L
  | [], _, _, _ => by simp [nubS]
  | c :: r, acc, h, q => by
    unfold nubS
    rw [if_neg (q c List.mem_cons_self), nubS_id r _ (List.nodup_cons.mp h).2]
    · simp
    · intro x hx
      simp only [List.mem_append, List.mem_singleton, not_or]
      exact ⟨q x (List.mem_cons_of_mem _ hx), fun e => (List.nodup_cons.mp h).1 (e ▸ hx)⟩
theorem dput_S (L : List Cl) (c : Cl) : dput (kvS L) (cD c) (.d .pur (.bool true)) = kvS (if c ∈ L then L else L ++ [c]) := by
  unfold dput
  have e : ((kvS L).any fun p => same p.1 (cD c)) = decide (c ∈ L) := by
    unfold kvS
    rw [List.any_map, show ((fun p : PyData × RV => same p.1 (cD c)) ∘ fun c : Cl => (cD c, RV.d .pur (.bool true))) = fun a => decide (a = c) from funext fun a => eqv_cell a c, Bool.eq_iff_iff]
    simp
  rw [e]
  by_cases h : c ∈ L
  · rw [if_pos (by simpa using h), if_pos h]
    unfold kvS
    rw [List.map_map]
    refine List.map_congr_left fun a _ => ?_
    simp only [Function.comp_def]
    split
    · rfl
    · rfl
  · rw [if_neg (by simpa using h), if_neg h]
    unfold kvS
    rw [List.map_append]
    rfl
theorem pairsOf_S (L : List Cl) : pairsOf (L.map fun c => .tuple [cD c, .bool true]) = some (L.map fun c => (cD c, .bool true)) := by
  induction L with
  | nil => rfl
  | cons c L ih =>
    rw [List.map_cons, pairsOf, ih]
    rfl
theorem foldl_S (g : Gn) : ∀ (L acc : List Cl), (L.map fun c => (cD c, PyData.bool true)).foldl (fun acc q => dput acc q.1 (el g q.2)) (kvS acc) = kvS (nubS acc L)
  | [], _ => rfl
  | c :: L, acc => by
    rw [List.map_cons, List.foldl_cons]
    show List.foldl _ (dput (kvS acc) (cD c) (.d .pur (.bool true))) _ = _
    rw [dput_S]
    exact foldl_S g L _
@[simp] theorem mkDic_S (g : Gn) (L : List Cl) : mkDic (.d g (.list (L.map fun c => .tuple [cD c, .bool true]))) = some (dcS false (nubS [] L)) := by
  unfold mkDic
  simp only []
  rw [pairsOf_S]
  simp only [Option.bind_some]
  rw [if_pos (by
    rw [List.all_eq_true]
    intro q hq
    obtain ⟨c, _, rfl⟩ := List.mem_map.mp hq
    exact keyOk_cell _ _ _)]
  rw [show ([] : List (PyData × RV)) = kvS [] from rfl, foldl_S]
  rfl

/-! ### calls -/
def dn : RV → RV
  | .d g x => .d g.down x
  | .c n => .c n
@[simp] theorem dn_d (g : Gn) (x : PyData) : dn (.d g x) = .d g.down x := Eq.trans rfl rfl
def upD (g : Gn) (x : PyData) : RV := .d (if noL x = true then .pur else g.up) x
/-- only data -/
def allD : List RV → Bool
  | [] => true
  | .d _ _ :: r => allD r
  | .c _ :: _ => false
@[simp] theorem allD_nil : allD [] = true := Eq.trans rfl rfl
@[simp] theorem allD_d (g : Gn) (x : PyData) (r : List RV) : allD (.d g x :: r) = allD r := Eq.trans rfl rfl
theorem refs_allD : ∀ {xs : List RV}, allD xs = true → refsOf xs = []
  | [], _ => rfl
  | .d _ _ :: r, h => refs_allD (xs := r) h
theorem map_allD {L : List Nat} : ∀ {xs : List RV}, allD xs = true → xs.mapM (mapRV .down (idx? L)) = some (xs.map dn)
  | [], _ => rfl
  | .d g x :: r, h => by
    rw [List.mapM_cons, map_allD (xs := r) h]
    rfl
/-- what comes back of a call that was handed data -/
def ret0 (st : Store) : Res RV → Res RV
  | .ok v s1 => match v with
    | .d g x => .ok (upD g x) st
    | .c j => match s1[j]? with
      | some cl => if cl.refs = [] then match cl with
          | .lst xs => match datas? xs with
            | some ds => .ok (.d (lstG (gnOf xs).up ds) (.list ds)) st
            | none => .bad
          | cl => match mapCell .up (fun _ => none) cl with
            | some cl => .ok (.c st.length) (st ++ [cl])
            | none => .bad
        else match s1.mapM (mapCell .up fun j => some (back [] st.length j)) with
          | some more => .ok (.c (back [] st.length j)) (st ++ more)
          | none => .bad
      | none => .bad
  | .exc k _ => .exc k st
  | .bad => .bad
theorem call0 {φ : List RV → Store → Res RV} {args : List RV} {st : Store} (h : allD args = true) : callF φ args st = ret0 st (φ (args.map dn) []) := by
  unfold callF
  rw [refs_allD h]
  simp only [reach]
  rw [map_allD h]
  show (match φ (args.map dn) [] with
    | .ok v s1 => _
    | .exc k s1 => _
    | .bad => _) = _
  rcases φ (args.map dn) [] with ⟨v, s1⟩ | ⟨k, s1⟩ | _
  · rcases v with ⟨g, x⟩ | j
    · rfl
    · show (if j < 0 then _ else _) = _
      rw [if_neg (by omega)]
      rfl
  · rfl
  · rfl
@[simp] theorem ret0_d (st s1 : Store) (g : Gn) (x : PyData) : ret0 st (.ok (.d g x) s1) = .ok (upD g x) st := Eq.trans rfl rfl
@[simp] theorem ret0_exc (st s1 : Store) (k : Nat) : ret0 st (.exc k s1) = .exc k st := Eq.trans rfl rfl
@[simp] theorem upD_int (g : Gn) (i : Int) : upD g (.int i) = .d .pur (.int i) := Eq.trans rfl rfl
@[simp] theorem upD_bool (g : Gn) (i : Bool) : upD g (.bool i) = .d .pur (.bool i) := Eq.trans rfl rfl
@[simp] theorem upD_str (g : Gn) (i : Str) : upD g (.str i) = .d .pur (.str i) := Eq.trans rfl rfl
@[simp] theorem upD_none (g : Gn) : upD g .none = .d .pur .none := Eq.trans rfl rfl
@[simp] theorem upD_list (g : Gn) (xs : List PyData) : upD g (.list xs) = .d g.up (.list xs) := Eq.trans rfl rfl
@[simp] theorem upD_tup (g : Gn) (xs : List PyData) : upD g (.tuple xs) = .d (if noLs xs = true then .pur else g.up) (.tuple xs) := by
  unfold upD
  rw [noL_tup]
theorem mapCell_S {fd : Gn → Gn} {fc : Nat → Option Nat} (hf : fd .pur = .pur) (lk : Bool) (L : List Cl) : mapCell fd fc (dcS lk L) = some (dcS lk L) := by
  show Option.map _ ((kvS L).mapM _) = _
  have : ∀ L : List Cl, (kvS L).mapM (fun p => (mapRV fd fc p.2).map fun v => (p.1, v)) = some (kvS L) := by
    intro L
    induction L with
    | nil => rfl
    | cons c L ih =>
      show List.mapM _ ((cD c, .d .pur (.bool true)) :: kvS L) = some ((cD c, .d .pur (.bool true)) :: kvS L)
      rw [List.mapM_cons, ih]
      show Option.bind (some (cD c, RV.d (fd .pur) _)) _ = _
      rw [hf]
      rfl
  rw [this]
  rfl
theorem ret0_set {st s1 : Store} {j : Nat} {lk : Bool} {L : List Cl} (h : s1[j]? = some (dcS lk L)) : ret0 st (.ok (.c j) s1) = .ok (.c st.length) (st ++ [dcS lk L]) := by
  show (match s1[j]? with
      | some cl => _
      | none => _) = _
  rw [h]
  show (if (dcS lk L).refs = [] then _ else _) = _
  rw [if_pos (refs_S lk L)]
  show (match mapCell .up (fun _ => none) (dcS lk L) with
    | some cl => _
    | none => _) = _
  rw [mapCell_S rfl]
theorem ret0_lst {st s1 : Store} {j : Nat} {xs : List RV} {ds : List PyData} (h : s1[j]? = some (.lst xs)) (hd : datas? xs = some ds) : ret0 st (.ok (.c j) s1) = .ok (.d (lstG (gnOf xs).up ds) (.list ds)) st := by
  have hr : ∀ {xs : List RV} {ds : List PyData}, datas? xs = some ds → refsOf xs = [] := by
    intro xs
    induction xs with
    | nil => intro _ _; rfl
    | cons a r ih =>
      intro ds h
      cases a with
      | d g x =>
        rw [datas_d] at h
        obtain ⟨ds', h', _⟩ := Option.map_eq_some_iff.mp h
        exact ih h'
      | c n => cases h
  show (match s1[j]? with
      | some cl => _
      | none => _) = _
  rw [h]
  show (if (Cell.lst xs).refs = [] then _ else _) = _
  rw [if_pos (show (Cell.lst xs).refs = [] from hr hd)]
  show (match datas? xs with
    | some ds => _
    | none => _) = _
  rw [hd]

/-- what comes back of a call that was handed a set of cells, which it does not change -/
def retS (st : Store) : Res RV → Res RV
  | .ok (.d g x) _ => .ok (upD g x) st
  | .exc k _ => .exc k st
  | _ => .bad
@[simp] theorem ret1_d (st s1 : Store) (g : Gn) (x : PyData) : retS st (.ok (.d g x) s1) = .ok (upD g x) st := Eq.trans rfl rfl
@[simp] theorem ret1_exc (st s1 : Store) (k : Nat) : retS st (.exc k s1) = .exc k st := Eq.trans rfl rfl
theorem refs_allD_c {n : Nat} {xs : List RV} (h : allD xs = true) : refsOf (.c n :: xs) = [n] := by
  rw [refsOf, refs_allD h]
theorem set_slf {st : Store} {n : Nat} {c : Cell} (h : st[n]? = some c) : st.set n c = st := by
  refine List.ext_getElem? fun i => ?_
  rw [List.getElem?_set]
  split
  · rename_i e
    subst e
    obtain ⟨hl, _⟩ := List.getElem?_eq_some_iff.mp h
    rw [if_pos hl, h]
  · rfl
theorem refs_datas {xs : List RV} {ds : List PyData} (h : datas? xs = some ds) : refsOf xs = [] := by
  induction xs generalizing ds with
  | nil => rfl
  | cons a r ih =>
    cases a with
    | d g x =>
      rw [datas_d] at h
      obtain ⟨ds', h', _⟩ := Option.map_eq_some_iff.mp h
      exact ih h'
    | c n => cases h
theorem call1_pre {args : List RV} {st : Store} {n : Nat} {lk : Bool} {L : List Cl} (hd : allD args = true) (hn : st[n]? = some (dcS lk L)) : reach st 64 (refsOf (.c n :: args)) [] = [n] ∧ (.c n :: args).mapM (mapRV .down (idx? [n])) = some (.c 0 :: args.map dn) ∧ subStore st [n] = some [dcS lk L] ∧ ∀ more, putBack st [n] (dcS lk L :: more) = some st := by
  refine ⟨?_, ?_, ?_, ?_⟩
  · rw [refs_allD_c hd]
    show reach st 63 (((st[n]?).map Cell.refs).getD [] ++ []) [n] = [n]
    rw [hn]
    simp [reach]
  · rw [List.mapM_cons, map_allD hd]
    show Option.bind ((List.findIdx? (· == n) [n]).map RV.c) _ = _
    simp
  · show List.mapM _ [n] = _
    rw [List.mapM_cons, List.mapM_nil, hn]
    show Option.bind (mapCell .down (idx? [n]) (dcS lk L)) _ = _
    rw [mapCell_S rfl]
    rfl
  · intro more
    show List.foldlM _ st [(n, dcS lk L)] = _
    rw [List.foldlM_cons]
    show Option.bind (Option.map _ (mapCell .up _ (dcS lk L))) _ = _
    rw [mapCell_S rfl]
    show some (st.set n (dcS lk L)) = _
    rw [set_slf hn]
theorem call1 {φ : List RV → Store → Res RV} {args : List RV} {st : Store} {n : Nat} {lk : Bool} {L : List Cl} {r : Res RV} (hd : allD args = true) (hn : st[n]? = some (dcS lk L)) (h : φ (.c 0 :: args.map dn) [dcS lk L] = r)
    (hr : (∃ g x more, r = .ok (.d g x) (dcS lk L :: more)) ∨ (∃ k more, r = .exc k (dcS lk L :: more))) : callF φ (.c n :: args) st = retS st r := by
  obtain ⟨e1, e2, e3, e4⟩ := call1_pre hd hn
  unfold callF
  rw [e1]
  simp only []
  rw [e2, e3]
  simp only []
  rw [h]
  rcases hr with ⟨g, x, more, rfl⟩ | ⟨k, more, rfl⟩
  · simp only []
    rw [e4]
    rfl
  · simp only []
    rw [e4]
    rfl
/-- it told a list -/
theorem call1_lst {φ : List RV → Store → Res RV} {args : List RV} {st more : Store} {n j : Nat} {lk : Bool} {L : List Cl} {xs : List RV} {ds : List PyData} (hd : allD args = true) (hn : st[n]? = some (dcS lk L)) (h : φ (.c 0 :: args.map dn) [dcS lk L] = .ok (.c (j + 1)) (dcS lk L :: more))
    (hj : more[j]? = some (.lst xs)) (hx : datas? xs = some ds) : callF φ (.c n :: args) st = .ok (.d (lstG (gnOf xs).up ds) (.list ds)) st := by
  obtain ⟨e1, e2, e3, e4⟩ := call1_pre hd hn
  unfold callF
  rw [e1]
  simp only []
  rw [e2, e3]
  simp only []
  rw [h]
  simp only []
  rw [e4]
  simp only []
  rw [if_neg (by simp), List.getElem?_cons_succ, hj]
  simp only []
  rw [if_pos (show (Cell.lst xs).refs = [] from refs_datas hx)]
  rw [hx]
end DL

-- DWords
/-! DWords: the words of bodies are unlike one another. -/
namespace DL
open PySem
@[simp] theorem w_block_cells : (("block" : Str) = ("cells" : Str)) = False := eq_false (by decide +kernel)
@[simp] theorem w_block_with : (("block" : Str) = ("with" : Str)) = False := eq_false (by decide +kernel)
@[simp] theorem w_block_common : (("block" : Str) = ("common" : Str)) = False := eq_false (by decide +kernel)
@[simp] theorem w_block_less : (("block" : Str) = ("less" : Str)) = False := eq_false (by decide +kernel)
@[simp] theorem w_block_moved : (("block" : Str) = ("moved" : Str)) = False := eq_false (by decide +kernel)
@[simp] theorem w_block_turned : (("block" : Str) = ("turned" : Str)) = False := eq_false (by decide +kernel)
@[simp] theorem w_block_x : (("block" : Str) = ("x" : Str)) = False := eq_false (by decide +kernel)
@[simp] theorem w_block_y : (("block" : Str) = ("y" : Str)) = False := eq_false (by decide +kernel)
@[simp] theorem w_block_z : (("block" : Str) = ("z" : Str)) = False := eq_false (by decide +kernel)
@[simp] theorem w_block_empty : (("block" : Str) = ("" : Str)) = False := eq_false (by decide +kernel)
@[simp] theorem w_cells_block : (("cells" : Str) = ("block" : Str)) = False := eq_false (by decide +kernel)
@[simp] theorem w_cells_with : (("cells" : Str) = ("with" : Str)) = False := eq_false (by decide +kernel)
@[simp] theorem w_cells_common : (("cells" : Str) = ("common" : Str)) = False := eq_false (by decide +kernel)
@[simp] theorem w_cells_less : (("cells" : Str) = ("less" : Str)) = False := eq_false (by decide +kernel)
@[simp] theorem w_cells_moved : (("cells" : Str) = ("moved" : Str)) = False := eq_false (by decide +kernel)
@[simp] theorem w_cells_turned : (("cells" : Str) = ("turned" : Str)) = False := eq_false (by decide +kernel)
@[simp] theorem w_cells_x : (("cells" : Str) = ("x" : Str)) = False := eq_false (by decide +kernel)
@[simp] theorem w_cells_y : (("cells" : Str) = ("y" : Str)) = False := eq_false (by decide +kernel)
@[simp] theorem w_cells_z : (("cells" : Str) = ("z" : Str)) = False := eq_false (by decide +kernel)
@[simp] theorem w_cells_empty : (("cells" : Str) = ("" : Str)) = False := eq_false (by decide +kernel)
@[simp] theorem w_with_block : (("with" : Str) = ("block" : Str)) = False := eq_false (by decide +kernel)
@[simp] theorem w_with_cells : (("with" : Str) = ("cells" : Str)) = False := eq_false (by decide +kernel)
@[simp] theorem w_with_common : (("with" : Str) = ("common" : Str)) = False := eq_false (by decide +kernel)
@[simp] theorem w_with_less : (("with" : Str) = ("less" : Str)) = False := eq_false (by decide +kernel)
@[simp] theorem w_with_moved : (("with" : Str) = ("moved" : Str)) = False := eq_false (by decide +kernel)
@[simp] theorem w_with_turned : (("with" : Str) = ("turned" : Str)) = False := eq_false (by decide +kernel)
@[simp] theorem w_with_x : (("with" : Str) = ("x" : Str)) = False := eq_false (by decide +kernel)
@[simp] theorem w_with_y : (("with" : Str) = ("y" : Str)) = False := eq_false (by decide +kernel)
@[simp] theorem w_with_z : (("with" : Str) = ("z" : Str)) = False := eq_false (by decide +kernel)
@[simp] theorem w_with_empty : (("with" : Str) = ("" : Str)) = False := eq_false (by decide +kernel)
@[simp] theorem w_common_block : (("common" : Str) = ("block" : Str)) = False := eq_false (by decide +kernel)
@[simp] theorem w_common_cells : (("common" : Str) = ("cells" : Str)) = False := eq_false (by decide +kernel)
@[simp] theorem w_common_with : (("common" : Str) = ("with" : Str)) = False := eq_false (by decide +kernel)
@[simp] theorem w_common_less : (("common" : Str) = ("less" : Str)) = False := eq_false (by decide +kernel)
@[simp] theorem w_common_moved : (("common" : Str) = ("moved" : Str)) = False := eq_false (by decide +kernel)
@[simp] theorem w_common_turned : (("common" : Str) = ("turned" : Str)) = False := eq_false (by decide +kernel)
@[simp] theorem w_common_x : (("common" : Str) = ("x" : Str)) = False := eq_false (by decide +kernel)
@[simp] theorem w_common_y : (("common" : Str) = ("y" : Str)) = False := eq_false (by decide +kernel)
@[simp] theorem w_common_z : (("common" : Str) = ("z" : Str)) = False := eq_false (by decide +kernel)
@[simp] theorem w_common_empty : (("common" : Str) = ("" : Str)) = False := eq_false (by decide +kernel)
@[simp] theorem w_less_block : (("less" : Str) = ("block" : Str)) = False := eq_false (by decide +kernel)
@[simp] theorem w_less_cells : (("less" : Str) = ("cells" : Str)) = False := eq_false (by decide +kernel)
@[simp] theorem w_less_with : (("less" : Str) = ("with" : Str)) = False := eq_false (by decide +kernel)
@[simp] theorem w_less_common : (("less" : Str) = ("common" : Str)) = False := eq_false (by decide +kernel)
@[simp] theorem w_less_moved : (("less" : Str) = ("moved" : Str)) = False := eq_false (by decide +kernel)
@[simp] theorem w_less_turned : (("less" : Str) = ("turned" : Str)) = False := eq_false (by decide +kernel)
@[simp] theorem w_less_x : (("less" : Str) = ("x" : Str)) = False := eq_false (by decide +kernel)
@[simp] theorem w_less_y : (("less" : Str) = ("y" : Str)) = False := eq_false (by decide +kernel)
@[simp] theorem w_less_z : (("less" : Str) = ("z" : Str)) = False := eq_false (by decide +kernel)
@[simp] theorem w_less_empty : (("less" : Str) = ("" : Str)) = False := eq_false (by decide +kernel)
@[simp] theorem w_moved_block : (("moved" : Str) = ("block" : Str)) = False := eq_false (by decide +kernel)
@[simp] theorem w_moved_cells : (("moved" : Str) = ("cells" : Str)) = False := eq_false (by decide +kernel)
@[simp] theorem w_moved_with : (("moved" : Str) = ("with" : Str)) = False := eq_false (by decide +kernel)
@[simp] theorem w_moved_common : (("moved" : Str) = ("common" : Str)) = False := eq_false (by decide +kernel)
@[simp] theorem w_moved_less : (("moved" : Str) = ("less" : Str)) = False := eq_false (by decide +kernel)
@[simp] theorem w_moved_turned : (("moved" : Str) = ("turned" : Str)) = False := eq_false (by decide +kernel)
@[simp] theorem w_moved_x : (("moved" : Str) = ("x" : Str)) = False := eq_false (by decide +kernel)
@[simp] theorem w_moved_y : (("moved" : Str) = ("y" : Str)) = False := eq_false (by decide +kernel)
@[simp] theorem w_moved_z : (("moved" : Str) = ("z" : Str)) = False := eq_false (by decide +kernel)
@[simp] theorem w_moved_empty : (("moved" : Str) = ("" : Str)) = False := eq_false (by decide +kernel)
@[simp] theorem w_turned_block : (("turned" : Str) = ("block" : Str)) = False := eq_false (by decide +kernel)
@[simp] theorem w_turned_cells : (("turned" : Str) = ("cells" : Str)) = False := eq_false (by decide +kernel)
@[simp] theorem w_turned_with : (("turned" : Str) = ("with" : Str)) = False := eq_false (by decide +kernel)
@[simp] theorem w_turned_common : (("turned" : Str) = ("common" : Str)) = False := eq_false (by decide +kernel)
@[simp] theorem w_turned_less : (("turned" : Str) = ("less" : Str)) = False := eq_false (by decide +kernel)
@[simp] theorem w_turned_moved : (("turned" : Str) = ("moved" : Str)) = False := eq_false (by decide +kernel)
@[simp] theorem w_turned_x : (("turned" : Str) = ("x" : Str)) = False := eq_false (by decide +kernel)
@[simp] theorem w_turned_y : (("turned" : Str) = ("y" : Str)) = False := eq_false (by decide +kernel)
@[simp] theorem w_turned_z : (("turned" : Str) = ("z" : Str)) = False := eq_false (by decide +kernel)
@[simp] theorem w_turned_empty : (("turned" : Str) = ("" : Str)) = False := eq_false (by decide +kernel)
@[simp] theorem w_x_block : (("x" : Str) = ("block" : Str)) = False := eq_false (by decide +kernel)
@[simp] theorem w_x_cells : (("x" : Str) = ("cells" : Str)) = False := eq_false (by decide +kernel)
@[simp] theorem w_x_with : (("x" : Str) = ("with" : Str)) = False := eq_false (by decide +kernel)
@[simp] theorem w_x_common : (("x" : Str) = ("common" : Str)) = False := eq_false (by decide +kernel)
@[simp] theorem w_x_less : (("x" : Str) = ("less" : Str)) = False := eq_false (by decide +kernel)
@[simp] theorem w_x_moved : (("x" : Str) = ("moved" : Str)) = False := eq_false (by decide +kernel)
@[simp] theorem w_x_turned : (("x" : Str) = ("turned" : Str)) = False := eq_false (by decide +kernel)
@[simp] theorem w_x_y : (("x" : Str) = ("y" : Str)) = False := eq_false (by decide +kernel)
@[simp] theorem w_x_z : (("x" : Str) = ("z" : Str)) = False := eq_false (by decide +kernel)
@[simp] theorem w_x_empty : (("x" : Str) = ("" : Str)) = False := eq_false (by decide +kernel)
@[simp] theorem w_y_block : (("y" : Str) = ("block" : Str)) = False := eq_false (by decide +kernel)
@[simp] theorem w_y_cells : (("y" : Str) = ("cells" : Str)) = False := eq_false (by decide +kernel)
@[simp] theorem w_y_with : (("y" : Str) = ("with" : Str)) = False := eq_false (by decide +kernel)
@[simp] theorem w_y_common : (("y" : Str) = ("common" : Str)) = False := eq_false (by decide +kernel)
@[simp] theorem w_y_less : (("y" : Str) = ("less" : Str)) = False := eq_false (by decide +kernel)
@[simp] theorem w_y_moved : (("y" : Str) = ("moved" : Str)) = False := eq_false (by decide +kernel)
@[simp] theorem w_y_turned : (("y" : Str) = ("turned" : Str)) = False := eq_false (by decide +kernel)
@[simp] theorem w_y_x : (("y" : Str) = ("x" : Str)) = False := eq_false (by decide +kernel)
@[simp] theorem w_y_z : (("y" : Str) = ("z" : Str)) = False := eq_false (by decide +kernel)
@[simp] theorem w_y_empty : (("y" : Str) = ("" : Str)) = False := eq_false (by decide +kernel)
@[simp] theorem w_z_block : (("z" : Str) = ("block" : Str)) = False := eq_false (by decide +kernel)
@[simp] theorem w_z_cells : (("z" : Str) = ("cells" : Str)) = False := eq_false (by decide +kernel)
@[simp] theorem w_z_with : (("z" : Str) = ("with" : Str)) = False := eq_false (by decide +kernel)
@[simp] theorem w_z_common : (("z" : Str) = ("common" : Str)) = False := eq_false (by decide +kernel)
@[simp] theorem w_z_less : (("z" : Str) = ("less" : Str)) = False := eq_false (by decide +kernel)
@[simp] theorem w_z_moved : (("z" : Str) = ("moved" : Str)) = False := eq_false (by decide +kernel)
@[simp] theorem w_z_turned : (("z" : Str) = ("turned" : Str)) = False := eq_false (by decide +kernel)
@[simp] theorem w_z_x : (("z" : Str) = ("x" : Str)) = False := eq_false (by decide +kernel)
@[simp] theorem w_z_y : (("z" : Str) = ("y" : Str)) = False := eq_false (by decide +kernel)
@[simp] theorem w_z_empty : (("z" : Str) = ("" : Str)) = False := eq_false (by decide +kernel)
@[simp] theorem w_empty_block : (("" : Str) = ("block" : Str)) = False := eq_false (by decide +kernel)
@[simp] theorem w_empty_cells : (("" : Str) = ("cells" : Str)) = False := eq_false (by decide +kernel)
@[simp] theorem w_empty_with : (("" : Str) = ("with" : Str)) = False := eq_false (by decide +kernel)
@[simp] theorem w_empty_common : (("" : Str) = ("common" : Str)) = False := eq_false (by decide +kernel)
@[simp] theorem w_empty_less : (("" : Str) = ("less" : Str)) = False := eq_false (by decide +kernel)
@[simp] theorem w_empty_moved : (("" : Str) = ("moved" : Str)) = False := eq_false (by decide +kernel)
@[simp] theorem w_empty_turned : (("" : Str) = ("turned" : Str)) = False := eq_false (by decide +kernel)
@[simp] theorem w_empty_x : (("" : Str) = ("x" : Str)) = False := eq_false (by decide +kernel)
@[simp] theorem w_empty_y : (("" : Str) = ("y" : Str)) = False := eq_false (by decide +kernel)
@[simp] theorem w_empty_z : (("" : Str) = ("z" : Str)) = False := eq_false (by decide +kernel)
end DL

-- DBody
/-! DBody: bodies in plain Lean. -/
namespace DL
open PySem
@[simp] theorem ret0_ite {st : Store} (p : Prop) [Decidable p] (a b : Res RV) : ret0 st (if p then a else b) = if p then ret0 st a else ret0 st b := by split <;> rfl
@[simp] theorem ret1_ite {st : Store} (p : Prop) [Decidable p] (a b : Res RV) : retS st (if p then a else b) = if p then retS st a else retS st b := by split <;> rfl
theorem lcL_fil {α : Type} (L : List α) (f : α → RV) (P : α → Bool) (out : α → RV) (κ : RV → Store → Res (Option RV)) (t : Tag κ) (acc : List RV) (st : Store) (h : ∀ c ∈ L, κ (f c) st = if P c = true then .ok (some (out c)) st else .ok none st) : lcL κ t (L.map f) acc st = .ok (acc ++ (L.filter P).map out) st := by
  induction L generalizing acc with
  | nil => simp
  | cons c L ih =>
    rw [List.map_cons, lcL_cons, h c List.mem_cons_self]
    by_cases hp : P c = true
    · rw [if_pos hp, lcR_some, ih _ fun c hc => h c (List.mem_cons_of_mem _ hc), List.filter_cons_of_pos hp]
      simp
    · rw [if_neg hp, lcR_none, ih _ fun c hc => h c (List.mem_cons_of_mem _ hc), List.filter_cons_of_neg hp]
theorem lcL_map {α : Type} (L : List α) (f : α → RV) (out : α → RV) (κ : RV → Store → Res (Option RV)) (t : Tag κ) (acc : List RV) (st : Store) (h : ∀ c ∈ L, κ (f c) st = .ok (some (out c)) st) : lcL κ t (L.map f) acc st = .ok (acc ++ L.map out) st := by
  rw [lcL_fil L f (fun _ => true) out κ t acc st (fun c hc => by rw [h c hc]; rfl)]
  rw [List.filter_eq_self.mpr fun _ _ => rfl]
theorem lcL_no {α : Type} (L : List α) (f : α → RV) (κ : RV → Store → Res (Option RV)) (t : Tag κ) (acc : List RV) (st : Store) (h : ∀ c ∈ L, κ (f c) st = .ok none st) : lcL κ t (L.map f) acc st = .ok acc st := by
  induction L generalizing acc with
  | nil => simp
  | cons c L ih => rw [List.map_cons, lcL_cons, h c List.mem_cons_self, lcR_none, ih _ fun c hc => h c (List.mem_cons_of_mem _ hc)]
theorem forL_rel {α : Type} {xs : List α} {f : α → RV} {κ : RV → DL.Env → Store → Out} {t : Tag κ} {env : DL.Env} {st : Store} {F : Out} (hF : forL κ t (xs.map f) env st = F) (R : List α → DL.Env → Store → Prop) (h0 : R [] env st)
    (h : ∀ pre x post env st, xs = pre ++ x :: post → R pre env st → ∀ O, κ (f x) env st = O → ∃ env' st', O = .nx env' st' ∧ R (pre ++ [x]) env' st') : ∃ env' st', F = .nx env' st' ∧ R xs env' st' := by
  have key : ∀ (post pre : List α) (env : DL.Env) (st : Store), xs = pre ++ post → R pre env st → ∃ env' st', forL κ t (post.map f) env st = .nx env' st' ∧ R xs env' st' := by
    intro post
    induction post with
    | nil =>
      intro pre env st e r
      rw [List.append_nil] at e
      exact ⟨env, st, rfl, e ▸ r⟩
    | cons x post ih =>
      intro pre env st e r
      obtain ⟨env1, st1, e1, r1⟩ := h pre x post env st e r _ rfl
      obtain ⟨env2, st2, e2, r2⟩ := ih (pre ++ [x]) env1 st1 (by simp [e]) r1
      refine ⟨env2, st2, ?_, r2⟩
      rw [List.map_cons, forL_cons, e1, sF_nx, e2]
  rw [← hF]
  exact key xs [] env st rfl h0
theorem len_flatMap_le {α β : Type} (L : List α) (f : α → List β) (m : Nat) (h : ∀ x ∈ L, (f x).length ≤ m) : (L.flatMap f).length ≤ L.length * m := by
  induction L with
  | nil => simp
  | cons a L ih =>
    have h1 := h a List.mem_cons_self
    have h2 := ih fun x hx => h x (List.mem_cons_of_mem _ hx)
    simp only [List.flatMap_cons, List.length_append, List.length_cons, Nat.add_mul]
    omega
theorem forL_inv {α β : Type} (xs : List α) (f : α → RV) (E : β → DL.Env) (S : β → Store) (step : β → α → β) (κ : RV → DL.Env → Store → Out) (t : Tag κ) (h : ∀ b, ∀ x ∈ xs, κ (f x) (E b) (S b) = .nx (E (step b x)) (S (step b x))) (b : β) : forL κ t (xs.map f) (E b) (S b) = .nx (E (xs.foldl step b)) (S (xs.foldl step b)) := by
  induction xs generalizing b with
  | nil => rfl
  | cons x xs ih =>
    rw [List.map_cons, forL_cons, h b x List.mem_cons_self, sF_nx, ih fun b x hx => h b x (List.mem_cons_of_mem _ hx)]
    rfl
@[simp] theorem datas_map {α : Type} (L : List α) (f : α → PyData) (g : Gn) : datas? (L.map fun c => .d g (f c)) = some (L.map f) := by
  induction L with
  | nil => rfl
  | cons c L ih => simp only [List.map_cons, datas_d, ih, Option.map_some]
@[simp] theorem gnOf_map {α : Type} (L : List α) (f : α → PyData) : gnOf (L.map fun c => .d .pur (f c)) = .pur := by
  induction L with
  | nil => rfl
  | cons c L ih => simp only [List.map_cons, gnOf_d, ih, join_p]
/-- whole numbers from one on -/
def rng (lo : Int) (n : Nat) : List Int := (List.range n).map fun (i : Nat) => lo + (i : Int)
theorem rngRV_rng (lo : Int) (n : Nat) : rngRV lo n = (rng lo n).map fun i => .d .pur (.int i) := by
  unfold rngRV rng
  rw [List.map_map]
  rfl
@[simp] theorem len_rng (lo : Int) (n : Nat) : (rng lo n).length = n := by simp [rng]
theorem mem_rng {lo i : Int} {n : Nat} : i ∈ rng lo n ↔ lo ≤ i ∧ i < lo + n := by
  unfold rng
  rw [List.mem_map]
  constructor
  · rintro ⟨a, ha, rfl⟩
    rw [List.mem_range] at ha
    omega
  · rintro ⟨h1, h2⟩
    exact ⟨(i - lo).toNat, List.mem_range.mpr (by omega), by omega⟩
@[simp] theorem memD_str (s : Str) (ds : List PyData) : memD (.str s) ds = some (ds.any fun y => PyData.eqv y (.str s)) := by
  unfold memD
  rw [if_pos (by simp)]
@[simp] theorem memD_int (s : Int) (ds : List PyData) : memD (.int s) ds = some (ds.any fun y => PyData.eqv y (.int s)) := by
  unfold memD
  rw [if_pos (by simp)]
@[simp] theorem eqv_ss (a b : Str) : PyData.eqv (.str a) (.str b) = decide (a = b) := by
  unfold PyData.eqv
  rfl
@[simp] theorem eqv_ii (a b : Int) : PyData.eqv (.int a) (.int b) = decide (a = b) := by
  unfold PyData.eqv
  rfl
@[simp] theorem eqv_nt (xs : List PyData) : PyData.eqv .none (.tuple xs) = false := by
  unfold PyData.eqv
  rfl
theorem eqvAll_cells : ∀ L M : List Cl, PyData.eqvAll (L.map cD) (M.map cD) = decide (L = M)
  | [], [] => rfl
  | [], _ :: _ => rfl
  | _ :: _, [] => rfl
  | a :: L, b :: M => by
    rw [List.map_cons, List.map_cons, PyData.eqvAll, eqv_cell, eqvAll_cells L M]
    simp
@[simp] theorem eqv_cells (L M : List Cl) : PyData.eqv (.list (L.map cD)) (.list (M.map cD)) = decide (L = M) := by
  rw [PyData.eqv, eqvAll_cells]
@[simp] theorem el_cD (g : Gn) (c : Cl) : el g (cD c) = .d .pur (cD c) := el_no rfl
@[simp] theorem upD_cD (g : Gn) (c : Cl) : upD g (cD c) = .d .pur (cD c) := Eq.trans rfl rfl

@[simp] theorem lstG_cells (g : Gn) (L : List Cl) : lstG g (L.map cD) = .new := lstG_no (noLs_cells L)

theorem noLs_map {α : Type} (L : List α) (f : α → PyData) (h : ∀ x, noL (f x) = true) : noLs (L.map f) = true := by
  induction L with
  | nil => rfl
  | cons x L ih => rw [List.map_cons, noLs_cons, h, ih]; rfl
@[simp] theorem noLs_map_cD {α : Type} (L : List α) (f : α → Cl) : noLs (L.map fun x => cD (f x)) = true := noLs_map _ _ fun _ => rfl
@[simp] theorem lstG_map_cD {α : Type} (g : Gn) (L : List α) (f : α → Cl) : lstG g (L.map fun x => cD (f x)) = .new := lstG_no (noLs_map_cD _ _)
@[simp] theorem mkDic_Sm {α : Type} (g : Gn) (L : List α) (f : α → Cl) : mkDic (.d g (.list (L.map fun x => .tuple [cD (f x), .bool true]))) = some (dcS false (nubS [] (L.map f))) := by
  have := mkDic_S g (L.map f)
  rw [List.map_map] at this
  exact this
@[simp] theorem mkDic_app (g : Gn) (L M : List Cl) : mkDic (.d g (.list ((L.map fun x => .tuple [cD x, .bool true]) ++ M.map fun x => .tuple [cD x, .bool true]))) = some (dcS false (nubS [] (L ++ M))) := by
  have := mkDic_S g (L ++ M)
  rw [List.map_append] at this
  exact this
@[simp] theorem datas_app (xs ys : List RV) : datas? (xs ++ ys) = (datas? xs).bind fun a => (datas? ys).map (a ++ ·) := by
  induction xs with
  | nil => cases h : datas? ys <;> simp [h]
  | cons a r ih =>
    cases a with
    | d g x =>
      rw [List.cons_append, datas_d, datas_d, ih]
      cases datas? r <;> cases datas? ys <;> rfl
    | c n => rfl
@[simp] theorem noLs_app (xs ys : List PyData) : noLs (xs ++ ys) = (noLs xs && noLs ys) := by
  induction xs with
  | nil => rfl
  | cons a r ih => rw [List.cons_append, noLs_cons, noLs_cons, ih, Bool.and_assoc]
@[simp] theorem lstG_app_cD (g : Gn) (L M : List Cl) : lstG g (L.map cD ++ M.map cD) = .new := lstG_no (by simp)
/-! a cell's tuple, kept shut -/
@[simp] theorem cD_fold (x y z : Int) : PyData.tuple [.int x, .int y, .int z] = cD (x, y, z) := Eq.trans rfl rfl
section
variable {st : Store} {g g' : Gn}
@[simp] theorem cD_0 (c : Cl) : subscr st (.d g (cD c)) (.d g' (.int 0)) = some (.d .pur (.int c.1)) := by
  unfold cD
  rw [sub_t, atI_0]
  rfl
@[simp] theorem cD_1 (c : Cl) : subscr st (.d g (cD c)) (.d g' (.int 1)) = some (.d .pur (.int c.2.1)) := by
  unfold cD
  rw [sub_t, atI_1]
  rfl
@[simp] theorem cD_2 (c : Cl) : subscr st (.d g (cD c)) (.d g' (.int 2)) = some (.d .pur (.int c.2.2)) := by
  unfold cD
  rw [sub_t, atI_2]
  rfl
@[simp] theorem cD_tp (i j k : Nat) (c : Cl) (env : DL.Env) : assign (.tp [i, j, k]) (.d g (cD c)) env = some (((env.set i (some (.d .pur (.int c.1)))).set j (some (.d .pur (.int c.2.1)))).set k (some (.d .pur (.int c.2.2)))) := Eq.trans rfl rfl
theorem cD_at (c : Cl) (i : Int) : subscr st (.d g (cD c)) (.d g' (.int i)) = (L2.atI [c.1, c.2.1, c.2.2] i).map fun j => .d .pur (.int j) := by
  unfold cD
  rw [sub_t, show ([.int c.1, .int c.2.1, .int c.2.2] : List PyData) = [c.1, c.2.1, c.2.2].map PyData.int from rfl]
  unfold L2.atI L2.ixN
  simp only [List.length_map, List.getElem?_map]
  generalize (if 0 ≤ i then _ else _ : Option Nat) = o
  cases o with
  | none => rfl
  | some n =>
    simp only [Option.bind_some]
    cases ([c.1, c.2.1, c.2.2] : List Int)[n]? <;> rfl
@[simp] theorem cD_ty (t : Ty) (c : Cl) : isTyD t (cD c) = decide (t = .tuple) := by cases t <;> rfl
@[simp] theorem cD_len (c : Cl) : bLen st [.d g (cD c)] = some (.d .pur (.int 3)) := Eq.trans rfl rfl
@[simp] theorem cD_src (c : Cl) : srcOf st .val [.d g (cD c)] = some (.items [.d .pur (.int c.1), .d .pur (.int c.2.1), .d .pur (.int c.2.2)]) := Eq.trans rfl rfl
theorem depth_cD (c : Cl) : (cD c).depth = 1 := by
  simp [cD, PyData.depth, PyData.depthAll, -cD_fold]
@[simp] theorem cD_eq (a b : Cl) : cmpop st .eq (.d g (cD a)) (.d g' (cD b)) = some (decide (a = b)) := by
  rw [eq_dl (by rw [depth_cD]; omega), eqv_cell]
@[simp] theorem isNone_cD (c : Cl) : isNone (cD c) = false := Eq.trans rfl rfl
@[simp] theorem keyOk_cD (c : Cl) : keyOk (cD c) = true := keyOk_cell _ _ _
theorem any_cells (L : List Cl) (c : Cl) : ((L.map cD).any fun y => PyData.eqv y (cD c)) = decide (c ∈ L) := by
  rw [List.any_map, show ((fun y => PyData.eqv y (cD c)) ∘ cD) = fun a => decide (a = c) from funext fun a => eqv_cell a c, Bool.eq_iff_iff]
  simp
@[simp] theorem memD_cD (c : Cl) (L : List Cl) : memD (cD c) (L.map cD) = some (decide (c ∈ L)) := by
  unfold memD
  rw [if_pos (by rw [depth_cD]; omega), any_cells]
theorem depthAll_cells (L : List Cl) : PyData.depthAll (L.map cD) ≤ 1 := by
  induction L with
  | nil => simp [PyData.depthAll]
  | cons c L ih =>
    rw [List.map_cons, PyData.depthAll, depth_cD]
    omega
theorem depth_cells (L : List Cl) : (PyData.list (L.map cD)).depth ≤ 60 := by
  have := depthAll_cells L
  rw [PyData.depth]
  omega
@[simp] theorem eq_cells (L M : List Cl) : cmpop st .eq (.d g (.list (L.map cD))) (.d g' (.list (M.map cD))) = some (decide (L = M)) := by
  rw [eq_dl (depth_cells L), eqv_cells]
end

/-! ### bodies -/
inductive Ed where
  | x | y | z
  deriving DecidableEq, Repr
inductive Tw where
  | w | c | l
  deriving DecidableEq, Repr
inductive B where
  | blk (c s : Cl)
  | cel (L : List Cl)
  | two (w : Tw) (a b : B)
  | mov (f : Cl) (a : B)
  | trn (e : Ed) (a : B)
def Ed.s : Ed → Str
  | .x => "x"
  | .y => "y"
  | .z => "z"
def Tw.s : Tw → Str
  | .w => "with"
  | .c => "common"
  | .l => "less"
def bD : B → PyData
  | .blk c s => .tuple [.str "block", cD c, cD s]
  | .cel L => .tuple [.str "cells", .tuple (L.map cD)]
  | .two w a b => .tuple [.str w.s, bD a, bD b]
  | .mov f a => .tuple [.str "moved", cD f, bD a]
  | .trn e a => .tuple [.str "turned", .str e.s, bD a]
@[simp] theorem noL_bD : ∀ b : B, noL (bD b) = true
  | .blk _ _ => by simp [bD]
  | .cel _ => by simp [bD]
  | .two _ a b => by simp [bD, noL_bD a, noL_bD b]
  | .mov _ a => by simp [bD, noL_bD a]
  | .trn _ a => by simp [bD, noL_bD a]
@[simp] theorem el_bD (g : Gn) (b : B) : el g (bD b) = .d .pur (bD b) := el_no (noL_bD b)
@[simp] theorem upD_bD (g : Gn) (b : B) : upD g (bD b) = .d .pur (bD b) := by unfold upD; rw [if_pos (noL_bD b)]
abbrev R3 (lo hi : Int) (c : Cl) : Prop := (lo ≤ c.1 ∧ c.1 ≤ hi) ∧ (lo ≤ c.2.1 ∧ c.2.1 ≤ hi) ∧ lo ≤ c.2.2 ∧ c.2.2 ≤ hi
/-- R3 as a truth value -/
def inR (lo hi : Int) (c : Cl) : Bool := decide (R3 lo hi c)
theorem inR_t {lo hi : Int} {c : Cl} (h : R3 lo hi c) : inR lo hi c = true := decide_eq_true h
abbrev Room (c : Cl) : Prop := R3 0 3 c
def turnC : Ed → Cl → Cl
  | .x, (x, y, z) => (x, 3 - z, y)
  | .y, (x, y, z) => (z, y, 3 - x)
  | .z, (x, y, z) => (3 - y, x, z)
def backC : Ed → Cl → Cl
  | .x, (x, y, z) => (x, z, 3 - y)
  | .y, (x, y, z) => (3 - z, y, x)
  | .z, (x, y, z) => (y, 3 - x, z)
def addC (f : Cl) (c : Cl) : Cl := (c.1 + f.1, c.2.1 + f.2.1, c.2.2 + f.2.2)
def subC (f : Cl) (c : Cl) : Cl := (c.1 - f.1, c.2.1 - f.2.1, c.2.2 - f.2.2)
theorem turn_back (e : Ed) (c : Cl) : turnC e (backC e c) = c := by
  obtain ⟨x, y, z⟩ := c
  cases e <;> simp [turnC, backC] <;> omega
theorem back_turn (e : Ed) (c : Cl) : backC e (turnC e c) = c := by
  obtain ⟨x, y, z⟩ := c
  cases e <;> simp [turnC, backC] <;> omega
theorem add_sub (f c : Cl) : addC f (subC f c) = c := by
  obtain ⟨x, y, z⟩ := c
  simp [addC, subC]
theorem sub_add (f c : Cl) : subC f (addC f c) = c := by
  obtain ⟨x, y, z⟩ := c
  simp [addC, subC]
/-- whether a cell is a body's -/
def inB : B → Cl → Bool
  | .blk l s, c => decide ((l.1 ≤ c.1 ∧ c.1 < l.1 + s.1) ∧ (l.2.1 ≤ c.2.1 ∧ c.2.1 < l.2.1 + s.2.1) ∧ l.2.2 ≤ c.2.2 ∧ c.2.2 < l.2.2 + s.2.2)
  | .cel L, c => decide (c ∈ L)
  | .two .w a b, c => inB a c || inB b c
  | .two .c a b, c => inB a c && inB b c
  | .two .l a b, c => inB a c && !inB b c
  | .mov f a, c => inB a (subC f c)
  | .trn e a, c => inB a (backC e c)
def blkL (c s : Cl) : List Cl := (rng c.1 s.1.toNat).flatMap fun x => (rng c.2.1 s.2.1.toNat).flatMap fun y => (rng c.2.2 s.2.2.toNat).map fun z => (x, y, z)
/-- the cells of a body, each once -/
def acL : B → List Cl
  | .blk c s => nubS [] (blkL c s)
  | .cel L => nubS [] L
  | .two .w a b => nubS [] (acL a ++ acL b)
  | .two .c a b => nubS [] ((acL a).filter fun c => decide (c ∈ acL b))
  | .two .l a b => nubS [] ((acL a).filter fun c => !decide (c ∈ acL b))
  | .mov f a => nubS [] ((acL a).map (addC f))
  | .trn e a => nubS [] ((acL a).map (turnC e))
theorem nodup_acL (b : B) : (acL b).Nodup := by
  cases b with
  | two w a b => cases w <;> exact nubS_nodup _ _ List.nodup_nil
  | _ => exact nubS_nodup _ _ List.nodup_nil
theorem mem_blkL (l s c : Cl) (h : 0 ≤ s.1 ∧ 0 ≤ s.2.1 ∧ 0 ≤ s.2.2) : c ∈ blkL l s ↔ (l.1 ≤ c.1 ∧ c.1 < l.1 + s.1) ∧ (l.2.1 ≤ c.2.1 ∧ c.2.1 < l.2.1 + s.2.1) ∧ l.2.2 ≤ c.2.2 ∧ c.2.2 < l.2.2 + s.2.2 := by
  obtain ⟨x, y, z⟩ := c
  simp only [blkL, List.mem_flatMap, List.mem_map, mem_rng, Prod.mk.injEq]
  constructor
  · rintro ⟨a, ha, b, hb, c, hc, rfl, rfl, rfl⟩
    omega
  · intro q
    exact ⟨x, by omega, y, by omega, z, by omega, rfl, rfl, rfl⟩
/-- what is a body: of small numbers, its cells rising, and none outside -/
def Ok : B → Prop
  | .blk c s => Room c ∧ R3 1 4 s ∧ c.1 + s.1 ≤ 4 ∧ c.2.1 + s.2.1 ≤ 4 ∧ c.2.2 + s.2.2 ≤ 4
  | .cel L => (∀ c ∈ L, Room c) ∧ L.length ≤ 64 ∧ sortC (L.map fun c => [c.1, c.2.1, c.2.2]) = L.map fun c => [c.1, c.2.1, c.2.2]
  | .two _ a b => Ok a ∧ Ok b
  | .mov f a => R3 (-3) 3 f ∧ Ok a ∧ ∀ c, inB a c = true → Room (addC f c)
  | .trn _ a => Ok a
theorem mem_acL : ∀ (b : B), Ok b → ∀ c, c ∈ acL b ↔ inB b c = true
  | .blk l s, h, c => by
    obtain ⟨_, h, _⟩ := h
    simp only [acL, mem_nubS, List.not_mem_nil, false_or, inB, decide_eq_true_eq]
    exact mem_blkL l s c (by omega)
  | .cel L, _, c => by simp [acL, mem_nubS, inB]
  | .two .w a b, h, c => by simp [acL, mem_nubS, inB, mem_acL a h.1, mem_acL b h.2]
  | .two .c a b, h, c => by simp [acL, mem_nubS, inB, mem_acL a h.1, mem_acL b h.2]
  | .two .l a b, h, c => by simp [acL, mem_nubS, inB, mem_acL a h.1, mem_acL b h.2]
  | .mov f a, h, c => by
    simp only [acL, mem_nubS, List.not_mem_nil, false_or, inB, List.mem_map]
    constructor
    · rintro ⟨d, hd, rfl⟩
      rw [sub_add]
      exact (mem_acL a h.2.1 d).mp hd
    · intro q
      exact ⟨subC f c, (mem_acL a h.2.1 _).mpr q, add_sub f c⟩
  | .trn e a, h, c => by
    simp only [acL, mem_nubS, List.not_mem_nil, false_or, inB, List.mem_map]
    constructor
    · rintro ⟨d, hd, rfl⟩
      rw [back_turn]
      exact (mem_acL a h d).mp hd
    · intro q
      exact ⟨backC e c, (mem_acL a h _).mpr q, turn_back e c⟩
theorem room_inB : ∀ (b : B), Ok b → ∀ c, inB b c = true → Room c
  | .blk l s, h, c => by
    obtain ⟨h1, h2, h3, h4, h5⟩ := h
    simp only [inB, decide_eq_true_eq]
    intro q
    refine ⟨?_, ?_, ?_⟩ <;> omega
  | .cel L, h, c => by
    simp only [inB, decide_eq_true_eq]
    exact h.1 c
  | .two .w a b, h, c => by
    simp only [inB, Bool.or_eq_true]
    rintro (q | q)
    · exact room_inB a h.1 c q
    · exact room_inB b h.2 c q
  | .two .c a b, h, c => by
    simp only [inB, Bool.and_eq_true]
    exact fun q => room_inB a h.1 c q.1
  | .two .l a b, h, c => by
    simp only [inB, Bool.and_eq_true]
    exact fun q => room_inB a h.1 c q.1
  | .mov f a, h, c => by
    simp only [inB]
    intro q
    have := h.2.2 _ q
    rwa [add_sub] at this
  | .trn e a, h, c => by
    simp only [inB]
    intro q
    have := room_inB a h _ q
    obtain ⟨x, y, z⟩ := c
    cases e <;> simp only [backC, Room, R3] at this ⊢ <;> omega
theorem len_sub {L : List Cl} : ∀ {M : List Cl}, L.Nodup → (∀ x ∈ L, x ∈ M) → L.length ≤ M.length := by
  induction L with
  | nil => intros; simp
  | cons a L ih =>
    intro M hn hs
    have ha := hs a List.mem_cons_self
    have := ih (M := M.erase a) (List.nodup_cons.mp hn).2 fun x hx => (List.mem_erase_of_ne (fun (e : x = a) => (List.nodup_cons.mp hn).1 (by rw [← e]; exact hx))).mpr (hs x (List.mem_cons_of_mem _ hx))
    rw [List.length_erase_of_mem ha] at this
    have := List.length_pos_of_mem ha
    simp only [List.length_cons]
    omega
/-- all cells, rising -/
def room : List Cl := (List.range 64).map fun n => ((n / 16 : Nat), (n / 4 % 4 : Nat), (n % 4 : Nat))
theorem mem_room (c : Cl) : c ∈ room ↔ Room c := by
  obtain ⟨x, y, z⟩ := c
  simp only [room, List.mem_map, List.mem_range, Prod.mk.injEq, Room, R3]
  constructor
  · rintro ⟨n, hn, rfl, rfl, rfl⟩
    omega
  · intro h
    exact ⟨(16 * x + 4 * y + z).toNat, by omega, by omega, by omega, by omega⟩
theorem len_acL (b : B) (h : Ok b) : (acL b).length ≤ 64 := by
  have := len_sub (M := room) (nodup_acL b) fun x hx => (mem_room x).mpr (room_inB b h x ((mem_acL b h x).mp hx))
  exact this
/-- how deep, how many bodies -/
def dep : B → Nat
  | .blk _ _ => 0
  | .cel _ => 0
  | .two _ a b => 1 + max (dep a) (dep b)
  | .mov _ a => 1 + dep a
  | .trn _ a => 1 + dep a
def siz : B → Nat
  | .blk _ _ => 1
  | .cel _ => 1
  | .two _ a b => 1 + siz a + siz b
  | .mov _ a => 1 + siz a
  | .trn _ a => 1 + siz a
theorem dep_siz : ∀ b : B, dep b < siz b
  | .blk _ _ => by simp [dep, siz]
  | .cel _ => by simp [dep, siz]
  | .two _ a b => by have := dep_siz a; have := dep_siz b; simp only [dep, siz]; omega
  | .mov _ a => by have := dep_siz a; simp only [dep, siz]; omega
  | .trn _ a => by have := dep_siz a; simp only [dep, siz]; omega
end DL

-- DRis
/-! DRis: cells sorted. -/
namespace DL
open PySem
def code (c : Cl) : Int := 16 * c.1 + 4 * c.2.1 + c.2.2
theorem codC_inj {a b : Cl} (ha : Room a) (hb : Room b) (h : code a = code b) : a = b := by
  obtain ⟨x, y, z⟩ := a
  obtain ⟨x', y', z'⟩ := b
  simp only [code, Room, R3, Prod.mk.injEq] at *
  omega
theorem dataLe_cD {a b : Cl} (ha : Room a) (hb : Room b) : PySem.W.dataLe false id (cD a) (cD b) = decide (code a ≤ code b) := by
  have e := congrFun (congrFun (PySem.W.dataLe_rows fun c : Cl => [c.1, c.2.1, c.2.2]) a) b
  have e2 : PySem.W.dataLe false (fun c : Cl => PyData.list ([c.1, c.2.1, c.2.2].map .int)) a b = PySem.W.dataLe false id (cD a) (cD b) := by
    show (!PySem.W.dataLt _ _) = !PySem.W.dataLt _ _
    unfold PySem.W.dataLt
    rfl
  rw [← e2, e, decide_eq_decide]
  obtain ⟨x, y, z⟩ := a
  obtain ⟨x', y', z'⟩ := b
  clear e e2
  simp only [code, Room, R3] at *
  rw [← List.not_lt]
  simp only [List.cons_lt_cons_iff, List.not_lt_nil, and_false, or_false]
  omega
abbrev Rise (L : List Cl) : Prop := L.Pairwise fun a b => code a < code b
theorem rise_room : Rise room := by
  unfold Rise room
  rw [List.pairwise_map]
  refine List.Pairwise.imp ?_ List.pairwise_lt_range
  intro a b h
  simp only [code]
  omega
theorem rise_nodup {L : List Cl} (h : Rise L) : L.Nodup := List.Pairwise.imp (fun {a b} h e => by rw [e] at h; omega) h
theorem rise_filter {L : List Cl} (h : Rise L) (p : Cl → Bool) : Rise (L.filter p) := List.Pairwise.filter p h
theorem rise_ext : ∀ {L M : List Cl}, Rise L → Rise M → (∀ c, c ∈ L ↔ c ∈ M) → L = M
  | [], [], _, _, _ => rfl
  | [], b :: M, _, _, h => absurd ((h b).mpr List.mem_cons_self) List.not_mem_nil
  | a :: L, [], _, _, h => absurd ((h a).mp List.mem_cons_self) List.not_mem_nil
  | a :: L, b :: M, h1, h2, h => by
    have p1 := List.pairwise_cons.mp h1
    have p2 := List.pairwise_cons.mp h2
    have e : a = b := by
      rcases List.mem_cons.mp ((h a).mp List.mem_cons_self) with e | q1
      · exact e
      · rcases List.mem_cons.mp ((h b).mpr List.mem_cons_self) with e | q2
        · exact e.symm
        · have := p2.1 a q1
          have := p1.1 b q2
          omega
    subst e
    congr 1
    refine rise_ext p1.2 p2.2 fun c => ⟨fun q => ?_, fun q => ?_⟩
    · rcases List.mem_cons.mp ((h c).mp (List.mem_cons_of_mem _ q)) with e | r
      · have := p1.1 c q
        rw [e] at this
        omega
      · exact r
    · rcases List.mem_cons.mp ((h c).mpr (List.mem_cons_of_mem _ q)) with e | r
      · have := p2.1 c q
        rw [e] at this
        omega
      · exact r
theorem rise_sort (L : List Cl) (hn : L.Nodup) (hr : ∀ c ∈ L, Room c) : Rise (L.mergeSort fun a b => decide (code a ≤ code b)) := by
  have p := List.pairwise_mergeSort (le := fun a b : Cl => decide (code a ≤ code b)) (fun a b c h1 h2 => by simp only [decide_eq_true_eq] at *; omega) (fun a b => by simp only [Bool.or_eq_true, decide_eq_true_eq]; omega) L
  have q : (L.mergeSort fun a b => decide (code a ≤ code b)).Nodup := (List.mergeSort_perm L _).symm.nodup hn
  have r : ∀ c ∈ (L.mergeSort fun a b => decide (code a ≤ code b)), Room c := fun c hc => hr c (List.mem_mergeSort.mp hc)
  generalize (L.mergeSort fun a b => decide (code a ≤ code b)) = M at p q r
  have pq := List.Pairwise.and p q
  refine List.Pairwise.imp_of_mem (fun {a b} ha hb h => ?_) pq
  have h1 := of_decide_eq_true h.1
  have h2 : code a ≠ code b := fun e => h.2 (codC_inj (r a ha) (r b hb) e)
  omega
theorem sortD_cells (L : List Cl) (hn : L.Nodup) (hr : ∀ c ∈ L, Room c) (p : Cl → Bool) (hp : ∀ c, Room c → (p c = true ↔ c ∈ L)) : sortD (L.map cD) = (room.filter p).map cD := by
  have e : L.mergeSort (fun a b => decide (code a ≤ code b)) = room.filter p := by
    refine rise_ext (rise_sort L hn hr) (rise_filter rise_room p) fun c => ?_
    rw [List.mem_mergeSort, List.mem_filter, mem_room]
    exact ⟨fun h => ⟨hr c h, (hp c (hr c h)).mpr h⟩, fun h => (hp c h.1).mp h.2⟩
  unfold sortD
  rw [← e]
  exact (List.map_mergeSort (fun a ha b hb => (dataLe_cD (hr a ha) (hr b hb)).symm)).symm
theorem sortable_cells (L : List Cl) : sortable (L.map cD) = true := by
  unfold sortable allAlike
  simp only [Bool.and_eq_true, Bool.or_eq_true, List.all_eq_true, List.mem_map, forall_exists_index, and_imp, decide_eq_true_eq]
  refine ⟨⟨?_, .inl ?_⟩, ?_⟩
  · rintro _ a _ rfl _ b _ rfl
    rfl
  · rintro _ a _ rfl
    rfl
  · rintro _ a _ rfl
    rw [depth_cD]
    omega
/-- a body's cells, rising -/
def clsB (b : B) : List Cl := room.filter (inB b)
theorem mem_clsB {b : B} (h : Ok b) (c : Cl) : c ∈ clsB b ↔ inB b c = true := by
  unfold clsB
  rw [List.mem_filter, mem_room]
  exact ⟨fun h => h.2, fun q => ⟨room_inB b h c q, q⟩⟩
theorem nodup_clsB (b : B) : (clsB b).Nodup := rise_nodup (rise_filter rise_room _)
theorem sortD_acL {b : B} (h : Ok b) : sortD ((acL b).map cD) = (clsB b).map cD :=
  sortD_cells _ (nodup_acL b) (fun c hc => room_inB b h c ((mem_acL b h c).mp hc)) _ fun c _ => (mem_acL b h c).symm
theorem nub_clsB (b : B) : nubS [] (clsB b) = clsB b := nubS_id _ _ (nodup_clsB b) fun _ _ => List.not_mem_nil
/-- the runs of a row -/
def rr : Bool → Bool → Bool → Bool → List (Int × Int)
  | true, true, true, true => [(0, 3)]
  | true, true, true, false => [(0, 2)]
  | true, true, false, true => [(0, 1), (3, 3)]
  | true, true, false, false => [(0, 1)]
  | true, false, true, true => [(0, 0), (2, 3)]
  | true, false, true, false => [(0, 0), (2, 2)]
  | true, false, false, true => [(0, 0), (3, 3)]
  | true, false, false, false => [(0, 0)]
  | false, true, true, true => [(1, 3)]
  | false, true, true, false => [(1, 2)]
  | false, true, false, true => [(1, 1), (3, 3)]
  | false, true, false, false => [(1, 1)]
  | false, false, true, true => [(2, 3)]
  | false, false, true, false => [(2, 2)]
  | false, false, false, true => [(3, 3)]
  | false, false, false, false => []
/-- the strokes of a row, of a layer -/
def rowS (L : List Cl) (z y : Int) : List Cl := (rr (decide ((0, y, z) ∈ L)) (decide ((1, y, z) ∈ L)) (decide ((2, y, z) ∈ L)) (decide ((3, y, z) ∈ L))).map fun p => (y, p.1, p.2)
def strk (L : List Cl) (z : Int) : List Cl := ([0, 1, 2, 3] : List Int).flatMap (rowS L z)
theorem len_rowS (L : List Cl) (z y : Int) : (rowS L z y).length ≤ 2 := by
  unfold rowS
  rw [List.length_map]
  cases decide ((0, y, z) ∈ L) <;> cases decide ((1, y, z) ∈ L) <;> cases decide ((2, y, z) ∈ L) <;> cases decide ((3, y, z) ∈ L) <;> decide
theorem len_strk (L : List Cl) (z : Int) : (strk L z).length ≤ 8 := by
  have h0 := len_rowS L z 0
  have h1 := len_rowS L z 1
  have h2 := len_rowS L z 2
  have h3 := len_rowS L z 3
  simp only [strk, List.flatMap_cons, List.flatMap_nil, List.length_append, List.length_nil]
  omega
end DL

-- IK13
namespace K13
open PySem DL
def ix_are_numbers : Nat := 0
def ix_is_cell : Nat := 1
def ix_are_cells : Nat := 2
def ix_inner_of : Nat := 3
def ix_is_body : Nat := 4
def ix_turned_cell : Nat := 5
def ix_within : Nat := 6
def ix_block_cells : Nat := 7
def ix_all_cells : Nat := 8
def ix_known_cells : Nat := 9
def ix_cells : Nat := 10
def ix_written : Nat := 11
def ix_is_row : Nat := 12
def ix_read : Nat := 13
def ix_l_mix : Nat := 14
def ix_l_next : Nat := 15
def ix_l_alike : Nat := 16
def ix_l_inside : Nat := 17
def ix_l_all : Nat := 18
def ix_l_body : Nat := 19
def ix_l_whole : Nat := 20
def ix_l_numbers : Nat := 21
def ix_l_counted : Nat := 22
def ix_l_text : Nat := 23
def ir_are_numbers : SL := (.cons (.ifs (.boo false (.cons (.nt (.isi (.var 0) [.tuple])) (.cons (.cmp .ne (.bl .len (.cons (.var 0) .nil)) (.cst (.int 3))) .nil))) (.cons (.ret (.cst (.bool false)))
  .nil) .nil)
  (.cons (.for_ (.nm 3) .val (.cons (.var 0) .nil) (.cons (.ifs (.boo false (.cons (.nt (.isi (.var 3) [.int])) (.cons (.isi (.var 3) [.bool]) (.cons (.nt (.chn .le .le (.var 1) (.var 3) (.var 2))) .nil)))) (.cons (.ret (.cst (.bool false)))
  .nil) .nil)
  .nil))
  (.cons (.ret (.cst (.bool true)))
  .nil)))
def fn_are_numbers : Fn := { np := 3, ns := 4, body := ir_are_numbers }
def ir_is_cell : SL := (.cons (.ret (.call ix_are_numbers (.cons (.var 0) (.cons (.cst (.int 0)) (.cons (.bin .sub (.glb 0) (.cst (.int 1))) .nil)))))
  .nil)
def fn_is_cell : Fn := { np := 1, ns := 1, body := ir_is_cell }
def ir_are_cells : SL := (.cons (.ifs (.boo false (.cons (.nt (.isi (.var 0) [.tuple])) (.cons (.cmp .ne (.lc [1] (.nm 1) .val (.cons (.var 0) .nil) (.cons (.nt (.call ix_is_cell (.cons (.var 1) .nil))) .nil) (.var 1)) (.lst .nil)) .nil))) (.cons (.ret (.cst (.bool false)))
  .nil) .nil)
  (.cons (.ret (.cmp .eq (.bl .list (.cons (.var 0) .nil)) (.bl .sortset (.cons (.var 0) .nil))))
  .nil))
def fn_are_cells : Fn := { np := 1, ns := 2, body := ir_are_cells }
def ir_inner_of : SL := (.cons (.ifs (.boo false (.cons (.nt (.isi (.var 0) [.tuple])) (.cons (.cmp .eq (.var 0) (.tup .nil)) .nil))) (.cons (.ret (.cst .none))
  .nil) .nil)
  (.cons (.asg (.nm 1) (.sub (.var 0) (.cst (.int 0))))
  (.cons (.ifs (.boo true (.cons (.cmp .eq (.var 1) (.cst (.str "block"))) (.cons (.cmp .eq (.bl .len (.cons (.var 0) .nil)) (.cst (.int 3))) (.cons (.call ix_is_cell (.cons (.sub (.var 0) (.cst (.int 1))) .nil)) (.cons (.call ix_are_numbers (.cons (.sub (.var 0) (.cst (.int 2))) (.cons (.cst (.int 1)) (.cons (.glb 0) .nil)))) .nil))))) (.cons (.ret (.lst .nil))
  .nil) .nil)
  (.cons (.ifs (.boo true (.cons (.cmp .eq (.var 1) (.cst (.str "cells"))) (.cons (.cmp .eq (.bl .len (.cons (.var 0) .nil)) (.cst (.int 2))) (.cons (.call ix_are_cells (.cons (.sub (.var 0) (.cst (.int 1))) .nil)) .nil)))) (.cons (.ret (.lst .nil))
  .nil) .nil)
  (.cons (.ifs (.boo true (.cons (.cmp .isin (.var 1) (.glb 2)) (.cons (.cmp .eq (.bl .len (.cons (.var 0) .nil)) (.cst (.int 3))) .nil))) (.cons (.ret (.lst (.cons (.sub (.var 0) (.cst (.int 1))) (.cons (.sub (.var 0) (.cst (.int 2))) .nil))))
  .nil) .nil)
  (.cons (.ifs (.boo true (.cons (.cmp .eq (.var 1) (.cst (.str "moved"))) (.cons (.cmp .eq (.bl .len (.cons (.var 0) .nil)) (.cst (.int 3))) (.cons (.call ix_are_numbers (.cons (.sub (.var 0) (.cst (.int 1))) (.cons (.bin .sub (.cst (.int 1)) (.glb 0)) (.cons (.bin .sub (.glb 0) (.cst (.int 1))) .nil)))) .nil)))) (.cons (.ret (.lst (.cons (.sub (.var 0) (.cst (.int 2))) .nil)))
  .nil) .nil)
  (.cons (.ifs (.boo true (.cons (.cmp .eq (.var 1) (.cst (.str "turned"))) (.cons (.cmp .eq (.bl .len (.cons (.var 0) .nil)) (.cst (.int 3))) (.cons (.cmp .isin (.sub (.var 0) (.cst (.int 1))) (.glb 3)) .nil)))) (.cons (.ret (.lst (.cons (.sub (.var 0) (.cst (.int 2))) .nil)))
  .nil) .nil)
  (.cons (.ret (.cst .none))
  .nil))))))))
def fn_inner_of : Fn := { np := 1, ns := 2, body := ir_inner_of }
def ir_is_body : SL := (.cons (.asg (.nm 1) (.mlst (.cons (.var 0) .nil)))
  (.cons (.asg (.nm 2) (.cst (.int 0)))
  (.cons (.whl 1000 (.cmp .ne (.var 1) (.lst .nil)) (.cons (.asg (.nm 3) (.call ix_inner_of (.cons (.mth .pop (.var 1) .nil) .nil)))
  (.cons (.asg (.nm 2) (.bin .add (.var 2) (.cst (.int 1))))
  (.cons (.ifs (.boo false (.cons (.cmp .is (.var 3) (.cst .none)) (.cons (.cmp .gt (.var 2) (.glb 1)) .nil))) (.cons (.ret (.cst (.bool false)))
  .nil) .nil)
  (.cons (.exp (.mth .extend (.var 1) (.cons (.var 3) .nil)))
  .nil)))))
  (.cons (.ret (.cst (.bool true)))
  .nil))))
def fn_is_body : Fn := { np := 1, ns := 4, body := ir_is_body }
def ir_turned_cell : SL := (.cons (.asg (.tp [2, 3, 4]) (.var 1))
  (.cons (.ifs (.cmp .eq (.var 0) (.cst (.str "x"))) (.cons (.ret (.tup (.cons (.var 2) (.cons (.bin .sub (.bin .sub (.glb 0) (.cst (.int 1))) (.var 4)) (.cons (.var 3) .nil)))))
  .nil) .nil)
  (.cons (.ret (.ife (.cmp .eq (.var 0) (.cst (.str "y"))) (.tup (.cons (.var 4) (.cons (.var 3) (.cons (.bin .sub (.bin .sub (.glb 0) (.cst (.int 1))) (.var 2)) .nil)))) (.tup (.cons (.bin .sub (.bin .sub (.glb 0) (.cst (.int 1))) (.var 3)) (.cons (.var 2) (.cons (.var 4) .nil))))))
  .nil)))
def fn_turned_cell : Fn := { np := 2, ns := 5, body := ir_turned_cell }
def ir_within : SL := (.cons (.ifs (.cmp .ne (.lc [1] (.nm 1) .val (.cons (.var 0) .nil) (.cons (.nt (.call ix_is_cell (.cons (.var 1) .nil))) .nil) (.var 1)) (.lst .nil)) (.cons (.rais 1)
  .nil) .nil)
  (.cons (.ret (.var 0))
  .nil))
def fn_within : Fn := { np := 1, ns := 2, body := ir_within }
def ir_block_cells : SL := (.cons (.asg (.nm 2) (.mlst .nil))
  (.cons (.for_ (.nm 3) .rng (.cons (.sub (.var 0) (.cst (.int 0))) (.cons (.bin .add (.sub (.var 0) (.cst (.int 0))) (.sub (.var 1) (.cst (.int 0)))) .nil)) (.cons (.for_ (.nm 4) .rng (.cons (.sub (.var 0) (.cst (.int 1))) (.cons (.bin .add (.sub (.var 0) (.cst (.int 1))) (.sub (.var 1) (.cst (.int 1)))) .nil)) (.cons (.exp (.mth .extend (.var 2) (.cons (.lc [5] (.nm 5) .rng (.cons (.sub (.var 0) (.cst (.int 2))) (.cons (.bin .add (.sub (.var 0) (.cst (.int 2))) (.sub (.var 1) (.cst (.int 2)))) .nil)) .nil (.tup (.cons (.var 3) (.cons (.var 4) (.cons (.var 5) .nil))))) .nil)))
  .nil))
  .nil))
  (.cons (.ret (.var 2))
  .nil)))
def fn_block_cells : Fn := { np := 2, ns := 6, body := ir_block_cells }
def ir_all_cells : SL := (.cons (.asg (.nm 1) (.sub (.var 0) (.cst (.int 0))))
  (.cons (.ifs (.cmp .eq (.var 1) (.cst (.str "block"))) (.cons (.asg (.nm 2) (.call ix_within (.cons (.call ix_block_cells (.cons (.sub (.var 0) (.cst (.int 1))) (.cons (.sub (.var 0) (.cst (.int 2))) .nil))) .nil)))
  .nil) (.cons (.ifs (.cmp .eq (.var 1) (.cst (.str "cells"))) (.cons (.asg (.nm 2) (.bl .list (.cons (.sub (.var 0) (.cst (.int 1))) .nil)))
  .nil) (.cons (.ifs (.cmp .eq (.var 1) (.cst (.str "moved"))) (.cons (.asg (.nm 3) (.sub (.var 0) (.cst (.int 1))))
  (.cons (.asg (.nm 2) (.call ix_within (.cons (.lc [7, 8, 9] (.tp [7, 8, 9]) .val (.cons (.call ix_all_cells (.cons (.sub (.var 0) (.cst (.int 2))) .nil)) .nil) .nil (.tup (.cons (.bin .add (.var 7) (.sub (.var 3) (.cst (.int 0)))) (.cons (.bin .add (.var 8) (.sub (.var 3) (.cst (.int 1)))) (.cons (.bin .add (.var 9) (.sub (.var 3) (.cst (.int 2)))) .nil))))) .nil)))
  .nil)) (.cons (.ifs (.cmp .eq (.var 1) (.cst (.str "turned"))) (.cons (.asg (.nm 2) (.lc [4] (.nm 4) .val (.cons (.call ix_all_cells (.cons (.sub (.var 0) (.cst (.int 2))) .nil)) .nil) .nil (.call ix_turned_cell (.cons (.sub (.var 0) (.cst (.int 1))) (.cons (.var 4) .nil)))))
  .nil) (.cons (.asg (.nm 5) (.call ix_all_cells (.cons (.sub (.var 0) (.cst (.int 1))) .nil)))
  (.cons (.asg (.nm 6) (.call ix_all_cells (.cons (.sub (.var 0) (.cst (.int 2))) .nil)))
  (.cons (.ifs (.cmp .eq (.var 1) (.cst (.str "with"))) (.cons (.asg (.nm 2) (.bin .add (.bl .list (.cons (.var 5) .nil)) (.bl .list (.cons (.var 6) .nil))))
  .nil) (.cons (.asg (.nm 2) (.lc [4] (.nm 4) .val (.cons (.var 5) .nil) (.cons (.cmp .eq (.cmp .isin (.var 4) (.var 6)) (.cmp .eq (.var 1) (.cst (.str "common")))) .nil) (.var 4)))
  .nil))
  .nil))))
  .nil))
  .nil))
  .nil))
  (.cons (.ret (.bl .dict (.cons (.lc [4] (.nm 4) .val (.cons (.var 2) .nil) .nil (.tup (.cons (.var 4) (.cons (.cst (.bool true)) .nil)))) .nil)))
  .nil)))
def fn_all_cells : Fn := { np := 1, ns := 10, body := ir_all_cells }
def ir_known_cells : SL := (.cons (.ifs (.nt (.call ix_is_body (.cons (.var 0) .nil))) (.cons (.rais 0)
  .nil) .nil)
  (.cons (.ret (.bl .dict (.cons (.lc [1] (.nm 1) .val (.cons (.bl .sorted (.cons (.call ix_all_cells (.cons (.var 0) .nil)) .nil)) .nil) .nil (.tup (.cons (.var 1) (.cons (.cst (.bool true)) .nil)))) .nil)))
  .nil))
def fn_known_cells : Fn := { np := 1, ns := 2, body := ir_known_cells }
def ir_cells : SL := (.cons (.ret (.bl .list (.cons (.call ix_known_cells (.cons (.var 0) .nil)) .nil)))
  .nil)
def fn_cells : Fn := { np := 1, ns := 1, body := ir_cells }
def ir_written : SL := (.cons (.asg (.nm 1) (.call ix_known_cells (.cons (.var 0) .nil)))
  (.cons (.asg (.nm 2) (.mlst .nil))
  (.cons (.for_ (.nm 3) .rng (.cons (.bin .add (.bl .maxD (.cons (.lc [5] (.nm 5) .val (.cons (.var 1) .nil) .nil (.sub (.var 5) (.cst (.int 2)))) (.cons (.neg (.cst (.int 1))) .nil))) (.cst (.int 1))) .nil) (.cons (.ifs (.cmp .gt (.var 3) (.cst (.int 0))) (.cons (.exp (.mth .append (.var 2) (.cons (.cst (.str "-")) .nil)))
  .nil) .nil)
  (.cons (.for_ (.nm 4) .rng (.cons (.glb 0) .nil) (.cons (.exp (.mth .append (.var 2) (.cons (.mth .join (.cst (.str "")) (.cons (.lc [6] (.nm 6) .rng (.cons (.glb 0) .nil) .nil (.ife (.cmp .isin (.tup (.cons (.var 6) (.cons (.var 4) (.cons (.var 3) .nil)))) (.var 1)) (.cst (.str "#")) (.cst (.str ".")))) .nil)) .nil)))
  .nil))
  .nil)))
  (.cons (.ret (.mth .join (.cst (.str "\n")) (.cons (.var 2) .nil)))
  .nil))))
def fn_written : Fn := { np := 1, ns := 7, body := ir_written }
def ir_is_row : SL := (.cons (.ret (.boo true (.cons (.cmp .eq (.bl .len (.cons (.var 0) .nil)) (.glb 0)) (.cons (.cmp .eq (.lc [1] (.nm 1) .val (.cons (.var 0) .nil) (.cons (.cmp .nin (.var 1) (.glb 4)) .nil) (.var 1)) (.lst .nil)) .nil))))
  .nil)
def fn_is_row : Fn := { np := 1, ns := 2, body := ir_is_row }
def ir_read : SL := (.cons (.asg (.nm 1) (.ife (.cmp .ne (.var 0) (.cst (.str ""))) (.mth .split (.var 0) (.cons (.cst (.str "\n")) .nil)) (.lst .nil)))
  (.cons (.asg (.nm 2) (.mlst .nil))
  (.cons (.for_ (.tp [4, 5]) .enum (.cons (.var 1) .nil) (.cons (.asg (.tp [6, 7]) (.bl .dvm (.cons (.var 4) (.cons (.bin .add (.glb 0) (.cst (.int 1))) .nil))))
  (.cons (.ifs (.boo false (.cons (.cmp .ge (.bin .add (.bin .mul (.var 6) (.bin .add (.glb 0) (.cst (.int 1)))) (.var 7)) (.bin .sub (.bin .mul (.glb 0) (.bin .add (.glb 0) (.cst (.int 1)))) (.cst (.int 1)))) (.cons (.nt (.ife (.cmp .eq (.var 7) (.glb 0)) (.cmp .eq (.var 5) (.cst (.str "-"))) (.call ix_is_row (.cons (.var 5) .nil)))) .nil))) (.cons .nope
  .nil) .nil)
  (.cons (.ifs (.cmp .lt (.var 7) (.glb 0)) (.cons (.exp (.mth .extend (.var 2) (.cons (.lc [9] (.nm 9) .rng (.cons (.glb 0) .nil) (.cons (.cmp .eq (.sub (.var 5) (.var 9)) (.cst (.str "#"))) .nil) (.tup (.cons (.var 9) (.cons (.var 7) (.cons (.var 6) .nil))))) .nil)))
  .nil) .nil)
  .nil))))
  (.cons (.ifs (.boo true (.cons (.cmp .gt (.bl .len (.cons (.var 1) .nil)) (.cst (.int 0))) (.cons (.cmp .ne (.bin .mod (.bl .len (.cons (.var 1) .nil)) (.bin .add (.glb 0) (.cst (.int 1)))) (.glb 0)) .nil))) (.cons .nope
  .nil) .nil)
  (.cons (.asg (.nm 3) (.bin .sub (.bin .fdiv (.bin .add (.bl .len (.cons (.var 1) .nil)) (.cst (.int 1))) (.bin .add (.glb 0) (.cst (.int 1)))) (.cst (.int 1))))
  (.cons (.ifs (.boo true (.cons (.cmp .ge (.var 3) (.cst (.int 0))) (.cons (.cmp .eq (.lc [8] (.nm 8) .val (.cons (.var 2) .nil) (.cons (.cmp .eq (.sub (.var 8) (.cst (.int 2))) (.var 3)) .nil) (.var 8)) (.lst .nil)) .nil))) (.cons .nope
  .nil) .nil)
  (.cons (.ret (.tup (.cons (.cst (.str "cells")) (.cons (.bl .tuple (.cons (.bl .sorted (.cons (.var 2) .nil)) .nil)) .nil))))
  .nil)))))))
def fn_read : Fn := { np := 1, ns := 10, body := ir_read }
def ir_l_mix : SL := (.cons (.asg (.nm 2) (.var 1))
  (.cons (.for_ (.nm 3) .val (.cons (.var 0) .nil) (.cons (.asg (.nm 2) (.bin .mod (.bin .add (.bin .add (.bin .mul (.var 2) (.cst (.int 48271))) (.bin .mod (.var 3) (.cst (.int 2147483629)))) (.cst (.int 1))) (.cst (.int 2147483647))))
  .nil))
  (.cons (.ret (.mlst (.cons (.var 2) (.cons (.mbl .list (.cons (.var 0) .nil)) (.cons (.cst (.int 0)) .nil)))))
  .nil)))
def fn_l_mix : Fn := { np := 2, ns := 4, body := ir_l_mix }
def ir_l_next : SL := (.cons (.asg (.nm 2) (.bin .mod (.sub (.var 0) (.cst (.int 2))) (.bl .max2 (.cons (.cst (.int 1)) (.cons (.bl .len (.cons (.sub (.var 0) (.cst (.int 1))) .nil)) .nil)))))
  (.cons (.asg (.nm 3) (.ife (.cmp .ne (.sub (.var 0) (.cst (.int 1))) (.lst .nil)) (.sub (.sub (.var 0) (.cst (.int 1))) (.var 2)) (.cst (.int 0))))
  (.cons (.ifs (.cmp .ge (.var 3) (.bin .pow (.cst (.int 10)) (.cst (.int 18)))) (.cons (.ast (.sub (.var 0) (.cst (.int 1))) (.var 2) (.bin .fdiv (.var 3) (.var 1)))
  (.cons (.ret (.bin .mod (.var 3) (.var 1)))
  .nil)) .nil)
  (.cons (.ast (.var 0) (.cst (.int 0)) (.bin .mod (.bin .add (.bin .add (.bin .mul (.sub (.var 0) (.cst (.int 0))) (.cst (.int 48271))) (.bin .mul (.var 3) (.cst (.int 69621)))) (.cst (.int 11))) (.cst (.int 2147483647))))
  (.cons (.ast (.var 0) (.cst (.int 2)) (.bin .add (.sub (.var 0) (.cst (.int 2))) (.cst (.int 1))))
  (.cons (.ret (.bin .mod (.bin .fdiv (.sub (.var 0) (.cst (.int 0))) (.cst (.int 7))) (.var 1)))
  .nil))))))
def fn_l_next : Fn := { np := 2, ns := 4, body := ir_l_next }
def ir_l_alike : SL := (.cons (.ifs (.isi (.var 1) [.tuple, .list]) (.cons (.ifs (.boo false (.cons (.nt (.isi (.var 0) [.tuple, .list])) (.cons (.cmp .ne (.isi (.var 0) [.list]) (.isi (.var 1) [.list])) .nil))) (.cons (.ret (.cst (.bool false)))
  .nil) .nil)
  (.cons (.ifs (.cmp .ne (.bl .len (.cons (.var 0) .nil)) (.bl .len (.cons (.var 1) .nil))) (.cons (.ret (.cst (.bool false)))
  .nil) .nil)
  (.cons (.ret (.cmp .eq (.lc [2] (.nm 2) .rng (.cons (.bl .len (.cons (.var 1) .nil)) .nil) (.cons (.nt (.call ix_l_alike (.cons (.sub (.var 0) (.var 2)) (.cons (.sub (.var 1) (.var 2)) .nil)))) .nil) (.var 2)) (.lst .nil)))
  .nil))) .nil)
  (.cons (.ifs (.cmp .is (.var 1) (.cst .none)) (.cons (.ret (.cmp .is (.var 0) (.cst .none)))
  .nil) .nil)
  (.cons (.ifs (.isi (.var 1) [.str]) (.cons (.ret (.boo true (.cons (.isi (.var 0) [.str]) (.cons (.cmp .eq (.var 0) (.var 1)) .nil))))
  .nil) .nil)
  (.cons (.ifs (.boo false (.cons (.isi (.var 1) [.bool]) (.cons (.isi (.var 0) [.bool]) .nil))) (.cons (.ret (.boo true (.cons (.isi (.var 1) [.bool]) (.cons (.isi (.var 0) [.bool]) (.cons (.cmp .eq (.var 0) (.var 1)) .nil)))))
  .nil) .nil)
  (.cons (.ret (.boo true (.cons (.isi (.var 0) [.int]) (.cons (.cmp .eq (.var 0) (.var 1)) .nil))))
  .nil)))))
def fn_l_alike : Fn := { np := 2, ns := 3, body := ir_l_alike }
def ir_l_inside : SL := (.cons (.asg (.nm 2) (.sub (.var 0) (.cst (.int 0))))
  (.cons (.asg (.tp [5, 6, 7]) (.var 1))
  (.cons (.ifs (.cmp .eq (.var 2) (.cst (.str "block"))) (.cons (.asg (.tp [10, 11]) (.slc (.var 0) (.cons (.cst (.int 1)) .nil) .nil))
  (.cons (.ret (.cmp .eq (.lc [12] (.nm 12) .rng (.cons (.cst (.int 3)) .nil) (.cons (.nt (.chn .le .lt (.cst (.int 0)) (.bin .sub (.sub (.var 1) (.var 12)) (.sub (.var 10) (.var 12))) (.sub (.var 11) (.var 12)))) .nil) (.var 12)) (.lst .nil)))
  .nil)) .nil)
  (.cons (.ifs (.cmp .eq (.var 2) (.cst (.str "cells"))) (.cons (.ret (.cmp .isin (.var 1) (.sub (.var 0) (.cst (.int 1)))))
  .nil) .nil)
  (.cons (.ifs (.cmp .eq (.var 2) (.cst (.str "moved"))) (.cons (.asg (.nm 8) (.sub (.var 0) (.cst (.int 1))))
  (.cons (.ret (.call ix_l_inside (.cons (.sub (.var 0) (.cst (.int 2))) (.cons (.tup (.cons (.bin .sub (.var 5) (.sub (.var 8) (.cst (.int 0)))) (.cons (.bin .sub (.var 6) (.sub (.var 8) (.cst (.int 1)))) (.cons (.bin .sub (.var 7) (.sub (.var 8) (.cst (.int 2)))) .nil)))) .nil))))
  .nil)) .nil)
  (.cons (.ifs (.cmp .eq (.var 2) (.cst (.str "turned"))) (.cons (.asg (.nm 9) (.sdi ["x", "y", "z"] (.cons (.tup (.cons (.var 5) (.cons (.var 7) (.cons (.bin .sub (.cst (.int 3)) (.var 6)) .nil)))) (.cons (.tup (.cons (.bin .sub (.cst (.int 3)) (.var 7)) (.cons (.var 6) (.cons (.var 5) .nil)))) (.cons (.tup (.cons (.var 6) (.cons (.bin .sub (.cst (.int 3)) (.var 5)) (.cons (.var 7) .nil)))) .nil)))))
  (.cons (.ret (.call ix_l_inside (.cons (.sub (.var 0) (.cst (.int 2))) (.cons (.sub (.var 9) (.sub (.var 0) (.cst (.int 1)))) .nil))))
  .nil)) .nil)
  (.cons (.asg (.nm 3) (.call ix_l_inside (.cons (.sub (.var 0) (.cst (.int 1))) (.cons (.var 1) .nil))))
  (.cons (.asg (.nm 4) (.call ix_l_inside (.cons (.sub (.var 0) (.cst (.int 2))) (.cons (.var 1) .nil))))
  (.cons (.ifs (.cmp .eq (.var 2) (.cst (.str "with"))) (.cons (.ret (.boo false (.cons (.var 3) (.cons (.var 4) .nil))))
  .nil) .nil)
  (.cons (.ret (.boo true (.cons (.var 3) (.cons (.cmp .eq (.var 4) (.cmp .eq (.var 2) (.cst (.str "common")))) .nil))))
  .nil))))))))))
def fn_l_inside : Fn := { np := 2, ns := 13, body := ir_l_inside }
def ir_l_all : SL := (.cons (.asg (.nm 1) (.lc [2] (.nm 2) .rng (.cons (.cst (.int 64)) .nil) .nil (.tup (.cons (.bin .fdiv (.var 2) (.cst (.int 16))) (.cons (.bin .mod (.bin .fdiv (.var 2) (.cst (.int 4))) (.cst (.int 4))) (.cons (.bin .mod (.var 2) (.cst (.int 4))) .nil))))))
  (.cons (.ret (.lc [3] (.nm 3) .val (.cons (.var 1) .nil) (.cons (.call ix_l_inside (.cons (.var 0) (.cons (.var 3) .nil))) .nil) (.var 3)))
  .nil))
def fn_l_all : Fn := { np := 1, ns := 4, body := ir_l_all }
def ir_l_body : SL := (.cons (.asg (.nm 2) (.call ix_l_next (.cons (.var 0) (.cons (.cst (.int 10)) .nil))))
  (.cons (.ifs (.boo false (.cons (.cmp .eq (.var 1) (.cst (.int 0))) (.cons (.cmp .lt (.var 2) (.cst (.int 3))) .nil))) (.cons (.asg (.nm 7) (.tup (.cons (.call ix_l_next (.cons (.var 0) (.cons (.cst (.int 4)) .nil))) (.cons (.call ix_l_next (.cons (.var 0) (.cons (.cst (.int 4)) .nil))) (.cons (.sub (.lst (.cons (.cst (.int 0)) (.cons (.call ix_l_next (.cons (.var 0) (.cons (.cst (.int 4)) .nil))) .nil))) (.call ix_l_next (.cons (.var 0) (.cons (.cst (.int 2)) .nil)))) .nil)))))
  (.cons (.ret (.tup (.cons (.cst (.str "block")) (.cons (.var 7) (.cons (.bl .tuple (.cons (.lc [11] (.nm 11) .val (.cons (.var 7) .nil) .nil (.bin .add (.cst (.int 1)) (.call ix_l_next (.cons (.var 0) (.cons (.bin .sub (.cst (.int 4)) (.var 11)) .nil))))) .nil)) .nil)))))
  .nil)) .nil)
  (.cons (.ifs (.cmp .eq (.var 2) (.cst (.int 3))) (.cons (.asg (.nm 4) (.lc [6] (.nm 6) .rng (.cons (.call ix_l_next (.cons (.var 0) (.cons (.cst (.int 14)) .nil))) .nil) .nil (.tup (.cons (.call ix_l_next (.cons (.var 0) (.cons (.cst (.int 4)) .nil))) (.cons (.call ix_l_next (.cons (.var 0) (.cons (.cst (.int 4)) .nil))) (.cons (.call ix_l_next (.cons (.var 0) (.cons (.cst (.int 4)) .nil))) .nil))))))
  (.cons (.ret (.tup (.cons (.cst (.str "cells")) (.cons (.bl .tuple (.cons (.bl .sortset (.cons (.var 4) .nil)) .nil)) .nil))))
  .nil)) .nil)
  (.cons (.ifs (.cmp .lt (.var 2) (.cst (.int 8))) (.cons (.asg (.nm 8) (.sub (.lst (.cons (.cst (.str "with")) (.cons (.cst (.str "with")) (.cons (.cst (.str "less")) (.cons (.cst (.str "common")) .nil))))) (.bin .sub (.var 2) (.cst (.int 4)))))
  (.cons (.ret (.tup (.cons (.var 8) (.cons (.call ix_l_body (.cons (.var 0) (.cons (.bin .sub (.var 1) (.cst (.int 1))) .nil))) (.cons (.call ix_l_body (.cons (.var 0) (.cons (.bin .sub (.var 1) (.cst (.int 1))) .nil))) .nil)))))
  .nil)) .nil)
  (.cons (.asg (.nm 3) (.call ix_l_body (.cons (.var 0) (.cons (.bin .sub (.var 1) (.cst (.int 1))) .nil))))
  (.cons (.ifs (.cmp .eq (.var 2) (.cst (.int 8))) (.cons (.ret (.tup (.cons (.cst (.str "turned")) (.cons (.sub (.cst (.str "xyz")) (.call ix_l_next (.cons (.var 0) (.cons (.cst (.int 3)) .nil)))) (.cons (.var 3) .nil)))))
  .nil) .nil)
  (.cons (.asg (.nm 4) (.call ix_l_all (.cons (.var 3) .nil)))
  (.cons (.asg (.nm 5) (.mlst .nil))
  (.cons (.for_ (.nm 6) .rng (.cons (.cst (.int 3)) .nil) (.cons (.asg (.nm 9) (.bl .minD (.cons (.lc [7] (.nm 7) .val (.cons (.var 4) .nil) .nil (.sub (.var 7) (.var 6))) (.cons (.cst (.int 0)) .nil))))
  (.cons (.asg (.nm 10) (.bl .maxD (.cons (.lc [7] (.nm 7) .val (.cons (.var 4) .nil) .nil (.sub (.var 7) (.var 6))) (.cons (.cst (.int 3)) .nil))))
  (.cons (.exp (.mth .append (.var 5) (.cons (.bin .sub (.call ix_l_next (.cons (.var 0) (.cons (.bin .add (.bin .sub (.cst (.int 4)) (.var 10)) (.var 9)) .nil))) (.var 9)) .nil)))
  .nil))))
  (.cons (.ret (.tup (.cons (.cst (.str "moved")) (.cons (.bl .tuple (.cons (.var 5) .nil)) (.cons (.var 3) .nil)))))
  .nil))))))))))
def fn_l_body : Fn := { np := 2, ns := 12, body := ir_l_body }
def ir_l_whole : SL := (.cons (.ret (.boo true (.cons (.isi (.var 0) [.int]) (.cons (.nt (.isi (.var 0) [.bool])) (.cons (.chn .le .le (.var 1) (.var 0) (.var 2)) .nil)))))
  .nil)
def fn_l_whole : Fn := { np := 3, ns := 3, body := ir_l_whole }
def ir_l_numbers : SL := (.cons (.ifs (.boo false (.cons (.nt (.isi (.var 0) [.tuple])) (.cons (.cmp .ne (.bl .len (.cons (.var 0) .nil)) (.cst (.int 3))) .nil))) (.cons (.ret (.cst (.bool false)))
  .nil) .nil)
  (.cons (.ret (.cmp .eq (.lc [3] (.nm 3) .val (.cons (.var 0) .nil) (.cons (.nt (.call ix_l_whole (.cons (.var 3) (.cons (.var 1) (.cons (.var 2) .nil))))) .nil) (.var 3)) (.lst .nil)))
  .nil))
def fn_l_numbers : Fn := { np := 3, ns := 4, body := ir_l_numbers }
def ir_l_counted : SL := (.cons (.ifs (.boo false (.cons (.nt (.isi (.var 0) [.tuple])) (.cons (.cmp .eq (.var 0) (.tup .nil)) .nil))) (.cons (.ret (.cst (.int 99)))
  .nil) .nil)
  (.cons (.asg (.nm 1) (.sub (.var 0) (.cst (.int 0))))
  (.cons (.ifs (.boo true (.cons (.cmp .eq (.var 1) (.cst (.str "block"))) (.cons (.cmp .eq (.bl .len (.cons (.var 0) .nil)) (.cst (.int 3))) .nil))) (.cons (.ret (.ife (.boo true (.cons (.call ix_l_numbers (.cons (.sub (.var 0) (.cst (.int 1))) (.cons (.cst (.int 0)) (.cons (.cst (.int 3)) .nil)))) (.cons (.call ix_l_numbers (.cons (.sub (.var 0) (.cst (.int 2))) (.cons (.cst (.int 1)) (.cons (.cst (.int 4)) .nil)))) .nil))) (.cst (.int 1)) (.cst (.int 99))))
  .nil) .nil)
  (.cons (.ifs (.boo true (.cons (.cmp .eq (.var 1) (.cst (.str "cells"))) (.cons (.cmp .eq (.bl .len (.cons (.var 0) .nil)) (.cst (.int 2))) (.cons (.isi (.sub (.var 0) (.cst (.int 1))) [.tuple]) .nil)))) (.cons (.ifs (.cmp .ne (.lc [2] (.nm 2) .val (.cons (.sub (.var 0) (.cst (.int 1))) .nil) (.cons (.nt (.call ix_l_numbers (.cons (.var 2) (.cons (.cst (.int 0)) (.cons (.cst (.int 3)) .nil))))) .nil) (.var 2)) (.lst .nil)) (.cons (.ret (.cst (.int 99)))
  .nil) .nil)
  (.cons (.ret (.ife (.cmp .eq (.bl .list (.cons (.sub (.var 0) (.cst (.int 1))) .nil)) (.bl .sortset (.cons (.sub (.var 0) (.cst (.int 1))) .nil))) (.cst (.int 1)) (.cst (.int 99))))
  .nil)) .nil)
  (.cons (.ifs (.boo true (.cons (.cmp .isin (.var 1) (.tup (.cons (.cst (.str "with")) (.cons (.cst (.str "common")) (.cons (.cst (.str "less")) .nil))))) (.cons (.cmp .eq (.bl .len (.cons (.var 0) .nil)) (.cst (.int 3))) .nil))) (.cons (.ret (.bin .add (.bin .add (.cst (.int 1)) (.call ix_l_counted (.cons (.sub (.var 0) (.cst (.int 1))) .nil))) (.call ix_l_counted (.cons (.sub (.var 0) (.cst (.int 2))) .nil))))
  .nil) .nil)
  (.cons (.ifs (.boo true (.cons (.cmp .eq (.var 1) (.cst (.str "moved"))) (.cons (.cmp .eq (.bl .len (.cons (.var 0) .nil)) (.cst (.int 3))) (.cons (.call ix_l_numbers (.cons (.sub (.var 0) (.cst (.int 1))) (.cons (.neg (.cst (.int 3))) (.cons (.cst (.int 3)) .nil)))) .nil)))) (.cons (.ret (.bin .add (.cst (.int 1)) (.call ix_l_counted (.cons (.sub (.var 0) (.cst (.int 2))) .nil))))
  .nil) .nil)
  (.cons (.ifs (.boo true (.cons (.cmp .eq (.var 1) (.cst (.str "turned"))) (.cons (.cmp .eq (.bl .len (.cons (.var 0) .nil)) (.cst (.int 3))) (.cons (.cmp .isin (.sub (.var 0) (.cst (.int 1))) (.tup (.cons (.cst (.str "x")) (.cons (.cst (.str "y")) (.cons (.cst (.str "z")) .nil))))) .nil)))) (.cons (.ret (.bin .add (.cst (.int 1)) (.call ix_l_counted (.cons (.sub (.var 0) (.cst (.int 2))) .nil))))
  .nil) .nil)
  (.cons (.ret (.cst (.int 99)))
  .nil))))))))
def fn_l_counted : Fn := { np := 1, ns := 3, body := ir_l_counted }
def ir_l_text : SL := (.cons (.asg (.nm 1) (.lst .nil))
  (.cons (.for_ (.nm 2) .rng (.cons (.bin .add (.bl .maxD (.cons (.lc [4] (.nm 4) .val (.cons (.var 0) .nil) .nil (.sub (.var 4) (.cst (.int 2)))) (.cons (.neg (.cst (.int 1))) .nil))) (.cst (.int 1))) .nil) (.cons (.asg (.nm 1) (.bin .add (.bin .add (.var 1) (.slc (.lst (.cons (.cst (.str "-")) .nil)) .nil (.cons (.var 2) .nil))) (.lc [3] (.nm 3) .rng (.cons (.cst (.int 4)) .nil) .nil (.mth .join (.cst (.str "")) (.cons (.lc [5] (.nm 5) .rng (.cons (.cst (.int 4)) .nil) .nil (.sub (.cst (.str ".#")) (.bl .int (.cons (.cmp .isin (.tup (.cons (.var 5) (.cons (.var 3) (.cons (.var 2) .nil)))) (.var 0)) .nil)))) .nil)))))
  .nil))
  (.cons (.ret (.mth .join (.cst (.str "\n")) (.cons (.var 1) .nil)))
  .nil)))
def fn_l_text : Fn := { np := 1, ns := 6, body := ir_l_text }
def ir_law : SL := (.cons (.asg (.nm 1) (.call ix_l_mix (.cons (.var 0) (.cons (.cst (.int 43)) .nil))))
  (.cons (.for_ (.nm 2) .rng (.cons (.cst (.int 4)) .nil) (.cons (.asg (.nm 3) (.call ix_l_body (.cons (.var 1) (.cons (.bin .add (.cst (.int 1)) (.call ix_l_next (.cons (.var 1) (.cons (.cst (.int 4)) .nil)))) .nil))))
  (.cons (.asg (.nm 4) (.call ix_l_all (.cons (.var 3) .nil)))
  (.cons (.ifs (.cmp .gt (.call ix_l_counted (.cons (.var 3) .nil)) (.cst (.int 20))) (.cons (.asg (.nm 3) (.tup (.cons (.cst (.str "cells")) (.cons (.bl .tuple (.cons (.var 4) .nil)) .nil))))
  .nil) .nil)
  (.cons (.asg (.nm 5) (.call ix_l_text (.cons (.var 4) .nil)))
  (.cons (.asg (.nm 6) (.call ix_read (.cons (.var 5) .nil)))
  (.cons (.ifs (.boo false (.cons (.nt (.call ix_l_alike (.cons (.call ix_written (.cons (.var 3) .nil)) (.cons (.var 5) .nil)))) (.cons (.nt (.call ix_l_alike (.cons (.var 6) (.cons (.tup (.cons (.cst (.str "cells")) (.cons (.bl .tuple (.cons (.var 4) .nil)) .nil))) .nil)))) .nil))) (.cons (.ret (.cst (.bool false)))
  .nil) .nil)
  (.cons (.ifs (.boo false (.cons (.cmp .ne (.call ix_written (.cons (.var 6) .nil)) (.var 5)) (.cons (.cmp .ne (.call ix_cells (.cons (.var 6) .nil)) (.var 4)) .nil))) (.cons (.ret (.cst (.bool false)))
  .nil) .nil)
  .nil))))))))
  (.cons (.ret (.cst (.bool true)))
  .nil)))
def fn_law : Fn := { np := 1, ns := 7, body := ir_law }
def cfg : Cfg := { glb := [(.int 4), (.int 20), (.tuple [(.str "with"), (.str "common"), (.str "less")]), (.tuple [(.str "x"), (.str "y"), (.str "z")]), (.tuple [(.str "#"), (.str ".")])], exn := ["NoBody", "Outside", "NoLayer", "NoProp", "BadReach", "BadPlace"] }
def prog : List Fn := [fn_are_numbers, fn_is_cell, fn_are_cells, fn_inner_of, fn_is_body, fn_turned_cell, fn_within, fn_block_cells, fn_all_cells, fn_known_cells, fn_cells, fn_written, fn_is_row, fn_read, fn_l_mix, fn_l_next, fn_l_alike, fn_l_inside, fn_l_all, fn_l_body, fn_l_whole, fn_l_numbers, fn_l_counted, fn_l_text]
end K13

-- PA13
namespace K13
open PySem DL
@[simp] theorem glb0 : cfg.glb[0]? = some (.int 4) := rfl
@[simp] theorem glb1 : cfg.glb[1]? = some (.int 20) := rfl
@[simp] theorem glb2 : cfg.glb[2]? = some (.tuple [.str "with", .str "common", .str "less"]) := rfl
@[simp] theorem glb3 : cfg.glb[3]? = some (.tuple [.str "x", .str "y", .str "z"]) := rfl
theorem Ph_run {k f : Nat} {F : Fn} (hk : 1 ≤ k) (hF : prog[f]? = some F) {args : List RV} {st : Store} (h : args.length = F.np) : Ph cfg prog k f args st = (exes cfg (Ph cfg prog (k - 1)) (Ph cfg prog (k - 3)) F.body (args.map some ++ List.replicate (F.ns - F.np) none) st).res st.length := by
  rw [Ph_succ hk hF, run_eq h]
section
variable {k : Nat} {st : Store} {g g1 g2 g3 : Gn}
theorem are_numbers_ok (hk : 1 ≤ k) (c : Cl) (lo hi : Int) : callF (Ph cfg prog k ix_are_numbers) [.d g (cD c), .d g1 (.int lo), .d g2 (.int hi)] st = .ok (.d .pur (.bool (inR lo hi c))) st := by
  rw [call0 rfl, Ph_run hk (show _ = some fn_are_numbers from rfl) rfl]
  simp -dsimp [fn_are_numbers, ir_are_numbers, frTurn, inR]
  obtain ⟨a, b, c⟩ := c
  by_cases h1 : a < lo ∨ hi < a <;> by_cases h2 : b < lo ∨ hi < b <;> by_cases h3 : c < lo ∨ hi < c <;> simp [h1, h2, h3] <;> omega
theorem is_cell_ok (hk : 2 ≤ k) (c : Cl) : callF (Ph cfg prog k ix_is_cell) [.d g (cD c)] st = .ok (.d .pur (.bool (inR 0 3 c))) st := by
  rw [call0 rfl, Ph_run (by omega) (show _ = some fn_is_cell from rfl) rfl]
  simp -dsimp [fn_is_cell, ir_is_cell, are_numbers_ok (show 1 ≤ k - 1 by omega)]
theorem mapM_intTup (L : List Cl) : L.mapM (intTup ∘ cD) = some (L.map fun c => [c.1, c.2.1, c.2.2]) := by
  induction L with
  | nil => rfl
  | cons c L ih =>
    rw [List.mapM_cons, ih]
    rfl
theorem are_cells_ok (hk : 3 ≤ k) (L : List Cl) (h : Ok (.cel L)) : callF (Ph cfg prog k ix_are_cells) [.d g (.tuple (L.map cD))] st = .ok (.d .pur (.bool true)) st := by
  obtain ⟨h1, h2, h3⟩ := h
  rw [call0 rfl, Ph_run (by omega) (show _ = some fn_are_cells from rfl) rfl]
  simp -dsimp [fn_are_cells, ir_are_cells]
  rw [lcL_no L _ _ _ _ _ (fun c hc => by simp -dsimp [lcTrn, is_cell_ok (show 2 ≤ k - 1 by omega), inR_t (h1 c hc)])]
  have e1 : cellsOk (L.map fun c => [c.1, c.2.1, c.2.2]) = true := by
    have hd : dimOf (L.map fun c => [c.1, c.2.1, c.2.2]) = 3 ∨ L = [] := by
      cases L with
      | nil => exact .inr rfl
      | cons c L => exact .inl rfl
    rcases hd with hd | rfl
    · unfold cellsOk
      rw [hd]
      simp only [List.length_map, Bool.and_eq_true, decide_eq_true_eq, List.all_eq_true, List.mem_map, forall_exists_index, and_imp]
      refine ⟨⟨h2, by omega⟩, ?_⟩
      rintro ns c hc rfl
      have := h1 c hc
      refine ⟨rfl, fun x hx => ?_⟩
      simp only [List.mem_cons, List.not_mem_nil, or_false] at hx
      simp only [Room, R3] at this
      omega
    · rfl
  have e2 : (tupI ∘ fun c : Cl => [c.1, c.2.1, c.2.2]) = cD := rfl
  simp -dsimp [mapM_intTup, e1, h3, e2, lstG_no (noLs_cells L)]
@[simp] theorem tws (w : Tw) : ((w.s : Str) = "block") = False ∧ ((w.s : Str) = "cells") = False ∧ ((w.s : Str) = "moved") = False ∧ ((w.s : Str) = "turned") = False := by
  cases w <;> simp [Tw.s]
/-- the bodies of which one is made -/
def innB : B → List B
  | .blk _ _ => []
  | .cel _ => []
  | .two _ a b => [a, b]
  | .mov _ a => [a]
  | .trn _ a => [a]
theorem inner_ok (hk : 4 ≤ k) (b : B) (h : Ok b) : callF (Ph cfg prog k ix_inner_of) [.d g (bD b)] st = .ok (.d .new (.list ((innB b).map bD))) st := by
  rw [call0 rfl, Ph_run (by omega) (show _ = some fn_inner_of from rfl) rfl]
  have h1 : 1 ≤ k - 1 := by omega
  have h2 : 2 ≤ k - 1 := by omega
  have h3 : 3 ≤ k - 1 := by omega
  cases b with
  | blk c s =>
    obtain ⟨q1, q2, _⟩ := h
    simp -dsimp [fn_inner_of, ir_inner_of, bD, is_cell_ok h2, are_numbers_ok h1, inR_t q1, inR_t q2, innB]
  | cel L =>
    simp -dsimp [fn_inner_of, ir_inner_of, bD, are_cells_ok h3 L h, innB]
  | two w a b =>
    cases w <;> simp -dsimp [fn_inner_of, ir_inner_of, bD, Tw.s, innB]
  | mov f a =>
    obtain ⟨q1, _⟩ := h
    simp -dsimp [fn_inner_of, ir_inner_of, bD, are_numbers_ok h1, inR_t q1, innB]
  | trn e a =>
    cases e <;> simp -dsimp [fn_inner_of, ir_inner_of, bD, Ed.s, innB]
theorem turned_ok (hk : 1 ≤ k) (e : Ed) (c : Cl) : callF (Ph cfg prog k ix_turned_cell) [.d g (.str e.s), .d g1 (cD c)] st = .ok (.d .pur (cD (turnC e c))) st := by
  rw [call0 rfl, Ph_run (by omega) (show _ = some fn_turned_cell from rfl) rfl]
  obtain ⟨x, y, z⟩ := c
  cases e <;> simp -dsimp [fn_turned_cell, ir_turned_cell, Ed.s, turnC]
theorem within_ok (hk : 3 ≤ k) (L : List Cl) (h : ∀ c ∈ L, Room c) : callF (Ph cfg prog k ix_within) [.d .new (.list (L.map cD))] st = .ok (.d .mix (.list (L.map cD))) st := by
  rw [call0 rfl, Ph_run (by omega) (show _ = some fn_within from rfl) rfl]
  simp -dsimp [fn_within, ir_within]
  rw [lcL_no L _ _ _ _ _ (fun c hc => by simp -dsimp [lcTrn, is_cell_ok (show 2 ≤ k - 1 by omega), inR_t (h c hc)])]
  simp -dsimp [Gn.down, Gn.up]
theorem block_ok (hk : 1 ≤ k) (c s : Cl) (h1 : Room c) (h2 : R3 1 4 s) : callF (Ph cfg prog k ix_block_cells) [.d g (cD c), .d g1 (cD s)] st = .ok (.d .new (.list ((blkL c s).map cD))) st := by
  rw [call0 rfl, Ph_run (by omega) (show _ = some fn_block_cells from rfl) rfl]
  obtain ⟨x, y, z⟩ := c
  obtain ⟨sx, sy, sz⟩ := s
  simp only [Room, R3] at h1 h2
  have a1 : x + sx < 1000000 := by omega
  have a2 : -1000000 < x + sx := by omega
  have a3 : x < 1000000 := by omega
  have a4 : -1000000 < x := by omega
  have b1 : y + sy < 1000000 := by omega
  have b2 : -1000000 < y + sy := by omega
  have b3 : y < 1000000 := by omega
  have b4 : -1000000 < y := by omega
  have c1 : z + sz < 1000000 := by omega
  have c2 : -1000000 < z + sz := by omega
  have c3 : z < 1000000 := by omega
  have c4 : -1000000 < z := by omega
  have ex : x + sx - x = sx := by omega
  have ey : y + sy - y = sy := by omega
  have ez : z + sz - z = sz := by omega
  simp -dsimp [fn_block_cells, ir_block_cells, a1, a2, a3, a4, ex, rngRV_rng]
  generalize hF : forL _ _ _ _ _ = F
  obtain ⟨env', st', rfl, a, b, c, P, hP, rfl, rfl⟩ := forL_rel hF (fun pre env st => ∃ a b c P, P = (pre.flatMap fun x => (rng y sy.toNat).flatMap fun y => (rng z sz.toNat).map fun z => (x, y, z)) ∧ env = [some (.d g.down (cD (x, y, z))), some (.d g1.down (cD (sx, sy, sz))), some (.c 0), a, b, c] ∧ st = [.lst (P.map fun c => .d .pur (cD c))]) ⟨none, none, none, [], rfl, rfl, rfl⟩ (by
    rintro pre u post env st epre ⟨a, b, c, P, hP, rfl, rfl⟩ O hO
    have lp : P.length ≤ 64 := by
      have := congrArg List.length epre
      simp at this
      have l1 := len_flatMap_le pre (fun x => (rng y sy.toNat).flatMap fun y => (rng z sz.toNat).map fun z => (x, y, z)) 16 fun x _ => by
        have := len_flatMap_le (rng y sy.toNat) (fun y => (rng z sz.toNat).map fun z => (x, y, z)) 4 fun y _ => by simp; omega
        rw [len_rng] at this
        omega
      rw [← hP] at l1
      omega
    simp -dsimp [frTurn, b1, b2, b3, b4, ey, rngRV_rng] at hO
    generalize hF : forL _ _ _ _ _ = F at hO
    obtain ⟨env', st', rfl, b', c', Q, hQ, rfl, rfl⟩ := forL_rel hF (fun pre2 env st => ∃ b c Q, Q = P ++ (pre2.flatMap fun y => (rng z sz.toNat).map fun z => (u, y, z)) ∧ env = [some (.d g.down (cD (x, y, z))), some (.d g1.down (cD (sx, sy, sz))), some (.c 0), some (.d .pur (.int u)), b, c] ∧ st = [.lst (Q.map fun c => .d .pur (cD c))]) ⟨_, _, P, by simp, rfl, rfl⟩ (by
      rintro pre2 v post2 env st epre2 ⟨b', c', Q, hQ, rfl, rfl⟩ O hO
      have lp2 : Q.length + sz.toNat ≤ 16777216 := by
        have := congrArg List.length epre2
        simp at this
        have l2 := len_flatMap_le pre2 (fun y => (rng z sz.toNat).map fun z => (u, y, z)) 4 fun y _ => by simp; omega
        rw [hQ, List.length_append]
        omega
      simp -dsimp [frTurn, c1, c2, c3, c4, ez, rngRV_rng] at hO
      rw [lcL_map (rng z sz.toNat) _ (fun z => .d .pur (cD (u, v, z))) _ _ _ _ (fun z _ => by simp -dsimp [lcTrn])] at hO
      simp -dsimp [noLs_map, lp2, Function.comp_def] at hO
      subst hO
      exact ⟨_, _, rfl, _, _, Q ++ (rng z sz.toNat).map fun z => (u, v, z), by simp [hQ], rfl, by simp [Function.comp_def]⟩)
    simp -dsimp at hO
    subst hO
    exact ⟨_, _, rfl, _, _, _, Q, by simp [hQ, hP], rfl, rfl⟩)
  simp -dsimp
  rw [ret0_lst (xs := P.map fun c => .d .pur (cD c)) rfl (datas_map _ _ _)]
  simp -dsimp [hP, blkL]
theorem all_cells_ok : ∀ (b : B) (k : Nat) (st : Store) (g : Gn), 5 + dep b ≤ k → Ok b → callF (Ph cfg prog k ix_all_cells) [.d g (bD b)] st = .ok (.c st.length) (st ++ [dcS false (acL b)])
  | .blk c s, k, st, g, hk, h => by
    have h1 : 1 ≤ k - 1 := by omega
    have h3 : 3 ≤ k - 1 := by omega
    have hr : ∀ x ∈ blkL c s, Room x := fun x hx => room_inB _ h x (by
      obtain ⟨_, q, _⟩ := h
      rw [mem_blkL _ _ _ (by omega)] at hx
      exact decide_eq_true hx)
    rw [call0 rfl, Ph_run (by omega) (show _ = some fn_all_cells from rfl) rfl]
    simp -dsimp [fn_all_cells, ir_all_cells, bD, block_ok h1 c s h.1 h.2.1, within_ok h3 _ hr]
    rw [lcL_map (blkL c s) _ (fun c => .d .pur (.tuple [cD c, .bool true])) _ _ _ _ (fun c hc => by simp -dsimp [lcTrn])]
    simp -dsimp
    rw [ret0_set rfl]
    rfl
  | .cel L, k, st, g, hk, h => by
    rw [call0 rfl, Ph_run (by omega) (show _ = some fn_all_cells from rfl) rfl]
    simp -dsimp [fn_all_cells, ir_all_cells, bD]
    rw [lcL_map L _ (fun c => .d .pur (.tuple [cD c, .bool true])) _ _ _ _ (fun c hc => by simp -dsimp [lcTrn])]
    simp -dsimp
    rw [ret0_set rfl]
    rfl
  | .mov f a, k, st, g, hk, h => by
    have h3 : 3 ≤ k - 1 := by omega
    simp only [dep] at hk
    have ih := fun st g => all_cells_ok a (k - 1) st g (by omega) h.2.1
    have hr : ∀ x ∈ (acL a).map (addC f), Room x := fun x hx => by
      obtain ⟨d, hd, rfl⟩ := List.mem_map.mp hx
      exact h.2.2 d ((mem_acL a h.2.1 d).mp hd)
    have hw := within_ok (st := [dcS false (acL a)]) h3 _ hr
    simp only [List.map_map, Function.comp_def] at hw
    rw [call0 rfl, Ph_run (by omega) (show _ = some fn_all_cells from rfl) rfl]
    simp -dsimp [fn_all_cells, ir_all_cells, bD, ih]
    rw [lcL_map (acL a) _ (fun c => .d .pur (cD (addC f c))) _ _ _ _ (fun c hc => by simp -dsimp [lcTrn, addC])]
    simp -dsimp [hw]
    rw [lcL_map (acL a) _ (fun c => .d .pur (.tuple [cD (addC f c), .bool true])) _ _ _ _ (fun c hc => by simp -dsimp [lcTrn])]
    simp -dsimp
    rw [ret0_set rfl]
    rfl
  | .trn e a, k, st, g, hk, h => by
    have h1 : 1 ≤ k - 1 := by omega
    simp only [dep] at hk
    have ih := fun st g => all_cells_ok a (k - 1) st g (by omega) h
    rw [call0 rfl, Ph_run (by omega) (show _ = some fn_all_cells from rfl) rfl]
    simp -dsimp [fn_all_cells, ir_all_cells, bD, ih]
    rw [lcL_map (acL a) _ (fun c => .d .pur (cD (turnC e c))) _ _ _ _ (fun c hc => by simp -dsimp [lcTrn, turned_ok h1])]
    simp -dsimp
    rw [lcL_map (acL a) _ (fun c => .d .pur (.tuple [cD (turnC e c), .bool true])) _ _ _ _ (fun c hc => by simp -dsimp [lcTrn])]
    simp -dsimp
    rw [ret0_set rfl]
    rfl
  | .two w a b, k, st, g, hk, h => by
    simp only [dep] at hk
    have iha := fun st g => all_cells_ok a (k - 1) st g (by omega) h.1
    have ihb := fun st g => all_cells_ok b (k - 1) st g (by omega) h.2
    rw [call0 rfl, Ph_run (by omega) (show _ = some fn_all_cells from rfl) rfl]
    cases w with
    | w =>
      have := len_acL a h.1
      have := len_acL b h.2
      have hl : (acL a).length + (acL b).length ≤ 16777216 := by omega
      simp -dsimp [fn_all_cells, ir_all_cells, bD, Tw.s, iha, ihb, hl, Function.comp_def]
      simp only [← List.map_append]
      rw [lcL_map _ _ (fun c => .d .pur (.tuple [cD c, .bool true])) _ _ _ _ (fun c hc => by simp -dsimp [lcTrn])]
      simp -dsimp
      rw [ret0_set rfl]
      rfl
    | c =>
      simp -dsimp [fn_all_cells, ir_all_cells, bD, Tw.s, iha, ihb]
      rw [lcL_fil (acL a) _ (fun c => decide (c ∈ acL b)) (fun c => .d .pur (cD c)) _ _ _ _ (fun c hc => by simp -dsimp [lcTrn])]
      simp -dsimp
      rw [lcL_map _ _ (fun c => .d .pur (.tuple [cD c, .bool true])) _ _ _ _ (fun c hc => by simp -dsimp [lcTrn])]
      simp -dsimp
      rw [ret0_set rfl]
      rfl
    | l =>
      simp -dsimp [fn_all_cells, ir_all_cells, bD, Tw.s, iha, ihb]
      rw [lcL_fil (acL a) _ (fun c => !decide (c ∈ acL b)) (fun c => .d .pur (cD c)) _ _ _ _ (fun c hc => by simp -dsimp [lcTrn])]
      simp -dsimp
      rw [lcL_map _ _ (fun c => .d .pur (.tuple [cD c, .bool true])) _ _ _ _ (fun c hc => by simp -dsimp [lcTrn])]
      simp -dsimp
      rw [ret0_set rfl]
      rfl
def sizs (bs : List B) : Nat := (bs.map siz).sum
theorem is_body_loop {φ2 : Phi} (hk : 4 ≤ k) (s t) (a b : RV) (d : Option RV) : ∀ (n : Nat) (bs : List B) (m : Int) (e : Option RV), (∀ b ∈ bs, Ok b) → 0 ≤ m → m + sizs bs ≤ 20 → sizs bs < n →
    ∃ e' m', whF (fun env st => DL.test cfg (Ph cfg prog k) φ2 (.cmp .ne (.var 1) (.lst .nil)) env st) (fun env st => exes cfg (Ph cfg prog k) φ2
      (.cons (.asg (.nm 3) (.call ix_inner_of (.cons (.mth .pop (.var 1) .nil) .nil)))
      (.cons (.asg (.nm 2) (.bin .add (.var 2) (.cst (.int 1))))
      (.cons (.ifs (.boo false (.cons (.cmp .is (.var 3) (.cst .none)) (.cons (.cmp .gt (.var 2) (.glb 1)) .nil))) (.cons (.ret (.cst (.bool false))) .nil) .nil)
      (.cons (.exp (.mth .extend (.var 1) (.cons (.var 3) .nil))) .nil)))) env st) s t n
      [some a, some (.c 0), some (.d .pur (.int m)), e] [.lst (bs.map fun b => .d .pur (bD b))] = .nx [some a, some (.c 0), m', e'] [.lst []] := by
  intro n
  induction n with
  | zero => intro bs m e _ _ _ h; omega
  | succ n ih =>
    intro bs m e h1 h0 h2 h3
    rw [whF_succ]
    rcases List.eq_nil_or_concat bs with rfl | ⟨bs, b, rfl⟩
    · simp -dsimp
    · simp only [List.concat_eq_append] at *
      have hb := h1 b (by simp)
      have hs : sizs (bs ++ [b]) = sizs bs + siz b := by simp [sizs]
      have hi : sizs (innB b) + 1 = siz b := by cases b <;> simp [innB, sizs, siz] <;> omega
      have hm : ¬ 20 < m + 1 := by omega
      have hl : bs.length + (innB b).length ≤ 16777216 := by
        have : ∀ L : List B, L.length ≤ sizs L := by
          intro L
          induction L with
          | nil => simp [sizs]
          | cons c L ih =>
            have := dep_siz c
            simp only [sizs, List.map_cons, List.sum_cons, List.length_cons] at ih ⊢
            omega
        have q1 := this bs
        have q2 := this (innB b)
        omega
      simp -dsimp [inner_ok hk b hb, hm, hl, Function.comp_def]
      have := ih (bs ++ innB b) (m + 1) (some (.d .new (.list ((innB b).map bD)))) (by
        intro c hc
        rcases List.mem_append.mp hc with hc | hc
        · exact h1 c (by simp [hc])
        · cases b with
          | blk _ _ => simp [innB] at hc
          | cel _ => simp [innB] at hc
          | two w x y =>
            simp only [innB, List.mem_cons, List.not_mem_nil, or_false] at hc
            rcases hc with rfl | rfl
            · exact hb.1
            · exact hb.2
          | mov f x =>
            simp only [innB, List.mem_cons, List.not_mem_nil, or_false] at hc
            subst hc
            exact hb.2.1
          | trn e x =>
            simp only [innB, List.mem_cons, List.not_mem_nil, or_false] at hc
            subst hc
            exact hb) (by omega) (by simp only [sizs, List.map_append, List.sum_append] at *; omega) (by simp only [sizs, List.map_append, List.sum_append] at *; omega)
      rw [List.map_append] at this
      exact this
theorem is_body_ok (hk : 5 ≤ k) (b : B) (h : Ok b) (hs : siz b ≤ 20) : callF (Ph cfg prog k ix_is_body) [.d .pur (bD b)] st = .ok (.d .pur (.bool true)) st := by
  rw [call0 rfl, Ph_run (by omega) (show _ = some fn_is_body from rfl) rfl]
  simp -dsimp [fn_is_body, ir_is_body]
  obtain ⟨e', m', e⟩ := is_body_loop (φ2 := Ph cfg prog (k - 3)) (k := k - 1) (by omega) ⟨⟩ ⟨⟩ (.d .pur (bD b)) (.c 0) none 1000 [b] 0 none (by simpa using h) (by omega) (by simp [sizs]; omega) (by simp [sizs]; omega)
  simp only [List.map_cons, List.map_nil] at e
  rw [e]
  simp -dsimp
theorem known_ok (b : B) (hk : 7 + dep b ≤ k) (h : Ok b) (hs : siz b ≤ 20) : callF (Ph cfg prog k ix_known_cells) [.d .pur (bD b)] st = .ok (.c st.length) (st ++ [dcS false (clsB b)]) := by
  rw [call0 rfl, Ph_run (by omega) (show _ = some fn_known_cells from rfl) rfl]
  simp -dsimp [fn_known_cells, ir_known_cells, is_body_ok (show 5 ≤ k - 1 by omega) b h hs, all_cells_ok b (k - 1) _ _ (by omega) h, sortable_cells, sortD_acL h]
  rw [lcL_map (clsB b) _ (fun c => .d .pur (.tuple [cD c, .bool true])) _ _ _ _ (fun c hc => by simp -dsimp [lcTrn])]
  simp -dsimp [nub_clsB]
  rw [ret0_set rfl]
end
end K13

-- DDraw
/-! DDraw: what is drawn from: its two cells, calls that are handed it. -/
namespace DL
open PySem
structure HSt where
  m : Int
  xs : List Int
  p : Int
def rvIs (xs : List Int) : List RV := xs.map fun i => .d .pur (.int i)
def h0 (s : HSt) : Cell := .lst [.d .pur (.int s.m), .c 1, .d .pur (.int s.p)]
def h1 (s : HSt) : Cell := .lst (rvIs s.xs)
def hL (s : HSt) : Cell := .lst [.d .pur (.int s.m), .c 0, .d .pur (.int s.p)]
theorem refs_ints (xs : List Int) : refsOf (rvIs xs) = [] := by
  induction xs with
  | nil => rfl
  | cons a r ih => exact ih
theorem map_ints {fd : Gn → Gn} {fc : Nat → Option Nat} (hf : fd .pur = .pur) (xs : List Int) : (rvIs xs).mapM (mapRV fd fc) = some (rvIs xs) := by
  induction xs with
  | nil => rfl
  | cons a r ih =>
    show List.mapM _ (.d .pur (.int a) :: rvIs r) = some (.d .pur (.int a) :: rvIs r)
    rw [List.mapM_cons, ih]
    show Option.bind (some (RV.d (fd .pur) _)) _ = _
    rw [hf]
    rfl
theorem mapCell_h1 {fd : Gn → Gn} {fc : Nat → Option Nat} (hf : fd .pur = .pur) (s : HSt) : mapCell fd fc (h1 s) = some (h1 s) := by
  show Option.map _ ((rvIs s.xs).mapM _) = _
  rw [map_ints hf]
  rfl
theorem mapCell_h0 {fd : Gn → Gn} {fc : Nat → Option Nat} (hf : fd .pur = .pur) (hc : fc 1 = some 1) (s : HSt) : mapCell fd fc (h0 s) = some (h0 s) := by
  show Option.map Cell.lst (List.mapM (mapRV fd fc) [.d .pur (.int s.m), .c 1, .d .pur (.int s.p)]) = _
  simp only [List.mapM_cons, List.mapM_nil, mapRV, hf, hc]
  rfl
/-- what comes back of a call that was handed the state -/
def retH (more : Store) : Res RV → Res RV
  | .ok (.d g x) (a :: b :: _) => .ok (upD g x) (a :: b :: more)
  | .exc k (a :: b :: _) => .exc k (a :: b :: more)
  | _ => .bad
@[simp] theorem retH_d (more more' : Store) (a b : Cell) (g : Gn) (x : PyData) : retH more (.ok (.d g x) (a :: b :: more')) = .ok (upD g x) (a :: b :: more) := rfl
theorem callH {φ : List RV → Store → Res RV} {args : List RV} {s s' : HSt} {more more' : Store} {g : Gn} {x : PyData} (hd : allD args = true) (h : φ (.c 0 :: args.map dn) [h0 s, h1 s] = .ok (.d g x) (h0 s' :: h1 s' :: more')) :
    callF φ (.c 0 :: args) (h0 s :: h1 s :: more) = .ok (upD g x) (h0 s' :: h1 s' :: more) := by
  have e1 : reach (h0 s :: h1 s :: more) 64 (refsOf (.c 0 :: args)) [] = [0, 1] := by
    rw [refs_allD_c hd]
    show reach (h0 s :: h1 s :: more) 62 (((h1 s).refs) ++ []) [0, 1] = _
    rw [show (h1 s).refs = [] from refs_ints _]
    rfl
  have e2 : (.c 0 :: args).mapM (mapRV .down (idx? [0, 1])) = some (.c 0 :: args.map dn) := by
    rw [List.mapM_cons, map_allD hd]
    rfl
  have e3 : subStore (h0 s :: h1 s :: more) [0, 1] = some [h0 s, h1 s] := by
    have q0 : mapCell .down (idx? [0, 1]) (h0 s) = some (h0 s) := mapCell_h0 rfl rfl s
    have q1 : mapCell .down (idx? [0, 1]) (h1 s) = some (h1 s) := mapCell_h1 rfl s
    simp [subStore, q0, q1]
  have e4 : putBack (h0 s :: h1 s :: more) [0, 1] (h0 s' :: h1 s' :: more') = some (h0 s' :: h1 s' :: more) := by
    have q0 : mapCell .up (fun j => if j < [0, 1].length then some (([0, 1] : List Nat).getD j 0) else none) (h0 s') = some (h0 s') := mapCell_h0 rfl rfl s'
    have q1 : mapCell .up (fun j => if j < [0, 1].length then some (([0, 1] : List Nat).getD j 0) else none) (h1 s') = some (h1 s') := mapCell_h1 rfl s'
    show List.foldlM _ (h0 s :: h1 s :: more) [(0, h0 s'), (1, h1 s')] = _
    simp only [List.foldlM_cons, List.foldlM_nil, q0, q1, Option.map_some, opt_bind, Option.bind_some, List.set_cons_zero, List.set_cons_succ, opt_pure]
  unfold callF
  rw [e1]
  simp only []
  rw [e2, e3]
  simp only []
  rw [h]
  simp only []
  rw [e4]
  rfl
/-- at the law's own place -/
theorem callL {φ : List RV → Store → Res RV} {args : List RV} {s s' : HSt} {more more' : Store} {g : Gn} {x : PyData} (hd : allD args = true) (h : φ (.c 0 :: args.map dn) [h0 s, h1 s] = .ok (.d g x) (h0 s' :: h1 s' :: more')) :
    callF φ (.c 1 :: args) (h1 s :: hL s :: more) = .ok (upD g x) (h1 s' :: hL s' :: more) := by
  have e1 : reach (h1 s :: hL s :: more) 64 (refsOf (.c 1 :: args)) [] = [1, 0] := by
    rw [refs_allD_c hd]
    show reach (h1 s :: hL s :: more) 62 (((h1 s).refs) ++ []) [1, 0] = _
    rw [show (h1 s).refs = [] from refs_ints _]
    rfl
  have e2 : (.c 1 :: args).mapM (mapRV .down (idx? [1, 0])) = some (.c 0 :: args.map dn) := by
    rw [List.mapM_cons, map_allD hd]
    rfl
  have e3 : subStore (h1 s :: hL s :: more) [1, 0] = some [h0 s, h1 s] := by
    have q0 : mapCell .down (idx? [1, 0]) (hL s) = some (h0 s) := rfl
    have q1 : mapCell .down (idx? [1, 0]) (h1 s) = some (h1 s) := mapCell_h1 rfl s
    simp [subStore, q0, q1]
  have e4 : putBack (h1 s :: hL s :: more) [1, 0] (h0 s' :: h1 s' :: more') = some (h1 s' :: hL s' :: more) := by
    have q0 : mapCell .up (fun j => if j < [1, 0].length then some (([1, 0] : List Nat).getD j 0) else none) (h0 s') = some (hL s') := rfl
    have q1 : mapCell .up (fun j => if j < [1, 0].length then some (([1, 0] : List Nat).getD j 0) else none) (h1 s') = some (h1 s') := mapCell_h1 rfl s'
    show List.foldlM _ (h1 s :: hL s :: more) [(1, h0 s'), (0, h1 s')] = _
    simp only [List.foldlM_cons, List.foldlM_nil, q0, q1, Option.map_some, opt_bind, Option.bind_some, List.set_cons_zero, List.set_cons_succ, opt_pure]
  unfold callF
  rw [e1]
  simp only []
  rw [e2, e3]
  simp only []
  rw [h]
  simp only []
  rw [e4]
  rfl
/-! the next number -/
def nxJ (s : HSt) : Int := if 1 < (s.xs.length : Int) then (s.xs.length : Int) else 1
theorem nxJ_pos (s : HSt) : 0 < nxJ s := by unfold nxJ; split <;> omega
theorem nxJ_le (s : HSt) (h : s.xs ≠ []) : nxJ s ≤ s.xs.length := by
  have := List.length_pos_iff.mpr h
  unfold nxJ
  split <;> omega
def nxI (s : HSt) : Nat := (s.p % nxJ s).toNat
def nxC (s : HSt) : Int := s.xs.getD (nxI s) 0
def nxV (s : HSt) (n : Int) : Int := if 1000000000000000000 ≤ nxC s then nxC s % n else (s.m * 48271 + nxC s * 69621 + 11) % 2147483647 / 7 % n
def nxS (s : HSt) (n : Int) : HSt := if 1000000000000000000 ≤ nxC s then { s with xs := s.xs.set (nxI s) (nxC s / n) } else { m := (s.m * 48271 + nxC s * 69621 + 11) % 2147483647, xs := s.xs, p := s.p + 1 }
theorem nxV_bd (s : HSt) {n : Int} (h : 0 < n) : 0 ≤ nxV s n ∧ nxV s n < n := by
  unfold nxV
  split
  · exact ⟨Int.emod_nonneg _ (by omega), Int.emod_lt_of_pos _ h⟩
  · exact ⟨Int.emod_nonneg _ (by omega), Int.emod_lt_of_pos _ h⟩
end DL

-- DMore
/-! DMore: comprehensions that draw; sets of drawn cells; least and greatest. -/
namespace DL
open PySem
theorem lcL_rel {α : Type} {xs : List α} {f : α → RV} {κ : RV → Store → Res (Option RV)} {t : Tag κ} {acc : List RV} {st : Store} {F : Res (List RV)} (hF : lcL κ t (xs.map f) acc st = F) (R : List α → List RV → Store → Prop) (h0 : R [] acc st)
    (h : ∀ pre x post acc st, xs = pre ++ x :: post → R pre acc st → ∀ O, κ (f x) st = O → (∃ y st', O = .ok (some y) st' ∧ R (pre ++ [x]) (acc ++ [y]) st') ∨ ∃ st', O = .ok none st' ∧ R (pre ++ [x]) acc st') : ∃ acc' st', F = .ok acc' st' ∧ R xs acc' st' := by
  have key : ∀ (post pre : List α) (acc : List RV) (st : Store), xs = pre ++ post → R pre acc st → ∃ acc' st', lcL κ t (post.map f) acc st = .ok acc' st' ∧ R xs acc' st' := by
    intro post
    induction post with
    | nil =>
      intro pre acc st e r
      rw [List.append_nil] at e
      exact ⟨acc, st, rfl, e ▸ r⟩
    | cons x post ih =>
      intro pre acc st e r
      rcases h pre x post acc st e r _ rfl with ⟨y, st1, e1, r1⟩ | ⟨st1, e1, r1⟩
      · obtain ⟨acc2, st2, e2, r2⟩ := ih (pre ++ [x]) _ st1 (by simp [e]) r1
        exact ⟨acc2, st2, by rw [List.map_cons, lcL_cons, e1, lcR_some, e2], r2⟩
      · obtain ⟨acc2, st2, e2, r2⟩ := ih (pre ++ [x]) _ st1 (by simp [e]) r1
        exact ⟨acc2, st2, by rw [List.map_cons, lcL_cons, e1, lcR_none, e2], r2⟩
  rw [← hF]
  exact key xs [] acc st rfl h0
/-! sorted(set(..)) of cells -/
def c3 (c : Cl) : List Int := [c.1, c.2.1, c.2.2]
theorem c3_inj {a b : Cl} (h : c3 a = c3 b) : a = b := by
  obtain ⟨x, y, z⟩ := a
  obtain ⟨x', y', z'⟩ := b
  simp only [c3, List.cons.injEq, and_true, Prod.mk.injEq] at *
  exact h
def ddup : List Cl → List Cl
  | [] => []
  | x :: xs => if x ∈ xs then ddup xs else x :: ddup xs
theorem dedup_c3 : ∀ L : List Cl, dedupI (L.map c3) = (ddup L).map c3
  | [] => rfl
  | x :: xs => by
    have e : c3 x ∈ xs.map c3 ↔ x ∈ xs := by
      rw [List.mem_map]
      exact ⟨fun ⟨y, hy, e⟩ => c3_inj e ▸ hy, fun h => ⟨x, h, rfl⟩⟩
    rw [List.map_cons, dedupI, ddup, dedup_c3 xs]
    by_cases h : x ∈ xs
    · rw [if_pos h, if_pos (e.mpr h)]
    · rw [if_neg h, if_neg (fun q => h (e.mp q))]
      rfl
theorem mem_ddup (a : Cl) : ∀ L : List Cl, a ∈ ddup L ↔ a ∈ L
  | [] => Iff.rfl
  | x :: xs => by
    rw [ddup]
    split
    · rename_i h
      rw [mem_ddup a xs, List.mem_cons]
      exact ⟨.inr, fun q => q.elim (fun e => e ▸ h) id⟩
    · rw [List.mem_cons, List.mem_cons, mem_ddup a xs]
theorem nodup_ddup : ∀ L : List Cl, (ddup L).Nodup
  | [] => List.nodup_nil
  | x :: xs => by
    rw [ddup]
    split
    · exact nodup_ddup xs
    · rename_i h
      exact List.nodup_cons.mpr ⟨fun q => h ((mem_ddup x xs).mp q), nodup_ddup xs⟩
theorem len_ddup : ∀ L : List Cl, (ddup L).length ≤ L.length
  | [] => Nat.le_refl _
  | x :: xs => by
    have := len_ddup xs
    rw [ddup]
    split
    · exact Nat.le_succ_of_le this
    · exact Nat.succ_le_succ this
theorem ddup_id : ∀ L : List Cl, L.Nodup → ddup L = L
  | [], _ => rfl
  | x :: xs, h => by
    rw [ddup, if_neg (List.nodup_cons.mp h).1, ddup_id xs (List.nodup_cons.mp h).2]
theorem codeI_c3 {a b : Cl} (ha : Room a) (hb : Room b) : codeI (c3 a) ≤ codeI (c3 b) ↔ code a ≤ code b := by
  obtain ⟨x, y, z⟩ := a
  obtain ⟨x', y', z'⟩ := b
  simp only [c3, codeI, code, Room, R3, List.length_cons, List.length_nil] at *
  omega
theorem sortC_c3 (L : List Cl) (hr : ∀ c ∈ L, Room c) : sortC (L.map c3) = ((ddup L).mergeSort fun a b => decide (code a ≤ code b)).map c3 := by
  unfold sortC
  rw [dedup_c3]
  refine (List.map_mergeSort fun a ha b hb => ?_).symm
  have := codeI_c3 (hr a ((mem_ddup a L).mp ha)) (hr b ((mem_ddup b L).mp hb))
  rw [decide_eq_decide]
  exact this.symm
theorem sortC_ok (L : List Cl) (hr : ∀ c ∈ L, Room c) : ∃ M : List Cl, sortC (L.map c3) = M.map c3 ∧ (∀ c, c ∈ M ↔ c ∈ L) ∧ M.length ≤ L.length ∧ sortC (M.map c3) = M.map c3 ∧ Rise M := by
  have q : ∀ c, c ∈ ((ddup L).mergeSort fun a b => decide (code a ≤ code b)) ↔ c ∈ L := fun c => by rw [List.mem_mergeSort, mem_ddup]
  have p := rise_sort (ddup L) (nodup_ddup L) fun c hc => hr c ((mem_ddup c L).mp hc)
  refine ⟨_, sortC_c3 L hr, q, ?_, ?_, p⟩
  · rw [List.length_mergeSort]
    exact len_ddup L
  · rw [sortC_c3 _ fun c hc => hr c ((q c).mp hc), ddup_id _ (rise_nodup p)]
    congr 1
    exact List.mergeSort_of_pairwise (List.Pairwise.imp (fun {a b} h => by rw [decide_eq_true_eq]; omega) p)
theorem cellsOk_c3 (L : List Cl) (hl : L.length ≤ 64) (hr : ∀ c ∈ L, Room c) : cellsOk (L.map c3) = true := by
  have hd : dimOf (L.map c3) = 3 ∨ L = [] := by
    cases L with
    | nil => exact .inr rfl
    | cons c L => exact .inl rfl
  rcases hd with hd | rfl
  · unfold cellsOk
    rw [hd]
    simp only [List.length_map, Bool.and_eq_true, decide_eq_true_eq, List.all_eq_true, List.mem_map, forall_exists_index, and_imp]
    refine ⟨⟨hl, by omega⟩, ?_⟩
    rintro ns c hc rfl
    have := hr c hc
    refine ⟨rfl, fun x hx => ?_⟩
    simp only [c3, List.mem_cons, List.not_mem_nil, or_false] at hx
    simp only [Room, R3] at this
    omega
  · rfl
/-! the least and the greatest of whole numbers -/
theorem dataLt_ii (a b : Int) : PySem.W.dataLt (.int a) (.int b) = decide (a < b) := by
  have e := congrFun (congrFun (PySem.W.dataLe_int fun c : Int => c) b) a
  have e2 : PySem.W.dataLe false (fun c : Int => PyData.int c) b a = !PySem.W.dataLt (.int a) (.int b) := rfl
  rw [e2] at e
  rw [← Bool.not_not (PySem.W.dataLt _ _), e, ← decide_not]
  simp
theorem minOk_ints (is : List Int) : minOk (is.map .int) = true := by
  have hd : PyData.depthAll (is.map .int) ≤ 1 := by
    induction is with
    | nil => simp [PyData.depthAll]
    | cons a r ih =>
      rw [List.map_cons, PyData.depthAll, depth_int]
      omega
  unfold minOk allAlike
  simp only [Bool.and_eq_true, List.all_eq_true, List.mem_map, forall_exists_index, and_imp, decide_eq_true_eq]
  refine ⟨⟨?_, ?_⟩, by omega⟩
  · rintro _ a _ rfl _ b _ rfl
    rfl
  · rintro _ a _ rfl
    rfl
theorem minD_ints : ∀ (r : List Int) (x : Int), ∃ m, PySem.W.minD (.int x) (r.map .int) = .int m ∧ m ∈ x :: r ∧ ∀ y ∈ x :: r, m ≤ y
  | [], x => ⟨x, rfl, List.mem_cons_self, fun y hy => by
    rw [List.mem_singleton] at hy
    omega⟩
  | a :: r, x => by
    have e : PySem.W.minD (.int x) ((a :: r).map .int) = PySem.W.minD (.int (if a < x then a else x)) (r.map .int) := by
      show List.foldl _ (if PySem.W.dataLt (.int a) (.int x) = true then _ else _) _ = List.foldl _ _ _
      rw [dataLt_ii]
      by_cases h : a < x <;> simp [h]
    obtain ⟨m, h1, h2, h3⟩ := minD_ints r (if a < x then a else x)
    refine ⟨m, e.trans h1, ?_, ?_⟩
    · rcases List.mem_cons.mp h2 with h | h
      · split at h
        · exact h ▸ List.mem_cons_of_mem _ List.mem_cons_self
        · exact h ▸ List.mem_cons_self
      · exact List.mem_cons_of_mem _ (List.mem_cons_of_mem _ h)
    · intro y hy
      have h4 := h3 _ List.mem_cons_self
      rcases List.mem_cons.mp hy with h | hy
      · subst h
        split at h4 <;> omega
      · rcases List.mem_cons.mp hy with h | hy
        · subst h
          split at h4 <;> omega
        · exact h3 y (List.mem_cons_of_mem _ hy)
theorem maxD_ints : ∀ (r : List Int) (x : Int), ∃ m, PySem.W.maxD (.int x) (r.map .int) = .int m ∧ m ∈ x :: r ∧ ∀ y ∈ x :: r, y ≤ m
  | [], x => ⟨x, rfl, List.mem_cons_self, fun y hy => by
    rw [List.mem_singleton] at hy
    omega⟩
  | a :: r, x => by
    have e : PySem.W.maxD (.int x) ((a :: r).map .int) = PySem.W.maxD (.int (if x < a then a else x)) (r.map .int) := by
      show List.foldl _ (if PySem.W.dataLt (.int x) (.int a) = true then _ else _) _ = List.foldl _ _ _
      rw [dataLt_ii]
      by_cases h : x < a <;> simp [h]
    obtain ⟨m, h1, h2, h3⟩ := maxD_ints r (if x < a then a else x)
    refine ⟨m, e.trans h1, ?_, ?_⟩
    · rcases List.mem_cons.mp h2 with h | h
      · split at h
        · exact h ▸ List.mem_cons_of_mem _ List.mem_cons_self
        · exact h ▸ List.mem_cons_self
      · exact List.mem_cons_of_mem _ (List.mem_cons_of_mem _ h)
    · intro y hy
      have h4 := h3 _ List.mem_cons_self
      rcases List.mem_cons.mp hy with h | hy
      · subst h
        split at h4 <;> omega
      · rcases List.mem_cons.mp hy with h | hy
        · subst h
          split at h4 <;> omega
        · exact h3 y (List.mem_cons_of_mem _ hy)
theorem pick_min (is : List Int) (d : Int) : ∃ m, (∀ g, pick PySem.W.minD g (is.map .int) (some (.d .pur (.int d))) = some (.d .pur (.int m))) ∧ ((is = [] ∧ m = d) ∨ m ∈ is) ∧ ∀ y ∈ is, m ≤ y := by
  cases is with
  | nil => exact ⟨d, fun g => by unfold pick; rw [if_pos (minOk_ints [])]; rfl, .inl ⟨rfl, rfl⟩, fun y hy => absurd hy List.not_mem_nil⟩
  | cons x r =>
    obtain ⟨m, h1, h2, h3⟩ := minD_ints r x
    refine ⟨m, fun g => ?_, .inr h2, h3⟩
    unfold pick
    rw [if_pos (minOk_ints (x :: r))]
    show some (el g (PySem.W.minD (.int x) (r.map .int))) = _
    rw [h1]
    rfl
theorem pick_max (is : List Int) (d : Int) : ∃ m, (∀ g, pick PySem.W.maxD g (is.map .int) (some (.d .pur (.int d))) = some (.d .pur (.int m))) ∧ ((is = [] ∧ m = d) ∨ m ∈ is) ∧ ∀ y ∈ is, y ≤ m := by
  cases is with
  | nil => exact ⟨d, fun g => by unfold pick; rw [if_pos (minOk_ints [])]; rfl, .inl ⟨rfl, rfl⟩, fun y hy => absurd hy List.not_mem_nil⟩
  | cons x r =>
    obtain ⟨m, h1, h2, h3⟩ := maxD_ints r x
    refine ⟨m, fun g => ?_, .inr h2, h3⟩
    unfold pick
    rw [if_pos (minOk_ints (x :: r))]
    show some (el g (PySem.W.maxD (.int x) (r.map .int))) = _
    rw [h1]
    rfl
/-- a cell's number along an edge -/
def cmp (i : Int) (c : Cl) : Int := if i = 0 then c.1 else if i = 1 then c.2.1 else c.2.2
theorem cmp_at {i : Int} (h : i = 0 ∨ i = 1 ∨ i = 2) (c : Cl) (st : Store) (g g' : Gn) : subscr st (.d g (cD c)) (.d g' (.int i)) = some (.d .pur (.int (cmp i c))) := by
  rcases h with rfl | rfl | rfl
  · exact cD_0 c
  · exact cD_1 c
  · exact cD_2 c
theorem cmp_bd {i : Int} {c : Cl} (h : Room c) : 0 ≤ cmp i c ∧ cmp i c ≤ 3 := by
  simp only [Room, R3] at h
  unfold cmp
  split
  · omega
  · split <;> omega
/-- "xyz"[i] -/
@[simp] theorem xyz_0 {st : Store} {g g' : Gn} : subscr st (.d g (.str "xyz")) (.d g' (.int 0)) = some (.d .pur (.str "x")) := rfl
@[simp] theorem xyz_1 {st : Store} {g g' : Gn} : subscr st (.d g (.str "xyz")) (.d g' (.int 1)) = some (.d .pur (.str "y")) := rfl
@[simp] theorem xyz_2 {st : Store} {g g' : Gn} : subscr st (.d g (.str "xyz")) (.d g' (.int 2)) = some (.d .pur (.str "z")) := rfl
theorem ret0_mix (s : HSt) : ret0 [] (.ok (.c 1) [h1 s, hL s]) = .ok (.c 1) [h1 s, hL s] := by
  have q0 : mapCell .up (fun j => some (back [] 0 j)) (h1 s) = some (h1 s) := mapCell_h1 rfl s
  have q1 : mapCell .up (fun j => some (back [] 0 j)) (hL s) = some (hL s) := rfl
  have q2 : [h1 s, hL s].mapM (mapCell .up fun j => some (back [] 0 j)) = some [h1 s, hL s] := by
    simp only [List.mapM_cons, List.mapM_nil, q0, q1, opt_bind, opt_pure, Option.bind_some]
  have hr : ¬ (hL s).refs = [] := by
    show ¬ ([0] : List Nat) = []
    simp
  unfold ret0
  simp only [List.getElem?_cons_succ, List.getElem?_cons_zero]
  rw [if_neg hr, List.length_nil, q2]
  rfl
/-! what a change of told lists leaves of what is drawn from -/
@[simp] theorem old_h1 (s : HSt) : cellOld (h1 s) = h1 s := by
  show Cell.lst (List.map rvOld (rvIs s.xs)) = Cell.lst (rvIs s.xs)
  congr 1
  unfold rvIs
  rw [List.map_map]
  rfl
@[simp] theorem old_hL (s : HSt) : cellOld (hL s) = hL s := Eq.trans rfl rfl
@[simp] theorem keeps_h1 (s : HSt) : cellKeeps (h1 s) = true := by
  show (rvIs s.xs).all oldOnly = true
  unfold rvIs
  rw [List.all_map, List.all_eq_true]
  intro x _
  rfl
@[simp] theorem keeps_hL (s : HSt) : cellKeeps (hL s) = true := Eq.trans rfl rfl
@[simp] theorem rvOld_d (g : Gn) (x : PyData) : rvOld (.d g x) = .d g.aged x := Eq.trans rfl rfl
@[simp] theorem rvOld_c (n : Nat) : rvOld (.c n) = .c n := Eq.trans rfl rfl
@[simp] theorem aged_pur : Gn.aged .pur = .pur := Eq.trans rfl rfl
@[simp] theorem aged_new : Gn.aged .new = .old := Eq.trans rfl rfl
@[simp] theorem aged_old : Gn.aged .old = .old := Eq.trans rfl rfl
@[simp] theorem aged_mix : Gn.aged .mix = .old := Eq.trans rfl rfl
@[simp] theorem aged_scr : Gn.aged .scr = .scr := Eq.trans rfl rfl
@[simp] theorem oldOnly_p (x : PyData) : oldOnly (.d .pur x) = true := Eq.trans rfl rfl
@[simp] theorem oldOnly_o (x : PyData) : oldOnly (.d .old x) = true := Eq.trans rfl rfl
@[simp] theorem oldOnly_n (x : PyData) : oldOnly (.d .new x) = false := Eq.trans rfl rfl
@[simp] theorem oldOnly_s (x : PyData) : oldOnly (.d .scr x) = false := Eq.trans rfl rfl
@[simp] theorem oldOnly_c (n : Nat) : oldOnly (.c n) = true := Eq.trans rfl rfl
@[simp] theorem spoOk_n (xs : List PyData) : spoOk (.d .new (.list xs)) = decide (xs.length < 16777216) := Eq.trans rfl rfl
@[simp] theorem spoilEnv_nil : spoilEnv [] = [] := Eq.trans rfl rfl
@[simp] theorem spoilEnv_none (r : DL.Env) : spoilEnv (none :: r) = none :: spoilEnv r := Eq.trans rfl rfl
@[simp] theorem spoilEnv_some (v : RV) (r : DL.Env) : spoilEnv (some v :: r) = (if oldOnly v = true then some v else none) :: spoilEnv r := Eq.trans rfl rfl
@[simp low] theorem spoilEnv_cons (o : Option RV) (r : DL.Env) : spoilEnv (o :: r) = (o.bind fun v => if oldOnly v = true then some v else none) :: spoilEnv r := Eq.trans rfl rfl
@[simp] theorem spoilSt_nil : spoilSt [] = [] := Eq.trans rfl rfl
@[simp] theorem spoilSt_cons (c : Cell) (r : Store) : spoilSt (c :: r) = (if cellKeeps c = true then c else .gone) :: spoilSt r := Eq.trans rfl rfl
mutual
/-- nothing but numbers, truth values, texts, None, lists and tuples, not too long -/
def gd : PyData → Bool
  | .dict _ => false
  | .list xs => decide (xs.length < 1000000) && gds xs
  | .tuple xs => decide (xs.length < 1000000) && gds xs
  | _ => true
def gds : List PyData → Bool
  | [] => true
  | x :: xs => gd x && gds xs
end
theorem gds_mem {x : PyData} : ∀ {xs : List PyData}, gds xs = true → x ∈ xs → gd x = true
  | a :: r, h, hx => by
    rw [gds, Bool.and_eq_true] at h
    rcases List.mem_cons.mp hx with rfl | hx
    · exact h.1
    · exact gds_mem h.2 hx
theorem depth_mem {x : PyData} : ∀ {xs : List PyData}, x ∈ xs → x.depth ≤ PyData.depthAll xs
  | a :: r, hx => by
    rw [PyData.depthAll]
    rcases List.mem_cons.mp hx with rfl | hx
    · omega
    · have := depth_mem hx
      omega
theorem gd_cD (c : Cl) : gd (cD c) = true := by simp [cD, gd, gds, -cD_fold]
theorem gd_cells (L : List Cl) (h : L.length < 1000000) : gd (.list (L.map cD)) = true := by
  have : ∀ L : List Cl, gds (L.map cD) = true := by
    intro L
    induction L with
    | nil => rfl
    | cons c L ih => rw [List.map_cons, gds, gd_cD, ih]; rfl
  rw [gd, this, List.length_map, decide_eq_true h]
  rfl
end DL

-- PC13
namespace K13
open PySem DL
section
variable {k : Nat} {st : Store} {g g1 g2 g3 : Gn}
theorem next_run (hk : 1 ≤ k) (s : HSt) (n : Int) (h : 0 < n ∧ n < 1073741824) : Ph cfg prog k ix_l_next [.c 0, .d g (.int n)] [h0 s, h1 s] = .ok (.d .pur (.int (nxV s n))) [h0 (nxS s n), h1 (nxS s n)] := by
  rw [Ph_run hk (show _ = some fn_l_next from rfl) rfl]
  obtain ⟨hn, hn2⟩ := h
  have hJ := nxJ_pos s
  simp -dsimp [fn_l_next, ir_l_next, h0, h1, rvIs]
  rw [show (if 1 < (s.xs.length : Int) then (s.xs.length : Int) else 1) = nxJ s from rfl]
  by_cases hx : s.xs = []
  · have hC : nxC s = 0 := by unfold nxC; rw [hx]; rfl
    simp -dsimp [hJ, hx, hn, nxV, nxS, hC]
  · have hJ2 := nxJ_le s hx
    have i0 := Int.emod_nonneg s.p (show nxJ s ≠ 0 by omega)
    have i1 := Int.emod_lt_of_pos s.p hJ
    have i2 : s.p % nxJ s < s.xs.length := by omega
    have hat : L2.atI (s.xs.map fun i => RV.d .pur (.int i)) (s.p % nxJ s) = some (.d .pur (.int (nxC s))) := by
      unfold nxC nxI
      rw [atI_nn i0, List.getElem?_map, List.getD_eq_getElem?_getD, List.getElem?_eq_getElem (by omega)]
      rfl
    rw [hat]
    by_cases hc : 1000000000000000000 ≤ nxC s
    · simp -dsimp [hJ, hx, hn, hn2, hc, i0, i2, nxV, nxS, List.map_set, nxI]
    · simp -dsimp [hJ, hx, hn, hn2, hc, i0, i2, nxV, nxS]
theorem next_H (hk : 1 ≤ k) (s : HSt) (n : Int) (h1' : 0 < n) (h2 : n < 1073741824) (more : Store) : callF (Ph cfg prog k ix_l_next) [.c 0, .d g (.int n)] (h0 s :: h1 s :: more) = .ok (.d .pur (.int (nxV s n))) (h0 (nxS s n) :: h1 (nxS s n) :: more) :=
  callH (args := [.d g (.int n)]) rfl (next_run hk s n ⟨h1', h2⟩)
theorem next_L (hk : 1 ≤ k) (s : HSt) (n : Int) (h1' : 0 < n) (h2 : n < 1073741824) (more : Store) : callF (Ph cfg prog k ix_l_next) [.c 1, .d g (.int n)] (h1 s :: hL s :: more) = .ok (.d .pur (.int (nxV s n))) (h1 (nxS s n) :: hL (nxS s n) :: more) :=
  callL (args := [.d g (.int n)]) rfl (next_run hk s n ⟨h1', h2⟩)
theorem tws' (w : Tw) : ((w.s : Str) = "block") = False ∧ ((w.s : Str) = "cells") = False ∧ ((w.s : Str) = "moved") = False ∧ ((w.s : Str) = "turned") = False := by
  cases w <;> simp [Tw.s]
theorem inside_ok : ∀ (b : B) (k : Nat) (st : Store) (g g1 : Gn) (c : Cl), 1 + dep b ≤ k → callF (Ph cfg prog k ix_l_inside) [.d g (bD b), .d g1 (cD c)] st = .ok (.d .pur (.bool (inB b c))) st
  | .blk l s, k, st, g, g1, c, hk => by
    rw [call0 rfl, Ph_run (by omega) (show _ = some fn_l_inside from rfl) rfl]
    simp -dsimp [fn_l_inside, ir_l_inside, bD, lcTrn]
    unfold inB
    by_cases q1 : c.1 < l.1 ∨ s.1 ≤ c.1 - l.1
    · rw [if_pos q1, decide_eq_false (by omega)]
    rw [if_neg q1]
    by_cases q2 : c.2.1 < l.2.1 ∨ s.2.1 ≤ c.2.1 - l.2.1
    · rw [if_pos q2, decide_eq_false (by omega)]
    rw [if_neg q2]
    by_cases q3 : c.2.2 < l.2.2 ∨ s.2.2 ≤ c.2.2 - l.2.2
    · rw [if_pos q3, decide_eq_false (by omega)]
    rw [if_neg q3, decide_eq_true (by omega)]
  | .cel L, k, st, g, g1, c, hk => by
    rw [call0 rfl, Ph_run (by omega) (show _ = some fn_l_inside from rfl) rfl]
    simp -dsimp [fn_l_inside, ir_l_inside, bD, inB]
  | .two w a b, k, st, g, g1, c, hk => by
    simp only [dep] at hk
    rw [call0 rfl, Ph_run (by omega) (show _ = some fn_l_inside from rfl) rfl]
    have iha := fun st g g1 => inside_ok a (k - 1) st g g1 c (by omega)
    have ihb := fun st g g1 => inside_ok b (k - 1) st g g1 c (by omega)
    cases w <;> simp -dsimp [fn_l_inside, ir_l_inside, bD, inB, Tw.s, iha, ihb]
  | .mov f a, k, st, g, g1, c, hk => by
    simp only [dep] at hk
    rw [call0 rfl, Ph_run (by omega) (show _ = some fn_l_inside from rfl) rfl]
    have iha := fun st g g1 c => inside_ok a (k - 1) st g g1 c (by omega)
    simp -dsimp [fn_l_inside, ir_l_inside, bD, inB, iha, subC]
  | .trn e a, k, st, g, g1, c, hk => by
    simp only [dep] at hk
    rw [call0 rfl, Ph_run (by omega) (show _ = some fn_l_inside from rfl) rfl]
    have iha := fun st g g1 c => inside_ok a (k - 1) st g g1 c (by omega)
    obtain ⟨x, y, z⟩ := c
    cases e <;> simp -dsimp [fn_l_inside, ir_l_inside, bD, inB, iha, Ed.s, backC]
theorem room_rng : ((rng 0 64).map fun i => cD (i / 16, i / 4 % 4, i % 4)) = room.map cD := by
  unfold rng room
  rw [List.map_map, List.map_map]
  refine List.map_congr_left fun n _ => ?_
  simp only [Function.comp_def]
  congr 1
  simp only [Prod.mk.injEq]
  omega
theorem l_all_ok (b : B) (hk : 2 + dep b ≤ k) : callF (Ph cfg prog k ix_l_all) [.d g (bD b)] st = .ok (.d .new (.list ((clsB b).map cD))) st := by
  rw [call0 rfl, Ph_run (by omega) (show _ = some fn_l_all from rfl) rfl]
  simp -dsimp [fn_l_all, ir_l_all, rngRV_rng]
  rw [lcL_map (rng 0 64) _ (fun i => .d .pur (cD (i / 16, i / 4 % 4, i % 4))) _ _ _ _ (fun i hi => by simp -dsimp [lcTrn])]
  simp -dsimp [room_rng]
  rw [lcL_fil room _ (inB b) (fun c => .d .pur (cD c)) _ _ _ _ (fun c hc => by simp -dsimp [lcTrn, inside_ok b (k - 1) _ _ _ c (by omega)])]
  simp -dsimp [clsB]
end
end K13

-- PD13
namespace K13
open PySem DL
section
variable {k : Nat} {st : Store} {g g1 g2 g3 : Gn}
theorem next_ex (hk : 1 ≤ k) (s : HSt) (n : Int) (hn : 0 < n) (hn2 : n < 1073741824) : ∃ v s', 0 ≤ v ∧ v < n ∧ ∀ g more, callF (Ph cfg prog k ix_l_next) [.c 0, .d g (.int n)] (h0 s :: h1 s :: more) = .ok (.d .pur (.int v)) (h0 s' :: h1 s' :: more) :=
  ⟨_, _, (nxV_bd s hn).1, (nxV_bd s hn).2, fun _ _ => next_H hk s n hn hn2 _⟩
theorem next_exL (hk : 1 ≤ k) (s : HSt) (n : Int) (hn : 0 < n) (hn2 : n < 1073741824) : ∃ v s', 0 ≤ v ∧ v < n ∧ ∀ g more, callF (Ph cfg prog k ix_l_next) [.c 1, .d g (.int n)] (h1 s :: hL s :: more) = .ok (.d .pur (.int v)) (h1 s' :: hL s' :: more) :=
  ⟨_, _, (nxV_bd s hn).1, (nxV_bd s hn).2, fun _ _ => next_L hk s n hn hn2 _⟩
/-- one of several numbers -/
theorem of_lt2 {v : Int} (h0 : 0 ≤ v) (h : v < 2) : v = 0 ∨ v = 1 := by omega
theorem body_blk (hk : 2 ≤ k) (d : Int) (s s0 : HSt) (v0 : Int) (n0 : ∀ g more, callF (Ph cfg prog (k - 1) ix_l_next) [.c 0, .d g (.int 10)] (h0 s :: h1 s :: more) = .ok (.d .pur (.int v0)) (h0 s0 :: h1 s0 :: more)) (hd : d = 0 ∨ v0 < 3) :
    ∃ b s' more, Ok b ∧ dep b = 0 ∧ siz b = 1 ∧ Ph cfg prog k ix_l_body [.c 0, .d .pur (.int d)] [h0 s, h1 s] = .ok (.d .pur (bD b)) (h0 s' :: h1 s' :: more) := by
  have k1 : 1 ≤ k - 1 := by omega
  obtain ⟨x, s1, a1, b1, n1⟩ := next_ex k1 s0 4 (by omega) (by omega)
  obtain ⟨y, s2, a2, b2, n2⟩ := next_ex k1 s1 4 (by omega) (by omega)
  obtain ⟨z, s3, a3, b3, n3⟩ := next_ex k1 s2 4 (by omega) (by omega)
  obtain ⟨w, s4, a4, b4, n4⟩ := next_ex k1 s3 2 (by omega) (by omega)
  obtain ⟨zz, a5, b5, hz⟩ : ∃ zz, 0 ≤ zz ∧ zz < 4 ∧ L2.atI [PyData.int 0, PyData.int z] w = some (.int zz) := by
    rcases of_lt2 a4 b4 with rfl | rfl
    · exact ⟨0, by omega, by omega, atI_0 _ _⟩
    · exact ⟨z, a3, b3, atI_1 _ _ _⟩
  obtain ⟨p, s5, c5, d5, n5⟩ := next_ex k1 s4 (4 - x) (by omega) (by omega)
  obtain ⟨q, s6, c6, d6, n6⟩ := next_ex k1 s5 (4 - y) (by omega) (by omega)
  obtain ⟨r, s7, c7, d7, n7⟩ := next_ex k1 s6 (4 - zz) (by omega) (by omega)
  refine ⟨.blk (x, y, zz) (1 + p, 1 + q, 1 + r), s7, [], ?_, rfl, rfl, ?_⟩
  · simp only [Ok, Room, R3]
    omega
  · rw [Ph_run (by omega) (show _ = some fn_l_body from rfl) rfl]
    rcases hd with rfl | hd <;> simp -dsimp [*, fn_l_body, ir_l_body, lcTrn, bD]
theorem body_cel (hk : 2 ≤ k) (d : Int) (s s0 : HSt) (n0 : ∀ g more, callF (Ph cfg prog (k - 1) ix_l_next) [.c 0, .d g (.int 10)] (h0 s :: h1 s :: more) = .ok (.d .pur (.int 3)) (h0 s0 :: h1 s0 :: more)) (hd : ¬ d = 0) :
    ∃ b s' more, Ok b ∧ dep b = 0 ∧ siz b = 1 ∧ Ph cfg prog k ix_l_body [.c 0, .d .pur (.int d)] [h0 s, h1 s] = .ok (.d .pur (bD b)) (h0 s' :: h1 s' :: more) := by
  have k1 : 1 ≤ k - 1 := by omega
  obtain ⟨n, s1, a1, b1, n1⟩ := next_ex k1 s0 14 (by omega) (by omega)
  have m1 : n < 1000000 := by omega
  have m2 : -1000000 < n := by omega
  generalize hR : Ph cfg prog k ix_l_body _ _ = R
  rw [Ph_run (by omega) (show _ = some fn_l_body from rfl) rfl] at hR
  simp -dsimp [fn_l_body, ir_l_body, n0, n1, hd, m1, m2, rngRV_rng] at hR
  generalize hF : lcL _ _ _ _ _ = F at hR
  obtain ⟨acc, st', rfl, L, s', hl, hr, rfl, rfl⟩ := lcL_rel hF (fun pre acc st => ∃ L s', L.length = pre.length ∧ (∀ c ∈ L, Room c) ∧ acc = L.map (fun c => .d .pur (cD c)) ∧ st = [h0 s', h1 s']) ⟨[], s1, rfl, fun _ h => absurd h List.not_mem_nil, rfl, rfl⟩ (by
    rintro pre i post acc st epre ⟨L, s', hl, hr, rfl, rfl⟩ O hO
    obtain ⟨x, t1, a1, b1, n1⟩ := next_ex k1 s' 4 (by omega) (by omega)
    obtain ⟨y, t2, a2, b2, n2⟩ := next_ex k1 t1 4 (by omega) (by omega)
    obtain ⟨z, t3, a3, b3, n3⟩ := next_ex k1 t2 4 (by omega) (by omega)
    simp -dsimp [lcTrn, n1, n2, n3] at hO
    subst hO
    refine .inl ⟨_, _, rfl, L ++ [(x, y, z)], t3, by simp [hl], fun c hc => ?_, by simp, rfl⟩
    rcases List.mem_append.mp hc with hc | hc
    · exact hr c hc
    · rw [List.mem_singleton] at hc
      subst hc
      simp only [Room, R3]
      omega)
  have hl2 : L.length ≤ 64 := by
    rw [hl, len_rng]
    omega
  obtain ⟨M, e1, e2, e3, e4, e5⟩ := sortC_ok L hr
  have e6 : L.mapM (intTup ∘ cD) = some (L.map c3) := mapM_intTup L
  have e7 : (tupI ∘ c3) = cD := rfl
  simp -dsimp [e6, cellsOk_c3 L hl2 hr, e1, e7] at hR
  subst hR
  exact ⟨.cel M, s', [], ⟨fun c hc => hr c ((e2 c).mp hc), by omega, e4⟩, rfl, rfl, by rw [bD]⟩
theorem body_ok : ∀ (d k : Nat) (s : HSt), 5 + 2 * d ≤ k → ∃ b s' more, Ok b ∧ dep b ≤ d ∧ siz b < 2 ^ (d + 1) ∧ Ph cfg prog k ix_l_body [.c 0, .d .pur (.int d)] [h0 s, h1 s] = .ok (.d .pur (bD b)) (h0 s' :: h1 s' :: more) := by
  intro d
  induction d with
  | zero =>
    intro k s hk
    obtain ⟨v0, s0, a0, b0, n0⟩ := next_ex (show 1 ≤ k - 1 by omega) s 10 (by omega) (by omega)
    obtain ⟨b, s', more, q1, q2, q3, q4⟩ := body_blk (show 2 ≤ k by omega) 0 s s0 v0 n0 (.inl rfl)
    exact ⟨b, s', more, q1, by omega, by omega, q4⟩
  | succ d ih =>
    intro k s hk
    have k1 : 1 ≤ k - 1 := by omega
    obtain ⟨D, hD⟩ : ∃ D : Int, D = ((d + 1 : Nat) : Int) := ⟨_, rfl⟩
    rw [← hD]
    have hd : ¬ D = 0 := by omega
    have p2 : 2 ^ (d + 1 + 1) = 2 * 2 ^ (d + 1) := by rw [Nat.pow_succ]; omega
    have p1 : 2 ≤ 2 ^ (d + 1) := by
      have := Nat.one_le_two_pow (n := d)
      rw [Nat.pow_succ]
      omega
    obtain ⟨v0, s0, a0, b0, n0⟩ := next_ex k1 s 10 (by omega) (by omega)
    by_cases c3 : v0 < 3
    · obtain ⟨b, s', more, q1, q2, q3, q4⟩ := body_blk (show 2 ≤ k by omega) D s s0 v0 n0 (.inr c3)
      exact ⟨b, s', more, q1, by omega, by omega, q4⟩
    by_cases c4 : v0 = 3
    · subst c4
      obtain ⟨b, s', more, q1, q2, q3, q4⟩ := body_cel (show 2 ≤ k by omega) D s s0 n0 hd
      exact ⟨b, s', more, q1, by omega, by omega, q4⟩
    have hd1 : D - 1 = (d : Int) := by omega
    clear hD
    have ih' : ∀ s, ∃ b s', Ok b ∧ dep b ≤ d ∧ siz b < 2 ^ (d + 1) ∧ ∀ more, callF (Ph cfg prog (k - 1) ix_l_body) [.c 0, .d .pur (.int d)] (h0 s :: h1 s :: more) = .ok (.d .pur (bD b)) (h0 s' :: h1 s' :: more) := by
      intro s
      obtain ⟨b, s', more', q1, q2, q3, q4⟩ := ih (k - 1) s (by omega)
      refine ⟨b, s', q1, q2, q3, fun more => ?_⟩
      have := callH (args := [.d .pur (.int d)]) (more := more) rfl q4
      rw [this, upD_bD]
    obtain ⟨a, s1, a1, a2, a3, a4⟩ := ih' s0
    by_cases c8 : v0 < 8
    · obtain ⟨b, s2, b1, b2, b3, b4⟩ := ih' s1
      obtain ⟨w, hw⟩ : ∃ w : Tw, L2.atI [PyData.str "with", PyData.str "with", PyData.str "less", PyData.str "common"] (v0 - 4) = some (.str w.s) := by
        have : v0 - 4 = 0 ∨ v0 - 4 = 1 ∨ v0 - 4 = 2 ∨ v0 - 4 = 3 := by omega
        rcases this with h | h | h | h <;> rw [h]
        · exact ⟨.w, atI_0 _ _⟩
        · exact ⟨.w, atI_1 _ _ _⟩
        · exact ⟨.l, atI_2 _ _ _ _⟩
        · exact ⟨.c, atI_3 _ _ _ _ _⟩
      refine ⟨.two w a b, s2, [], ⟨a1, b1⟩, by simp only [dep]; omega, by simp only [siz]; omega, ?_⟩
      rw [Ph_run (by omega) (show _ = some fn_l_body from rfl) rfl]
      simp -dsimp [fn_l_body, ir_l_body, n0, hd, c3, c4, c8, hd1, a4, b4, hw, bD]
    by_cases c9 : v0 = 8
    · subst c9
      obtain ⟨e, s2, e1, e2, n2⟩ := next_ex k1 s1 3 (by omega) (by omega)
      have : e = 0 ∨ e = 1 ∨ e = 2 := by omega
      rcases this with rfl | rfl | rfl
      · refine ⟨.trn .x a, s2, [], a1, by simp only [dep]; omega, by simp only [siz]; omega, ?_⟩
        rw [Ph_run (by omega) (show _ = some fn_l_body from rfl) rfl]
        simp -dsimp [fn_l_body, ir_l_body, n0, hd, hd1, a4, n2, bD, Ed.s]
      · refine ⟨.trn .y a, s2, [], a1, by simp only [dep]; omega, by simp only [siz]; omega, ?_⟩
        rw [Ph_run (by omega) (show _ = some fn_l_body from rfl) rfl]
        simp -dsimp [fn_l_body, ir_l_body, n0, hd, hd1, a4, n2, bD, Ed.s]
      · refine ⟨.trn .z a, s2, [], a1, by simp only [dep]; omega, by simp only [siz]; omega, ?_⟩
        rw [Ph_run (by omega) (show _ = some fn_l_body from rfl) rfl]
        simp -dsimp [fn_l_body, ir_l_body, n0, hd, hd1, a4, n2, bD, Ed.s]
    have c10 : v0 = 9 := by omega
    subst c10
    have hall := fun st g => l_all_ok (st := st) (g := g) a (show 2 + dep a ≤ k - 1 by omega)
    generalize hR : Ph cfg prog k ix_l_body _ _ = R
    rw [Ph_run (by omega) (show _ = some fn_l_body from rfl) rfl] at hR
    have e3 : rngRV 0 3 = ([0, 1, 2] : List Int).map fun i => .d .pur (.int i) := rngRV_3
    simp -dsimp [fn_l_body, ir_l_body, n0, hd, hd1, a4, hall, e3, -rngRV_3, -List.map_cons, -List.map_nil] at hR
    generalize hF : forL _ _ _ _ _ = F at hR
    obtain ⟨env', st', rfl, fs, s2, e6, e7, e8, e9, e10, e11, hl, hg, rfl, rfl⟩ := forL_rel hF (fun pre env st => ∃ (fs : List Int) (s2 : HSt) (e6 e7 e8 e9 e10 e11 : Option RV), fs.length = pre.length ∧ (∀ p ∈ pre.zip fs, (-3 ≤ p.2 ∧ p.2 ≤ 3) ∧ ∀ c ∈ clsB a, 0 ≤ cmp p.1 c + p.2 ∧ cmp p.1 c + p.2 ≤ 3) ∧
        env = [some (.c 0), some (.d .pur (.int D)), some (.d .pur (.int 9)), some (.d .pur (bD a)), some (.d .new (.list ((clsB a).map cD))), some (.c 2), e6, e7, e8, e9, e10, e11] ∧ st = [h0 s2, h1 s2, .lst (fs.map fun i => .d .pur (.int i))])
      ⟨[], s1, _, _, _, _, _, _, rfl, fun _ h => absurd h List.not_mem_nil, rfl, rfl⟩ (by
      rintro pre i post env st epre ⟨fs, s2, e6, e7, e8, e9, e10, e11, hl, hg, rfl, rfl⟩ O hO
      have hi : i = 0 ∨ i = 1 ∨ i = 2 := by
        have : i ∈ ([0, 1, 2] : List Int) := by rw [epre]; simp
        simpa using this
      have hl3 : fs.length < 16777216 := by
        have := congrArg List.length epre
        simp at this
        omega
      obtain ⟨lo, m1, m2, m3⟩ := pick_min ((clsB a).map (cmp i)) 0
      obtain ⟨up, u1, u2, u3⟩ := pick_max ((clsB a).map (cmp i)) 3
      simp only [List.map_map, Function.comp_def] at m1 u1
      have hroom : ∀ c ∈ clsB a, Room c := fun c hc => room_inB a a1 c ((mem_clsB a1 c).mp hc)
      have hlo : 0 ≤ lo ∧ lo ≤ 3 ∧ 0 ≤ up ∧ up ≤ 3 ∧ lo ≤ up ∧ ∀ c ∈ clsB a, lo ≤ cmp i c ∧ cmp i c ≤ up := by
        have q : ∀ c ∈ clsB a, lo ≤ cmp i c ∧ cmp i c ≤ up := fun c hc => ⟨m3 _ (List.mem_map_of_mem hc), u3 _ (List.mem_map_of_mem hc)⟩
        rcases m2 with ⟨q1, rfl⟩ | q1
        · rcases u2 with ⟨q2, rfl⟩ | q2
          · exact ⟨by omega, by omega, by omega, by omega, by omega, q⟩
          · rw [q1] at q2
            exact absurd q2 List.not_mem_nil
        · rcases u2 with ⟨q2, rfl⟩ | q2
          · rw [q2] at q1
            exact absurd q1 List.not_mem_nil
          · obtain ⟨c, hc, rfl⟩ := List.mem_map.mp q1
            obtain ⟨c', hc', rfl⟩ := List.mem_map.mp q2
            have := cmp_bd (i := i) (hroom c hc)
            have := cmp_bd (i := i) (hroom c' hc')
            have := q c hc
            exact ⟨by omega, by omega, by omega, by omega, by omega, q⟩
      obtain ⟨l1, l2, l3, l4, l5, l6⟩ := hlo
      obtain ⟨v, s3, v1, v2, n3⟩ := next_ex k1 s2 (4 - up + lo) (by omega) (by omega)
      simp -dsimp [frTurn] at hO
      rw [lcL_map (clsB a) _ (fun c => .d .pur (.int (cmp i c))) _ _ _ _ (fun c _ => by simp -dsimp [lcTrn, cmp_at hi])] at hO
      simp -dsimp [m1] at hO
      rw [lcL_map (clsB a) _ (fun c => .d .pur (.int (cmp i c))) _ _ _ _ (fun c _ => by simp -dsimp [lcTrn, cmp_at hi])] at hO
      simp -dsimp [u1, n3, hl3] at hO
      subst hO
      refine ⟨_, _, rfl, fs ++ [v - lo], s3, _, _, _, _, _, _, by simp [hl], fun p hp => ?_, rfl, by simp⟩
      rw [List.zip_append hl.symm] at hp
      rcases List.mem_append.mp hp with hp | hp
      · exact hg p hp
      · simp only [List.zip_cons_cons, List.zip_nil_right, List.mem_singleton] at hp
        subst hp
        refine ⟨by constructor <;> simp only [] <;> omega, fun c hc => ?_⟩
        have := l6 c hc
        simp only []
        omega)
    match fs, hl with
    | [f0, f1, f2], _ =>
      have g0 := hg (0, f0) (by simp)
      have g1 := hg (1, f1) (by simp)
      have g2 := hg (2, f2) (by simp)
      simp -dsimp at hR
      subst hR
      refine ⟨.mov (f0, f1, f2) a, s2, [.lst [.d .pur (.int f0), .d .pur (.int f1), .d .pur (.int f2)]], ⟨?_, a1, fun c hc => ?_⟩, by simp only [dep]; omega, by simp only [siz]; omega, ?_⟩
      · simp only [R3] at *
        omega
      · have q0 := g0.2 c ((mem_clsB a1 c).mpr hc)
        have q1 := g1.2 c ((mem_clsB a1 c).mpr hc)
        have q2 := g2.2 c ((mem_clsB a1 c).mpr hc)
        simp only [cmp, Room, R3, addC] at *
        simp at q0 q1 q2
        omega
      · simp only [bD]
theorem body_L (d : Nat) (hk : 5 + 2 * d ≤ k) (s : HSt) : ∃ b s', Ok b ∧ dep b ≤ d ∧ siz b < 2 ^ (d + 1) ∧ ∀ more, callF (Ph cfg prog k ix_l_body) [.c 1, .d .pur (.int d)] (h1 s :: hL s :: more) = .ok (.d .pur (bD b)) (h1 s' :: hL s' :: more) := by
  obtain ⟨b, s', more', q1, q2, q3, q4⟩ := body_ok d k s hk
  refine ⟨b, s', q1, q2, q3, fun more => ?_⟩
  have := callL (args := [.d .pur (.int d)]) (more := more) rfl q4
  rw [this, upD_bD]
theorem mix_ok (hk : 1 ≤ k) (ns : List Int) (sd : Int) : ∃ s, callF (Ph cfg prog k ix_l_mix) [.d .scr (.list (ns.map .int)), .d .pur (.int sd)] [] = .ok (.c 1) [h1 s, hL s] := by
  rw [call0 rfl, Ph_run (by omega) (show _ = some fn_l_mix from rfl) rfl]
  have e0 : (ns.map PyData.int).map (el (Gn.scr.down)) = ns.map fun i => .d .pur (.int i) := by
    rw [List.map_map]
    rfl
  simp -dsimp only [List.map_cons, List.map_nil, dn_d]
  simp -dsimp [fn_l_mix, ir_l_mix, e0, -List.map_map]
  generalize hF : forL _ _ _ _ _ = F
  obtain ⟨env', st', rfl, m, e, rfl, rfl⟩ := forL_rel hF (fun pre env st => ∃ (m : Int) (e : Option RV), env = [some (.d (Gn.scr.down) (.list (ns.map .int))), some (.d .pur (.int sd)), some (.d .pur (.int m)), e] ∧ st = []) ⟨_, _, rfl, rfl⟩ (by
    rintro pre i post env st epre ⟨m, e, rfl, rfl⟩ O hO
    simp -dsimp [frTurn] at hO
    subst hO
    exact ⟨_, _, rfl, _, _, rfl, rfl⟩)
  refine ⟨⟨m, ns, 0⟩, ?_⟩
  simp -dsimp [e0, -List.map_map]
  exact ret0_mix ⟨m, ns, 0⟩
theorem alike_ok (x : PyData) (k : Nat) (st : Store) (g g1 : Gn) (hx : gd x = true) (hk : 1 + x.depth ≤ k) : callF (Ph cfg prog k ix_l_alike) [.d g x, .d g1 x] st = .ok (.d .pur (.bool true)) st := by
  have many : ∀ (xs : List PyData), (∀ y ∈ xs, gd y = true ∧ sizeOf y < sizeOf x ∧ 1 + y.depth ≤ k - 1) → ∀ (g g1 : Gn) (κ : RV → Store → Res (Option RV)) (t : Tag κ), (∀ (i : Int) (y : PyData), L2.atI xs i = some y → y ∈ xs → callF (Ph cfg prog (k - 1) ix_l_alike) [el g y, el g1 y] [] = .ok (.d .pur (.bool true)) [] → κ (.d .pur (.int i)) [] = .ok none []) → lcL κ t ((rng 0 xs.length).map fun i => .d .pur (.int i)) [] [] = .ok [] [] := by
    intro xs hxs g g1 κ t hκ
    refine lcL_no (rng 0 xs.length) _ κ t [] [] fun i hi => ?_
    rw [mem_rng] at hi
    have hl : i.toNat < xs.length := by omega
    have hat : L2.atI xs i = some xs[i.toNat] := by rw [atI_nn hi.1, List.getElem?_eq_getElem hl]
    have hm := List.getElem_mem hl
    obtain ⟨q1, q2, q3⟩ := hxs _ hm
    exact hκ i _ hat hm (by unfold el; exact alike_ok _ (k - 1) [] _ _ q1 q3)
  rw [call0 rfl, Ph_run (by omega) (show _ = some fn_l_alike from rfl) rfl]
  cases x with
  | none => simp -dsimp [fn_l_alike, ir_l_alike]
  | bool b => simp -dsimp [fn_l_alike, ir_l_alike]
  | int i => simp -dsimp [fn_l_alike, ir_l_alike]
  | str s => simp -dsimp [fn_l_alike, ir_l_alike]
  | dict kvs => cases hx
  | list xs =>
    rw [gd, Bool.and_eq_true, decide_eq_true_eq] at hx
    rw [PyData.depth] at hk
    have l1 : (xs.length : Int) < 1000000 := by omega
    have l2 : -1000000 < (xs.length : Int) := by omega
    simp -dsimp [fn_l_alike, ir_l_alike, l1, l2, rngRV_rng]
    rw [many xs (fun y hy => ⟨gds_mem hx.2 hy, by have := List.sizeOf_lt_of_mem hy; simp only [PyData.list.sizeOf_spec]; omega, by have := depth_mem hy; omega⟩) g.down g1.down _ _ (fun i y hat hy hc => by simp -dsimp [lcTrn, hat, hc])]
    simp -dsimp
  | tuple xs =>
    rw [gd, Bool.and_eq_true, decide_eq_true_eq] at hx
    rw [PyData.depth] at hk
    have l1 : (xs.length : Int) < 1000000 := by omega
    have l2 : -1000000 < (xs.length : Int) := by omega
    simp -dsimp [fn_l_alike, ir_l_alike, l1, l2, rngRV_rng]
    rw [many xs (fun y hy => ⟨gds_mem hx.2 hy, by have := List.sizeOf_lt_of_mem hy; simp only [PyData.tuple.sizeOf_spec]; omega, by have := depth_mem hy; omega⟩) g.down g1.down _ _ (fun i y hat hy hc => by simp -dsimp [lcTrn, hat, hc])]
    simp -dsimp
termination_by sizeOf x
end
end K13

-- RA13
namespace K13
open PySem DL
section
variable {k : Nat} {st : Store} {g g1 g2 g3 : Gn}
theorem l_whole_ok (hk : 1 ≤ k) (n lo hi : Int) : callF (Ph cfg prog k ix_l_whole) [.d g (.int n), .d g1 (.int lo), .d g2 (.int hi)] st = .ok (.d .pur (.bool (decide (lo ≤ n ∧ n ≤ hi)))) st := by
  rw [call0 rfl, Ph_run hk (show _ = some fn_l_whole from rfl) rfl]
  simp -dsimp [fn_l_whole, ir_l_whole]
theorem l_numbers_ok (hk : 2 ≤ k) (c : Cl) (lo hi : Int) (h : R3 lo hi c) : callF (Ph cfg prog k ix_l_numbers) [.d g (cD c), .d g1 (.int lo), .d g2 (.int hi)] st = .ok (.d .pur (.bool true)) st := by
  rw [call0 rfl, Ph_run (by omega) (show _ = some fn_l_numbers from rfl) rfl]
  simp only [R3] at h
  simp -dsimp [fn_l_numbers, ir_l_numbers, lcTrn, l_whole_ok (show 1 ≤ k - 1 by omega), h.1, h.2.1, h.2.2]
theorem l_counted_ok : ∀ (b : B) (k : Nat) (st : Store) (g : Gn), 3 + dep b ≤ k → Ok b → callF (Ph cfg prog k ix_l_counted) [.d g (bD b)] st = .ok (.d .pur (.int (siz b))) st
  | .blk c s, k, st, g, hk, h => by
    rw [call0 rfl, Ph_run (by omega) (show _ = some fn_l_counted from rfl) rfl]
    have q1 := fun st g g1 g2 => l_numbers_ok (k := k - 1) (st := st) (g := g) (g1 := g1) (g2 := g2) (by omega) c 0 3 h.1
    have q2 := fun st g g1 g2 => l_numbers_ok (k := k - 1) (st := st) (g := g) (g1 := g1) (g2 := g2) (by omega) s 1 4 h.2.1
    simp -dsimp [fn_l_counted, ir_l_counted, bD, q1, q2, siz]
  | .cel L, k, st, g, hk, h => by
    rw [call0 rfl, Ph_run (by omega) (show _ = some fn_l_counted from rfl) rfl]
    obtain ⟨h1, h2, h3⟩ := h
    simp -dsimp [fn_l_counted, ir_l_counted, bD, siz]
    rw [lcL_no L _ _ _ _ _ (fun c hc => by simp -dsimp [lcTrn, l_numbers_ok (show 2 ≤ k - 1 by omega) c 0 3 (h1 c hc)])]
    have e1 := cellsOk_c3 L h2 h1
    have e2 : (tupI ∘ fun c : Cl => [c.1, c.2.1, c.2.2]) = cD := rfl
    have e3 : (c3 : Cl → List Int) = fun c => [c.1, c.2.1, c.2.2] := rfl
    rw [e3] at e1
    simp -dsimp [mapM_intTup, e1, h3, e2, lstG_no (noLs_cells L)]
  | .two w a b, k, st, g, hk, h => by
    simp only [dep] at hk
    rw [call0 rfl, Ph_run (by omega) (show _ = some fn_l_counted from rfl) rfl]
    have iha := fun st g => l_counted_ok a (k - 1) st g (by omega) h.1
    have ihb := fun st g => l_counted_ok b (k - 1) st g (by omega) h.2
    cases w <;> simp -dsimp [fn_l_counted, ir_l_counted, bD, siz, Tw.s, iha, ihb]
  | .mov f a, k, st, g, hk, h => by
    simp only [dep] at hk
    rw [call0 rfl, Ph_run (by omega) (show _ = some fn_l_counted from rfl) rfl]
    have iha := fun st g => l_counted_ok a (k - 1) st g (by omega) h.2.1
    have q1 := fun st g g1 g2 => l_numbers_ok (k := k - 1) (st := st) (g := g) (g1 := g1) (g2 := g2) (by omega) f (-3) 3 h.1
    simp -dsimp [fn_l_counted, ir_l_counted, bD, siz, iha, q1]
  | .trn e a, k, st, g, hk, h => by
    simp only [dep] at hk
    rw [call0 rfl, Ph_run (by omega) (show _ = some fn_l_counted from rfl) rfl]
    have iha := fun st g => l_counted_ok a (k - 1) st g (by omega) h
    cases e <;> simp -dsimp [fn_l_counted, ir_l_counted, bD, siz, Ed.s, iha]
/-! cells -/
theorem cells_ok (b : B) (hk : 8 + dep b ≤ k) (h : Ok b) (hs : siz b ≤ 20) : callF (Ph cfg prog k ix_cells) [.d .pur (bD b)] st = .ok (.d .new (.list ((clsB b).map cD))) st := by
  rw [call0 rfl, Ph_run (by omega) (show _ = some fn_cells from rfl) rfl]
  simp -dsimp [fn_cells, ir_cells, known_ok b (show 7 + dep b ≤ k - 1 by omega) h hs]
end
end K13

-- DBfs
/-! DBfs: steps within some cells: balls; ways found from some cells on, in two manners. -/
namespace DL
open PySem
def nbr (c : Cl) : List Cl := [(c.1 - 1, c.2.1, c.2.2), (c.1, c.2.1 - 1, c.2.2), (c.1, c.2.1 + 1, c.2.2), (c.1 + 1, c.2.1, c.2.2)]
theorem mem_nbr {c d : Cl} : d ∈ nbr c ↔ (d = (c.1 - 1, c.2.1, c.2.2) ∨ d = (c.1, c.2.1 - 1, c.2.2) ∨ d = (c.1, c.2.1 + 1, c.2.2) ∨ d = (c.1 + 1, c.2.1, c.2.2)) := by
  simp [nbr]
theorem nbr_symm {c d : Cl} (h : d ∈ nbr c) : c ∈ nbr d := by
  obtain ⟨x, y, z⟩ := c
  obtain ⟨x', y', z'⟩ := d
  simp only [mem_nbr, Prod.mk.injEq] at *
  omega
theorem nbr_z {c d : Cl} (h : d ∈ nbr c) : d.2.2 = c.2.2 := by
  obtain ⟨x, y, z⟩ := c
  obtain ⟨x', y', z'⟩ := d
  simp only [mem_nbr, Prod.mk.injEq] at *
  omega
theorem nbr_nodup (c : Cl) : (nbr c).Nodup := by
  obtain ⟨x, y, z⟩ := c
  simp only [nbr, List.nodup_cons, List.mem_cons, Prod.mk.injEq, List.not_mem_nil, or_false, not_or, not_false_eq_true, List.nodup_nil, and_true]
  omega
/-- reached by so many steps within S, from B -/
def ball (S B : List Cl) : Nat → Cl → Prop
  | 0, c => c ∈ B
  | n + 1, c => ball S B n c ∨ (c ∈ S ∧ ∃ d, c ∈ nbr d ∧ ball S B n d)
section
variable {S B : List Cl}
theorem ball_mono {n m : Nat} (h : n ≤ m) {c : Cl} (q : ball S B n c) : ball S B m c := by
  induction h with
  | refl => exact q
  | step _ ih => exact .inl ih
theorem ball_in (hB : ∀ c ∈ B, c ∈ S) : ∀ {n : Nat} {c : Cl}, ball S B n c → c ∈ S
  | 0, c, h => hB c h
  | n + 1, c, h => h.elim (ball_in hB) fun q => q.1
theorem ball_layer (z : Int) : ∀ (n : Nat) (c : Cl), c.2.2 = z → (ball S B n c ↔ ball (S.filter fun c => decide (c.2.2 = z)) (B.filter fun c => decide (c.2.2 = z)) n c)
  | 0, c, h => by
    show c ∈ B ↔ c ∈ B.filter _
    rw [List.mem_filter]
    simp [h]
  | n + 1, c, h => by
    show (ball S B n c ∨ (c ∈ S ∧ ∃ d, c ∈ nbr d ∧ ball S B n d)) ↔ (ball _ _ n c ∨ (c ∈ S.filter _ ∧ ∃ d, c ∈ nbr d ∧ ball _ _ n d))
    rw [← ball_layer z n c h, List.mem_filter]
    refine or_congr Iff.rfl (and_congr (by simp [h]) ⟨?_, ?_⟩)
    · rintro ⟨d, h1, h2⟩
      exact ⟨d, h1, (ball_layer z n d ((nbr_z h1).symm.trans h)).mp h2⟩
    · rintro ⟨d, h1, h2⟩
      exact ⟨d, h1, (ball_layer z n d ((nbr_z h1).symm.trans h)).mpr h2⟩
open Classical in
theorem filter_lt {L : List Cl} {p q : Cl → Prop} (h : ∀ x, p x → q x) : (L.filter fun x => decide (p x)).length ≤ (L.filter fun x => decide (q x)).length ∧ ((∃ x ∈ L, q x ∧ ¬ p x) → (L.filter fun x => decide (p x)).length < (L.filter fun x => decide (q x)).length) := by
  induction L with
  | nil => simp
  | cons a L ih =>
    obtain ⟨i1, i2⟩ := ih
    by_cases hp : p a
    · have hq := h a hp
      simp only [List.filter_cons, hp, hq, decide_true, if_true, List.length_cons]
      refine ⟨by omega, ?_⟩
      rintro ⟨x, hx, q1, q2⟩
      rcases List.mem_cons.mp hx with rfl | hx
      · exact absurd hp q2
      · have := i2 ⟨x, hx, q1, q2⟩
        omega
    · by_cases hq : q a
      · simp only [List.filter_cons, hp, hq, decide_true, decide_false, if_true, List.length_cons]
        simp only [Bool.false_eq_true, if_false]
        exact ⟨by omega, fun _ => by omega⟩
      · simp only [List.filter_cons, hp, hq, decide_false]
        simp only [Bool.false_eq_true, if_false]
        refine ⟨i1, ?_⟩
        rintro ⟨x, hx, q1, q2⟩
        rcases List.mem_cons.mp hx with rfl | hx
        · exact absurd q1 hq
        · exact i2 ⟨x, hx, q1, q2⟩
open Classical in
/-- no more than there are cells -/
theorem ball_stab (hB : ∀ c ∈ B, c ∈ S) {N : Nat} (hN : S.length ≤ N) {r : Nat} {c : Cl} (h : ball S B r c) : ball S B N c := by
  have key : ∀ n, (∃ m, m ≤ n ∧ ∀ c, ball S B (m + 1) c → ball S B m c) ∨ n + 1 ≤ (S.filter fun x => decide (ball S B (n + 1) x)).length := by
    intro n
    induction n with
    | zero =>
      by_cases st : ∀ c, ball S B 1 c → ball S B 0 c
      · exact .inl ⟨0, Nat.le_refl _, st⟩
      · right
        obtain ⟨x, hx⟩ := Classical.not_forall.mp st
        obtain ⟨h1, h2⟩ := Classical.not_imp.mp hx
        have := (filter_lt (L := S) (p := ball S B 0) (q := ball S B (0 + 1)) fun x => .inl).2 ⟨x, ball_in hB h1, h1, h2⟩
        omega
    | succ n ih =>
      rcases ih with ⟨m, h1, h2⟩ | ih
      · exact .inl ⟨m, by omega, h2⟩
      · by_cases st : ∀ c, ball S B (n + 2) c → ball S B (n + 1) c
        · exact .inl ⟨n + 1, Nat.le_refl _, st⟩
        · right
          obtain ⟨x, hx⟩ := Classical.not_forall.mp st
          obtain ⟨h1, h2⟩ := Classical.not_imp.mp hx
          have := (filter_lt (L := S) (p := ball S B (n + 1)) (q := ball S B (n + 1 + 1)) fun x => .inl).2 ⟨x, ball_in hB h1, h1, h2⟩
          omega
  rcases key N with ⟨m, h1, h2⟩ | h1
  · have all : ∀ k, ∀ c, ball S B (m + k) c → ball S B m c := by
      intro k
      induction k with
      | zero => exact fun c h => h
      | succ k ih =>
        intro c hc
        rcases hc with hc | ⟨q1, d, q2, q3⟩
        · exact ih c hc
        · exact h2 c (.inr ⟨q1, d, q2, ih d q3⟩)
    by_cases hr : r ≤ m
    · exact ball_mono (Nat.le_trans hr h1) h
    · refine ball_mono h1 (all (r - m) c ?_)
      rw [show m + (r - m) = r by omega]
      exact h
  · have : (S.filter fun x => decide (ball S B (N + 1) x)).length ≤ S.length := List.length_filter_le _ _
    omega

/-! ### from the begins on, the nearest first -/
def keysM (M : List (Cl × Int)) : List Cl := M.map (·.1)
structure BI (S B : List Cl) (M : List (Cl × Int)) (Q : List Cl) (k : Nat) : Prop where
  nd : (keysM M).Nodup
  val : ∀ c v, (c, v) ∈ M → ∃ n : Nat, v = n ∧ ball S B n c ∧ ∀ m, ball S B m c → n ≤ m
  all : ∀ c, ball S B k c → c ∈ keysM M
  cl : ∀ c, c ∈ keysM M → c ∉ Q → ∀ d ∈ S, d ∈ nbr c → d ∈ keysM M
  q : ∃ Q1 Q2, Q = Q1 ++ Q2 ∧ (∀ c ∈ Q1, (c, (k : Int)) ∈ M) ∧ ∀ c ∈ Q2, (c, ((k + 1 : Nat) : Int)) ∈ M
  qn : Q.Nodup
  sub : ∀ c ∈ keysM M, c ∈ S
theorem mem_keysM {M : List (Cl × Int)} {c : Cl} : c ∈ keysM M ↔ ∃ v, (c, v) ∈ M := by
  unfold keysM
  rw [List.mem_map]
  exact ⟨fun ⟨p, h, e⟩ => ⟨p.2, e ▸ h⟩, fun ⟨v, h⟩ => ⟨_, h, rfl⟩⟩
theorem val_uniq {M : List (Cl × Int)} (h : (keysM M).Nodup) {c : Cl} {v w : Int} (h1 : (c, v) ∈ M) (h2 : (c, w) ∈ M) : v = w := by
  induction M with
  | nil => cases h1
  | cons p M ih =>
    have hn := List.nodup_cons.mp (show (p.1 :: keysM M).Nodup from h)
    rcases List.mem_cons.mp h1 with e1 | h1 <;> rcases List.mem_cons.mp h2 with e2 | h2
    · rw [← e1] at e2
      exact (Prod.mk.inj e2).2.symm
    · exact absurd (mem_keysM.mpr ⟨w, h2⟩) (by rw [← e1] at hn; exact hn.1)
    · exact absurd (mem_keysM.mpr ⟨v, h1⟩) (by rw [← e2] at hn; exact hn.1)
    · exact ih hn.2 h1 h2
theorem bi_start (hB : ∀ c ∈ B, c ∈ S) (hn : B.Nodup) : BI S B (B.map fun c => (c, 0)) B 0 where
  nd := by
    unfold keysM
    rw [List.map_map, show ((fun p : Cl × Int => p.1) ∘ fun c : Cl => (c, (0 : Int))) = id from rfl, List.map_id]
    exact hn
  val := by
    intro c v h
    obtain ⟨d, hd, e⟩ := List.mem_map.mp h
    obtain ⟨rfl, rfl⟩ := Prod.mk.inj e
    exact ⟨0, rfl, hd, fun _ _ => Nat.zero_le _⟩
  all := fun c h => mem_keysM.mpr ⟨0, List.mem_map.mpr ⟨c, h, rfl⟩⟩
  cl := fun c h hc => by
    obtain ⟨v, h⟩ := mem_keysM.mp h
    obtain ⟨d, hd, e⟩ := List.mem_map.mp h
    obtain ⟨rfl, rfl⟩ := Prod.mk.inj e
    exact absurd hd hc
  q := ⟨B, [], by simp, fun c h => List.mem_map.mpr ⟨c, h, rfl⟩, fun _ h => absurd h List.not_mem_nil⟩
  qn := hn
  sub := fun c h => by
    obtain ⟨v, h⟩ := mem_keysM.mp h
    obtain ⟨d, hd, e⟩ := List.mem_map.mp h
    obtain ⟨rfl, rfl⟩ := Prod.mk.inj e
    exact hB _ hd
/-- the next level -/
theorem BI.next {M : List (Cl × Int)} {Q : List Cl} {k : Nat} (b : BI S B M Q k) (h : ∀ c ∈ Q, (c, ((k + 1 : Nat) : Int)) ∈ M) : BI S B M Q (k + 1) := by
  refine ⟨b.nd, b.val, fun c hc => ?_, b.cl, ⟨Q, [], by simp, h, fun _ h => absurd h List.not_mem_nil⟩, b.qn, b.sub⟩
  rcases hc with hc | ⟨hS, d, hd, hb⟩
  · exact b.all c hc
  · have dk := b.all d hb
    refine b.cl d dk (fun hq => ?_) c hS hd
    have q1 := h d hq
    obtain ⟨n, e, _, q2⟩ := b.val d _ q1
    have := q2 k hb
    omega
/-- the first of the row, with its level -/
theorem BI.head {M : List (Cl × Int)} {c : Cl} {Q : List Cl} {k : Nat} (b : BI S B M (c :: Q) k) : ∃ k', BI S B M (c :: Q) k' ∧ (c, (k' : Int)) ∈ M := by
  obtain ⟨Q1, Q2, e, h1, h2⟩ := b.q
  cases Q1 with
  | nil =>
    rw [List.nil_append] at e
    rw [← e] at h2
    exact ⟨k + 1, b.next h2, h2 c List.mem_cons_self⟩
  | cons a Q1 =>
    obtain ⟨rfl, e⟩ := List.cons_eq_cons.mp e
    exact ⟨k, b, h1 c List.mem_cons_self⟩
def newOf (S : List Cl) (M : List (Cl × Int)) (c : Cl) : List Cl := (nbr c).filter fun d => decide (d ∈ S) && !decide (d ∈ keysM M)
theorem mem_newOf {M : List (Cl × Int)} {c d : Cl} : d ∈ newOf S M c ↔ d ∈ nbr c ∧ d ∈ S ∧ d ∉ keysM M := by
  simp [newOf]
theorem BI.step {M : List (Cl × Int)} {c : Cl} {Q : List Cl} {k : Nat} (b : BI S B M (c :: Q) k) (hc : (c, (k : Int)) ∈ M) : BI S B (M ++ (newOf S M c).map fun d => (d, (k : Int) + 1)) (Q ++ newOf S M c) k := by
  have hck : ball S B k c := by
    obtain ⟨n, e, q, _⟩ := b.val c _ hc
    have : n = k := by omega
    rw [← this]
    exact q
  have ek : keysM (M ++ (newOf S M c).map fun d => (d, (k : Int) + 1)) = keysM M ++ newOf S M c := by
    unfold keysM
    rw [List.map_append, List.map_map]
    congr 1
    exact (List.map_congr_left fun _ _ => rfl).trans (List.map_id _)
  have nn : (newOf S M c).Nodup := (nbr_nodup c).filter _
  refine ⟨?_, fun d v h => ?_, fun d h => ?_, fun d hd hq e he hn => ?_, ?_, ?_, fun d hd => ?_⟩
  · rw [ek, List.nodup_append]
    exact ⟨b.nd, nn, fun x hx y hy e => (mem_newOf.mp hy).2.2 (e ▸ hx)⟩
  · rcases List.mem_append.mp h with h | h
    · exact b.val d v h
    · obtain ⟨e, he, q⟩ := List.mem_map.mp h
      obtain ⟨rfl, rfl⟩ := Prod.mk.inj q
      obtain ⟨q1, q2, q3⟩ := mem_newOf.mp he
      refine ⟨k + 1, by push_cast; rfl, .inr ⟨q2, c, q1, hck⟩, fun m hm => ?_⟩
      by_cases hle : m ≤ k
      · exact absurd (b.all e (ball_mono hle hm)) q3
      · omega
  · rw [ek]
    exact List.mem_append_left _ (b.all d h)
  · rw [ek] at hd ⊢
    rcases List.mem_append.mp hd with hd | hd
    · by_cases ec : d = c
      · subst ec
        by_cases hk : e ∈ keysM M
        · exact List.mem_append_left _ hk
        · exact List.mem_append_right _ (mem_newOf.mpr ⟨hn, he, hk⟩)
      · refine List.mem_append_left _ (b.cl d hd (fun z => ?_) e he hn)
        rcases List.mem_cons.mp z with z | z
        · exact ec z
        · exact hq (List.mem_append_left _ z)
    · exact absurd (List.mem_append_right _ hd) hq
  · obtain ⟨Q1, Q2, e, h1, h2⟩ := b.q
    have hnew : ∀ d ∈ newOf S M c, (d, ((k + 1 : Nat) : Int)) ∈ M ++ (newOf S M c).map fun d => (d, (k : Int) + 1) := fun d hd => List.mem_append_right _ (List.mem_map.mpr ⟨d, hd, by push_cast; rfl⟩)
    cases Q1 with
    | nil =>
      rw [List.nil_append] at e
      have : (c, ((k + 1 : Nat) : Int)) ∈ M := h2 c (e ▸ List.mem_cons_self)
      have := val_uniq b.nd this hc
      omega
    | cons a Q1 =>
      obtain ⟨rfl, rfl⟩ := List.cons_eq_cons.mp e
      refine ⟨Q1, Q2 ++ newOf S M c, by simp, fun d hd => List.mem_append_left _ (h1 d (List.mem_cons_of_mem _ hd)), fun d hd => ?_⟩
      rcases List.mem_append.mp hd with hd | hd
      · exact List.mem_append_left _ (h2 d hd)
      · exact hnew d hd
  · have qn := List.nodup_cons.mp b.qn
    rw [List.nodup_append]
    refine ⟨qn.2, nn, fun x hx y hy e => ?_⟩
    subst e
    obtain ⟨Q1, Q2, e, h1, h2⟩ := b.q
    have : x ∈ c :: Q := List.mem_cons_of_mem _ hx
    rw [e] at this
    refine (mem_newOf.mp hy).2.2 ?_
    rcases List.mem_append.mp this with z | z
    · exact mem_keysM.mpr ⟨_, h1 x z⟩
    · exact mem_keysM.mpr ⟨_, h2 x z⟩
  · rw [ek] at hd
    rcases List.mem_append.mp hd with hd | hd
    · exact b.sub d hd
    · exact (mem_newOf.mp hd).2.1
/-- what is found at the end -/
structure Ways (S B : List Cl) (M : List (Cl × Int)) : Prop where
  nd : (keysM M).Nodup
  val : ∀ c v, (c, v) ∈ M → ∃ n : Nat, v = n ∧ ball S B n c ∧ ∀ m, ball S B m c → n ≤ m
  all : ∀ n c, ball S B n c → c ∈ keysM M
  sub : ∀ c ∈ keysM M, c ∈ S
theorem BI.done {M : List (Cl × Int)} {k : Nat} (b : BI S B M [] k) : Ways S B M := by
  refine ⟨b.nd, b.val, fun n => ?_, b.sub⟩
  induction n with
  | zero => exact fun c h => b.all c (ball_mono (Nat.zero_le _) h)
  | succ n ih =>
    rintro c (h | ⟨h1, d, h2, h3⟩)
    · exact ih c h
    · exact b.cl d (ih d h3) List.not_mem_nil c h1 h2
/-- at most so far -/
theorem Ways.le {M : List (Cl × Int)} (h : Ways S B M) {c : Cl} {v : Int} (hv : (c, v) ∈ M) (r : Nat) : v ≤ r ↔ ball S B r c := by
  obtain ⟨n, rfl, q1, q2⟩ := h.val c v hv
  constructor
  · intro q
    exact ball_mono (by omega) q1
  · intro q
    have := q2 r q
    omega
theorem Ways.none {M : List (Cl × Int)} (h : Ways S B M) {c : Cl} (hv : c ∉ keysM M) (r : Nat) : ¬ ball S B r c := fun q => hv (h.all r c q)
end
end DL

-- DRlx
/-! DRlx: ways gone over till nothing is less. -/
namespace DL
open PySem
/-- what is so at any time -/
structure RI (S B : List Cl) (f : Cl → Int) : Prop where
  lo : ∀ c ∈ S, 0 ≤ f c ∧ f c ≤ 99
  val : ∀ c ∈ S, f c < 99 → ∃ n : Nat, f c = n ∧ ball S B n c
  beg : ∀ c ∈ B, f c = 0
def up1 (f : Cl → Int) (c : Cl) (v : Int) : Cl → Int := fun d => if d = c then v else f d
section
variable {S B : List Cl} {f g : Cl → Int}
/-- the least of those beside, and one -/
structure LeastN (S : List Cl) (f : Cl → Int) (c : Cl) (v : Int) : Prop where
  le : ∀ d ∈ S, d ∈ nbr c → v ≤ f d + 1
  is : v = 99 ∨ ∃ d ∈ S, d ∈ nbr c ∧ v = f d + 1
theorem RI.step (b : RI S B f) {c : Cl} (hc : c ∈ S) {v : Int} (l : LeastN S f c v) (h : v < f c) : RI S B (up1 f c v) := by
  have b1 := b.lo c hc
  have hv : ∃ d ∈ S, d ∈ nbr c ∧ v = f d + 1 := by
    rcases l.is with e | e
    · omega
    · exact e
  obtain ⟨d, hd, hn, e⟩ := hv
  have b2 := b.lo d hd
  refine ⟨fun a ha => ?_, fun a ha q => ?_, fun a ha => ?_⟩
  · unfold up1
    split
    · omega
    · exact b.lo a ha
  · unfold up1 at q ⊢
    split at q
    · rename_i ea
      subst ea
      rw [if_pos rfl]
      obtain ⟨n, e1, e2⟩ := b.val d hd (by omega)
      exact ⟨n + 1, by push_cast; omega, .inr ⟨ha, d, nbr_symm hn, e2⟩⟩
    · rename_i ea
      rw [if_neg ea]
      exact b.val a ha q
  · unfold up1
    split
    · rename_i ea
      subst ea
      have := b.beg _ ha
      omega
    · exact b.beg a ha
/-- known so far -/
def Upto (S B : List Cl) (f : Cl → Int) (k : Nat) : Prop := ∀ m, m ≤ k → ∀ c ∈ S, ball S B m c → f c ≤ m
theorem Upto.mono {k : Nat} (h : Upto S B f k) (hg : ∀ c, g c ≤ f c) : Upto S B g k := fun m hm c hc q => by
  have := h m hm c hc q
  have := hg c
  omega
theorem upto0 (b : RI S B f) : Upto S B f 0 := fun m hm c _ q => by
  obtain rfl : m = 0 := by omega
  have := b.beg c q
  omega
/-- where nothing was less, all is known -/
theorem all_known (hB : ∀ c ∈ B, c ∈ S) (b : RI S B f) (h : ∀ c ∈ S, ∀ d ∈ S, d ∈ nbr c → f c ≤ f d + 1) : ∀ n c, ball S B n c → f c ≤ n
  | 0, c, q => by
    have := b.beg c q
    omega
  | n + 1, c, q => by
    rcases q with q | ⟨h1, d, h2, h3⟩
    · have := all_known hB b h n c q
      push_cast
      omega
    · have := all_known hB b h n d h3
      have := h c h1 d (ball_in hB h3) (nbr_symm h2)
      push_cast
      omega
/-- what it tells -/
structure Rlx (S B : List Cl) (f : Cl → Int) : Prop where
  le : ∀ c ∈ S, ∀ r : Nat, r < 99 → (f c ≤ r ↔ ball S B r c)
theorem RI.done (hB : ∀ c ∈ B, c ∈ S) (b : RI S B f) (h : ∀ c ∈ S, ∀ d ∈ S, d ∈ nbr c → f c ≤ f d + 1) : Rlx S B f := ⟨fun c hc r hr => by
  constructor
  · intro q
    obtain ⟨n, e1, e2⟩ := b.val c hc (by omega)
    exact ball_mono (by omega) e2
  · exact all_known hB b h r c⟩
/-- a turn over all cells: pre are gone over -/
structure Pass (S B : List Cl) (f0 f : Cl → Int) (k : Nat) (goes : Bool) (pre : List Cl) : Prop where
  ri : RI S B f
  le : ∀ c, f c ≤ f0 c
  same : goes = false → f = f0
  ok : goes = false → ∀ c ∈ pre, ∀ d ∈ S, d ∈ nbr c → f c ≤ f d + 1
  up : ∀ c ∈ pre, ball S B (k + 1) c → f c ≤ ((k + 1 : Nat) : Int)
theorem pass_start {k : Nat} (b : RI S B f) : Pass S B f f k false [] := ⟨b, fun _ => Int.le_refl _, fun _ => rfl, fun _ c h => absurd h List.not_mem_nil, fun c h => absurd h List.not_mem_nil⟩
theorem Pass.skip {f0 : Cl → Int} {k : Nat} {goes : Bool} {pre : List Cl} (p : Pass S B f0 f k goes pre) (hB : ∀ c ∈ B, c ∈ S) (hu : Upto S B f0 k) {c : Cl} {v : Int} (hc : c ∈ S) (l : LeastN S f c v) (h : ¬ v < f c) : Pass S B f0 f k goes (pre ++ [c]) := by
  refine ⟨p.ri, p.le, p.same, fun hg d hd e he hn => ?_, fun d hd q => ?_⟩
  · rcases List.mem_append.mp hd with hd | hd
    · exact p.ok hg d hd e he hn
    · rw [List.mem_singleton] at hd
      subst hd
      have := l.le e he hn
      omega
  · rcases List.mem_append.mp hd with hd | hd
    · exact p.up d hd q
    · rw [List.mem_singleton] at hd
      subst hd
      rcases q with q | ⟨_, e, h2, h3⟩
      · have := hu k (Nat.le_refl _) d hc q
        have := p.le d
        push_cast
        omega
      · have q1 := hu k (Nat.le_refl _) e (ball_in hB h3) h3
        have q2 := p.le e
        have q3 := l.le e (ball_in hB h3) (nbr_symm h2)
        push_cast
        omega
theorem Pass.go {f0 : Cl → Int} {k : Nat} {goes : Bool} {pre : List Cl} (p : Pass S B f0 f k goes pre) (hB : ∀ c ∈ B, c ∈ S) (hu : Upto S B f0 k) {c : Cl} {v : Int} (hc : c ∈ S) (l : LeastN S f c v) (h : v < f c) : Pass S B f0 (up1 f c v) k true (pre ++ [c]) := by
  have hle : ∀ d, up1 f c v d ≤ f d := fun d => by
    unfold up1
    split
    · rename_i e
      subst e
      omega
    · exact Int.le_refl _
  refine ⟨p.ri.step hc l h, fun d => Int.le_trans (hle d) (p.le d), fun q => (by cases q), fun q => (by cases q), fun d hd q => ?_⟩
  rcases List.mem_append.mp hd with hd | hd
  · exact Int.le_trans (hle d) (p.up d hd q)
  · rw [List.mem_singleton] at hd
    subst hd
    have e1 : up1 f d v d = v := if_pos rfl
    rw [e1]
    rcases q with q | ⟨_, e, h2, h3⟩
    · have := hu k (Nat.le_refl _) d hc q
      have := p.le d
      push_cast
      omega
    · have q1 := hu k (Nat.le_refl _) e (ball_in hB h3) h3
      have q2 := p.le e
      have q3 := l.le e (ball_in hB h3) (nbr_symm h2)
      push_cast
      omega
theorem Pass.upto {f0 : Cl → Int} {k : Nat} {goes : Bool} (p : Pass S B f0 f k goes S) (hu : Upto S B f0 k) : Upto S B f (k + 1) := fun m hm c hc q => by
  by_cases h : m ≤ k
  · have := hu m h c hc q
    have := p.le c
    omega
  · obtain rfl : m = k + 1 := by omega
    exact p.up c hc q
/-- behind so many turns nothing goes -/
theorem Pass.still {f0 : Cl → Int} {k : Nat} {goes : Bool} {pre : List Cl} (p : Pass S B f0 f k goes pre) (hB : ∀ c ∈ B, c ∈ S) (hu : Upto S B f0 k) (hk : S.length ≤ k) (b0 : RI S B f0) (hf : f = f0) {c : Cl} {v : Int} (hc : c ∈ S) (l : LeastN S f c v) : ¬ v < f c := by
  intro h
  subst hf
  have q := p.ri.step hc l h
  have lo := p.ri.lo c hc
  have e1 : up1 f c v c = v := if_pos rfl
  obtain ⟨n, e2, e3⟩ := q.val c hc (by rw [e1]; omega)
  rw [e1] at e2
  by_cases hn : n ≤ k
  · have := hu n hn c hc e3
    omega
  · have := hu k (Nat.le_refl _) c hc (ball_stab hB hk e3)
    omega
end
end DL

-- DMap
/-! DMap: dicts from cells to numbers. -/
namespace DL
open PySem
def kvM (M : List (Cl × Int)) : List (PyData × RV) := M.map fun p => (cD p.1, .d .pur (.int p.2))
def dcM (lk : Bool) (M : List (Cl × Int)) : Cell := .dic lk (kvM M)
theorem dget_kvM (M : List (Cl × Int)) (a : Cl) : dget (kvM M) (cD a) = (M.lookup a).map fun v => .d .pur (.int v) := by
  unfold dget kvM
  induction M with
  | nil => rfl
  | cons p M ih =>
    obtain ⟨c, v⟩ := p
    simp only [List.map_cons, List.find?_cons, same, eqv_cell, List.lookup_cons]
    by_cases h : c = a
    · subst h
      simp
    · have h2 : (a == c) = false := by simpa using fun e => h e.symm
      simp only [h, decide_false, h2]
      exact ih
theorem lookup_some {M : List (Cl × Int)} {a : Cl} : (M.lookup a).isSome = decide (a ∈ keysM M) := by
  unfold keysM
  induction M with
  | nil => rfl
  | cons p M ih =>
    obtain ⟨c, v⟩ := p
    simp only [List.lookup_cons, List.map_cons, List.mem_cons]
    by_cases h : a = c
    · subst h
      simp
    · have h2 : (a == c) = false := by simpa using h
      rw [h2]
      simp only [h, false_or]
      exact ih
theorem lookup_mem {M : List (Cl × Int)} {a : Cl} {v : Int} (h : (keysM M).Nodup) : M.lookup a = some v ↔ (a, v) ∈ M := by
  induction M with
  | nil => simp
  | cons p M ih =>
    obtain ⟨c, w⟩ := p
    have hn := List.nodup_cons.mp (show (c :: keysM M).Nodup from h)
    simp only [List.lookup_cons, List.mem_cons, Prod.mk.injEq]
    by_cases h1 : a = c
    · subst h1
      simp only [beq_self_eq_true, Option.some.injEq, true_and]
      constructor
      · exact fun e => .inl e.symm
      · rintro (e | e)
        · exact e.symm
        · exact absurd (mem_keysM.mpr ⟨v, e⟩) hn.1
    · have h2 : (a == c) = false := by simpa using h1
      rw [h2]
      simp only [h1, false_and, false_or]
      exact ih hn.2
@[simp] theorem inCell_M (c : Cl) (lk : Bool) (M : List (Cl × Int)) : inCell (cD c) (dcM lk M) = some (decide (c ∈ keysM M)) := by
  show (if keyOk (cD c) = true then some (dget (kvM M) (cD c)).isSome else none) = _
  rw [if_pos (keyOk_cD c), dget_kvM, Option.isSome_map, lookup_some]
@[simp] theorem subCell_M (c : Cl) (lk : Bool) (M : List (Cl × Int)) : subCell (cD c) (dcM lk M) = (M.lookup c).map fun v => .d .pur (.int v) := by
  show (if keyOk (cD c) = true then dget (kvM M) (cD c) else none) = _
  rw [if_pos (keyOk_cD c), dget_kvM]
@[simp] theorem get2_M {st : Store} {g : Gn} (c : Cl) (lk : Bool) (M : List (Cl × Int)) (v : RV) (n : Nat) : mCell st n .get2 [.d g (cD c), v] (dcM lk M) = some (((M.lookup c).map fun v => .d .pur (.int v)).getD v, st) := by
  show (if keyOk (cD c) = true then some ((dget (kvM M) (cD c)).getD v, st) else none) = _
  rw [if_pos (keyOk_cD c), dget_kvM]
@[simp] theorem get1_M {st : Store} {g : Gn} (c : Cl) (lk : Bool) (M : List (Cl × Int)) (n : Nat) : mCell st n .get1 [.d g (cD c)] (dcM lk M) = some (((M.lookup c).map fun v => .d .pur (.int v)).getD (.d .pur .none), st) := by
  show (if keyOk (cD c) = true then some ((dget (kvM M) (cD c)).getD rvN, st) else none) = _
  rw [if_pos (keyOk_cD c), dget_kvM]
  rfl
@[simp] theorem mok_M (m : Mth) (lk : Bool) (M : List (Cl × Int)) : mokCell m (dcM lk M) = (match m with | .get1 => true | .get2 => true | _ => false) := by
  unfold dcM
  cases m <;> rfl
@[simp] theorem lkCell_M (n : Nat) (lk : Bool) (M : List (Cl × Int)) : lkCell n (dcM lk M) = some (n, lk) := Eq.trans rfl rfl
@[simp] theorem setLkC_M (st : Store) (n : Nat) (lk lk' : Bool) (M : List (Cl × Int)) : setLkC st n lk (some (dcM lk' M)) = st.set n (dcM lk M) := Eq.trans rfl rfl
@[simp] theorem srcCell_M (n : Nat) (lk : Bool) (M : List (Cl × Int)) : srcCell n (dcM lk M) = some (.items ((keysM M).map fun c => .d .pur (cD c))) := by
  show some (Src.items (List.map _ (List.map _ M))) = _
  unfold keysM
  rw [List.map_map, List.map_map]
  rfl
theorem dput_new (M : List (Cl × Int)) (c : Cl) (v : Int) (h : c ∉ keysM M) : dput (kvM M) (cD c) (.d .pur (.int v)) = kvM (M ++ [(c, v)]) := by
  unfold dput
  have e : ((kvM M).any fun p => same p.1 (cD c)) = false := by
    unfold kvM
    rw [List.any_map, show ((fun p : PyData × RV => same p.1 (cD c)) ∘ fun p : Cl × Int => (cD p.1, RV.d .pur (.int p.2))) = fun p => decide (p.1 = c) from funext fun a => eqv_cell a.1 c, List.any_eq_false]
    intro p hp
    have : p.1 ≠ c := fun e => h (mem_keysM.mpr ⟨p.2, by rw [← e]; exact hp⟩)
    simpa using this
  rw [e]
  simp only [Bool.false_eq_true, if_false]
  unfold kvM
  rw [List.map_append]
  rfl
@[simp] theorem setCell_M {st : Store} (n : Nat) (c : Cl) (v : Int) (M : List (Cl × Int)) (h : c ∉ keysM M) (hl : M.length < 16777216) : setCell st n (cD c) (.d .pur (.int v)) (dcM false M) = some (st.set n (dcM false (M ++ [(c, v)]))) := by
  show (if keyOk (cD c) = true ∧ (kvM M).length < lim then some (st.set n (.dic false (dput (kvM M) (cD c) (.d .pur (.int v))))) else none) = _
  rw [if_pos ⟨keyOk_cD c, by unfold kvM; rw [List.length_map]; exact hl⟩, dput_new M c v h]
  rfl
theorem foldl_M (g : Gn) : ∀ (L acc : List (Cl × Int)), (keysM (acc ++ L)).Nodup → (L.map fun p => (cD p.1, PyData.int p.2)).foldl (fun acc q => dput acc q.1 (el g q.2)) (kvM acc) = kvM (acc ++ L)
  | [], acc, _ => by simp
  | p :: L, acc, h => by
    have hn : p.1 ∉ keysM acc := by
      unfold keysM at h ⊢
      rw [List.map_append, List.nodup_append] at h
      exact fun q => h.2.2 p.1 q p.1 (by simp) rfl
    rw [List.map_cons, List.foldl_cons]
    show List.foldl _ (dput (kvM acc) (cD p.1) (.d .pur (.int p.2))) _ = _
    rw [dput_new acc p.1 p.2 hn, foldl_M g L _ (by simpa using h)]
    simp
theorem mkDic_M (g : Gn) (L : List (Cl × Int)) (h : (keysM L).Nodup) : mkDic (.d g (.list (L.map fun p => .tuple [cD p.1, .int p.2]))) = some (dcM false L) := by
  have hp : pairsOf (L.map fun p : Cl × Int => .tuple [cD p.1, .int p.2]) = some (L.map fun p => (cD p.1, .int p.2)) := by
    clear h
    induction L with
    | nil => rfl
    | cons c L ih =>
      rw [List.map_cons, pairsOf, ih]
      rfl
  unfold mkDic
  simp only []
  rw [hp]
  simp only [Option.bind_some]
  rw [if_pos (by
    rw [List.all_eq_true]
    intro q hq
    obtain ⟨c, _, rfl⟩ := List.mem_map.mp hq
    exact keyOk_cD _)]
  rw [show ([] : List (PyData × RV)) = kvM [] from rfl, foldl_M g L [] (by simpa using h)]
  rfl
theorem mkDic_Mf {α : Type} (g : Gn) (L : List α) (f : α → Cl) (v : α → Int) (h : (L.map f).Nodup) : mkDic (.d g (.list (L.map fun x => .tuple [cD (f x), .int (v x)]))) = some (dcM false (L.map fun x => (f x, v x))) := by
  have := mkDic_M g (L.map fun x => (f x, v x)) (by
    unfold keysM
    rw [List.map_map]
    exact h)
  rw [List.map_map] at this
  exact this
theorem mapCell_M {fd : Gn → Gn} {fc : Nat → Option Nat} (hf : fd .pur = .pur) (lk : Bool) (M : List (Cl × Int)) : mapCell fd fc (dcM lk M) = some (dcM lk M) := by
  show Option.map _ ((kvM M).mapM _) = _
  have : ∀ M : List (Cl × Int), (kvM M).mapM (fun p => (mapRV fd fc p.2).map fun v => (p.1, v)) = some (kvM M) := by
    intro M
    induction M with
    | nil => rfl
    | cons c L ih =>
      show List.mapM _ ((cD c.1, .d .pur (.int c.2)) :: kvM L) = some ((cD c.1, .d .pur (.int c.2)) :: kvM L)
      rw [List.mapM_cons, ih]
      show Option.bind (some (cD c.1, RV.d (fd .pur) _)) _ = _
      rw [hf]
      rfl
  rw [this]
  rfl
@[simp] theorem refs_M (lk : Bool) (M : List (Cl × Int)) : (dcM lk M).refs = [] := by
  show refsOf (List.map _ (List.map _ M)) = []
  rw [List.map_map]
  induction M with
  | nil => rfl
  | cons c L ih => exact ih
theorem ret0_M {st s1 : Store} {j : Nat} {lk : Bool} {M : List (Cl × Int)} (h : s1[j]? = some (dcM lk M)) : ret0 st (.ok (.c j) s1) = .ok (.c st.length) (st ++ [dcM lk M]) := by
  show (match s1[j]? with
      | some cl => _
      | none => _) = _
  rw [h]
  show (if (dcM lk M).refs = [] then _ else _) = _
  rw [if_pos (refs_M lk M)]
  show (match mapCell .up (fun _ => none) (dcM lk M) with
    | some cl => _
    | none => _) = _
  rw [mapCell_M rfl]
/-- a set was handed, a dict is told -/
theorem call1_M {φ : List RV → Store → Res RV} {args : List RV} {st more : Store} {n j : Nat} {lk lk' : Bool} {L : List Cl} {M : List (Cl × Int)} (hd : allD args = true) (hn : st[n]? = some (dcS lk L)) (h : φ (.c 0 :: args.map dn) [dcS lk L] = .ok (.c (j + 1)) (dcS lk L :: more))
    (hj : more[j]? = some (dcM lk' M)) : callF φ (.c n :: args) st = .ok (.c st.length) (st ++ [dcM lk' M]) := by
  obtain ⟨e1, e2, e3, e4⟩ := call1_pre hd hn
  unfold callF
  rw [e1]
  simp only []
  rw [e2, e3]
  simp only []
  rw [h]
  simp only []
  rw [e4]
  simp only []
  rw [if_neg (by simp), List.getElem?_cons_succ, hj]
  simp only []
  rw [if_pos (refs_M lk' M)]
  show (match mapCell .up (fun _ => none) (dcM lk' M) with
    | some cl => _
    | none => _) = _
  rw [mapCell_M rfl]
/-- a dict that has a number for each of some cells -/
def dcF (L : List Cl) (f : Cl → Int) : List (Cl × Int) := L.map fun c => (c, f c)
theorem keysF (L : List Cl) (f : Cl → Int) : keysM (dcF L f) = L := by
  unfold keysM dcF
  rw [List.map_map]
  exact (List.map_congr_left fun _ _ => rfl).trans (List.map_id _)
theorem lookupF {L : List Cl} {f : Cl → Int} {c : Cl} (h : c ∈ L) : (dcF L f).lookup c = some (f c) := by
  induction L with
  | nil => cases h
  | cons a L ih =>
    show List.lookup c ((a, f a) :: dcF L f) = _
    rw [List.lookup_cons]
    by_cases e : c = a
    · subst e
      simp
    · have e2 : (c == a) = false := by simpa using e
      rw [e2]
      exact ih ((List.mem_cons.mp h).resolve_left e)
theorem setF {st : Store} {n : Nat} {L : List Cl} {f : Cl → Int} {c : Cl} {v : Int} (h : c ∈ L) (hl : L.length < 16777216) : setCell st n (cD c) (.d .pur (.int v)) (dcM false (dcF L f)) = some (st.set n (dcM false (dcF L (up1 f c v)))) := by
  have e : dput (kvM (dcF L f)) (cD c) (.d .pur (.int v)) = kvM (dcF L (up1 f c v)) := by
    unfold dput
    have e1 : ((kvM (dcF L f)).any fun p => same p.1 (cD c)) = true := by
      rw [List.any_eq_true]
      refine ⟨(cD c, .d .pur (.int (f c))), List.mem_map.mpr ⟨(c, f c), List.mem_map.mpr ⟨c, h, rfl⟩, rfl⟩, ?_⟩
      show PyData.eqv (cD c) (cD c) = true
      rw [eqv_cell]
      simp
    rw [if_pos e1]
    unfold kvM dcF
    rw [List.map_map, List.map_map, List.map_map]
    refine List.map_congr_left fun a _ => ?_
    show (if PyData.eqv (cD a) (cD c) = true then (cD a, RV.d .pur (.int v)) else (cD a, RV.d .pur (.int (f a)))) = (cD a, RV.d .pur (.int (up1 f c v a)))
    rw [eqv_cell]
    unfold up1
    by_cases q : a = c <;> simp [q]
  show (if keyOk (cD c) = true ∧ (kvM (dcF L f)).length < lim then some (st.set n (.dic false (dput (kvM (dcF L f)) (cD c) (.d .pur (.int v))))) else none) = _
  rw [if_pos ⟨keyOk_cD c, by unfold kvM dcF; rw [List.length_map, List.length_map]; exact hl⟩, e]
  rfl
/-- carried without a prop -/
def stn (S : List Cl) (c : Cl) : Bool := decide (c.2.2 = 0) || decide ((c.1, c.2.1, c.2.2 - 1) ∈ S)
/-- carried, with these props -/
def carr (S P : List Cl) : List Cl := S.filter fun c => stn S c || decide (c ∈ P)
open Classical in
/-- hanging, with these props -/
noncomputable def hg (S P : List Cl) (r : Nat) (c : Cl) : Bool := decide (¬ ball S (carr S P) r c)
noncomputable def hungL (S P : List Cl) (r : Nat) (z : Int) : List Cl := S.filter fun c => hg S P r c && decide (c.2.2 = z)
open Classical in
noncomputable def nr (S : List Cl) (x : Cl) (r : Nat) (c : Cl) : Bool := decide (ball S [x] r c)
open Classical in
theorem nr_iff {S : List Cl} {x c : Cl} {r : Nat} : nr S x r c = true ↔ ball S [x] r c := by
  unfold nr
  exact decide_eq_true_iff
open Classical in
theorem hg_iff {S P : List Cl} {r : Nat} {c : Cl} : hg S P r c = true ↔ ¬ ball S (carr S P) r c := by
  unfold hg
  exact decide_eq_true_iff
noncomputable def helpL (S P : List Cl) (r : Nat) (x : Cl) : List Cl := S.filter fun c => nr S x r c && (!stn S c && !decide (c ∈ P))
theorem carr_sub {S P : List Cl} : ∀ c ∈ carr S P, c ∈ S := fun c h => (List.mem_filter.mp h).1
def wayD (M : List (Cl × Int)) (c : Cl) : PyData := match M.lookup c with
  | some v => .int v
  | none => .none
theorem way_gt {S B : List Cl} {M : List (Cl × Int)} (w : Ways S B M) (r : Nat) (c : Cl) : (match M.lookup c with
  | some v => v
  | none => (r : Int) + 1) > (r : Int) ↔ ¬ ball S B r c := by
  cases h : M.lookup c with
  | some v =>
    have q := w.le ((lookup_mem w.nd).mp h) r
    simp only []
    rw [← q]
    omega
  | none =>
    have hk : c ∉ keysM M := fun z => by
      have := @lookup_some M c
      rw [h, decide_eq_true z] at this
      cases this
    simp only []
    exact ⟨fun _ => w.none hk r, fun _ => by omega⟩
end DL

-- DPap
/-! DPap: papers. -/
namespace DL
open PySem
inductive Pp where
  | mk (c : Cl) (ps : List Pp)
mutual
def ppD : Pp → PyData
  | .mk c ps => .tuple [cD c, .list (ppDs ps)]
def ppDs : List Pp → List PyData
  | [] => []
  | p :: ps => ppD p :: ppDs ps
end
theorem ppDs_map : ∀ ps : List Pp, ppDs ps = ps.map ppD
  | [] => rfl
  | p :: ps => by rw [ppDs, List.map_cons, ppDs_map ps]
@[simp] theorem len_ppDs (ps : List Pp) : (ppDs ps).length = ps.length := by rw [ppDs_map, List.length_map]
mutual
def pdep : Pp → Nat
  | .mk _ ps => 1 + pdeps ps
def pdeps : List Pp → Nat
  | [] => 0
  | p :: ps => max (pdep p) (pdeps ps)
end
theorem pdep_mem {p : Pp} : ∀ {ps : List Pp}, p ∈ ps → pdep p ≤ pdeps ps
  | a :: r, h => by
    rw [pdeps]
    rcases List.mem_cons.mp h with rfl | h
    · omega
    · have := pdep_mem h
      omega
mutual
/-- whether a paper shows it -/
noncomputable def shB (S : List Cl) (r : Nat) (z : Int) : List Cl → Int → Pp → Bool
  | P, many, .mk c ps => decide (c ∈ hungL S P r z) && shBs S r z P many (if 0 < many then helpL S P r c else []) ps
noncomputable def shBs (S : List Cl) (r : Nat) (z : Int) : List Cl → Int → List Cl → List Pp → Bool
  | _, _, [], [] => true
  | P, many, h :: hs, p :: ps => shB S r z (P ++ [h]) (many - 1) p && shBs S r z P many hs ps
  | _, _, [], _ :: _ => false
  | _, _, _ :: _, [] => false
end
theorem shBs_len {S : List Cl} {r : Nat} {z : Int} {P : List Cl} {many : Int} : ∀ {hs : List Cl} {ps : List Pp}, hs.length ≠ ps.length → shBs S r z P many hs ps = false
  | [], [], h => absurd rfl h
  | h :: hs, p :: ps, q => by
    rw [shBs, shBs_len (by simpa using q), Bool.and_false]
  | [], _ :: _, _ => by rw [shBs]
  | _ :: _, [], _ => by rw [shBs]
@[simp] theorem ppD_tp {g : Gn} (i j : Nat) (c : Cl) (ps : List Pp) (env : DL.Env) : DL.assign (.tp [i, j]) (.d g (ppD (.mk c ps))) env = some ((env.set i (some (.d .pur (cD c)))).set j (some (.d g (.list (ppDs ps))))) := by
  rw [ppD]
  rfl
theorem noL_ppD (p : Pp) : noL (ppD p) = false := by
  cases p
  rw [ppD]
  simp
theorem el_ppD (g : Gn) (p : Pp) : el g (ppD p) = .d g (ppD p) := by
  unfold el
  rw [noL_ppD]
  rfl
theorem upD_ppD (g : Gn) (p : Pp) : upD g (ppD p) = .d g.up (ppD p) := by
  unfold upD
  rw [noL_ppD]
  rfl
/-- zip(..) of cells and papers -/
theorem zip_src {st : Store} {g g' : Gn} {hs : List Cl} {ps : List Pp} (h : hs.length = ps.length) : ∃ g2, srcOf st .zip [.d g (.list (hs.map cD)), .d g' (.list (ppDs ps))] = some (.items ((hs.zip ps).map fun q => .d g2 (.tuple [cD q.1, ppD q.2]))) := by
  refine ⟨g', ?_⟩
  show sZip [.d g (.list (hs.map cD)), .d g' (.list (ppDs ps))] = _
  unfold sZip
  simp only []
  rw [if_pos (by rw [List.length_map, len_ppDs]; exact h), ppDs_map]
  have : ∀ (hs : List Cl) (ps : List Pp), (((hs.map cD).zip (ps.map ppD)).mapM fun p => pairRV (el g p.1) (el g' p.2)) = some ((hs.zip ps).map fun q => RV.d g' (.tuple [cD q.1, ppD q.2])) := by
    intro hs
    induction hs with
    | nil => intro ps; rfl
    | cons a hs ih =>
      intro ps
      cases ps with
      | nil => rfl
      | cons p ps =>
        simp only [List.map_cons, List.zip_cons_cons, List.mapM_cons, ih]
        rw [el_cD, el_ppD]
        have e : pairRV (.d .pur (cD a)) (.d g' (ppD p)) = some (.d g' (.tuple [cD a, ppD p])) := by
          show mkTup _ = _
          unfold mkTup
          simp [noL_ppD]
        rw [e]
        rfl
  rw [this]
  rfl
mutual
/-- the longest list within -/
def pwid : Pp → Nat
  | .mk _ ps => max ps.length (pwids ps)
def pwids : List Pp → Nat
  | [] => 0
  | p :: ps => max (pwid p) (pwids ps)
end
theorem pwid_mem {p : Pp} : ∀ {ps : List Pp}, p ∈ ps → pwid p ≤ pwids ps
  | a :: r, h => by
    rw [pwids]
    rcases List.mem_cons.mp h with rfl | h
    · omega
    · have := pwid_mem h
      omega
theorem pwids_le {n : Nat} : ∀ {ps : List Pp}, (∀ p ∈ ps, pwid p ≤ n) → pwids ps ≤ n
  | [], _ => by simp [pwids]
  | a :: r, h => by
    rw [pwids]
    have := h a List.mem_cons_self
    have := pwids_le fun p hp => h p (List.mem_cons_of_mem _ hp)
    omega
theorem pdeps_le {n : Nat} : ∀ {ps : List Pp}, (∀ p ∈ ps, pdep p ≤ n) → pdeps ps ≤ n
  | [], _ => by simp [pdeps]
  | a :: r, h => by
    rw [pdeps]
    have := h a List.mem_cons_self
    have := pdeps_le fun p hp => h p (List.mem_cons_of_mem _ hp)
    omega
mutual
theorem depth_pp : ∀ p : Pp, (ppD p).depth ≤ 2 * pdep p
  | .mk c ps => by
    have := depth_pps ps
    rw [ppD, pdep]
    simp only [PyData.depth, PyData.depthAll, depth_cD]
    omega
theorem depth_pps : ∀ ps : List Pp, PyData.depthAll (ppDs ps) ≤ 2 * pdeps ps
  | [] => by simp [ppDs, PyData.depthAll]
  | p :: ps => by
    have := depth_pp p
    have := depth_pps ps
    rw [ppDs, pdeps, PyData.depthAll]
    omega
end
mutual
theorem eqv_pp : ∀ p : Pp, PyData.eqv (ppD p) (ppD p) = true
  | .mk c ps => by
    rw [ppD, PyData.eqv, PyData.eqvAll, PyData.eqvAll, PyData.eqvAll, PyData.eqv, eqv_pps ps, eqv_cell]
    simp
theorem eqv_pps : ∀ ps : List Pp, PyData.eqvAll (ppDs ps) (ppDs ps) = true
  | [] => by rw [ppDs, PyData.eqvAll]
  | p :: ps => by rw [ppDs, PyData.eqvAll, eqv_pp p, eqv_pps ps]; rfl
end

/-! flags that are not the script's -/
theorem ns_join {a b : Gn} (ha : a ≠ .scr) (hb : b ≠ .scr) : a.join b ≠ .scr := by
  cases a <;> cases b <;> simp_all [Gn.join]
theorem ns_newL {a : Gn} (ha : a ≠ .scr) : a.newL ≠ .scr := by
  cases a <;> simp_all [Gn.newL]
theorem ns_lstG {a : Gn} (ha : a ≠ .scr) (L : List PyData) : lstG a L ≠ .scr := by
  unfold lstG
  split
  · simp
  · exact ns_newL ha
theorem ns_up {a : Gn} (ha : a ≠ .scr) : a.up ≠ .scr := by
  cases a <;> simp_all [Gn.up]
theorem ns_down {a : Gn} (ha : a ≠ .scr) : a.down ≠ .scr := by
  cases a <;> simp_all [Gn.down]
theorem datas_el (g : Gn) (L : List PyData) : datas? (L.map (el g)) = some L := by
  induction L with
  | nil => rfl
  | cons a L ih =>
    rw [List.map_cons]
    unfold el
    rw [datas_d]
    have : (L.map fun x => RV.d (if noL x = true then .pur else g) x) = L.map (el g) := rfl
    rw [this, ih]
    rfl
theorem ns_el {g : Gn} (hg : g ≠ .scr) (L : List PyData) : gnOf (L.map (el g)) ≠ .scr := by
  induction L with
  | nil => simp
  | cons a L ih =>
    rw [List.map_cons]
    unfold el
    rw [gnOf_d]
    refine ns_join ?_ ih
    split
    · simp
    · exact hg
theorem gnOf_app (xs ys : List RV) (hx : gnOf xs ≠ .scr) (hy : gnOf ys ≠ .scr) : gnOf (xs ++ ys) ≠ .scr := by
  induction xs with
  | nil => exact hy
  | cons a r ih =>
    cases a with
    | d g x =>
      rw [gnOf_d] at hx
      rw [List.cons_append, gnOf_d]
      refine ns_join ?_ (ih ?_)
      · intro e
        subst e
        apply hx
        cases gnOf r <;> rfl
      · intro e
        rw [e] at hx
        apply hx
        cases g <;> rfl
    | c n =>
      rw [List.cons_append]
      simp [gnOf]
/-- papers joined -/
theorem pap_add {g g' : Gn} (hg : g ≠ .scr) (hg' : g' ≠ .scr) (xs ys : List PyData) (hl : xs.length + ys.length ≤ 16777216) : ∃ g2, g2 ≠ .scr ∧ ∀ st, binop st .add (.d g (.list xs)) (.d g' (.list ys)) = some (.d g2 (.list (xs ++ ys))) := by
  refine ⟨_, ns_lstG (gnOf_app _ _ (ns_el hg xs) (ns_el hg' ys)) (xs ++ ys), fun st => ?_⟩
  rw [add_ll, if_pos ⟨⟨hg, hg'⟩, hl⟩, mkLst_eq, datas_app, datas_el, datas_el]
  rfl
/-- a paper is made -/
theorem pap_tup {g g1 : Gn} (c : Cl) (ps : List Pp) (hg : g ≠ .scr) : ∃ g2, g2 ≠ .scr ∧ mkTup [.d g1 (cD c), .d g (.list (ppDs ps))] = some (.d g2 (ppD (.mk c ps))) ∨ g1 ≠ .pur := by
  by_cases h : g1 = .pur
  · subst h
    refine ⟨g, .inl ⟨hg, ?_⟩⟩
    rw [ppD]
    simp
  · exact ⟨.pur, .inr h⟩
theorem pap_tup' {g : Gn} (c : Cl) (ps : List Pp) (hg : g ≠ .scr) : mkTup [.d .pur (cD c), .d g (.list (ppDs ps))] = some (.d g (ppD (.mk c ps))) := by
  rw [ppD]
  simp
/-- a paper with its papers made here -/
theorem thaw_pap {s : HSt} {c : Cl} {ys : List RV} {qs : List Pp} (h : datas? ys = some (ppDs qs)) (hg : gnOf ys ≠ .scr) : ∃ g, g ≠ .scr ∧ thaw 2 [.d .pur (cD c), .c 2] [h0 s, h1 s, .lst ys] = .ok (.d g (ppD (.mk c qs))) [h0 s, h1 s] := by
  refine ⟨lstG (gnOf ys) (ppDs qs), ns_lstG hg _, ?_⟩
  unfold thaw
  have e1 : [RV.d .pur (cD c), .c 2].mapM (frz1 2 [h0 s, h1 s, .lst ys]) = some [.d .pur (cD c), .d (lstG (gnOf ys) (ppDs qs)) (.list (ppDs qs))] := by
    simp [frz1, h]
  have e2 : ([h0 s, h1 s, .lst ys].take 2).mapM (mapCell id fun j => if j < 2 then some j else none) = some [h0 s, h1 s] := by
    have q0 : mapCell id (fun j => if j < 2 then some j else none) (h0 s) = some (h0 s) := mapCell_h0 rfl rfl s
    have q1 : mapCell id (fun j => if j < 2 then some j else none) (h1 s) = some (h1 s) := mapCell_h1 rfl s
    simp [q0, q1]
  rw [e1, e2]
  simp only []
  rw [pap_tup' c qs (ns_lstG hg _)]
theorem datas_snoc {ys : List RV} {ds : List PyData} {g : Gn} {x : PyData} (h : datas? ys = some ds) : datas? (ys ++ [.d g x]) = some (ds ++ [x]) := by
  rw [datas_app, h]
  rfl
theorem ppDs_app (ps qs : List Pp) : ppDs (ps ++ qs) = ppDs ps ++ ppDs qs := by
  rw [ppDs_map, ppDs_map, ppDs_map, List.map_append]
theorem datas_len : ∀ {ys : List RV} {ds : List PyData}, datas? ys = some ds → ds.length = ys.length
  | [], ds, h => by cases h; rfl
  | .d g x :: r, ds, h => by
    rw [datas_d] at h
    obtain ⟨ds', h', rfl⟩ := Option.map_eq_some_iff.mp h
    rw [List.length_cons, List.length_cons, datas_len h']
theorem ppDs_take (ps : List Pp) (n : Nat) : (ppDs ps).take n = ppDs (ps.take n) := by rw [ppDs_map, ppDs_map, List.map_take]
theorem ppDs_drop (ps : List Pp) (n : Nat) : (ppDs ps).drop n = ppDs (ps.drop n) := by rw [ppDs_map, ppDs_map, List.map_drop]
/-- copies -/
theorem lcL_cp {g : Gn} {κ : RV → Store → Res (Option RV)} {t : Tag κ} {st : Store} : ∀ (ps : List Pp) (acc : List RV), (∀ p ∈ ps, ∃ g', κ (el g (ppD p)) st = .ok (some (.d g' (ppD p))) st) → ∃ acc', lcL κ t ((ppDs ps).map (el g)) acc st = .ok (acc ++ acc') st ∧ datas? acc' = some (ppDs ps)
  | [], acc, _ => ⟨[], by simp [ppDs], rfl⟩
  | p :: ps, acc, h => by
    obtain ⟨g', e⟩ := h p List.mem_cons_self
    obtain ⟨acc', e1, e2⟩ := lcL_cp ps (acc ++ [.d g' (ppD p)]) fun q hq => h q (List.mem_cons_of_mem _ hq)
    refine ⟨.d g' (ppD p) :: acc', ?_, ?_⟩
    · rw [ppDs, List.map_cons, lcL_cons, e, lcR_some, e1]
      simp
    · rw [datas_d, e2, ppDs]
      rfl
/-- a list's parts -/
theorem cut_to {α : Type} (xs : List α) (k : Nat) : cut xs none (some (k : Int)) = xs.take k := by
  unfold cut
  rw [HT.sIx_nat, HT.sIx_none]
  rw [List.drop_zero]
  by_cases h : k ≤ xs.length
  · rw [Nat.min_eq_left h]
    rfl
  · rw [Nat.min_eq_right (by omega), Nat.sub_zero, List.take_of_length_le (Nat.le_refl _), List.take_of_length_le (by omega)]
theorem cut_from {α : Type} (xs : List α) (k : Nat) : cut xs (some (k : Int)) none = xs.drop k := by
  unfold cut
  rw [HT.sIx_nat, HT.sIx_none]
  by_cases h : k ≤ xs.length
  · rw [Nat.min_eq_left h, List.take_of_length_le (by simp)]
  · rw [Nat.min_eq_right (by omega), Nat.sub_self, List.take_zero, List.drop_of_length_le (by omega)]
theorem cut_from1 {α : Type} (xs : List α) (k : Nat) : cut xs (some ((k : Int) + 1)) none = xs.drop (k + 1) := cut_from xs (k + 1)
theorem cut_to1 {α : Type} (xs : List α) : cut xs none (some 1) = xs.take 1 := cut_to xs 1
theorem cut_fr1 {α : Type} (xs : List α) : cut xs (some 1) none = xs.drop 1 := cut_from xs 1
end DL

-- DBest
/-! DBest: places, runs drawn from a place, the best order; dicts whose values are data; lists of whole numbers. -/
namespace DL
open PySem
abbrev Pl := Int × Int
def pD (p : Pl) : PyData := .tuple [.int p.1, .int p.2]
/-- where a run is begun, where it ends -/
def bgn (c : Cl) (w : Int) : Pl := if w = 0 then (c.2.1, c.1) else (c.2.2, c.1)
def fin (c : Cl) (w : Int) : Pl := if w = 0 then (c.2.2, c.1) else (c.2.1, c.1)
def far (p q : Pl) : Int := (if p.1 - q.1 < 0 then -(p.1 - q.1) else p.1 - q.1) + (if p.2 - q.2 < 0 then -(p.2 - q.2) else p.2 - q.2)
theorem far_nn (p q : Pl) : 0 ≤ far p q := by
  unfold far
  split <;> split <;> omega
@[simp] theorem noL_pD (p : Pl) : noL (pD p) = true := Eq.trans rfl rfl
@[simp] theorem el_pD (g : Gn) (p : Pl) : el g (pD p) = .d .pur (pD p) := Eq.trans rfl rfl
@[simp] theorem upD_pD (g : Gn) (p : Pl) : upD g (pD p) = .d .pur (pD p) := Eq.trans rfl rfl
theorem el_comp_int (g : Gn) : el g ∘ PyData.int = fun i => .d .pur (.int i) := rfl
@[simp] theorem noLs_pDs (o : List Pl) : noLs (o.map pD) = true := by
  induction o with
  | nil => rfl
  | cons p o ih => simp [ih]
@[simp] theorem noLs_zs (D : List Int) : noLs (D.map .int) = true := by
  induction D with
  | nil => rfl
  | cons p o ih => simp [ih]
/-- what l_best answers: the way's length, its order -/
def bE (n : Int) (o : List Pl) : PyData := .tuple [.int n, .list (o.map pD)]
theorem alike_order : ∀ a b : List Pl, PySem.W.alikeAll (a.map pD) (b.map pD) = true
  | [], _ => by rw [List.map_nil]; simp only [PySem.W.alikeAll]
  | x :: a, [] => by rw [List.map_nil, List.map_cons]; simp only [PySem.W.alikeAll]
  | x :: a, y :: b => by
    rw [List.map_cons, List.map_cons]
    simp only [PySem.W.alikeAll, alike_order a b, Bool.and_true]
    rfl
theorem alike_bE (n m : Int) (a b : List Pl) : PySem.W.alike (bE n a) (bE m b) = true := by
  unfold bE
  simp only [PySem.W.alike, PySem.W.alikeAll, alike_order, Bool.and_true]
theorem depth_pDs : ∀ o : List Pl, PyData.depthAll (o.map pD) ≤ 2
  | [] => by simp [PyData.depthAll]
  | p :: o => by
    have h := depth_pDs o
    have h2 : (pD p).depth ≤ 2 := by simp [pD, PyData.depth, PyData.depthAll]
    rw [List.map_cons, PyData.depthAll]
    omega
theorem depth_bE (n : Int) (o : List Pl) : (bE n o).depth ≤ 5 := by
  have h := depth_pDs o
  unfold bE
  simp only [PyData.depth, PyData.depthAll]
  omega
abbrev An := Int × List Pl
def anD (a : An) : PyData := bE a.1 a.2
theorem upD_an (g : Gn) (a : An) : upD g (anD a) = .d g.up (anD a) := rfl
theorem el_an (g : Gn) (a : An) : el g (anD a) = .d g (anD a) := rfl
theorem minOk_bE (L : List An) : minOk (L.map anD) = true := by
  have hd : PyData.depthAll (L.map anD) ≤ 5 := by
    induction L with
    | nil => simp [PyData.depthAll]
    | cons a r ih =>
      have : (anD a).depth ≤ 5 := depth_bE a.1 a.2
      rw [List.map_cons, PyData.depthAll]
      omega
  unfold minOk allAlike
  simp only [Bool.and_eq_true, List.all_eq_true, List.mem_map, forall_exists_index, and_imp, decide_eq_true_eq]
  refine ⟨⟨?_, ?_⟩, by omega⟩
  · rintro x a _ rfl y b _ rfl
    exact alike_bE ..
  · rintro x a _ rfl
    rfl
def ltA (a b : An) : Bool := PySem.W.dataLt (anD a) (anD b)
def minA : An → List An → An
  | a, [] => a
  | a, b :: r => minA (if ltA b a = true then b else a) r
theorem minD_anD : ∀ (r : List An) (a : An), PySem.W.minD (anD a) (r.map anD) = anD (minA a r)
  | [], a => rfl
  | b :: r, a => by
    show PySem.W.minD (if PySem.W.dataLt (anD b) (anD a) = true then anD b else anD a) (r.map anD) = _
    rw [minA, ← minD_anD r]
    unfold ltA
    split <;> rfl
theorem minA_mem : ∀ (r : List An) (a : An), minA a r ∈ a :: r
  | [], a => List.mem_cons_self
  | b :: r, a => by
    rw [minA]
    rcases List.mem_cons.mp (minA_mem r (if ltA b a = true then b else a)) with h | h
    · rw [h]
      split
      · exact List.mem_cons_of_mem _ List.mem_cons_self
      · exact List.mem_cons_self
    · exact List.mem_cons_of_mem _ (List.mem_cons_of_mem _ h)
def minL : List An → An
  | [] => (0, [])
  | a :: r => minA a r
theorem pick_anD (g : Gn) (L : List An) (h : L ≠ []) : pick PySem.W.minD g (L.map anD) none = some (el g (anD (minL L))) := by
  cases L with
  | nil => exact absurd rfl h
  | cons a r =>
    unfold pick
    rw [if_pos (minOk_bE (a :: r))]
    show some (el g (PySem.W.minD (anD a) (r.map anD))) = _
    rw [minD_anD]
    rfl
theorem gnOf_an (A : List An) : gnOf (A.map fun a => .d .new (anD a)) ≠ .scr := by
  induction A with
  | nil => simp
  | cons a A ih =>
    rw [List.map_cons, gnOf_d]
    cases h : gnOf (A.map fun a => .d .new (anD a)) <;> simp [Gn.join]
    exact ih h
@[simp] theorem flatCell_l (xs : List RV) : flatCell (.lst xs) = (datas? xs).map fun ds => (gnOf xs, ds) := Eq.trans rfl rfl
/-- one way on -/
def stepA (L : List Cl) (f : List Int → Pl → An) (lf : List Int) (p : Pl) (k w : Int) : An :=
  (far (bgn (L.getD k.toNat (0, 0, 0)) w) p + (f (lf.filter fun i => decide (i ≠ k)) (fin (L.getD k.toNat (0, 0, 0)) w)).1, (k, w) :: (f (lf.filter fun i => decide (i ≠ k)) (fin (L.getD k.toNat (0, 0, 0)) w)).2)
def allA (L : List Cl) (f : List Int → Pl → An) (lf : List Int) (p : Pl) (ks : List Int) : List An := ks.flatMap fun k => [stepA L f lf p k 0, stepA L f lf p k 1]
/-- the best of what is left -/
def bst (L : List Cl) : Nat → List Int → Pl → An
  | 0, _, _ => (0, [])
  | n + 1, lf, p => minL (allA L (bst L n) lf p lf)
theorem bst_shape (L : List Cl) : ∀ (n : Nat) (lf : List Int) (p : Pl), 0 ≤ (bst L n lf p).1 ∧ (bst L n lf p).2.length ≤ n
  | 0, _, _ => ⟨Int.le_refl 0, Nat.le_refl 0⟩
  | n + 1, lf, p => by
    rw [bst]
    obtain ⟨A, h⟩ : ∃ A, allA L (bst L n) lf p lf = A := ⟨_, rfl⟩
    rw [h]
    cases A with
    | nil => exact ⟨Int.le_refl 0, Nat.zero_le _⟩
    | cons a r =>
      have hm := minA_mem r a
      rw [← h] at hm
      unfold allA at hm
      rw [List.mem_flatMap] at hm
      obtain ⟨k, _, hk⟩ := hm
      have q : ∀ w, 0 ≤ (stepA L (bst L n) lf p k w).1 ∧ (stepA L (bst L n) lf p k w).2.length ≤ n + 1 := by
        intro w
        have q := bst_shape L n (lf.filter fun i => decide (i ≠ k)) (fin (L.getD k.toNat (0, 0, 0)) w)
        have q2 := far_nn (bgn (L.getD k.toNat (0, 0, 0)) w) p
        unfold stepA
        simp only [List.length_cons]
        exact ⟨by omega, by omega⟩
      simp only [List.mem_cons, List.not_mem_nil, or_false] at hk
      rcases hk with e | e
      · show 0 ≤ (minA a r).1 ∧ (minA a r).2.length ≤ n + 1
        exact e ▸ q 0
      · show 0 ≤ (minA a r).1 ∧ (minA a r).2.length ≤ n + 1
        exact e ▸ q 1
/-- the runs not yet drawn -/
def leftOf (n : Nat) (D : List Int) : List Int := (rng 0 n).filter fun i => decide (i ∉ D)
theorem left_snoc (n : Nat) (D : List Int) (k : Int) : leftOf n (D ++ [k]) = (leftOf n D).filter fun i => decide (i ≠ k) := by
  unfold leftOf
  rw [List.filter_filter]
  refine List.filter_congr fun i _ => ?_
  simp [not_or, Bool.and_comm]
theorem nodup_rng (lo : Int) (n : Nat) : (rng lo n).Nodup := by
  unfold rng
  refine List.Pairwise.map _ (fun a b h => ?_) List.nodup_range
  omega
theorem left_nodup (n : Nat) (D : List Int) : (leftOf n D).Nodup := (nodup_rng 0 n).filter _
theorem len_filter_ne {l : List Int} (h : l.Nodup) {k : Int} (hk : k ∈ l) : (l.filter fun i => decide (i ≠ k)).length + 1 = l.length := by
  induction l with
  | nil => cases hk
  | cons a l ih =>
    have hn := List.nodup_cons.mp h
    by_cases e : a = k
    · subst e
      rw [List.filter_cons_of_neg (by simp)]
      have : l.filter (fun i => decide (i ≠ a)) = l := List.filter_eq_self.mpr fun b hb => decide_eq_true fun q => hn.1 (q ▸ hb)
      rw [this, List.length_cons]
    · rw [List.filter_cons_of_pos (by simpa using e), List.length_cons, List.length_cons, ih hn.2 ((List.mem_cons.mp hk).resolve_left fun q => e q.symm)]
theorem left_mem {n : Nat} {D : List Int} {k : Int} (h : k ∈ leftOf n D) : 0 ≤ k ∧ k < n := by
  have := mem_rng.mp (List.mem_filter.mp h).1
  omega
/-! whole numbers, sorted -/
def srt (D : List Int) : List Int := D.mergeSort fun a b => decide (a ≤ b)
theorem mem_srt {D : List Int} {i : Int} : i ∈ srt D ↔ i ∈ D := List.mem_mergeSort
theorem len_srt (D : List Int) : (srt D).length = D.length := List.length_mergeSort _
theorem left_srt (n : Nat) (D : List Int) : leftOf n (srt D) = leftOf n D := by
  unfold leftOf
  refine List.filter_congr fun i _ => ?_
  simp only [mem_srt]
theorem sortable_ints (D : List Int) : sortable (D.map .int) = true := by
  unfold sortable allAlike
  simp only [Bool.and_eq_true, Bool.or_eq_true, List.all_eq_true, List.mem_map, forall_exists_index, and_imp, decide_eq_true_eq]
  refine ⟨⟨?_, .inr ?_⟩, ?_⟩
  · rintro _ a _ rfl _ b _ rfl
    rfl
  · rintro _ a _ rfl
    rfl
  · rintro _ a _ rfl
    rw [depth_int]
    omega
theorem sortD_ints (D : List Int) : sortD (D.map .int) = (srt D).map .int := by
  unfold sortD srt
  refine (List.map_mergeSort fun a _ b _ => ?_).symm
  show _ = (!PySem.W.dataLt (.int b) (.int a))
  rw [dataLt_ii, ← decide_not]
  exact decide_eq_decide.mpr (by omega)
theorem eqvAll_ints : ∀ L M : List Int, PyData.eqvAll (L.map .int) (M.map .int) = decide (L = M)
  | [], [] => by rw [List.map_nil, PyData.eqvAll]; rfl
  | [], b :: M => by rw [List.map_nil, List.map_cons, PyData.eqvAll]; simp
  | a :: L, [] => by rw [List.map_nil, List.map_cons, PyData.eqvAll]; simp
  | a :: L, b :: M => by
    rw [List.map_cons, List.map_cons, PyData.eqvAll, eqvAll_ints L M, eqv_ii]
    simp
/-! keys: runs drawn, a place -/
def kyD (D : List Int) (p : Pl) : PyData := .tuple [.tuple (D.map .int), pD p]
theorem eqv_pD (p q : Pl) : PyData.eqv (pD p) (pD q) = decide (p = q) := by
  obtain ⟨a, b⟩ := p
  obtain ⟨c, d⟩ := q
  simp only [pD, PyData.eqv, PyData.eqvAll, Bool.and_true, Prod.mk.injEq, Bool.decide_and]
  rfl
theorem eqv_ky (D E : List Int) (p q : Pl) : PyData.eqv (kyD D p) (kyD E q) = decide (D = E ∧ p = q) := by
  unfold kyD
  simp only [PyData.eqv, PyData.eqvAll, eqvAll_ints, eqv_pD, Bool.and_true, Bool.decide_and]
theorem toKeys_ints : ∀ D : List Int, toKeys (D.map .int) = some (D.map .num)
  | [] => rfl
  | a :: D => by
    rw [List.map_cons, toKeys, toKeys_ints D, toKey]
    rfl
theorem depth_nums : ∀ D : List Int, NestedKey.depthAll (D.map .num) = 0
  | [] => by simp [NestedKey.depthAll]
  | a :: D => by
    have := depth_nums D
    rw [List.map_cons, NestedKey.depthAll, NestedKey.depth]
    omega
@[simp] theorem keyOk_ky (D : List Int) (p : Pl) : keyOk (.tuple [.tuple (D.map .int), pD p]) = true := by
  have := depth_nums D
  simp only [keyOk, pD, toKey, toKeys, toKeys_ints, Option.map_some, NestedKey.depth, NestedKey.depthAll, this]
  decide
/-! dicts whose values are data -/
def gmap (f : Gn → Gn) : RV → RV
  | .d g x => .d (f g) x
  | .c n => .c n
def kvG (f : Gn → Gn) (kvs : List (PyData × RV)) : List (PyData × RV) := kvs.map fun p => (p.1, gmap f p.2)
def kvD (kvs : List (PyData × RV)) : Prop := ∀ p ∈ kvs, ∃ g x, p.2 = .d g x
theorem mapM_kvG {fd : Gn → Gn} {fc : Nat → Option Nat} : ∀ {kvs : List (PyData × RV)}, kvD kvs → (kvs.mapM fun p => (mapRV fd fc p.2).map fun v => (p.1, v)) = some (kvG fd kvs)
  | [], _ => rfl
  | p :: r, h => by
    obtain ⟨g, x, e⟩ := h p List.mem_cons_self
    rw [List.mapM_cons, mapM_kvG fun q hq => h q (List.mem_cons_of_mem _ hq), e]
    show some _ = some ((p.1, gmap fd p.2) :: kvG fd r)
    rw [e]
    rfl
theorem mapCell_kvG {fd : Gn → Gn} {fc : Nat → Option Nat} {lk : Bool} {kvs : List (PyData × RV)} (h : kvD kvs) : mapCell fd fc (.dic lk kvs) = some (.dic lk (kvG fd kvs)) := by
  show Option.map _ (kvs.mapM _) = _
  rw [mapM_kvG h]
  rfl
theorem refs_kvD : ∀ {kvs : List (PyData × RV)}, kvD kvs → refsOf (kvs.map (·.2)) = []
  | [], _ => rfl
  | p :: r, h => by
    obtain ⟨g, x, e⟩ := h p List.mem_cons_self
    rw [List.map_cons, e, refsOf, refs_kvD fun q hq => h q (List.mem_cons_of_mem _ hq)]
theorem kvD_G {f : Gn → Gn} {kvs : List (PyData × RV)} (h : kvD kvs) : kvD (kvG f kvs) := by
  intro p hp
  obtain ⟨q, hq, rfl⟩ := List.mem_map.mp hp
  obtain ⟨g, x, e⟩ := h q hq
  exact ⟨f g, x, by simp only [e, gmap]⟩
theorem refs_allD_app {n : Nat} {ys : List RV} (hy : allD ys = true) : ∀ {xs : List RV}, allD xs = true → refsOf (xs ++ .c n :: ys) = [n]
  | [], _ => refs_allD_c hy
  | .d _ _ :: r, h => refs_allD_app hy (xs := r) h
theorem map_allD_app {f : Nat → Option Nat} {n m : Nat} {ys : List RV} (hf : f n = some m) (hy : ys.mapM (mapRV .down f) = some (ys.map dn)) : ∀ {xs : List RV}, allD xs = true → (xs ++ RV.c n :: ys).mapM (mapRV .down f) = some (xs.map dn ++ RV.c m :: ys.map dn)
  | [], _ => by simp [mapRV, hf, hy]
  | .d g x :: r, h => by
    rw [List.cons_append, List.mapM_cons, map_allD_app hf hy (xs := r) h]
    rfl
theorem mapM_allD {f : Nat → Option Nat} : ∀ {xs : List RV}, allD xs = true → xs.mapM (mapRV .down f) = some (xs.map dn)
  | [], _ => rfl
  | .d g x :: r, h => by
    rw [List.mapM_cons, mapM_allD (xs := r) h]
    rfl
/-- a call that is handed a dict -/
theorem callDic2 {φ : List RV → Store → Res RV} {args args2 : List RV} {st : Store} {n : Nat} {lk lk' : Bool} {kvs kvs' : List (PyData × RV)} {g : Gn} {x : PyData} {more : Store} (hd : allD args = true) (hd2 : allD args2 = true) (hn : st[n]? = some (.dic lk kvs)) (hk : kvD kvs) (hk' : kvD kvs')
    (h : φ (args.map dn ++ .c 0 :: args2.map dn) [.dic lk (kvG .down kvs)] = .ok (.d g x) (.dic lk' kvs' :: more)) : callF φ (args ++ .c n :: args2) st = .ok (upD g x) (st.set n (.dic lk' (kvG .up kvs'))) := by
  have e1 : reach st 64 (refsOf (args ++ .c n :: args2)) [] = [n] := by
    rw [refs_allD_app hd2 hd]
    show reach st 63 (((st[n]?).map Cell.refs).getD [] ++ []) [n] = [n]
    rw [hn]
    show reach st 63 (refsOf (kvs.map (·.2)) ++ []) [n] = [n]
    rw [refs_kvD hk]
    rfl
  have e2 : (args ++ RV.c n :: args2).mapM (mapRV .down (idx? [n])) = some (args.map dn ++ RV.c 0 :: args2.map dn) := map_allD_app (by simp [idx?]) (mapM_allD hd2) hd
  have e3 : subStore st [n] = some [.dic lk (kvG .down kvs)] := by
    show List.mapM _ [n] = _
    rw [List.mapM_cons, List.mapM_nil, hn]
    show Option.bind (mapCell .down (idx? [n]) (.dic lk kvs)) _ = _
    rw [mapCell_kvG hk]
    rfl
  have e4 : putBack st [n] (.dic lk' kvs' :: more) = some (st.set n (.dic lk' (kvG .up kvs'))) := by
    show List.foldlM _ st [(n, Cell.dic lk' kvs')] = _
    rw [List.foldlM_cons]
    show Option.bind (Option.map _ (mapCell .up _ (.dic lk' kvs'))) _ = _
    rw [mapCell_kvG hk']
    rfl
  unfold callF
  rw [e1]
  simp only []
  rw [e2, e3]
  simp only []
  rw [h]
  simp only []
  rw [e4]
  rfl
theorem callDic {φ : List RV → Store → Res RV} {args : List RV} {st : Store} {n : Nat} {lk lk' : Bool} {kvs kvs' : List (PyData × RV)} {g : Gn} {x : PyData} {more : Store} (hd : allD args = true) (hn : st[n]? = some (.dic lk kvs)) (hk : kvD kvs) (hk' : kvD kvs')
    (h : φ (args.map dn ++ [.c 0]) [.dic lk (kvG .down kvs)] = .ok (.d g x) (.dic lk' kvs' :: more)) : callF φ (args ++ [.c n]) st = .ok (upD g x) (st.set n (.dic lk' (kvG .up kvs'))) := callDic2 (args2 := []) hd rfl hn hk hk' h
@[simp] theorem subCell_d (x : PyData) (lk : Bool) (kvs : List (PyData × RV)) : subCell x (.dic lk kvs) = if keyOk x = true then dget kvs x else none := Eq.trans rfl rfl
@[simp] theorem inCell_d (x : PyData) (lk : Bool) (kvs : List (PyData × RV)) : inCell x (.dic lk kvs) = if keyOk x = true then some (dget kvs x).isSome else none := Eq.trans rfl rfl
theorem dget_some {kvs : List (PyData × RV)} {k : PyData} {v : RV} (h : dget kvs k = some v) : ∃ q ∈ kvs, same q.1 k = true ∧ q.2 = v := by
  unfold dget at h
  obtain ⟨q, hq, e⟩ := Option.map_eq_some_iff.mp h
  exact ⟨q, List.mem_of_find?_eq_some hq, by simpa using List.find?_some hq, e⟩
theorem dget_isSome {kvs : List (PyData × RV)} {k : PyData} : (dget kvs k).isSome = kvs.any fun p => same p.1 k := by
  unfold dget
  rw [Option.isSome_map, List.isSome_find?]
theorem dput_isSome {kvs : List (PyData × RV)} {k : PyData} {v : RV} (hk : same k k = true) : (dget (dput kvs k v) k).isSome = true := by
  rw [dget_isSome]
  unfold dput
  split
  · rename_i h
    rw [List.any_eq_true] at h ⊢
    obtain ⟨q, hq, e⟩ := h
    refine ⟨_, List.mem_map.mpr ⟨q, hq, rfl⟩, ?_⟩
    rw [if_pos e]
    exact e
  · simp [hk]
theorem dput_len (kvs : List (PyData × RV)) (k : PyData) (v : RV) : (dput kvs k v).length ≤ kvs.length + 1 := by
  unfold dput
  split
  · simp
  · simp
theorem dput_mem {kvs : List (PyData × RV)} {k : PyData} {v : RV} {q : PyData × RV} (h : q ∈ dput kvs k v) : q ∈ kvs ∨ q = (k, v) ∨ ∃ q' ∈ kvs, same q'.1 k = true ∧ q = (q'.1, v) := by
  unfold dput at h
  split at h
  · obtain ⟨q', hq, e⟩ := List.mem_map.mp h
    split at e
    · rename_i hs
      exact .inr (.inr ⟨q', hq, hs, e.symm⟩)
    · exact .inl (e ▸ hq)
  · rcases List.mem_append.mp h with h | h
    · exact .inl h
    · exact .inr (.inl (List.mem_singleton.mp h))
/-- what a dict of best ways holds -/
def DicB (L : List Cl) (kvs : List (PyData × RV)) : Prop := ∀ q ∈ kvs, ∃ (D : List Int) (p : Pl) (g : Gn), D.length ≤ 8 ∧ g ≠ .scr ∧ q = (kyD D p, .d g (anD (bst L (leftOf L.length D).length (leftOf L.length D) p)))
theorem DicB.data {L : List Cl} {kvs : List (PyData × RV)} (h : DicB L kvs) : kvD kvs := fun q hq => by
  obtain ⟨D, p, g, _, _, rfl⟩ := h q hq
  exact ⟨_, _, rfl⟩
theorem DicB.map {L : List Cl} {kvs : List (PyData × RV)} (h : DicB L kvs) {f : Gn → Gn} (hf : ∀ g, g ≠ .scr → f g ≠ .scr) : DicB L (kvG f kvs) := by
  intro p hp
  obtain ⟨q, hq, rfl⟩ := List.mem_map.mp hp
  obtain ⟨D, p, g, h1, h2, rfl⟩ := h q hq
  exact ⟨D, p, f g, h1, hf g h2, rfl⟩
theorem len_kvG (f : Gn → Gn) (kvs : List (PyData × RV)) : (kvG f kvs).length = kvs.length := List.length_map _
theorem DicB.get {L : List Cl} {kvs : List (PyData × RV)} (h : DicB L kvs) {D : List Int} {p : Pl} {v : RV} (e : dget kvs (kyD D p) = some v) : ∃ g, g ≠ .scr ∧ v = .d g (anD (bst L (leftOf L.length D).length (leftOf L.length D) p)) := by
  obtain ⟨q, hq, hs, rfl⟩ := dget_some e
  obtain ⟨D', p', g, _, h2, rfl⟩ := h q hq
  have := of_decide_eq_true ((eqv_ky D' D p' p).symm.trans hs)
  obtain ⟨rfl, rfl⟩ := this
  exact ⟨g, h2, rfl⟩
theorem DicB.put {L : List Cl} {kvs : List (PyData × RV)} (h : DicB L kvs) {D : List Int} {p : Pl} {g : Gn} (hD : D.length ≤ 8) (hg : g ≠ .scr) : DicB L (dput kvs (kyD D p) (.d g (anD (bst L (leftOf L.length D).length (leftOf L.length D) p)))) := by
  intro q hq
  rcases dput_mem hq with hq | rfl | ⟨q', hq2, hs, rfl⟩
  · exact h q hq
  · exact ⟨D, p, g, hD, hg, rfl⟩
  · obtain ⟨D', p', g', _, h2, rfl⟩ := h q' hq2
    obtain ⟨rfl, rfl⟩ := of_decide_eq_true ((eqv_ky D' D p' p).symm.trans hs)
    exact ⟨D', p', g, hD, hg, rfl⟩
theorem same_ky (D : List Int) (p : Pl) : same (kyD D p) (kyD D p) = true := by
  show PyData.eqv _ _ = true
  rw [eqv_ky]
  simp
/-- how many ways there are -/
def cntB : Nat → Nat
  | 0 => 0
  | n + 1 => 1 + 2 * (n + 1) * cntB n
/-! values -/
theorem asg_an {g : Gn} (i j : Nat) (a : An) (env : DL.Env) : DL.assign (.tp [i, j]) (.d g (anD a)) env = some ((env.set i (some (.d .pur (.int a.1)))).set j (some (.d g (.list (a.2.map pD))))) := Eq.trans rfl rfl
theorem datas_pd (g : Gn) (o : List Pl) : datas? ((o.map pD).map (el g)) = some (o.map pD) := by
  induction o with
  | nil => rfl
  | cons p o ih =>
    rw [List.map_cons, List.map_cons, el_no (noL_pD p), datas_d, ih]
    rfl
theorem ord_add {st : Store} {g g' : Gn} (hg : g ≠ .scr) (hg' : g' ≠ .scr) (k w : Int) (o : List Pl) (ho : o.length < 16777216) : binop st .add (.d g (.list [.tuple [.int k, .int w]])) (.d g' (.list (o.map pD))) = some (.d .new (.list (((k, w) :: o).map pD))) := by
  rw [add_ll, if_pos ⟨⟨hg, hg'⟩, by rw [List.length_map, lim_num, List.length_singleton]; omega⟩, mkLst_eq, datas_app, datas_pd]
  show some (RV.d (lstG _ (pD (k, w) :: o.map pD)) _) = _
  rw [lstG_no (by simp)]
  rfl
theorem int_add {st : Store} {g g' : Gn} (hg : g ≠ .scr) (hg' : g' ≠ .scr) (D : List Int) (k : Int) (ho : D.length < 16777216) : binop st .add (.d g (.list (D.map .int))) (.d g' (.list [.int k])) = some (.d .new (.list ((D ++ [k]).map .int))) := by
  have e : ∀ D : List Int, datas? ((D.map PyData.int).map (el g)) = some (D.map .int) := by
    intro D
    induction D with
    | nil => rfl
    | cons p o ih =>
      rw [List.map_cons, List.map_cons, el_int, datas_d, ih]
      rfl
  rw [add_ll, if_pos ⟨⟨hg, hg'⟩, by rw [List.length_map, lim_num, List.length_singleton]; omega⟩, mkLst_eq, datas_app, e]
  show some (RV.d (lstG _ (D.map .int ++ [.int k])) (.list (D.map .int ++ [.int k]))) = _
  rw [show D.map PyData.int ++ [PyData.int k] = (D ++ [k]).map .int by simp, lstG_no (by simp)]
end DL

-- DTab
/-! DTab: tables: rows (runs drawn, a place, a number), read as a dict. -/
namespace DL
open PySem
/-- a loop that may end by a return -/
theorem forL_ex {α : Type} {xs : List α} {f : α → RV} {κ : RV → DL.Env → Store → Out} {t : Tag κ} {env : DL.Env} {st : Store} {F : Out} (hF : forL κ t (xs.map f) env st = F) (R : List α → DL.Env → Store → Prop) (Q : RV → Store → Prop) (h0 : R [] env st)
    (h : ∀ pre x post env st, xs = pre ++ x :: post → R pre env st → ∀ O, κ (f x) env st = O → (∃ env' st', O = .nx env' st' ∧ R (pre ++ [x]) env' st') ∨ ∃ v st', O = .rt v st' ∧ Q v st') : (∃ env' st', F = .nx env' st' ∧ R xs env' st') ∨ ∃ v st', F = .rt v st' ∧ Q v st' := by
  have key : ∀ (post pre : List α) (env : DL.Env) (st : Store), xs = pre ++ post → R pre env st → (∃ env' st', forL κ t (post.map f) env st = .nx env' st' ∧ R xs env' st') ∨ ∃ v st', forL κ t (post.map f) env st = .rt v st' ∧ Q v st' := by
    intro post
    induction post with
    | nil =>
      intro pre env st e r
      rw [List.append_nil] at e
      exact .inl ⟨env, st, rfl, e ▸ r⟩
    | cons x post ih =>
      intro pre env st e r
      rw [List.map_cons, forL_cons]
      rcases h pre x post env st e r _ rfl with ⟨env1, st1, e1, r1⟩ | ⟨v, st1, e1, r1⟩
      · rw [e1, sF_nx]
        exact ih (pre ++ [x]) env1 st1 (by simp [e]) r1
      · rw [e1, sF_rt]
        exact .inr ⟨v, st1, rfl, r1⟩
  rw [← hF]
  exact key xs [] env st rfl h0
/-- a comprehension over a list that is a cell -/
theorem lc_cell {xs : List RV} {n : Nat} {κ : RV → Store → Res (Option RV)} {t : Tag κ} {st : Store} (hn : st[n]? = some (.lst xs)) (h : ∀ x ∈ xs, ∃ o, κ x st = .ok o st) : ∀ (k i : Nat) (acc : List RV), i + k = xs.length → lcLoop (.cell n xs.length) κ k i acc st = lcL κ t (xs.drop i) acc st
  | 0, i, acc, e => by
    rw [List.drop_of_length_le (by omega)]
    show (if (Src.cell n xs.length).ends st = true then _ else _) = _
    rw [if_pos (by simp [Src.ends, hn])]
    rfl
  | k + 1, i, acc, e => by
    have hi : i < xs.length := by omega
    rw [List.drop_eq_getElem_cons hi]
    unfold lcLoop lcL
    simp only [Src.at?, hn, List.getElem?_eq_getElem hi]
    obtain ⟨o, ho⟩ := h _ (List.getElem_mem hi)
    rw [ho]
    cases o with
    | none => exact lc_cell hn h k (i + 1) _ (by omega)
    | some y => exact lc_cell hn h k (i + 1) _ (by omega)
theorem lcS_cell {xs : List RV} {n : Nat} {κ : RV → Store → Res (Option RV)} {t : Tag κ} {acc : List RV} {st : Store} (hn : st[n]? = some (.lst xs)) (h : ∀ x ∈ xs, ∃ o, κ x st = .ok o st) : lcS (.cell n xs.length) κ t acc st = lcL κ t xs acc st := by
  unfold lcS
  rw [show (Src.cell n xs.length).size = xs.length from rfl, lc_cell hn h _ _ _ (by omega), List.drop_zero]
/-! rising lists of numbers -/
abbrev ZR (L : List Int) : Prop := L.Pairwise fun a b => a < b
theorem zr_rng (lo : Int) (n : Nat) : ZR (rng lo n) := by
  unfold rng
  refine List.Pairwise.map _ (fun a b h => ?_) List.pairwise_lt_range
  omega
theorem zr_ext : ∀ {L M : List Int}, ZR L → ZR M → (∀ c, c ∈ L ↔ c ∈ M) → L = M
  | [], [], _, _, _ => rfl
  | [], b :: M, _, _, h => absurd ((h b).mpr List.mem_cons_self) List.not_mem_nil
  | a :: L, [], _, _, h => absurd ((h a).mp List.mem_cons_self) List.not_mem_nil
  | a :: L, b :: M, h1, h2, h => by
    have p1 := List.pairwise_cons.mp h1
    have p2 := List.pairwise_cons.mp h2
    have e : a = b := by
      rcases List.mem_cons.mp ((h a).mp List.mem_cons_self) with e | q1
      · exact e
      · rcases List.mem_cons.mp ((h b).mpr List.mem_cons_self) with e | q2
        · exact e.symm
        · have := p2.1 a q1
          have := p1.1 b q2
          omega
    subst e
    congr 1
    refine zr_ext p1.2 p2.2 fun c => ⟨fun q => ?_, fun q => ?_⟩
    · rcases List.mem_cons.mp ((h c).mp (List.mem_cons_of_mem _ q)) with e | r
      · have := p1.1 c q
        omega
      · exact r
    · rcases List.mem_cons.mp ((h c).mpr (List.mem_cons_of_mem _ q)) with e | r
      · have := p2.1 c q
        omega
      · exact r
theorem mem_ddZ (a : Int) : ∀ L : List Int, a ∈ dedupZ L ↔ a ∈ L
  | [] => Iff.rfl
  | x :: xs => by
    rw [dedupZ]
    split
    · rename_i h
      rw [mem_ddZ a xs, List.mem_cons]
      exact ⟨.inr, fun q => q.elim (fun e => e ▸ h) id⟩
    · rw [List.mem_cons, List.mem_cons, mem_ddZ a xs]
theorem nodup_ddZ : ∀ L : List Int, (dedupZ L).Nodup
  | [] => List.nodup_nil
  | x :: xs => by
    rw [dedupZ]
    split
    · exact nodup_ddZ xs
    · rename_i h
      exact List.nodup_cons.mpr ⟨fun q => h ((mem_ddZ x xs).mp q), nodup_ddZ xs⟩
theorem mem_sortZ {a : Int} {L : List Int} : a ∈ sortZ L ↔ a ∈ L := by
  unfold sortZ
  rw [List.mem_mergeSort, mem_ddZ]
theorem zr_sortZ (L : List Int) : ZR (sortZ L) := by
  have p := List.pairwise_mergeSort (le := fun a b : Int => decide (a ≤ b)) (fun a b c h1 h2 => by simp only [decide_eq_true_eq] at *; omega) (fun a b => by simp only [Bool.or_eq_true, decide_eq_true_eq]; omega) (dedupZ L)
  have q : (sortZ L).Nodup := (List.mergeSort_perm (dedupZ L) _).symm.nodup (nodup_ddZ L)
  have pq := List.Pairwise.and p q
  refine List.Pairwise.imp (fun {a b} h => ?_) pq
  have h1 := of_decide_eq_true h.1
  have h2 : a ≠ b := h.2
  omega
theorem standing_iff (n : Nat) (D : List Int) : D = (rng 0 n).filter (fun i => decide (i ∈ D)) ↔ D = sortZ D ∧ ∀ i ∈ D, 0 ≤ i ∧ i < n := by
  constructor
  · intro h
    have hm : ∀ i ∈ D, 0 ≤ i ∧ i < n := fun i hi => by
      rw [h] at hi
      have := mem_rng.mp (List.mem_filter.mp hi).1
      omega
    refine ⟨zr_ext (h ▸ (zr_rng 0 n).filter _) (zr_sortZ D) fun c => mem_sortZ.symm, hm⟩
  · rintro ⟨h1, h2⟩
    refine zr_ext (h1 ▸ zr_sortZ D) ((zr_rng 0 n).filter _) fun c => ?_
    rw [List.mem_filter, mem_rng, decide_eq_true_eq]
    exact ⟨fun h => ⟨by have := h2 c h; omega, h⟩, fun h => h.2⟩
/-! rows -/
abbrev Ky := List Int × Pl
abbrev Rw := Ky × Int
def rwD (r : Rw) : PyData := .tuple [.tuple (r.1.1.map .int), pD r.1.2, .int r.2]
@[simp] theorem noL_rwD (r : Rw) : noL (rwD r) = true := by simp [rwD]
@[simp] theorem noLs_rows (R : List Rw) : noLs (R.map rwD) = true := by
  induction R with
  | nil => rfl
  | cons r R ih => simp [ih]
def kvT (M : List Rw) : List (PyData × RV) := M.map fun r => (kyD r.1.1 r.1.2, .d .pur (.int r.2))
theorem dget_T (M : List Rw) (k : Ky) : dget (kvT M) (kyD k.1 k.2) = (M.lookup k).map fun v => .d .pur (.int v) := by
  unfold dget kvT
  induction M with
  | nil => rfl
  | cons r M ih =>
    obtain ⟨⟨D, p⟩, v⟩ := r
    obtain ⟨E, q⟩ := k
    simp only [List.map_cons, List.find?_cons, same, eqv_ky, List.lookup_cons]
    by_cases h : D = E ∧ p = q
    · obtain ⟨rfl, rfl⟩ := h
      simp
    · have h2 : ((E, q) == (D, p)) = false := by
        rw [beq_eq_false_iff_ne]
        intro e
        rw [Prod.mk.injEq] at e
        exact h ⟨e.1.symm, e.2.symm⟩
      simp only [h, decide_false, h2]
      exact ih
def keyT (M : List Rw) : List Ky := M.map (·.1)
def putT (M : List Rw) (r : Rw) : List Rw := if r.1 ∈ keyT M then M.map fun q => if q.1 = r.1 then (q.1, r.2) else q else M ++ [r]
theorem dput_T (M : List Rw) (r : Rw) : dput (kvT M) (kyD r.1.1 r.1.2) (.d .pur (.int r.2)) = kvT (putT M r) := by
  unfold dput
  have e : ((kvT M).any fun p => same p.1 (kyD r.1.1 r.1.2)) = decide (r.1 ∈ keyT M) := by
    unfold kvT keyT
    rw [List.any_map, show ((fun p : PyData × RV => same p.1 (kyD r.1.1 r.1.2)) ∘ fun q : Rw => (kyD q.1.1 q.1.2, RV.d .pur (.int q.2))) = fun q => decide (q.1.1 = r.1.1 ∧ q.1.2 = r.1.2) from funext fun a => eqv_ky _ _ _ _, Bool.eq_iff_iff]
    simp only [List.any_eq_true, decide_eq_true_eq, List.mem_map]
    constructor
    · rintro ⟨q, hq, h1, h2⟩
      exact ⟨q, hq, Prod.ext h1 h2⟩
    · rintro ⟨q, hq, h⟩
      exact ⟨q, hq, by rw [h], by rw [h]⟩
  rw [e]
  unfold putT
  by_cases h : r.1 ∈ keyT M
  · rw [if_pos (decide_eq_true h), if_pos h]
    unfold kvT
    rw [List.map_map, List.map_map]
    refine List.map_congr_left fun q _ => ?_
    show (if PyData.eqv (kyD q.1.1 q.1.2) (kyD r.1.1 r.1.2) = true then (kyD q.1.1 q.1.2, RV.d .pur (.int r.2)) else (kyD q.1.1 q.1.2, RV.d .pur (.int q.2))) = _
    rw [eqv_ky]
    by_cases h : q.1 = r.1
    · simp [h]
    · have h2 : ¬ (q.1.1 = r.1.1 ∧ q.1.2 = r.1.2) := fun e => h (Prod.ext e.1 e.2)
      simp [h, h2]
  · rw [if_neg (by simpa using h), if_neg h]
    unfold kvT
    rw [List.map_append]
    rfl
theorem foldl_T (g : Gn) : ∀ (R acc : List Rw), (R.map fun r => (kyD r.1.1 r.1.2, PyData.int r.2)).foldl (fun acc q => dput acc q.1 (el g q.2)) (kvT acc) = kvT (R.foldl putT acc)
  | [], _ => rfl
  | r :: R, acc => by
    rw [List.map_cons, List.foldl_cons, List.foldl_cons]
    show List.foldl _ (dput (kvT acc) (kyD r.1.1 r.1.2) (.d .pur (.int r.2))) _ = _
    rw [dput_T, foldl_T g R]
theorem mkDic_T (g : Gn) (R : List Rw) : mkDic (.d g (.list (R.map fun r => .tuple [kyD r.1.1 r.1.2, .int r.2]))) = some (.dic false (kvT (R.foldl putT []))) := by
  have hp : pairsOf (R.map fun r : Rw => .tuple [kyD r.1.1 r.1.2, .int r.2]) = some (R.map fun r => (kyD r.1.1 r.1.2, .int r.2)) := by
    induction R with
    | nil => rfl
    | cons c L ih =>
      rw [List.map_cons, pairsOf, ih]
      rfl
  unfold mkDic
  simp only []
  rw [hp]
  simp only [Option.bind_some]
  rw [if_pos (by
    rw [List.all_eq_true]
    intro q hq
    obtain ⟨c, _, rfl⟩ := List.mem_map.mp hq
    exact keyOk_ky _ _)]
  rw [show ([] : List (PyData × RV)) = kvT [] from rfl, foldl_T g R []]
theorem foldl_nodup : ∀ (R acc : List Rw), (keyT (acc ++ R)).Nodup → R.foldl putT acc = acc ++ R
  | [], acc, _ => by simp
  | r :: R, acc, h => by
    have hn : r.1 ∉ keyT acc := by
      unfold keyT at h ⊢
      rw [List.map_append, List.nodup_append] at h
      exact fun q => h.2.2 r.1 q r.1 (by simp) rfl
    rw [List.foldl_cons, putT, if_neg hn, foldl_nodup R _ (by simpa using h)]
    simp
theorem putT_len (M : List Rw) (r : Rw) : (putT M r).length = if r.1 ∈ keyT M then M.length else M.length + 1 := by
  unfold putT
  split <;> simp
theorem putT_keys (M : List Rw) (r : Rw) : keyT (putT M r) = if r.1 ∈ keyT M then keyT M else keyT M ++ [r.1] := by
  unfold putT
  split
  · unfold keyT
    rw [List.map_map]
    refine List.map_congr_left fun q _ => ?_
    simp only [Function.comp_def]
    split <;> rfl
  · simp [keyT]
theorem foldl_len : ∀ (R acc : List Rw), (R.foldl putT acc).length ≤ acc.length + R.length
  | [], acc => by simp
  | r :: R, acc => by
    have := foldl_len R (putT acc r)
    rw [putT_len] at this
    rw [List.foldl_cons, List.length_cons]
    split at this <;> omega
theorem foldl_dup : ∀ (R acc : List Rw), (keyT acc).Nodup → ¬ (keyT (acc ++ R)).Nodup → (R.foldl putT acc).length < acc.length + R.length
  | [], acc, h1, h2 => by
    rw [List.append_nil] at h2
    exact absurd h1 h2
  | r :: R, acc, h1, h2 => by
    rw [List.foldl_cons, List.length_cons]
    by_cases h : r.1 ∈ keyT acc
    · have := foldl_len R (putT acc r)
      rw [putT_len, if_pos h] at this
      omega
    · have e : putT acc r = acc ++ [r] := by rw [putT, if_neg h]
      have := foldl_dup R (putT acc r) (by
        rw [putT_keys, if_neg h, List.nodup_append]
        exact ⟨h1, by simp, fun a ha b hb => by
          rw [List.mem_singleton] at hb
          subst hb
          exact fun e => h (e ▸ ha)⟩) (by rw [e]; simpa using h2)
      rw [e] at this ⊢
      simp only [List.length_append, List.length_singleton] at this
      omega
theorem len_kvT (M : List Rw) : (kvT M).length = M.length := List.length_map _
theorem lookup_T {M : List Rw} (hn : (keyT M).Nodup) {r : Rw} (h : r ∈ M) : M.lookup r.1 = some r.2 := by
  induction M with
  | nil => cases h
  | cons a M ih =>
    have q := List.nodup_cons.mp (show (a.1 :: keyT M).Nodup from hn)
    rw [List.lookup_cons]
    rcases List.mem_cons.mp h with rfl | h
    · simp
    · have e : (r.1 == a.1) = false := by
        rw [beq_eq_false_iff_ne]
        exact fun e => q.1 (e ▸ List.mem_map.mpr ⟨r, h, rfl⟩)
      rw [e]
      exact ih q.2 h
theorem lookup_Tm {M : List Rw} {k : Ky} {v : Int} (h : M.lookup k = some v) : (k, v) ∈ M := by
  induction M with
  | nil => cases h
  | cons a M ih =>
    rw [List.lookup_cons] at h
    by_cases e : k = a.1
    · have e2 : (k == a.1) = true := by simpa using e
      rw [e2] at h
      simp only [Option.some.injEq] at h
      exact List.mem_cons.mpr (.inl (Prod.ext e h.symm))
    · have e2 : (k == a.1) = false := by simpa using e
      rw [e2] at h
      exact List.mem_cons_of_mem _ (ih h)
theorem lookup_Tn {M : List Rw} {k : Ky} : (M.lookup k).isSome = decide (k ∈ keyT M) := by
  induction M with
  | nil => rfl
  | cons a M ih =>
    rw [List.lookup_cons]
    show _ = decide (k ∈ a.1 :: keyT M)
    by_cases e : k = a.1
    · have e2 : (k == a.1) = true := by simpa using e
      rw [e2]
      simp [e]
    · have e2 : (k == a.1) = false := by simpa using e
      rw [e2]
      simp only [List.mem_cons, e, false_or]
      exact ih
theorem keysOf_T (M : List Rw) : (kvT M).map (fun p => RV.d .pur p.1) = M.map fun r => .d .pur (kyD r.1.1 r.1.2) := by
  unfold kvT
  rw [List.map_map]
  rfl
theorem kvD_T (M : List Rw) : kvD (kvT M) := by
  intro p hp
  obtain ⟨r, _, rfl⟩ := List.mem_map.mp hp
  exact ⟨_, _, rfl⟩
theorem kvG_T {f : Gn → Gn} (hf : f .pur = .pur) (M : List Rw) : kvG f (kvT M) = kvT M := by
  unfold kvG kvT
  rw [List.map_map]
  refine List.map_congr_left fun r _ => ?_
  simp only [Function.comp_def, gmap, hf]
theorem tup_add {st : Store} {g : Gn} (D : List Int) (i : Int) (h : D.length < 16777216) : binop st .add (.d g (.tuple (D.map .int))) (.d .pur (.tuple [.int i])) = some (.d g (.tuple ((D ++ [i]).map .int))) := by
  rw [add_tt, if_pos (by rw [List.length_map, lim_num, List.length_singleton]; omega), List.map_append]
  cases g <;> rfl
def atC (L : List Cl) (i : Int) : Cl := L.getD i.toNat (0, 0, 0)
theorem at_C {L : List Cl} {i : Int} (h0 : 0 ≤ i) (h : i < L.length) : L2.atI (L.map cD) i = some (cD (atC L i)) := by
  unfold atC
  rw [atI_nn h0, List.getElem?_map, List.getElem?_eq_getElem (by omega), List.getD_eq_getElem?_getD, List.getElem?_eq_getElem (by omega)]
  rfl
/-! what a table must be -/
def stnd (n : Nat) (k : Ky) : Prop := k.1 = (rng 0 n).filter (fun i => decide (i ∈ k.1)) ∧ (0 ≤ k.2.1 ∧ k.2.1 < 4) ∧ 0 ≤ k.2.2 ∧ k.2.2 < 4
/-- one way on is told -/
def onP (L : List Cl) (M : List Rw) (k : Ky) (v i w : Int) : Prop := ∃ u, M.lookup (srt (k.1 ++ [i]), fin (atC L i) w) = some u ∧ v ≤ far k.2 (bgn (atC L i) w) + u
def heldP (L : List Cl) (M : List Rw) (k : Ky) (v : Int) : Prop := (leftOf L.length k.1 = [] → v ≤ 0) ∧ ∀ i ∈ leftOf L.length k.1, onP L M k v i 0 ∧ onP L M k v i 1
def goodT (L : List Cl) (p : Pl) (much : Int) (R : List Rw) : Prop := (∀ r ∈ R, stnd L.length r.1) ∧ (keyT R).Nodup ∧ (∃ v, R.lookup ([], p) = some v ∧ much ≤ v) ∧ ∀ r ∈ R, heldP L R r.1 r.2
theorem far_comm (p q : Pl) : far p q = far q p := by
  unfold far
  split <;> split <;> split <;> split <;> omega
/-- rows that may be handed on -/
def RowsOk (b : Int) (m : Nat) (R : List Rw) : Prop := ∀ r ∈ R, r.1.1.length ≤ m ∧ b ≤ r.2
theorem mem_rr : ∀ a b c d : Bool, ∀ p ∈ rr a b c d, (0 ≤ p.1 ∧ p.1 < 4) ∧ 0 ≤ p.2 ∧ p.2 < 4 := by
  intro a b c d
  cases a <;> cases b <;> cases c <;> cases d <;> decide
theorem mem_strk {L : List Cl} {z : Int} {c : Cl} (h : c ∈ strk L z) : (0 ≤ c.1 ∧ c.1 < 4) ∧ (0 ≤ c.2.1 ∧ c.2.1 < 4) ∧ 0 ≤ c.2.2 ∧ c.2.2 < 4 := by
  unfold strk at h
  rw [List.mem_flatMap] at h
  obtain ⟨y, hy, h⟩ := h
  unfold rowS at h
  obtain ⟨p, hp, rfl⟩ := List.mem_map.mp h
  have := mem_rr _ _ _ _ p hp
  simp only [List.mem_cons, List.not_mem_nil, or_false] at hy
  exact ⟨by omega, this.1, this.2⟩
/-- the ends of a run, as a set of places -/
theorem sort2 (a b y : Int) : ∃ ps : List Pl, (sortC [[a, y], [b, y]]).map tupI = ps.map pD ∧ ps.length ≤ 2 := by
  have hm : ∀ ns ∈ sortC [[a, y], [b, y]], ns = [a, y] ∨ ns = [b, y] := by
    intro ns h
    unfold sortC at h
    rw [List.mem_mergeSort] at h
    have : ∀ (L : List (List Int)) (x : List Int), x ∈ dedupI L → x ∈ L := by
      intro L
      induction L with
      | nil => exact fun x h => h
      | cons c L ih =>
        intro x h
        rw [dedupI] at h
        split at h
        · exact List.mem_cons_of_mem _ (ih x h)
        · rcases List.mem_cons.mp h with h | h
          · exact h ▸ List.mem_cons_self
          · exact List.mem_cons_of_mem _ (ih x h)
    simpa using this _ _ h
  refine ⟨(sortC [[a, y], [b, y]]).map fun ns => (ns.getD 0 0, ns.getD 1 0), ?_, ?_⟩
  · rw [List.map_map]
    refine List.map_congr_left fun ns h => ?_
    rcases hm ns h with rfl | rfl <;> rfl
  · rw [List.length_map]
    unfold sortC
    rw [List.length_mergeSort]
    rw [dedupI]
    split <;> simp [dedupI]
theorem cellsOk2 {a b y : Int} (ha : 0 ≤ a ∧ a < 4) (hb : 0 ≤ b ∧ b < 4) (hy : 0 ≤ y ∧ y < 4) : cellsOk [[a, y], [b, y]] = true := by
  unfold cellsOk
  simp [dimOf]
  omega
@[simp] theorem sub_pD0 {st : Store} {g g' : Gn} (p : Pl) : subscr st (.d g (pD p)) (.d g' (.int 0)) = some (.d .pur (.int p.1)) := Eq.trans rfl rfl
@[simp] theorem sub_pD1 {st : Store} {g g' : Gn} (p : Pl) : subscr st (.d g (pD p)) (.d g' (.int 1)) = some (.d .pur (.int p.2)) := Eq.trans rfl rfl
@[simp] theorem m_get2 {st : Store} {g : Gn} (kvs : List (PyData × RV)) (k : PyData) (v : RV) : mDic st kvs .get2 [.d g k, v] = if keyOk k = true then some ((dget kvs k).getD v, st) else none := Eq.trans rfl rfl
@[simp] theorem sub_ky0 {st : Store} {g g' : Gn} (D : List Int) (p : Pl) : subscr st (.d g (kyD D p)) (.d g' (.int 0)) = some (.d .pur (.tuple (D.map .int))) := by
  show (some (el g (.tuple (D.map .int)))) = _
  rw [el_tup, if_pos (noLs_zs D)]
@[simp] theorem sub_ky1 {st : Store} {g g' : Gn} (D : List Int) (p : Pl) : subscr st (.d g (kyD D p)) (.d g' (.int 1)) = some (.d .pur (pD p)) := Eq.trans rfl rfl
theorem asg_rw {g : Gn} (i j l : Nat) (r : Rw) (env : DL.Env) : DL.assign (.tp [i, j, l]) (.d g (rwD r)) env = some (((env.set i (some (.d .pur (.tuple (r.1.1.map .int))))).set j (some (.d .pur (pD r.1.2)))).set l (some (.d .pur (.int r.2)))) := by
  show some (((env.set i (some (el g (.tuple (r.1.1.map .int))))).set j _).set l _) = _
  rw [el_tup, if_pos (noLs_zs _)]
  rfl
theorem asg_ky {g : Gn} (i j : Nat) (D : List Int) (p : Pl) (env : DL.Env) : DL.assign (.tp [i, j]) (.d g (kyD D p)) env = some ((env.set i (some (.d .pur (.tuple (D.map .int))))).set j (some (.d .pur (pD p)))) := by
  show some ((env.set i (some (el g (.tuple (D.map .int))))).set j _) = _
  rw [el_tup, if_pos (noLs_zs _)]
  rfl
theorem el_rw (g : Gn) (r : Rw) : el g (rwD r) = .d .pur (rwD r) := el_no (noL_rwD r)
theorem el_rws (g : Gn) (R : List Rw) : (R.map rwD).map (el g) = R.map fun r => .d .pur (rwD r) := by
  rw [List.map_map]
  exact List.map_congr_left fun r _ => el_rw g r
theorem el_comp_rw (g : Gn) : el g ∘ rwD = fun r => .d .pur (rwD r) := funext fun r => el_rw g r
theorem noL_ky (D : List Int) (p : Pl) : noL (kyD D p) = true := by simp [kyD]
@[simp] theorem sub_an0 {st : Store} {g g' : Gn} (a : An) : subscr st (.d g (anD a)) (.d g' (.int 0)) = some (.d .pur (.int a.1)) := Eq.trans rfl rfl
theorem range_rng (n : Nat) : ((List.range n).map fun (i : Nat) => PyData.int i) = (rng 0 n).map .int := by
  unfold rng
  rw [List.map_map]
  refine List.map_congr_left fun i _ => ?_
  simp only [Function.comp_def, Int.zero_add]
@[simp] theorem lstG_rws {α : Type} (g : Gn) (L : List α) (f : α → Rw) : lstG g (L.map fun x => rwD (f x)) = .new := lstG_no (noLs_map _ _ fun _ => noL_rwD _)
@[simp] theorem lstG_rw (g : Gn) (L : List Rw) : lstG g (L.map rwD) = .new := lstG_no (noLs_rows L)
theorem lcS_cellR {R : List Rw} {n : Nat} {κ : RV → Store → Res (Option RV)} {t : Tag κ} {acc : List RV} {st : Store} (hn : st[n]? = some (.lst (R.map fun r => .d .pur (rwD r)))) (out : Rw → RV) (h : ∀ r ∈ R, κ (.d .pur (rwD r)) st = .ok (some (out r)) st) : lcS (.cell n R.length) κ t acc st = .ok (acc ++ R.map out) st := by
  have e : (R.map fun r => RV.d .pur (rwD r)).length = R.length := List.length_map _
  rw [← e, lcS_cell hn (fun x hx => by
    obtain ⟨r, hr, rfl⟩ := List.mem_map.mp hx
    exact ⟨_, h r hr⟩), lcL_map R _ out _ _ _ _ h]
theorem depthAll_ints (D : List Int) : PyData.depthAll (D.map .int) ≤ 1 := by
  induction D with
  | nil => simp [PyData.depthAll]
  | cons a r ih =>
    rw [List.map_cons, PyData.depthAll, depth_int]
    omega
theorem eq_intsL {st : Store} {g g' : Gn} (D E : List Int) : cmpop st .eq (.d g (.list (D.map .int))) (.d g' (.list (E.map .int))) = some (decide (D = E)) := by
  have := depthAll_ints D
  rw [eq_dl (by rw [PyData.depth]; omega), PyData.eqv, eqvAll_ints]
theorem eq_intsT {st : Store} {g g' : Gn} (D E : List Int) : cmpop st .eq (.d g (.tuple (D.map .int))) (.d g' (.tuple (E.map .int))) = some (decide (D = E)) := by
  have := depthAll_ints D
  rw [eq_dl (by rw [PyData.depth]; omega), PyData.eqv, eqvAll_ints]
/-- sorted(set(..)) of a run's ends -/
theorem sortset2 {st : Store} {g : Gn} {a b y : Int} (ha : 0 ≤ a ∧ a < 4) (hb : 0 ≤ b ∧ b < 4) (hy : 0 ≤ y ∧ y < 4) {ps : List Pl} (h : (sortC [[a, y], [b, y]]).map tupI = ps.map pD) : bSortset st [.d g (.list [.tuple [.int a, .int y], .tuple [.int b, .int y]])] = some (.d .new (.list (ps.map pD))) := by
  rw [sortset_eq]
  show (if cellsOk [[a, y], [b, y]] = true then some (RV.d .new (.list ((sortC [[a, y], [b, y]]).map tupI))) else none) = _
  rw [if_pos (cellsOk2 ha hb hy), h]
theorem mapM_zs : ∀ D : List Int, (D.map PyData.int).mapM intOf = some D
  | [] => rfl
  | a :: D => by
    rw [List.map_cons, List.mapM_cons, mapM_zs D]
    rfl
theorem mapM_ints2 (D : List Int) : D.mapM (intOf ∘ PyData.int) = some D := by
  rw [← List.mapM_map]
  exact mapM_zs D
theorem any_ints (D : List Int) (i : Int) : ((D.map PyData.int).any fun y => PyData.eqv y (.int i)) = decide (i ∈ D) := by
  induction D with
  | nil => simp
  | cons a D ih =>
    rw [List.map_cons, List.any_cons, ih, eqv_ii]
    by_cases h : a = i
    · subst h
      simp
    · have : ¬ i = a := fun e => h e.symm
      simp [h, this]
theorem memD_ints (D : List Int) (i : Int) : memD (.int i) (D.map .int) = some (decide (i ∈ D)) := by
  rw [memD_int, any_ints]
/-! joined lists of data without lists -/
theorem pur_add {st : Store} {g g' : Gn} {xs ys : List PyData} (hg : g ≠ .scr) (hg' : g' ≠ .scr) (hx : noLs xs = true) (hy : noLs ys = true) (hl : xs.length + ys.length ≤ 16777216) : binop st .add (.d g (.list xs)) (.d g' (.list ys)) = some (.d .new (.list (xs ++ ys))) := by
  have hxy : noLs (xs ++ ys) = true := by
    clear hl
    induction xs with
    | nil => exact hy
    | cons a xs ih =>
      rw [noLs_cons, Bool.and_eq_true] at hx
      rw [List.cons_append, noLs_cons, hx.1, ih hx.2]
      rfl
  rw [add_ll, if_pos ⟨⟨hg, hg'⟩, by rw [lim_num]; exact hl⟩, mkLst_eq, datas_app, datas_el, datas_el]
  show some (RV.d (lstG _ (xs ++ ys)) (.list (xs ++ ys))) = _
  rw [lstG_no hxy]
end DL

-- DTxt
/-! DTxt: bodies as texts. -/
namespace DL
open PySem
/-- a cell's sign -/
def sg (b : Bool) : Str := if b = true then "#" else "."
def chB (b : Bool) : Nat := if b = true then 35 else 46
theorem sg_eq (b : Bool) : sg b = ⟨#[chB b]⟩ := by cases b <;> decide +kernel
theorem sg_len (b : Bool) : (sg b).length = 1 := by cases b <;> decide +kernel
/-- a row -/
def rowX (L : List Cl) (y z : Int) : Str := ⟨#[chB (decide ((0, y, z) ∈ L)), chB (decide ((1, y, z) ∈ L)), chB (decide ((2, y, z) ∈ L)), chB (decide ((3, y, z) ∈ L))]⟩
theorem join4 (a b c d : Bool) : Txt.join "" [sg a, sg b, sg c, sg d] = ⟨#[chB a, chB b, chB c, chB d]⟩ := by
  cases a <;> cases b <;> cases c <;> cases d <;> decide +kernel
theorem len_empty : ("" : Str).length = 0 := by decide +kernel
theorem join_row {st : Store} {g : Gn} (L : List Cl) (y z : Int) : mStr st "" .join [.d g (.list (([0, 1, 2, 3] : List Int).map fun x => .str (sg (decide ((x, y, z) ∈ L)))))] = some (.d .pur (.str (rowX L y z)), st) := by
  have e := join4 (decide ((0, y, z) ∈ L)) (decide ((1, y, z) ∈ L)) (decide ((2, y, z) ∈ L)) (decide ((3, y, z) ∈ L))
  have e1 : (([0, 1, 2, 3] : List Int).map fun x => PyData.str (sg (decide ((x, y, z) ∈ L)))).mapM strOf = some [sg (decide ((0, y, z) ∈ L)), sg (decide ((1, y, z) ∈ L)), sg (decide ((2, y, z) ∈ L)), sg (decide ((3, y, z) ∈ L))] := rfl
  rw [m_join, flat_l]
  simp only [Option.bind_some, e1]
  rw [if_pos (by simp [sg_len, len_empty, lim]), e]
  rfl
/-- the row of that number, of all layers -/
def rowAt (L : List Cl) (i : Int) : Str := if i % 5 = 4 then "-" else rowX L (i % 5) (i / 5)
/-- all rows of n layers -/
def rowsX (L : List Cl) (n : Nat) : List Str := (rng 0 (5 * n - 1)).map (rowAt L)
theorem rng_add (a b : Nat) : rng 0 (a + b) = rng 0 a ++ rng a b := by
  unfold rng
  rw [List.range_add, List.map_append, List.map_map]
  congr 1
  refine List.map_congr_left fun i _ => ?_
  simp only [Function.comp_def]
  omega
def layX (L : List Cl) (z : Int) : List Str := ([0, 1, 2, 3] : List Int).map fun y => rowX L y z
theorem rowsX_0 (L : List Cl) : rowsX L 0 = [] := rfl
theorem rowAt_0 (L : List Cl) (n : Nat) : rowAt L (5 * (n : Int)) = rowX L 0 n := by unfold rowAt; rw [if_neg (by omega), show (5 * (n : Int)) % 5 = 0 by omega, show (5 * (n : Int)) / 5 = n by omega]
theorem rowAt_1 (L : List Cl) (n : Nat) : rowAt L (5 * (n : Int) + 1) = rowX L 1 n := by unfold rowAt; rw [if_neg (by omega), show (5 * (n : Int) + 1) % 5 = 1 by omega, show (5 * (n : Int) + 1) / 5 = n by omega]
theorem rowAt_2 (L : List Cl) (n : Nat) : rowAt L (5 * (n : Int) + 2) = rowX L 2 n := by unfold rowAt; rw [if_neg (by omega), show (5 * (n : Int) + 2) % 5 = 2 by omega, show (5 * (n : Int) + 2) / 5 = n by omega]
theorem rowAt_3 (L : List Cl) (n : Nat) : rowAt L (5 * (n : Int) + 3) = rowX L 3 n := by unfold rowAt; rw [if_neg (by omega), show (5 * (n : Int) + 3) % 5 = 3 by omega, show (5 * (n : Int) + 3) / 5 = n by omega]
theorem rowAt_4 (L : List Cl) (n : Nat) : rowAt L (5 * (n : Int) + 4) = "-" := by unfold rowAt; rw [if_pos (by omega)]
theorem rng_4 (n : Nat) : rng (5 * n : Nat) 4 = [5 * (n : Int), 5 * (n : Int) + 1, 5 * (n : Int) + 2, 5 * (n : Int) + 3] := by
  simp [rng, List.range_succ]
theorem rowsX_succ (L : List Cl) (n : Nat) : rowsX L (n + 1) = rowsX L n ++ (if n = 0 then [] else [("-" : Str)]) ++ layX L n := by
  cases n with
  | zero =>
    unfold rowsX
    rw [show 5 * (0 + 1) - 1 = 0 + 4 by omega, rng_add, show (rng ((0 : Nat) : Int) 4) = rng (5 * 0 : Nat) 4 from rfl, rng_4]
    simp only [List.map_append, List.map_cons, List.map_nil, rowAt_0, rowAt_1, rowAt_2, rowAt_3]
    rfl
  | succ n =>
    rw [if_neg (by omega)]
    unfold rowsX
    rw [show 5 * (n + 1 + 1) - 1 = (5 * (n + 1) - 1) + 5 by omega, rng_add, show (5 : Nat) = 1 + 4 from rfl]
    have e : rng ((5 * (n + 1) - 1 : Nat) : Int) (1 + 4) = [5 * (n : Int) + 4] ++ rng (5 * (n + 1) : Nat) 4 := by
      simp only [rng, show List.range (1 + 4) = [0, 1, 2, 3, 4] from rfl, show List.range 4 = [0, 1, 2, 3] from rfl, List.map_cons, List.map_nil, List.cons_append, List.nil_append, List.cons.injEq, and_true]
      refine ⟨?_, ?_, ?_, ?_, ?_⟩ <;> omega
    rw [show (1 + 4) * (n + 1) - 1 = 5 * (n + 1) - 1 from rfl, e, rng_4]
    simp only [List.map_append, List.map_cons, List.map_nil, rowAt_0, rowAt_1, rowAt_2, rowAt_3, rowAt_4, List.append_assoc]
    rfl
theorem rowX_len (L : List Cl) (y z : Int) : (rowX L y z).length = 4 := rfl
theorem rowAt_len (L : List Cl) (i : Int) : (rowAt L i).length ≤ 4 := by
  unfold rowAt
  split
  · decide +kernel
  · exact Nat.le_of_eq (rowX_len _ _ _)
theorem rowsX_len (L : List Cl) (n : Nat) : (rowsX L n).length = 5 * n - 1 := by unfold rowsX; rw [List.length_map, len_rng]
def textX (L : List Cl) (n : Nat) : Str := Txt.join "\n" (rowsX L n)
theorem sum_rows (L : List Cl) : ∀ is : List Int, ((is.map (rowAt L)).map (·.length)).sum ≤ 4 * is.length
  | [] => Nat.le_refl _
  | i :: is => by
    have := sum_rows L is
    have := rowAt_len L i
    simp only [List.map_cons, List.sum_cons, List.length_cons]
    omega
theorem len_nl : ("\n" : Str).length = 1 := by decide +kernel
theorem rows_fit (L : List Cl) (n : Nat) (hn : n ≤ 4) : ((rowsX L n).map (·.length)).sum + (rowsX L n).length * ("\n" : Str).length ≤ 100 := by
  have h1 := sum_rows L (rng 0 (5 * n - 1))
  rw [len_rng] at h1
  have h2 := rowsX_len L n
  unfold rowsX at *
  rw [h2, len_nl]
  omega
theorem text_len (L : List Cl) (n : Nat) (hn : n ≤ 4) : (textX L n).length ≤ 100 := by
  have h := StrLaws.join_length_le "\n" (rowsX L n)
  have h2 := rows_fit L n hn
  unfold textX
  rw [TL.join_eq]
  omega
theorem row_chars (L : List Cl) (i : Int) : ∀ c ∈ TL.tl (rowAt L i), c = 35 ∨ c = 45 ∨ c = 46 := by
  have ch : ∀ b, chB b = 35 ∨ chB b = 46 := fun b => by cases b <;> decide
  unfold rowAt
  split
  · decide +kernel
  · intro c hc
    have hc : c ∈ [chB (decide ((0, i % 5, i / 5) ∈ L)), chB (decide ((1, i % 5, i / 5) ∈ L)), chB (decide ((2, i % 5, i / 5) ∈ L)), chB (decide ((3, i % 5, i / 5) ∈ L))] := hc
    simp only [List.mem_cons, List.not_mem_nil, or_false] at hc
    rcases hc with rfl | rfl | rfl | rfl <;> rcases ch _ with e | e <;> rw [e] <;> decide
theorem split_text (L : List Cl) (n : Nat) (hn : 1 ≤ n) : Txt.split (textX L n) "\n" = rowsX L n := by
  refine TL.split_join (y := "\n") (s := 10) (S := []) (by decide +kernel) (by decide +kernel) (fun e => ?_) fun p hp => ?_
  · have := congrArg List.length e
    rw [rowsX_len] at this
    simp at this
    omega
  · obtain ⟨i, _, rfl⟩ := List.mem_map.mp hp
    intro h
    rcases row_chars L i 10 h with e | e | e <;> cases e
theorem rows_ok (L : List Cl) (n : Nat) : (rowsX L n).all PyData.strOk = true := by
  rw [List.all_eq_true]
  intro p hp
  obtain ⟨i, _, rfl⟩ := List.mem_map.mp hp
  unfold PyData.strOk
  rw [← Array.all_toList, List.all_eq_true]
  intro c hc
  rcases row_chars L i c hc with rfl | rfl | rfl <;> decide
theorem text_0 (L : List Cl) : textX L 0 = "" := by
  show Txt.join "\n" [] = ""
  decide +kernel
theorem text_ne (L : List Cl) (n : Nat) (hn : 1 ≤ n) : textX L n ≠ "" := fun e => by
  have h := split_text L n hn
  rw [e, show Txt.split "" "\n" = [("" : Str)] by decide +kernel] at h
  have := congrArg List.length h
  rw [rowsX_len] at this
  simp at this
  omega
/-! ### the highest layer -/
def hiZ : List Int → Int
  | [] => -1
  | x :: r => if hiZ r ≤ x then x else hiZ r
theorem hiZ_le : ∀ (is : List Int), ∀ y ∈ is, y ≤ hiZ is
  | x :: r, y, hy => by
    have ih := hiZ_le r
    unfold hiZ
    rcases List.mem_cons.mp hy with rfl | hy
    · split <;> omega
    · have := ih y hy
      split <;> omega
theorem hiZ_mem : ∀ (is : List Int), is ≠ [] → (∀ y ∈ is, 0 ≤ y) → hiZ is ∈ is
  | [x], _, h0 => by
    have := h0 x List.mem_cons_self
    unfold hiZ
    rw [if_pos (show hiZ [] ≤ x by unfold hiZ; omega)]
    exact List.mem_cons_self
  | x :: y :: r, _, h0 => by
    have ih := hiZ_mem (y :: r) (by simp) fun z hz => h0 z (List.mem_cons_of_mem _ hz)
    unfold hiZ
    split
    · exact List.mem_cons_self
    · exact List.mem_cons_of_mem _ ih
theorem pick_hi (is : List Int) (h0 : ∀ y ∈ is, 0 ≤ y) (g : Gn) : pick PySem.W.maxD g (is.map .int) (some (.d .pur (.int (-1)))) = some (.d .pur (.int (hiZ is))) := by
  obtain ⟨m, e1, e2, e3⟩ := pick_max is (-1)
  rw [e1 g]
  rcases e2 with ⟨rfl, rfl⟩ | e2
  · rfl
  · have h1 := hiZ_le is m e2
    have h2 := e3 _ (hiZ_mem is (fun z => by rw [z] at e2; cases e2) h0)
    rw [show m = hiZ is by omega]
/-- how many layers a text tells -/
def nLay (L : List Cl) : Nat := (hiZ (L.map fun c => c.2.2) + 1).toNat
theorem hi_bd {L : List Cl} (hr : ∀ c ∈ L, Room c) : -1 ≤ hiZ (L.map fun c => c.2.2) ∧ hiZ (L.map fun c => c.2.2) ≤ 3 ∧ (nLay L : Int) = hiZ (L.map fun c => c.2.2) + 1 ∧ nLay L ≤ 4 ∧ (L = [] → nLay L = 0) ∧ (L ≠ [] → 1 ≤ nLay L ∧ ∃ c ∈ L, c.2.2 = nLay L - 1) ∧ ∀ c ∈ L, c.2.2 < nLay L := by
  have key : -1 ≤ hiZ (L.map fun c => c.2.2) ∧ hiZ (L.map fun c => c.2.2) ≤ 3 ∧ (L ≠ [] → ∃ c ∈ L, c.2.2 = hiZ (L.map fun c => c.2.2)) := by
    by_cases h : L = []
    · subst h
      exact ⟨by simp [hiZ], by simp [hiZ], fun z => absurd rfl z⟩
    · have hm := hiZ_mem (L.map fun c => c.2.2) (by simpa using h) fun y hy => by
        obtain ⟨c, hc, rfl⟩ := List.mem_map.mp hy
        have := hr c hc
        simp only [Room, R3] at this
        omega
      obtain ⟨c, hc, e⟩ := List.mem_map.mp hm
      have := hr c hc
      simp only [Room, R3] at this
      exact ⟨by omega, by omega, fun _ => ⟨c, hc, e⟩⟩
  obtain ⟨k1, k2, k3⟩ := key
  have k4 : (nLay L : Int) = hiZ (L.map fun c => c.2.2) + 1 := by unfold nLay; omega
  refine ⟨k1, k2, k4, by omega, fun h => by subst h; rfl, fun h => ?_, fun c hc => ?_⟩
  · obtain ⟨c, hc, e⟩ := k3 h
    have := hr c hc
    simp only [Room, R3] at this
    exact ⟨by omega, c, hc, by omega⟩
  · have := hiZ_le (L.map fun c => c.2.2) c.2.2 (List.mem_map_of_mem hc)
    omega
/-! ### loops over rows -/
theorem rng_pre {n : Nat} {pre post : List Int} {z : Int} (h : rng 0 n = pre ++ z :: post) : z = pre.length ∧ pre = rng 0 pre.length ∧ pre.length < n := by
  have hl := congrArg List.length h
  rw [len_rng, List.length_append, List.length_cons] at hl
  have e1 : (rng 0 n)[pre.length]? = some z := by rw [h]; simp
  have e2 : (rng 0 n)[pre.length]? = some (pre.length : Int) := by
    unfold rng
    rw [List.getElem?_map, List.getElem?_range (by omega)]
    simp
  rw [e2] at e1
  refine ⟨(Option.some.inj e1).symm, ?_, by omega⟩
  have e3 : (rng 0 n).take pre.length = pre := by rw [h]; simp
  rw [← e3]
  unfold rng
  rw [← List.map_take, List.take_range]
  simp
theorem rng_snoc (n : Nat) : rng 0 (n + 1) = rng 0 n ++ [(n : Int)] := by
  unfold rng
  rw [List.range_succ, List.map_append]
  simp
theorem enum_rows (st : Store) (g : Gn) (m : Nat) (f : Int → Str) : srcOf st .enum [.d g (.list ((rng 0 m).map fun i => .str (f i)))] = some (.items ((rng 0 m).map fun i => .d .pur (.tuple [.int i, .str (f i)]))) := by
  have key : ∀ (is : List Nat), (is.zip (is.map fun (i : Nat) => PyData.str (f (0 + (i : Int))))).mapM (fun p => pairRV (rvI (p.1 : Int)) (el g p.2)) = some (is.map fun (i : Nat) => .d .pur (.tuple [.int (0 + (i : Int)), .str (f (0 + (i : Int)))])) := by
    intro is
    induction is with
    | nil => rfl
    | cons i is ih =>
      rw [List.map_cons, List.zip_cons_cons, List.mapM_cons, ih, List.map_cons]
      simp only [Int.zero_add]
      rfl
  show sEnum [.d g (.list ((rng 0 m).map fun i => .str (f i)))] = _
  unfold sEnum rng
  simp only [List.map_map, List.length_map, List.length_range, Function.comp_def]
  rw [key]
  rfl
theorem strs_mapM (R : List Str) : (R.map PyData.str).mapM strOf = some R := by
  induction R with
  | nil => rfl
  | cons c R ih =>
    simp only [List.map_cons, List.mapM_cons, ih]
    rfl
theorem join_list {st : Store} {g : Gn} (s : Str) (R : List Str) (h : (R.map (·.length)).sum + R.length * s.length ≤ 16777216) : mStr st s .join [.d g (.list (R.map .str))] = some (.d .pur (.str (Txt.join s R)), st) := by
  rw [m_join, flat_l]
  simp only [Option.bind_some, strs_mapM]
  exact if_pos h
theorem join_cell {st : Store} {n : Nat} (s : Str) (R : List Str) (hn : st[n]? = some (.lst (R.map fun r => .d .pur (.str r)))) (h : (R.map (·.length)).sum + R.length * s.length ≤ 16777216) : mStr st s .join [.c n] = some (.d .pur (.str (Txt.join s R)), st) := by
  rw [m_join, flat_c, hn]
  simp only [Option.bind_some, flatCell_l, datas_map, Option.map_some, strs_mapM]
  exact if_pos h
/-! ### a row's signs -/
theorem row_src {st : Store} {g : Gn} (L : List Cl) (y z : Int) : srcOf st .val [.d g (.str (rowX L y z))] = some (.items (([0, 1, 2, 3] : List Int).map fun x => .d .pur (.str (sg (decide ((x, y, z) ∈ L)))))) := by
  simp only [List.map_cons, List.map_nil, sg_eq]
  rfl
theorem row_at {st : Store} {g g' : Gn} (L : List Cl) (x y z : Int) (hx : x ∈ ([0, 1, 2, 3] : List Int)) : subscr st (.d g (.str (rowX L y z))) (.d g' (.int x)) = some (.d .pur (.str (sg (decide ((x, y, z) ∈ L))))) := by
  simp only [List.mem_cons, List.not_mem_nil, or_false] at hx
  rcases hx with rfl | rfl | rfl | rfl <;> rw [sg_eq] <;> rfl
theorem row_lens {st : Store} {g : Gn} (L : List Cl) (y z : Int) : bLen st [.d g (.str (rowX L y z))] = some (.d .pur (.int 4)) := rfl
/-- what is found in the rows -/
def fndX (L : List Cl) (i : Int) : List Cl := if i % 5 = 4 then [] else (([0, 1, 2, 3] : List Int).filter fun x => decide ((x, i % 5, i / 5) ∈ L)).map fun x => (x, i % 5, i / 5)
theorem mem_fnd {L : List Cl} {i : Int} {c : Cl} (hr : ∀ c ∈ L, Room c) : c ∈ fndX L i ↔ c ∈ L ∧ i = 5 * c.2.2 + c.2.1 := by
  obtain ⟨x, y, z⟩ := c
  unfold fndX
  split
  · rename_i h
    constructor
    · intro q; cases q
    · rintro ⟨q, rfl⟩
      have := hr _ q
      simp only [Room, R3] at this h
      omega
  · rename_i h
    simp only [List.mem_map, List.mem_filter, decide_eq_true_eq, Prod.mk.injEq]
    constructor
    · rintro ⟨a, ⟨_, ha⟩, rfl, rfl, rfl⟩
      exact ⟨ha, by omega⟩
    · rintro ⟨q, rfl⟩
      have := hr _ q
      simp only [Room, R3] at this
      have e1 : (5 * z + y) % 5 = y := by omega
      have e2 : (5 * z + y) / 5 = z := by omega
      refine ⟨x, ⟨?_, by rw [e1, e2]; exact q⟩, rfl, e1, e2⟩
      simp only [List.mem_cons, List.not_mem_nil, or_false]
      omega
theorem nodup_fnd (L : List Cl) (i : Int) : (fndX L i).Nodup := by
  unfold fndX
  split
  · exact List.nodup_nil
  · refine List.Pairwise.map _ (fun a b h z => h ?_) (List.Pairwise.filter _ (show ([0, 1, 2, 3] : List Int).Nodup by decide))
    simpa using z
theorem len_fnd (L : List Cl) (i : Int) : (fndX L i).length ≤ 4 := by
  unfold fndX
  split
  · exact Nat.zero_le _
  · rw [List.length_map]
    exact List.length_filter_le _ _
theorem nodup_all {L : List Cl} (hr : ∀ c ∈ L, Room c) (m : Nat) : ((rng 0 m).flatMap (fndX L)).Nodup := by
  refine List.pairwise_flatMap.mpr ⟨fun i _ => nodup_fnd L i, ?_⟩
  have hn : (rng 0 m).Nodup := by
    unfold rng
    refine List.Pairwise.map _ (fun a b h z => h (by omega)) List.nodup_range
  refine hn.imp fun {i j} hij x hx y hy e => ?_
  subst e
  exact hij (((mem_fnd hr).mp hx).2.trans ((mem_fnd hr).mp hy).2.symm)
theorem mem_all {L : List Cl} (hr : ∀ c ∈ L, Room c) (c : Cl) : c ∈ (rng 0 (5 * nLay L - 1)).flatMap (fndX L) ↔ c ∈ L := by
  obtain ⟨_, _, _, _, _, _, h7⟩ := hi_bd hr
  rw [List.mem_flatMap]
  constructor
  · rintro ⟨i, _, h⟩
    exact ((mem_fnd hr).mp h).1
  · intro h
    have q := hr c h
    have q2 := h7 c h
    simp only [Room, R3] at q
    exact ⟨5 * c.2.2 + c.2.1, by rw [mem_rng]; omega, (mem_fnd hr).mpr ⟨h, rfl⟩⟩
theorem noLs_strs (R : List Str) : noLs (R.map PyData.str) = true := noLs_map _ _ fun _ => rfl
theorem add_strs {st : Store} {g g' : Gn} (R R' : List Str) (hg : g ≠ .scr) (hg' : g' ≠ .scr) (hl : R.length + R'.length ≤ 16777216) : binop st .add (.d g (.list (R.map .str))) (.d g' (.list (R'.map .str))) = some (.d .new (.list ((R ++ R').map .str))) := by
  rw [add_ll, if_pos ⟨⟨hg, hg'⟩, by rw [List.length_map, List.length_map]; exact hl⟩, List.map_map, List.map_map]
  have e : (el g ∘ PyData.str) = fun s => RV.d .pur (.str s) := funext fun s => el_str s
  have e' : (el g' ∘ PyData.str) = fun s => RV.d .pur (.str s) := funext fun s => el_str s
  rw [e, e', ← List.map_append]
  unfold mkLst
  rw [datas_map]
  simp only [Option.map_some]
  rw [lstG_no (noLs_strs _)]
theorem dash_cut {st : Store} {g : Gn} (n : Nat) (hn : n < 4) : slice st (.d g (.list [.str "-"])) none (some (n : Int)) = some (.d .new (.list ((if n = 0 then [] else [("-" : Str)]).map .str))) := by
  match n, hn with
  | 0, _ => rfl
  | 1, _ => rfl
  | 2, _ => rfl
  | 3, _ => rfl
  | n + 4, h => omega
theorem sF_pull {κ : DL.Env → Store → Out} {t : Tag κ} {o O : Out} (h : sF κ t o = O) : ∃ κ', κ' = κ ∧ sF κ' ⟨⟩ o = O := ⟨κ, rfl, h⟩
theorem exes_pull {C : Cfg} {φ φ2 : Phi} {s : S} {r : SL} {env : DL.Env} {st : Store} {O : Out} (h : exes C φ φ2 (.cons s r) env st = O) : ∃ κ, κ = (fun env' st' => exes C φ φ2 r env' st') ∧ sF κ ⟨⟩ (exe C φ φ2 s env st) = O := ⟨_, rfl, by rw [← h, exes]; rfl⟩
theorem turn_pull {C : Cfg} {φ φ2 : Phi} {i : Nat} {a : SL} {v : RV} {env : DL.Env} {st : Store} {O : Out} (h : frTurn C φ φ2 (.nm i) a v env st = O) : exes C φ φ2 a (env.set i (some v)) st = O := h
@[simp] theorem dot_0 {st : Store} {g g' : Gn} : subscr st (.d g (.str ".#")) (.d g' (.int 0)) = some (.d .pur (.str ".")) := rfl
@[simp] theorem dot_1 {st : Store} {g g' : Gn} : subscr st (.d g (.str ".#")) (.d g' (.int 1)) = some (.d .pur (.str "#")) := rfl
end DL

-- SA13
namespace K13
open PySem DL
@[simp] theorem glb4 : cfg.glb[4]? = some (.tuple [.str "#", .str "."]) := rfl
section
variable {k : Nat} {st : Store} {g g1 g2 g3 : Gn}
theorem room_cls {b : B} (h : Ok b) : ∀ c ∈ clsB b, Room c := fun c hc => room_inB b h c ((mem_clsB h c).mp hc)
theorem zs_nn {L : List Cl} (hr : ∀ c ∈ L, Room c) : ∀ y ∈ L.map (fun c => c.2.2), 0 ≤ y := fun y hy => by
  obtain ⟨c, hc, rfl⟩ := List.mem_map.mp hy
  have := hr c hc
  simp only [Room, R3] at this
  omega
theorem pick_hiC {L : List Cl} (hr : ∀ c ∈ L, Room c) (g : Gn) : pick PySem.W.maxD g (L.map fun c => .int c.2.2) (some (.d .pur (.int (-1)))) = some (.d .pur (.int (hiZ (L.map fun c => c.2.2)))) := by
  have := pick_hi (L.map fun c => c.2.2) (zs_nn hr) g
  rw [List.map_map] at this
  exact this
theorem written_ok (b : B) (hk : 8 + dep b ≤ k) (h : Ok b) (hs : siz b ≤ 20) : callF (Ph cfg prog k ix_written) [.d .pur (bD b)] st = .ok (.d .pur (.str (textX (clsB b) (nLay (clsB b))))) st := by
  rw [call0 rfl, Ph_run (by omega) (show _ = some fn_written from rfl) rfl]
  have e4 : rngRV 0 4 = ([0, 1, 2, 3] : List Int).map fun i => .d .pur (.int i) := rngRV_4
  have hr := room_cls h
  obtain ⟨k1, k2, k3, k4, k5, k6, k7⟩ := hi_bd hr
  have hp := pick_hiC hr
  generalize hL : clsB b = L at *
  have hkn := fun st => known_ok (st := st) b (show 7 + dep b ≤ k - 1 by omega) h hs
  simp only [hL] at hkn
  have m1 : hiZ (L.map fun c => c.2.2) + 1 < 1000000 := by omega
  have m2 : -1000000 < hiZ (L.map fun c => c.2.2) + 1 := by omega
  have m3 : (hiZ (L.map fun c => c.2.2) + 1).toNat = nLay L := rfl
  simp -dsimp [fn_written, ir_written, hkn]
  rw [lcL_map L _ (fun c => .d .pur (.int c.2.2)) _ _ _ _ (fun c hc => by simp -dsimp [lcTrn])]
  simp -dsimp [hp, m1, m2, m3, rngRV_rng]
  generalize hF : forL _ _ _ _ _ = F
  obtain ⟨env', st', rfl, x3, x4, x6, rfl, rfl⟩ := forL_rel hF (fun pre env st => ∃ (x3 x4 x6 : Option RV), env = [some (.d .pur (bD b)), some (.c 0), some (.c 1), x3, x4, none, x6] ∧ st = [dcS false L, .lst ((rowsX L pre.length).map fun s => .d .pur (.str s))]) ⟨_, _, _, rfl, rfl⟩ (by
    rintro pre z post env st epre ⟨x3, x4, x6, rfl, rfl⟩ O hO
    obtain ⟨hz, _, hlt⟩ := rng_pre epre
    obtain ⟨R, hR⟩ : ∃ R : List Str, R = rowsX L pre.length ++ (if pre.length = 0 then [] else [("-" : Str)]) := ⟨_, rfl⟩
    have hlen : (rowsX L pre.length).length ≤ 19 := by rw [rowsX_len]; omega
    have hlen1 : (rowsX L pre.length).length < 16777216 := by omega
    have hlen2 : R.length ≤ 20 := by
      rw [hR, List.length_append]
      split <;> simp <;> omega
    obtain ⟨κ, hκ, hO⟩ := exes_pull (turn_pull hO)
    have hO : κ [some (.d .pur (bD b)), some (.c 0), some (.c 1), some (.d .pur (.int z)), x4, none, x6] [dcS false L, .lst (R.map fun s => .d .pur (.str s))] = O := by
      by_cases q : pre.length = 0
      · have hz0 : z = 0 := by omega
        subst hz0
        rw [if_pos q, List.append_nil] at hR
        simp -dsimp at hO
        rw [hR]
        exact hO
      · have hz0 : 0 < z := by omega
        rw [if_neg q] at hR
        simp -dsimp [hz0, hlen1] at hO
        rw [hR, List.map_append]
        exact hO
    subst hκ
    simp -dsimp [e4, -rngRV_4, -List.map_cons, -List.map_nil] at hO
    generalize hF : forL _ _ _ _ _ = F at hO
    obtain ⟨env', st', rfl, y4, y6, rfl, rfl⟩ := forL_rel hF (fun pre2 env st => ∃ (y4 y6 : Option RV), env = [some (.d .pur (bD b)), some (.c 0), some (.c 1), some (.d .pur (.int z)), y4, none, y6] ∧ st = [dcS false L, .lst ((R ++ pre2.map fun y => rowX L y z).map fun s => .d .pur (.str s))]) ⟨_, _, rfl, by simp⟩ (by
      rintro pre2 y post2 env st epre2 ⟨y4, y6, rfl, rfl⟩ O hO
      have hl2 : (R ++ pre2.map fun y => rowX L y z).length < 16777216 := by
        have := congrArg List.length epre2
        simp at this
        simp
        omega
      simp -dsimp [frTurn, e4, -rngRV_4, -List.map_cons, -List.map_nil, -List.map_append] at hO
      rw [lcL_map ([0, 1, 2, 3] : List Int) _ (fun x => .d .pur (.str (sg (decide ((x, y, z) ∈ L))))) _ _ _ _ (fun x _ => by
        by_cases q : (x, y, z) ∈ L <;> simp -dsimp [lcTrn, q, sg])] at hO
      have e5 := fun st g => join_row (st := st) (g := g) L y z
      simp -dsimp [e5, hl2, -m_join, -List.map_cons, -List.map_nil, -List.map_append, -List.length_append] at hO
      subst hO
      exact ⟨_, _, rfl, _, _, rfl, by rw [List.map_append (l₁ := pre2), ← List.append_assoc, List.map_append (l₂ := [y].map _)]; rfl⟩)
    simp -dsimp [-List.map_cons, -List.map_nil, -List.map_append] at hO
    subst hO
    refine ⟨_, _, rfl, _, _, _, rfl, ?_⟩
    rw [List.length_append, List.length_singleton, rowsX_succ, ← hR, ← hz]
    rfl)
  have hfit := rows_fit L (nLay L) k4
  have e6 := fun n st hn => join_cell (st := st) (n := n) "\n" (rowsX L (nLay L)) hn (by omega)
  have e7 := e6 1 [dcS false L, .lst ((rowsX L (nLay L)).map fun s => .d .pur (.str s))] rfl
  simp -dsimp [e7, textX, -m_join]
end
end K13

-- SB13
namespace K13
open PySem DL
theorem dot_hash : (("." : Str) = "#") = False := eq_false (by decide +kernel)
section
variable {k : Nat} {st : Store} {g g1 g2 g3 : Gn}
theorem is_row_ok (hk : 1 ≤ k) (L : List Cl) (y z : Int) : callF (Ph cfg prog k ix_is_row) [.d g (.str (rowX L y z))] st = .ok (.d .pur (.bool true)) st := by
  rw [call0 rfl, Ph_run hk (show _ = some fn_is_row from rfl) rfl]
  have e1 := fun st g => row_src (st := st) (g := g) L y z
  have e2 := fun st g => row_lens (st := st) (g := g) L y z
  simp -dsimp [fn_is_row, ir_is_row, e1, e2, -List.map_cons, -List.map_nil]
  rw [lcL_no ([0, 1, 2, 3] : List Int) _ _ _ _ _ (fun x _ => by
    cases decide ((x, y, z) ∈ L) <;> simp -dsimp [lcTrn, sg])]
  simp -dsimp
theorem read_ok (b : B) (hk : 3 ≤ k) (h : Ok b) : callF (Ph cfg prog k ix_read) [.d g (.str (textX (clsB b) (nLay (clsB b))))] st = .ok (.d .pur (bD (.cel (clsB b)))) st := by
  rw [call0 rfl, Ph_run (by omega) (show _ = some fn_read from rfl) rfl]
  have hr := room_cls h
  obtain ⟨k1, k2, k3, k4, k5, k6, k7⟩ := hi_bd hr
  have hnd := nodup_all hr (5 * nLay (clsB b) - 1)
  have hmem := mem_all hr
  have hso := sortD_cells _ hnd (fun c hc => hr c ((hmem c).mp hc)) (inB b) fun c hc => by rw [hmem c, mem_clsB h]
  generalize hL : clsB b = L at *
  generalize hO : exes _ _ _ _ _ _ = O
  simp -dsimp only [fn_read, ir_read] at hO
  obtain ⟨κ, hκ, hO⟩ := exes_pull hO
  have hO : κ [some (.d g.down (.str (textX L (nLay L)))), some (.d .new (.list ((rowsX L (nLay L)).map .str))), none, none, none, none, none, none, none, none] [] = O := by
    by_cases q : L = []
    · rw [k5 q, text_0] at hO
      rw [k5 q, text_0, rowsX_0]
      simp -dsimp at hO
      exact hO
    · obtain ⟨k6, _⟩ := k6 q
      have t1 := text_ne L (nLay L) k6
      have t2 := split_text L (nLay L) k6
      have t3 := text_len L (nLay L) k4
      have t4 := rows_ok L (nLay L)
      have t5 : (textX L (nLay L)).length + 2 ≤ 16777216 := by omega
      have t6 := len_nl
      simp -dsimp [t1, t2, t4, t5, t6] at hO
      exact hO
  subst hκ
  obtain ⟨m, hm⟩ : ∃ m, m = 5 * nLay L - 1 := ⟨_, rfl⟩
  have erow : (rowsX L (nLay L)).map PyData.str = (rng 0 m).map fun i => .str (rowAt L i) := by
    unfold rowsX
    rw [List.map_map, hm]
    rfl
  have hen := fun st g => enum_rows st g m (rowAt L)
  have e4 : rngRV 0 4 = ([0, 1, 2, 3] : List Int).map fun i => .d .pur (.int i) := rngRV_4
  rw [erow] at hO
  simp -dsimp [hen] at hO
  generalize hF : forL _ _ _ _ _ = F at hO
  obtain ⟨env', st', rfl, x4, x5, x6, x7, P, hP, rfl, rfl⟩ := forL_rel hF (fun pre env st => ∃ (x4 x5 x6 x7 : Option RV) (P : List Cl), P = pre.flatMap (fndX L) ∧ env = [some (.d g.down (.str (textX L (nLay L)))), some (.d .new (.list ((rng 0 m).map fun i => .str (rowAt L i)))), some (.c 0), none, x4, x5, x6, x7, none, none] ∧ st = [.lst (P.map fun c => .d .pur (cD c))]) ⟨_, _, _, _, [], rfl, rfl, rfl⟩ (by
    rintro pre i post env st epre ⟨x4, x5, x6, x7, P, hP, rfl, rfl⟩ O hO
    obtain ⟨hi, _, hlt⟩ := rng_pre epre
    have hPl : P.length ≤ 80 := by
      have := len_flatMap_le pre (fndX L) 4 fun x _ => len_fnd L x
      rw [← hP] at this
      omega
    have q1 : ¬ 19 ≤ i / 5 * 5 + i % 5 := by omega
    by_cases h4 : i % 5 = 4
    · have r1 : rowAt L i = "-" := if_pos h4
      have r2 : fndX L i = [] := if_pos h4
      have q3 : ¬ 19 ≤ i / 5 * 5 + 4 := by omega
      simp -dsimp [frTurn, r1, q3, h4] at hO
      subst hO
      exact ⟨_, _, rfl, _, _, _, _, P, by rw [List.flatMap_append, List.flatMap_singleton, r2, List.append_nil, hP], rfl, rfl⟩
    · have r1 : rowAt L i = rowX L (i % 5) (i / 5) := if_neg h4
      have h5 : i % 5 < 4 := by omega
      have hrow := fun st g => is_row_ok (k := k - 1) (st := st) (g := g) (by omega) L (i % 5) (i / 5)
      simp -dsimp [frTurn, r1, q1, h4, h5, hrow, e4, -rngRV_4, -List.map_cons, -List.map_nil] at hO
      rw [lcL_fil ([0, 1, 2, 3] : List Int) _ (fun x => decide ((x, i % 5, i / 5) ∈ L)) (fun x => .d .pur (cD (x, i % 5, i / 5))) _ _ _ _ (fun x hx => by
        have e5 := fun st g g' => row_at (st := st) (g := g) (g' := g') L x (i % 5) (i / 5) hx
        by_cases q : (x, i % 5, i / 5) ∈ L <;> simp -dsimp [lcTrn, e5, q, sg, dot_hash])] at hO
      have r2 : fndX L i = (([0, 1, 2, 3] : List Int).filter fun x => decide ((x, i % 5, i / 5) ∈ L)).map fun x => (x, i % 5, i / 5) := if_neg h4
      have r3 : (([0, 1, 2, 3] : List Int).filter fun x => decide ((x, i % 5, i / 5) ∈ L)).length ≤ 4 := List.length_filter_le _ _
      have r4 : P.length + (([0, 1, 2, 3] : List Int).filter fun x => decide ((x, i % 5, i / 5) ∈ L)).length ≤ 16777216 := by omega
      generalize (([0, 1, 2, 3] : List Int).filter fun x => decide ((x, i % 5, i / 5) ∈ L)) = M at *
      simp -dsimp [r4, Function.comp_def, noLs_map] at hO
      subst hO
      refine ⟨_, _, rfl, _, _, _, _, P ++ fndX L i, by rw [List.flatMap_append, List.flatMap_singleton, hP], rfl, ?_⟩
      rw [r2]
      simp [Function.comp_def])
  rw [← hm] at hnd hmem hso
  rw [← hP] at hnd hmem hso
  have hLf : (room.filter (inB b)).map cD = L.map cD := by rw [← hL]; rfl
  rw [hLf] at hso
  have q1 : ¬ (0 < m ∧ ¬ (m : Int) % 5 = 4) := by omega
  simp -dsimp [q1] at hO
  by_cases q : L = []
  · have hm0 : m = 0 := by have := k5 q; omega
    have hP0 : P = [] := by rw [hP, hm0]; rfl
    subst hm0 hP0
    have w1 : sortD [] = [] := by unfold sortD; exact List.mergeSort_nil
    have w2 : sortable [] = true := rfl
    have w3 : ∀ r st, andG false r st = .ok false st := fun _ _ => Eq.trans rfl rfl
    simp -dsimp [w1, w2, w3] at hO
    subst hO
    simp -dsimp [q, bD]
  · obtain ⟨n1, c, hc, hcz⟩ := k6 q
    have q2 : 1 ≤ ((m : Int) + 1) / 5 := by omega
    have hcz : c.2.2 = ((m : Int) + 1) / 5 - 1 := by omega
    have q4 : P.filter (fun c => decide (c.2.2 = ((m : Int) + 1) / 5 - 1)) ≠ [] := fun e => by
      have : c ∈ P.filter (fun c => decide (c.2.2 = ((m : Int) + 1) / 5 - 1)) := List.mem_filter.mpr ⟨(hmem c).mpr hc, by simpa using hcz⟩
      rw [e] at this
      cases this
    have q5 := fun st g g' => eq_cells (st := st) (g := g) (g' := g') (P.filter fun c => decide (c.2.2 = ((m : Int) + 1) / 5 - 1)) []
    simp only [List.map_nil] at q5
    simp -dsimp [q2] at hO
    rw [show P.length = (P.map fun c => RV.d .pur (cD c)).length from (List.length_map ..).symm, lcS_cell rfl (fun x hx => by
      obtain ⟨c, _, rfl⟩ := List.mem_map.mp hx
      by_cases q : c.2.2 = ((m : Int) + 1) / 5 - 1 <;> simp -dsimp [lcTrn, q])] at hO
    rw [lcL_fil P _ (fun c => decide (c.2.2 = ((m : Int) + 1) / 5 - 1)) (fun c => .d .pur (cD c)) _ _ _ _ (fun c _ => by
      by_cases q : c.2.2 = ((m : Int) + 1) / 5 - 1 <;> simp -dsimp [lcTrn, q])] at hO
    simp -dsimp [q4, q5, sortable_cells, hso] at hO
    subst hO
    simp -dsimp [bD]
end
end K13

-- SC13
namespace K13
open PySem DL
section
variable {k : Nat} {st : Store} {g g1 g2 g3 : Gn}
theorem l_text_ok (b : B) (hk : 1 ≤ k) (h : Ok b) : callF (Ph cfg prog k ix_l_text) [.d g (.list ((clsB b).map cD))] st = .ok (.d .pur (.str (textX (clsB b) (nLay (clsB b))))) st := by
  rw [call0 rfl, Ph_run (by omega) (show _ = some fn_l_text from rfl) rfl]
  have e4 : rngRV 0 4 = ([0, 1, 2, 3] : List Int).map fun i => .d .pur (.int i) := rngRV_4
  have hr := room_cls h
  obtain ⟨k1, k2, k3, k4, k5, k6, k7⟩ := hi_bd hr
  have hp := pick_hiC hr
  generalize hL : clsB b = L at *
  have m1 : hiZ (L.map fun c => c.2.2) + 1 < 1000000 := by omega
  have m2 : -1000000 < hiZ (L.map fun c => c.2.2) + 1 := by omega
  have m3 : (hiZ (L.map fun c => c.2.2) + 1).toNat = nLay L := rfl
  simp -dsimp [fn_l_text, ir_l_text]
  rw [lcL_map L _ (fun c => .d .pur (.int c.2.2)) _ _ _ _ (fun c hc => by simp -dsimp [lcTrn])]
  simp -dsimp [hp, m1, m2, m3, rngRV_rng]
  generalize hF : forL _ _ _ _ _ = F
  obtain ⟨env', st', rfl, x2, R, hR, rfl, rfl⟩ := forL_rel hF (fun pre env st => ∃ (x2 : Option RV) (R : List Str), R = rowsX L pre.length ∧ env = [some (.d g.down (.list (L.map cD))), some (.d .new (.list (R.map .str))), x2, none, none, none] ∧ st = []) ⟨_, [], rfl, rfl, rfl⟩ (by
    rintro pre z post env st epre ⟨x2, R, hR, rfl, rfl⟩ O hO
    obtain ⟨hz, _, hlt⟩ := rng_pre epre
    have hlen : R.length ≤ 19 := by rw [hR, rowsX_len]; omega
    obtain ⟨D, hD⟩ : ∃ D : List Str, D = if pre.length = 0 then [] else [("-" : Str)] := ⟨_, rfl⟩
    have hDl : D.length ≤ 1 := by rw [hD]; split <;> simp
    have hsl := fun st g => dash_cut (st := st) (g := g) pre.length (by omega)
    rw [← hD, ← hz] at hsl
    have ha1 := fun st => add_strs (st := st) (g := .new) (g' := .new) R D (by decide) (by decide) (by omega)
    have ha2 := fun st => add_strs (st := st) (g := .new) (g' := .new) (R ++ D) (([0, 1, 2, 3] : List Int).map fun y => rowX L y z) (by decide) (by decide) (by simp; omega)
    simp -dsimp [frTurn, hsl, ha1, e4, -add_ll, -rngRV_4, -List.map_cons, -List.map_nil, -List.map_append] at hO
    rw [lcL_map ([0, 1, 2, 3] : List Int) _ (fun y => .d .pur (.str (rowX L y z))) _ _ _ _ (fun y _ => by
      have e5 := fun st g => join_row (st := st) (g := g) L y z
      simp -dsimp [lcTrn, e4, -rngRV_4, -List.map_cons, -List.map_nil]
      rw [lcL_map ([0, 1, 2, 3] : List Int) _ (fun x => .d .pur (.str (sg (decide ((x, y, z) ∈ L))))) _ _ _ _ (fun x _ => by
        by_cases q : (x, y, z) ∈ L <;> simp -dsimp [lcTrn, q, sg])]
      simp -dsimp [e5, -m_join, -List.map_cons, -List.map_nil])] at hO
    have e8 : noLs (([0, 1, 2, 3] : List Int).map fun y => .str (rowX L y z)) = true := noLs_map _ _ fun _ => rfl
    rw [show (([0, 1, 2, 3] : List Int).map fun y => rowX L y z) = layX L z from rfl] at ha2
    have e9 : (([0, 1, 2, 3] : List Int).map fun y => PyData.str (rowX L y z)) = (layX L z).map .str := by unfold layX; rw [List.map_map]; rfl
    simp -dsimp [lstG_no e8, -add_ll, -List.map_cons, -List.map_nil, -List.map_append] at hO
    rw [← e9] at ha2
    simp -dsimp [ha2, -add_ll, -List.map_cons, -List.map_nil, -List.map_append] at hO
    subst hO
    refine ⟨_, _, rfl, _, R ++ (D ++ layX L z), ?_, rfl, rfl⟩
    rw [List.length_append, List.length_singleton, rowsX_succ, ← List.append_assoc, hR, hD, hz])
  have hfit := rows_fit L (nLay L) k4
  have e6 := fun st g => join_list (st := st) (g := g) "\n" (rowsX L (nLay L)) (by omega)
  rw [len_rng] at hR
  subst hR
  simp -dsimp [e6, textX, -m_join]
end
/-- the cells of a body, told as such -/
theorem ok_cel {b : B} (h : Ok b) : Ok (.cel (clsB b)) := by
  have hr : ∀ c ∈ clsB b, Room c := room_cls h
  have rise : Rise (clsB b) := rise_filter rise_room _
  obtain ⟨M, e1, e2, _, _, e5⟩ := sortC_ok (clsB b) hr
  have e : M = clsB b := rise_ext e5 rise e2
  refine ⟨hr, ?_, ?_⟩
  · have := len_sub (M := room) (nodup_clsB b) fun x hx => (mem_room x).mpr (hr x hx)
    exact this
  · rw [e] at e1
    exact e1
theorem cls_cel {b : B} (h : Ok b) : clsB (.cel (clsB b)) = clsB b := by
  refine List.filter_congr fun c hc => ?_
  show decide (c ∈ clsB b) = _
  rw [Bool.eq_iff_iff, decide_eq_true_eq]
  exact mem_clsB h c
theorem plain (ns : List Int) (hn : ns.length ≤ 63) (hb : ∀ z ∈ ns, Builtin.Int.intBits z ≤ 1048576) : ∃ st, runFn cfg (Ph cfg prog 97) (Ph cfg prog 95) fn_law [.d .scr (.list (ns.map .int))] [] = .ok (rvB true) st := by
  generalize hR : runFn cfg (Ph cfg prog 97) (Ph cfg prog 95) fn_law _ _ = R
  rw [run_eq rfl] at hR
  obtain ⟨s, hm⟩ := mix_ok (k := 97) (by omega) ns 43
  have e4 : rngRV 0 4 = ([0, 1, 2, 3] : List Int).map fun i => .d .pur (.int i) := rngRV_4
  simp -dsimp [fn_law, ir_law, hm, e4, -rngRV_4, -List.map_cons, -List.map_nil] at hR
  generalize hF : forL _ _ _ _ _ = F at hR
  obtain ⟨env', st', rfl, x0, x2, x3, x4, x5, x6, s', rfl, rfl⟩ := forL_rel hF (fun pre env st => ∃ (x0 x2 x3 x4 x5 x6 : Option RV) (s' : HSt), env = [x0, some (.c 1), x2, x3, x4, x5, x6] ∧ st = [h1 s', hL s']) ⟨_, _, _, _, _, _, s, rfl, rfl⟩ (by
    rintro pre t post env st epre ⟨x0, x2, x3, x4, x5, x6, s', rfl, rfl⟩ O hO
    obtain ⟨v, s1, v1, v2, n1⟩ := next_exL (k := 97) (by omega) s' 4 (by omega) (by omega)
    obtain ⟨b, s2, b1, b2, b3, b4⟩ : ∃ b s2, Ok b ∧ dep b ≤ 4 ∧ siz b < 32 ∧ ∀ more, callF (Ph cfg prog 97 ix_l_body) [.c 1, .d .pur (.int (1 + v))] (h1 s1 :: hL s1 :: more) = .ok (.d .pur (bD b)) (h1 s2 :: hL s2 :: more) := by
      have : v = 0 ∨ v = 1 ∨ v = 2 ∨ v = 3 := by omega
      rcases this with rfl | rfl | rfl | rfl
      · obtain ⟨b, s2, q1, q2, q3, q4⟩ := body_L (k := 97) 1 (by omega) s1
        exact ⟨b, s2, q1, by omega, by omega, q4⟩
      · obtain ⟨b, s2, q1, q2, q3, q4⟩ := body_L (k := 97) 2 (by omega) s1
        exact ⟨b, s2, q1, by omega, by omega, q4⟩
      · obtain ⟨b, s2, q1, q2, q3, q4⟩ := body_L (k := 97) 3 (by omega) s1
        exact ⟨b, s2, q1, by omega, by omega, q4⟩
      · obtain ⟨b, s2, q1, q2, q3, q4⟩ := body_L (k := 97) 4 (by omega) s1
        exact ⟨b, s2, q1, by omega, by omega, q4⟩
    have hc := fun st g => l_counted_ok b 97 st g (by omega) b1
    have hall := fun st g => l_all_ok (k := 97) (st := st) (g := g) b (by omega)
    simp -dsimp [frTurn, n1, b4, hall] at hO
    obtain ⟨κ, hκ, hO⟩ := sF_pull hO
    simp -dsimp [hc] at hO
    -- at most twenty
    obtain ⟨a, a1, a2, a3, hO⟩ : ∃ a, Ok a ∧ siz a ≤ 20 ∧ clsB a = clsB b ∧ κ [x0, some (.c 1), some (.d .pur (.int t)), some (.d .pur (bD a)), some (.d .new (.list ((clsB b).map cD))), x5, x6] [h1 s2, hL s2] = O := by
      by_cases q : (20 : Int) < siz b
      · rw [if_pos q] at hO
        exact ⟨.cel (clsB b), ok_cel b1, by simp only [siz]; omega, cls_cel b1, by simpa [bD] using hO⟩
      · rw [if_neg q] at hO
        exact ⟨b, b1, by omega, rfl, hO⟩
    subst hκ
    have hd := dep_siz a
    have q1 := fun st g => l_text_ok (k := 97) (st := st) (g := g) b (by omega) b1
    have q2 := fun st g => read_ok (k := 97) (st := st) (g := g) b (by omega) b1
    have q3 := fun st => written_ok (k := 97) (st := st) a (by omega) a1 a2
    have o1 := ok_cel b1
    have q4 := fun st => written_ok (k := 97) (st := st) (.cel (clsB b)) (by simp only [dep]; omega) o1 (by simp only [siz]; omega)
    have q5 := fun st => cells_ok (k := 97) (st := st) (.cel (clsB b)) (by simp only [dep]; omega) o1 (by simp only [siz]; omega)
    rw [cls_cel b1] at q4 q5
    rw [a3] at q3
    generalize textX (clsB b) (nLay (clsB b)) = tx at *
    have hlen : (clsB b).length ≤ 64 := by
      have := len_sub (M := room) (nodup_clsB b) fun x hx => (mem_room x).mpr (room_cls b1 x hx)
      exact this
    have gc : gd (bD (.cel (clsB b))) = true := by
      have := gd_cells (clsB b) (by omega)
      rw [gd, Bool.and_eq_true] at this
      have h1 := this.1
      have h2 := this.2
      rw [bD]
      simp only [gd, gds, h2, Bool.and_true, Bool.and_eq_true, List.length_cons, List.length_nil]
      exact ⟨by simp, trivial, h1⟩
    have dc : (bD (.cel (clsB b))).depth ≤ 60 := by
      have := depthAll_cells (clsB b)
      rw [bD]
      simp only [PyData.depth, PyData.depthAll]
      omega
    have q6 := fun st g g1 => alike_ok (.str tx) 97 st g g1 rfl (by simp [PyData.depth])
    have q7 := fun st g g1 => alike_ok (bD (.cel (clsB b))) 97 st g g1 gc (by omega)
    have q8 := fun st g g' => eq_cells (st := st) (g := g) (g' := g') (clsB b) (clsB b)
    have e9 : PyData.tuple [.str "cells", .tuple ((clsB b).map cD)] = bD (.cel (clsB b)) := by rw [bD]
    simp -dsimp [q1, q2, q3, q4, q5, q6, e9, q7, q8] at hO
    subst hO
    exact ⟨_, _, rfl, _, _, _, _, _, _, s2, rfl, rfl⟩)
  simp -dsimp at hR
  subst hR
  exact ⟨_, rfl⟩
end K13

-- LK13
namespace K13
open PySem DL L2
abbrev top (i : Nat) : Stmt := PySem.Challenge.pw_layerprint_k13_whole_written_and_read.main.body.getD i (.Pass ⟨0, 0, 0, 0⟩)
def d_are_numbers : Df := ⟨"are_numbers", ["thing", "least", "most", "number"], top 10⟩
def d_is_cell : Df := ⟨"is_cell", ["thing"], top 11⟩
def d_are_cells : Df := ⟨"are_cells", ["thing", "one"], top 12⟩
def d_inner_of : Df := ⟨"inner_of", ["body", "word"], top 13⟩
def d_is_body : Df := ⟨"is_body", ["body", "left", "many", "inner"], top 14⟩
def d_turned_cell : Df := ⟨"turned_cell", ["edge", "cell", "x", "y", "z"], top 15⟩
def d_within : Df := ⟨"within", ["some", "cell"], top 16⟩
def d_block_cells : Df := ⟨"block_cells", ["cell", "size", "found", "x", "y", "z"], top 17⟩
def d_all_cells : Df := ⟨"all_cells", ["body", "word", "found", "far", "cell", "one", "other", "x", "y", "z"], top 18⟩
def d_known_cells : Df := ⟨"known_cells", ["body", "cell"], top 19⟩
def d_cells : Df := ⟨"cells", ["body"], top 20⟩
def d_written : Df := ⟨"written", ["body", "some", "rows", "z", "y", "cell", "x"], top 23⟩
def d_is_row : Df := ⟨"is_row", ["row", "sign"], top 24⟩
def d_read : Df := ⟨"read", ["text", "rows", "found", "high", "number", "row", "z", "y", "cell", "x"], top 25⟩
def d_l_mix : Df := ⟨"_law_mix", ["_law_script", "_law_seed", "_law_mixed", "_law_cell"], top 27⟩
def d_l_next : Df := ⟨"_law_next", ["_law_h", "_law_many", "_law_at", "_law_cell"], top 28⟩
def d_l_alike : Df := ⟨"_law_alike", ["_law_found", "_law_due", "_law_k"], top 29⟩
def d_l_inside : Df := ⟨"_law_inside", ["_law_body_here", "_law_cell", "_law_word", "_law_one", "_law_other", "_law_x", "_law_y", "_law_z", "_law_far", "_law_back", "_law_low", "_law_size", "_law_k"], top 30⟩
def d_l_all : Df := ⟨"_law_all", ["_law_body_here", "_law_room", "_law_k", "_law_cell"], top 31⟩
def d_l_body : Df := ⟨"_law_body", ["_law_h", "_law_deep", "_law_way", "_law_one", "_law_some", "_law_far", "_law_k", "_law_cell", "_law_word", "_law_low", "_law_high", "_law_number"], top 32⟩
def d_l_whole : Df := ⟨"_law_whole", ["_law_thing", "_law_least", "_law_most"], top 33⟩
def d_l_numbers : Df := ⟨"_law_numbers", ["_law_thing", "_law_least", "_law_most", "_law_one"], top 34⟩
def d_l_counted : Df := ⟨"_law_counted", ["_law_body_here", "_law_word", "_law_cell"], top 35⟩
def d_l_text : Df := ⟨"_law_text", ["_law_some", "_law_rows", "_law_z", "_law_y", "_law_cell", "_law_x"], top 36⟩
def d_law : Df := ⟨"law", ["_law_script", "_law_h", "_law_turn", "_law_body_here", "_law_some", "_law_text_here", "_law_other"], top 37⟩
def defs : List Df := [d_are_numbers, d_is_cell, d_are_cells, d_inner_of, d_is_body, d_turned_cell, d_within, d_block_cells, d_all_cells, d_known_cells, d_cells, d_written, d_is_row, d_read, d_l_mix, d_l_next, d_l_alike, d_l_inside, d_l_all, d_l_body, d_l_whole, d_l_numbers, d_l_counted, d_l_text]
def gls : List Str := ["SIDE", "MOST_BODIES", "OF_TWO", "EDGES", "SIGNS"]
abbrev exns : List Str := ["NoBody", "Outside"]
theorem chk : chAll (fnsOf defs prog) gls exns false defs prog = true := by decide +kernel
theorem chkL : chDf (fnsOf defs prog) gls exns false true d_law fn_law = true := by decide +kernel
set_option maxHeartbeats 0 in
theorem mkDefs {K : PySem.W.Frag} {h : Heap} {mg : Str → Option Value} (X : K.In h) (G : h.Ns mainGlobals mg) {f0 f1 f2 f3 f4 f5 f6 f7 f8 f9 f10 f11 f12 f13 f14 f15 f16 f17 f18 f19 f20 f21 f22 f23 : Addr} {oc0 kV0 dc0 pm0 cd0 ct0 oc1 kV1 dc1 pm1 cd1 ct1 oc2 kV2 dc2 pm2 cd2 ct2 oc3 kV3 dc3 pm3 cd3 ct3 oc4 kV4 dc4 pm4 cd4 ct4 oc5 kV5 dc5 pm5 cd5 ct5 oc6 kV6 dc6 pm6 cd6 ct6 oc7 kV7 dc7 pm7 cd7 ct7 oc8 kV8 dc8 pm8 cd8 ct8 oc9 kV9 dc9 pm9 cd9 ct9 oc10 kV10 dc10 pm10 cd10 ct10 oc11 kV11 dc11 pm11 cd11 ct11 oc12 kV12 dc12 pm12 cd12 ct12 oc13 kV13 dc13 pm13 cd13 ct13 oc14 kV14 dc14 pm14 cd14 ct14 oc15 kV15 dc15 pm15 cd15 ct15 oc16 kV16 dc16 pm16 cd16 ct16 oc17 kV17 dc17 pm17 cd17 ct17 oc18 kV18 dc18 pm18 cd18 ct18 oc19 kV19 dc19 pm19 cd19 ct19 oc20 kV20 dc20 pm20 cd20 ct20 oc21 kV21 dc21 pm21 cd21 ct21 oc22 kV22 dc22 pm22 cd22 ct22 oc23 kV23 dc23 pm23 cd23 ct23 : Value} {od0 an0 od1 an1 od2 an2 od3 an3 od4 an4 od5 an5 od6 an6 od7 an7 od8 an8 od9 an9 od10 an10 od11 an11 od12 an12 od13 an13 od14 an14 od15 an15 od16 an16 od17 an17 od18 an18 od19 an19 od20 an20 od21 an21 od22 an22 od23 an23 : Option Addr} {sl0 sl1 sl2 sl3 sl4 sl5 sl6 sl7 sl8 sl9 sl10 sl11 sl12 sl13 sl14 sl15 sl16 sl17 sl18 sl19 sl20 sl21 sl22 sl23 : Array (Option Value)}
    (a0 : PySem.W.nsIn K mainGlobals "are_numbers" = some (some (.ref f0))) (l0 : K.lookup f0 = some ⟨oc0, od0, .func (PySem.W.fnOf "are_numbers" "are_numbers" (C8.fnArgs (top 10)) (C8.fnBody (top 10)) (C8.fnScope (top 10)) .none kV0 dc0 pm0 an0 cd0 ct0), sl0⟩) (c0 : PySem.W.codeIn K cd0 "are_numbers" = true) (k0 : PySem.W.keepIn K (.ref f0) = true)
    (a1 : PySem.W.nsIn K mainGlobals "is_cell" = some (some (.ref f1))) (l1 : K.lookup f1 = some ⟨oc1, od1, .func (PySem.W.fnOf "is_cell" "is_cell" (C8.fnArgs (top 11)) (C8.fnBody (top 11)) (C8.fnScope (top 11)) .none kV1 dc1 pm1 an1 cd1 ct1), sl1⟩) (c1 : PySem.W.codeIn K cd1 "is_cell" = true) (k1 : PySem.W.keepIn K (.ref f1) = true)
    (a2 : PySem.W.nsIn K mainGlobals "are_cells" = some (some (.ref f2))) (l2 : K.lookup f2 = some ⟨oc2, od2, .func (PySem.W.fnOf "are_cells" "are_cells" (C8.fnArgs (top 12)) (C8.fnBody (top 12)) (C8.fnScope (top 12)) .none kV2 dc2 pm2 an2 cd2 ct2), sl2⟩) (c2 : PySem.W.codeIn K cd2 "are_cells" = true) (k2 : PySem.W.keepIn K (.ref f2) = true)
    (a3 : PySem.W.nsIn K mainGlobals "inner_of" = some (some (.ref f3))) (l3 : K.lookup f3 = some ⟨oc3, od3, .func (PySem.W.fnOf "inner_of" "inner_of" (C8.fnArgs (top 13)) (C8.fnBody (top 13)) (C8.fnScope (top 13)) .none kV3 dc3 pm3 an3 cd3 ct3), sl3⟩) (c3 : PySem.W.codeIn K cd3 "inner_of" = true) (k3 : PySem.W.keepIn K (.ref f3) = true)
    (a4 : PySem.W.nsIn K mainGlobals "is_body" = some (some (.ref f4))) (l4 : K.lookup f4 = some ⟨oc4, od4, .func (PySem.W.fnOf "is_body" "is_body" (C8.fnArgs (top 14)) (C8.fnBody (top 14)) (C8.fnScope (top 14)) .none kV4 dc4 pm4 an4 cd4 ct4), sl4⟩) (c4 : PySem.W.codeIn K cd4 "is_body" = true) (k4 : PySem.W.keepIn K (.ref f4) = true)
    (a5 : PySem.W.nsIn K mainGlobals "turned_cell" = some (some (.ref f5))) (l5 : K.lookup f5 = some ⟨oc5, od5, .func (PySem.W.fnOf "turned_cell" "turned_cell" (C8.fnArgs (top 15)) (C8.fnBody (top 15)) (C8.fnScope (top 15)) .none kV5 dc5 pm5 an5 cd5 ct5), sl5⟩) (c5 : PySem.W.codeIn K cd5 "turned_cell" = true) (k5 : PySem.W.keepIn K (.ref f5) = true)
    (a6 : PySem.W.nsIn K mainGlobals "within" = some (some (.ref f6))) (l6 : K.lookup f6 = some ⟨oc6, od6, .func (PySem.W.fnOf "within" "within" (C8.fnArgs (top 16)) (C8.fnBody (top 16)) (C8.fnScope (top 16)) .none kV6 dc6 pm6 an6 cd6 ct6), sl6⟩) (c6 : PySem.W.codeIn K cd6 "within" = true) (k6 : PySem.W.keepIn K (.ref f6) = true)
    (a7 : PySem.W.nsIn K mainGlobals "block_cells" = some (some (.ref f7))) (l7 : K.lookup f7 = some ⟨oc7, od7, .func (PySem.W.fnOf "block_cells" "block_cells" (C8.fnArgs (top 17)) (C8.fnBody (top 17)) (C8.fnScope (top 17)) .none kV7 dc7 pm7 an7 cd7 ct7), sl7⟩) (c7 : PySem.W.codeIn K cd7 "block_cells" = true) (k7 : PySem.W.keepIn K (.ref f7) = true)
    (a8 : PySem.W.nsIn K mainGlobals "all_cells" = some (some (.ref f8))) (l8 : K.lookup f8 = some ⟨oc8, od8, .func (PySem.W.fnOf "all_cells" "all_cells" (C8.fnArgs (top 18)) (C8.fnBody (top 18)) (C8.fnScope (top 18)) .none kV8 dc8 pm8 an8 cd8 ct8), sl8⟩) (c8 : PySem.W.codeIn K cd8 "all_cells" = true) (k8 : PySem.W.keepIn K (.ref f8) = true)
    (a9 : PySem.W.nsIn K mainGlobals "known_cells" = some (some (.ref f9))) (l9 : K.lookup f9 = some ⟨oc9, od9, .func (PySem.W.fnOf "known_cells" "known_cells" (C8.fnArgs (top 19)) (C8.fnBody (top 19)) (C8.fnScope (top 19)) .none kV9 dc9 pm9 an9 cd9 ct9), sl9⟩) (c9 : PySem.W.codeIn K cd9 "known_cells" = true) (k9 : PySem.W.keepIn K (.ref f9) = true)
    (a10 : PySem.W.nsIn K mainGlobals "cells" = some (some (.ref f10))) (l10 : K.lookup f10 = some ⟨oc10, od10, .func (PySem.W.fnOf "cells" "cells" (C8.fnArgs (top 20)) (C8.fnBody (top 20)) (C8.fnScope (top 20)) .none kV10 dc10 pm10 an10 cd10 ct10), sl10⟩) (c10 : PySem.W.codeIn K cd10 "cells" = true) (k10 : PySem.W.keepIn K (.ref f10) = true)
    (a11 : PySem.W.nsIn K mainGlobals "written" = some (some (.ref f11))) (l11 : K.lookup f11 = some ⟨oc11, od11, .func (PySem.W.fnOf "written" "written" (C8.fnArgs (top 23)) (C8.fnBody (top 23)) (C8.fnScope (top 23)) .none kV11 dc11 pm11 an11 cd11 ct11), sl11⟩) (c11 : PySem.W.codeIn K cd11 "written" = true) (k11 : PySem.W.keepIn K (.ref f11) = true)
    (a12 : PySem.W.nsIn K mainGlobals "is_row" = some (some (.ref f12))) (l12 : K.lookup f12 = some ⟨oc12, od12, .func (PySem.W.fnOf "is_row" "is_row" (C8.fnArgs (top 24)) (C8.fnBody (top 24)) (C8.fnScope (top 24)) .none kV12 dc12 pm12 an12 cd12 ct12), sl12⟩) (c12 : PySem.W.codeIn K cd12 "is_row" = true) (k12 : PySem.W.keepIn K (.ref f12) = true)
    (a13 : PySem.W.nsIn K mainGlobals "read" = some (some (.ref f13))) (l13 : K.lookup f13 = some ⟨oc13, od13, .func (PySem.W.fnOf "read" "read" (C8.fnArgs (top 25)) (C8.fnBody (top 25)) (C8.fnScope (top 25)) .none kV13 dc13 pm13 an13 cd13 ct13), sl13⟩) (c13 : PySem.W.codeIn K cd13 "read" = true) (k13 : PySem.W.keepIn K (.ref f13) = true)
    (a14 : PySem.W.nsIn K mainGlobals "_law_mix" = some (some (.ref f14))) (l14 : K.lookup f14 = some ⟨oc14, od14, .func (PySem.W.fnOf "_law_mix" "_law_mix" (C8.fnArgs (top 27)) (C8.fnBody (top 27)) (C8.fnScope (top 27)) .none kV14 dc14 pm14 an14 cd14 ct14), sl14⟩) (c14 : PySem.W.codeIn K cd14 "_law_mix" = true) (k14 : PySem.W.keepIn K (.ref f14) = true)
    (a15 : PySem.W.nsIn K mainGlobals "_law_next" = some (some (.ref f15))) (l15 : K.lookup f15 = some ⟨oc15, od15, .func (PySem.W.fnOf "_law_next" "_law_next" (C8.fnArgs (top 28)) (C8.fnBody (top 28)) (C8.fnScope (top 28)) .none kV15 dc15 pm15 an15 cd15 ct15), sl15⟩) (c15 : PySem.W.codeIn K cd15 "_law_next" = true) (k15 : PySem.W.keepIn K (.ref f15) = true)
    (a16 : PySem.W.nsIn K mainGlobals "_law_alike" = some (some (.ref f16))) (l16 : K.lookup f16 = some ⟨oc16, od16, .func (PySem.W.fnOf "_law_alike" "_law_alike" (C8.fnArgs (top 29)) (C8.fnBody (top 29)) (C8.fnScope (top 29)) .none kV16 dc16 pm16 an16 cd16 ct16), sl16⟩) (c16 : PySem.W.codeIn K cd16 "_law_alike" = true) (k16 : PySem.W.keepIn K (.ref f16) = true)
    (a17 : PySem.W.nsIn K mainGlobals "_law_inside" = some (some (.ref f17))) (l17 : K.lookup f17 = some ⟨oc17, od17, .func (PySem.W.fnOf "_law_inside" "_law_inside" (C8.fnArgs (top 30)) (C8.fnBody (top 30)) (C8.fnScope (top 30)) .none kV17 dc17 pm17 an17 cd17 ct17), sl17⟩) (c17 : PySem.W.codeIn K cd17 "_law_inside" = true) (k17 : PySem.W.keepIn K (.ref f17) = true)
    (a18 : PySem.W.nsIn K mainGlobals "_law_all" = some (some (.ref f18))) (l18 : K.lookup f18 = some ⟨oc18, od18, .func (PySem.W.fnOf "_law_all" "_law_all" (C8.fnArgs (top 31)) (C8.fnBody (top 31)) (C8.fnScope (top 31)) .none kV18 dc18 pm18 an18 cd18 ct18), sl18⟩) (c18 : PySem.W.codeIn K cd18 "_law_all" = true) (k18 : PySem.W.keepIn K (.ref f18) = true)
    (a19 : PySem.W.nsIn K mainGlobals "_law_body" = some (some (.ref f19))) (l19 : K.lookup f19 = some ⟨oc19, od19, .func (PySem.W.fnOf "_law_body" "_law_body" (C8.fnArgs (top 32)) (C8.fnBody (top 32)) (C8.fnScope (top 32)) .none kV19 dc19 pm19 an19 cd19 ct19), sl19⟩) (c19 : PySem.W.codeIn K cd19 "_law_body" = true) (k19 : PySem.W.keepIn K (.ref f19) = true)
    (a20 : PySem.W.nsIn K mainGlobals "_law_whole" = some (some (.ref f20))) (l20 : K.lookup f20 = some ⟨oc20, od20, .func (PySem.W.fnOf "_law_whole" "_law_whole" (C8.fnArgs (top 33)) (C8.fnBody (top 33)) (C8.fnScope (top 33)) .none kV20 dc20 pm20 an20 cd20 ct20), sl20⟩) (c20 : PySem.W.codeIn K cd20 "_law_whole" = true) (k20 : PySem.W.keepIn K (.ref f20) = true)
    (a21 : PySem.W.nsIn K mainGlobals "_law_numbers" = some (some (.ref f21))) (l21 : K.lookup f21 = some ⟨oc21, od21, .func (PySem.W.fnOf "_law_numbers" "_law_numbers" (C8.fnArgs (top 34)) (C8.fnBody (top 34)) (C8.fnScope (top 34)) .none kV21 dc21 pm21 an21 cd21 ct21), sl21⟩) (c21 : PySem.W.codeIn K cd21 "_law_numbers" = true) (k21 : PySem.W.keepIn K (.ref f21) = true)
    (a22 : PySem.W.nsIn K mainGlobals "_law_counted" = some (some (.ref f22))) (l22 : K.lookup f22 = some ⟨oc22, od22, .func (PySem.W.fnOf "_law_counted" "_law_counted" (C8.fnArgs (top 35)) (C8.fnBody (top 35)) (C8.fnScope (top 35)) .none kV22 dc22 pm22 an22 cd22 ct22), sl22⟩) (c22 : PySem.W.codeIn K cd22 "_law_counted" = true) (k22 : PySem.W.keepIn K (.ref f22) = true)
    (a23 : PySem.W.nsIn K mainGlobals "_law_text" = some (some (.ref f23))) (l23 : K.lookup f23 = some ⟨oc23, od23, .func (PySem.W.fnOf "_law_text" "_law_text" (C8.fnArgs (top 36)) (C8.fnBody (top 36)) (C8.fnScope (top 36)) .none kV23 dc23 pm23 an23 cd23 ct23), sl23⟩) (c23 : PySem.W.codeIn K cd23 "_law_text" = true) (k23 : PySem.W.keepIn K (.ref f23) = true)
    : DefsOk K mg defs prog :=
  ⟨(defF_of (d := d_are_numbers) X G a0 l0 c0 k0 (by decide +kernel) fun _ _ _ _ _ _ us hl => match us, hl with | [_, _, _], _ => rfl), (defF_of (d := d_is_cell) X G a1 l1 c1 k1 (by decide +kernel) fun _ _ _ _ _ _ us hl => match us, hl with | [_], _ => rfl), (defF_of (d := d_are_cells) X G a2 l2 c2 k2 (by decide +kernel) fun _ _ _ _ _ _ us hl => match us, hl with | [_], _ => rfl), (defF_of (d := d_inner_of) X G a3 l3 c3 k3 (by decide +kernel) fun _ _ _ _ _ _ us hl => match us, hl with | [_], _ => rfl), (defF_of (d := d_is_body) X G a4 l4 c4 k4 (by decide +kernel) fun _ _ _ _ _ _ us hl => match us, hl with | [_], _ => rfl), (defF_of (d := d_turned_cell) X G a5 l5 c5 k5 (by decide +kernel) fun _ _ _ _ _ _ us hl => match us, hl with | [_, _], _ => rfl), (defF_of (d := d_within) X G a6 l6 c6 k6 (by decide +kernel) fun _ _ _ _ _ _ us hl => match us, hl with | [_], _ => rfl), (defF_of (d := d_block_cells) X G a7 l7 c7 k7 (by decide +kernel) fun _ _ _ _ _ _ us hl => match us, hl with | [_, _], _ => rfl), (defF_of (d := d_all_cells) X G a8 l8 c8 k8 (by decide +kernel) fun _ _ _ _ _ _ us hl => match us, hl with | [_], _ => rfl), (defF_of (d := d_known_cells) X G a9 l9 c9 k9 (by decide +kernel) fun _ _ _ _ _ _ us hl => match us, hl with | [_], _ => rfl), (defF_of (d := d_cells) X G a10 l10 c10 k10 (by decide +kernel) fun _ _ _ _ _ _ us hl => match us, hl with | [_], _ => rfl), (defF_of (d := d_written) X G a11 l11 c11 k11 (by decide +kernel) fun _ _ _ _ _ _ us hl => match us, hl with | [_], _ => rfl), (defF_of (d := d_is_row) X G a12 l12 c12 k12 (by decide +kernel) fun _ _ _ _ _ _ us hl => match us, hl with | [_], _ => rfl), (defF_of (d := d_read) X G a13 l13 c13 k13 (by decide +kernel) fun _ _ _ _ _ _ us hl => match us, hl with | [_], _ => rfl), (defF_of (d := d_l_mix) X G a14 l14 c14 k14 (by decide +kernel) fun _ _ _ _ _ _ us hl => match us, hl with | [_, _], _ => rfl), (defF_of (d := d_l_next) X G a15 l15 c15 k15 (by decide +kernel) fun _ _ _ _ _ _ us hl => match us, hl with | [_, _], _ => rfl), (defF_of (d := d_l_alike) X G a16 l16 c16 k16 (by decide +kernel) fun _ _ _ _ _ _ us hl => match us, hl with | [_, _], _ => rfl), (defF_of (d := d_l_inside) X G a17 l17 c17 k17 (by decide +kernel) fun _ _ _ _ _ _ us hl => match us, hl with | [_, _], _ => rfl), (defF_of (d := d_l_all) X G a18 l18 c18 k18 (by decide +kernel) fun _ _ _ _ _ _ us hl => match us, hl with | [_], _ => rfl), (defF_of (d := d_l_body) X G a19 l19 c19 k19 (by decide +kernel) fun _ _ _ _ _ _ us hl => match us, hl with | [_, _], _ => rfl), (defF_of (d := d_l_whole) X G a20 l20 c20 k20 (by decide +kernel) fun _ _ _ _ _ _ us hl => match us, hl with | [_, _, _], _ => rfl), (defF_of (d := d_l_numbers) X G a21 l21 c21 k21 (by decide +kernel) fun _ _ _ _ _ _ us hl => match us, hl with | [_, _, _], _ => rfl), (defF_of (d := d_l_counted) X G a22 l22 c22 k22 (by decide +kernel) fun _ _ _ _ _ _ us hl => match us, hl with | [_], _ => rfl), (defF_of (d := d_l_text) X G a23 l23 c23 k23 (by decide +kernel) fun _ _ _ _ _ _ us hl => match us, hl with | [_], _ => rfl), trivial⟩
theorem mkGls {K : PySem.W.Frag} {h : Heap} {mg : Str → Option Value} (X : K.In h) (G : h.Ns mainGlobals mg)
    {gt0 : Tok} (ga0 : PySem.W.nsIn K mainGlobals "SIDE" = some (some (.int 4 gt0)))
    {gt1 : Tok} (ga1 : PySem.W.nsIn K mainGlobals "MOST_BODIES" = some (some (.int 20 gt1)))
    {gf2 : Addr} {gd2 : Option Addr} {gi2 : Array Value} {gn2 : Nat} {gs2 : Array (Option Value)} (ga2 : PySem.W.nsIn K mainGlobals "OF_TWO" = some (some (.ref gf2))) (gl2 : K.lookup gf2 = some ⟨.type "tuple", gd2, .seq gi2 gn2, gs2⟩) (gb2 : strsB gi2.toList ["with", "common", "less"] = true)
    {gf3 : Addr} {gd3 : Option Addr} {gi3 : Array Value} {gn3 : Nat} {gs3 : Array (Option Value)} (ga3 : PySem.W.nsIn K mainGlobals "EDGES" = some (some (.ref gf3))) (gl3 : K.lookup gf3 = some ⟨.type "tuple", gd3, .seq gi3 gn3, gs3⟩) (gb3 : strsB gi3.toList ["x", "y", "z"] = true)
    {gf4 : Addr} {gd4 : Option Addr} {gi4 : Array Value} {gn4 : Nat} {gs4 : Array (Option Value)} (ga4 : PySem.W.nsIn K mainGlobals "SIGNS" = some (some (.ref gf4))) (gl4 : K.lookup gf4 = some ⟨.type "tuple", gd4, .seq gi4 gn4, gs4⟩) (gb4 : strsB gi4.toList ["#", "."] = true)
    : GlsOk K mg gls cfg.glb :=
  ⟨glF_int X G ga0, glF_int X G ga1, glF_strs (ss := ["with", "common", "less"]) X G ga2 gl2 rfl rfl gb2 (by decide), glF_strs (ss := ["x", "y", "z"]) X G ga3 gl3 rfl rfl gb3 (by decide), glF_strs (ss := ["#", "."]) X G ga4 gl4 rfl rfl gb4 (by decide), trivial⟩
end K13

-- RK13
open PySem PySem.W PyProof.Rows in
set_option maxRecDepth 100000 in
set_option maxHeartbeats 0 in
theorem PySem.Challenge.cw_layerprint_k13_whole_written_and_read_holds : PySem.Challenge.rw_layerprint_k13_whole_written_and_read.Holds := by
  w_on; o_law; k_head; (case hw => w_witness2)
  k_fill
  refine LamX.walk_ofTs (n := 63) (k := 196) (x := "_law_script") (CX := fun w => L2.CX (PySem.Challenge.rw_layerprint_k13_whole_written_and_read).prog w) rfl (by decide) rfl ⟨rfl, by decide, by decide⟩ (fun w h Y => PySem.W.kIn_of Y) ?F fun _ _ _ _ _ h => DL.CX_no h
  case F =>
    intro w mg fa h Y KX G hmg
    refine' DL.law_at0 (l := PySem.Challenge.rw_layerprint_k13_whole_written_and_read) (Dl := K13.d_law) (Fl := K13.fn_law) KX G (K13.mkDefs KX G ?a0 ?l0 ?c0 ?k0 ?a1 ?l1 ?c1 ?k1 ?a2 ?l2 ?c2 ?k2 ?a3 ?l3 ?c3 ?k3 ?a4 ?l4 ?c4 ?k4 ?a5 ?l5 ?c5 ?k5 ?a6 ?l6 ?c6 ?k6 ?a7 ?l7 ?c7 ?k7 ?a8 ?l8 ?c8 ?k8 ?a9 ?l9 ?c9 ?k9 ?a10 ?l10 ?c10 ?k10 ?a11 ?l11 ?c11 ?k11 ?a12 ?l12 ?c12 ?k12 ?a13 ?l13 ?c13 ?k13 ?a14 ?l14 ?c14 ?k14 ?a15 ?l15 ?c15 ?k15 ?a16 ?l16 ?c16 ?k16 ?a17 ?l17 ?c17 ?k17 ?a18 ?l18 ?c18 ?k18 ?a19 ?l19 ?c19 ?k19 ?a20 ?l20 ?c20 ?k20 ?a21 ?l21 ?c21 ?k21 ?a22 ?l22 ?c22 ?k22 ?a23 ?l23 ?c23 ?k23) (K13.mkGls KX G ?ga0 ?ga1 ?ga2 ?gl2 ?gb2 ?ga3 ?gl3 ?gb3 ?ga4 ?gl4 ?gb4) ?tb 2 (by decide) rfl ?gl hmg K13.chk K13.chkL rfl rfl ?lk ?hcd (fun s u => .of_eq rfl) K13.plain
    (case a0 => k_is)
    (case l0 => k_is)
    (case c0 => k_is)
    (case k0 => k_is)
    (case a1 => k_is)
    (case l1 => k_is)
    (case c1 => k_is)
    (case k1 => k_is)
    (case a2 => k_is)
    (case l2 => k_is)
    (case c2 => k_is)
    (case k2 => k_is)
    (case a3 => k_is)
    (case l3 => k_is)
    (case c3 => k_is)
    (case k3 => k_is)
    (case a4 => k_is)
    (case l4 => k_is)
    (case c4 => k_is)
    (case k4 => k_is)
    (case a5 => k_is)
    (case l5 => k_is)
    (case c5 => k_is)
    (case k5 => k_is)
    (case a6 => k_is)
    (case l6 => k_is)
    (case c6 => k_is)
    (case k6 => k_is)
    (case a7 => k_is)
    (case l7 => k_is)
    (case c7 => k_is)
    (case k7 => k_is)
    (case a8 => k_is)
    (case l8 => k_is)
    (case c8 => k_is)
    (case k8 => k_is)
    (case a9 => k_is)
    (case l9 => k_is)
    (case c9 => k_is)
    (case k9 => k_is)
    (case a10 => k_is)
    (case l10 => k_is)
    (case c10 => k_is)
    (case k10 => k_is)
    (case a11 => k_is)
    (case l11 => k_is)
    (case c11 => k_is)
    (case k11 => k_is)
    (case a12 => k_is)
    (case l12 => k_is)
    (case c12 => k_is)
    (case k12 => k_is)
    (case a13 => k_is)
    (case l13 => k_is)
    (case c13 => k_is)
    (case k13 => k_is)
    (case a14 => k_is)
    (case l14 => k_is)
    (case c14 => k_is)
    (case k14 => k_is)
    (case a15 => k_is)
    (case l15 => k_is)
    (case c15 => k_is)
    (case k15 => k_is)
    (case a16 => k_is)
    (case l16 => k_is)
    (case c16 => k_is)
    (case k16 => k_is)
    (case a17 => k_is)
    (case l17 => k_is)
    (case c17 => k_is)
    (case k17 => k_is)
    (case a18 => k_is)
    (case l18 => k_is)
    (case c18 => k_is)
    (case k18 => k_is)
    (case a19 => k_is)
    (case l19 => k_is)
    (case c19 => k_is)
    (case k19 => k_is)
    (case a20 => k_is)
    (case l20 => k_is)
    (case c20 => k_is)
    (case k20 => k_is)
    (case a21 => k_is)
    (case l21 => k_is)
    (case c21 => k_is)
    (case k21 => k_is)
    (case a22 => k_is)
    (case l22 => k_is)
    (case c22 => k_is)
    (case k22 => k_is)
    (case a23 => k_is)
    (case l23 => k_is)
    (case c23 => k_is)
    (case k23 => k_is)
    (case ga0 => k_is)
    (case ga1 => k_is)
    (case ga2 => k_is)
    (case gl2 => k_is)
    (case gb2 => kernel_rfl)
    (case ga3 => k_is)
    (case gl3 => k_is)
    (case gb3 => kernel_rfl)
    (case ga4 => k_is)
    (case gl4 => k_is)
    (case gb4 => kernel_rfl)
    (case gl => k_is)
    (case lk => k_is)
    (case hcd => k_is)
    (case tb => kernel_rfl)
